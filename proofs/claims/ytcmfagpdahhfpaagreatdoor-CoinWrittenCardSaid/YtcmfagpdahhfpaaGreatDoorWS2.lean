/- Walks and what they compute, joined: part 2. -/
import Derived.ControlIn
import Derived.CallsIn
import Derived.OrdersIn
import Derived.RangeFuncRecord
import Derived.Maps.AppendAt
import Derived.OwnWalk
import Derived.Below
import Derived.Laws.StructEq
import Derived.Laws.Cells
import Derived.Laws.CopyRow
import Derived.Laws.Slices
import Derived.Laws.MakeOwn
import Derived.RangeFuncLeaves
import Derived.Maps.Keyed
import Derived.Laws.Strings
import Derived.Laws.BytesString
import Derived.RecoverIn
import Derived.WalkSmall
import Derived.Laws.IdiomRangeMap
import Derived.Scope
import Derived.ChangeSlices
import Derived.WideShapes
import Derived.DataReads
import Derived.Test.YtcmfagpdahhfpaaGreatDoorWS1
set_option linter.all false
set_option maxHeartbeats 40000000
namespace Go.Sym
open Go
variable {A : Frm -> Prop} {P : Program}
section part
variable {ops : Array Oper} {o : Oper} {S : St}
def Qib (hS:Wf S) (hw:Want ops o S) {t t' e:TypeId} {x y:Operand} (ho:o.op=.call { callee:=.builtin .copy,args:=#[x,y],argTypes:=#[t,t'] }) {i j:TI} (ht:TyFact P t i) (htd:i.td=.slice e) (hj:TyFact P e j) (hk:0 < j.cells) {id lo n:Nat} {e':TypeId} {xs ys:List (List DV)} {hr:List Nat}
  (hx:(ev S x=.row id/\lo=0/\n=xs.length)\/ev S x=.rsl id j.cells lo n) (hc:S.h id=some (.row e' j.cells xs)) (hfit:lo+n<=xs.length) (hn:0 < n) (hyl:∀ r ∈ ys,r.length=j.cells) (hyn:0 < ys.length)
  (hsrc:∀ F S2 a w ρ own,Holds F S2 a w ρ own->(∀ id ∈ hr,S2.h id=S.h id)->∀ v,ARel w (okB w own ρ S2.h) ρ F.y (ev S y) v->∃ flat,Src w (okB w own ρ S2.h) j.cells ys v flat) :
  VE A P ops o { av:=.v (.int .i64 (min ys.length n:Nat)),hw:=[(id,some (.row e' j.cells (xs.take lo++ys.take (min ys.length n)++xs.drop (lo+min ys.length n))))],hr:=id :: hr,n:=S.n } S:=by
 obtain ⟨d,hd,hok⟩:=ht.under;rw [htd] at hok
 simp only [TD.ok] at hok;subst hok
 refine VE.setVal rfl hS hw (by simp [ho]) hc (by simp) (by simp [AObj.ids]) fun F S2 a w ρ own hag H hob=>?_
 have hxr:=qm H x;rw [hag.ev (x:=x) (by simp [ho,Op.operands,Call.operands])] at hxr
 have hyr:=qm H y;rw [hag.ev (x:=y) (by simp [ho,Op.operands,Call.operands])] at hyr
 obtain ⟨flat,⟨ay,cy,hyv,hsl,hsm,hcell⟩,hfl,hone,hrel⟩:=hsrc F S2 a w ρ own H (fun id hid=>hag.2.1 id (by simp [hid])) _ hyr
 obtain ⟨ad,rfl,hcells⟩:=hcell hyn;have h5:=H.obj id _ hob
 have hxv:∃ dc,(∃ n0 c,ρ id=.slice (some ⟨(blk (ρ id)).getD 0,0,none⟩) n0 c)/\a.eval x=.slice (some ⟨(blk (ρ id)).getD 0,lo * j.cells,none⟩) n dc:=by
  generalize a.eval x=v at hxr
  rcases hx with ⟨hx,rfl,rfl⟩|hx
  ·rw [hx] at hxr
   cases hxr with
   |row e1 e2 =>
    rw [e1] at h5 ⊢;cases h5 with
    |row r1 r2 r3 r4 =>
     obtain ⟨_,g,cap,cur,rfl,hg,hnc,hcm,_,_,hb⟩:=wO r3 (by omega)
     rw [hb];exact ⟨cap,⟨_,_,rfl⟩,by simp⟩
  ·rw [hx] at hxr
   cases hxr with
   |@rsl _ _ _ _ b c n0 e1 hlc =>
    rw [e1];have:blk (.slice (some ⟨b,0,none⟩) n0 c)=some b:=by simp only [blk];rw [if_neg (by omega)]
    rw [this];exact ⟨c - lo,⟨_,_,rfl⟩,rfl⟩
 obtain ⟨dc,⟨n0,c,hρ⟩,hxv⟩:=hxv;generalize hbb:(blk (ρ id)).getD 0=b at hρ hxv
 cases h5':ρ id with
 |slice aa nn0 cc =>
  rw [h5'] at hρ;simp only [Value.slice.injEq] at hρ
  obtain ⟨rfl,rfl,rfl⟩:=hρ;rw [h5'] at h5
  cases h5 with
  |row r1 r2 r3 r4 =>
   obtain ⟨hown,g,cap,cur,hge,hg,hnc,hcm,hcs,htk,hblk⟩:=wO r3 (by omega)
   simp only [Value.slice.injEq,ak,Addr.mk.injEq,and_true] at hge;obtain ⟨rfl,rfl,rfl⟩:=hge
   generalize hm:min ys.length n=m;have hmn:m<=n:=by omega
   have hmy:m<=ys.length:=by omega
   have hkm:m * j.cells<=ys.length * j.cells:=aG _ hmy;have hkn:lo * j.cells+m * j.cells<=xs.length * j.cells:=by rw [<- aE];exact aG _ (by omega)
   have hkc:xs.length * j.cells<=cc * j.cells:=aG _ hnc;have hcl:(flat.take (m * j.cells)).length=m * j.cells:=by rw [bi,hfl];omega
   have hfit':lo * j.cells+(flat.take (m * j.cells)).length<=cur.toList.length:=by rw [hcl,ba,hcs];omega
   have hsc:∀ q v,(flat.take (m * j.cells))[q]?=some v->w.cell? (ad.add q)=some v:=fun q v hq=>by
    rw [aP] at hq;split at hq
    ·exact hcells q v hq
    ·cases hq
   have hrun:=Vr (P:=P) (t':=t') (ty:=o.type) (fun w=>hj.run_sizeOf w) hd (q:=lo * j.cells) (dLen:=n) (dCap:=dc) hg (a:=ad) (sLen:=ys.length) (sCap:=cy) (cs:=flat.take (m * j.cells)) (by rw [hcl];congr 1;exact hm.symm)
    hsc (by simpa using hfit') fun v hv=>hone v (aY hv)
   refine ⟨w.setRow b (cur.toList.take (lo * j.cells)++flat.take (m * j.cells)++cur.toList.drop (lo * j.cells+(flat.take (m * j.cells)).length)).toArray, ?_,Ext.setRow w b _ hblk, ?_⟩
   ·unfold execOp
    simp only [ho,resolve,invoke,builtin,aH,aL,aJ,cg,aw,aX,hxv,hyv,hrun];rw [show Nat.min ys.length n=m from hm];rfl
   ·try rw [h5']
    have hyt:(ys.take m).length=m:=by simp;omega
    have hfx:lo+(ys.take m).length<=xs.length:=by omega
    have e1:xs.take lo++ys.take m++xs.drop (lo+m)=xs.take lo++ys.take m++xs.drop (lo+(ys.take m).length):=by rw [hyt]
    rw [e1];have hlen':=qK (new:=ys.take m) hfx
    have hcl2:cur.toList.length=cc * j.cells:=by rw [ba (xs:=cur),hcs]
    have hmono:∀ {d u},DRel w (okB w own ρ S2.h) d u->DRel (w.setRow b (cur.toList.take (lo * j.cells)++flat.take (m * j.cells)++cur.toList.drop (lo * j.cells+(flat.take (m * j.cells)).length)).toArray) (okB w own ρ S2.h) d u:=fun hr =>
     hr.mono fun q hq=>⟨hq,setRow_other w b q _ (fun eq=>hq.2.2 id _ hob (by rw [h5',hblk,eq]))⟩
    refine .row (flat:=(cur.toList.take (lo * j.cells)++flat.take (m * j.cells)++cur.toList.drop (lo * j.cells+(flat.take (m * j.cells)).length)).take (xs.length * j.cells)) hk (fun r hr=>?_) (.inl ⟨?_,.inr ⟨b,cc,_,by rw [hlen'],af _,setRow_heap w b cur _ _ _ hg,by rw [hlen'];exact hnc,hcm, ?_, ?_⟩⟩) fun q r p dd hq hp=>?_
    ·simp only [au] at hr
     rcases hr with (hr|hr)|hr
     ·exact r2 r (aY hr)
     ·exact hyl r (aY hr)
     ·exact r2 r (aW hr)
    ·rw [hlen',bi,qK hfit',hcl2];omega
    ·rw [cd,qK hfit',hcl2]
    ·rw [hlen']
    ·have hpk:p < j.cells:=by
      have:=(aq.1 hp).1;rw [zI hfx] at hq
      split at hq
      ·rw [r2 r (ao hq)] at this;exact this
      ·split at hq
       ·rw [hyl r (aY (ao hq))] at this;exact this
       ·rw [r2 r (ao hq)] at this;exact this
     have hql:q < xs.length:=by have:=(aq.1 hq).1;rwa [hlen'] at this
     have hqk:(q+1) * j.cells<=xs.length * j.cells:=aG _ hql;rw [aE] at hqk
     have old:xs[q]?=some r->∃ u,cur.toList[q * j.cells+p]?=some u/\DRel w (okB w own ρ S2.h) dd u:=fun hq=>by
      obtain ⟨u,hu,hdu⟩:=r4 q r p dd hq hp;rw [<- htk,aP,if_pos (by omega)] at hu
      exact ⟨u,hu,hdu⟩
     rw [zI hfx,hyt] at hq;rw [aP,if_pos (by omega),zI hfit']
     by_cases h1:q < lo
     ·rw [if_pos h1] at hq
      have:(q+1) * j.cells<=lo * j.cells:=aG _ h1;rw [aE] at this
      rw [if_pos (by omega)]
      obtain ⟨u,hu,hdu⟩:=old hq;exact ⟨u,hu,hmono hdu⟩
     ·rw [if_neg h1] at hq
      have g1:lo * j.cells<=q * j.cells:=aG _ (by omega)
      rw [if_neg (by omega)]
      by_cases h2:q < lo+m
      ·rw [if_pos h2] at hq
       have:(q+1) * j.cells<=(lo+m) * j.cells:=aG _ h2;rw [aE,aE] at this
       rw [if_pos (by omega)]
       rw [aP] at hq;split at hq
       ·obtain ⟨u,hu,hdu⟩:=hrel _ _ _ _ hq hp
        have e2:q * j.cells+p - lo * j.cells=(q - lo) * j.cells+p:=by
         have:q * j.cells=(q - lo) * j.cells+lo * j.cells:=by rw [<- aE];congr 1;omega
         omega
        have e3:(q - lo+1) * j.cells<=m * j.cells:=aG _ (by omega)
        rw [aE] at e3;exact ⟨u,by rw [e2,aP,if_pos (by omega)];exact hu,hmono hdu⟩
       ·cases hq
      ·rw [if_neg h2] at hq
       have:(lo+m) * j.cells<=q * j.cells:=aG _ (by omega)
       rw [aE] at this;rw [if_neg (by omega)]
       obtain ⟨u,hu,hdu⟩:=old hq;exact ⟨u,hu,hmono hdu⟩
 |_=>rw [h5'] at hρ;cases hρ
end part
mutual
def AV.ren (τ:Nat->Nat):AV->AV
 |.v x=>.v x
 |.nil=>.nil
 |.emp=>.emp
 |.sl xs=>.sl xs
 |.agg cs=>.agg (AV.renL τ cs)
 |.tup cs=>.tup (AV.renL τ cs)
 |.ep cs o=>.ep cs o
 |.ptr i o=>.ptr (τ i) o
 |.row i=>.row (τ i)
 |.rp i k m o=>.rp (τ i) k m o
 |.csl i n=>.csl (τ i) n
 |.psl i o n c=>.psl (τ i) o n c
 |.rsl i k l n=>.rsl (τ i) k l n
 |.mp i=>.mp (τ i)
 |.clo f cs=>.clo f (AV.renL τ cs)
 |.cb=>.cb
 |.junk=>.junk
 |.any=>.any
 |.bnd f cs=>.bnd f (AV.renL τ cs)
def AV.renL (τ:Nat->Nat):List AV->List AV
 |[]=>[]
 |c :: cs=>c.ren τ :: AV.renL τ cs
end
def AV.renL_map (τ:Nat->Nat):∀ cs,AV.renL τ cs=cs.map (AV.ren τ)
 |[]=>rfl
 |c :: cs=>by simp [AV.renL,AV.renL_map τ cs]
def AObj.ren (τ:Nat->Nat):AObj->AObj
 |.cells cs=>.cells (AV.renL τ cs)
 |.row e k xs=>.row e k xs
 |.map es=>.map es
 |.mark=>.mark
 |.rows e cs=>.rows e (AV.renL τ cs)
 |.it m c s=>.it (τ m) c s
 |.fm es=>.fm (es.map fun p=>(p.1,p.2.ren τ))
mutual
def AV.flat:AV->Prop
 |.v _=>True
 |.nil=>True
 |.emp=>True
 |.sl xs=>xs=[]
 |.agg cs=>AV.flatL cs
 |.tup cs=>AV.flatL cs
 |.ep _ _=>False
 |.ptr _ _=>True
 |.row _=>True
 |.rp _ _ _ _=>True
 |.csl _ _=>True
 |.psl _ _ _ _=>True
 |.rsl _ _ _ _=>True
 |.mp _=>True
 |.clo _ cs=>AV.flatL cs
 |.cb=>True
 |.junk=>True
 |.any=>True
 |.bnd _ cs=>AV.flatL cs
def AV.flatL:List AV->Prop
 |[]=>True
 |c :: cs=>c.flat/\AV.flatL cs
end
def AV.flatL_mem:∀ {cs:List AV},AV.flatL cs->∀ c ∈ cs,c.flat
 |[],_,c,hc=>by simp at hc
 |d :: cs,h,c,hc=>by
  simp only [AV.flatL] at h
  rcases ae.1 hc with rfl|hc
  ·exact h.1
  ·exact AV.flatL_mem h.2 c hc
def AObj.flat:AObj->Prop
 |.cells cs=>AV.flatL cs
 |.row _ _ xs=>∀ r ∈ xs,∀ d ∈ r,∃ x,d=.v x
 |.map _=>True
 |.mark=>True
 |.rows _ cs=>AV.flatL cs
 |.it _ _ _=>True
 |.fm es=>AV.flatL (es.map (·.2))
def ARel.flat {w w':World} {ok ok':Nat->Prop} {ρ:Nat->Value} {y:Value} {c:AV} {x:Value} (hr:ARel w ok ρ y c x):c.flat->ARel w' ok' ρ y c x:=by
 induction hr with
 |v hx=>exact fun _=>.v hx
 |nil=>exact fun _=>.nil
 |emp=>exact fun _=>.emp
 |sl hd =>
  intro h;simp only [AV.flat] at h
  subst h;cases hd with
  |sl0 hc=>exact .sl (.sl0 hc)
  |sl f h1 h2=>simp at h1;omega
 |agg hs _ ih=>exact fun h=>.agg hs fun i c hc=>ih i c hc (AV.flatL_mem h c (ao hc))
 |tup hs _ ih=>exact fun h=>.tup hs fun i c hc=>ih i c hc (AV.flatL_mem h c (ao hc))
 |ep f h1 h2 h3 h4=>exact fun h=>h.elim
 |ptr e=>exact fun _=>.ptr e
 |row e e'=>exact fun _=>.row e e'
 |rp e=>exact fun _=>.rp e
 |csl e h1=>exact fun _=>.csl e h1
 |psl e h1 h2=>exact fun _=>.psl e h1 h2
 |rsl e h1=>exact fun _=>.rsl e h1
 |mp e e'=>exact fun _=>.mp e e'
 |clo hs _ ih=>exact fun h=>.clo hs fun i c hc=>ih i c hc (AV.flatL_mem h c (ao hc))
 |cb e e'=>exact fun _=>.cb e e'
 |junk=>exact fun _=>.junk
 |any e=>exact fun _=>.any e
 |bnd hs _ ih=>exact fun h=>.bnd hs fun i c hc=>ih i c hc (AV.flatL_mem h c (ao hc))
def ARel.ren {w:World} {ok:Nat->Prop} {ρ ρ':Nat->Value} {y:Value} {τ:Nat->Nat} {c:AV} {x:Value} (hr:ARel w ok ρ y c x):(∀ id ∈ c.ids,ρ' (τ id)=ρ id)->ARel w ok ρ' y (c.ren τ) x:=by
 have sub:∀ {cs:List AV} {i:Nat} {d:AV},(AV.renL τ cs)[i]?=some d->∃ c,cs[i]?=some c/\d=c.ren τ:=by
  intro cs i d h;rw [AV.renL_map,aC] at h
  obtain ⟨c,hc,rfl⟩:=aA.1 h;exact ⟨c,hc,rfl⟩
 have len:∀ cs:List AV,(AV.renL τ cs).length=cs.length:=fun cs=>by rw [AV.renL_map,ab]
 induction hr with
 |v hx=>exact fun _=>.v hx
 |nil=>exact fun _=>.nil
 |emp=>exact fun _=>.emp
 |sl hd=>exact fun _=>.sl hd
 |agg hs _ ih =>
  refine fun hi=>.agg (by rw [hs,len]) fun i d hd=>?_
  obtain ⟨c,hc,rfl⟩:=sub hd;exact ih i c hc fun id hid=>hi id (by simp only [AV.ids];exact AV.mem_idsL.2 ⟨c,ao hc,hid⟩)
 |tup hs _ ih =>
  refine fun hi=>.tup (by rw [hs,len]) fun i d hd=>?_
  obtain ⟨c,hc,rfl⟩:=sub hd;exact ih i c hc fun id hid=>hi id (by simp only [AV.ids];exact AV.mem_idsL.2 ⟨c,ao hc,hid⟩)
 |ep f h1 h2 h3 h4=>exact fun _=>.ep f h1 h2 h3 h4
 |ptr e=>exact fun hi=>.ptr (by rw [hi _ (by simp [AV.ids])];exact e)
 |row e e'=>exact fun hi=>.row (by rw [hi _ (by simp [AV.ids])];exact e) e'
 |rp e=>exact fun hi=>.rp (by rw [hi _ (by simp [AV.ids])];exact e)
 |csl e h1=>exact fun hi=>.csl (by rw [hi _ (by simp [AV.ids])];exact e) h1
 |psl e h1 h2=>exact fun hi=>.psl (by rw [hi _ (by simp [AV.ids])];exact e) h1 h2
 |rsl e h1=>exact fun hi=>.rsl (by rw [hi _ (by simp [AV.ids])];exact e) h1
 |mp e e'=>exact fun hi=>.mp (by rw [hi _ (by simp [AV.ids])];exact e) e'
 |clo hs _ ih =>
  refine fun hi=>.clo (by rw [hs,len]) fun i d hd=>?_
  obtain ⟨c,hc,rfl⟩:=sub hd;exact ih i c hc fun id hid=>hi id (by simp only [AV.ids];exact AV.mem_idsL.2 ⟨c,ao hc,hid⟩)
 |cb e e'=>exact fun _=>.cb e e'
 |junk=>exact fun _=>.junk
 |any e=>exact fun _=>.any e
 |bnd hs _ ih =>
  refine fun hi=>.bnd (by rw [hs,len]) fun i d hd=>?_
  obtain ⟨c,hc,rfl⟩:=sub hd;exact ih i c hc fun id hid=>hi id (by simp only [AV.ids];exact AV.mem_idsL.2 ⟨c,ao hc,hid⟩)
mutual
def AV.ren_ids (τ:Nat->Nat):∀ c:AV,(c.ren τ).ids=c.ids.map τ
 |.v _=>rfl
 |.nil=>rfl
 |.emp=>rfl
 |.sl _=>rfl
 |.agg cs=>by simp only [AV.ren,AV.ids];exact AV.renL_ids τ cs
 |.tup cs=>by simp only [AV.ren,AV.ids];exact AV.renL_ids τ cs
 |.ep _ _=>rfl
 |.ptr _ _=>rfl
 |.row _=>rfl
 |.rp _ _ _ _=>rfl
 |.csl _ _=>rfl
 |.psl _ _ _ _=>rfl
 |.rsl _ _ _ _=>rfl
 |.mp _=>rfl
 |.clo _ cs=>by simp only [AV.ren,AV.ids];exact AV.renL_ids τ cs
 |.cb=>rfl
 |.junk=>rfl
 |.any=>rfl
 |.bnd _ cs=>by simp only [AV.ren,AV.ids];exact AV.renL_ids τ cs
def AV.renL_ids (τ:Nat->Nat):∀ cs:List AV,AV.idsL (AV.renL τ cs)=(AV.idsL cs).map τ
 |[]=>rfl
 |c :: cs=>by simp only [AV.renL,AV.idsL,ai,AV.ren_ids τ c,AV.renL_ids τ cs]
end
def AObj.ren_ids (τ:Nat->Nat) (o:AObj):(o.ren τ).ids=o.ids.map τ:=by
 cases o <;> simp [AObj.ren,AObj.ids,AV.renL_ids]
 rename_i es;rw [<- AV.renL_ids,AV.renL_map,bO]
 rfl
def AObj.ren_rel {w:World} {ok ok':Nat->Prop} {ρ ρ':Nat->Value} {y:Value} {τ:Nat->Nat} {o:AObj} {x:Value} (hr:ORel w ok ρ y o x) (hok:o.flat\/∀ b,ok b->ok' b) (hi:∀ id ∈ o.ids,ρ' (τ id)=ρ id):ORel w ok' ρ' y (o.ren τ) x:=by
 cases hr with
 |@cells cs b t vs h1 h2 h3 =>
  refine .cells h1 (by rw [h2,AV.renL_map,ab]) fun i d hd=>?_
  rw [AV.renL_map,aC] at hd;obtain ⟨c,hc,rfl⟩:=aA.1 hd
  have hm:=ao hc;have h4:ARel w ok' ρ y c (vs.getD i undef):=by
   rcases hok with hf|hok
   ·exact (h3 i c hc).1.flat (AV.flatL_mem hf c hm)
   ·exact (h3 i c hc).1.mono (fun b hb=>⟨hok b hb,rfl⟩) fun _ _=>rfl
  exact ⟨h4.ren fun id hid=>hi id (by simp only [AObj.ids];exact AV.mem_idsL.2 ⟨c,hm,hid⟩),(h3 i c hc).2⟩
 |row h1 h2 h3 h4 =>
  refine .row h1 h2 h3 fun i r j d hir hj=>?_
  obtain ⟨u,hu,hd⟩:=h4 i r j d hir hj;refine ⟨u,hu, ?_⟩
  rcases hok with hf|hok
  ·obtain ⟨x,rfl⟩:=hf r (ao hir) d (ao hj)
   cases hd with|v h=>exact .v h
  ·exact hd.mono fun b hb=>⟨hok b hb,rfl⟩
 |map h1 h2 h3 h4 h5=>exact .map h1 h2 h3 h4 h5
 |mark h1=>exact .mark h1
 |it h1 h2 h3=>exact .it h1 h2 ((hi _ (by simp [AObj.ids])).trans h3)
 |@fm es _ _ _ h1 h2 h3 h4 h5 =>
  refine .fm h1 (by simpa using h2) (fun i e q he hq=>?_) h4 h5
  rw [aC] at hq;obtain ⟨p,hp,rfl⟩:=aA.1 hq
  obtain ⟨g1,g2,g3⟩:=h3 i e p he hp;have hm:p.2 ∈ es.map (·.2):=aj.2 ⟨p,ao hp,rfl⟩
  have h5:ARel w ok' ρ y p.2 e.val:=by
   rcases hok with hf|hok
   ·exact g3.flat (AV.flatL_mem hf p.2 hm)
   ·exact g3.mono (fun b hb=>⟨hok b hb,rfl⟩) fun _ _=>rfl
  exact ⟨g1,g2,h5.ren fun id hid=>hi id (by simp only [AObj.ids];exact AV.mem_idsL.2 ⟨p.2,hm,hid⟩)⟩
 |rows h3 h4 =>
  refine .rows (by rw [AV.renL_map,ab];exact h3) fun i d hd=>?_
  rw [AV.renL_map,aC] at hd;obtain ⟨c,hc,rfl⟩:=aA.1 hd
  have hm:=ao hc;obtain ⟨u,hu,hr,h1⟩:=h4 i c hc
  have h5:ARel w ok' ρ y c u:=by
   rcases hok with hf|hok
   ·exact hr.flat (AV.flatL_mem hf c hm)
   ·exact hr.mono (fun b hb=>⟨hok b hb,rfl⟩) fun _ _=>rfl
  exact ⟨u,hu,h5.ren fun id hid=>hi id (by simp only [AObj.ids];exact AV.mem_idsL.2 ⟨c,hm,hid⟩),h1⟩
def AObj.le_rel {w:World} {ok ok':Nat->Prop} {ρ ρ':Nat->Value} {y:Value} {h:Nat->Option AObj} {Z:Nat->Option Nat} (hobj:∀ i o,h i=some o->ORel w ok ρ y o (ρ i))
  (hok:∀ b,ok b->ok' b) (hrow:∀ i o b,h i=some o->blk (ρ i)=some b->ok' b) (hσ:∀ j i,Z j=some i->ρ' j=ρ i) (hσ0:∀ j,Z j=none->ρ' j=.slice none 0 0) {o o':AObj} {x:Value} (hr:ORel w ok ρ y o x)
  (hle:AObj.le h Z o o'):ORel w ok' ρ' y o' x:=by
 have hAV:∀ {c:AV} {x:Value},ARel w ok ρ y c x->∀ d,AV.le h Z c d->ARel w ok' ρ' y d x:=fun hr d hd=>AV.le_rel hobj hok hrow hσ hσ0 hr d hd
 cases hr with
 |@cells cs b t vs h1 h2 h3 =>
  cases o' <;> simp only [AObj.le] at hle <;> first|exact hle.elim|skip
  refine .cells h1 (h2.trans (AV.leL_length hle)) fun i d hd=>?_
  obtain ⟨c,hc,hcd⟩:=AV.leL_get hle i d hd;exact ⟨hAV (h3 i c hc).1 d hcd,(h3 i c hc).2⟩
 |row h1 h2 h3 h4 =>
  cases o' <;> simp only [AObj.le] at hle <;> first|exact hle.elim|skip
  obtain ⟨rfl,rfl,rfl⟩:=hle;exact .row h1 h2 h3 fun i r j d hi hj=>let ⟨u,hu,hd⟩:=h4 i r j d hi hj;⟨u,hu,hd.mono fun b hb=>⟨hok b hb,rfl⟩⟩
 |map h1 h2 h3 h4 h5 =>
  cases o' <;> simp only [AObj.le] at hle <;> first|exact hle.elim|skip
  subst hle;exact .map h1 h2 h3 h4 h5
 |mark h1 =>
  cases o' <;> simp only [AObj.le] at hle <;> first|exact hle.elim|skip
  exact .mark h1
 |it h1 h2 h3 =>
  cases o' <;> simp only [AObj.le] at hle <;> first|exact hle.elim|skip
  obtain ⟨e1,rfl,rfl⟩:=hle;exact .it h1 h2 ((hσ _ _ e1).trans h3)
 |fm h1 h2 h3 h4 h5 =>
  cases o' <;> simp only [AObj.le] at hle <;> first|exact hle.elim|skip
  exact Qci hAV h1 h2 h3 h4 h5 hle
 |rows h3 h4 =>
  cases o' <;> simp only [AObj.le] at hle <;> first|exact hle.elim|skip
  ·obtain ⟨rfl,rfl,hle⟩:=hle
   exact WO hAV h3 h4 hle
  ·obtain ⟨rfl,hle⟩:=hle
   refine .rows (by rw [<- AV.leL_length hle];exact h3) fun i d hd=>?_
   obtain ⟨c,hc,hcd⟩:=AV.leL_get hle i d hd;obtain ⟨u,hu,hr,h1⟩:=h4 i c hc
   exact ⟨u,hu,hAV hr d hcd,h1⟩
abbrev JJ:=Nat->Own->World->Prop
def JJ.Stable (J:JJ):Prop:=∀ j own w,J j own w->(∀ b,own.all b->b < w.heap.size)/\∀ w',Ext (fun b=>¬ own.all b) w w'->J j own w'
structure Hp (J:JJ) (y:Value) (h:Nat->Option AObj) (j:Nat) (own:Own) (w:World) (ρ:Nat->Value):Prop where
 jay:J j own w
 obj:∀ i o,h i=some o->ORel w (okB w own ρ h) ρ y o (ρ i)
 inj:∀ i k o o' b,h i=some o->h k=some o'->blk (ρ i)=some b->blk (ρ k)=some b->i=k
 off:∀ i o b,h i=some o->blk (ρ i)=some b->¬ own.all b
def Holds.hp {F:Frm} {S:St} {a:Act} {w:World} {ρ:Nat->Value} {own:Own} (H:Holds F S a w ρ own):Hp F.J F.y S.h S.j own w ρ:=⟨H.jay,H.obj,H.inj,fun i o b hi hb=>(H.blkOK i o b hi hb).1⟩
structure Ctx where
 y:Value
 J:JJ
 own:Own
 w:World
 ρ:Nat->Value
structure FnG (E:Value->Ending) (B:Ctx->Prop) (P:Program) (f:FuncId) (az:List AV) (h0:Nat->Option AObj) (v:AV) (h1:Nat->Option AObj) (dj:Nat):Prop where
 enter:∀ vs w,(callFunc f vs).run P w=.ok (.enter f vs) w
 calls:∀ (y:Value) (J:JJ),J.Stable->∀ (own:Own) (w:World) (ρ:Nat->Value) (vs:Array Value),B ⟨y,J,own,w,ρ⟩->Hp J y h0 0 own w ρ->vs.size=az.length ->
  (∀ i c,az[i]?=some c->ARel w (okB w own ρ h0) ρ y c (vs.getD i undef)) ->
  Calls P f vs w fun e w'=>∃ v' own' ρ',e=E v'/\Hp J y h1 dj own' w' ρ'/\ARel w' (okB w' own' ρ' h1) ρ' y v v'/\Ext (fun b=>own.prv b\/∃ i o,h0 i=some o/\blk (ρ i)=some b) w w' /\
   (∀ b,own'.prv b->own.prv b\/w.heap.size<=b)/\(dj=0->own'=own)/\(∀ i o,h0 i=some o->ρ' i=ρ i)/\(∀ i o b,h1 i=some o->blk (ρ' i)=some b->w.heap.size<=b\/∃ k o',h0 k=some o'/\blk (ρ k)=some b)
abbrev Fn (B:Ctx->Prop) (P:Program) (f:FuncId) (az:List AV) (h0:Nat->Option AObj) (v:AV) (h1:Nat->Option AObj) (dj:Nat):Prop:=FnG .returned B P f az h0 v h1 dj
abbrev FnX (ch:List PanicEntry) (B:Ctx->Prop) (P:Program) (f:FuncId) (az:List AV) (h0 h1:Nat->Option AObj):Prop:=FnG (fun _=>.panicked ch) B P f az h0 .junk h1 0
def Jc (J:JJ) (j0:Nat) (Pr:Nat->Prop) (w0:World):JJ:=fun k own w=>∃ own':Own,J (j0+k) own' w/\(∀ b,own.all b ↔ own'.all b\/Pr b)/\(∀ b,own.prv b ↔ own'.prv b\/Pr b)/\∀ b,Pr b->¬ own'.all b/\b < w.heap.size/\w.heap[b]?=w0.heap[b]?
def QdS (own:Own) (Pr:Nat->Prop):Own:=⟨fun b=>own.all b\/Pr b,fun b=>own.prv b\/Pr b,fun b h=>h.imp (own.sub b) id⟩
def Jc.stable {J:JJ} (h:J.Stable) (j0:Nat) (Pr:Nat->Prop) (w0:World):(Jc J j0 Pr w0).Stable:=by
 rintro j own w ⟨own',hj,hiff,hiffp,hpr⟩;refine ⟨fun b hb=>?_,fun w' hx=>⟨own',(h _ _ _ hj).2 w' (hx.weaken fun b _ hn ho=>hn ((hiff b).2 (.inl ho))),hiff,hiffp,fun b hb=>⟨(hpr b hb).1,aN (hpr b hb).2.1 hx.size, ?_⟩⟩⟩
 ·rcases (hiff b).1 hb with h1|h1
  ·exact (h _ _ _ hj).1 b h1
  ·exact (hpr b h1).2.1
 ·rw [hx.block b (hpr b hb).2.1 fun hn=>hn ((hiff b).2 (.inr hb))];exact (hpr b hb).2.2
def wo {f:FuncId} {vs:Array Value} {w:World} {R R':Ending->World->Prop} (h:Calls P f vs w R) (hr:∀ e w',R e w'->R' e w'):Calls P f vs w R' :=
 callsIn_wide.1 (CallsIn.mono (n:=0) (callsIn_wide.2 h) hr)
def KH {r:Option Nat} {f:FuncId} {vs:Array Value} {w:World} {R:Ending->World->Prop} (h:Calls P f vs w R):CallsIn (W r) 0 P f vs w R:=by
 have h1:CallsIn (W none) 0 P f vs w R:=callsIn_wide.2 h;exact h1
def Jp {r:Option Nat} {f:FuncId} {vs:Array Value} {w:World} {R:Ending->World->Prop} (h:CallsIn (W r) 0 P f vs w R):Calls P f vs w R :=
 callsIn_wide.1 (show CallsIn (W none) 0 P f vs w R from h)
def zb (hs:List Nat) (n:Nat) (j:Nat):Nat:=match hs[j]? with|some c=>c|none=>n+(j - hs.length)
def qZ (S:St) (hs bo:List Nat) (dr:List Nat) (v:AV) (h1:Nat->Option AObj) (nn dj:Nat):Eff :=
 {av:=v.ren (zb hs S.n),hw:=(List.range (hs.length+nn)).map (fun j=>(zb hs S.n j,(h1 j).map (AObj.ren (zb hs S.n))))++qV dr,hr:=hs++bo,news:=(List.range nn).map (S.n+·),n:=S.n+nn,dj:=dj }
def kZ (S:St) (hs bo:List Nat) (ρ:Nat->Value) (b:Nat):Prop:=∃ i ob,S.h i=some ob/\i ∉ hs/\i ∉ bo/\blk (ρ i)=some b
def wG (hs:List Nat) (ρ:Nat->Value) (j:Nat):Value:=match hs[j]? with|some i=>ρ i|none=>.slice none 0 0
def xZ (F:Frm) (S:St) (hs bo:List Nat) (ρ:Nat->Value) (own:Own) (w:World):Ctx:=⟨F.y,Jc F.J S.j (kZ S hs bo ρ) w,QdS own (kZ S hs bo ρ),w,wG hs ρ⟩
def Qat {S:St} (hS:Wf S) {az bs:List AV} {hs bo dr:List Nat} {h0:Nat->Option AObj} {v:AV} {h1 hf:Nat->Option AObj} {dj nn:Nat}
  (hargs:AV.leL hf (fun j=>hs[j]?) bs az)
  (hobj:∀ i o0,h0 i=some o0->∃ c ob,hs[i]?=some c/\S.h c=some ob/\AObj.le hf (fun j=>hs[j]?) ob o0)
  (hdom:∀ j,j < hs.length->∃ o0,h0 j=some o0) (hnd:hs.Nodup)
  (hfr:∀ i ob,hf i=some ob->S.h i=some ob/\i ∉ hs/\i ∈ bo) (hbo:∀ i ∈ bo,(∃ ob,S.h i=some ob)/\i ∉ hs)
  (hdr:dr=bo\/(dr=[]/\v.flat/\∀ i ob,h1 i=some ob->ob.flat))
  (hv1:∀ id ∈ v.ids,id < hs.length+nn) (hh1:∀ i ob,h1 i=some ob->i < hs.length+nn/\∀ id ∈ ob.ids,id < hs.length+nn) :
  (∀ c ∈ hs,∃ ob,S.h c=some ob)/\(∀ c ∈ hs,c < S.n)/\(∀ id ∈ (qZ S hs bo dr v h1 nn dj).ids,id < S.n+nn)/\∀ id ∈ (qZ S hs bo dr v h1 nn dj).news,S.n<=id:=by
 have hall:∀ c ∈ hs,∃ ob,S.h c=some ob:=fun c hc=>by
  obtain ⟨j,hj⟩:=bN hc;obtain ⟨o0,ho0⟩:=hdom j (aq.1 hj).1
  obtain ⟨d,ob,e1,e2,_⟩:=hobj j o0 ho0;rw [hj] at e1;cases e1
  exact ⟨ob,e2⟩
 have hslt:∀ c ∈ hs,c < S.n:=fun c hc=>bm fun hn=>by obtain ⟨ob,h⟩:=hall c hc;have:=(hS c hn).1;rw [h] at this;cases this
 have hbolt:∀ c ∈ bo,c < S.n:=fun c hc=>bm fun hn=>by obtain ⟨⟨ob,h⟩,_⟩:=hbo c hc;have:=(hS c hn).1;rw [h] at this;cases this
 have hdrbo:∀ c ∈ dr,c ∈ bo:=fun c hc=>by
  rcases hdr with h|h
  ·rw [<- h];exact hc
  ·rw [h.1] at hc;cases hc
 have hτ:∀ j,j < hs.length+nn->zb hs S.n j < S.n+nn:=fun j hj=>by
  unfold zb;cases hc:hs[j]? with
  |some c=>have:=hslt c (ao hc);simp only;omega
  |none=>have:hs.length<=j:=dU.1 hc;simp only;omega
 have hwi:∀ {l:List (Nat × Option AObj)} {id:Nat},id ∈ zM l->∃ p ∈ l,id=p.1\/∃ ob,p.2=some ob/\id ∈ ob.ids:=by
  intro l
  induction l with
  |nil=>intro id h;simp [zM] at h
  |cons p l ih =>
   intro id h;simp only [zM,ae,au] at h
   rcases h with rfl|h|h
   ·exact ⟨p,aV,.inl rfl⟩
   ·cases hp:p.2 with
    |none=>rw [hp] at h;simp at h
    |some ob=>rw [hp] at h;exact ⟨p,aV,.inr ⟨ob,hp,h⟩⟩
   ·obtain ⟨q,hq,h'⟩:=ih h;exact ⟨q,aQ _ hq,h'⟩
 have hI:∀ id ∈ (qZ S hs bo dr v h1 nn dj).ids,id < S.n+nn:=by
  intro id hid;simp only [Eff.ids,qZ,bT,bf,au] at hid
  rcases hid with hid|hid
  ·rw [AV.ren_ids] at hid
   obtain ⟨j,hj,rfl⟩:=aj.1 hid;exact hτ j (hv1 j hj)
  ·obtain ⟨p,hp,hid⟩:=hwi hid
   rcases au.1 hp with hp|hp
   ·obtain ⟨j,hj,rfl⟩:=aj.1 hp
    have hj:=aF.1 hj
    rcases hid with rfl|⟨ob,hob,hid⟩
    ·exact hτ j hj
    ·obtain ⟨o1,ho1,rfl⟩:=aA.1 hob
     rw [AObj.ren_ids] at hid;obtain ⟨q,hq,rfl⟩:=aj.1 hid
     exact hτ q ((hh1 j o1 ho1).2 q hq)
   ·obtain ⟨c,hc,rfl⟩:=aj.1 hp
    rcases hid with rfl|⟨ob,hob,_⟩
    ·have:=hbolt _ (hdrbo _ hc);omega
    ·cases hob
 refine ⟨hall,hslt,hI,fun id hid=>?_⟩
 simp only [qZ,aj,aF] at hid;obtain ⟨k,_,rfl⟩:=hid;omega
def Qds {S:St} (hS:Wf S) {az bs:List AV} {hs bo dr:List Nat} {h0:Nat->Option AObj} {v:AV} {h1 hf:Nat->Option AObj} {dj nn:Nat}
  (hargs:AV.leL hf (fun j=>hs[j]?) bs az)
  (hobj:∀ i o0,h0 i=some o0->∃ c ob,hs[i]?=some c/\S.h c=some ob/\AObj.le hf (fun j=>hs[j]?) ob o0)
  (hdom:∀ j,j < hs.length->∃ o0,h0 j=some o0) (hnd:hs.Nodup)
  (hfr:∀ i ob,hf i=some ob->S.h i=some ob/\i ∉ hs/\i ∈ bo) (hbo:∀ i ∈ bo,(∃ ob,S.h i=some ob)/\i ∉ hs)
  (hdr:dr=bo\/(dr=[]/\v.flat/\∀ i ob,h1 i=some ob->ob.flat))
  (hv1:∀ id ∈ v.ids,id < hs.length+nn) (hh1:∀ i ob,h1 i=some ob->i < hs.length+nn/\∀ id ∈ ob.ids,id < hs.length+nn)
  {F:Frm} {S2:St} {a:Act} {w:World} {ρ:Nat->Value} {own:Own} (H:Holds F S2 a w ρ own) (hdj:dj ≠ 0->dr=bo) (hS2:∀ c,c ∈ hs\/c ∈ bo->S2.h c=S.h c) (hfr2:∀ id ∈ (qZ S hs bo dr v h1 nn dj).news,Zf F S2 id)
  {vs:Array Value} (hsz:vs.size=bs.length) (hrel:∀ i c,bs[i]?=some c->ARel w (okB w own ρ S2.h) ρ F.y c (vs.getD i undef)) {dst:Option Nat} (hdst:∀ d,dst=some d->d < F.nt) :
  Hp (Jc F.J S2.j (kZ S2 hs bo ρ) w) F.y h0 0 (QdS own (kZ S2 hs bo ρ)) w (wG hs ρ)/\vs.size=az.length/\(∀ i c,az[i]?=some c->ARel w (okB w (QdS own (kZ S2 hs bo ρ)) (wG hs ρ) h0) (wG hs ρ) F.y c (vs.getD i undef)) /\
  ∀ v' w' ownc' ρc',Hp (Jc F.J S2.j (kZ S2 hs bo ρ) w) F.y h1 dj ownc' w' ρc'->ARel w' (okB w' ownc' ρc' h1) ρc' F.y v v'->Ext (fun b=>(own.prv b\/kZ S2 hs bo ρ b)\/∃ i o,h0 i=some o/\blk (wG hs ρ i)=some b) w w' ->
   (∀ b,ownc'.prv b->(own.prv b\/kZ S2 hs bo ρ b)\/w.heap.size<=b)->(dj=0->ownc'=QdS own (kZ S2 hs bo ρ))->(∀ i o,h0 i=some o->ρc' i=wG hs ρ i)->(∀ i o b,h1 i=some o->blk (ρc' i)=some b->w.heap.size<=b\/∃ k o',h0 k=some o'/\blk (wG hs ρ k)=some b) ->
   ∃ ρ' own',Holds F (S2.app dst (qZ S hs bo dr v h1 nn dj)) { (a.put dst v') with defers:=[]++a.defers } w' ρ' own':=by
 have hall:∀ c ∈ hs,∃ ob,S.h c=some ob:=fun c hc=>by
  obtain ⟨j,hj⟩:=bN hc;obtain ⟨o0,ho0⟩:=hdom j (aq.1 hj).1
  obtain ⟨d,ob,e1,e2,_⟩:=hobj j o0 ho0;rw [hj] at e1;cases e1
  exact ⟨ob,e2⟩
 have hslt:∀ c ∈ hs,c < S.n:=fun c hc=>bm fun hn=>by obtain ⟨ob,h⟩:=hall c hc;have:=(hS c hn).1;rw [h] at this;cases this
 have hbolt:∀ c ∈ bo,c < S.n:=fun c hc=>bm fun hn=>by obtain ⟨⟨ob,h⟩,_⟩:=hbo c hc;have:=(hS c hn).1;rw [h] at this;cases this
 have hdrbo:∀ c ∈ dr,c ∈ bo:=fun c hc=>by
  rcases hdr with h|h
  ·rw [<- h];exact hc
  ·rw [h.1] at hc;cases hc
 have hτ:∀ j,j < hs.length+nn->zb hs S.n j < S.n+nn:=fun j hj=>by
  unfold zb;cases hc:hs[j]? with
  |some c=>have:=hslt c (ao hc);simp only;omega
  |none=>have:hs.length<=j:=dU.1 hc;simp only;omega
 have hwi:∀ {l:List (Nat × Option AObj)} {id:Nat},id ∈ zM l->∃ p ∈ l,id=p.1\/∃ ob,p.2=some ob/\id ∈ ob.ids:=by
  intro l
  induction l with
  |nil=>intro id h;simp [zM] at h
  |cons p l ih =>
   intro id h;simp only [zM,ae,au] at h
   rcases h with rfl|h|h
   ·exact ⟨p,aV,.inl rfl⟩
   ·cases hp:p.2 with
    |none=>rw [hp] at h;simp at h
    |some ob=>rw [hp] at h;exact ⟨p,aV,.inr ⟨ob,hp,h⟩⟩
   ·obtain ⟨q,hq,h'⟩:=ih h;exact ⟨q,aQ _ hq,h'⟩
 have hI:∀ id ∈ (qZ S hs bo dr v h1 nn dj).ids,id < S.n+nn:=by
  intro id hid;simp only [Eff.ids,qZ,bT,bf,au] at hid
  rcases hid with hid|hid
  ·rw [AV.ren_ids] at hid
   obtain ⟨j,hj,rfl⟩:=aj.1 hid;exact hτ j (hv1 j hj)
  ·obtain ⟨p,hp,hid⟩:=hwi hid
   rcases au.1 hp with hp|hp
   ·obtain ⟨j,hj,rfl⟩:=aj.1 hp
    have hj:=aF.1 hj
    rcases hid with rfl|⟨ob,hob,hid⟩
    ·exact hτ j hj
    ·obtain ⟨o1,ho1,rfl⟩:=aA.1 hob
     rw [AObj.ren_ids] at hid;obtain ⟨q,hq,rfl⟩:=aj.1 hid
     exact hτ q ((hh1 j o1 ho1).2 q hq)
   ·obtain ⟨c,hc,rfl⟩:=aj.1 hp
    rcases hid with rfl|⟨ob,hob,_⟩
    ·have:=hbolt _ (hdrbo _ hc);omega
    ·cases hob
 have hσ:∀ j i,hs[j]?=some i->(wG hs ρ) j=ρ i:=fun j i h=>by simp only [wG,h]
 have hσ0:∀ j,hs[j]?=none->(wG hs ρ) j=.slice none 0 0:=fun j h=>by simp only [wG,h]
 let Pr:Nat->Prop:=kZ S2 hs bo ρ
 let ownc:Own:=QdS own Pr
 have hh0:∀ i o0,h0 i=some o0->∃ c ob,hs[i]?=some c/\S2.h c=some ob/\AObj.le hf (fun j=>hs[j]?) ob o0:=fun i o0 hi=>by
  obtain ⟨c,ob,e1,e2,e3⟩:=hobj i o0 hi;exact ⟨c,ob,e1,(hS2 c (.inl (ao e1))).trans e2,e3⟩
 have hok:∀ b,okB w own ρ S2.h b->okB w ownc (wG hs ρ) h0 b:=by
  rintro b ⟨g1,g2,g3⟩;refine ⟨g1, ?_,fun i o0 hi hb=>?_⟩
  ·rintro (h|⟨i,ob,hi,_,_,hb⟩)
   ·exact g2 h
   ·exact g3 i ob hi hb
  ·obtain ⟨c,ob,e1,e2,_⟩:=hh0 i o0 hi
   rw [hσ i c e1] at hb;exact g3 c ob e2 hb
 have hfS2:∀ i ob,hf i=some ob->S2.h i=some ob:=fun i ob hi=>(hS2 i (.inr (hfr i ob hi).2.2)).trans (hfr i ob hi).1
 have hrow:∀ i ox b,hf i=some ox->blk (ρ i)=some b->okB w ownc (wG hs ρ) h0 b:=by
  intro i ox b hi hb;have hi2:=hfS2 i _ hi
  refine ⟨(H.obj i _ hi2).lt hb, ?_,fun j o0 hj hbj=>?_⟩
  ·rintro (h|⟨q,ob,hq,hqh,hqb,hbq⟩)
   ·exact (H.blkOK i _ b hi2 hb).1 (own.sub _ h)
   ·have:=H.inj i q _ ob b hi2 hq hb hbq
    subst this;exact hqb (hfr i _ hi).2.2
  ·obtain ⟨c,ob,e1,e2,_⟩:=hh0 j o0 hj
   rw [hσ j c e1] at hbj;have:=H.inj i c _ ob b hi2 e2 hb hbj
   subst this;exact (hfr i _ hi).2.1 (ao e1)
 have hobjf:∀ i ob,hf i=some ob->ORel w (okB w own ρ S2.h) ρ F.y ob (ρ i):=fun i ob hi=>H.obj i ob (hfS2 i ob hi)
 have hHp:Hp (Jc F.J S2.j Pr w) F.y h0 0 ownc w (wG hs ρ):=by
  refine ⟨⟨own,H.jay,fun b=>Iff.rfl,fun b=>Iff.rfl,fun b ⟨i,ob,hi,_,_,hb⟩=>⟨(H.blkOK i ob b hi hb).1,(H.obj i ob hi).lt hb,rfl⟩⟩,fun i o0 hi=>?_,fun i k o1 o2 b hi hk hbi hbk=>?_,fun i o0 b hi hb=>?_⟩
  ·obtain ⟨c,ob,e1,e2,e3⟩:=hh0 i o0 hi
   rw [hσ i c e1];exact AObj.le_rel hobjf hok hrow hσ hσ0 (H.obj c ob e2) e3
  ·obtain ⟨c,ob,e1,e2,_⟩:=hh0 i o1 hi
   obtain ⟨d,od,e1',e2',_⟩:=hh0 k o2 hk;rw [hσ i c e1] at hbi
   rw [hσ k d e1'] at hbk;have:=H.inj c d ob od b e2 e2' hbi hbk
   subst this;have hi':=(aq.1 e1)
   have hk':=(aq.1 e1');obtain ⟨hi1,hi2⟩:=hi'
   obtain ⟨hk1,hk2⟩:=hk';exact (List.getElem_inj (h₀:=hi1) (h₁:=hk1) hnd).1 (hi2.trans hk2.symm)
  ·obtain ⟨c,ob,e1,e2,_⟩:=hh0 i o0 hi
   rw [hσ i c e1] at hb;rintro (h|⟨q,oq,hq,hqh,_,hbq⟩)
   ·exact (H.blkOK c ob b e2 hb).1 h
   ·have:=H.inj c q ob oq b e2 hq hb hbq
    subst this;exact hqh (ao e1)
 refine ⟨hHp,by rw [<- AV.leL_length hargs];exact hsz,fun i c hc=>?_, ?_⟩
 ·obtain ⟨b,hb,hle⟩:=AV.leL_get hargs i c hc
  exact AV.le_rel hobjf hok hrow hσ hσ0 (hrel i b hb) c hle
 ·intro v' w' ownc' ρc' hHp' hv' hx hown' hstill hpin hblk
  obtain ⟨own',hj',hiff,hiffp,hpr⟩:=hHp'.jay;refine ⟨fun i=>if S.n<=i/\i < S.n+nn then ρc' (hs.length+(i - S.n)) else ρ i,own', ?_⟩
  have hρτ:∀ j,j < hs.length+nn->(fun i=>if S.n<=i/\i < S.n+nn then ρc' (hs.length+(i - S.n)) else ρ i) (zb hs S.n j)=ρc' j:=fun j hj=>by
   unfold zb;cases hc:hs[j]? with
   |some c =>
    have:=hslt c (ao hc);simp only
    obtain ⟨o0,ho0⟩:=hdom j (aq.1 hc).1;rw [if_neg (by omega),hpin j o0 ho0,show wG hs ρ j=ρ c from hσ j c hc]
   |none =>
    have:hs.length<=j:=dU.1 hc;simp only
    rw [if_pos (by omega)]
    congr 1;omega
  have hkeyτ:∀ i ob,ze S2.h (qZ S hs bo dr v h1 nn dj).hw i=some ob->i ∈ (qZ S hs bo dr v h1 nn dj).keys->∃ j o1,j < hs.length+nn/\i=zb hs S.n j/\h1 j=some o1/\ob=o1.ren (zb hs S.n):=fun i ob hi hk=>by
   have:=ZN hk hi;simp only [qZ,au,aj,aF] at this
   rcases this with ⟨j,hj,e⟩|h
   ·simp only [Prod.mk.injEq] at e
    obtain ⟨o1,ho1,e2⟩:=aA.1 e.2;exact ⟨j,o1,hj,e.1.symm,ho1,e2.symm⟩
   ·simp [qV] at h
  have hkeys:∀ j,j < hs.length+nn->zb hs S.n j ∈ (qZ S hs bo dr v h1 nn dj).keys:=fun j hj=>by
   simp only [Eff.keys,qZ,ai,bO,au,aj,aF];exact .inl ⟨j,hj,rfl⟩
  have hskey:∀ c ∈ hs,c ∈ (qZ S hs bo dr v h1 nn dj).keys:=fun c hc=>by
   obtain ⟨j,hj⟩:=bN hc;have:=hkeys j (by have:=(aq.1 hj).1;omega)
   simpa [zb,hj] using this
  have hnewkey:∀ i,S.n<=i->i < S.n+nn->i ∈ (qZ S hs bo dr v h1 nn dj).keys:=fun i h1 h2=>by
   have:=hkeys (hs.length+(i - S.n)) (by omega)
   have e:zb hs S.n (hs.length+(i - S.n))=i:=by
    unfold zb;rw [cr (by omega)]
    simp only;omega
   rwa [e] at this
  have hxx:Ext (fun b=>own.prv b\/∃ i ob,i ∈ (qZ S hs bo dr v h1 nn dj).keys/\S2.h i=some ob/\blk (ρ i)=some b) w w':=by
   refine ⟨hx.os,hx.tape,hx.output,hx.size,fun k hk hn=>?_⟩
   by_cases hp:Pr k
   ·exact (hpr k hp).2.2
   ·refine hx.block k hk ?_
    rintro ((h|h)|⟨i,o0,hi,hb⟩)
    ·exact hn (.inl h)
    ·exact hp h
    ·obtain ⟨c,ob,e1,e2,_⟩:=hh0 i o0 hi
     rw [hσ i c e1] at hb;exact hn (.inr ⟨c,ob,hskey c (ao e1),e2,hb⟩)
  have hokc:dr=bo->∀ b,okB w' ownc' ρc' h1 b->okB w' own' (fun i=>if S.n<=i/\i < S.n+nn then ρc' (hs.length+(i - S.n)) else ρ i) (ze S2.h (qZ S hs bo dr v h1 nn dj).hw) b:=by
   rintro hdb b ⟨g1,g2,g3⟩;refine ⟨g1,fun h=>g2 ((hiffp b).2 (.inl h)),fun i ob hi hb=>?_⟩
   by_cases hk:i ∈ (qZ S hs bo dr v h1 nn dj).keys
   ·obtain ⟨j,o1,hj,rfl,ho1,rfl⟩:=hkeyτ i ob hi hk
    have:=hρτ j hj;simp only at this hb
    rw [this] at hb;exact g3 j o1 ho1 hb
   ·rw [zm hk] at hi
    have hin:¬ (S.n<=i/\i < S.n+nn):=fun h=>hk (hnewkey i h.1 h.2)
    simp only [if_neg hin] at hb;refine g2 ((hiffp b).2 (.inr ⟨i,ob,hi,fun h=>hk (hskey i h),fun h=>hk ?_,hb⟩))
    subst hdb;simp only [Eff.keys,qZ,ai,au,qV,bO,aj]
    exact .inr ⟨i,h,rfl⟩
  refine H.app hdst hj' hxx ?_ (fun i hi=>?_) (fun i hi=>?_) hfr2 ?_ (fun i ob hk hi=>?_) (fun i k o1 o2 b hki hkk hi hk hbi hbk=>?_) (fun id hid=>aN (hI id hid) (bD _ _)) .nil
  ·by_cases hd0:dj=0
   ·left
    have he:=hstill hd0;subst he
    have hno:∀ b,own.all b->¬ Pr b:=fun b hb ⟨i,ob,hi,_,_,hbb⟩=>(H.blkOK i ob b hi hbb).1 hb
    exact Own.eq (fun b=>⟨fun hb=>((hiff b).2 (.inl hb)).resolve_right fun hp=>(hpr b hp).1 hb,fun hb=>((hiff b).1 (.inl hb)).resolve_right (hno b hb)⟩)
     (fun b=>⟨fun hb=>((hiffp b).2 (.inl hb)).resolve_right fun hp=>(hpr b hp).1 (own'.sub _ hb),fun hb=>((hiffp b).1 (.inl hb)).resolve_right (hno b (own.sub _ hb))⟩)
   ·refine .inr ⟨hd0,fun b hb=>?_,fun i ob b hi hk hb hall'=>?_⟩
    ·rcases hown' b ((hiffp b).2 (.inl hb)) with (h|h)|h
     ·exact .inl h
     ·exact absurd (own'.sub _ hb) (hpr b h).1
     ·exact .inr h
    ·refine (hpr b ⟨i,ob,hi,fun h=>hk (hskey i h),fun h=>hk ?_,hb⟩).1 hall'
     have:=hdj hd0;subst this
     simp only [Eff.keys,qZ,ai,au,qV,bO,aj];exact .inr ⟨i,h,rfl⟩
  ·simp only [qZ,aj,aF] at hi
   obtain ⟨k,hk,rfl⟩:=hi;exact hnewkey _ (by omega) (by omega)
  ·refine if_neg ?_
   rintro ⟨h1,h2⟩;exact hi (by simp only [qZ,aj,aF];exact ⟨i - S.n,by omega,by omega⟩)
  ·have hv2:=hv'.ren (τ:=zb hs S.n) (ρ':=fun i=>if S.n<=i/\i < S.n+nn then ρc' (hs.length+(i - S.n)) else ρ i) fun id hid=>hρτ id (hv1 id hid)
   rcases hdr with hd|⟨_,hfl,_⟩
   ·exact hv2.mono (fun b hb=>⟨hokc hd b hb,rfl⟩) fun _ _=>rfl
   ·exact (hv'.flat hfl).ren fun id hid=>hρτ id (hv1 id hid)
  ·obtain ⟨j,o1,hj,rfl,ho1,rfl⟩:=hkeyτ i ob hi hk
   have e:=hρτ j hj;simp only at e ⊢
   rw [e];refine ⟨AObj.ren_rel (hHp'.obj j o1 ho1) ?_ fun id hid=>hρτ id ((hh1 j o1 ho1).2 id hid),fun b hb=>⟨fun h=>hHp'.off j o1 b ho1 hb ((hiff b).2 (.inl h)), ?_⟩⟩
   ·rcases hdr with hd|⟨_,_,hfl⟩
    ·exact .inr (hokc hd)
    ·exact .inl (hfl j o1 ho1)
   ·rcases hblk j o1 b ho1 hb with h|⟨q,oq,hq,hbq⟩
    ·exact .inl h
    ·obtain ⟨c,ob,e1,e2,_⟩:=hh0 q oq hq
     rw [show wG hs ρ q=ρ c from hσ q c e1] at hbq
     exact .inr ⟨c,ob,hskey c (ao e1),e2,hbq⟩
  ·obtain ⟨j,o1',hj,rfl,ho1,rfl⟩:=hkeyτ i o1 hi hki
   obtain ⟨j',o2',hj',rfl,ho2,rfl⟩:=hkeyτ k o2 hk hkk;have e:=hρτ j hj
   have e':=hρτ j' hj';simp only at e e' hbi hbk
   rw [e] at hbi;rw [e'] at hbk
   rw [hHp'.inj j j' o1' o2' b ho1 ho2 hbi hbk]
def Kr {ops:Array Oper} {o:Oper} {S:St} {g:Operand} {args:Array Operand} {tys:Array TypeId} (ho:o.op=.call { callee:=.value g,args:=args,argTypes:=tys }) {e:Eff} {F:Frm} {S2:St} {a:Act} {w:World} {ρ:Nat->Value} {own:Own}
  (hag:Agree ops o e S S2) (H:Holds F S2 a w ρ own) {caps:List AV} {cvs:Array Value} (hcs:cvs.size=caps.length) (hcr:∀ (i:Nat) (c:AV),caps[i]?=some c->ARel w (okB w own ρ S2.h) ρ F.y c (cvs.getD i undef)) :
  (args.map a.eval++cvs).size=(args.toList.map (ev S)++caps).length/\∀ i c,(args.toList.map (ev S)++caps)[i]?=some c->ARel w (okB w own ρ S2.h) ρ F.y c ((args.map a.eval++cvs).getD i undef):=by
 refine ⟨by simp [hcs],fun i c hc=>?_⟩
 by_cases hi:i < args.size
 ·rw [bp (by simpa using hi),aC] at hc
  obtain ⟨x,hx,rfl⟩:=aA.1 hc;have hx':args[i]?=some x:=by simpa using hx
  have hm:x ∈ args:=dO hx';rw [<- hag.ev (x:=x) (by simp [ho,Op.operands,Call.operands,hm])]
  have hxa:args[i]=x:=(aT.1 hx').2;have:(args.map a.eval++cvs).getD i undef=a.eval x:=by
   simp [cP,hi,hxa]
  rw [this];exact qm H x
 ·rw [bv (by simpa using hi)] at hc
  simp only [ab,ba] at hc;have:=hcr _ c hc
  have e:(args.map a.eval++cvs).getD i undef=cvs.getD (i - args.size) undef:=by
   simp [cP,hi]
  rw [e];exact this
def Zu:AV->List AV
 |.bnd _ pre=>pre
 |_=>[]
def Uy {E:Value->Ending} {ops:Array Oper} {o:Oper} {S:St} (hS:Wf S) {g:Operand} {args:Array Operand} {tys:Array TypeId} (ho:o.op=.call { callee:=.value g,args:=args,argTypes:=tys })
  {f:FuncId} {caps pre:List AV} (hg:ev S g=.clo f caps/\pre=[]\/ev S g=.bnd f pre/\caps=[]) {B:Ctx->Prop} {az:List AV} {hs bo dr:List Nat} {h0:Nat->Option AObj} {v:AV} {h1 hf:Nat->Option AObj} {dj nn:Nat} (hfn:FnG E B P f az h0 v h1 dj)
  (hdj:dj ≠ 0->dr=bo)
  (hB:∀ F S2 a w ρ own,A F->(dj ≠ 0->S2.j=S.j)->(∀ c,c ∈ hs\/c ∈ bo->S2.h c=S.h c)->Holds F S2 a w ρ own->B (xZ F S2 hs bo ρ own w))
  (hargs:AV.leL hf (fun j=>hs[j]?) (pre++(args.toList.map (ev S)++caps)) az)
  (hobj:∀ i o0,h0 i=some o0->∃ c ob,hs[i]?=some c/\S.h c=some ob/\AObj.le hf (fun j=>hs[j]?) ob o0)
  (hdom:∀ j,j < hs.length->∃ o0,h0 j=some o0) (hnd:hs.Nodup)
  (hfr:∀ i ob,hf i=some ob->S.h i=some ob/\i ∉ hs/\i ∈ bo) (hbo:∀ i ∈ bo,(∃ ob,S.h i=some ob)/\i ∉ hs)
  (hdr:dr=bo\/(dr=[]/\v.flat/\∀ i ob,h1 i=some ob->ob.flat))
  (hv1:∀ id ∈ v.ids,id < hs.length+nn) (hh1:∀ i ob,h1 i=some ob->i < hs.length+nn/\∀ id ∈ ob.ids,id < hs.length+nn)
  {F:Frm} (hF:A F) {S2:St} {a:Act} {w:World} {ρ:Nat->Value} {own:Own} (hag:Agree ops o (qZ S hs bo dr v h1 nn dj) S S2) (hfr2:∀ id ∈ (qZ S hs bo dr v h1 nn dj).news,Zf F S2 id) (H:Holds F S2 a w ρ own)
  {dst:Option Nat} (hdst:∀ d,dst=some d->d < F.nt) :
  ∃ vals,(execOp a.eval o).run P w=.ok (.enter f vals) w/\Calls P f vals w fun e w'=>∃ v' ρ' own',e=E v'/\Holds F (S2.app dst (qZ S hs bo dr v h1 nn dj)) { (a.put dst v') with defers:=[]++a.defers } w' ρ' own':=by
 have hS2:∀ c,c ∈ hs\/c ∈ bo->S2.h c=S.h c:=fun c hc=>hag.2.1 c (by simpa [qZ] using hc)
 have hgv:=qm H g;rw [hag.ev (x:=g) (by simp [ho,Op.operands,Call.operands])] at hgv
 obtain ⟨vals,hsz,hrel,hexec⟩:∃ vals:Array Value,vals.size=(pre++(args.toList.map (ev S)++caps)).length/\(∀ i c,(pre++(args.toList.map (ev S)++caps))[i]?=some c->ARel w (okB w own ρ S2.h) ρ F.y c (vals.getD i undef))/\(execOp a.eval o).run P w=.ok (.enter f vals) w:=by
  generalize hgv':a.eval g=gv at hgv
  rcases hg with ⟨hg,rfl⟩|⟨hg,rfl⟩
  ·rw [hg] at hgv
   cases hgv with
   |@clo _ _ cvs hcs hcr =>
    obtain ⟨hsz,hrel⟩:=Kr ho hag H hcs hcr;exact ⟨args.map a.eval++cvs,by simpa using hsz,by simpa using hrel,by simp [execOp,ho,resolve,Deferred.ofValue,hgv',invoke,hfn.enter]⟩
  ·rw [hg] at hgv
   cases hgv with
   |@bnd _ _ bvs hbs hbr =>
    obtain ⟨hsz,hrel⟩:=Kr ho hag H (caps:=[]) (cvs:=#[]) rfl (by simp)
    simp only [Array.append_empty] at hsz hrel;refine ⟨bvs++args.map a.eval,by simp [hbs],fun i c hc=>?_,by simp [execOp,ho,resolve,Deferred.ofValue,hgv',invoke,hfn.enter]⟩
    by_cases hi:i < bvs.size
    ·rw [bp (by omega)] at hc
     have e:(bvs++args.map a.eval).getD i undef=bvs.getD i undef:=by simp [cP,hi]
     rw [e];exact hbr i c hc
    ·rw [bv (by omega)] at hc
     have e:(bvs++args.map a.eval).getD i undef=(args.map a.eval).getD (i - pre.length) undef:=by
      have hi':¬ i < pre.length:=by omega
      simp [cP,hi',hbs]
     rw [e];exact hrel _ c hc
 obtain ⟨c1,c2,c3,c4⟩:=Qds (dj:=dj) hS hargs hobj hdom hnd hfr hbo hdr hv1 hh1 H hdj hS2 hfr2 hsz hrel hdst;have hcalls:=hfn.calls F.y (Jc F.J S2.j (kZ S2 hs bo ρ) w) (Jc.stable F.stable _ _ _) _ w (wG hs ρ) vals (hB F S2 a w ρ own hF (fun hd=>hag.2.2 hd) hS2 H) c1 c2 c3
 refine ⟨vals,hexec,wo hcalls ?_⟩
 rintro e w' ⟨v',ownc',ρc',he,q1,q2,q3,q4,q7,q5,q6⟩;obtain ⟨ρ',own',HH⟩:=c4 v' w' ownc' ρc' q1 q2 q3 q4 q7 q5 q6
 exact ⟨v',ρ',own',he,HH⟩
def QcC {ops:Array Oper} {o:Oper} {S:St} (hS:Wf S) (hw:Want ops o S) {g:Operand} {args:Array Operand} {tys:Array TypeId} (ho:o.op=.call { callee:=.value g,args:=args,argTypes:=tys })
  {f:FuncId} {caps pre:List AV} (hg:ev S g=.clo f caps/\pre=[]\/ev S g=.bnd f pre/\caps=[]) {B:Ctx->Prop} {az:List AV} {hs bo dr:List Nat} {h0:Nat->Option AObj} {v:AV} {h1 hf:Nat->Option AObj} {dj nn:Nat} (hfn:Fn B P f az h0 v h1 dj)
  (hdj:dj ≠ 0->dr=bo)
  (hB:∀ F S2 a w ρ own,A F->(dj ≠ 0->S2.j=S.j)->(∀ c,c ∈ hs\/c ∈ bo->S2.h c=S.h c)->Holds F S2 a w ρ own->B (xZ F S2 hs bo ρ own w))
  (hargs:AV.leL hf (fun j=>hs[j]?) (pre++(args.toList.map (ev S)++caps)) az)
  (hobj:∀ i o0,h0 i=some o0->∃ c ob,hs[i]?=some c/\S.h c=some ob/\AObj.le hf (fun j=>hs[j]?) ob o0)
  (hdom:∀ j,j < hs.length->∃ o0,h0 j=some o0) (hnd:hs.Nodup)
  (hfr:∀ i ob,hf i=some ob->S.h i=some ob/\i ∉ hs/\i ∈ bo) (hbo:∀ i ∈ bo,(∃ ob,S.h i=some ob)/\i ∉ hs)
  (hdr:dr=bo\/(dr=[]/\v.flat/\∀ i ob,h1 i=some ob->ob.flat))
  (hv1:∀ id ∈ v.ids,id < hs.length+nn) (hh1:∀ i ob,h1 i=some ob->i < hs.length+nn/\∀ id ∈ ob.ids,id < hs.length+nn) :
  VE A P ops o (qZ S hs bo dr v h1 nn dj) S:=by
 obtain ⟨hall,hslt,hI,hN⟩:=Qat (dj:=dj) hS hargs hobj hdom hnd hfr hbo hdr hv1 hh1;refine ⟨fun F hF hds S2 a w hag hfr2 ⟨ρ,own,H⟩=>?_,hI,hN⟩
 rw [wN hw hag H,if_pos rfl];obtain ⟨vals,hexec,hcalls⟩:=Uy (E:=.returned) hS ho hg hfn hdj hB hargs hobj hdom hnd hfr hbo hdr hv1 hh1 hF hag hfr2 H (vI hds)
 refine ⟨vW o a w F.r, ?_⟩
 rw [Oper.semAt_eq _ _ _ (by simp [ho]),hexec]
 simp only [Oper.uponIn];refine ⟨fun h=>by simp [W] at h,KH (wo hcalls ?_)⟩
 rintro e w' ⟨v',ρ',own',rfl,HH⟩;exact jf HH
structure VX (A:Frm->Prop) (P:Program) (ops:Array Oper) (o:Oper) (e:Eff) (ch:List PanicEntry) (S:St):Prop where
 valid:∀ F,A F->∀ S2 a w,Agree ops o e S S2->(∀ id ∈ e.news,Zf F S2 id)->Gam F S2 a w->o.wpIn (W F.r) 0 P a w (fun _ _=>False) (fun x a' w'=>x=.panic ch/\Gam F (S2.app none e) a' w')
 news:∀ id ∈ e.news,S.n<=id
def QaS {ops:Array Oper} {o:Oper} {e:Eff} {S:St}:Agree ops o e S S:=⟨fun _ _=>rfl,fun _ _=>rfl,fun _=>rfl⟩
def QhL {ch:List PanicEntry} {ops:Array Oper} {o:Oper} {S:St} (hS:Wf S) {g:Operand} {args:Array Operand} {tys:Array TypeId} (ho:o.op=.call { callee:=.value g,args:=args,argTypes:=tys })
  {f:FuncId} {caps pre:List AV} (hg:ev S g=.clo f caps/\pre=[]\/ev S g=.bnd f pre/\caps=[]) {B:Ctx->Prop} {az:List AV} {hs bo dr:List Nat} {h0:Nat->Option AObj} {h1 hf:Nat->Option AObj} {nn:Nat} (hfn:FnX ch B P f az h0 h1)
  (hB:∀ F S2 a w ρ own,A F->(∀ c,c ∈ hs\/c ∈ bo->S2.h c=S.h c)->Holds F S2 a w ρ own->B (xZ F S2 hs bo ρ own w))
  (hargs:AV.leL hf (fun j=>hs[j]?) (pre++(args.toList.map (ev S)++caps)) az)
  (hobj:∀ i o0,h0 i=some o0->∃ c ob,hs[i]?=some c/\S.h c=some ob/\AObj.le hf (fun j=>hs[j]?) ob o0)
  (hdom:∀ j,j < hs.length->∃ o0,h0 j=some o0) (hnd:hs.Nodup)
  (hfr:∀ i ob,hf i=some ob->S.h i=some ob/\i ∉ hs/\i ∈ bo) (hbo:∀ i ∈ bo,(∃ ob,S.h i=some ob)/\i ∉ hs)
  (hdr:dr=bo\/(dr=[]/\∀ i ob,h1 i=some ob->ob.flat)) (hh1:∀ i ob,h1 i=some ob->i < hs.length+nn/\∀ id ∈ ob.ids,id < hs.length+nn) :
  VX A P ops o (qZ S hs bo dr .junk h1 nn 0) ch S:=by
 have hdr':dr=bo\/(dr=[]/\AV.junk.flat/\∀ i ob,h1 i=some ob->ob.flat):=hdr.imp id fun h=>⟨h.1,trivial,h.2⟩
 have hv1:∀ id ∈ AV.junk.ids,id < hs.length+nn:=fun id h=>by simp [AV.ids] at h
 obtain ⟨hall,hslt,hI,hN⟩:=Qat (dj:=0) hS hargs hobj hdom hnd hfr hbo hdr' hv1 hh1;refine ⟨fun F hF S2 a w hag hfr2 ⟨ρ,own,H⟩=>?_,hN⟩
 obtain ⟨vals,hexec,hcalls⟩:=Uy (A:=A) hS ho hg hfn (fun h=>absurd rfl h) (fun F S2 a w ρ own h1 _ h2 h3=>hB F S2 a w ρ own h1 h2 h3) hargs hobj hdom hnd hfr hbo hdr' hv1 hh1 hF hag hfr2 H (dst:=none) (fun _ h=>by cases h)
 refine ⟨vW o a w F.r, ?_⟩
 rw [Oper.semAt_eq _ _ _ (by simp [ho]),hexec]
 simp only [Oper.uponIn];refine ⟨fun h=>by simp [W] at h,KH (wo hcalls ?_)⟩
 rintro e w' ⟨v',ρ',own',rfl,HH⟩;exact ⟨rfl,ρ',own',HH⟩
def yV (i:TI) (cells:List AV):AV:=bif i.td.agg then .agg cells else cells.headD .junk
def ZJ (O:Tys) (S:St):List ResultVar->(List AV->Prop)->Prop
 |[],K=>K []
 |.tmp t :: rs,K=>ZJ O S rs fun vs=>K (S.t t :: vs)
 |.cell t ty :: rs,K=>match O ty with
  |some i=>rd S (bif i.td.agg then i.cells else 1) (fun cells _=>ZJ O S rs fun vs=>K (yV i cells :: vs)) (S.t t)
  |none=>False
def Jb:List AV->AV
 |[]=>.tup []
 |[a]=>a
 |a :: b :: r=>.tup (a :: b :: r)
def KQ (tmps:Array Value):ResultVar->Sem Value
 |.tmp t=>pure (tmps.getD t undef)
 |.cell x t=>do loadVar t (<- asAddr (tmps.getD x undef))
def QaG (fn:Func) (tmps:Array Value):results fn tmps=(do let vs <- fn.results.mapM (KQ tmps);pure (if h:vs.size=1 then vs[0] else .tuple vs)):=by
 unfold results
 congr 2
def K9 {O:Tys} (hΓ:zW P O) {F:Frm} {S:St} {a:Act} {w:World} {ρ:Nat->Value} {own:Own} (H:Holds F S a w ρ own):∀ {rs:List ResultVar} {K:List AV->Prop},ZJ O S rs K ->
  ∃ avs vs,K avs/\(List.mapM (KQ a.tmps) rs:Sem (List Value)).run P w=.ok vs w/\vs.length=avs.length/\∀ (i:Nat) (c:AV),avs[i]?=some c->ARel w (okB w own ρ S.h) ρ F.y c (vs.getD i undef)
 |[],K,h=>⟨[],[],h,by simp,rfl,by simp⟩
 |.tmp t :: rs,K,h=>by
  obtain ⟨avs,vs,hK,hrun,hl,hr⟩:=K9 hΓ H (rs:=rs) (K:=fun vs=>K (S.t t :: vs)) h
  refine ⟨_,a.tmps.getD t undef :: vs,hK,by simp only [List.mapM_cons,KQ,aH,aL,aJ,hrun],by simp [hl],fun i c hc=>?_⟩
  cases i with
  |zero=>simp only [aK,ak] at hc;subst hc;exact H.temps t
  |succ i=>simpa using hr i c (by simpa using hc)
 |.cell x t :: rs,K,h=>by
  simp only [ZJ] at h;split at h
  ·rename_i i hi
   obtain ⟨cells,hr,h,hrd⟩:=UQ h;obtain ⟨avs,vs,hK,hrun,hl,hrr⟩:=K9 hΓ H (rs:=rs) (K:=fun vs=>K (yV i cells :: vs)) h
   have ht:=hΓ t i hi;obtain ⟨hlen,ad,us,hv,hul,hcell,hrel⟩:=hrd.read F S a w ρ own _ (fun _ _=>rfl) H (H.temps x)
   have hone:∃ u,(loadVar t ad).run P w=.ok u w/\ARel w (okB w own ρ S.h) ρ F.y (yV i cells) u:=by
    unfold yV;cases hagg:i.td.agg
    ·rw [hagg,cond_false] at hlen hul
     obtain ⟨u,rfl⟩:=Qad hul;have hc0:w.cell? ad=some u:=by have:=hcell 0 u rfl;rwa [add_zero'] at this
     refine ⟨u,Zn ht hagg w ad u hc0, ?_⟩
     match cells,hlen with
     |[c],_=>exact (hrel 0 c u rfl rfl).1
    ·rw [hagg,cond_true] at hlen hul
     refine ⟨_,Zo ht hagg w ad us (by omega) hcell, ?_⟩
     refine .agg (by simp;omega) fun j c hc=>?_
     have hj:j < us.length:=by have:=(aq.1 hc).1;omega
     have:=(hrel j c _ hc (al hj)).1
     simpa [hj] using this
   obtain ⟨u,hu,hru⟩:=hone;have hpa:(asAddr (a.tmps.getD x undef)).run P w=.ok ad w:=by rw [hv];rfl
   refine ⟨_,u :: vs,hK,by simp only [List.mapM_cons,KQ,aH,hpa,aL,aJ,hu,hrun],by simp [hl],fun i c hc=>?_⟩
   cases i with
   |zero=>simp only [aK,ak] at hc;subst hc;exact hru
   |succ i=>simpa using hrr i c (by simpa using hc)
  ·exact h.elim
def ZQ {O:Tys} (hΓ:zW P O) {F:Frm} {S:St} {a:Act} {w:World} {ρ:Nat->Value} {own:Own} (H:Holds F S a w ρ own) {fn:Func} {K:List AV->Prop} (h:ZJ O S fn.results.toList K) :
  ∃ avs v,K avs/\(results fn a.tmps).run P w=.ok v w/\ARel w (okB w own ρ S.h) ρ F.y (Jb avs) v:=by
 obtain ⟨avs,vs,hK,hrun,hl,hr⟩:=K9 hΓ H h;refine ⟨avs,if h:vs.toArray.size=1 then vs.toArray[0] else .tuple vs.toArray,hK, ?_, ?_⟩
 ·rw [QaG,Array.mapM_eq_mapM_toList]
  simp only [map_eq_pure_bind,aH,aL,hrun]
  rfl
 ·match avs,vs,hl with
  |[],[],_=>exact .tup rfl (by simp)
  |[c],[v],_=>simpa [Jb] using hr 0 c rfl
  |c :: d :: r,v :: u :: q,hl =>
   simp only [Jb];rw [dif_neg (by simp)]
   exact .tup (by simpa using hl) fun i c hc=>by have:=hr i c hc;simpa using this
abbrev xu:=FuncId->List AV->St->(St->Prop)->Prop
def xu.OK (A:Frm->Prop) (P:Program) (D:xu):Prop:=∀ f caps S K,D f caps S K->(∀ vs w,(callFunc f vs).run P w=.ok (.enter f vs) w)/\∀ F,A F->∀ a w ρ own,Holds F S a w ρ own->∀ vs:Array Value,vs.size=caps.length->(∀ (i:Nat) (c:AV),caps[i]?=some c->ARel w (okB w own ρ S.h) ρ F.y c (vs.getD i undef)) ->
 CallsDIn (W none) 0 P f vs .returning w fun e u w'=>∃ v S',e=.returned v/\u=.returning/\K S'/\Gam F S' a w'
def noD:xu:=fun _ _ _ _=>False
def zt:xu.OK A P noD:=fun _ _ _ _ h=>h.elim
def kR (D:xu):List ADf->St->(St->Prop)->Prop
 |[],S,K=>K S
 |.mark id :: ds,S,K=>S.h id=some .mark/\kR D ds { t:=S.t,h:=upd S.h id none,n:=S.n,j:=S.j,d:=ds,m:=S.m } K
 |.call f caps :: ds,S,K=>D f caps { t:=S.t,h:=S.h,n:=S.n,j:=S.j,d:=ds,m:=S.m } fun S'=>S'.d=ds/\kR D ds S' K
def Holds.pop {F:Frm} {S:St} {a:Act} {w:World} {ρ:Nat->Value} {own:Own} (H:Holds F S a w ρ own) {d:ADf} {ds:List ADf} (hd:S.d=d :: ds) :
  ∃ x xs,a.defers=x :: xs/\DfRel w (okB w own ρ S.h) ρ F.y d x/\Holds F { t:=S.t,h:=S.h,n:=S.n,j:=S.j,d:=ds,m:=S.m } { tmps:=a.tmps,defers:=xs } w ρ own:=by
 have h:=H.defs;rw [hd] at h
 generalize hx:a.defers=l at h;cases h with
 |@cons _ x _ xs h1 h2 =>
  refine ⟨x,xs,rfl,h1,H.jay,H.temps,H.obj,H.inj,H.blkOK,fun id hid=>?_,H.nle,H.meq,H.tsz,H.pins,H.ext,H.ownsub,H.still,h2⟩
  obtain ⟨g1,g2,g3,g4⟩:=H.fresh id hid;refine ⟨g1,g2,g3,fun hm=>g4 ?_⟩
  rw [hd,cM];exact dS _ hm
def QaA (w:World) (b:Nat) (o:Obj) (k:Nat):(w.putObj b o).heap[k]?=if k=b/\b < w.heap.size then some o else w.heap[k]?:=by
 simp only [World.putObj,Array.getElem?_setIfInBounds]
 by_cases h:b=k
 ·subst h
  by_cases h2:b < w.heap.size
  ·simp [h2]
  ·simp [h2]
 ·rw [if_neg h,if_neg (by intro e;exact h e.1.symm)]
def Ext.putObj {mod:Nat->Prop} (w:World) (b:Nat) (o:Obj) (h:mod b):Ext mod w (w.putObj b o) :=
 ⟨rfl,rfl,rfl,by simp [World.putObj],fun k _ hn=>by rw [QaA,if_neg (by rintro ⟨e,_⟩;subst e;exact hn h)]⟩
def QZ {D:xu} (hD:xu.OK A P D) {F:Frm} (hF:A F) {fn:Func} {R:Ending->World->Prop}:∀ (ds:List ADf) (S:St) (a:Act) (w:World) {K:St->Prop},S.d=ds->kR D ds S K->Gam F S a w ->
  (∀ S' w',K S'->S'.d=[]->Gam F S' { tmps:=a.tmps,defers:=[] } w'->LeavesInM (W none) 0 P fn a.tmps R [] .returning w')->LeavesInM (W none) 0 P fn a.tmps R a.defers .returning w
 |[],S,a,w,K,hd,h,⟨ρ,own,H⟩,fin=>by
  have hdf:=H.defs;rw [hd] at hdf
  generalize hx:a.defers=l at hdf;cases hdf
  refine fin S w h hd ⟨ρ,own, ?_⟩
  have:a={ tmps:=a.tmps,defers:=[] }:=by rw [<- hx]
  rw [<- this];exact H
 |.mark id :: ds,S,a,w,K,hd,⟨hm,h⟩,⟨ρ,own,H⟩,fin=>by
  obtain ⟨x,xs,hx,hdr,H'⟩:=H.pop hd;rw [hx]
  have hob:=H.obj id _ hm;cases hdr with
  |@mark _ b e =>
   rw [e] at hob;cases hob with
   |mark hb =>
    refine ⟨by simp,.inl ⟨b,_,rfl,run_takeDeferred hb, ?_⟩⟩
    have hxt:Ext (fun k=>k=b) w (w.putObj b (.deferred none)):=Ext.putObj _ _ _ rfl
    have hno:¬ own.all b:=(H.blkOK id _ b hm (by rw [e];rfl)).1
    have H2:=H'.app (dst:=none) (e:={ av:=.junk,hw:=[(id,none)] }) (v':=undef) (w':=w.putObj b (.deferred none)) (ρ':=ρ) (own':=own) (ds:=[]) (fun _ h=>by cases h)
     ((F.stable _ _ _ H.jay).2 _ (hxt.weaken fun k _ hk ho=>hno (hk ▸ ho))) (hxt.weaken fun k _ hk=>.inr ⟨id,.mark,by simp [Eff.keys],hm,by rw [e,hk];rfl⟩) (.inl rfl) (by simp) (fun _ _=>rfl) (by simp) .junk
     (fun i o hi ho=>by simp [Eff.keys] at hi;subst hi;simp [ze,upd_same] at ho) (fun i k o o' b hi hk ho=>by simp [Eff.keys] at hi;subst hi;simp [ze,upd_same] at ho)
     (fun i hi=>by
      simp [Eff.ids,AV.ids,zM] at hi
      subst hi;have:i < S.n:=bm fun hn=>by have:=(H.fresh i hn).1;rw [hm] at this;cases this
      exact aN this (cK _ _)) .nil
    refine QZ hD hF ds _ { tmps:=a.tmps,defers:=xs } _ rfl h ⟨ρ,own, ?_⟩ fin
    simpa [St.app,put,ze,Act.put] using H2
 |.call f caps :: ds,S,a,w,K,hd,h,⟨ρ,own,H⟩,fin=>by
  obtain ⟨x,xs,hx,hdr,H'⟩:=H.pop hd;rw [hx]
  cases hdr with
  |@call _ _ vs h1 h2 =>
   obtain ⟨hent,hc⟩:=hD f caps _ _ h;refine ⟨by simp,.inr ⟨fun h=>by simp [W] at h,.func f,vs,f,#[]++vs,rfl, ?_,fun g _=>trivial, ?_⟩⟩
   ·simp [invoke,hent]
   ·refine CallsDIn.mono (n:=0) (hc F hF { tmps:=a.tmps,defers:=xs } w ρ own H' (#[]++vs) (by simpa using h1) fun i c hc=>by have:=h2 i c hc;simpa using this) ?_
    rintro e u w' ⟨v,S',rfl,rfl,⟨hS'd,hl⟩,hg⟩;exact QZ hD hF ds S' { tmps:=a.tmps,defers:=xs } w' hS'd hl hg fin
def Ub:Nat->List AV->List (Nat × AV)
 |_,[]=>[]
 |i,a :: az=>(i,a) :: Ub (i+1) az
def Z7 (k:Nat):∀ (az:List AV) (i t:Nat),i<=t->(asg (Ub i az) t=match az[t - i]? with|some a=>a|none=>.junk)
 |[],i,t,_=>by simp [Ub,asg]
 |a :: az,i,t,h=>by
  rw [Ub]
  by_cases ht:t=i
  ·subst ht;simp [asg]
  ·rw [QgO _ _ _ _ ht,Z7 k az (i+1) t (by omega)]
   rw [show t - i=(t - (i+1))+1 by omega,bt]
def Fin (S:St) (rv v:AV) (n0:Nat) (h1:Nat->Option AObj) (dj:Nat):Prop:=∃ (Z:Nat->Option Nat) (hf:Nat->Option AObj),AV.le hf Z rv v /\
 (∀ i o1,h1 i=some o1->(∃ c o,Z i=some c/\S.h c=some o/\AObj.le hf Z o o1)\/(Z i=none/\VV o1)) /\
 (∀ i o k o' c,h1 i=some o->h1 k=some o'->Z i=some c->Z k=some c->i=k) /\
 (∀ i o,hf i=some o->S.h i=some o/\∀ j o1,h1 j=some o1->Z j ≠ some i)/\(∀ i,i < n0->Z i=some i)/\S.j=dj
def Vt (O:Tys) (D:xu) (fn:Func) (Q:St->AV->Prop):Exit->St->Prop
 |.normal,S=>kR D S.d S fun S'=>ZJ O S' fn.results.toList fun vs=>Q S' (Jb vs)
 |.ret,S=>kR D S.d S fun S'=>ZJ O S' fn.results.toList fun vs=>Q S' (Jb vs)
 |_,_=>False
structure FnData (P:Program) (O:Tys) (f:FuncId) (fn:Func) (c:Code):Prop where
 ok:zW P O
 func:P.funcs[f]?=some fn
 body:fn.body=some c
 enter:∀ vs w,(callFunc f vs).run P w=.ok (.enter f vs) w
 dst:kI fn.ntmps c=true
def wW (az:List AV) (n0:Nat) (h0:Nat->Option AObj):St:={ t:=asg (Ub 0 az),h:=h0,n:=n0,m:=n0 }
def Qhc {F:Frm} {S:St} {a:Act} {w:World} {ρ:Nat->Value} {own:Own} (H:Holds F S a w ρ own) {rv v:AV} {n0:Nat} {h1:Nat->Option AObj} {dj:Nat} (hq:Fin S rv v n0 h1 dj) (hn0:∀ i o,F.H0 i=some o->i < n0) :
  ∃ ρ',Hp F.J F.y h1 dj own w ρ'/\(∀ x,ARel w (okB w own ρ S.h) ρ F.y rv x->ARel w (okB w own ρ' h1) ρ' F.y v x)/\(∀ i o,F.H0 i=some o->ρ' i=F.ρ0 i) /\
   ∀ i o b,h1 i=some o->blk (ρ' i)=some b->F.w0.heap.size<=b\/F.owns0 b:=by
 obtain ⟨Z,hf,hle,hh,hinj,hfr,hm,hj⟩:=hq
 let ρ':Nat->Value:=fun j=>match Z j with|some i=>ρ i|none=>.slice none 0 0
 have hσ:∀ j i,Z j=some i->ρ' j=ρ i:=fun j i h=>by simp only [ρ',h]
 have hσ0:∀ j,Z j=none->ρ' j=.slice none 0 0:=fun j h=>by simp only [ρ',h]
 have hok:∀ b,okB w own ρ S.h b->okB w own ρ' h1 b:=by
  rintro b ⟨g1,g2,g3⟩;refine ⟨g1,g2,fun i o hi hb=>?_⟩
  rcases hh i o hi with ⟨k,o',hk,ho',_⟩|⟨hn,_⟩
  ·rw [hσ i k hk] at hb;exact g3 k o' ho' hb
  ·rw [hσ0 i hn] at hb;simp [blk] at hb
 have hrow:∀ i ox b,hf i=some ox->blk (ρ i)=some b->okB w own ρ' h1 b:=by
  intro i ox b hi hb;obtain ⟨g1,g2⟩:=hfr i _ hi
  refine ⟨(H.obj i _ g1).lt hb,fun hp=>(H.blkOK i _ b g1 hb).1 (own.sub _ hp),fun j o hj hbj=>?_⟩
  rcases hh j o hj with ⟨k',o',hk',ho',_⟩|⟨hn,_⟩
  ·rw [hσ j k' hk'] at hbj
   have:=H.inj k' i o' _ b ho' g1 hbj hb;subst this
   exact g2 j o hj hk'
  ·rw [hσ0 j hn] at hbj;simp [blk] at hbj
 have hobjf:∀ i o,hf i=some o->ORel w (okB w own ρ S.h) ρ F.y o (ρ i):=fun i o hi=>H.obj i o (hfr i o hi).1
 refine ⟨ρ',⟨hj ▸ H.jay,fun i o hi=>?_,fun i k o o' b hi hk hbi hbk=>?_,fun i o b hi hb=>?_⟩,fun x hx=>AV.le_rel hobjf hok hrow hσ hσ0 hx v hle,fun i o hi=>?_,fun i o b hi hb=>?_⟩
 ·rcases hh i o hi with ⟨c,ob,hc,hob,hle⟩|⟨hn,he⟩
  ·rw [hσ i c hc];exact AObj.le_rel hobjf hok hrow hσ hσ0 (H.obj c ob hob) hle
  ·rw [hσ0 i hn];exact KE he
 ·rcases hh i o hi with ⟨c,ob,hc,hob,_⟩|⟨hn,_⟩
  ·rcases hh k o' hk with ⟨c',ob',hc',hob',_⟩|⟨hn,_⟩
   ·rw [hσ i c hc] at hbi
    rw [hσ k c' hc'] at hbk;have:=H.inj c c' ob ob' b hob hob' hbi hbk
    subst this;exact hinj i o k o' c hi hk hc hc'
   ·rw [hσ0 k hn] at hbk;simp [blk] at hbk
  ·rw [hσ0 i hn] at hbi;simp [blk] at hbi
 ·rcases hh i o hi with ⟨c,ob,hc,hob,_⟩|⟨hn,_⟩
  ·rw [hσ i c hc] at hb;exact (H.blkOK c ob b hob hb).1
  ·rw [hσ0 i hn] at hb;simp [blk] at hb
 ·rw [hσ i i (hm i (hn0 i o hi))];exact H.pins i o hi
 ·rcases hh i o hi with ⟨c,ob,hc,hob,_⟩|⟨hn,_⟩
  ·rw [hσ i c hc] at hb;exact (H.blkOK c ob b hob hb).2
  ·rw [hσ0 i hn] at hb;simp [blk] at hb
def Qf0 (y:Value) (J:JJ) (hJ:J.Stable) (own:Own) (w:World) (ρ:Nat->Value) (h0:Nat->Option AObj) (n0 nt:Nat) (hh0:∀ i o,h0 i=some o->i < n0/\∀ id ∈ o.ids,id < n0):Frm :=
 {r:=none,y,J,stable:=hJ,w0:=w,ρ0:=ρ,H0:=h0,own0:=own,n0,nt,pinn:=fun i o h=>(hh0 i o h).1,recs:=fun _ h=>by cases h }
def Xe {y:Value} {J:JJ} (hJ:J.Stable) {own:Own} {w:World} {ρ:Nat->Value} {az:List AV} {n0 nt:Nat} {h0:Nat->Option AObj} (has:az.length<=nt) (hids:∀ a ∈ az,∀ id ∈ a.ids,id < n0) (hh0:∀ i o,h0 i=some o->i < n0/\∀ id ∈ o.ids,id < n0)
  {vs:Array Value} (hp:Hp J y h0 0 own w ρ) (hsz:vs.size=az.length) (hrel:∀ i c,az[i]?=some c->ARel w (okB w own ρ h0) ρ y c (vs.getD i undef)) :
  Gam (Qf0 y J hJ own w ρ h0 n0 nt hh0) (wW az n0 h0) { tmps:=vs++Array.replicate (nt - vs.size) undef,defers:=[] } w:=by
 have hlen:vs.size<=nt:=by omega
 refine ⟨ρ,own,hp.jay,fun t=>?_,hp.obj,hp.inj,fun i o b hi hb=>⟨hp.off i o b hi hb,.inr ⟨i,o,hi,hb⟩⟩,fun id hid=>⟨?_,fun t hm=>?_,fun i o hi hm=>?_,by simp [wW]⟩,ag _,rfl,by simp [Qf0];omega,fun _ _ _=>rfl,Ext.refl _ _,fun b hb=>.inl hb,fun _=>rfl,.nil⟩
 ·show ARel w _ ρ y (asg (Ub 0 az) t) _
  rw [Z7 0 az 0 t (af _),bw];cases hc:az[t]? with
  |none=>exact .junk
  |some c =>
   have ht:t < vs.size:=by rw [hsz];exact (aq.1 hc).1
   have e:(vs++Array.replicate (nt - vs.size) undef).getD t undef=vs.getD t undef:=by simp [cP,ht]
   rw [e];exact hrel t c hc
 ·show h0 id=none
  cases ho:h0 id with
  |none=>rfl
  |some o=>have:=(hh0 id o ho).1;have:n0<=id:=hid;omega
 ·simp only [wW] at hm
  rw [Z7 0 az 0 t (af _),bw] at hm;cases hc:az[t]? with
  |none=>rw [hc] at hm;simp [AV.ids] at hm
  |some c=>rw [hc] at hm;have:=hids c (ao hc) id hm;have:n0<=id:=hid;omega
 ·have:=(hh0 i o hi).2 id hm;have:n0<=id:=hid;omega
def Qjn (F:Frm) (E:Value->Ending) (h1:Nat->Option AObj) (v:AV) (dj:Nat):Ending->World->Prop:=fun e w'=>∃ v' own' ρ',e=E v'/\Hp F.J F.y h1 dj own' w' ρ'/\ARel w' (okB w' own' ρ' h1) ρ' F.y v v'/\Ext (fun b=>F.own0.prv b\/∃ i o,F.H0 i=some o/\blk (F.ρ0 i)=some b) F.w0 w' /\
 (∀ b,own'.prv b->F.own0.prv b\/F.w0.heap.size<=b)/\(dj=0->own'=F.own0)/\(∀ i o,F.H0 i=some o->ρ' i=F.ρ0 i)/\(∀ i o b,h1 i=some o->blk (ρ' i)=some b->F.w0.heap.size<=b\/∃ k o',F.H0 k=some o'/\blk (F.ρ0 k)=some b)
def VS {F:Frm} {E:Value->Ending} {S:St} {a:Act} {w:World} {ρ:Nat->Value} {own:Own} (H:Holds F S a w ρ own) {rv v:AV} {n0:Nat} {h1:Nat->Option AObj} {dj:Nat} (hq:Fin S rv v n0 h1 dj) (hn0:∀ i o,F.H0 i=some o->i < n0) {v':Value} (hv:ARel w (okB w own ρ S.h) ρ F.y rv v'):Qjn F E h1 v dj (E v') w:=by
 obtain ⟨ρ3,hp3,hv3,hpin3,hbl3⟩:=Qhc H hq hn0;obtain ⟨_,_,_,_,_,_,_,hj3⟩:=hq
 exact ⟨v',own,ρ3,rfl,hp3,hv3 _ hv,H.ext,H.ownsub,fun hd=>H.still (hj3.trans hd),hpin3,hbl3⟩
def Wh {O:Tys} (hΓ:zW P O) {D:xu} (hD:xu.OK A P D) {F:Frm} (hF:A F) {fn:Func} {v:AV} {n0:Nat} {h1:Nat->Option AObj} {dj:Nat} (hn0:∀ i o,F.H0 i=some o->i < n0) {S:St} {a:Act} {w:World} (hg:Gam F S a w)
  (hl:kR D S.d S fun S'=>ZJ O S' fn.results.toList fun vs=>Fin S' (Jb vs) v n0 h1 dj):LeavesInM (W none) 0 P fn a.tmps (Qjn F .returned h1 v dj) a.defers .returning w :=
 QZ hD hF S.d S a w rfl hl hg fun S2 w2 hres _ ⟨ρ2,own2,H2⟩=>by
  obtain ⟨avs,v',hQ,hrun,hrv⟩:=ZQ hΓ H2 hres;exact ⟨v',hrun,VS H2 hQ hn0 hrv⟩
def Fn.of {B:Ctx->Prop} {O:Tys} {D:xu} {f:FuncId} {fn:Func} {c:Code} (hd:FnData P O f fn c) {az:List AV} {n0:Nat} {h0:Nat->Option AObj} {v:AV} {h1:Nat->Option AObj} {dj:Nat}
  (has:az.length<=fn.ntmps) (hids:∀ a ∈ az,∀ id ∈ a.ids,id < n0) (hh0:∀ i o,h0 i=some o->i < n0/\∀ id ∈ o.ids,id < n0)
  (hA:∀ F,B ⟨F.y,F.J,F.own0,F.w0,F.ρ0⟩->F.H0=h0->F.r=none->A F) (hD:xu.OK A P D)
  (hs:Sym A P c (wW az n0 h0) (Vt O D fn fun S rv=>Fin S rv v n0 h1 dj)):Fn B P f az h0 v h1 dj:=by
 refine ⟨hd.enter,fun y J hJ own w ρ vs hB hp hsz hrel=>?_⟩
 have hF:A (Qf0 y J hJ own w ρ h0 n0 fn.ntmps hh0):=hA _ hB rfl rfl;have hbody:=hs _ hF hd.dst _ w (Xe hJ has hids hh0 hp hsz hrel)
 refine Jp (r:=none) (callsIn_of_wp_marks hd.func hd.body trivial (wpIn_mono hbody ?_))
 rintro e a' w' ⟨S',hk,hg'⟩;cases e with
 |normal=>exact Wh hd.ok hD hF (fun i o hi=>(hh0 i o hi).1) hg' hk
 |ret=>exact Wh hd.ok hD hF (fun i o hi=>(hh0 i o hi).1) hg' hk
 |_=>exact hk.elim
def FnX.of {B:Ctx->Prop} {O:Tys} {f:FuncId} {fn:Func} {c:Code} (hd:FnData P O f fn c) {az:List AV} {n0:Nat} {h0 h1:Nat->Option AObj} {ch:List PanicEntry}
  (has:az.length<=fn.ntmps) (hids:∀ a ∈ az,∀ id ∈ a.ids,id < n0) (hh0:∀ i o,h0 i=some o->i < n0/\∀ id ∈ o.ids,id < n0)
  (hA:∀ F,B ⟨F.y,F.J,F.own0,F.w0,F.ρ0⟩->F.H0=h0->F.r=none->A F)
  (hs:Sym A P c (wW az n0 h0) fun e S=>e=.panic ch/\S.d=[]/\Fin S .junk .junk n0 h1 0):FnX ch B P f az h0 h1:=by
 refine ⟨hd.enter,fun y J hJ own w ρ vs hB hp hsz hrel=>?_⟩
 have hF:A (Qf0 y J hJ own w ρ h0 n0 fn.ntmps hh0):=hA _ hB rfl rfl;have hbody:=hs _ hF hd.dst _ w (Xe hJ has hids hh0 hp hsz hrel)
 refine Jp (r:=none) (callsIn_of_wp_marks hd.func hd.body trivial (wpIn_mono hbody ?_))
 rintro e a' w' ⟨S',⟨rfl,hds,hq⟩,ρ2,own2,H2⟩;have hdf:=H2.defs
 rw [hds] at hdf;generalize hx:a'.defers=l at hdf
 cases hdf;show LeavesInM (W none) 0 P fn a'.tmps _ a'.defers (.panicking ch) w'
 rw [hx];exact VS (E:=fun _=>.panicked ch) H2 hq (fun i o hi=>(hh0 i o hi).1) (v':=undef) .junk
def retR (O:Tys) (D:xu) (fn:Func) (fr:FuncId) (ok:List PanicEntry->Prop) (Q:St->AV->Prop):Exit->St->Prop
 |.normal,S=>kR D S.d S fun S'=>ZJ O S' fn.results.toList fun vs=>Q S' (Jb vs)
 |.ret,S=>kR D S.d S fun S'=>ZJ O S' fn.results.toList fun vs=>Q S' (Jb vs)
 |.panic ch,S=>ok ch/\S.d=[.call fr []]/\ZJ O { t:=S.t,h:=S.h,n:=S.n,j:=S.j,d:=[],m:=S.m } fn.results.toList fun vs=>Q { t:=S.t,h:=S.h,n:=S.n,j:=S.j,d:=[],m:=S.m } (Jb vs)
 |_,_=>False
end Go.Sym
namespace Go.Sym
open Go Go.MapKept
variable {A : Frm -> Prop} {P : Program}
open Classical in
noncomputable def vg:List (Value × Value)->Value->Option Value
 |[],_=>none
 |p :: ps,k=>if p.1=k then some p.2 else vg ps k
open Classical in
noncomputable def Q7:List (Value × Value)->Value->Value->List (Value × Value)
 |[],k,v=>[(k,v)]
 |p :: ps,k,v=>if p.1=k then (k,v) :: ps else p :: Q7 ps k v
def KN {es:List (Value × Value)} {k:Value} (h:∀ p ∈ es,p.1 ≠ k):vg es k=none:=by
 induction es with
 |nil=>rfl
 |cons p es ih=>rw [vg,if_neg (h p aV)];exact ih fun q hq=>h q (aQ _ hq)
def Qd6 {es:List (Value × Value)} {k v:Value} (h:∀ p ∈ es,p.1 ≠ k):Q7 es k v=es++[(k,v)]:=by
 induction es with
 |nil=>rfl
 |cons p es ih=>rw [Q7,if_neg (h p aV),ih fun q hq=>h q (aQ _ hq)];rfl
def XV {es:List (Value × Value)} {k:Value} {j:Nat} {p:Value × Value} (hn:(es.map (·.1)).Nodup) (h:es[j]?=some p) (hk:p.1=k):vg es k=some p.2:=by
 induction es generalizing j with
 |nil=>simp at h
 |cons q es ih =>
  rw [aw,cz] at hn;cases j with
  |zero=>cases h;rw [vg,if_pos hk]
  |succ j =>
   have h':es[j]?=some p:=by simpa using h
   rw [vg,if_neg,ih hn.2 h'];intro e
   exact hn.1 (by rw [e,<- hk];exact aj.2 ⟨p,ao h',rfl⟩)
def QdA {es:List (Value × Value)} {k v:Value} {j:Nat} {p:Value × Value} (hn:(es.map (·.1)).Nodup) (h:es[j]?=some p) (hk:p.1=k):Q7 es k v=es.set j (k,v):=by
 induction es generalizing j with
 |nil=>simp at h
 |cons q es ih =>
  rw [aw,cz] at hn;cases j with
  |zero=>cases h;rw [Q7,if_pos hk];rfl
  |succ j =>
   have h':es[j]?=some p:=by simpa using h
   rw [Q7,if_neg,ih hn.2 h']
   ·rfl
   ·intro e
    exact hn.1 (by rw [e,<- hk];exact aj.2 ⟨p,ao h',rfl⟩)
open Classical in
noncomputable def Xn:List (Value × Value)->Value->Nat
 |[],_=>0
 |p :: ps,k=>if p.1=k then 0 else Xn ps k+1
noncomputable def W9 (es:List (Value × Value)) (k z:Value):List (Value × Value):=match vg es k with
 |some _=>es
 |none=>es++[(k,z)]
def MOK (Q:Value->Prop) (es:List (Value × Value)):Prop:=(es.map (·.1)).Nodup/\∀ p ∈ es,Q p.1
def MOK.nil (Q:Value->Prop):MOK Q []:=⟨.nil,by simp⟩
def Ko {es:List (Value × Value)} {k v:Value} {x:Value}:x ∈ (Q7 es k v).map (·.1) ↔ x=k\/x ∈ es.map (·.1):=by
 induction es with
 |nil=>simp [Q7]
 |cons p es ih =>
  rw [Q7];split
  ·rename_i h;subst h;simp
  ·rw [aw,ae,ih,aw,ae]
   constructor
   ·rintro (h|h|h)
    ·exact .inr (.inl h)
    ·exact .inl h
    ·exact .inr (.inr h)
   ·rintro (h|h|h)
    ·exact .inr (.inl h)
    ·exact .inl h
    ·exact .inr (.inr h)
def MOK.set {Q:Value->Prop} {es:List (Value × Value)} (h:MOK Q es) {k v:Value} (hk:Q k):MOK Q (Q7 es k v):=by
 constructor
 ·have hn:=h.1
  clear h
  induction es with
  |nil=>simp [Q7]
  |cons p es ih =>
   rw [aw,cz] at hn;rw [Q7]
   split
   ·rename_i e;subst e;simpa using hn
   ·rename_i e
    rw [aw,cz];refine ⟨fun hm=>?_,ih hn.2⟩
    rcases Ko.1 hm with e'|e'
    ·exact e e'
    ·exact hn.1 e'
 ·intro p hp
  have:p.1 ∈ (Q7 es k v).map (·.1):=aj.2 ⟨p,hp,rfl⟩
  rcases Ko.1 this with e|e
  ·rw [e];exact hk
  ·obtain ⟨q,hq,e⟩:=aj.1 e
   rw [<- e];exact h.2 q hq
def QaO {k:IntKind} {ks:List (Option IntKind)} {n:Int} {xs:List Value}:qa (some k :: ks) (.int k n :: xs)=qa ks xs:=by simp [qa]
def UA {ks:List (Option IntKind)} {b:Bool} {xs:List Value}:qa (none :: ks) (.bool b :: xs)=qa ks xs:=by simp [qa]
def Qa1:qa [] []=True:=by simp [qa]
def vTL (l:List Value):l.toArray.toList=l:=rfl
def Qa4 {ops:Array Oper} {o:Oper} {S:St} (hw:Want ops o S) {t:TypeId} (ho:o.op=.makeMap t none) :
  VE A P ops o { av:=.mp S.n,hw:=[(S.n,some (.map []))],news:=[S.n],n:=S.n+1 } S:=by
 have hd:∀ c,o.op ≠ .defer c:=by simp [ho]
 have hI:∀ id ∈ Eff.ids { av:=.mp S.n,hw:=[(S.n,some (.map []))],news:=[S.n],n:=S.n+1 },id < S.n+1:=by
  intro id hid;simp only [Eff.ids,AV.ids,zM,AObj.ids,bf,bT,au,ae,aO,or_false] at hid
  rcases hid with rfl|rfl <;> omega
 refine ⟨fun F hF hds S2 a w hag hfr ⟨ρ,own,H⟩=>?_,hI,by simp⟩
 rw [wN hw hag H,if_pos rfl];have hrun:(execOp a.eval o).run P w=.ok (.value (.map (some w.heap.size))) (w.alloc (.map #[] 0)):=by
  simp [execOp,ho,Instr.makeMap,newObj,Sem.run]
 refine wP hd hrun (jf (ρ':=upd ρ S.n (.map (some w.heap.size))) (own':=own) ?_)
 have hx:Ext (fun _=>False) w (w.alloc (.map #[] 0)):=Ext.alloc _ _ _
 have hj:F.J S2.j own (w.alloc (.map #[] 0)):=(F.stable _ _ _ H.jay).2 _ (hx.weaken fun _ _ h=>h.elim)
 refine H.app (vI hds) hj (hx.weaken fun _ _ h=>h.elim) (.inl rfl) (by simp [Eff.keys]) (fun i hi=>upd_ne _ _ _ _ (by simpa using hi)) (by simpa using hfr) (.mp (upd_same _ _ _) rfl) ?_ ?_ ?_ .nil
 ·intro i ob hi hob
  simp only [Eff.keys,aw,aX,aM] at hi;subst hi
  simp only [ze,upd_same,ak] at hob;subst hob
  rw [upd_same];refine ⟨.map (QA _ _) (by simp) (by simp) (by simp) (by simp),fun b hb=>?_⟩
  simp [blk] at hb
  subst hb;exact ⟨fun ho=>by have:=(F.stable _ _ _ H.jay).1 _ ho;omega,.inl (ag _)⟩
 ·intro i k o1 o2 b hi hk _ _ _ _
  simp only [Eff.keys,aw,aX,aM] at hi hk;rw [hi,hk]
 ·intro id hid
  exact aN (hI id hid) (bD _ _)
def Jo:List AV->Option (List Value)
 |[]=>some []
 |.v x :: cs=>(Jo cs).map (x :: ·)
 |_ :: _=>none
def AV.toV:AV->Option Value
 |.v x=>some x
 |.agg cs=>(Jo cs).map fun l=>.agg l.toArray
 |_=>none
def Vo {w:World} {ok:Nat->Prop} {ρ:Nat->Value} {y:Value}:∀ {cs:List AV} {l:List Value} {vs:List Value},Jo cs=some l->vs.length=cs.length ->
  (∀ (i:Nat) (c:AV),cs[i]?=some c->ARel w ok ρ y c (vs.getD i undef))->vs=l
 |[],l,vs,h,hl,_=>by simp [Jo] at h;subst h;exact bu (by simpa using hl)
 |c :: cs,l,vs,h,hl,hr=>by
  cases vs with
  |nil=>simp at hl
  |cons u vs =>
   cases c <;> simp only [Jo] at h <;> first|cases h|skip
   rename_i x;obtain ⟨l',h',rfl⟩:=aA.1 h
   have h0:=hr 0 _ rfl;have e:u=x:=(qx (by simpa using h0)).1
   have e2:=Vo (vs:=vs) h' (by simpa using hl) fun i c hc=>by simpa using hr (i+1) c (by simpa using hc)
   rw [e,e2]
def Wi {w:World} {ok:Nat->Prop} {ρ:Nat->Value} {y:Value} {c:AV} {u x:Value} (h:c.toV=some u) (hr:ARel w ok ρ y c x):x=u:=by
 cases c <;> simp only [AV.toV] at h <;> first|cases h|skip
 case v=>exact (qx hr).1
 case agg cs =>
  obtain ⟨l,h',rfl⟩:=aA.1 h;cases hr with
  |@agg _ vs hs hall =>
   have:=Vo (vs:=vs.toList) h' (by simpa using hs) fun i c hc=>by simpa using hall i c hc
   rw [<- this]
def LY (agg:Bool) (v:Value):Bool:=match agg,v with
 |true,.agg vs=>vs.toList.all (·.oneCell')
 |true,_=>false
 |false,v=>v.oneCell'
def vAV (v:Value):AV:=match v with
 |.agg vs=>.agg (vs.toList.map .v)
 |v=>.v v
def QcJ {w:World} {ok:Nat->Prop} {ρ:Nat->Value} {y:Value} {b:Bool} {v:Value} (h:LY b v=true):ARel w ok ρ y (vAV v) v:=by
 have one:∀ v:Value,v.oneCell'=true->(∀ vs,v ≠ .agg vs)->ARel w ok ρ y (vAV v) v:=fun v hv hn=>by
  cases v <;> first|exact absurd rfl (hn _)|exact .v hv
 by_cases ha:∃ vs,v=.agg vs
 ·obtain ⟨vs,rfl⟩:=ha
  cases b
  ·simp [LY,Value.oneCell'] at h
  ·simp only [LY] at h
   refine .agg (by simp) fun i c hc=>?_
   rw [aC] at hc;obtain ⟨u,hu,rfl⟩:=aA.1 hc
   have hu':vs[i]?=some u:=by simpa using hu
   have:vs.getD i undef=u:=by simp [hu']
   rw [this];exact .v (bq.1 h u (ao hu))
 ·have hn:∀ vs,v ≠ .agg vs:=fun vs e=>ha ⟨vs,e⟩
  cases b
  ·exact one v (by simpa [LY] using h) hn
  ·cases v <;> first|exact absurd rfl (hn _)|simp [LY] at h
def ZOK (P:Program) (e:TypeId) (z:AV):Prop:=∀ w:World,∃ v,(zeroValue e).run P w=.ok v w/\∀ (w':World) (ok:Nat->Prop) (ρ:Nat->Value) (y:Value),ARel w' ok ρ y z v
def yt (q:KeyInfo):Option Value->Prop × AV × Bool
 |some v=>(LY q.agg v=true,vAV v,true)
 |none=>(∀ id,id ∉ q.z.ids,q.z,false)
def Qcq (v:Value):(vAV v).ids=[]:=by
 cases v <;> first|rfl|skip
 case agg vs =>
  simp only [vAV,AV.ids];refine List.eq_nil_iff_forall_not_mem.2 fun id h=>?_
  obtain ⟨c,hc,hid⟩:=AV.mem_idsL.1 h;obtain ⟨u,_,rfl⟩:=aj.1 hc
  simp [AV.ids] at hid
def Qdu {es:List (Value × Value)} {k:Value} (h:∀ p ∈ es,p.1 ≠ k):Xn es k=es.length:=by
 induction es with
 |nil=>rfl
 |cons p es ih=>rw [Xn,if_neg (h p aV),ih fun q hq=>h q (aQ _ hq)];rfl
def Qdy {es:List (Value × Value)} {k:Value} {j:Nat} {p:Value × Value} (hn:(es.map (·.1)).Nodup) (h:es[j]?=some p) (hk:p.1=k):Xn es k=j:=by
 induction es generalizing j with
 |nil=>simp at h
 |cons q es ih =>
  rw [aw,cz] at hn;cases j with
  |zero=>cases h;rw [Xn,if_pos hk]
  |succ j =>
   have h':es[j]?=some p:=by simpa using h
   rw [Xn,if_neg,ih hn.2 h'];intro e
   exact hn.1 (by rw [e,<- hk];exact aj.2 ⟨p,ao h',rfl⟩)
def XM {entries:Array MapEntry} {clock:Nat} {k v:Value} (h:∀ (i:Nat) (e:MapEntry),entries[i]?=some e->e.born=i) (hc:clock=entries.size):∀ (i:Nat) (e:MapEntry),(entries.push { key:=k,val:=v,born:=clock })[i]?=some e->e.born=i:=by
 intro i e hi;rw [Array.getElem?_push] at hi
 split at hi
 ·rename_i h1;cases hi;rw [h1];exact hc
 ·exact h i e hi
def ZR {entries:Array MapEntry} {n:Nat} {f:MapEntry->MapEntry} (h:∀ (i:Nat) (e:MapEntry),entries[i]?=some e->e.born=i) (hf:∀ e,(f e).born=e.born):∀ (i:Nat) (e:MapEntry),(entries.modify n f)[i]?=some e->e.born=i:=by
 intro i e hi;rw [Array.getElem?_modify] at hi
 split at hi
 ·obtain ⟨e',he',rfl⟩:=aA.1 hi
  rw [hf];exact h i e' he'
 ·exact h i e hi
def VE.setRet {ops:Array Oper} {o:Oper} {S:St} {id:Nat} {ob ob':AObj} {hr:List Nat} {av:AV} (hav:∀ i ∈ av.ids,i < S.n) (hS:Wf S) (hw:Want ops o S) (hd:∀ c,o.op ≠ .defer c) (hob:S.h id=some ob) (hidr:id ∈ hr) (hids:∀ i ∈ ob'.ids,i < S.n)
  (h:∀ F S2 a w ρ own,Agree ops o { av:=av,hw:=[(id,some ob')],hr:=hr,n:=S.n } S S2->Holds F S2 a w ρ own->S2.h id=some ob ->
   ∃ u w',(execOp a.eval o).run P w=.ok (.value u) w'/\Ext (fun b=>blk (ρ id)=some b) w w'/\ORel w' (okB w own ρ S2.h) ρ F.y ob' (ρ id)/\∀ (w':World) (ok:Nat->Prop) (ρ:Nat->Value) (y:Value),ARel w' ok ρ y av u) :
  VE A P ops o { av:=av,hw:=[(id,some ob')],hr:=hr,n:=S.n } S:=by
 have hlt:id < S.n:=bm fun hn=>by have:=(hS id hn).1;rw [hob] at this;cases this
 have hI:∀ i ∈ Eff.ids { av:=av,hw:=[(id,some ob')],hr:=hr,n:=S.n },i < S.n:=by
  intro i hi;simp only [Eff.ids,zM,bf,au,ae] at hi
  have hi:i ∈ av.ids\/i=id\/i ∈ ob'.ids:=by simpa using hi
  rcases hi with hi|rfl|hi
  ·exact hav i hi
  ·exact hlt
  ·exact hids i hi
 refine ⟨fun F hF hds S2 a w hag _ ⟨ρ,own,H⟩=>?_,hI,by simp⟩
 rw [wN hw hag H,if_pos rfl];have hob2:S2.h id=some ob:=(hag.2.1 id hidr).trans hob
 obtain ⟨u,w',hrun,hx,horel,hu⟩:=h F S2 a w ρ own hag H hob2;refine wP hd hrun (jf (ρ':=ρ) (own':=own) ?_)
 have hno:∀ b,own.all b->blk (ρ id) ≠ some b:=fun b ho hb=>(H.blkOK id ob b hob2 hb).1 ho
 have hj:F.J S2.j own w':=(F.stable _ _ _ H.jay).2 _ (hx.weaken fun b _ hb ho=>hno b ho hb)
 have hok:∀ b,okB w own ρ S2.h b->okB w' own ρ (upd S2.h id (some ob')) b/\w'.heap[b]?=w'.heap[b]?:=by
  rintro b ⟨h1,h2,h3⟩;refine ⟨⟨aN h1 hx.size,h2,fun i o hi hb=>?_⟩,rfl⟩
  by_cases hin:i=id
  ·subst hin;exact h3 i ob hob2 hb
  ·rw [upd_ne _ _ _ _ hin] at hi;exact h3 i o hi hb
 refine H.app (vI hds) hj (hx.weaken fun b _ hb=>.inr ⟨id,ob,by simp [Eff.keys],hob2,hb⟩) (.inl rfl) (by simp [Eff.keys]) (fun i _=>rfl) (by simp) (hu _ _ _ _) ?_ ?_ ?_ .nil
 ·intro i o1 hi ho1
  simp only [Eff.keys,aw,aX,aM] at hi;subst hi
  simp only [ze,upd_same,ak] at ho1;subst ho1
  exact ⟨horel.mono hok (fun _ _=>rfl) (fun _ _=>rfl),fun b hb=>⟨(H.blkOK i ob b hob2 hb).1,.inr ⟨i,ob,by simp [Eff.keys],hob2,hb⟩⟩⟩
 ·intro i k o1 o2 b hi hk _ _ _ _
  simp only [Eff.keys,aw,aX,aM] at hi hk;rw [hi,hk]
 ·intro i hi
  exact aN (hI i hi) (bD _ _)
section maps
variable {ops : Array Oper} {o : Oper} {S : St} {t kt e : TypeId} {x k : Operand} {i : TI} {j : KeyInfo} {Q : Value -> Prop} {id : Nat} {es : List (Value × Value)} {kv : Value}
def RZ {F:Frm} {S2:St} {a:Act} {w:World} {ρ:Nat->Value} {own:Own} (H:Holds F S2 a w ρ own) (hm:S2.h id=some (.map es)) :
  ∃ b entries clock,ρ id=.map (some b)/\w.heap[b]?=some (.map entries clock)/\entries.toList.map (fun e=>(e.key,e.val))=es/\(∀ (i:Nat) (e:MapEntry),entries[i]?=some e->e.born=i)/\clock=entries.size/\entries.size<=maxLen:=by
 have h:=H.obj id _ hm;generalize hv:ρ id=v at h
 cases h with
 |map h1 h2 h3 h4 h5=>exact ⟨_,_,_,rfl,h1,h2,h3,h4,h5⟩
def Qel (hS:Wf S) (hw:Want ops o S) {c:Bool} (ho:o.op=.lookup t x k c) (ht:TyFact P t i) (htd:i.td=.map kt e) (hQ:MKey P kt Q) (hz:ZOK P e j.z)
  (hx:ev S x=.mp id) (hm:S.h id=some (.map es)) (hok:MOK Q es) (hk:(ev S k).toV=some kv) (hkq:Q kv) (hr:(yt j (vg es kv)).1) :
  VE A P ops o { av:=bif c then .tup [(yt j (vg es kv)).2.1,.v (.bool (yt j (vg es kv)).2.2)] else (yt j (vg es kv)).2.1,hr:=[id],n:=S.n } S:=by
 obtain ⟨d,hd,hdok⟩:=ht.under;rw [htd] at hdok
 simp only [TD.ok] at hdok;subst hdok
 have hnid:∀ i,i ∉ (yt j (vg es kv)).2.1.ids:=by
  intro i hi;cases hg:vg es kv with
  |none=>rw [hg] at hi hr;exact hr i hi
  |some v=>rw [hg] at hi;simp [yt,Qcq] at hi
 refine VE.val hw (by simp [ho]) (fun i hi=>?_) fun F S2 a w ρ own hag H=>?_
 ·cases c
  ·exact absurd hi (hnid i)
  ·simp only [cond_true,AV.ids,AV.idsL,bf] at hi
   exact absurd hi (hnid i)
 have h1:=qm H x;rw [hag.ev (x:=x) (by simp [ho,Op.operands]),hx] at h1
 have h2:=Wi (by rw [hag.ev (x:=k) (by simp [ho,Op.operands])];exact hk) (qm H k)
 have hm2:S2.h id=some (.map es):=(hag.2.1 id (by simp)).trans hm
 obtain ⟨b,entries,clock,hρ,hb,hes,_,_,_⟩:=RZ H hm2;have h1':a.eval x=.map (some b):=by
  generalize a.eval x=v at h1;cases h1 with|mp e1 _=>rw [<- e1,hρ]
 have hkeys:∀ q ∈ entries.toList,Q q.key:=fun q hq=>hok.2 (q.key,q.val) (by rw [<- hes];exact aj.2 ⟨q,hq,rfl⟩)
 have hrun:∃ r,(Instr.lookup t (.map (some b)) kv c).run P w=.ok (if c then .tuple #[r,.bool (yt j (vg es kv)).2.2] else r) w/\∀ (ok:Nat->Prop) (ρ:Nat->Value) (y:Value),ARel w ok ρ y (yt j (vg es kv)).2.1 r:=by
  rcases hQ.find w hkq entries.toList hkeys with ⟨f1,f2⟩|⟨n,q,f1,f2,f3⟩
  ·have hg:vg es kv=none:=KN fun p hp=>by
    rw [<- hes] at hp;obtain ⟨q,hq,rfl⟩:=aj.1 hp
    exact f2 q hq
   obtain ⟨z,hz1,hz2⟩:=hz w;refine ⟨z, ?_,fun ok ρ y=>by rw [hg];exact hz2 w ok ρ y⟩
   rw [hg];cases c <;> simp [Instr.lookup,run_underlying hd,MapKept.run_getObj_map hb,hQ.check w _ hkq,f1,hz1,Result.andThen,yt]
  ·have hg:vg es kv=some q.val:=XV hok.1 (j:=n) (p:=(q.key,q.val)) (by rw [<- hes,aC,f2];rfl) f3
   refine ⟨q.val, ?_,fun ok ρ y=>by rw [hg] at hr ⊢;exact QcJ hr⟩
   rw [hg];cases c <;> simp [Instr.lookup,run_underlying hd,MapKept.run_getObj_map hb,hQ.check w _ hkq,f1,Result.andThen,yt]
 obtain ⟨r,hr1,hr2⟩:=hrun;refine ⟨if c then .tuple #[r,.bool (yt j (vg es kv)).2.2] else r,w,by simp [execOp,ho,h1',h2,hr1],Ext.none w, ?_⟩
 cases c
 ·simpa using hr2 _ _ _
 ·simp only [cond_true,if_true]
  refine .tup (by simp) fun i c hc=>?_
  match i with
  |0=>cases hc;simpa using hr2 _ _ _
  |1=>cases hc;simpa using .v rfl
  |n+2=>simp at hc
def RP (hS:Wf S) (hw:Want ops o S) {v:Operand} (ho:o.op=.mapUpdate t x k v) (ht:TyFact P t i) (htd:i.td=.map kt e) (hQ:MKey P kt Q)
  (hx:ev S x=.mp id) (hm:S.h id=some (.map es)) (hok:MOK Q es) (hk:(ev S k).toV=some kv) (hkq:Q kv) {u:Value} (hv:(ev S v).toV=some u) (hlen:(Q7 es kv u).length<=maxLen) :
  VE A P ops o { av:=.junk,hw:=[(id,some (.map (Q7 es kv u)))],hr:=[id],n:=S.n } S:=by
 obtain ⟨d,hd,hdok⟩:=ht.under;rw [htd] at hdok
 simp only [TD.ok] at hdok;subst hdok
 refine VE.setObj hS hw (by simp [ho]) hm (by simp) (by simp [AObj.ids]) fun F S2 a w ρ own hag H hm2=>?_
 have h1:=qm H x;rw [hag.ev (x:=x) (by simp [ho,Op.operands]),hx] at h1
 have h2:=Wi (by rw [hag.ev (x:=k) (by simp [ho,Op.operands])];exact hk) (qm H k)
 have h3:=Wi (by rw [hag.ev (x:=v) (by simp [ho,Op.operands])];exact hv) (qm H v)
 obtain ⟨b,entries,clock,hρ,hb,hes,hborn,hck,hsz⟩:=RZ H hm2;have h1':a.eval x=.map (some b):=by
  generalize a.eval x=v at h1;cases h1 with|mp e1 _=>rw [<- e1,hρ]
 have hkeys:∀ q ∈ entries.toList,Q q.key:=fun q hq=>hok.2 (q.key,q.val) (by rw [<- hes];exact aj.2 ⟨q,hq,rfl⟩)
 have hlt:b < w.heap.size:=(aT.1 hb).1;have ext:∀ o',Ext (fun b'=>blk (ρ id)=some b') w { w with heap:=w.heap.setIfInBounds b o' }:=fun o' =>
  ⟨rfl,rfl,rfl,by simp,fun k _ hn=>(MapKept.heap_set (o':=o') hb).2 k fun e=>hn (by rw [hρ,e];rfl)⟩
 rcases hQ.find w hkq entries.toList hkeys with ⟨f1,f2⟩|⟨n,q,f1,f2,f3⟩
 ·have hms:Q7 es kv u=es++[(kv,u)]:=Qd6 fun p hp=>by
   rw [<- hes] at hp;obtain ⟨q,hq,rfl⟩:=aj.1 hp
   exact f2 q hq
  refine ⟨_,by simp [execOp,ho,h1',h2,h3,Instr.mapUpdate,run_underlying hd,MapKept.run_getObj_map hb,hQ.check w _ hkq,f1,MapKept.run_setObj_map _ hb,Result.andThen];rfl,ext _, ?_⟩
  rw [hρ];refine .map (MapKept.heap_set hb).1 (by simp [hms,hes]) ?_ (by simp [hck]) ?_
  ·exact XM hborn hck
  ·rw [hms,<- hes] at hlen;simpa using hlen
 ·have hn:n < entries.size:=by simpa using (aq.1 f2).1
  have hms:Q7 es kv u=es.set n (kv,u):=QdA hok.1 (p:=(q.key,q.val)) (by rw [<- hes,aC,f2];rfl) f3
  have hq:entries[n]?=some q:=by simpa using f2
  refine ⟨_,by simp [execOp,ho,h1',h2,h3,Instr.mapUpdate,run_underlying hd,MapKept.run_getObj_map hb,hQ.check w _ hkq,f1,hq,f3,hQ.stays w hkq,MapKept.run_setObj_map _ hb,Result.andThen];rfl,ext _, ?_⟩
  rw [hρ];refine .map (MapKept.heap_set hb).1 ?_ (ZR hborn fun _=>rfl) (by simpa using hck) (by simpa using hsz)
  rw [hms,<- hes];refine bS fun m=>?_
  simp only [dV,aC,dX,cO,ab,ba]
  by_cases hnm:n=m
  ·subst hnm;simp [hn]
  ·simp [hnm]
def Qar (hS:Wf S) (hw:Want ops o S) (ho:o.op=.mapEntry t x k) (ht:TyFact P t i) (htd:i.td=.map kt e) (hQ:MKey P kt Q) (hz:ZOK P e j.z) {zv:Value} (hzv:j.z.toV=some zv)
  (hx:ev S x=.mp id) (hm:S.h id=some (.map es)) (hok:MOK Q es) (hk:(ev S k).toV=some kv) (hkq:Q kv) (hr:(yt j (vg es kv)).1) (hlen:es.length+1<=maxLen) :
  VE A P ops o { av:=.tup [(yt j (vg es kv)).2.1,.v (.int .i64 (Xn es kv:Nat))],hw:=[(id,some (.map (W9 es kv zv)))],hr:=[id],n:=S.n } S:=by
 obtain ⟨d,hd,hdok⟩:=ht.under;rw [htd] at hdok
 simp only [TD.ok] at hdok;subst hdok
 have hnid:∀ i,i ∉ (yt j (vg es kv)).2.1.ids:=by
  intro i hi;cases hg:vg es kv with
  |none=>rw [hg] at hi hr;exact hr i hi
  |some v=>rw [hg] at hi;simp [yt,Qcq] at hi
 refine VE.setRet (fun i hi=>?_) hS hw (by simp [ho]) hm (by simp) (by simp [AObj.ids]) fun F S2 a w ρ own hag H hm2=>?_
 ·simp only [AV.ids,AV.idsL,bf] at hi
  exact absurd hi (hnid i)
 have h1:=qm H x;rw [hag.ev (x:=x) (by simp [ho,Op.operands]),hx] at h1
 have h2:=Wi (by rw [hag.ev (x:=k) (by simp [ho,Op.operands])];exact hk) (qm H k)
 obtain ⟨b,entries,clock,hρ,hb,hes,hborn,hck,hsz⟩:=RZ H hm2;have h1':a.eval x=.map (some b):=by
  generalize a.eval x=v at h1;cases h1 with|mp e1 _=>rw [<- e1,hρ]
 have hkeys:∀ q ∈ entries.toList,Q q.key:=fun q hq=>hok.2 (q.key,q.val) (by rw [<- hes];exact aj.2 ⟨q,hq,rfl⟩)
 have ext:∀ o',Ext (fun b'=>blk (ρ id)=some b') w { w with heap:=w.heap.setIfInBounds b o' }:=fun o' =>
  ⟨rfl,rfl,rfl,by simp,fun k _ hn=>(MapKept.heap_set (o':=o') hb).2 k fun e=>hn (by rw [hρ,e];rfl)⟩
 rcases hQ.find w hkq entries.toList hkeys with ⟨f1,f2⟩|⟨n,q,f1,f2,f3⟩
 ·have hne:∀ p ∈ es,p.1 ≠ kv:=fun p hp=>by
   rw [<- hes] at hp;obtain ⟨q,hq,rfl⟩:=aj.1 hp
   exact f2 q hq
  have hg:vg es kv=none:=KN hne;obtain ⟨z,hz1,hz2⟩:=hz w
  have hzz:z=zv:=Wi hzv (hz2 w (fun _=>True) (fun _=>undef) undef)
  subst hzz;have hln:es.length=entries.size:=by rw [<- hes];simp
  have hi1:Xn es kv=entries.size:=by rw [Qdu hne,hln]
  refine ⟨_,_,by simp [execOp,ho,h1',h2,Instr.mapEntry,run_underlying hd,MapKept.run_getObj_map hb,hQ.check w _ hkq,f1,hz1,MapKept.run_setObj_map _ hb,Result.andThen];exact ⟨rfl,rfl⟩,ext _, ?_,fun w' ok ρ y=>?_⟩
  ·rw [hρ]
   refine .map (MapKept.heap_set hb).1 (by simp [W9,hg,hes]) (XM hborn hck) (by simp [hck]) (by rw [hln] at hlen;simpa using hlen)
  ·refine .tup (by simp) fun i c hc=>?_
   match i with
   |0=>cases hc;rw [hg];exact hz2 w' ok ρ y
   |1=>cases hc;rw [hi1,<- hck];exact .v rfl
   |n+2=>simp at hc
 ·have hn:n < entries.size:=by simpa using (aq.1 f2).1
  have hq:entries[n]?=some q:=by simpa using f2
  have hesn:es[n]?=some (q.key,q.val):=by rw [<- hes,aC,f2];rfl
  have hg:vg es kv=some q.val:=XV hok.1 (j:=n) (p:=(q.key,q.val)) hesn f3;have hi1:Xn es kv=n:=Qdy hok.1 (p:=(q.key,q.val)) hesn f3
  have hbq:=hborn n q hq;refine ⟨_,_,by simp [execOp,ho,h1',h2,Instr.mapEntry,run_underlying hd,MapKept.run_getObj_map hb,hQ.check w _ hkq,f1,hq,f3,hQ.stays w hkq,MapKept.run_setObj_map _ hb,Result.andThen];exact ⟨rfl,rfl⟩,ext _, ?_,fun w' ok ρ y=>?_⟩
  ·rw [hρ]
   refine .map (MapKept.heap_set hb).1 ?_ (ZR hborn fun _=>rfl) (by simpa using hck) (by simpa using hsz)
   rw [show W9 es kv zv=es by simp [W9,hg],<- hes]
   refine bS fun m=>?_
   simp only [dV,aC,dX]
   by_cases hnm:n=m
   ·subst hnm;simp [hq,f3]
   ·simp [hnm]
  ·refine .tup (by simp) fun i c hc=>?_
   match i with
   |0=>cases hc;rw [hg] at hr ⊢;exact QcJ hr
   |1=>cases hc;rw [hi1,<- hbq];exact .v rfl
   |n+2=>simp at hc
def Xm (hS:Wf S) (hw:Want ops o S) {s v:Operand} (ho:o.op=.entryStore t x s v) {q:IntKind} {n:Int}
  (hx:ev S x=.mp id) (hm:S.h id=some (.map es)) (hs:ev S s=.v (.int q n)) {u:Value} (hv:(ev S v).toV=some u) (h0:0<=n) (hn:n.toNat < es.length) :
  VE A P ops o { av:=.junk,hw:=[(id,some (.map (es.set n.toNat ((es.getD n.toNat (undef,undef)).1,u))))],hr:=[id],n:=S.n } S:=by
 refine VE.setObj hS hw (by simp [ho]) hm (by simp) (by simp [AObj.ids]) fun F S2 a w ρ own hag H hm2=>?_
 have h1:=qm H x;rw [hag.ev (x:=x) (by simp [ho,Op.operands]),hx] at h1
 have h2:=qm H s;rw [hag.ev (x:=s) (by simp [ho,Op.operands]),hs] at h2
 have h2:=(qx h2).1;have h3:=Wi (by rw [hag.ev (x:=v) (by simp [ho,Op.operands])];exact hv) (qm H v)
 obtain ⟨b,entries,clock,hρ,hb,hes,hborn,hck,hsz⟩:=RZ H hm2;have h1':a.eval x=.map (some b):=by
  generalize a.eval x=v at h1;cases h1 with|mp e1 _=>rw [<- e1,hρ]
 have ext:∀ o',Ext (fun b'=>blk (ρ id)=some b') w { w with heap:=w.heap.setIfInBounds b o' }:=fun o' =>
  ⟨rfl,rfl,rfl,by simp,fun k _ hn=>(MapKept.heap_set (o':=o') hb).2 k fun e=>hn (by rw [hρ,e];rfl)⟩
 obtain ⟨m,rfl⟩:∃ m:Nat,n=m:=⟨n.toNat,by omega⟩
 have hn:m < es.length:=hn;have hms:m < entries.size:=by rw [<- hes] at hn;simpa using hn
 have hf:entries.findIdx? (fun e=>((e.born:Int) == (m:Int)))=some m:=by
  rw [Array.findIdx?_eq_some_iff_getElem];refine ⟨hms, ?_,fun j hj=>?_⟩
  ·have:=hborn m entries[m] (by simp [hms])
   simp [this]
  ·have:=hborn j entries[j] (by simp [show j < entries.size by omega])
   simp [this];omega
 refine ⟨_,by simp [execOp,ho,h1',h2,h3,Instr.entryStore,MapKept.run_getObj_map hb,Go.asInt,asIntOf,hf,MapKept.run_setObj_map _ hb,Result.andThen];rfl,ext _, ?_⟩
 rw [hρ];refine .map (MapKept.heap_set hb).1 ?_ (ZR hborn fun _=>rfl) (by simpa using hck) (by simpa using hsz)
 rw [<- hes];refine bS fun l=>?_
 simp only [dV,aC,dX,cO,ab,ba]
 by_cases hnm:m=l
 ·subst hnm;simp [hms]
 ·simp [hnm]
end maps
end Go.Sym
namespace Go.Sym
open Go
variable {A : Frm -> Prop} {P : Program}
section arrs
variable {ops : Array Oper} {o : Oper} {S : St}
def LG (hS:Wf S) (hw:Want ops o S) {t:TypeId} {x:Operand} {hi:Option Operand} (ho:o.op=.slice t x none hi none) {i j:TI} {m:Nat} {e:TypeId} (ht:TyFact P t i) (htd:i.td=.array m e) (hj:TyFact P e j) {id off:Nat} (hx:ev S x=.ptr id off)
  {h:Int} (hhi:(hi=none/\h=m)\/∃ z k,hi=some z/\ev S z=.v (.int k h)) (g0:0<=h) (g1:h<=m) (hm:m<=maxLen):VE A P ops o { av:=.psl id off h.toNat m,n:=S.n } S:=by
 obtain ⟨d,hd,hok⟩:=ht.under;rw [htd] at hok
 simp only [TD.ok] at hok;subst hok
 refine VE.val hw (by simp [ho]) (fun j hj=>jO hS x j (by rw [hx];simpa [AV.ids] using hj)) fun F S2 a w ρ own hag H=>?_
 have h1:=qm H x;rw [hag.ev (x:=x) (by simp [ho,Op.operands]),hx] at h1
 generalize hv:a.eval x=v at h1;cases h1 with
 |@ptr _ _ b e1 =>
  refine ⟨.slice (some ⟨b,off,none⟩) h.toNat m,w, ?_,Ext.none w,.psl e1 (by omega) hm⟩
  have hb:∀ kk:IntKind,(Instr.sliceBound (.int kk h) m .sliceAlen).run P w=.ok h.toNat w:=fun kk=>by simp [Instr.sliceBound,asIntOf,g0,g1]
  have hbs:(Instr.sliceBounds false m m none (hi.map a.eval) none).run P w=.ok (0,h.toNat,m) w:=by
   rcases hhi with ⟨rfl,rfl⟩|⟨z,k,rfl,ez⟩
   ·simp [Instr.sliceBounds]
   ·have h2:=qm H z
    rw [hag.ev (x:=z) (by simp [ho,Op.operands]),ez] at h2
    simp [Instr.sliceBounds,(qx h2).1,hb]
  simp only [execOp,ho,hv,Instr.sliceAt,Instr.sureAddr,run_underlying hd,aH,aJ,ci,hbs,hj.run_sizeOf,aL,cW,add_zero',ite_self,bw]
def QfU {ys:List (List DV)} (h:∀ r ∈ ys,r.length=1):ys.flatten.length=ys.length/\∀ (i:Nat) (d:DV),ys.flatten[i]?=some d->∃ r,ys[i]?=some r/\r[0]?=some d:=by
 induction ys with
 |nil=>simp
 |cons r ys ih =>
  obtain ⟨g1,g2⟩:=ih fun r hr=>h r (aQ _ hr)
  have hr:=h r aV
  match r,hr with
  |[d0],_ =>
   refine ⟨by simp [g1],fun i d hd=>?_⟩
   cases i with
   |zero=>simp only [cQ,db,aK,ak] at hd;subst hd;exact ⟨_,rfl,rfl⟩
   |succ i=>simpa using g2 i d (by simpa using hd)
def Qca (hS:Wf S) (hw:Want ops o S) {t t' e:TypeId} {x y:Operand} (ho:o.op=.call { callee:=.builtin .copy,args:=#[x,y],argTypes:=#[t,t'] }) {i j:TI} (ht:TyFact P t i) (htd:i.td=.slice e) (hj:TyFact P e j) (hk:j.cells=1) {id off n c:Nat} {cs:List AV} {ys:List (List DV)} {hr:List Nat}
  (hx:ev S x=.psl id off n c) (hc:S.h id=some (.cells cs)) (hfit:off+n<=cs.length) (hyl:∀ r ∈ ys,r.length=1) (hyn:0 < ys.length)
  (hsrc:∀ F S2 a w ρ own,Holds F S2 a w ρ own->(∀ id ∈ hr,S2.h id=S.h id)->∀ v,ARel w (okB w own ρ S2.h) ρ F.y (ev S y) v->∃ flat,Src w (okB w own ρ S2.h) 1 ys v flat) :
  VE A P ops o { av:=.v (.int .i64 (min ys.length n:Nat)),hw:=[(id,some (.cells (cs.take off++((ys.take (min ys.length n)).flatten).map DV.av++cs.drop (off+min ys.length n))))],hr:=id :: hr,n:=S.n } S:=by
 obtain ⟨d,hd,hok⟩:=ht.under;rw [htd] at hok
 simp only [TD.ok] at hok;subst hok
 generalize hm:min ys.length n=m;have hmn:m<=n:=by omega
 have hmy:m<=ys.length:=by omega
 obtain ⟨f1,f2⟩:=QfU (ys:=ys.take m) fun r hr=>hyl r (aY hr)
 have hdl:(((ys.take m).flatten).map DV.av).length=m:=by rw [ab,f1,bi];omega
 generalize hds:((ys.take m).flatten).map DV.av=ds at hdl;have hfx:off+ds.length<=cs.length:=by omega
 have e1:cs.take off++ds++cs.drop (off+m)=cs.take off++ds++cs.drop (off+ds.length):=by rw [hdl]
 rw [e1];refine VE.setVal rfl hS hw (by simp [ho]) hc (by simp) (fun i hi=>?_) fun F S2 a w ρ own hag H hob=>?_
 ·simp only [AObj.ids] at hi
  obtain ⟨c',hc',hi⟩:=AV.mem_idsL.1 hi;simp only [au] at hc'
  have old:c' ∈ cs->i < S.n:=fun hc'=>bm fun hn=>(hS i hn).2.2.1 id _ hc (by simp only [AObj.ids];exact AV.mem_idsL.2 ⟨c',hc',hi⟩)
  rcases hc' with (hc'|hc')|hc'
  ·exact old (aY hc')
  ·rw [<- hds] at hc'
   obtain ⟨d,_,rfl⟩:=aj.1 hc';rw [DV.av_ids] at hi;cases hi
  ·exact old (aW hc')
 have hxr:=qm H x;rw [hag.ev (x:=x) (by simp [ho,Op.operands,Call.operands]),hx] at hxr
 have hyr:=qm H y;rw [hag.ev (x:=y) (by simp [ho,Op.operands,Call.operands])] at hyr
 obtain ⟨flat,⟨ay,cy,hyv,hsl,hsm,hcell⟩,hfl,hone,hrel⟩:=hsrc F S2 a w ρ own H (fun id hid=>hag.2.1 id (by simp [hid])) _ hyr
 obtain ⟨ad,rfl,hcells⟩:=hcell hyn;have h5:=H.obj id _ hob
 generalize hxv:a.eval x=v at hxr;cases hxr with
 |@psl _ _ _ _ b q1 q2 q3 =>
  rw [q1] at h5 ⊢;cases h5 with
  |@cells _ _ T vs g1 g2 g3 =>
   rw [bI] at hfl;have hcl:(flat.take m).length=m:=by rw [bi,hfl];omega
   have hfit':off+(flat.take m).length<=vs.toList.length:=by rw [hcl,ba];omega
   have hsc:∀ q v,(flat.take m)[q]?=some v->w.cell? (ad.add q)=some v:=fun q v hq=>by
    rw [aP] at hq;split at hq
    ·exact hcells q v hq
    ·cases hq
   have hrun:=Vr (P:=P) (k:=1) (t':=t') (ty:=o.type) (fun w=>by rw [<- hk];exact hj.run_sizeOf w) hd (q:=off) (dLen:=n) (dCap:=c) g1 (a:=ad) (sLen:=ys.length) (sCap:=cy) (cs:=flat.take m) (by rw [hcl,bI];exact hm.symm)
    hsc (by simpa using hfit') fun v hv=>hone v (aY hv)
   refine ⟨w.setRow b (vs.toList.take off++flat.take m++vs.toList.drop (off+(flat.take m).length)).toArray, ?_,Ext.setRow w b _ rfl, ?_⟩
   ·unfold execOp
    simp only [ho,resolve,invoke,builtin,aH,aL,aJ,cg,aw,aX,hxv,hyv,hrun];rw [show Nat.min ys.length n=m from hm];rfl
   ·refine .cells (setRow_heap w b vs _ T _ g1) ?_ fun p c' hc'=>?_
    ·rw [qK hfx,cd,qK hfit',ba,g2]
    ·rw [zI hfx] at hc'
     have hget:((vs.toList.take off++flat.take m++vs.toList.drop (off+(flat.take m).length)).toArray).getD p undef =
       if p < off then vs.getD p undef else if p < off+m then (flat.take m).getD (p - off) undef else vs.getD p undef:=by
      have e1:=zI (i:=p) hfit';rw [bG,cu,e1]
      simp only [hcl];split
      ·simp [bG]
      ·split <;> simp [bG,ah]
     rw [hget];have hmono:∀ {c u},ARel w (okB w own ρ S2.h) ρ F.y c u->ARel (w.setRow b (vs.toList.take off++flat.take m++vs.toList.drop (off+(flat.take m).length)).toArray) (okB w own ρ S2.h) ρ F.y c u:=fun hr =>
      hr.mono (fun q hq=>⟨hq,setRow_other w b q _ (fun eq=>hq.2.2 id _ hob (by rw [q1];simp [blk,eq]))⟩) (fun _ _=>rfl)
     rw [hdl] at hc';split
     ·rename_i hj;rw [if_pos hj] at hc';exact ⟨hmono (g3 p c' hc').1,(g3 p c' hc').2⟩
     ·rename_i hj
      rw [if_neg hj] at hc';split
      ·rename_i hj2
       rw [if_pos hj2,<- hds,aC] at hc';obtain ⟨dd,hdd,rfl⟩:=aA.1 hc'
       obtain ⟨r,hr1,hr2⟩:=f2 _ _ hdd;rw [aP] at hr1
       split at hr1
       ·rename_i hlt
        obtain ⟨u,hu,hdu⟩:=hrel _ _ _ _ hr1 hr2;rw [bI,bC] at hu
        have:(flat.take m).getD (p - off) undef=u:=by simp [ah,aP,hlt,hu]
        rw [this];exact ⟨hmono (DRel.av hdu).1,(DRel.av (ρ:=ρ) (y:=F.y) hdu).2⟩
       ·cases hr1
      ·rename_i hj2;rw [if_neg hj2] at hc';exact ⟨hmono (g3 p c' hc').1,(g3 p c' hc').2⟩
def LH {e:TypeId} {j:TI} (hj:TyFact P e j) {w:World} {ok:Nat->Prop} {ρ:Nat->Value} {y:Value} {cs:List AV} {vs:Array Value} (hs:vs.size=cs.length) (hr:∀ (i:Nat) (c:AV),cs[i]?=some c->ARel w ok ρ y c (vs.getD i undef)) {off:Nat}
  (hle:off+(bif j.td.agg then j.cells else 1)<=cs.length):∃ v,(part e vs off).run P w=.ok v w/\ARel w ok ρ y (yV j ((cs.drop off).take (bif j.td.agg then j.cells else 1))) v:=by
 cases hb:j.td.agg with
 |true =>
  rw [hb] at hle;simp only [cond_true] at hle ⊢
  refine ⟨.agg (vs.extract off (off+j.cells)),by simp [part,hj.run_isAgg,hj.run_sizeOf,hb], ?_⟩
  simp only [yV,hb,cond_true];refine .agg (by simp;omega) fun i c hc=>?_
  rw [aP] at hc;split at hc
  ·rename_i hi
   rw [bM] at hc;have:=hr _ c hc
   have e:(vs.extract off (off+j.cells)).getD i undef=vs.getD (off+i) undef:=by
    simp only [bG,Array.getElem?_extract];rw [if_pos (by omega)]
   rw [e];exact this
  ·cases hc
 |false =>
  rw [hb] at hle;simp only [cond_false] at hle ⊢
  have hlt:off < vs.size:=by omega
  refine ⟨vs[off],by simp [part,hj.run_isAgg,hb,hlt], ?_⟩
  have h0:cs[off]?=some cs[off]:=al (by omega)
  have:=hr off _ h0;simp only [yV,hb,cond_false]
  have e1:(cs.drop off).take 1=[cs[off]]:=by
   rw [dh (by omega)];rfl
  rw [e1,bH]
  simpa [hlt] using this
def Vs {j:TI} {cs:List AV} {off n N:Nat} (h:∀ id ∈ AV.idsL cs,id < N):∀ id ∈ (yV j ((cs.drop off).take n)).ids,id < N:=by
 intro id hid;simp only [yV] at hid
 cases hb:j.td.agg with
 |true =>
  rw [hb] at hid;simp only [cond_true,AV.ids] at hid
  obtain ⟨c,hc,hid⟩:=AV.mem_idsL.1 hid;exact h id (AV.mem_idsL.2 ⟨c,aW (aY hc),hid⟩)
 |false =>
  rw [hb] at hid;simp only [cond_false] at hid
  cases hl:(cs.drop off).take n with
  |nil=>rw [hl] at hid;simp [AV.ids] at hid
  |cons c r =>
   rw [hl,bH] at hid;exact h id (AV.mem_idsL.2 ⟨c,aW (aY (by rw [hl];exact aV)),hid⟩)
def Qg3 (hS:Wf S) (hw:Want ops o S) {t e:TypeId} {x ix:Operand} (ho:o.op=.index t x ix) {i j:TI} {m:Nat} (ht:TyFact P t i) (htd:i.td=.array m e) (hj:TyFact P e j) {cs:List AV} (hx:ev S x=.agg cs) {k:IntKind} {n:Int} (hi:ev S ix=.v (.int k n))
  (g0:0<=n) (g1:n < m) (hle:n.toNat * j.cells+(bif j.td.agg then j.cells else 1)<=cs.length):VE A P ops o { av:=yV j ((cs.drop (n.toNat * j.cells)).take (bif j.td.agg then j.cells else 1)),n:=S.n } S:=by
 obtain ⟨d,hd,hok⟩:=ht.under;rw [htd] at hok
 simp only [TD.ok] at hok;subst hok
 refine VE.val hw (by simp [ho]) (Vs fun id hid=>jO hS x id (by rw [hx];exact hid)) fun F S2 a w ρ own hag H=>?_
 have h1:=qm H x;rw [hag.ev (x:=x) (by simp [ho,Op.operands]),hx] at h1
 have h2:=qm H ix;rw [hag.ev (x:=ix) (by simp [ho,Op.operands]),hi] at h2
 have h2:=(qx h2).1;generalize hv:a.eval x=v at h1
 cases h1 with
 |@agg _ vs hs hr =>
  obtain ⟨v,hv1,hv2⟩:=LH hj hs hr hle;refine ⟨v,w, ?_,Ext.none w,hv2⟩
  simp only [execOp,ho,hv,h2,Instr.index,asIntOf,run_underlying hd,aH,aL,aJ,if_pos (ea g0 g1),hj.run_sizeOf,hv1]
def QeB (hS:Wf S) (hw:Want ops o S) {t:TypeId} {x:Operand} {f:Nat} (ho:o.op=.field t x f) {i j:TI} (ht:TyFact P t i) {fs:List (Nat × Nat × TypeId)} (htd:i.td=.struct fs) {p:Nat × Nat × TypeId} (hf:fs[f]?=some p) (hj:TyFact P p.2.2 j) {cs:List AV} (hx:ev S x=.agg cs)
  (hle:p.1+(bif j.td.agg then j.cells else 1)<=cs.length):VE A P ops o { av:=yV j ((cs.drop p.1).take (bif j.td.agg then j.cells else 1)),n:=S.n } S:=by
 obtain ⟨d,hd,hok⟩:=ht.under;rw [htd] at hok
 obtain ⟨fields,rfl,hmap⟩:=hok;obtain ⟨off,sz,ft⟩:=p
 have hfield:∃ fl,fields[f]?=some fl/\fl.offset=off/\fl.type=ft:=by
  have hf':=congrArg (Option.map fun p:Nat × Nat × TypeId=>(p.1,p.2.2)) hf
  rw [<- aC,<- hmap,aC] at hf';obtain ⟨fl,h1,h2⟩:=aA.1 hf'
  exact ⟨fl,by simpa using h1,(Prod.mk.inj h2).1,(Prod.mk.inj h2).2⟩
 obtain ⟨fl,hfl,rfl,rfl⟩:=hfield;simp only at hj hle ⊢
 refine VE.val hw (by simp [ho]) (Vs fun id hid=>jO hS x id (by rw [hx];exact hid)) fun F S2 a w ρ own hag H=>?_
 have h1:=qm H x;rw [hag.ev (x:=x) (by simp [ho,Op.operands]),hx] at h1
 generalize hv:a.eval x=v at h1;cases h1 with
 |@agg _ vs hs hr =>
  obtain ⟨v,hv1,hv2⟩:=LH hj hs hr hle;refine ⟨v,w, ?_,Ext.none w,hv2⟩
  simp only [execOp,ho,hv,Instr.field,Go.asAgg,run_underlying hd,hfl,aH,aL,aJ,hv1]
def UG (hS:Wf S) (hw:Want ops o S) {t e:TypeId} {parts:Array (Nat × Operand)} (ho:o.op=.build t parts) {i j:TI} {m:Nat} (ht:TyFact P t i) (htd:i.td=.array m e) (hj:TyFact P e j)
  {K:List AV->Prop} (h:xz (jS j.cells) K i.zero (parts.toList.map fun p=>(p.1,ev S p.2))):∃ cs,K cs/\VE A P ops o { av:=.agg cs,n:=S.n } S:=by
 obtain ⟨d,hd,hok⟩:=ht.under;rw [htd] at hok
 simp only [TD.ok] at hok;subst hok
 obtain ⟨out,hK,ho'⟩:=Zg h;obtain ⟨inf,z0,_,_,_,_,hz0,_,_⟩:=ht.info
 refine ⟨out,hK,VE.val hw (by simp [ho]) (fun id hid=>?_) fun F S2 a w ρ own hag H=>?_⟩
 ·simp only [AV.ids] at hid
  obtain ⟨c,hc,hid⟩:=AV.mem_idsL.1 hid;refine We ho' (fun c hc id hid=>?_) (fun p hp id hid=>?_) c hc id hid
  ·rw [<- hz0] at hc
   obtain ⟨v,_,rfl⟩:=aj.1 hc;rw [QT] at hid;cases hid
  ·obtain ⟨q,_,rfl⟩:=aj.1 hp
   exact jO hS q.2 id hid
 ·obtain ⟨z,hz,h1,h2,h3⟩:=ht.run_zero w
  have hp:=Wp (S:=S) H (parts:=parts) fun x hx=>hag.ev (x:=x) (by simp [ho,Op.operands];simpa using hx)
  obtain ⟨_,vout,rfl,g2,g3⟩:=ZZ ho' hp.1 hp.2 (Wv h1 h3);refine ⟨.agg vout,w, ?_,Ext.none w,.agg g3.size fun i c hc=>(g3.rel i c hc).1⟩
  have g2':=g2;unfold jS at g2'
  simp only [execOp,ho,Instr.build,aH,hz,aJ,run_underlying hd,hj.run_sizeOf,g2',aL]
end arrs
end Go.Sym
namespace Go.Sym
open Go
set_option linter.all false
variable {P : Program} {A : Frm -> Prop}
def QeZ {w:World} {ok:Nat->Prop} {ρ:Nat->Value} {y:Value} {e:TypeId} {k:Nat} {xs:List (List DV)} {b n0 c n:Nat} (h:ORel w ok ρ y (.row e k xs) (.slice (some ⟨b,0,none⟩) n0 c)) (hc:0 < c) (hn:n<=xs.length):ORel w ok ρ y (.row e k (xs.take n)) (.slice (some ⟨b,0,none⟩) n c):=by
 cases h with
 |row r1 r2 r3 r4 =>
  rename_i flat;have hl:(xs.take n).length=n:=by rw [bi];omega
  have h3:w.ownsRow 0 e k (.slice (some ⟨b,0,none⟩) n0 c) xs.length flat:=by
   rcases r3 with h|⟨_,_,a,h⟩
   ·exact h
   ·simp only [Value.slice.injEq] at h;omega
  obtain ⟨g0,g1⟩:=h3;have hle:n * k<=xs.length * k:=aG _ hn
  refine .row (flat:=flat.take (n * k)) r1 (fun r hr=>r2 r (aY hr)) (.inl ⟨?_, ?_⟩) fun i r j d hi hj=>?_
  ·rw [bi,hl];omega
  ·rcases g1 with ⟨h,_⟩|⟨g,cap,cur,h1,h2,h3,h4,h5,h6,h7⟩
   ·cases h
   ·simp only [Value.slice.injEq,ak,Addr.mk.injEq] at h1
    obtain ⟨⟨rfl,_⟩,rfl,rfl⟩:=h1;refine .inr ⟨_,_,cur,by rw [hl],h2,h3,by omega,h5,h6, ?_⟩
    rw [hl,<- h7,List.take_take,Nat.min_eq_left hle]
  ·have hin:i < n:=by
    have:=(aq.1 hi).1;omega
   have hi':xs[i]?=some r:=by rw [List.getElem?_take_of_lt hin] at hi;exact hi
   have hjk:j < k:=by
    have:=(aq.1 hj).1;rw [r2 r (ao hi')] at this
    exact this
   obtain ⟨u,hu,hd⟩:=r4 i r j d hi' hj;refine ⟨u, ?_,hd⟩
   rw [List.getElem?_take_of_lt]
   ·exact hu
   ·have:(i+1) * k<=n * k:=aG _ (by omega)
    rw [cA] at this;omega
def Qa6 {ops:Array Oper} {o:Oper} {S:St} (hS:Wf S) (hw:Want ops o S) {t e:TypeId} {x y:Operand} (ho:o.op=.call { callee:=.builtin .append,args:=#[x,y],argTypes:=#[t,t] }) {it i:TI} (ht:TyFact P t it) (htd:it.td=.slice e) (hi:TyFact P e i) (hk:0 < i.cells)
  {id n:Nat} {xs ys:List (List DV)} {hr:List Nat} (hx:ev S x=.rsl id i.cells 0 n) (hc:S.h id=some (.row e i.cells xs)) (hn:n<=xs.length)
  (hy:∀ F S2 a w ρ own,Holds F S2 a w ρ own->(∀ j ∈ hr,S2.h j=S.h j)->∀ v,ARel w (okB w own ρ S2.h) ρ F.y (ev S y) v->∃ flat,Src w (okB w own ρ S2.h) i.cells ys v flat)
  (hxl:∀ r ∈ xs.take n,r.length=i.cells) (hyl:∀ r ∈ ys,r.length=i.cells) (hb:((xs.take n).length+ys.length) * i.bytes<=140737488355328) (hm:(xs.take n).length+ys.length<=maxLen) :
  VE A P ops o { av:=.row S.n,hw:=zV (some id)++[(S.n,some (.row e i.cells (xs.take n++ys)))],hr:=xw (some id)++hr,news:=[S.n],n:=S.n+1 } S:=by
 obtain ⟨d,hd,hok⟩:=ht.under;rw [htd] at hok
 simp only [TD.ok] at hok;subst hok
 have hdead:∀ j,(some id:Option Nat)=some j->j ∈ xw (some id)++hr/\∃ ob,S.h j=some ob:=by
  rintro j hj;cases hj
  exact ⟨by simp [xw],_,hc⟩
 refine VE.newRow hS hw (by simp [ho]) hdead fun F S2 a w ρ own hag H=>?_
 have h1:=qm H x;rw [hag.ev (x:=x) (by simp [ho,Op.operands,Call.operands]),hx] at h1
 have h2:=qm H y;rw [hag.ev (x:=y) (by simp [ho,Op.operands,Call.operands])] at h2
 obtain ⟨flat,hs⟩:=hy F S2 a w ρ own H (fun j hj=>hag.2.1 j (by simp [hj])) _ h2
 have hob:=H.obj id _ ((hag.2.1 id (by simp [xw])).trans hc)
 have hdst:Dst w (okB w own ρ S2.h) e i.cells (xs.take n) (a.eval x)/\∀ b,blk (a.eval x)=some b->∃ j,(some id:Option Nat)=some j/\blk (ρ j)=some b:=by
  generalize a.eval x=v at h1;cases h1 with
  |@rsl _ _ _ _ b c n0 e1 hlc =>
   rw [e1] at hob;have hrow:=QeZ (n:=n) hob hlc hn
   simp only [cW,bw];cases hrow with
   |row r1 r2 r3 r4=>exact ⟨⟨_,r3,r4⟩,fun b' hb'=>⟨id,rfl,by rw [e1];exact hb'⟩⟩
 obtain ⟨v',w',hrun,hxt,h1c,hbl,flat',hown',hrel'⟩:=kJ (ty:=o.type) hd hi hk hxl hyl hdst.1 hs hb hm;refine ⟨v',w', ?_,hxt.weaken fun b _ hb=>hdst.2 b hb,h1c, ?_,fun b hb'=>(hbl b hb').imp (fun h=>h) (hdst.2 b)⟩
 ·unfold execOp
  simp only [ho,resolve,invoke,builtin,aH,aL,aJ,cg,aw,aX,hrun]
 ·refine .row hk (fun r hr'=>?_) hown' fun q r j d hq hj=>?_
  ·rcases au.1 hr' with h|h
   ·exact hxl r h
   ·exact hyl r h
  ·obtain ⟨u,hu,hdu⟩:=hrel' q r j d hq hj
   refine ⟨u,hu,hdu.mono fun b hb'=>⟨hb',hxt.block b hb'.1 fun hbx=>?_⟩⟩
   obtain ⟨j',hj',hbj⟩:=hdst.2 b hbx;obtain ⟨hmem,ob,hob⟩:=hdead j' hj'
   exact hb'.2.2 j' ob ((hag.2.1 j' hmem).trans hob) hbj
end Go.Sym
namespace Go.Sym
open Go
set_option linter.all false
variable {P : Program} {A : Frm -> Prop}
def QfQ {ops:Array Oper} {o:Oper} {S:St} (hS:Wf S) (hw:Want ops o S) {t e:TypeId} {x:Operand} (ho:o.op=.call { callee:=.builtin .clear,args:=#[x],argTypes:=#[t] }) {i j:TI} (ht:TyFact P t i) (htd:i.td=.slice e) (hj:TyFact P e j) (hk:0 < j.cells) {id lo n:Nat} {e':TypeId} {xs:List (List DV)}
  (hx:ev S x=.rsl id j.cells lo n) (hc:S.h id=some (.row e' j.cells xs)) (hfit:lo+n<=xs.length) (hn:0 < n) {ds:List DV} (hz:dvL j.zero=some ds) :
  VE A P ops o { av:=.junk,hw:=[(id,some (.row e' j.cells (xs.take lo++List.replicate n ds++xs.drop (lo+n))))],hr:=[id],n:=S.n } S:=by
 obtain ⟨d,hd,hok⟩:=ht.under;rw [htd] at hok
 simp only [TD.ok] at hok;subst hok
 refine VE.setRet (by simp [AV.ids]) hS hw (by simp [ho]) hc (by simp) (by simp [AObj.ids]) fun F S2 a w ρ own hag H hob=>?_
 have hxr:=qm H x;rw [hag.ev (x:=x) (by simp [ho,Op.operands,Call.operands])] at hxr
 obtain ⟨inf,z,hinf,_,_,hzi,z1,z2,z3⟩:=hj.info;have hzv:∀ w,(zeroValue e).run P w=.ok z w:=fun w=>by simp [zeroValue,typeInfo,hinf,hzi]
 obtain ⟨g1,g2⟩:=YZ hz;have hdl:ds.length=j.cells:=by rw [<- g1,<- z1];simpa using z2
 obtain ⟨flat,hflat⟩:∃ flat,(madeCells z.cells (n * j.cells)).toList=flat:=⟨_,rfl⟩;have hflen:flat.length=n * j.cells:=by rw [<- hflat,ba,size_madeCells]
 have hget:∀ q,q < n * j.cells->∃ v,flat[q]?=some v/\z.cells[q % j.cells]?=some v:=fun q hq=>by
  obtain ⟨h1,h2⟩:=Vn z2 hq;exact ⟨_,by rw [<- hflat,cZ,h1,cp h2],cp h2⟩
 have hone:∀ v ∈ flat,v.oneCell'=true:=fun v hv=>by
  obtain ⟨q,hq,rfl⟩:=List.mem_iff_getElem.1 hv;obtain ⟨v,h1,h2⟩:=hget q (by rw [hflen] at hq;exact hq)
  rw [al hq] at h1;rw [Option.some.inj h1]
  exact z3 v (by rw [<- cZ] at h2;exact ao h2)
 have hrel:∀ (q:Nat) (r:List DV) (p:Nat) (dd:DV),(List.replicate n ds)[q]?=some r->r[p]?=some dd->∃ u,flat[q * j.cells+p]?=some u/\DRel w (okB w own ρ S2.h) dd u:=fun q r p dd hq hp=>by
  have hqn:=(aq.1 hq).1;rw [bJ] at hqn
  rw [da,if_pos hqn] at hq;cases hq
  have hpl:p < j.cells:=by rw [<- hdl];exact (aq.1 hp).1
  have hlt:q * j.cells+p < n * j.cells:=by
   have:(q+1) * j.cells<=n * j.cells:=aG _ hqn;rw [aE] at this;omega
  obtain ⟨v,h1,h2⟩:=hget _ hlt;rw [show (q * j.cells+p) % j.cells=p by rw [bR,Nat.add_mul_mod_self_right,cv hpl]] at h2
  obtain ⟨c,hc,hcd⟩:=g2 p dd hp;rw [<- z1,aC] at hc
  obtain ⟨v',hv',rfl⟩:=aA.1 hc;rw [cZ,h2] at hv'
  cases hv';exact ⟨v,h1,Jf (ρ:=ρ) (y:=F.y) hcd (kz v)⟩
 have h5:=H.obj id _ hob;have hxv:∃ dc,(∃ n0 c,ρ id=.slice (some ⟨(blk (ρ id)).getD 0,0,none⟩) n0 c)/\a.eval x=.slice (some ⟨(blk (ρ id)).getD 0,lo * j.cells,none⟩) n dc:=by
  generalize a.eval x=v at hxr;rw [hx] at hxr
  cases hxr with
  |@rsl _ _ _ _ b c n0 e1 hlc =>
   rw [e1];have:blk (.slice (some ⟨b,0,none⟩) n0 c)=some b:=by simp only [blk];rw [if_neg (by omega)]
   rw [this];exact ⟨c - lo,⟨_,_,rfl⟩,rfl⟩
 obtain ⟨dc,⟨n0,c,hρ⟩,hxv⟩:=hxv;generalize hbb:(blk (ρ id)).getD 0=b at hρ hxv
 cases h5':ρ id with
 |slice aa nn0 cc =>
  rw [h5'] at hρ;simp only [Value.slice.injEq] at hρ
  obtain ⟨rfl,rfl,rfl⟩:=hρ;rw [h5'] at h5
  cases h5 with
  |row r1 r2 r3 r4 =>
   obtain ⟨hown,g,cap,cur,hge,hg,hnc,hcm,hcs,htk,hblk⟩:=wO r3 (by omega)
   simp only [Value.slice.injEq,ak,Addr.mk.injEq,and_true] at hge;obtain ⟨rfl,rfl,rfl⟩:=hge
   have hfl:(flat.take (n * j.cells))=flat:=bb (by omega)
   have hkn:lo * j.cells+n * j.cells<=xs.length * j.cells:=by rw [<- aE];exact aG _ (by omega)
   have hkc:xs.length * j.cells<=cc * j.cells:=aG _ hnc;have hcl:(flat.take (n * j.cells)).length=n * j.cells:=by rw [bi];omega
   have hfit':lo * j.cells+(flat.take (n * j.cells)).length<=cur.toList.length:=by rw [hcl,ba,hcs];omega
   have hrun:=run_storeCells_at P b (lo * j.cells) e' (flat.take (n * j.cells)) 0 cur w hg (by rw [bC];simpa using hfit') (fun v hv=>hone v (aY hv))
   simp only [bC] at hrun;refine ⟨.tuple #[],w.setRow b (cur.toList.take (lo * j.cells)++flat.take (n * j.cells)++cur.toList.drop (lo * j.cells+(flat.take (n * j.cells)).length)).toArray, ?_,Ext.setRow w b _ hblk, ?_,fun _ _ _ _=>.junk⟩
   ·unfold execOp
    simp only [ho,resolve,invoke,builtin,aH,aL,aJ,cg,aw,aX,hxv];obtain ⟨n',rfl⟩:∃ n',n=n'+1:=⟨n - 1,by omega⟩
    have hzz:(Builtin.zeroCells z.cells (n'+1)).toList=flat:=by rw [<- hflat,<- z2];rfl
    rw [hfl] at hrun
    simp [Builtin.clear_,run_underlying hd,hzv,hzz,hrun,hfl]
   ·try rw [h5']
    have hyt:(List.replicate n ds).length=n:=by simp
    have hfx:lo+(List.replicate n ds).length<=xs.length:=by omega
    have e1:xs.take lo++List.replicate n ds++xs.drop (lo+n)=xs.take lo++List.replicate n ds++xs.drop (lo+(List.replicate n ds).length):=by rw [hyt]
    rw [e1];have hlen':=qK (new:=List.replicate n ds) hfx
    have hcl2:cur.toList.length=cc * j.cells:=by rw [ba (xs:=cur),hcs]
    have hmono:∀ {d u},DRel w (okB w own ρ S2.h) d u->DRel (w.setRow b (cur.toList.take (lo * j.cells)++flat.take (n * j.cells)++cur.toList.drop (lo * j.cells+(flat.take (n * j.cells)).length)).toArray) (okB w own ρ S2.h) d u:=fun hr =>
     hr.mono fun q hq=>⟨hq,setRow_other w b q _ (fun eq=>hq.2.2 id _ hob (by rw [h5',hblk,eq]))⟩
    refine .row (flat:=(cur.toList.take (lo * j.cells)++flat.take (n * j.cells)++cur.toList.drop (lo * j.cells+(flat.take (n * j.cells)).length)).take (xs.length * j.cells)) hk (fun r hr=>?_) (.inl ⟨?_,.inr ⟨b,cc,_,by rw [hlen'],af _,setRow_heap w b cur _ _ _ hg,by rw [hlen'];exact hnc,hcm, ?_, ?_⟩⟩) fun q r p dd hq hp=>?_
    ·simp only [au] at hr
     rcases hr with (hr|hr)|hr
     ·exact r2 r (aY hr)
     ·rw [c8 hr,hdl]
     ·exact r2 r (aW hr)
    ·rw [hlen',bi,qK hfit',hcl2];omega
    ·rw [cd,qK hfit',hcl2]
    ·rw [hlen']
    ·have hpk:p < j.cells:=by
      have:=(aq.1 hp).1;rw [zI hfx] at hq
      split at hq
      ·rw [r2 r (ao hq)] at this;exact this
      ·split at hq
       ·rw [c8 (ao hq),hdl] at this;exact this
       ·rw [r2 r (ao hq)] at this;exact this
     have hql:q < xs.length:=by have:=(aq.1 hq).1;rwa [hlen'] at this
     have hqk:(q+1) * j.cells<=xs.length * j.cells:=aG _ hql;rw [aE] at hqk
     have old:xs[q]?=some r->∃ u,cur.toList[q * j.cells+p]?=some u/\DRel w (okB w own ρ S2.h) dd u:=fun hq=>by
      obtain ⟨u,hu,hdu⟩:=r4 q r p dd hq hp;rw [<- htk,aP,if_pos (by omega)] at hu
      exact ⟨u,hu,hdu⟩
     rw [zI hfx,hyt] at hq;rw [aP,if_pos (by omega),zI hfit']
     by_cases h1:q < lo
     ·rw [if_pos h1] at hq
      have:(q+1) * j.cells<=lo * j.cells:=aG _ h1;rw [aE] at this
      rw [if_pos (by omega)]
      obtain ⟨u,hu,hdu⟩:=old hq;exact ⟨u,hu,hmono hdu⟩
     ·rw [if_neg h1] at hq
      have g1:lo * j.cells<=q * j.cells:=aG _ (by omega)
      rw [if_neg (by omega)]
      by_cases h2:q < lo+n
      ·rw [if_pos h2] at hq
       have:(q+1) * j.cells<=(lo+n) * j.cells:=aG _ h2;rw [aE,aE] at this
       rw [if_pos (by omega)]
       obtain ⟨u,hu,hdu⟩:=hrel _ _ _ _ hq hp;have e2:q * j.cells+p - lo * j.cells=(q - lo) * j.cells+p:=by
        have:q * j.cells=(q - lo) * j.cells+lo * j.cells:=by rw [<- aE];congr 1;omega
        omega
       have e3:(q - lo+1) * j.cells<=n * j.cells:=aG _ (by omega)
       rw [aE] at e3;exact ⟨u,by rw [e2,aP,if_pos (by omega)];exact hu,hmono hdu⟩
      ·rw [if_neg h2] at hq
       have:(lo+n) * j.cells<=q * j.cells:=aG _ (by omega)
       rw [aE] at this;rw [if_neg (by omega)]
       obtain ⟨u,hu,hdu⟩:=old hq;exact ⟨u,hu,hmono hdu⟩
 |_=>rw [h5'] at hρ;cases hρ
end Go.Sym
namespace Go.Sym
open Go
variable {A : Frm -> Prop} {P : Program}
def VE.newOb {ops:Array Oper} {o:Oper} {S:St} {ob':AObj} {dead:Option Nat} {hr:List Nat} (hS:Wf S) (hw:Want ops o S) (hd:∀ c,o.op ≠ .defer c)
  (hids:∀ i ∈ ob'.ids,i < S.n) (hdead:∀ i,dead=some i->i ∈ hr/\∃ ob,S.h i=some ob)
  (h:∀ F S2 a w ρ own,Agree ops o { av:=.row S.n,hw:=zV dead++[(S.n,some ob')],hr:=hr,news:=[S.n],n:=S.n+1 } S S2->Holds F S2 a w ρ own ->
   ∃ v' w',(execOp a.eval o).run P w=.ok (.value v') w'/\Ext (fun b=>∃ i,dead=some i/\blk (ρ i)=some b) w w'/\v'.oneCell'=true/\ORel w' (okB w own ρ S2.h) ρ F.y ob' v' /\
    ∀ b,blk v'=some b->w.heap.size<=b\/∃ i,dead=some i/\blk (ρ i)=some b) :
  VE A P ops o { av:=.row S.n,hw:=zV dead++[(S.n,some ob')],hr:=hr,news:=[S.n],n:=S.n+1 } S:=by
 have hdlt:∀ i,dead=some i->i < S.n:=fun i hi=>bm fun hn=>by
  obtain ⟨_,ob,hob⟩:=hdead i hi;have:=(hS i hn).1;rw [hob] at this;cases this
 have hI:∀ id ∈ Eff.ids { av:=.row S.n,hw:=zV dead++[(S.n,some ob')],hr:=hr,news:=[S.n],n:=S.n+1 },id < S.n+1:=by
  intro id hid;cases dead with
  |none =>
   simp [Eff.ids,AV.ids,zM,zV] at hid
   rcases hid with rfl|hid
   ·omega
   ·have:=hids id hid;omega
  |some i =>
   have:=hdlt i rfl
   simp [Eff.ids,AV.ids,zM,zV] at hid
   rcases hid with rfl|rfl|rfl|hid
   ·omega
   ·omega
   ·omega
   ·have:=hids id hid;omega
 have hkeys:∀ i,i ∈ Eff.keys { av:=.row S.n,hw:=zV dead++[(S.n,some ob')],hr:=hr,news:=[S.n],n:=S.n+1 } ↔ dead=some i\/i=S.n:=by
  intro i;cases dead <;> simp [Eff.keys,zV,eq_comm]
 have hupdn:∀ (hp:Nat->Option AObj),ze hp (zV dead++[(S.n,some ob')]) S.n=some ob':=fun hp=>by
  cases dead <;> simp [zV,ze,upd_same]
 have hupdd:∀ (hp:Nat->Option AObj) i,dead=some i->ze hp (zV dead++[(S.n,some ob')]) i=none:=fun hp i hi=>by
  have hlt:=hdlt i hi;subst hi
  simp [zV,ze,upd,Nat.ne_of_lt hlt]
 refine ⟨fun F hF hds S2 a w hag hfr ⟨ρ,own,H⟩=>?_,hI,by simp⟩
 rw [wN hw hag H,if_pos rfl];obtain ⟨v',w',hrun,hx,h1,horel,hblk⟩:=h F S2 a w ρ own hag H
 refine wP hd hrun (jf (ρ':=upd ρ S.n v') (own':=own) ?_)
 have hdob:∀ i,dead=some i->∃ ob,S2.h i=some ob:=fun i hi=>by
  obtain ⟨hm,ob,hob⟩:=hdead i hi;exact ⟨ob,(hag.2.1 i hm).trans hob⟩
 have hno:∀ b i,dead=some i->own.all b->blk (ρ i) ≠ some b:=fun b i hi ho hb=>by
  obtain ⟨ob,hob⟩:=hdob i hi;exact (H.blkOK i ob b hob hb).1 ho
 have hj:F.J S2.j own w':=(F.stable _ _ _ H.jay).2 _ (hx.weaken fun b _ ⟨i,hi,hb⟩ ho=>hno b i hi ho hb)
 have hok:∀ b,okB w own ρ S2.h b->okB w' own (upd ρ S.n v') (ze S2.h (zV dead++[(S.n,some ob')])) b/\w'.heap[b]?=w'.heap[b]?:=by
  rintro b ⟨g1,g2,g3⟩;refine ⟨⟨aN g1 hx.size,g2,fun i ob hi hb=>?_⟩,rfl⟩
  by_cases hin:i=S.n
  ·subst hin
   rw [upd_same] at hb
   rcases hblk b hb with h|⟨i,hi',hb'⟩
   ·omega
   ·obtain ⟨ob',hob'⟩:=hdob i hi'
    exact g3 i ob' hob' hb'
  ·by_cases hid:dead=some i
   ·rw [hupdd _ i hid] at hi;cases hi
   ·rw [zm (by rw [show List.map (fun x=>x.1) (zV dead++[(S.n,some ob')])=Eff.keys { av:=.row S.n,hw:=zV dead++[(S.n,some ob')],hr:=hr,news:=[S.n],n:=S.n+1 } from rfl,hkeys];rintro (h|h);exact hid h;exact hin h)] at hi
    rw [upd_ne _ _ _ _ hin] at hb;exact g3 i ob hi hb
 refine H.app (vI hds) hj (hx.weaken fun b _ ⟨i,hi,hb⟩=>.inr (by obtain ⟨ob,hob⟩:=hdob i hi;exact ⟨i,ob,(hkeys i).2 (.inl hi),hob,hb⟩)) (.inl rfl) (fun i hi=>(hkeys i).2 (.inr (by simpa using hi))) (fun i hi=>upd_ne _ _ _ _ (by simpa using hi)) (by simpa using hfr)
  (.row (upd_same _ _ _) h1) ?_ ?_ ?_ .nil
 ·intro i ob hi hob
  rcases (hkeys i).1 hi with hi|rfl
  ·rw [hupdd _ i hi] at hob;cases hob
  ·rw [hupdn] at hob
   cases hob;rw [upd_same]
   refine ⟨horel.mono hok (fun _ _=>rfl) (fun id hid=>upd_ne _ _ _ _ (Nat.ne_of_lt (hids id hid))),fun b hb=>?_⟩
   rcases hblk b hb with h|⟨i,hi,hb'⟩
   ·exact ⟨fun ho=>by have:=(F.stable _ _ _ H.jay).1 _ ho;omega,.inl h⟩
   ·obtain ⟨ob',hob'⟩:=hdob i hi
    exact ⟨fun ho=>hno b i hi ho hb',.inr ⟨i,ob',(hkeys i).2 (.inl hi),hob',hb'⟩⟩
 ·intro i q o1 o2 b hi hq ho1 ho2 _ _
  rcases (hkeys i).1 hi with hi|rfl
  ·rw [hupdd _ i hi] at ho1;cases ho1
  ·rcases (hkeys q).1 hq with hq|rfl
   ·rw [hupdd _ q hq] at ho2;cases ho2
   ·rfl
 ·intro id hid
  exact aN (hI id hid) (bD _ _)
def VN {S:St} (hS:Wf S) {id:Nat} {e:TypeId} {cs:List AV} (h:S.h id=some (.rows e cs)):∀ c ∈ cs,∀ i ∈ c.ids,i < S.n:=fun c hc i hi=>bm fun hn =>
 (hS i hn).2.2.1 id _ h (by simp only [AObj.ids];exact AV.mem_idsL.2 ⟨c,hc,hi⟩)
def opq (l:List Value):List (List DV):=l.map fun u=>[.v u]
def K3 {w:World} {ok:Nat->Prop} {l:List Value} (h:∀ (i:Nat) u,l[i]?=some u->u.oneCell'=true) :
  ∀ (i:Nat) (r:List DV) (j:Nat) (d:DV),(opq l)[i]?=some r->r[j]?=some d->∃ u,l[i * 1+j]?=some u/\DRel w ok d u:=by
 intro i r j d hi hj;simp only [opq,aC] at hi
 obtain ⟨u,hu,rfl⟩:=aA.1 hi;cases j with
 |succ j=>simp at hj
 |zero =>
  simp only [aK,ak] at hj;subst hj
  exact ⟨u,by simpa using hu,.v (h i u hu)⟩
def YX (l:List Value):∀ r ∈ opq l,r.length=1:=fun r hr=>by
 simp only [opq,aj] at hr;obtain ⟨_,_,rfl⟩:=hr
 rfl
def Jt {w:World} {ok:Nat->Prop} {ρ:Nat->Value} {y:Value} {e:TypeId} {cs:List AV} {x:Value} (h:ORel w ok ρ y (.rows e cs) x) :
  ∃ flat,YJ w e 1 x cs.length flat/\flat.length=cs.length/\(∀ (i:Nat) u,flat[i]?=some u->u.oneCell'=true)/\∀ (i:Nat) (c:AV),cs[i]?=some c->∃ u,flat[i]?=some u/\ARel w ok ρ y c u:=by
 cases h with
 |@rows _ _ _ flat h3 h4 =>
  have hl:flat.length=cs.length:=by
   rcases h3 with h3|⟨h0,rfl,_⟩
   ·simpa using h3.1
   ·simp [h0]
  refine ⟨flat,h3,hl,fun i u hu=>?_,fun i c hc=>let ⟨u,hu,hr,_⟩:=h4 i c hc;⟨u,hu,hr⟩⟩
  have hi:i < cs.length:=by have:=(aq.1 hu).1;omega
  obtain ⟨u',hu',_,h1⟩:=h4 i _ (al hi);rw [hu] at hu'
  cases hu';exact h1
def yL (S:St) (e:TypeId):AV->Prop × List AV × Option Nat
 |.nil=>(True,[],none)
 |.emp=>(True,[],none)
 |.row id=>match S.h id with
  |some (.rows e' cs)=>(e'=e,cs,some id)
  |_=>(False,[],none)
 |_=>(False,[],none)
def Qdh (S:St):AV->Option (Nat × List AV)
 |.row id=>match S.h id with
  |some (.rows _ cs)=>some (id,cs)
  |_=>none
 |_=>none
def Qdl {S:St} {c:AV} {p:Nat × List AV} (h:Qdh S c=some p):c=.row p.1/\∃ e,S.h p.1=some (.rows e p.2):=by
 cases c <;> simp only [Qdh] at h <;> first|(cases h;done)|skip
 split at h
 ·rename_i e cs hc;cases h;exact ⟨rfl,e,hc⟩
 ·cases h
def notW (d:Option Nat) (i:Nat):Prop:=match d with
 |some d=>d ≠ i
 |none=>True
def Qfv {S:St} (hS:Wf S) {e:TypeId} {c:AV} (h:(yL S e c).1):(∀ d ∈ (yL S e c).2.1,∀ i ∈ d.ids,i < S.n)/\∀ j,(yL S e c).2.2=some j->∃ ob,S.h j=some ob:=by
 cases c <;> simp only [yL] at h ⊢ <;> first|exact h.elim|skip
 ·exact ⟨by simp,by simp⟩
 ·exact ⟨by simp,by simp⟩
 ·split at h
  ·rename_i e' cs hc
   simp only [hc];exact ⟨fun d hd i hi=>VN hS hc d hd i hi,fun j hj=>by cases hj;exact ⟨_,hc⟩⟩
  ·exact h.elim
def QiW {F:Frm} {S S2:St} {a:Act} {w:World} {ρ:Nat->Value} {own:Own} (H:Holds F S2 a w ρ own) {e:TypeId} {c:AV} {v:Value} (h:(yL S e c).1)
  (hag:∀ id,(yL S e c).2.2=some id->S2.h id=S.h id) (hr:ARel w (okB w own ρ S2.h) ρ F.y c v) :
  ∃ f1,YJ w e 1 v (yL S e c).2.1.length f1/\f1.length=(yL S e c).2.1.length/\(∀ (i:Nat) u,f1[i]?=some u->u.oneCell'=true) /\
   (∀ (i:Nat) d,(yL S e c).2.1[i]?=some d->∃ u,f1[i]?=some u/\ARel w (okB w own ρ S2.h) ρ F.y d u)/\∀ b,blk v=some b->∃ j,(yL S e c).2.2=some j/\blk (ρ j)=some b:=by
 cases c <;> simp only [yL] at h hag ⊢ <;> first|exact h.elim|skip
 ·cases hr;exact ⟨[],.inl (World.ownsRow_nil _ _ _ _),rfl,by simp,by simp,by simp [blk]⟩
 ·cases hr with|@emp q=>exact ⟨[],.inr ⟨rfl,rfl,q,rfl⟩,rfl,by simp,by simp,by cases q <;> simp [blk]⟩
 ·rename_i id
  split at h
  ·rename_i e' cs hc
   subst h;simp only [hc] at hag ⊢
   have hob:=H.obj id _ ((hag id rfl).trans hc);cases hr with
   |row e1 _ =>
    rw [e1] at hob;obtain ⟨flat,g1,g2,g3,g4⟩:=Jt hob
    exact ⟨flat,g1,g2,g3,g4,fun b hb=>⟨id,rfl,by rw [e1];exact hb⟩⟩
  ·exact h.elim
section
variable {ops : Array Oper} {o : Oper} {S : St}
def Qbf (hS:Wf S) (hw:Want ops o S) {t e:TypeId} {x y:Operand} (ho:o.op=.call { callee:=.builtin .append,args:=#[x,y],argTypes:=#[t,t] }) {it i:TI} (ht:TyFact P t it) (htd:it.td=.slice e) (hi:TyFact P e i) (hk:i.cells=1)
  (hx:(yL S e (ev S x)).1) {id2:Nat} {e2:TypeId} {ds:List AV} (hy:ev S y=.row id2) (hh:S.h id2=some (.rows e2 ds)) (hne:notW (yL S e (ev S x)).2.2 id2)
  (hb:((yL S e (ev S x)).2.1.length+ds.length) * i.bytes<=140737488355328) (hm:(yL S e (ev S x)).2.1.length+ds.length<=maxLen) :
  VE A P ops o { av:=.row S.n,hw:=zV (yL S e (ev S x)).2.2++[(S.n,some (.rows e ((yL S e (ev S x)).2.1++ds)))],hr:=xw (yL S e (ev S x)).2.2++[id2],news:=[S.n],n:=S.n+1 } S:=by
 obtain ⟨d,hd,hok⟩:=ht.under;rw [htd] at hok
 simp only [TD.ok] at hok;subst hok
 obtain ⟨g1,g2⟩:=Qfv hS hx;have hdead:∀ j,(yL S e (ev S x)).2.2=some j->j ∈ xw (yL S e (ev S x)).2.2++[id2]/\∃ ob,S.h j=some ob:=fun j hj=>⟨by rw [hj];simp [xw],g2 j hj⟩
 refine VE.newOb hS hw (by simp [ho]) (fun i hi=>?_) hdead fun F S2 a w ρ own hag H=>?_
 ·simp only [AObj.ids] at hi
  obtain ⟨c,hc,hi⟩:=AV.mem_idsL.1 hi
  rcases au.1 hc with hc|hc
  ·exact g1 c hc i hi
  ·exact VN hS hh c hc i hi
 have h1:=qm H x;rw [hag.ev (x:=x) (by simp [ho,Op.operands,Call.operands])] at h1
 have h2:=qm H y;rw [hag.ev (x:=y) (by simp [ho,Op.operands,Call.operands]),hy] at h2
 obtain ⟨f1,p1,p2,p3,p4,p5⟩:=QiW H hx (fun id hid=>hag.2.1 id (by rw [hid];simp [xw])) h1
 have hob:=H.obj id2 _ ((hag.2.1 id2 (by simp)).trans hh)
 generalize hvy:a.eval y=vy at h2;cases h2 with
 |row e1 _ =>
  rw [e1] at hob;obtain ⟨f2,q1,q2,q3,q4⟩:=Jt hob
  have hrow:ORel w (okB w own ρ S2.h) ρ F.y (.row e2 1 (opq f2)) vy:=.row (by omega) (YX f2) (by simpa [opq,q2] using q1) (K3 q3)
  obtain ⟨flat,hs⟩:=JH hrow;have hdst:Dst w (okB w own ρ S2.h) e 1 (opq f1) (a.eval x):=⟨f1,by simpa [opq,p2] using p1,K3 p3⟩
  rw [<- hk] at hs hdst;have hl1:(opq f1).length=(yL S e (ev S x)).2.1.length:=by simp [opq,p2]
  have hl2:(opq f2).length=ds.length:=by simp [opq,q2]
  obtain ⟨v',w',hrun,hxt,h1c,hbl,flat',hown',hrel'⟩:=kJ (ty:=o.type) hd hi (by omega) (fun r hr=>by rw [hk];exact YX f1 r hr) (fun r hr=>by rw [hk];exact YX f2 r hr) hdst hs (by rw [hl1,hl2];exact hb) (by rw [hl1,hl2];exact hm)
  rw [hk] at hown' hrel';refine ⟨v',w', ?_,hxt.weaken fun b _ hb=>p5 b hb,h1c, ?_,fun b hb'=>(hbl b hb').imp id (p5 b)⟩
  ·unfold execOp
   simp only [ho,resolve,invoke,builtin,aH,aL,aJ,cg,aw,aX,hvy,hrun]
  ·refine .rows (flat:=flat') (by rw [aD,<- hl1,<- hl2,<- aD];exact hown') fun q c hq=>?_
   have key:∃ u,(opq f1++opq f2)[q]?=some [.v u]/\ARel w (okB w own ρ S2.h) ρ F.y c u:=by
    by_cases hlt:q < (yL S e (ev S x)).2.1.length
    ·rw [bp hlt] at hq
     obtain ⟨u,hu,hr⟩:=p4 q c hq;exact ⟨u,by rw [bp (by omega)];simp [opq,hu],hr⟩
    ·rw [bv (by omega)] at hq
     obtain ⟨u,hu,hr⟩:=q4 _ c hq;exact ⟨u,by rw [bv (by omega),hl1];simp [opq,hu],hr⟩
   obtain ⟨u,hu,hr⟩:=key;obtain ⟨u',hu',hd'⟩:=hrel' q _ 0 _ hu rfl
   cases hd' with
   |v h1 =>
    refine ⟨u,by simpa using hu',hr.mono (fun b hb'=>⟨hb',hxt.block b hb'.1 fun hbx=>?_⟩) (fun _ _=>rfl),h1⟩
    obtain ⟨j',hj',hbj⟩:=p5 b hbx;obtain ⟨hmem,ob,hob⟩:=hdead j' hj'
    exact hb'.2.2 j' ob ((hag.2.1 j' hmem).trans hob) hbj
def QdQ (hS:Wf S) (hw:Want ops o S) {t e:TypeId} {n:Nat} {parts:Array (Nat × Operand)} (ho:o.op=.buildSlice t n parts) {i j:TI} (ht:TyFact P t i) (htd:i.td=.slice e) (hj:TyFact P e j) (hk:j.cells=1) (hn:0 < n) (hmax:n<=16777216)
  {out:List AV} (h:xz (jS 1) (fun cs=>cs=out) (zeros j.zero n) (parts.toList.map fun p=>(p.1,ev S p.2))) :
  VE A P ops o { av:=.row S.n,hw:=zV none++[(S.n,some (.rows e out))],hr:=[],news:=[S.n],n:=S.n+1 } S:=by
 obtain ⟨d,hd,hok⟩:=ht.under;rw [htd] at hok
 simp only [TD.ok] at hok;subst hok
 obtain ⟨inf,z0,_,_,_,_,hz0,hzs0,_⟩:=hj.info;have hzl:j.zero.length=1:=by rw [<- hz0];simpa [hk] using hzs0
 have hol0:out.length=n:=by rw [Zm h,zeros_length,hzl,bI]
 have hcid:∀ c ∈ out,∀ id ∈ c.ids,id < S.n:=by
  refine We h (fun c hc id hid=>?_) (fun p hp id hid=>?_)
  ·obtain ⟨q,hq⟩:=dN.1 hc
   have hlt:q < n * j.zero.length:=by have:=(aq.1 hq).1;rwa [zeros_length] at this
   rw [WC _ _ _ hlt,<- hz0,aC] at hq;obtain ⟨v,_,rfl⟩:=aA.1 hq
   rw [QT] at hid;cases hid
  ·obtain ⟨q,_,rfl⟩:=aj.1 hp
   exact jO hS q.2 id hid
 refine VE.newOb hS hw (by simp [ho]) (fun i hi=>?_) (by simp) fun F S2 a w ρ own hag H=>?_
 ·simp only [AObj.ids] at hi
  obtain ⟨c,hc,hi⟩:=AV.mem_idsL.1 hi;exact hcid c hc i hi
 obtain ⟨z,hz,h1,h2,h3⟩:=hj.run_zero w;have hsz:z.cells.size=1:=h2.trans hk
 have hp:=Wp (S:=S) H (parts:=parts) fun x hx=>hag.ev (x:=x) (by simp [ho,Op.operands];simpa using hx)
 have hinit:CRel w (okB w own ρ S2.h) ρ F.y (zeros j.zero n) ((Array.range (n * 1)).map (z.cells[· % z.cells.size]!)):=by
  refine ⟨by simp [zeros_length,hzl],fun q c hc=>?_⟩
  have hq:q < n * 1:=by have:=(aq.1 hc).1;rwa [zeros_length,hzl] at this
  rw [WC _ _ _ (by rw [hzl];exact hq),hzl] at hc
  have hcr:=(Wv (w:=w) (ok:=okB w own ρ S2.h) (ρ:=ρ) (y:=F.y) h1 h3).rel _ c hc;have hmod:q % 1 < z.cells.size:=by rw [hsz];exact ce _ (by omega)
  have:((Array.range (n * 1)).map (z.cells[· % z.cells.size]!)).getD q undef=z.cells.getD (q % 1) undef:=by
   have hq':q < n:=by omega
   simp [hq',hsz,Nat.mod_one]
  rw [this];exact hcr
 obtain ⟨_,vout,rfl,g2,g3⟩:=ZZ h hp.1 hp.2 hinit;have hol:vout.size=n:=by rw [g3.size,hol0]
 refine ⟨.slice (some ⟨w.heap.size,0,none⟩) n n,w.alloc (.cells vout e), ?_,(Ext.alloc _ _ _),rfl, ?_,fun b hb=>?_⟩
 ·have h0:¬ (2 ^ 24 < n * 1):=by have:(2:Nat) ^ 24=16777216:=rfl;omega
  have h00:¬ (n * 1=0):=by omega
  have hpl:(fun q=>some (q * 1,1))=jS 1:=rfl
  simp only [execOp,ho,Instr.buildSlice,aH,run_underlying hd,aJ,hj.run_sizeOf,hk,gt_iff_lt,h0,if_false,h00,hz,aL,hpl,g2]
  simp [newRow,newObj,Sem.run]
 ·refine .rows (flat:=vout.toList) (.inl ⟨by simp [hol,hol0],.inr ⟨w.heap.size,n,vout,by rw [hol0],af _,QA _ _,by rw [hol0];exact ag _, ?_,by rw [hol,bI], ?_⟩⟩) fun i c hc=>?_
  ·have hml:(16777216:Nat)<=maxLen:=by decide
   omega
  ·rw [hol0];exact bb (by rw [ba,hol];omega)
  ·obtain ⟨r1,r2⟩:=g3.rel i c hc
   have hlt:i < vout.size:=by have:=(aq.1 hc).1;omega
   refine ⟨vout.getD i undef,by simp [hlt],r1.mono (fun b hb=>⟨hb,(Ext.alloc (fun _=>False) w _).block b hb.1 (by simp)⟩) (fun _ _=>rfl),r2⟩
 ·simp only [blk] at hb
  split at hb
  ·cases hb
  ·cases hb;exact .inl (ag _)
def Qc8 (hS:Wf S) (hw:Want ops o S) {t e:TypeId} {x ix:Operand} (ho:o.op=.indexAddr t x ix) {i j:TI} (ht:TyFact P t i) (htd:i.td=.slice e) (hj:TyFact P e j) (hk:j.cells=1) {k:IntKind} {n:Int} (hn:ev S ix=.v (.int k n))
  {id:Nat} {e':TypeId} {cs:List AV} (hx:ev S x=.row id) (hh:S.h id=some (.rows e' cs)) (h0:0<=n) (hlt:n.toNat < cs.length):VE A P ops o { av:=.rp id 1 n.toNat 0,hr:=[id],n:=S.n } S:=by
 obtain ⟨d,hd,hok⟩:=ht.under;rw [htd] at hok
 simp only [TD.ok] at hok;subst hok
 have hids:=jO hS x;rw [hx] at hids
 refine VE.val hw (by simp [ho]) (by simpa [AV.ids] using hids) fun F S2 a w ρ own hag H=>?_
 have h1:=qm H x;rw [hag.ev (x:=x) (by simp [ho,Op.operands]),hx] at h1
 have h2:=qm H ix;rw [hag.ev (x:=ix) (by simp [ho,Op.operands]),hn] at h2
 have h2:=(qx h2).1;generalize hv:a.eval x=v at h1
 cases h1 with
 |row e1 e2 =>
  have hobj:=H.obj id _ ((hag.2.1 id (by simp)).trans hh)
  rw [e1] at hobj;obtain ⟨flat,r3,_⟩:=Jt hobj
  obtain ⟨_,g,cap,cur,rfl,_⟩:=wO r3 (by omega)
  have hnm:n < (cs.length:Int):=by omega
  refine ⟨.pointer (some ⟨g,n.toNat * 1,none⟩),w, ?_,Ext.none w, ?_⟩
  ·simp [execOp,ho,hv,h2,Instr.indexAt,asIntOf,run_underlying hd,hj.run_sizeOf,hk,h0,hnm,jm]
  ·exact .rp (off:=0) e1
def Qid {id i:Nat} {e:TypeId} {cs:List AV} (hh:S.h id=some (.rows e cs)) (hi:i < cs.length):RdOK S (.rp id 1 i 0) 1 [cs[i]] [id]:=by
 refine ⟨fun hS c hc j hj=>?_,fun F S2 a w ρ own v hag H hv=>?_⟩
 ·rw [aM] at hc
  subst hc;exact VN hS hh _ (bF hi) j hj
 ·have ho:=H.obj id _ ((hag id (by simp)).trans hh)
  cases hv with
  |@rp _ _ _ _ b m c e' =>
   rw [e'] at ho;obtain ⟨flat,r3,r4,r5,r6⟩:=Jt ho
   have hcell:=(wO r3 (by omega)).1.cells (g:=b) rfl
   obtain ⟨u,hu,hr⟩:=r6 i _ (al hi);refine ⟨rfl,_,[u],rfl,rfl,fun j u' hu'=>?_,fun j c u' hc hu'=>?_⟩
   ·cases j with
    |succ j=>simp at hu'
    |zero =>
     simp only [aK,ak] at hu';subst hu'
     have:=hcell _ u hu;rw [jm] at this
     rw [jm]
     simpa using this
   ·cases j with
    |succ j=>simp at hu'
    |zero =>
     simp only [aK,ak] at hu' hc;subst hu' hc
     exact ⟨hr,r5 i u hu⟩
def Qf9 {w:World} {ok:Nat->Prop} {ρ:Nat->Value} {y:Value} {e:TypeId} {cs:List AV} {x:Value} (h:ORel w ok ρ y (.rows e cs) x):∃ a c,x=.slice a cs.length c/\cs.length<=maxLen:=by
 obtain ⟨flat,h3,hl,h4,_⟩:=Jt h;have hrow:ORel w ok ρ y (.row e 1 (opq flat)) x:=.row (by omega) (YX flat) (by simpa [opq,hl] using h3) (K3 h4)
 have:=Qcj hrow
 simpa [opq,hl] using this
def QhE (hw:Want ops o S) {t:TypeId} {x:Operand} (ho:o.op=.call { callee:=.builtin .len,args:=#[x],argTypes:=#[t] }) {i:TI} (ht:TyFact P t i) {e:TypeId} (htd:i.td=.slice e)
  {id:Nat} {e':TypeId} {cs:List AV} (hx:ev S x=.row id) (hh:S.h id=some (.rows e' cs)):VE A P ops o { av:=.v (.int .i64 cs.length),hr:=[id],n:=S.n } S:=by
 obtain ⟨d,hd,hok⟩:=ht.under;rw [htd] at hok
 simp only [TD.ok] at hok;subst hok
 refine VE.val hw (by simp [ho]) (by simp [AV.ids]) fun F S2 a w ρ own hag H=>?_
 have h1:=qm H x;rw [hag.ev (x:=x) (by simp [ho,Op.operands,Call.operands]),hx] at h1
 refine ⟨_,w, ?_,Ext.none w,.v rfl⟩
 have hob:=H.obj id _ ((hag.2.1 id (by simp)).trans hh)
 generalize hv:a.eval x=v at h1;cases h1 with
 |row e1 _ =>
  rw [e1] at hob;obtain ⟨a0,c0,rfl,_⟩:=Qf9 hob
  have hrun:(Builtin.len_ #[t] o.type #[.slice a0 cs.length c0]).run P w=.ok (.int .i64 cs.length) w:=by simp [Builtin.len_,run_underlying hd,goInt]
  unfold execOp;simp only [ho,resolve,invoke,builtin,aH,aL,aJ,cg,aw,aX,hv,hrun]
end
def Qed (op:BinOp) (t:TypeId) (x y:Operand) (a b:ByteArray) (w:World):(eqGuard op t x y (.string a) (.string b)).run P w=.ok () w:=by
 cases op <;> rfl
def QdO (op:BinOp) (t:TypeId) (a b:ByteArray):binOp op t (.string a) (.string b)=Op.stringOp op a b:=by
 cases op <;> rfl
def Yv {ops:Array Oper} {o:Oper} {S:St} (hw:Want ops o S) {op:BinOp} {t:TypeId} {x y:Operand} {c:TypeId} (ho:o.op=.binOp op t x y c) {a b:ByteArray} (hx:ev S x=.v (.string a)) (hy:ev S y=.v (.string b)) {v:Value} (h1:v.oneCell'=true)
  (h:∀ w,(Op.stringOp op a b).run P w=.ok v w):VE A P ops o { av:=.v v,n:=S.n } S :=
 VE.val2 hw (by simp [ho]) (by simp [ho,Op.operands]) (by simp [ho,Op.operands]) hx hy h1 fun ac w ex ey=>by
  simp [execOp,ho,ex,ey,Qed,QdO,h w]
def QhM {a b:List UInt8} (h:a.length+b.length<=9223372036854775807) (w:World):(Op.stringOp .add ⟨⟨a⟩⟩ ⟨⟨b⟩⟩).run P w=.ok (.string ⟨⟨a++b⟩⟩) w:=by
 have e:¬ (((ByteArray.size ⟨⟨a⟩⟩+ByteArray.size ⟨⟨b⟩⟩:Nat):Int) > IntKind.i64.max):=by
  show ¬ (((a.length+b.length:Nat):Int) > 9223372036854775807)
  omega
 have e2:(⟨⟨a⟩⟩:ByteArray)++⟨⟨b⟩⟩=⟨⟨a++b⟩⟩:=by
  apply ByteArray.ext
  simp
 simp only [Op.stringOp];rw [if_neg e,e2]
 rfl
def Qho (a b:List UInt8) (w:World):(Op.stringOp .eql ⟨⟨a⟩⟩ ⟨⟨b⟩⟩).run P w=.ok (.bool (a == b)) w:=by
 simp only [Op.stringOp,ByteArray.toList_eq];rfl
def Qhw (a b:List UInt8) (w:World):(Op.stringOp .neq ⟨⟨a⟩⟩ ⟨⟨b⟩⟩).run P w=.ok (.bool (!(a == b))) w:=by
 simp only [Op.stringOp,ByteArray.toList_eq];rfl
section more
variable {ops : Array Oper} {o : Oper} {S : St}
def Yo {t:TypeId} {i:TI} (ht:TyFact P t i) (htd:i.td=.string):P.underlying t=some .string:=by
 obtain ⟨d,hd,hok⟩:=ht.under;rw [htd] at hok
 simp only [TD.ok] at hok;rw [hd,hok]
def Qc7 (hw:Want ops o S) {t:TypeId} {x ix:Operand} (ho:o.op=.index t x ix) {i:TI} (ht:TyFact P t i) (htd:i.td=.string) {a:List UInt8} (hx:ev S x=.v (.string ⟨⟨a⟩⟩)) {k:IntKind} {n:Int} (hi:ev S ix=.v (.int k n))
  (g0:0<=n) (g1:n.toNat < a.length):VE A P ops o { av:=.v (.int .u8 (a.getD n.toNat 0).toNat),n:=S.n } S :=
 VE.val2 hw (by simp [ho]) (by simp [ho,Op.operands]) (by simp [ho,Op.operands]) hx hi rfl fun ac w ex ey=>by
  have hb:(ByteArray.mk ⟨a⟩)[n.toNat]?=some (a[n.toNat]'g1):=by
   have hs:n.toNat < (ByteArray.mk ⟨a⟩).size:=g1;rw [getElem?_pos (ByteArray.mk ⟨a⟩) n.toNat hs]
   rfl
  have hg:a.getD n.toNat 0=a[n.toNat]'g1:=by simp [g1]
  simp only [execOp,ho,ex,ey,Instr.index,asIntOf,run_underlying (Yo ht htd),aH,aL,aJ,if_pos g0,hb,hg]
def Y2 {k:IntKind} {y:Nat} {c:BoundsCode} {w:World} {d:Int} (h0:0<=d) (h1:d<=y):(Instr.sliceBound (.int k d) y c).run P w=.ok d.toNat w:=by
 simp [Instr.sliceBound,asIntOf,h0,h1]
def Qez (hw:Want ops o S) {t:TypeId} {x:Operand} {lo hi:Option Operand} (ho:o.op=.slice t x lo hi none) {i:TI} (ht:TyFact P t i) (htd:i.td=.string) {a:List UInt8} (hx:ev S x=.v (.string ⟨⟨a⟩⟩)) {l h:Int}
  (hl:(lo=none/\l=0)\/∃ y k,lo=some y/\ev S y=.v (.int k l)) (hh:(hi=none/\h=a.length)\/∃ y k,hi=some y/\ev S y=.v (.int k h))
  (g0:0<=l) (g1:l<=h) (g2:h<=a.length):VE A P ops o { av:=.v (.string ⟨⟨(a.take h.toNat).drop l.toNat⟩⟩),n:=S.n } S :=
 VE.val hw (by simp [ho]) (by simp [AV.ids]) fun F S2 ac w ρ own hag H=>by
  have e1:=qm H x;rw [hag.ev (x:=x) (by simp [ho,Op.operands]),hx] at e1
  have e1:=(qx e1).1;have ev1:∀ y ∈ (Op.slice t x lo hi none).operands,∀ {k:IntKind} {n:Int},ev S y=.v (.int k n)->ac.eval y=.int k n:=fun y hm k n hy=>by
   have e2:=qm H y;rw [hag.ev (x:=y) (by rw [ho];exact hm),hy] at e2
   exact (qx e2).1
  refine ⟨.string ⟨⟨(a.take h.toNat).drop l.toNat⟩⟩,w, ?_,Ext.none w,.v rfl⟩
  have hsz:(⟨⟨a⟩⟩:ByteArray).size=a.length:=rfl;have hex:(⟨⟨a⟩⟩:ByteArray).extract l.toNat h.toNat=⟨⟨(a.take h.toNat).drop l.toNat⟩⟩:=by
   apply ByteArray.ext
   apply Array.ext'
   simp only [ByteArray.data_extract,Array.toList_extract,List.extract_eq_take_drop];rw [List.drop_take]
  have hn1:((a.length:Nat):Int).toNat=a.length:=by omega
  have g3:l<=(h.toNat:Nat):=by omega
  have hsb:(Instr.sliceBounds false a.length a.length (lo.map ac.eval) (hi.map ac.eval) none).run P w=.ok (l.toNat,h.toNat,a.length) w:=by
   unfold Instr.sliceBounds
   rcases hl with ⟨rfl,rfl⟩|⟨y,k,rfl,hy⟩ <;> rcases hh with ⟨rfl,rfl⟩|⟨y',k',rfl,hy'⟩
   ·simp
   ·have e2:=ev1 y' (by simp [Op.operands]) hy'
    simp [e2,Y2 (P:=P) (k:=k') (c:=.sliceAlen) (w:=w) (d:=h) (y:=a.length) (by omega) g2]
   ·have e2:=ev1 y (by simp [Op.operands]) hy
    simp [e2,Y2 (P:=P) (k:=k) (c:=.sliceB) (w:=w) g0 g1]
   ·have e2:=ev1 y' (by simp [Op.operands]) hy'
    have e3:=ev1 y (by simp [Op.operands]) hy
    simp [e2,e3,Y2 (P:=P) (k:=k') (c:=.sliceAlen) (w:=w) (d:=h) (y:=a.length) (by omega) g2,Y2 (P:=P) (k:=k) (c:=.sliceB) (w:=w) g0 g3]
  simp only [execOp,ho,e1,ci,Instr.sliceAt,Instr.slice,run_underlying (Yo ht htd),aH,aL,aJ,Option.isSome_none,cN,if_false,hsz,hsb,hex]
def bytesOf:List (List DV)->Option (List UInt8)
 |[]=>some []
 |r :: xs=>match r with
  |[.v (.int .u8 n)]=>match bytesOf xs with
   |some l=>some (UInt8.ofNat n.toNat :: l)
   |none=>none
  |_=>none
def JR:∀ {xs:List (List DV)} {l:List UInt8},bytesOf xs=some l->∃ ns:List Int,xs=ns.map (fun n=>[.v (.int .u8 n)])/\l=ns.map fun n=>UInt8.ofNat n.toNat
 |[],l,h=>by simp only [bytesOf,ak] at h;exact ⟨[],rfl,h.symm⟩
 |r :: xs,l,h=>by
  simp only [bytesOf] at h;split at h
  ·split at h
   ·rename_i n _ l' hl
    obtain ⟨ns,e1,e2⟩:=JR hl;cases h
    exact ⟨n :: ns,by rw [e1];rfl,by rw [e2];rfl⟩
   ·cases h
  ·cases h
def Qae:∀ (ns:List Int) (a:List UInt8),(ns.foldl (fun r n=>ByteArray.push r (UInt8.ofNat n.toNat)) ⟨⟨a⟩⟩)=⟨⟨a++ns.map fun n=>UInt8.ofNat n.toNat⟩⟩
 |[],a=>by simp
 |n :: ns,a=>by
  have:ByteArray.push ⟨⟨a⟩⟩ (UInt8.ofNat n.toNat)=⟨⟨a++[UInt8.ofNat n.toNat]⟩⟩:=by
   apply ByteArray.ext;simp [ByteArray.push]
  rw [List.foldl_cons,this,Qae ns]
  simp
def QgW (hw:Want ops o S) {s t e:TypeId} {x:Operand} (ho:o.op=.convert s t x) {is it ie:TI} (hs:TyFact P s is) (hsd:is.td=.slice e) (he:TyFact P e ie) (hed:ie.td=.int .u8) (ht:TyFact P t it) (htd:it.td=.string)
  {id:Nat} (hx:ev S x=.row id) {e':TypeId} {k:Nat} {xs:List (List DV)} (hh:S.h id=some (.row e' k xs)) {l:List UInt8} (hl:bytesOf xs=some l) (hpos:0 < xs.length) (hk:k=1):VE A P ops o { av:=.v (.string ⟨⟨l⟩⟩),hr:=[id],n:=S.n } S:=by
 subst hk;obtain ⟨ns,hxs,rfl⟩:=JR hl
 obtain ⟨d,hd,hok⟩:=hs.under;rw [hsd] at hok
 simp only [TD.ok] at hok;obtain ⟨d2,hd2,hok2⟩:=he.under
 rw [hed] at hok2;simp only [TD.ok] at hok2
 subst hok hok2;refine VE.val (hr:=[id]) hw (by simp [ho]) (by simp [AV.ids]) fun F S2 a w ρ own hag H=>?_
 have e1:=qm H x;rw [hag.ev (x:=x) (by simp [ho,Op.operands]),hx] at e1
 have hob:=H.obj id _ ((hag.2.1 id (by simp)).trans hh)
 generalize hv:a.eval x=v at e1;cases e1 with
 |@row _ _ e1 h1 =>
  rw [e1] at hob;cases hob with
  |@row _ _ _ _ flat h1 h2 h3 h4 =>
   obtain ⟨ho1,g,cap,cur,rfl,hg,hc1,hc2,hc3,hc4,_⟩:=wO h3 hpos;refine ⟨.string ⟨⟨ns.map fun n=>UInt8.ofNat n.toNat⟩⟩,w, ?_,Ext.none w,.v rfl⟩
   have hcell:=ho1.cells (g:=g) rfl;have hld:(loadCells ⟨g,0,none⟩ xs.length).run P w=.ok (ns.map (Value.int .u8)).toArray w:=by
    have:=run_loadCells_list (P:=P) w ⟨g,0,none⟩ (ns.map (Value.int .u8)) (fun j v hj=>by
     rw [aC] at hj;obtain ⟨n,hn,rfl⟩:=aA.1 hj
     obtain ⟨u,hu1,hu2⟩:=h4 j [.v (.int .u8 n)] 0 _ (by rw [hxs,aC,hn];rfl) rfl
     cases hu2 with
     |v _ =>
      rw [bI,bC] at hu1;exact hcell _ _ hu1)
    rw [hxs,ab]
    simpa using this
   have:=run_bytesToString (P:=P) w ⟨g,0,none⟩ xs.length cap ns hld;have he0:ByteArray.empty=⟨⟨[]⟩⟩:=rfl
   rw [he0,Qae,bc] at this;simp only [execOp,ho,hv,convert,run_underlying hd,run_underlying hd2,run_underlying (Yo ht htd),aH,aL,aJ,this]
def Qf2 (hw:Want ops o S) {t:TypeId} {x:Operand} (ho:o.op=.makeInterface t x) {i:TI} (ht:TyFact P t i) (htd:i.td ≠ .iface) {c:AV} (hx:ev S x=c) {v:Value} (h:c=.v v\/(c=.agg []/\v=.agg #[])):VE A P ops o { av:=.v (.iface t v),n:=S.n } S:=by
 obtain ⟨d,hd,hok⟩:=ht.under;refine VE.val hw (by simp [ho]) (by simp [AV.ids]) fun F S2 a w ρ own hag H=>?_
 have e1:=qm H x;rw [hag.ev (x:=x) (by simp [ho,Op.operands]),hx] at e1
 have hv:a.eval x=v:=by
  rcases h with rfl|⟨rfl,rfl⟩
  ·exact (qx e1).1
  ·generalize a.eval x=u at e1
   cases e1 with
   |@agg _ vs hs _ =>
    have:vs=#[]:=cY (by simpa using hs)
    rw [this]
 refine ⟨.iface t v,w, ?_,Ext.none w,.v rfl⟩
 cases hdd:d <;> first
  |(subst hdd;simp only [execOp,ho,hv,Instr.makeInterface,run_underlying hd,aH,aL,aJ];done)
  |skip
 subst hdd;cases hi:i.td <;> rw [hi] at hok htd <;> simp [TD.ok] at hok htd
end more
abbrev Ans:=Prop × Eff
def bad:Ans:=(False,{ av:=.junk })
abbrev Ctr:=St->Option FuncId->List AV->Ans
def jE:AV->Option (Option FuncId × List AV)
 |.clo f caps=>some (some f,caps)
 |.cb=>some (none,[])
 |.bnd f _=>some (some f,[])
 |_=>none
def Zj {v:AV} {f:FuncId} {caps:List AV} (h:jE v=some (some f,caps)):v=.clo f caps/\Zu v=[]\/v=.bnd f (Zu v)/\caps=[]:=by
 cases v <;> simp only [jE,ak,Prod.mk.injEq,reduceCtorEq,false_and] at h
 ·obtain ⟨rfl,rfl⟩:=h;exact .inl ⟨rfl,rfl⟩
 ·obtain ⟨rfl,rfl⟩:=h;exact .inr ⟨rfl,rfl⟩
def Ctr.OK (A:Frm->Prop) (P:Program) (Φ:Ctr):Prop:=∀ S f bs,(Φ S f bs).1->Wf S->∀ ops o g args tys caps,Want ops o S->o.op=.call { callee:=.value g,args:=args,argTypes:=tys }->jE (ev S g)=some (f,caps)->Zu (ev S g)++(args.toList.map (ev S)++caps)=bs->VE A P ops o (Φ S f bs).2 S
def rdE (S:St) (n:Nat):AV->Prop × List AV × List Nat
 |.ptr id off=>match S.h id with
  |some (.cells cs)=>(off+n<=cs.length,(cs.drop off).take n,[id])
  |_=>(False,[],[])
 |.ep cs off=>(off+n<=cs.length,((cs.drop off).take n).map DV.av,[])
 |.rp id k i off=>match S.h id with
  |some (.row _ k' xs)=>(k'=k/\off+n<=k/\i < xs.length,(((xs.getD i []).drop off).take n).map DV.av,[id])
  |some (.rows _ cs)=>(k=1/\n=1/\off=0/\i < cs.length,[cs.getD i .junk],[id])
  |_=>(False,[],[])
 |_=>(False,[],[])
def kX {α:Type} {xs:List α} {i:Nat} (h:i < xs.length) (z:α):xs.getD i z=xs[i]:=by simp [h]
def QgG {S:St} {n:Nat} {c:AV} (h:(rdE S n c).1):RdOK S c n (rdE S n c).2.1 (rdE S n c).2.2:=by
 by_cases hr:∃ id k i off e cs,c=.rp id k i off/\S.h id=some (.rows e cs)
 ·obtain ⟨id,k,i,off,e,cs,rfl,hc⟩:=hr
  simp only [rdE,hc] at h ⊢;obtain ⟨rfl,rfl,rfl,h4⟩:=h
  rw [kX h4];exact Qid hc h4
 have key:rd S n (fun cells hr=>cells=(rdE S n c).2.1/\hr=(rdE S n c).2.2) c:=by
  cases c <;> simp only [rdE] at h <;> simp only [rd]
  case ptr id off =>
   split at h
   ·rename_i cs hc;rw [hc];exact ⟨cs,rfl,h,by simp [rdE,hc],by simp [rdE,hc]⟩
   ·exact h.elim
  case ep cs off=>exact ⟨h,rfl,rfl⟩
  case rp id k i off =>
   split at h
   ·rename_i e k' xs hc;rw [hc];exact ⟨e,k',xs,rfl,h.1,h.2.1,h.2.2,by simp only [rdE,hc];rw [kX h.2.2],by simp only [rdE,hc]⟩
   ·rename_i e cs hc;exact absurd ⟨_,_,_,_,_,_,rfl,hc⟩ hr
   ·exact h.elim
  all_goals exact h.elim
 obtain ⟨cells,hr,⟨rfl,rfl⟩,hrd⟩:=UQ key;exact hrd
def UM (S:St) (i:Option TI) (x:AV):Ans:=match i with
 |some i=>((rdE S (bif i.td.agg then i.cells else 1) x).1,{ av:=yV i (rdE S (bif i.td.agg then i.cells else 1) x).2.1,hr:=(rdE S (bif i.td.agg then i.cells else 1) x).2.2,n:=S.n })
 |none=>bad
def Qc6 (n:Nat):AV->AV
 |.ptr id o=>.ptr id (o+n)
 |.ep cs o=>.ep cs (o+n)
 |.rp id k i o=>.rp id k i (o+n)
 |_=>.junk
def Zz:AV->Prop
 |.ptr _ _=>True
 |.ep _ _=>True
 |.rp _ _ _ _=>True
 |_=>False
def Yn (S:St) (i:Option TI) (f:Nat) (x:AV):Ans:=match i with
 |some i=>match i.td with
  |.struct fs=>match fs[f]? with
   |some p=>(p.2.1 ≠ 0/\Zz x,{ av:=Qc6 p.1 x,n:=S.n })
   |none=>bad
  |_=>bad
 |none=>bad
def za (O:Tys) (i:Option TI):Option (TypeId × TI):=match i with
 |some i=>match i.td.elem with
  |some e=>match O e with
   |some j=>some (e,j)
   |none=>none
  |none=>none
 |none=>none
def vY {O:Tys} {i:Option TI} {e:TypeId} {j:TI} (h:za O i=some (e,j)):∃ i',i=some i'/\i'.td.elem=some e/\O e=some j:=by
 cases i with
 |none=>simp [za] at h
 |some i =>
  simp only [za] at h;split at h
  ·rename_i e' he
   split at h
   ·rename_i j' hj;cases h;exact ⟨i,rfl,he,hj⟩
   ·cases h
  ·cases h
def dvZ (cs:List AV):List DV:=(dvL cs).getD []
def Zx (S:St) (ej:Option (TypeId × TI)) (i:Option TI) (ix:AV) (x:AV):Ans:=match ej,i,ix with
 |some (_,j),some i,.v (.int _ n)=>match x with
  |.sl xs=>((i.td.elem.isSome=true/\i.td.agg=false)/\0<=n/\n.toNat < xs.length/\(xs.getD n.toNat (dvZ j.zero)).length=j.cells,{ av:=.ep (xs.getD n.toNat (dvZ j.zero)) 0,n:=S.n })
  |.row id=>match S.h id with
   |some (.row _ k xs)=>((i.td.elem.isSome=true/\i.td.agg=false)/\k=j.cells/\0<=n/\n.toNat < xs.length,{ av:=.rp id k n.toNat 0,hr:=[id],n:=S.n })
   |some (.rows _ cs)=>((i.td.elem.isSome=true/\i.td.agg=false)/\j.cells=1/\0<=n/\n.toNat < cs.length,{ av:=.rp id 1 n.toNat 0,hr:=[id],n:=S.n })
   |_=>bad
  |.rsl id kk lo m=>match S.h id with
   |some (.row _ k xs)=>((i.td.elem.isSome=true/\i.td.agg=false)/\(k=j.cells/\kk=j.cells)/\0<=n/\n.toNat < m/\lo+m<=xs.length,{ av:=.rp id kk (lo+n.toNat) 0,hr:=[id],n:=S.n })
   |_=>bad
  |.csl id m=>((i.td.elem.isSome=true/\i.td.agg=false)/\0<=n/\n.toNat < m,{ av:=.ptr id (n.toNat * j.cells),n:=S.n })
  |.ptr id off=>match i.td with
   |.array m _=>(0<=n/\n.toNat < m,{ av:=.ptr id (off+n.toNat * j.cells),n:=S.n })
   |_=>bad
  |_=>bad
 |_,_,_=>bad
def QbO (S:St) (i:Option TI):Ans:=match i with
 |some i=>(True,{ av:=.ptr S.n 0,hw:=[(S.n,some (.cells i.zero))],news:=[S.n],n:=S.n+1 })
 |none=>bad
def boxE (S:St) (x:AV):Ans:=((cellsOf x).all jI=true,{ av:=.ptr S.n 0,hw:=[(S.n,some (.cells (cellsOf x)))],news:=[S.n],n:=S.n+1 })
def dvE (S:St):AV->Prop × DV × List Nat
 |.v x=>(True,.v x,[])
 |.nil=>(True,.sl [],[])
 |.emp=>(True,.sl [],[])
 |.sl xs=>(True,.sl xs,[])
 |.row id=>match S.h id with
  |some (.row _ _ xs)=>(True,.sl xs,[id])
  |_=>(False,.sl [],[])
 |_=>(False,.sl [],[])
def vS (S:St):List AV->Prop × List DV × List Nat
 |[]=>(True,[],[])
 |c :: cs=>((dvE S c).1/\(vS S cs).1,(dvE S c).2.1 :: (vS S cs).2.1,(dvE S c).2.2++(vS S cs).2.2)
def Zl (S:St) (i:Option TI) (x v:AV):Ans:=match i with
 |some i=>match x with
  |.ptr id off=>match S.h id with
   |some (.cells cs)=>((cellsOf v).all jI=true/\(cellsOf v).length=i.cells/\off+(cellsOf v).length<=cs.length,{ av:=.junk,hw:=[(id,some (.cells (cs.take off++cellsOf v++cs.drop (off+(cellsOf v).length))))],hr:=[id],n:=S.n })
   |_=>bad
  |.rp id k m off=>match S.h id with
   |some (.row e k' xs)=>((cellsOf v).length=i.cells/\k'=k/\(vS S (cellsOf v)).1/\off+(vS S (cellsOf v)).2.1.length<=k/\m < xs.length/\id ∉ (vS S (cellsOf v)).2.2,{ av:=.junk,hw:=(id,some (.row e k (xs.set m ((xs.getD m []).take off++(vS S (cellsOf v)).2.1++(xs.getD m []).drop (off+(vS S (cellsOf v)).2.1.length))))) :: qV (vS S (cellsOf v)).2.2,hr:=id :: (vS S (cellsOf v)).2.2,n:=S.n })
   |_=>bad
  |_=>bad
 |none=>bad
def kF (op:BinOp) (k:IntKind) (a b:Int):Prop × Value :=
 match op with
 |.add=>(True,.int k (k.wrap (a+b)))
 |.sub=>(True,.int k (k.wrap (a - b)))
 |.mul=>(True,.int k (k.wrap (a * b)))
 |.quo=>(b ≠ 0,.int k (k.wrap (a.tdiv b)))
 |.rem=>(b ≠ 0,.int k (a.tmod b))
 |.and=>(True,.int k (k.wrap (BitVec.ofInt k.bits a &&& BitVec.ofInt k.bits b).toNat))
 |.or=>(True,.int k (k.wrap (BitVec.ofInt k.bits a ||| BitVec.ofInt k.bits b).toNat))
 |.xor=>(True,.int k (k.wrap (BitVec.ofInt k.bits a ^^^ BitVec.ofInt k.bits b).toNat))
 |.andNot=>(True,.int k (k.wrap (BitVec.ofInt k.bits a &&& ~~~(BitVec.ofInt k.bits b)).toNat))
 |.eql=>(True,.bool (decide (a=b)))
 |.neq=>(True,.bool (!decide (a=b)))
 |.lss=>(True,.bool (decide (a < b)))
 |.leq=>(True,.bool (decide (a<=b)))
 |.gtr=>(True,.bool (decide (b < a)))
 |.geq=>(True,.bool (decide (b<=a)))
 |.shl=>(0<=b,.int k (k.wrap (a * 2 ^ min b.toNat k.bits)))
 |.shr=>(0<=b,.int k (a.fdiv (2 ^ min b.toNat k.bits)))
def Qdc {op:BinOp} {k:IntKind} {a b:Int} (h:(kF op k a b).1):QgE op k a b fun v=>v=(kF op k a b).2:=by
 cases op <;> simp only [kF] at h <;> simp only [QgE,kF] <;> first|exact ⟨h,trivial⟩|exact rfl
def Qdt:Option IntKind->AV->AV->Prop × Bool
 |some k,.v (.int k1 a),.v (.int k2 b)=>(k1=k/\k2=k,decide (a=b))
 |none,.v (.bool a),.v (.bool b)=>(True,a == b)
 |_,_,_=>(False,false)
def eqE:List (Option IntKind)->List AV->List AV->Prop × Bool
 |[],[],[]=>(True,true)
 |k :: ks,c :: cs,d :: ds=>((Qdt k c d).1/\(eqE ks cs ds).1,(Qdt k c d).2 && (eqE ks cs ds).2)
 |_,_,_=>(False,false)
def Vm:∀ {ks:List (Option IntKind)} {cs ds:List AV} {K:Bool->Prop},(eqE ks cs ds).1->K (eqE ks cs ds).2->eqB ks cs ds K
 |[],[],[],K,_,hk=>hk
 |k :: ks,c :: cs,d :: ds,K,h,hk=>by
  simp only [eqE] at h hk;obtain ⟨h1,h2⟩:=h
  unfold Qdt at h1 hk;split at h1
  ·exact ⟨_,_,rfl,_,_,rfl,h1.1,h1.2,Vm h2 hk⟩
  ·exact ⟨_,rfl,_,rfl,Vm h2 hk⟩
  ·exact h1.elim
 |[],[],_ :: _,_,h,_=>by simp [eqE] at h
 |[],_ :: _,_,_,h,_=>by simp [eqE] at h
 |_ :: _,[],_,_,h,_=>by simp [eqE] at h
 |_ :: _,_ :: _,[],_,h,_=>by simp [eqE] at h
def boolT:Option TI->Bool
 |some i=>match i.td with
  |.bool=>true
  |_=>false
 |none=>false
def XG (S:St) (i:Option TI) (op:BinOp) (a b:Bool):Ans:=match op with
 |.eql=>(boolT i=true,{ av:=.v (.bool (a == b)),n:=S.n })
 |.neq=>(boolT i=true,{ av:=.v (.bool (!(a == b))),n:=S.n })
 |_=>bad
def QbG (S:St) (op:BinOp) (a b:List UInt8):Ans:=match op with
 |.add=>(a.length+b.length<=9223372036854775807,{ av:=.v (.string ⟨⟨a++b⟩⟩),n:=S.n })
 |.eql=>(True,{ av:=.v (.bool (a == b)),n:=S.n })
 |.neq=>(True,{ av:=.v (.bool (!(a == b))),n:=S.n })
 |_=>bad
def Vx (S:St) (i:Option TI) (op:BinOp) (x y:AV):Ans:=match x,y with
 |.v (.int k a),.v (.int k' b)=>((Ws op || k == k')=true/\(kF op k a b).1,{ av:=.v (kF op k a b).2,n:=S.n })
 |.agg cs,.agg ds=>match i with
  |some i=>match i.eqk with
   |some ks=>match op with
    |.eql=>((eqE ks cs ds).1,{ av:=.v (.bool (eqE ks cs ds).2),n:=S.n })
    |.neq=>((eqE ks cs ds).1,{ av:=.v (.bool (!(eqE ks cs ds).2)),n:=S.n })
    |_=>bad
   |none=>bad
  |none=>bad
 |.v (.bool a),.v (.bool b)=>XG S i op a b
 |.v (.string ⟨⟨a⟩⟩),.v (.string ⟨⟨b⟩⟩)=>QbG S op a b
 |_,_=>bad
def unE (S:St) (op:UnOp) (x:AV):Ans:=match op,x with
 |.not,.v (.bool b)=>(True,{ av:=.v (.bool (!b)),n:=S.n })
 |.neg,.v (.int k n)=>(True,{ av:=.v (.int k (k.wrap (0 - n))),n:=S.n })
 |_,_=>bad
def VM (S:St) (i j:Option TI) (x:AV):Ans:=match i,j,x with
 |some _,some j,.v (.int _ n)=>match j.td with
  |.int k'=>(True,{ av:=.v (.int k' (k'.wrap n)),n:=S.n })
  |_=>bad
 |_,_,_=>bad
def QaE (S:St) (x:AV) (ix:Nat):Ans:=match x with
 |.tup cs=>match cs[ix]? with
  |some c=>(True,{ av:=c,n:=S.n })
  |none=>bad
 |_=>bad
def Yp (S:St) (i:Option TI) (x:AV):Ans:=match i with
 |some i=>match i.td with
  |.slice _=>match x with
   |.nil=>(True,{ av:=.v (.int .i64 0),n:=S.n })
   |.emp=>(True,{ av:=.v (.int .i64 0),n:=S.n })
   |.sl xs=>(True,{ av:=.v (.int .i64 xs.length),n:=S.n })
   |.csl _ m=>(True,{ av:=.v (.int .i64 m),n:=S.n })
   |.rsl _ _ _ m=>(True,{ av:=.v (.int .i64 m),n:=S.n })
   |.row id=>match S.h id with
    |some (.row _ _ xs)=>(True,{ av:=.v (.int .i64 xs.length),hr:=[id],n:=S.n })
    |some (.rows _ cs)=>(True,{ av:=.v (.int .i64 cs.length),hr:=[id],n:=S.n })
    |_=>bad
   |_=>bad
  |.string=>match x with
   |.v (.string s)=>(True,{ av:=.v (.int .i64 s.size),n:=S.n })
   |_=>bad
  |_=>bad
 |none=>bad
def xc (S:St):AV->Prop × List (List DV) × List Nat
 |.nil=>(True,[],[])
 |.emp=>(True,[],[])
 |.sl xs=>(True,xs,[])
 |.row id=>match S.h id with
  |some (.row _ _ xs)=>(True,xs,[id])
  |_=>(False,[],[])
 |_=>(False,[],[])
def dstE (S:St) (e:TypeId) (k:Nat):AV->Prop × List (List DV) × Option Nat
 |.nil=>(True,[],none)
 |.emp=>(True,[],none)
 |.row id=>match S.h id with
  |some (.row e' k' xs)=>(e'=e/\k'=k,xs,some id)
  |_=>(False,[],none)
 |_=>(False,[],none)
def zu (k:Nat) (xs:List (List DV)):Prop:=∀ r ∈ xs,r.length=k
def Qbp (k:Nat):zu k []=True:=by simp [zu]
def UB (k:Nat) (x:List DV) (xs:List (List DV)):zu k (x :: xs)=(x.length=k/\zu k xs):=by simp [zu]
def Xp (k:Nat) (xs ys:List (List DV)):zu k (xs++ys)=(zu k xs/\zu k ys):=by
 apply propext
 simp only [zu,au];exact ⟨fun h=>⟨fun r hr=>h r (.inl hr),fun r hr=>h r (.inr hr)⟩,fun h r hr=>hr.elim (h.1 r) (h.2 r)⟩
def yX {α:Type} {k:Nat} {f:α->List DV} (h:∀ a,(f a).length=k) (l:List α):zu k (l.map f)=True:=by
 simp only [zu,aj];exact eq_true fun r ⟨a,_,e⟩=>e ▸ h a
def Qck (d:Option Nat) (hr:List Nat):Prop:=match d with
 |some d=>d ∉ hr
 |none=>True
def QaM {d:Option Nat} {hr:List Nat} (h:Qck d hr):∀ i,d=some i->i ∉ hr:=by
 rintro i rfl;exact h
def QgV (S:St) (ej:Option (TypeId × TI)) (sl:Bool) (x y:AV):Ans:=match ej with
 |some (e,j)=>(sl=true/\0 < j.cells/\(dstE S e j.cells x).1/\(xc S y).1/\Qck (dstE S e j.cells x).2.2 (xc S y).2.2/\zu j.cells (dstE S e j.cells x).2.1/\zu j.cells (xc S y).2.1 /\
   ((dstE S e j.cells x).2.1.length+(xc S y).2.1.length) * j.bytes<=140737488355328/\(dstE S e j.cells x).2.1.length+(xc S y).2.1.length<=maxLen,
   {av:=.row S.n,hw:=zV (dstE S e j.cells x).2.2++[(S.n,some (.row e j.cells ((dstE S e j.cells x).2.1++(xc S y).2.1)))],hr:=xw (dstE S e j.cells x).2.2++(xc S y).2.2,news:=[S.n],n:=S.n+1 })
 |none=>bad
def isSlice (i:Option TI):Bool:=match i with
 |some i=>match i.td with
  |.slice _=>true
  |_=>false
 |none=>false
def minE (S:St) (x y:AV):Ans:=match x,y with
 |.v (.int k a),.v (.int _ b)=>(True,{ av:=.v (.int k (min a b)),n:=S.n })
 |_,_=>bad
def maxE (S:St) (x y:AV):Ans:=match x,y with
 |.v (.int k a),.v (.int _ b)=>(True,{ av:=.v (.int k (max a b)),n:=S.n })
 |_,_=>bad
def qN (d:Int):Option AV->Prop × Int
 |none=>(True,d)
 |some (.v (.int _ n))=>(True,n)
 |some _=>(False,0)
def slE (x:AV):Prop × List (List DV):=match x with
 |.nil=>(True,[])
 |.emp=>(True,[])
 |.sl xs=>(True,xs)
 |_=>(False,[])
def ZY (S:St) (ej:Option (TypeId × TI)) (sl:Bool) (x:AV) (lo hi mx:Option AV):Ans:=match ej with
 |some (_,j)=>match mx with
  |none=>(sl=true/\(slE x).1/\(qN 0 lo).1/\(qN (slE x).2.length hi).1/\0<=(qN 0 lo).2/\(qN 0 lo).2<=(qN (slE x).2.length hi).2/\(qN (slE x).2.length hi).2<=(slE x).2.length/\zu j.cells (slE x).2,
    {av:=.sl (((slE x).2.take (qN (slE x).2.length hi).2.toNat).drop (qN 0 lo).2.toNat),n:=S.n })
  |some m=>(sl=true/\(slE x).1/\lo=none/\hi.isSome=true/\(qN 0 hi).1/\(qN 0 hi).2=0/\(qN 0 (some m)).1/\(qN 0 (some m)).2=0,{ av:=.emp,n:=S.n })
 |none=>bad
def yE (place:Nat->Option (Nat × Nat)):List AV->List (Nat × AV)->Prop × List AV
 |cells,[]=>(True,cells)
 |cells,p :: rest=>match place p.1 with
  |some q=>((cellsOf p.2).length=q.2/\q.1+(cellsOf p.2).length<=cells.length/\(cellsOf p.2).all jI=true/\(yE place (cells.take q.1++cellsOf p.2++cells.drop (q.1+(cellsOf p.2).length)) rest).1,(yE place (cells.take q.1++cellsOf p.2++cells.drop (q.1+(cellsOf p.2).length)) rest).2)
  |none=>(False,[])
def kK {place:Nat->Option (Nat × Nat)} {K:List AV->Prop}:∀ {ps:List (Nat × AV)} {cells:List AV},(yE place cells ps).1->K (yE place cells ps).2->xz place K cells ps
 |[],_,_,hk=>hk
 |p :: ps,cells,h,hk=>by
  simp only [yE] at h hk;simp only [xz]
  split at h
  ·rename_i q hq
   rw [hq] at hk ⊢;exact ⟨h.1,h.2.1,h.2.2.1,kK h.2.2.2 hk⟩
  ·exact h.elim
def K5 (S:St) (i:Option TI) (ps:List (Nat × AV)):Ans:=match i with
 |some i=>match i.td with
  |.struct fs=>((yE (WW fs) i.zero ps).1,{ av:=.agg (yE (WW fs) i.zero ps).2,n:=S.n })
  |_=>bad
 |none=>bad
def Qe9 {S:St} {c:AV} {K:DV->List Nat->Prop} (h:(dvE S c).1) (hk:K (dvE S c).2.1 (dvE S c).2.2):dvS S K c:=by
 cases c <;> simp only [dvE] at h hk <;> simp only [dvS] <;> first|exact hk|exact h.elim|skip
 split at h
 ·rename_i e k xs hc;rw [hc] at hk ⊢;exact ⟨e,k,xs,rfl,hk⟩
 ·exact h.elim
def Yg {S:St}:∀ {cs:List AV} {K:List DV->List Nat->Prop},(vS S cs).1->K (vS S cs).2.1 (vS S cs).2.2->WI S K cs
 |[],K,_,hk=>hk
 |c :: cs,K,h,hk=>Qe9 h.1 (Yg h.2 hk)
def bsW (S:St) (e:TypeId) (j:TI) (sl:Bool) (n:Nat) (ps:List (Nat × AV)):Ans :=
 (sl=true/\j.cells=1/\n<=16777216/\(yE (jS 1) (zeros j.zero n) ps).1,{ av:=.row S.n,hw:=zV none++[(S.n,some (.rows e (yE (jS 1) (zeros j.zero n) ps).2))],hr:=[],news:=[S.n],n:=S.n+1 })
def bsE (S:St) (ej:Option (TypeId × TI)) (sl:Bool) (n:Nat) (ps:List (Nat × AV)):Ans:=match ej with
 |some (e,j)=>if n=0 then (sl=true/\ps=[],{ av:=.emp,n:=S.n }) else bif j.deep then bsW S e j sl n ps else
   (sl=true/\0 < j.cells/\n * j.cells<=16777216/\(yE (jS j.cells) (zeros j.zero n) ps).1/\(vS S (yE (jS j.cells) (zeros j.zero n) ps).2).1,
    {av:=.row S.n,hw:=(S.n,some (.row e j.cells (chunk j.cells n (vS S (yE (jS j.cells) (zeros j.zero n) ps).2).2.1))) :: qV (vS S (yE (jS j.cells) (zeros j.zero n) ps).2).2.2,hr:=(vS S (yE (jS j.cells) (zeros j.zero n) ps).2).2.2,news:=[S.n],n:=S.n+1 })
 |none=>bad
def QfP (id k n:Nat) (l h:Int):Option AV->AV
 |none=>.rsl id k l.toNat (h.toNat - l.toNat)
 |some _=>if l < n then .rsl id k l.toNat (h.toNat - l.toNat) else .sl []
def KS (S:St) (ej:Option (TypeId × TI)) (sl:Bool) (x:AV) (lo hi mx:Option AV):Ans:=match ej,x,mx with
 |some (_,j),.row id,none=>match S.h id with
  |some (.row _ k xs)=>(sl=true/\k=j.cells/\(qN 0 lo).1/\(qN xs.length hi).1/\0<=(qN 0 lo).2/\(qN 0 lo).2<=(qN xs.length hi).2/\(qN xs.length hi).2<=xs.length/\0 < xs.length,
    {av:=QfP id j.cells xs.length (qN 0 lo).2 (qN xs.length hi).2 lo,hr:=[id],n:=S.n })
  |_=>bad
 |_,_,_=>bad
def QcW:AV->Bool
 |.row _=>true
 |_=>false
def QaI (S:St) (ej:Option (TypeId × TI)) (i:Option TI) (x:AV) (lo hi mx:Option AV):Ans:=match ej,i with
 |some (_,_),some i=>match i.td with
  |.array m _=>match x with
   |.ptr id off=>match lo,mx with
    |none,none=>((qN m hi).1/\0<=(qN m hi).2/\(qN m hi).2<=m/\m<=maxLen,{ av:=.psl id off (qN m hi).2.toNat m,n:=S.n })
    |_,_=>bad
   |_=>bad
  |_=>bad
 |_,_=>bad
def QcL:AV->Bool
 |.ptr _ _=>true
 |_=>false
def Vy (S:St) (i:Option TI) (ej:Option (TypeId × TI)) (sl:Bool) (x:AV) (lo hi mx:Option AV):Ans:=match QcL x with
 |true=>QaI S ej i x lo hi mx
 |false=>match QcW x with
  |true=>KS S ej sl x lo hi mx
  |false=>ZY S ej sl x lo hi mx
def yT (S:St) (kk:Nat):AV->Prop × List (List DV) × List Nat
 |.sl ys=>(True,ys,[])
 |.row id=>match S.h id with
  |some (.row _ k xs)=>(k=kk,xs,[id])
  |_=>(False,[],[])
 |.rsl id k lo n=>match S.h id with
  |some (.row _ k' xs)=>(k=kk/\k'=kk/\lo+n<=xs.length,(xs.drop lo).take n,[id])
  |_=>(False,[],[])
 |_=>(False,[],[])
def appR (S:St) (ej:Option (TypeId × TI)) (sl:Bool) (x y:AV):Ans:=match ej,x with
 |some (e,j),.rsl id k' lo n=>match S.h id with
  |some (.row e' k xs)=>(sl=true/\0 < j.cells/\e'=e/\k=j.cells/\k'=j.cells/\lo=0/\n<=xs.length/\(yT S j.cells y).1/\zu j.cells (xs.take n)/\zu j.cells (yT S j.cells y).2.1 /\
    ((xs.take n).length+(yT S j.cells y).2.1.length) * j.bytes<=140737488355328/\(xs.take n).length+(yT S j.cells y).2.1.length<=maxLen,
    {av:=.row S.n,hw:=zV (some id)++[(S.n,some (.row e j.cells (xs.take n++(yT S j.cells y).2.1)))],hr:=xw (some id)++(yT S j.cells y).2.2,news:=[S.n],n:=S.n+1 })
  |_=>bad
 |_,_=>bad
def Qch:AV->Bool
 |.rsl _ _ _ _=>true
 |_=>false
def appW (S:St) (ej:Option (TypeId × TI)) (sl:Bool) (x:AV) (p:Nat × List AV):Ans:=match ej with
 |some (e,j)=>(sl=true/\j.cells=1/\(yL S e x).1/\notW (yL S e x).2.2 p.1/\((yL S e x).2.1.length+p.2.length) * j.bytes<=140737488355328/\(yL S e x).2.1.length+p.2.length<=maxLen,
   {av:=.row S.n,hw:=zV (yL S e x).2.2++[(S.n,some (.rows e ((yL S e x).2.1++p.2)))],hr:=xw (yL S e x).2.2++[p.1],news:=[S.n],n:=S.n+1 })
 |none=>bad
def Qfl (S:St) (ej:Option (TypeId × TI)) (sl:Bool) (x y:AV):Ans:=match Qch x with
 |true=>appR S ej sl x y
 |false=>match Qdh S y with
  |some p=>appW S ej sl x p
  |none=>QgV S ej sl x y
def QfE:AV->Option (Nat × Nat × Option Nat)
 |.row id=>some (id,0,none)
 |.rsl id _ lo n=>some (id,lo,some n)
 |_=>none
def KJ (S:St) (ej:Option (TypeId × TI)) (sl:Bool) (x y:AV):Ans:=match ej,QfE x with
 |some (_,j),some (id,lo,nn)=>match S.h id with
  |some (.row e' k xs)=>(sl=true/\0 < j.cells/\k=j.cells/\(x=.row id\/x=.rsl id j.cells lo (nn.getD xs.length))/\lo+nn.getD xs.length<=xs.length/\0 < nn.getD xs.length/\(yT S j.cells y).1/\zu j.cells (yT S j.cells y).2.1/\0 < (yT S j.cells y).2.1.length,
    {av:=.v (.int .i64 (min (yT S j.cells y).2.1.length (nn.getD xs.length):Nat)),hw:=[(id,some (.row e' k (xs.take lo++(yT S j.cells y).2.1.take (min (yT S j.cells y).2.1.length (nn.getD xs.length))++xs.drop (lo+min (yT S j.cells y).2.1.length (nn.getD xs.length)))))],hr:=id :: (yT S j.cells y).2.2,n:=S.n })
  |_=>bad
 |_,_=>bad
def Qfm (S:St) (ej:Option (TypeId × TI)) (sl:Bool) (x y:AV):Ans:=match ej,x with
 |some (_,j),.psl id off n _=>match S.h id with
  |some (.cells cs)=>(sl=true/\j.cells=1/\off+n<=cs.length/\(yT S 1 y).1/\zu 1 (yT S 1 y).2.1/\0 < (yT S 1 y).2.1.length,
    {av:=.v (.int .i64 (min (yT S 1 y).2.1.length n:Nat)),hw:=[(id,some (.cells (cs.take off++(((yT S 1 y).2.1.take (min (yT S 1 y).2.1.length n)).flatten).map DV.av++cs.drop (off+min (yT S 1 y).2.1.length n))))],hr:=id :: (yT S 1 y).2.2,n:=S.n })
  |_=>bad
 |_,_=>bad
def Qfr:AV->Bool
 |.psl _ _ _ _=>true
 |_=>false
def Um (S:St) (ej:Option (TypeId × TI)) (sl:Bool) (x y:AV):Ans:=match Qfr x with
 |true=>Qfm S ej sl x y
 |false=>KJ S ej sl x y
def isNil:List AV->Bool
 |[.nil]=>true
 |_=>false
def QaF {l:List AV} (h:isNil l=true):l=[.nil]:=by
 unfold isNil at h;split at h
 ·rfl
 ·cases h
def XO (S:St) (ej:Option (TypeId × TI)) (sl:Bool) (x y:AV):Ans:=match ej,x,y with
 |some (e,j),.v (.int _ n),.v (.int _ m)=>bif isNil j.zero then
   (sl=true/\n=m/\0<=n/\(j.bytes:Int) * n<=140737488355328/\n<=maxLen,{ av:=.csl S.n n.toNat,hw:=[(S.n,some (.cells (List.replicate n.toNat .nil)))],hr:=[],news:=[S.n],n:=S.n+1 })
  else (sl=true/\n=m/\0<=n/\(j.bytes:Int) * n<=140737488355328/\n<=maxLen/\0 < j.cells/\(dvL j.zero).isSome=true,{ av:=.row S.n,hw:=(S.n,some (.row e j.cells (List.replicate n.toNat (dvZ j.zero)))) :: qV [],hr:=[],news:=[S.n],n:=S.n+1 })
 |_,_,_=>bad
def Qcl (S:St):Option Operand->Ans
 |none=>(True,{ av:=.mp S.n,hw:=[(S.n,some (.map []))],news:=[S.n],n:=S.n+1 })
 |some _=>bad
noncomputable def Lj (S:St) (i:Option TI) (c:Bool) (k x:AV):Ans:=match i with
 |some i=>match i.key with
  |some q=>match x with
   |.mp id=>match k.toV with
    |some kv=>match S.h id with
     |some (.map es)=>(MOK q.kd.Q es/\q.kd.Q kv/\(yt q (vg es kv)).1,{ av:=bif c then .tup [(yt q (vg es kv)).2.1,.v (.bool (yt q (vg es kv)).2.2)] else (yt q (vg es kv)).2.1,hr:=[id],n:=S.n })
     |_=>bad
    |none=>bad
   |_=>bad
  |none=>bad
 |none=>bad
noncomputable def Qhd (S:St) (i:Option TI) (k v x:AV):Ans:=match i with
 |some i=>match i.key with
  |some q=>match x with
   |.mp id=>match k.toV with
    |some kv=>match v.toV with
     |some u=>match S.h id with
      |some (.map es)=>(MOK q.kd.Q es/\q.kd.Q kv/\(Q7 es kv u).length<=maxLen,{ av:=.junk,hw:=[(id,some (.map (Q7 es kv u)))],hr:=[id],n:=S.n })
      |_=>bad
     |none=>bad
    |none=>bad
   |_=>bad
  |none=>bad
 |none=>bad
noncomputable def QfM (S:St) (i:Option TI) (k x:AV):Ans:=match i with
 |some i=>match i.key with
  |some q=>match x with
   |.mp id=>match k.toV with
    |some kv=>match q.z.toV with
     |some zv=>match S.h id with
      |some (.map es)=>(MOK q.kd.Q es/\q.kd.Q kv/\(yt q (vg es kv)).1/\es.length+1<=maxLen,{ av:=.tup [(yt q (vg es kv)).2.1,.v (.int .i64 (Xn es kv:Nat))],hw:=[(id,some (.map (W9 es kv zv)))],hr:=[id],n:=S.n })
      |_=>bad
     |none=>bad
    |none=>bad
   |_=>bad
  |none=>bad
 |none=>bad
def Qgj (S:St) (s v x:AV):Ans:=match x with
 |.mp id=>match s with
  |.v (.int _ n)=>match v.toV with
   |some u=>match S.h id with
    |some (.map es)=>(0<=n/\n.toNat < es.length,{ av:=.junk,hw:=[(id,some (.map (es.set n.toNat ((es.getD n.toNat (undef,undef)).1,u))))],hr:=[id],n:=S.n })
    |_=>bad
   |none=>bad
  |_=>bad
 |_=>bad
def QaJ (S:St) (ej:Option (TypeId × TI)) (i:Option TI) (ps:List (Nat × AV)):Ans:=match ej,i with
 |some (_,j),some i=>match i.td with
  |.array _ _=>((yE (jS j.cells) i.zero ps).1,{ av:=.agg (yE (jS j.cells) i.zero ps).2,n:=S.n })
  |_=>bad
 |_,_=>bad
def arrB:Option TI->Bool
 |some i=>match i.td with
  |.array _ _=>true
  |_=>false
 |none=>false
def Xb (S:St) (ej:Option (TypeId × TI)) (i:Option TI) (ps:List (Nat × AV)):Ans:=match arrB i with
 |true=>QaJ S ej i ps
 |false=>K5 S i ps
def V4 (S:St) (ej:Option (TypeId × TI)) (i:Option TI) (ix x:AV):Ans:=match ej,i with
 |some (_,j),some i=>match i.td with
  |.array m _=>match x,ix with
   |.agg cs,.v (.int _ n)=>(0<=n/\n < m/\n.toNat * j.cells+(bif j.td.agg then j.cells else 1)<=cs.length,{ av:=yV j ((cs.drop (n.toNat * j.cells)).take (bif j.td.agg then j.cells else 1)),n:=S.n })
   |_,_=>bad
  |_=>bad
 |_,_=>bad
def QB (O:Tys) (S:St) (i:Option TI) (f:Nat) (x:AV):Ans:=match i with
 |some i=>match i.td with
  |.struct fs=>match fs[f]? with
   |some p=>match O p.2.2 with
    |some j=>match x with
     |.agg cs=>(p.1+(bif j.td.agg then j.cells else 1)<=cs.length,{ av:=yV j ((cs.drop p.1).take (bif j.td.agg then j.cells else 1)),n:=S.n })
     |_=>bad
    |none=>bad
   |none=>bad
  |_=>bad
 |none=>bad
def Qaz:AV->Option (List UInt8)
 |.v (.string ⟨⟨a⟩⟩)=>some a
 |_=>none
def XK {x:AV} {a:List UInt8} (h:Qaz x=some a):x=.v (.string ⟨⟨a⟩⟩):=by
 unfold Qaz at h;split at h
 ·cases h;rfl
 ·cases h
def Qeq:Option TI->Bool
 |some i=>match i.td with
  |.string=>true
  |_=>false
 |none=>false
def Yq {O:Tys} {t:TypeId} (h:Qeq (O t)=true):∃ i,O t=some i/\i.td=.string:=by
 unfold Qeq at h;split at h
 ·rename_i i hi;split at h
  ·exact ⟨i,hi,‹_›⟩
  ·cases h
 ·cases h
def idxS (S:St) (i:Option TI) (ix:AV) (a:List UInt8):Ans:=match ix with
 |.v (.int _ n)=>(Qeq i=true/\0<=n/\n.toNat < a.length,{ av:=.v (.int .u8 (a.getD n.toNat 0).toNat),n:=S.n })
 |_=>bad
def VJ (S:St) (ej:Option (TypeId × TI)) (i:Option TI) (ix x:AV):Ans:=match Qaz x with
 |some a=>idxS S i ix a
 |none=>V4 S ej i ix x
def Qgp (S:St) (i:Option TI) (a:List UInt8) (lo hi mx:Option AV):Ans:=match mx with
 |none=>(Qeq i=true/\(qN 0 lo).1/\(qN a.length hi).1/\0<=(qN 0 lo).2/\(qN 0 lo).2<=(qN a.length hi).2/\(qN a.length hi).2<=a.length,
   {av:=.v (.string ⟨⟨(a.take (qN a.length hi).2.toNat).drop (qN 0 lo).2.toNat⟩⟩),n:=S.n })
 |some _=>bad
def VD (S:St) (i:Option TI) (ej:Option (TypeId × TI)) (sl:Bool) (x:AV) (lo hi mx:Option AV):Ans:=match Qaz x with
 |some a=>Qgp S i a lo hi mx
 |none=>Vy S i ej sl x lo hi mx
def u8T:Option (TypeId × TI)->Bool
 |some p=>match p.2.td with
  |.int .u8=>true
  |_=>false
 |none=>false
def QfH {O:Tys} {i:Option TI} (h:u8T (za O i)=true):∃ i' e j,i=some i'/\i'.td.elem=some e/\O e=some j/\j.td=.int .u8:=by
 unfold u8T at h;split at h
 ·rename_i p hp;obtain ⟨e,j⟩:=p
  obtain ⟨i',g1,g2,g3⟩:=vY hp;split at h
  ·exact ⟨i',e,j,g1,g2,g3,‹_›⟩
  ·cases h
 ·cases h
def QeG (S:St) (ej:Option (TypeId × TI)) (sl:Bool) (j:Option TI) (id:Nat):Ans:=match S.h id with
 |some (.row _ k xs)=>match bytesOf xs with
  |some l=>(sl=true/\u8T ej=true/\Qeq j=true/\k=1/\0 < xs.length,{ av:=.v (.string ⟨⟨l⟩⟩),hr:=[id],n:=S.n })
  |none=>bad
 |_=>bad
def QdV:AV->Option Nat
 |.row id=>some id
 |_=>none
def Qd9 {x:AV} {id:Nat} (h:QdV x=some id):x=.row id:=by
 unfold QdV at h;split at h
 ·cases h;rfl
 ·cases h
def Qak (S:St) (ej:Option (TypeId × TI)) (sl:Bool) (i j:Option TI) (x:AV):Ans:=match QdV x with
 |some id=>QeG S ej sl j id
 |none=>VM S i j x
def Qg9:Option TI->Bool
 |some i=>match i.td with
  |.iface=>true
  |_=>false
 |none=>true
def XE {O:Tys} {t:TypeId} (h:Qg9 (O t)=false):∃ i,O t=some i/\i.td ≠ .iface:=by
 unfold Qg9 at h;split at h
 ·rename_i i hi;split at h
  ·cases h
  ·exact ⟨i,hi,‹_›⟩
 ·cases h
def Qdg (S:St) (i:Option TI) (t:TypeId):AV->Ans
 |.v u=>(Qg9 i=false,{ av:=.v (.iface t u),n:=S.n })
 |.agg []=>(Qg9 i=false,{ av:=.v (.iface t (.agg #[])),n:=S.n })
 |_=>bad
def Xg (S:St) (ej:Option (TypeId × TI)) (sl:Bool) (x:AV):Ans:=match ej,x with
 |some (_,j),.rsl id k' lo n=>match S.h id with
  |some (.row e' k xs)=>(sl=true/\0 < j.cells/\k=j.cells/\k'=j.cells/\lo+n<=xs.length/\0 < n/\(dvL j.zero).isSome=true,
    {av:=.junk,hw:=[(id,some (.row e' k (xs.take lo++List.replicate n (dvZ j.zero)++xs.drop (lo+n))))],hr:=[id],n:=S.n })
  |_=>bad
 |_,_=>bad
def QeU (S:St) (f:FuncId):List AV->List AV->Ans
 |[],cs=>(True,{ av:=.clo f cs,n:=S.n })
 |x :: xs,[]=>(True,{ av:=.bnd f (x :: xs),n:=S.n })
 |_,_=>bad
def ZP (O:Tys) (Φ:Ctr) (S:St) (c:Call):Ans:=match c.callee with
 |.builtin .len=>match c.args.toList,c.argTypes.toList with
  |[x],[t]=>Yp S (O t) (ev S x)
  |_,_=>bad
 |.builtin .copy=>match c.args.toList,c.argTypes.toList with
  |[x,y],[t,_]=>Um S (za O (O t)) (isSlice (O t)) (ev S x) (ev S y)
  |_,_=>bad
 |.builtin .append=>match c.args.toList,c.argTypes.toList with
  |[x,y],[t,t']=>if t=t' then Qfl S (za O (O t)) (isSlice (O t)) (ev S x) (ev S y) else bad
  |_,_=>bad
 |.builtin .clear=>match c.args.toList,c.argTypes.toList with
  |[x],[t]=>Xg S (za O (O t)) (isSlice (O t)) (ev S x)
  |_,_=>bad
 |.builtin .min=>match c.args.toList,c.argTypes.toList with
  |[x,y],[_,_]=>minE S (ev S x) (ev S y)
  |_,_=>bad
 |.builtin .max=>match c.args.toList,c.argTypes.toList with
  |[x,y],[_,_]=>maxE S (ev S x) (ev S y)
  |_,_=>bad
 |.value g=>match jE (ev S g) with
  |some (f,caps)=>Φ S f (Zu (ev S g)++(c.args.toList.map (ev S)++caps))
  |none=>bad
 |_=>bad
noncomputable def opE (O:Tys) (Φ:Ctr) (S:St):Op->Ans
 |.move x=>(True,{ av:=ev S x,n:=S.n })
 |.assign x=>(True,{ av:=ev S x,n:=S.n })
 |.load t x=>UM S (O t) (ev S x)
 |.fieldAddr t x f=>Yn S (O t) f (ev S x)
 |.indexAddr t x ix=>Zx S (za O (O t)) (O t) (ev S ix) (ev S x)
 |.alloc t=>QbO S (O t)
 |.box _ x=>boxE S (ev S x)
 |.store t x v=>Zl S (O t) (ev S x) (ev S v)
 |.binOp op t x y _=>Vx S (O t) op (ev S x) (ev S y)
 |.unOp u _ x=>unE S u (ev S x)
 |.convert s t x=>Qak S (za O (O s)) (isSlice (O s)) (O s) (O t) (ev S x)
 |.extract x ix=>QaE S (ev S x) ix
 |.makeFunc (.func f) first caps=>QeU S f (first.toList.map (ev S)) (caps.toList.map (ev S))
 |.nilCheck x=>(Zz (ev S x),{ av:=ev S x,n:=S.n })
 |.build t ps=>Xb S (za O (O t)) (O t) (ps.toList.map fun p=>(p.1,ev S p.2))
 |.buildSlice t n ps=>bsE S (za O (O t)) (isSlice (O t)) n (ps.toList.map fun p=>(p.1,ev S p.2))
 |.makeSlice t x y=>XO S (za O (O t)) (isSlice (O t)) (ev S x) (ev S y)
 |.slice t x lo hi mx=>VD S (O t) (za O (O t)) (isSlice (O t)) (ev S x) (lo.map (ev S)) (hi.map (ev S)) (mx.map (ev S))
 |.index t x ix=>VJ S (za O (O t)) (O t) (ev S ix) (ev S x)
 |.field t x f=>QB O S (O t) f (ev S x)
 |.makeMap _ r=>Qcl S r
 |.lookup t x k c=>Lj S (O t) c (ev S k) (ev S x)
 |.mapUpdate t x k v=>Qhd S (O t) (ev S k) (ev S v) (ev S x)
 |.call c=>ZP O Φ S c
 |.mapEntry t x k=>QfM S (O t) (ev S k) (ev S x)
 |.entryStore _ x s v=>Qgj S (ev S s) (ev S v) (ev S x)
 |.makeInterface t x=>Qdg S (O t) t (ev S x)
 |_=>bad
section sound
variable {ops : Array Oper} {o : Oper} {S : St} {O : Tys}
def U1 (hΓ:zW P O) (hS:Wf S) (hw:Want ops o S) {t:TypeId} {x:Operand} (ho:o.op=.load t x) (h:(UM S (O t) (ev S x)).1):VE A P ops o (UM S (O t) (ev S x)).2 S:=by
 cases hi:O t with
 |none=>rw [hi] at h;exact h.elim
 |some i=>rw [hi] at h;exact Qhe hS hw ho (hΓ t i hi) rfl (QgG h)
def Ri (hΓ:zW P O) (hS:Wf S) (hw:Want ops o S) {t:TypeId} {x:Operand} {f:Nat} (ho:o.op=.fieldAddr t x f) (h:(Yn S (O t) f (ev S x)).1):VE A P ops o (Yn S (O t) f (ev S x)).2 S:=by
 cases hi:O t with
 |none=>rw [hi] at h;exact h.elim
 |some i =>
  rw [hi] at h;simp only [Yn] at h ⊢
  split at h
  ·rename_i fs htd
   try rw [htd]
   try simp only
   split at h
   ·rename_i p hp
    try rw [hp]
    obtain ⟨off,sz,ft⟩:=p;obtain ⟨av,rfl,hv⟩:=Ud (A:=A) (K:=fun av=>av=Qc6 off (ev S x)) hS hw ho (hΓ t i hi) htd hp h.1 (by
     have h2:=h.2;generalize ev S x=c at h2
     cases c <;> simp only [Zz] at h2 <;> first|exact h2.elim|rfl)
    exact hv
   ·exact h.elim
  ·exact h.elim
def Qbh (hΓ:zW P O) (hS:Wf S) (hw:Want ops o S) {t:TypeId} {x ix:Operand} (ho:o.op=.indexAddr t x ix) (h:(Zx S (za O (O t)) (O t) (ev S ix) (ev S x)).1):VE A P ops o (Zx S (za O (O t)) (O t) (ev S ix) (ev S x)).2 S:=by
 cases hej:za O (O t) with
 |none=>rw [hej] at h;exact h.elim
 |some p =>
  obtain ⟨e,j⟩:=p;obtain ⟨i,hi,hel,hj⟩:=vY hej
  rw [hej,hi] at h;have slice:i.td.elem.isSome=true/\i.td.agg=false->∃ e,i.td=.slice e:=fun ⟨h1,h2⟩=>by
   cases htd:i.td <;> rw [htd] at h1 h2 <;> simp [TD.elem,TD.agg] at h1 h2
   exact ⟨_,rfl⟩
  cases hix:ev S ix with
  |v u =>
   rw [hix] at h;cases u with
   |int k n =>
    by_cases hw8:∃ id e' cs,ev S x=.row id/\S.h id=some (.rows e' cs)
    ·obtain ⟨id,e',cs,hx,hc⟩:=hw8
     rw [hx] at h ⊢;rw [hi]
     simp only [Zx,hc] at h ⊢;obtain ⟨h1,h2,h3,h4⟩:=h
     obtain ⟨e0,he0⟩:=slice h1;rw [he0] at hel
     simp only [TD.elem,ak] at hel;subst hel
     exact Qc8 hS hw ho (hΓ t i hi) he0 (hΓ _ j hj) h2 hix hx hc h3 h4
    have hyp:∃ av hr,(av=(Zx S (some (e,j)) (some i) (.v (.int k n)) (ev S x)).2.av/\hr=(Zx S (some (e,j)) (some i) (.v (.int k n)) (ev S x)).2.hr)/\VE A P ops o { av:=av,hr:=hr,n:=S.n } S:=by
     refine Ua hS hw ho (hΓ t i hi) hel (hΓ e j hj) hix ?_
     generalize ev S x=c at h hw8 ⊢;cases c <;> simp only [Zx] at h ⊢ <;> simp only [idxA] <;> first|exact h.elim|skip
     case sl xs =>
      obtain ⟨h1,h2,h3,h4⟩:=h;rw [kX h3] at h4
      exact ⟨slice h1,h2,h3,h4,by rw [kX h3],trivial⟩
     case row id =>
      split at h
      ·rename_i e' k' xs hc
       rw [hc];exact ⟨slice h.1,e',k',xs,rfl,h.2.1,h.2.2.1,h.2.2.2,rfl,rfl⟩
      ·rename_i e' cs hc;exact absurd ⟨_,_,_,rfl,hc⟩ hw8
      ·exact h.elim
     case rsl id kk lo m =>
      split at h
      ·rename_i e' k' xs hc
       rw [hc];exact ⟨slice h.1,e',k',xs,rfl,h.2.1,h.2.2.1,h.2.2.2.1,h.2.2.2.2,rfl,rfl⟩
      ·exact h.elim
     case csl id m =>
      obtain ⟨h1,h2,h3⟩:=h;exact ⟨slice h1,h2,h3,trivial,trivial⟩
     case ptr id off =>
      split at h
      ·rename_i m e' htd
       try rw [htd]
       exact ⟨m,e',rfl,h.1,h.2,rfl,rfl⟩
      ·exact h.elim
    obtain ⟨av,hr,⟨rfl,rfl⟩,hv⟩:=hyp;rw [hi]
    have e2:(Zx S (some (e,j)) (some i) (.v (.int k n)) (ev S x)).2={ av:=(Zx S (some (e,j)) (some i) (.v (.int k n)) (ev S x)).2.av,hr:=(Zx S (some (e,j)) (some i) (.v (.int k n)) (ev S x)).2.hr,n:=S.n }:=by
     generalize ev S x=c at h hw8 ⊢;cases c <;> simp only [Zx] at h ⊢ <;> first|exact h.elim|skip
     ·split at h
      ·rename_i hc;first|rfl|rw [hc]
      ·exact h.elim
     ·split at h
      ·rename_i hc;first|rfl|rw [hc]
      ·rename_i hc;exact absurd ⟨_,_,_,rfl,hc⟩ hw8
      ·exact h.elim
     ·split at h
      ·rename_i hc;first|rfl|rw [hc]
      ·exact h.elim
    rw [e2];exact hv
   |_=>exact h.elim
  |_=>rw [hix] at h;exact h.elim
def QfT {S:St} {c:AV} (h:(dvE S c).1):jI c=true/\∀ i ∈ (dvE S c).2.2,∃ ob,S.h i=some ob:=by
 cases c with
 |row id =>
  simp only [dvE] at h ⊢;split at h
  ·rename_i hc;refine ⟨rfl,fun i hi=>?_⟩
   first
    |(simp only [hc,aM] at hi;subst hi;exact ⟨_,hc⟩)
    |(simp only [aM] at hi;subst hi;exact ⟨_,hc⟩)
  ·exact h.elim
 |_=>first|exact h.elim|exact ⟨rfl,fun i hi=>by simp [dvE] at hi⟩
def XT {S:St}:∀ {cs:List AV},(vS S cs).1->cs.all jI=true/\∀ i ∈ (vS S cs).2.2,∃ ob,S.h i=some ob
 |[],_=>⟨rfl,fun i hi=>by simp [vS] at hi⟩
 |c :: cs,h=>by
  simp only [vS] at h ⊢;obtain ⟨g1,g2⟩:=QfT h.1
  obtain ⟨g3,g4⟩:=XT h.2;refine ⟨by rw [List.all_cons,g1,g3];rfl,fun i hi=>?_⟩
  rcases au.1 hi with hi|hi
  ·exact g2 i hi
  ·exact g4 i hi
def Rq (hΓ:zW P O) (hS:Wf S) (hw:Want ops o S) {t:TypeId} {x v:Operand} (ho:o.op=.store t x v) (h:(Zl S (O t) (ev S x) (ev S v)).1):VE A P ops o (Zl S (O t) (ev S x) (ev S v)).2 S:=by
 cases hi:O t with
 |none=>rw [hi] at h;exact h.elim
 |some i =>
  rw [hi] at h;cases hx:ev S x with
  |ptr id off =>
   rw [hx] at h;simp only [Zl] at h ⊢
   split at h
   ·rename_i cs hc
    try rw [hc]
    obtain ⟨hws,hr,⟨rfl,rfl⟩,hv⟩:=Qev (A:=A) (K:=fun hws hr=>hws=[(id,some (.cells (cs.take off++cellsOf (ev S v)++cs.drop (off+(cellsOf (ev S v)).length))))]/\hr=[id]) hS hw ho (hΓ t i hi) h.1 h.2.1 (by
     rw [hx];simp only [wr];rw [hc];exact ⟨cs,rfl,h.2.2,by simp⟩)
    exact hv
   ·exact h.elim
  |rp id k m off =>
   rw [hx] at h;simp only [Zl] at h ⊢
   split at h
   ·rename_i e k' xs hc
    try rw [hc]
    obtain ⟨h1,h2,h3,h4,h5,h6⟩:=h;subst h2
    obtain ⟨g1,g2⟩:=XT h3;have hv:=QdN (A:=A) hS hw ho (hΓ t i hi) g1 h1 hx hc (Yg (K:=fun d i=>d=(vS S (cellsOf (ev S v))).2.1/\i=(vS S (cellsOf (ev S v))).2.2) h3 ⟨rfl,rfl⟩) g2 h6 h4 h5
    simp only [kX h5];exact hv
   ·exact h.elim
  |_=>rw [hx] at h;exact h.elim
def LC (hΓ:zW P O) (hw:Want ops o S) {op:BinOp} {t c:TypeId} {x y:Operand} (ho:o.op=.binOp op t x y c) {a b:Bool} (hx:ev S x=.v (.bool a)) (hy:ev S y=.v (.bool b)) (h:(XG S (O t) op a b).1):VE A P ops o (XG S (O t) op a b).2 S:=by
 have hb:boolT (O t)=true->P.underlying t=some .bool:=fun h=>by
  cases hi:O t with
  |none=>rw [hi] at h;simp [boolT] at h
  |some i =>
   rw [hi] at h;obtain ⟨d,hd,hok⟩:=(hΓ t i hi).under
   simp only [boolT] at h;split at h
   ·rename_i htd
    rw [htd] at hok;simp only [TD.ok] at hok
    rw [hd,hok]
   ·cases h
 cases op <;> simp only [XG] at h ⊢ <;> first|exact h.elim|skip
 ·exact VE.val2 hw (by simp [ho]) (by simp [ho,Op.operands]) (by simp [ho,Op.operands]) hx hy rfl fun ac w ex ey=>by
   simp [execOp,ho,ex,ey,eqGuard,binOp,run_equal_bool _ t a b (hb h),Result.andThen]
 ·exact VE.val2 hw (by simp [ho]) (by simp [ho,Op.operands]) (by simp [ho,Op.operands]) hx hy rfl fun ac w ex ey=>by
   simp [execOp,ho,ex,ey,eqGuard,binOp,run_equal_bool _ t a b (hb h),Result.andThen]
def QbD (hw:Want ops o S) {op:BinOp} {t c:TypeId} {x y:Operand} (ho:o.op=.binOp op t x y c) {a b:List UInt8} (hx:ev S x=.v (.string ⟨⟨a⟩⟩)) (hy:ev S y=.v (.string ⟨⟨b⟩⟩)) (h:(QbG S op a b).1):VE A P ops o (QbG S op a b).2 S:=by
 cases op <;> simp only [QbG] at h ⊢ <;> first|exact h.elim|skip
 ·exact Yv hw ho hx hy rfl (QhM h)
 ·exact Yv hw ho hx hy rfl fun w=>Qho a b w
 ·exact Yv hw ho hx hy rfl fun w=>Qhw a b w
def Qbv (hΓ:zW P O) (hw:Want ops o S) {op:BinOp} {t c:TypeId} {x y:Operand} (ho:o.op=.binOp op t x y c) (h:(Vx S (O t) op (ev S x) (ev S y)).1):VE A P ops o (Vx S (O t) op (ev S x) (ev S y)).2 S:=by
 unfold Vx at h;split at h
 ·rename_i k a k' b hx hy
  obtain ⟨v,rfl,hv⟩:=Qde (A:=A) (P:=P) hw ho hx hy h.1 (Qdc h.2);rw [hx,hy];exact hv
 ·rename_i cs ds hx hy
  split at h
  ·rename_i i hi
   split at h
   ·rename_i ks hks
    have go:(op=.eql\/op=.neq)->(eqE ks cs ds).1->VE A P ops o { av:=.v (.bool (if op=.eql then (eqE ks cs ds).2 else !(eqE ks cs ds).2)),n:=S.n } S:=fun hop h=>by
     obtain ⟨b,rfl,hv⟩:=Qf5 (A:=A) (K:=fun b=>b=(eqE ks cs ds).2) hw ho hop (hΓ t i hi) hks hx hy (Vm h rfl)
     exact hv
    split at h
    ·have:=go (.inl rfl) h;rw [hx,hy,hi];simp only [Vx,hks];simpa using this
    ·have:=go (.inr rfl) h;rw [hx,hy,hi];simp only [Vx,hks];simpa using this
    ·exact h.elim
   ·exact h.elim
  ·exact h.elim
 ·rename_i a b hx hy
  rw [hx,hy];exact LC hΓ hw ho hx hy h
 ·rename_i a b hx hy
  rw [hx,hy];exact QbD hw ho hx hy h
 ·exact h.elim
def Qd4 (hw:Want ops o S) {u:UnOp} {t:TypeId} {x:Operand} (ho:o.op=.unOp u t x) (h:(unE S u (ev S x)).1):VE A P ops o (unE S u (ev S x)).2 S:=by
 unfold unE at h;split at h
 ·rename_i b hx;rw [hx];exact Qkc hw ho hx
 ·rename_i k n hx;rw [hx];exact Qkl hw ho hx
 ·exact h.elim
def UJ (hΓ:zW P O) (hw:Want ops o S) {s t:TypeId} {x:Operand} (ho:o.op=.convert s t x) (h:(VM S (O s) (O t) (ev S x)).1):VE A P ops o (VM S (O s) (O t) (ev S x)).2 S:=by
 unfold VM at h;split at h
 ·rename_i i j k n hi hj hx
  split at h
  ·rename_i k' hk'
   rw [hi,hj,hx];simp only [VM,hk']
   exact Qbe hw ho (hΓ s i hi) (hΓ t j hj) hk' hx
  ·exact h.elim
 ·exact h.elim
def Qbb (hS:Wf S) (hw:Want ops o S) {x:Operand} {ix:Nat} (ho:o.op=.extract x ix) (h:(QaE S (ev S x) ix).1):VE A P ops o (QaE S (ev S x) ix).2 S:=by
 unfold QaE at h;split at h
 ·rename_i cs hx
  split at h
  ·rename_i c hc;rw [hx];simp only [QaE,hc];exact Qa3 hS hw ho hx hc
  ·exact h.elim
 ·exact h.elim
def QaL (hΓ:zW P O) (hw:Want ops o S) {t:TypeId} {x:Operand} (ho:o.op=.call { callee:=.builtin .len,args:=#[x],argTypes:=#[t] }) (h:(Yp S (O t) (ev S x)).1):VE A P ops o (Yp S (O t) (ev S x)).2 S:=by
 cases hi:O t with
 |none=>rw [hi] at h;exact h.elim
 |some i =>
  rw [hi] at h;simp only [Yp] at h ⊢
  split at h
  ·rename_i e htd
   have go:∀ (n:Int) (hr:List Nat),lenA S (fun m r=>m=n/\r=hr) (ev S x)->(match ev S x with|.v _=>False|.mp _=>False|_=>True)->VE A P ops o { av:=.v (.int .i64 n),hr:=hr,n:=S.n } S:=fun n hr h hty=>by
    obtain ⟨_,_,⟨rfl,rfl⟩,hv⟩:=Qfh (A:=A) hw ho (hΓ t i hi) (by rw [htd];trivial) h (by
     generalize ev S x=c at hty;cases c <;> first|exact hty.elim|exact ⟨e,htd⟩)
    exact hv
   try rw [htd]
   try simp only
   split at h
   ·rename_i hx;rw [hx] at go;try rw [hx]
    exact go 0 [] ⟨rfl,rfl⟩ trivial
   ·rename_i hx;rw [hx] at go;try rw [hx]
    exact go 0 [] ⟨rfl,rfl⟩ trivial
   ·rename_i xs hx;rw [hx] at go;try rw [hx]
    exact go _ [] ⟨rfl,rfl⟩ trivial
   ·rename_i xs hx;rw [hx] at go;try rw [hx]
    exact go _ [] ⟨rfl,rfl⟩ trivial
   ·rename_i xs hx;rw [hx] at go;try rw [hx]
    exact go _ [] ⟨rfl,rfl⟩ trivial
   ·rename_i id hx
    split at h
    ·rename_i e' k xs hc;rw [hx] at go;try rw [hx]
     try simp only [hc]
     exact go _ [id] (by simp only [lenA];rw [hc];exact ⟨_,_,_,rfl,by simp⟩) trivial
    ·rename_i e' cs hc;try rw [hx]
     try simp only [hc]
     exact QhE hw ho (hΓ t i hi) htd hx hc
    ·exact h.elim
   ·exact h.elim
  ·rename_i htd
   try rw [htd]
   try simp only
   split at h
   ·rename_i s hx
    obtain ⟨_,_,⟨rfl,rfl⟩,hv⟩:=Qfh (A:=A) (K:=fun m r=>m=s.size/\r=[]) hw ho (hΓ t i hi) (by rw [htd];trivial) (by rw [hx];exact ⟨s,rfl,rfl,rfl⟩) (by rw [hx];exact htd)
    try rw [hx]
    exact hv
   ·exact h.elim
  ·exact h.elim
def Rw {i:Option TI} (h:isSlice i=true):∃ i',i=some i'/\∃ e,i'.td=.slice e:=by
 cases i with
 |none=>simp [isSlice] at h
 |some i =>
  simp only [isSlice] at h;split at h
  ·rename_i e he;exact ⟨i,rfl,e,he⟩
  ·cases h
def ym {O:Tys} {t e:TypeId} {j:TI} (hs:isSlice (O t)=true) (hej:za O (O t)=some (e,j)):∃ i,O t=some i/\i.td=.slice e/\O e=some j:=by
 obtain ⟨i,hi,e',he'⟩:=Rw hs;obtain ⟨i',hi',hel,hj⟩:=vY hej
 rw [hi] at hi';cases hi'
 rw [he'] at hel;simp only [TD.elem,ak] at hel
 subst hel;exact ⟨i,hi,he',hj⟩
def Qa9 (hΓ:zW P O) (hS:Wf S) (hw:Want ops o S) {t:TypeId} {x y:Operand} (ho:o.op=.call { callee:=.builtin .append,args:=#[x,y],argTypes:=#[t,t] }) (h:(QgV S (za O (O t)) (isSlice (O t)) (ev S x) (ev S y)).1) :
  VE A P ops o (QgV S (za O (O t)) (isSlice (O t)) (ev S x) (ev S y)).2 S:=by
 cases hej:za O (O t) with
 |none=>rw [hej] at h;exact h.elim
 |some p =>
  obtain ⟨e,j⟩:=p;rw [hej] at h
  obtain ⟨h1,h2,h3,h4,h5,h6,h7,h8,h9⟩:=h;obtain ⟨i,hi,htd,hj⟩:=ym h1 hej
  refine Qd3 hS hw ho (hΓ t i hi) htd (hΓ e j hj) h2 ?_ ?_ (QaM h5) h6 h7 h8 h9
  ·generalize ev S x=c at h3 ⊢
   cases c <;> simp only [dstE] at h3 ⊢ <;> simp only [dstA] <;> first|exact h3.elim|exact ⟨trivial,trivial⟩|exact ⟨rfl,rfl⟩|skip
   split at h3
   ·rename_i e' k' xs hc;rw [hc];exact ⟨e',k',xs,rfl,h3.1,h3.2,by simp⟩
   ·exact h3.elim
  ·generalize ev S y=c at h4 ⊢
   cases c <;> simp only [xc] at h4 ⊢ <;> simp only [KX] <;> first|exact h4.elim|exact ⟨trivial,trivial⟩|exact ⟨rfl,rfl⟩|skip
   split at h4
   ·rename_i e' k' xs hc;rw [hc];exact ⟨e',k',xs,rfl,by simp⟩
   ·exact h4.elim
def xH {S:St} {x:Option Operand} {d:Int} {K:Int->Prop} (h:(qN d (x.map (ev S))).1) (hk:K (qN d (x.map (ev S))).2):QdU S d K x:=by
 cases x with
 |none=>exact hk
 |some z =>
  simp only [cj] at h hk;unfold qN at h hk
  cases hz:ev S z with
  |v u =>
   rw [hz] at h hk;cases u with
   |int k n=>exact ⟨k,n,hz,hk⟩
   |_=>exact h.elim
  |_=>rw [hz] at h;exact h.elim
def Qan {S:St} {x:AV} {K:List (List DV)->Prop} (h:(slE x).1) (hk:K (slE x).2):sliA S K x:=by
 cases x <;> simp only [slE] at h hk <;> simp only [sliA] <;> first|exact h.elim|exact hk
def RS (hΓ:zW P O) (hw:Want ops o S) {t:TypeId} {x:Operand} {lo hi mx:Option Operand} (ho:o.op=.slice t x lo hi mx) (h:(ZY S (za O (O t)) (isSlice (O t)) (ev S x) (lo.map (ev S)) (hi.map (ev S)) (mx.map (ev S))).1) :
  VE A P ops o (ZY S (za O (O t)) (isSlice (O t)) (ev S x) (lo.map (ev S)) (hi.map (ev S)) (mx.map (ev S))).2 S:=by
 cases hej:za O (O t) with
 |none=>rw [hej] at h;exact h.elim
 |some p =>
  obtain ⟨e,j⟩:=p;rw [hej] at h
  cases mx with
  |none =>
   simp only [ci,ZY] at h ⊢;obtain ⟨h1,h2,h3,h4,h5,h6,h7,h8⟩:=h
   obtain ⟨i,hi',htd,hj⟩:=ym h1 hej;obtain ⟨av,rfl,_,hv⟩:=U8 (A:=A) (K:=fun av=>av=.sl (((slE (ev S x)).2.take (qN (slE (ev S x)).2.length (hi.map (ev S))).2.toNat).drop (qN 0 (lo.map (ev S))).2.toNat)) hw ho (hΓ t i hi') htd (hΓ e j hj)
    (Qan h2 (by simp only [Yf];exact xH h3 (xH h4 ⟨h5,h6,h7,h8,rfl⟩)))
   exact hv
  |some m =>
   simp only [cj,ZY] at h ⊢;obtain ⟨h1,h2,h3,h4,h5,h6,h7,h8⟩:=h
   obtain ⟨i,hi',htd,hj⟩:=ym h1 hej;obtain ⟨av,rfl,_,hv⟩:=U8 (A:=A) (K:=fun av=>av=.emp) hw ho (hΓ t i hi') htd (hΓ e j hj)
    (Qan h2 (by
     simp only [Yf];refine ⟨by simpa using h3,by simpa using h4,xH h5 ⟨h6, ?_⟩⟩
     cases hm:ev S m with
     |v u =>
      rw [hm] at h7 h8;cases u with
      |int k n=>exact ⟨k,n,rfl,h8,trivial⟩
      |_=>exact h7.elim
     |_=>rw [hm] at h7;exact h7.elim))
   exact hv
def Rx (hΓ:zW P O) (hS:Wf S) (hw:Want ops o S) {t:TypeId} {x:Operand} {lo hi mx:Option Operand} (ho:o.op=.slice t x lo hi mx) (h:(Vy S (O t) (za O (O t)) (isSlice (O t)) (ev S x) (lo.map (ev S)) (hi.map (ev S)) (mx.map (ev S))).1) :
  VE A P ops o (Vy S (O t) (za O (O t)) (isSlice (O t)) (ev S x) (lo.map (ev S)) (hi.map (ev S)) (mx.map (ev S))).2 S:=by
 unfold Vy at h ⊢;cases hp:QcL (ev S x) with
 |true =>
  rw [hp] at h;simp only at h ⊢
  unfold QaI at h ⊢;split at h
  ·rename_i e j i hej hi'
   try rw [hej,hi']
   try simp only
   split at h
   ·rename_i m e' htd
    try rw [htd]
    try simp only
    split at h
    ·rename_i id off hx
     try rw [hx]
     try simp only
     cases lo with
     |some _=>exact h.elim
     |none =>
      cases mx with
      |some _=>exact h.elim
      |none =>
       simp only [ci] at h ⊢;obtain ⟨h1,h2,h3,h4⟩:=h
       obtain ⟨i2,g1,g2,g3⟩:=vY hej;rw [hi'] at g1
       cases g1;rw [htd] at g2
       simp only [TD.elem,ak] at g2;subst g2
       refine LG hS hw ho (hΓ t i hi') htd (hΓ _ j g3) hx ?_ h2 h3 h4
       cases hi with
       |none=>exact .inl ⟨rfl,rfl⟩
       |some z =>
        right
        simp only [cj] at h1 ⊢;cases hz:ev S z with
        |v u =>
         cases u with
         |int k n=>exact ⟨z,k,rfl,by rw [qN];exact hz⟩
         |_=>rw [hz] at h1;exact h1.elim
        |_=>rw [hz] at h1;exact h1.elim
    ·exact h.elim
   ·exact h.elim
  ·exact h.elim
 |false =>
  rw [hp] at h;simp only at h ⊢
  cases hr:QcW (ev S x) with
  |false=>rw [hr] at h;exact RS hΓ hw ho h
  |true =>
   rw [hr] at h;simp only at h ⊢
   unfold KS at h ⊢;split at h
   ·rename_i e j id hej hx hmx
    have hm:mx=none:=by simpa using hmx
    subst hm
    try rw [hej,hx]
    try simp only [ci]
    split at h
    ·rename_i e' k xs hc
     try rw [hc]
     try simp only
     obtain ⟨h1,h2,h3,h4,h5,h6,h7,h8⟩:=h;obtain ⟨i,hi',htd,hj⟩:=ym h1 hej
     subst h2;exact Ut hS hw ho (hΓ t i hi') htd (hΓ e j hj) hx hc (xH h3 (xH h4 ⟨h5,h6,h7,h8,by
      generalize ((qN xs.length (hi.map (ev S))).2)=hh at h6 h7 ⊢;cases lo with
      |none=>exact .inl ⟨by simp only [ci,qN];omega,rfl⟩
      |some y =>
       by_cases hl:(qN 0 (some (ev S y))).2 < xs.length
       ·exact .inl ⟨hl,by simp only [cj,QfP];rw [if_pos hl]⟩
       ·simp only [cj] at h6
        exact .inr ⟨by simp only [cj];omega,by simp only [cj,QfP];rw [if_neg hl]⟩⟩))
    ·exact h.elim
   ·exact h.elim
def Yy {k:Nat} (hk:0 < k) {c:AV} (h:(yT S k c).1) (hys:zu k (yT S k c).2.1) {F:Frm} {S2:St} {a:Act} {w:World} {ρ:Nat->Value} {own:Own} (H:Holds F S2 a w ρ own) (hag:∀ id ∈ (yT S k c).2.2,S2.h id=S.h id) {x:Value} (hr:ARel w (okB w own ρ S2.h) ρ F.y c x) :
  ∃ flat,Src w (okB w own ρ S2.h) k (yT S k c).2.1 x flat:=by
 cases c <;> simp only [yT] at h hys hag ⊢ <;> first|exact h.elim|skip
 case sl ys=>cases hr with|sl hd=>exact K4 hk hys hd
 case row id =>
  cases hc:S.h id with
  |none=>rw [hc] at h;exact h.elim
  |some o =>
   cases o <;> rw [hc] at h hys hag <;> simp only at h hys hag <;> first|exact h.elim|skip
   subst h;have ho:=H.obj id _ ((hag id (by simp)).trans hc)
   cases hr with
   |row e1 e2=>rw [e1] at ho;exact JH ho
 case rsl id k1 lo n =>
  cases hc:S.h id with
  |none=>rw [hc] at h;exact h.elim
  |some o =>
   cases o <;> rw [hc] at h hys hag <;> simp only at h hys hag <;> first|exact h.elim|skip
   obtain ⟨rfl,rfl,h3⟩:=h;have ho:=H.obj id _ ((hag id (by simp)).trans hc)
   cases hr with
   |rsl e1 e2=>rw [e1] at ho;exact QgU ho h3 e2
def Qbi (hΓ:zW P O) (hS:Wf S) (hw:Want ops o S) {t:TypeId} {x y:Operand} (ho:o.op=.call { callee:=.builtin .append,args:=#[x,y],argTypes:=#[t,t] }) (h:(Qfl S (za O (O t)) (isSlice (O t)) (ev S x) (ev S y)).1) :
  VE A P ops o (Qfl S (za O (O t)) (isSlice (O t)) (ev S x) (ev S y)).2 S:=by
 unfold Qfl at h ⊢;cases hr:Qch (ev S x) with
 |false =>
  rw [hr] at h;cases hs:Qdh S (ev S y) with
  |none=>rw [hs] at h;exact Qa9 hΓ hS hw ho h
  |some p =>
   rw [hs] at h;simp only at h ⊢
   unfold appW at h ⊢;obtain ⟨g1,e2,g2⟩:=Qdl hs
   cases hej:za O (O t) with
   |none=>rw [hej] at h;exact h.elim
   |some q =>
    obtain ⟨e,j⟩:=q;rw [hej] at h
    obtain ⟨h1,h2,h3,h4,h5,h6⟩:=h;obtain ⟨i,hi',htd,hj⟩:=ym h1 hej
    exact Qbf hS hw ho (hΓ t i hi') htd (hΓ _ j hj) h2 h3 g1 g2 h4 h5 h6
 |true =>
  rw [hr] at h;simp only at h ⊢
  unfold appR at h ⊢;split at h
  ·rename_i e j id k' lo n hej hx
   try rw [hej,hx]
   try simp only
   split at h
   ·rename_i e' k xs hc
    try rw [hc]
    try simp only
    obtain ⟨h1,h2,rfl,rfl,rfl,rfl,h7,h8,h9,h10,h11,h12⟩:=h;obtain ⟨i,hi',htd,hj⟩:=ym h1 hej
    exact Qa6 hS hw ho (hΓ t i hi') htd (hΓ _ j hj) h2 hx hc h7 (fun F S2 a w ρ own H hag v hv=>Yy h2 h8 h10 H hag hv) h9 h10 h11 h12
   ·exact h.elim
  ·exact h.elim
def U3 (hΓ:zW P O) (hS:Wf S) (hw:Want ops o S) {t t':TypeId} {x y:Operand} (ho:o.op=.call { callee:=.builtin .copy,args:=#[x,y],argTypes:=#[t,t'] }) (h:(KJ S (za O (O t)) (isSlice (O t)) (ev S x) (ev S y)).1) :
  VE A P ops o (KJ S (za O (O t)) (isSlice (O t)) (ev S x) (ev S y)).2 S:=by
 unfold KJ at h ⊢;split at h
 ·rename_i e j id lo nn hej hd
  try rw [hej,hd]
  try simp only
  split at h
  ·rename_i e' k xs hc
   try rw [hc]
   try simp only
   obtain ⟨h1,h2,rfl,h4,h5,h6,h7,h8,h9⟩:=h;obtain ⟨i,hi',htd,hj⟩:=ym h1 hej
   have hnn:ev S x=.row id->nn.getD xs.length=xs.length/\lo=0:=fun he=>by
    rw [he] at hd;simp only [QfE,ak,Prod.mk.injEq] at hd;obtain ⟨_,rfl,rfl⟩:=hd;exact ⟨rfl,rfl⟩
   exact Qib hS hw ho (hΓ t i hi') htd (hΓ e j hj) h2 (h4.imp (fun he=>⟨he,(hnn he).2,(hnn he).1⟩) fun he=>he) hc h5 h6 h8 h9 fun F S2 a w ρ own H hag v hr=>Yy h2 h7 h8 H hag hr
  ·exact h.elim
 ·exact h.elim
def Qaf (hΓ:zW P O) (hS:Wf S) (hw:Want ops o S) {t t':TypeId} {x y:Operand} (ho:o.op=.call { callee:=.builtin .copy,args:=#[x,y],argTypes:=#[t,t'] }) (h:(Um S (za O (O t)) (isSlice (O t)) (ev S x) (ev S y)).1) :
  VE A P ops o (Um S (za O (O t)) (isSlice (O t)) (ev S x) (ev S y)).2 S:=by
 unfold Um at h ⊢;split at h
 ·rename_i hp
  try rw [hp]
  try simp only at h ⊢
  unfold Qfm at h ⊢;split at h
  ·rename_i e j id off n c hej hx
   try rw [hej,hx]
   try simp only
   split at h
   ·rename_i cs hc
    try rw [hc]
    try simp only
    obtain ⟨h1,h2,h3,h4,h5,h6⟩:=h;obtain ⟨i,hi',htd,hj⟩:=ym h1 hej
    exact Qca hS hw ho (hΓ t i hi') htd (hΓ e j hj) h2 hx hc h3 h5 h6 fun F S2 a w ρ own H hag v hr=>Yy (by omega) h4 h5 H hag hr
   ·exact h.elim
  ·exact h.elim
 ·rename_i hp
  try rw [hp]
  exact U3 hΓ hS hw ho h
def R5 (hΓ:zW P O) (hS:Wf S) (hw:Want ops o S) {t:TypeId} {x:Operand} (ho:o.op=.call { callee:=.builtin .clear,args:=#[x],argTypes:=#[t] }) (h:(Xg S (za O (O t)) (isSlice (O t)) (ev S x)).1) :
  VE A P ops o (Xg S (za O (O t)) (isSlice (O t)) (ev S x)).2 S:=by
 unfold Xg at h ⊢;split at h
 ·rename_i e j id k' lo n hej hx
  try rw [hej,hx]
  try simp only
  split at h
  ·rename_i e' k xs hc
   try rw [hc]
   try simp only
   obtain ⟨h1,h2,rfl,rfl,h5,h6,h7⟩:=h;obtain ⟨i,hi',htd,hj⟩:=ym h1 hej
   obtain ⟨ds,hz⟩:=cB.1 h7;have hd:dvZ j.zero=ds:=by unfold dvZ;rw [hz];rfl
   rw [hd];exact QfQ hS hw ho (hΓ t i hi') htd (hΓ e j hj) h2 hx hc h5 h6 hz
  ·exact h.elim
 ·exact h.elim
def Qdp (hΓ:zW P O) (hS:Wf S) (hw:Want ops o S) {t:TypeId} {n:Nat} {ps:Array (Nat × Operand)} (ho:o.op=.buildSlice t n ps) (h:(bsE S (za O (O t)) (isSlice (O t)) n (ps.toList.map fun p=>(p.1,ev S p.2))).1) :
  VE A P ops o (bsE S (za O (O t)) (isSlice (O t)) n (ps.toList.map fun p=>(p.1,ev S p.2))).2 S:=by
 cases hej:za O (O t) with
 |none=>rw [hej] at h;exact h.elim
 |some p =>
  obtain ⟨e,j⟩:=p;rw [hej] at h
  simp only [bsE] at h ⊢
  by_cases hn:n=0
  ·rw [if_pos hn] at h ⊢
   subst hn;obtain ⟨i,hi',htd,hj⟩:=ym h.1 hej
   exact Xw hw ho (Array.toList_eq_nil_iff.1 (List.map_eq_nil_iff.1 h.2)) (hΓ t i hi') htd (hΓ e j hj)
  ·rw [if_neg hn] at h ⊢
   cases hdp:j.deep with
   |true =>
    rw [hdp] at h;simp only [cond_true] at h ⊢
    obtain ⟨h1,h2,h3,h4⟩:=h;obtain ⟨i,hi',htd,hj⟩:=ym h1 hej
    exact QdQ hS hw ho (hΓ t i hi') htd (hΓ e j hj) h2 (Nat.pos_of_ne_zero hn) h3 (kK (K:=fun cs=>cs=_) h4 rfl)
   |false =>
   rw [hdp] at h;simp only [cond_false] at h ⊢
   obtain ⟨h1,h2,h3,h4,h5⟩:=h;obtain ⟨i,hi',htd,hj⟩:=ym h1 hej
   obtain ⟨ds,dead,⟨rfl,rfl⟩,hv⟩:=Xu (A:=A) (K:=fun ds dead=>ds=(vS S (yE (jS j.cells) (zeros j.zero n) (ps.toList.map fun p=>(p.1,ev S p.2))).2).2.1/\dead=(vS S (yE (jS j.cells) (zeros j.zero n) (ps.toList.map fun p=>(p.1,ev S p.2))).2).2.2) hS hw ho (hΓ t i hi') htd (hΓ e j hj) h2 (Nat.pos_of_ne_zero hn) h3
    (kK h4 (Yg h5 ⟨rfl,rfl⟩))
   exact hv
def Uk (hΓ:zW P O) (hS:Wf S) (hw:Want ops o S) {t:TypeId} {x y:Operand} (ho:o.op=.makeSlice t x y) (h:(XO S (za O (O t)) (isSlice (O t)) (ev S x) (ev S y)).1) :
  VE A P ops o (XO S (za O (O t)) (isSlice (O t)) (ev S x) (ev S y)).2 S:=by
 cases hej:za O (O t) with
 |none=>rw [hej] at h;exact h.elim
 |some p =>
  obtain ⟨e,j⟩:=p;rw [hej] at h
  unfold XO at h ⊢;split at h
  ·rename_i e' j' k n k' m hp hx hy
   simp only [ak,Prod.mk.injEq] at hp;obtain ⟨rfl,rfl⟩:=hp
   try rw [hx,hy]
   try simp only
   cases hz:isNil j.zero with
   |true =>
    rw [hz] at h;simp only [cond_true] at h ⊢
    obtain ⟨h1,rfl,h2,h3,h4⟩:=h;obtain ⟨i,hi',htd,hj⟩:=ym h1 hej
    exact QdR hS hw ho (hΓ t i hi') htd (hΓ e j hj) (QaF hz) hx hy h2 h3 h4
   |false =>
    rw [hz] at h;simp only [cond_false] at h ⊢
    obtain ⟨h1,rfl,h2,h3,h4,h5,h6⟩:=h;obtain ⟨i,hi',htd,hj⟩:=ym h1 hej
    obtain ⟨ds,hds⟩:=cB.1 h6;have e1:dvZ j.zero=ds:=by simp [dvZ,hds]
    rw [e1];exact Qbt hS hw ho (hΓ t i hi') htd (hΓ e j hj) h5 hx hy h2 h3 h4 hds
  ·exact h.elim
def Lu {Φ:Ctr} (hΓ:zW P O) (hΦ:Ctr.OK A P Φ) (hS:Wf S) (hw:Want ops o S) {c:Call} (ho:o.op=.call c) (h:(ZP O Φ S c).1):VE A P ops o (ZP O Φ S c).2 S:=by
 obtain ⟨cl,args,tys⟩:=c;have arr:∀ {α:Type} {a:Array α} {l:List α},a.toList=l->a=l.toArray:=fun h=>by rw [<- h]
 cases cl with
 |invoke r n=>exact h.elim
 |builtin b =>
  cases b <;> first|exact h.elim|skip
  case append =>
   simp only [ZP] at h ⊢;split at h
   ·rename_i x y t t' ha ht
    try rw [ha,ht]
    try simp only
    split at h
    ·rename_i htt
     subst htt
     try rw [if_pos rfl]
     exact Qbi hΓ hS hw (by rw [ho,arr ha,arr ht]) h
    ·exact h.elim
   ·exact h.elim
  case copy =>
   simp only [ZP] at h ⊢;split at h
   ·rename_i x y t t' ha ht
    try rw [ha,ht]
    exact Qaf hΓ hS hw (by rw [ho,arr ha,arr ht]) h
   ·exact h.elim
  case clear =>
   simp only [ZP] at h ⊢;split at h
   ·rename_i x t ha ht
    try rw [ha,ht]
    exact R5 hΓ hS hw (by rw [ho,arr ha,arr ht]) h
   ·exact h.elim
  case len =>
   simp only [ZP] at h ⊢;split at h
   ·rename_i x t ha ht
    try rw [ha,ht]
    exact QaL hΓ hw (by rw [ho,arr ha,arr ht]) h
   ·exact h.elim
  case max =>
   simp only [ZP] at h ⊢;split at h
   ·rename_i x y t t' ha ht
    try rw [ha,ht]
    simp only [maxE] at h ⊢;split at h
    ·rename_i k a k' b hx hy;try rw [hx,hy]
     exact QkH hw (by rw [ho,arr ha,arr ht]) hx hy
    ·exact h.elim
   ·exact h.elim
  case min =>
   simp only [ZP] at h ⊢;split at h
   ·rename_i x y t t' ha ht
    try rw [ha,ht]
    simp only [minE] at h ⊢;split at h
    ·rename_i k a k' b hx hy;try rw [hx,hy]
     exact QkI hw (by rw [ho,arr ha,arr ht]) hx hy
    ·exact h.elim
   ·exact h.elim
 |value g =>
  simp only [ZP] at h ⊢;split at h
  ·rename_i f caps hg
   try rw [hg]
   exact hΦ S f _ h hS ops o g args tys caps hw ho hg rfl
  ·exact h.elim
def RO (hΓ:zW P O) (hS:Wf S) (hw:Want ops o S) {t:TypeId} {ps:Array (Nat × Operand)} (ho:o.op=.build t ps) (h:(Xb S (za O (O t)) (O t) (ps.toList.map fun p=>(p.1,ev S p.2))).1) :
  VE A P ops o (Xb S (za O (O t)) (O t) (ps.toList.map fun p=>(p.1,ev S p.2))).2 S:=by
 unfold Xb at h ⊢;cases hb:arrB (O t) with
 |true =>
  rw [hb] at h;simp only at h ⊢
  unfold QaJ at h ⊢;split at h
  ·rename_i e j i hej hi
   try rw [hej,hi]
   try simp only
   split at h
   ·rename_i m e' htd
    try rw [htd]
    try simp only
    obtain ⟨i2,g1,g2,g3⟩:=vY hej;rw [hi] at g1
    cases g1;rw [htd] at g2
    simp only [TD.elem,ak] at g2;subst g2
    obtain ⟨cs,rfl,hv⟩:=UG (A:=A) (K:=fun cs=>cs=(yE (jS j.cells) i.zero (ps.toList.map fun p=>(p.1,ev S p.2))).2) hS hw ho (hΓ t i hi) htd (hΓ _ j g3) (kK h rfl)
    exact hv
   ·exact h.elim
  ·exact h.elim
 |false =>
  rw [hb] at h;simp only at h ⊢
  cases hi:O t with
  |none=>rw [hi] at h;exact h.elim
  |some i =>
   rw [hi] at h;simp only [K5] at h ⊢
   split at h
   ·rename_i fs htd
    try rw [htd]
    obtain ⟨cs,rfl,hv⟩:=Qf7 (A:=A) (K:=fun cs=>cs=(yE (WW fs) i.zero (ps.toList.map fun p=>(p.1,ev S p.2))).2) hS hw ho (hΓ t i hi) htd (kK h rfl)
    exact hv
   ·exact h.elim
def RB (hΓ:zW P O) (hS:Wf S) (hw:Want ops o S) {t:TypeId} {x ix:Operand} (ho:o.op=.index t x ix) (h:(V4 S (za O (O t)) (O t) (ev S ix) (ev S x)).1) :
  VE A P ops o (V4 S (za O (O t)) (O t) (ev S ix) (ev S x)).2 S:=by
 unfold V4 at h ⊢;split at h
 ·rename_i e j i hej hi'
  try rw [hej,hi']
  try simp only
  split at h
  ·rename_i m e' htd
   try rw [htd]
   try simp only
   split at h
   ·rename_i cs k n hx hn
    try rw [hx,hn]
    try simp only
    obtain ⟨h1,h2,h3⟩:=h;obtain ⟨i2,g1,g2,g3⟩:=vY hej
    rw [hi'] at g1;cases g1
    rw [htd] at g2;simp only [TD.elem,ak] at g2
    subst g2;exact Qg3 hS hw ho (hΓ t i hi') htd (hΓ _ j g3) hx hn h1 h2 h3
   ·exact h.elim
  ·exact h.elim
 ·exact h.elim
def LD (hΓ:zW P O) (hS:Wf S) (hw:Want ops o S) {t:TypeId} {x:Operand} {f:Nat} (ho:o.op=.field t x f) (h:(QB O S (O t) f (ev S x)).1) :
  VE A P ops o (QB O S (O t) f (ev S x)).2 S:=by
 unfold QB at h ⊢;cases hi:O t with
 |none=>rw [hi] at h;exact h.elim
 |some i =>
  rw [hi] at h;simp only at h ⊢
  split at h
  ·rename_i fs htd
   try rw [htd]
   try simp only
   split at h
   ·rename_i p hf
    try rw [hf]
    try simp only
    split at h
    ·rename_i j hj
     try rw [hj]
     try simp only
     split at h
     ·rename_i cs hx
      try rw [hx]
      try simp only
      exact QeB hS hw ho (hΓ t i hi) htd hf (hΓ _ j hj) hx h
     ·exact h.elim
    ·exact h.elim
   ·exact h.elim
  ·exact h.elim
def U5 (hΓ:zW P O) (hS:Wf S) (hw:Want ops o S) {t:TypeId} {x k:Operand} {c:Bool} (ho:o.op=.lookup t x k c) (h:(Lj S (O t) c (ev S k) (ev S x)).1) :
  VE A P ops o (Lj S (O t) c (ev S k) (ev S x)).2 S:=by
 unfold Lj at h ⊢;cases hi:O t with
 |none=>rw [hi] at h;exact h.elim
 |some i =>
  rw [hi] at h;simp only at h ⊢
  cases hq:i.key with
  |none=>rw [hq] at h;exact h.elim
  |some q =>
   rw [hq] at h;simp only at h ⊢
   cases hx:ev S x <;> rw [hx] at h <;> first|exact h.elim|skip
   rename_i id;simp only at h ⊢
   cases hk:(ev S k).toV with
   |none=>rw [hk] at h;exact h.elim
   |some kv =>
    rw [hk] at h;simp only at h ⊢
    split at h
    ·rename_i es hm
     simp only [hm] at h ⊢;obtain ⟨h1,h2,h3⟩:=h
     obtain ⟨kt,e,e1,e2,e3⟩:=(hΓ t i hi).key q hq;exact Qel hS hw ho (hΓ t i hi) e1 e2 e3 hx hm h1 hk h2 h3
    ·exact h.elim
def QbC (hΓ:zW P O) (hS:Wf S) (hw:Want ops o S) {t:TypeId} {x k v:Operand} (ho:o.op=.mapUpdate t x k v) (h:(Qhd S (O t) (ev S k) (ev S v) (ev S x)).1) :
  VE A P ops o (Qhd S (O t) (ev S k) (ev S v) (ev S x)).2 S:=by
 unfold Qhd at h ⊢;cases hi:O t with
 |none=>rw [hi] at h;exact h.elim
 |some i =>
  rw [hi] at h;simp only at h ⊢
  cases hq:i.key with
  |none=>rw [hq] at h;exact h.elim
  |some q =>
   rw [hq] at h;simp only at h ⊢
   cases hx:ev S x <;> rw [hx] at h <;> first|exact h.elim|skip
   rename_i id;simp only at h ⊢
   cases hk:(ev S k).toV with
   |none=>rw [hk] at h;exact h.elim
   |some kv =>
    rw [hk] at h;simp only at h ⊢
    cases hv:(ev S v).toV with
    |none=>rw [hv] at h;exact h.elim
    |some u =>
     rw [hv] at h;simp only at h ⊢
     split at h
     ·rename_i es hm
      simp only [hm] at h ⊢;obtain ⟨h1,h2,h3⟩:=h
      obtain ⟨kt,e,e1,e2,e3⟩:=(hΓ t i hi).key q hq;exact RP hS hw ho (hΓ t i hi) e1 e2 hx hm h1 hk h2 hv h3
     ·exact h.elim
def QbX (hΓ:zW P O) (hS:Wf S) (hw:Want ops o S) {t:TypeId} {x k:Operand} (ho:o.op=.mapEntry t x k) (h:(QfM S (O t) (ev S k) (ev S x)).1) :
  VE A P ops o (QfM S (O t) (ev S k) (ev S x)).2 S:=by
 unfold QfM at h ⊢;cases hi:O t with
 |none=>rw [hi] at h;exact h.elim
 |some i =>
  rw [hi] at h;simp only at h ⊢
  cases hq:i.key with
  |none=>rw [hq] at h;exact h.elim
  |some q =>
   rw [hq] at h;simp only at h ⊢
   cases hx:ev S x <;> rw [hx] at h <;> first|exact h.elim|skip
   rename_i id;simp only at h ⊢
   cases hk:(ev S k).toV with
   |none=>rw [hk] at h;exact h.elim
   |some kv =>
    rw [hk] at h;simp only at h ⊢
    cases hv:q.z.toV with
    |none=>rw [hv] at h;exact h.elim
    |some u =>
     rw [hv] at h;simp only at h ⊢
     split at h
     ·rename_i es hm
      simp only [hm] at h ⊢;obtain ⟨h1,h2,h3,h4⟩:=h
      obtain ⟨kt,e,e1,e2,e3⟩:=(hΓ t i hi).key q hq;exact Qar hS hw ho (hΓ t i hi) e1 e2 e3 hv hx hm h1 hk h2 h3 h4
     ·exact h.elim
def QbT (hS:Wf S) (hw:Want ops o S) {t:TypeId} {x s v:Operand} (ho:o.op=.entryStore t x s v) (h:(Qgj S (ev S s) (ev S v) (ev S x)).1) :
  VE A P ops o (Qgj S (ev S s) (ev S v) (ev S x)).2 S:=by
 unfold Qgj at h ⊢;cases hx:ev S x <;> rw [hx] at h <;> first|exact h.elim|skip
 rename_i id;simp only at h ⊢
 cases hs:ev S s <;> rw [hs] at h <;> first|exact h.elim|skip
 rename_i sv;cases sv <;> first|exact h.elim|skip
 simp only at h ⊢;cases hv:(ev S v).toV with
 |none=>rw [hv] at h;exact h.elim
 |some u =>
  rw [hv] at h;simp only at h ⊢
  split at h
  ·rename_i es hm
   simp only [hm] at h ⊢;exact Xm hS hw ho hx hm hs hv h.1 h.2
  ·exact h.elim
def Xy {x:Option Operand} {d:Int} (h:(qN d (x.map (ev S))).1):(x=none/\(qN d (x.map (ev S))).2=d)\/∃ y k,x=some y/\ev S y=.v (.int k (qN d (x.map (ev S))).2):=by
 cases x with
 |none=>exact .inl ⟨rfl,rfl⟩
 |some y =>
  simp only [cj] at h ⊢;generalize hy:ev S y=c at h
  unfold qN at h;split at h
  ·rename_i h2;cases h2
  ·rename_i k n h2;cases h2;exact .inr ⟨y,k,rfl,hy⟩
  ·exact h.elim
def RY (hΓ:zW P O) (hS:Wf S) (hw:Want ops o S) {t:TypeId} {x ix:Operand} (ho:o.op=.index t x ix) (h:(VJ S (za O (O t)) (O t) (ev S ix) (ev S x)).1) :
  VE A P ops o (VJ S (za O (O t)) (O t) (ev S ix) (ev S x)).2 S:=by
 unfold VJ at h ⊢;cases hs:Qaz (ev S x) with
 |none=>rw [hs] at h;exact RB hΓ hS hw ho h
 |some a =>
  rw [hs] at h;simp only at h ⊢
  unfold idxS at h ⊢;split at h
  ·rename_i k n hn
   obtain ⟨h1,h2,h3⟩:=h;obtain ⟨i,g1,g2⟩:=Yq h1
   try rw [hn]
   exact Qc7 hw ho (hΓ t i g1) g2 (XK hs) hn h2 h3
  ·exact h.elim
def R6 (hΓ:zW P O) (hS:Wf S) (hw:Want ops o S) {t:TypeId} {x:Operand} {lo hi mx:Option Operand} (ho:o.op=.slice t x lo hi mx) (h:(VD S (O t) (za O (O t)) (isSlice (O t)) (ev S x) (lo.map (ev S)) (hi.map (ev S)) (mx.map (ev S))).1) :
  VE A P ops o (VD S (O t) (za O (O t)) (isSlice (O t)) (ev S x) (lo.map (ev S)) (hi.map (ev S)) (mx.map (ev S))).2 S:=by
 unfold VD at h ⊢;cases hs:Qaz (ev S x) with
 |none=>rw [hs] at h;exact Rx hΓ hS hw ho h
 |some a =>
  rw [hs] at h;simp only at h ⊢
  cases mx with
  |some _=>exact h.elim
  |none =>
   obtain ⟨h1,h2,h3,h4,h5,h6⟩:=h;obtain ⟨i,g1,g2⟩:=Yq h1
   exact Qez hw ho (hΓ t i g1) g2 (XK hs) (Xy h2) (Xy h3) h4 h5 h6
def Ul (hΓ:zW P O) (hw:Want ops o S) {s t:TypeId} {x:Operand} (ho:o.op=.convert s t x) (h:(Qak S (za O (O s)) (isSlice (O s)) (O s) (O t) (ev S x)).1):VE A P ops o (Qak S (za O (O s)) (isSlice (O s)) (O s) (O t) (ev S x)).2 S:=by
 unfold Qak at h ⊢;cases hs:QdV (ev S x) with
 |none=>rw [hs] at h;exact UJ hΓ hw ho h
 |some id =>
  rw [hs] at h;simp only at h ⊢
  unfold QeG at h ⊢;split at h
  ·rename_i e k xs hh
   try rw [hh]
   try simp only
   split at h
   ·rename_i l hl
    obtain ⟨h0,h1,h2,h3,h4⟩:=h;obtain ⟨i,e,j,g1,g2,g3,g4⟩:=QfH h1
    obtain ⟨it,g5,g6⟩:=Yq h2;have hsd:i.td=.slice e:=by
     unfold isSlice at h0;rw [g1] at h0
     simp only at h0;split at h0
     ·rename_i e2 he2
      rw [he2] at g2;simp only [TD.elem,ak] at g2
      rw [he2,g2]
     ·cases h0
    try rw [hl]
    exact QgW hw ho (hΓ s i g1) hsd (hΓ e j g3) g4 (hΓ t it g5) g6 (Qd9 hs) hh hl h4 h3
   ·exact h.elim
  ·exact h.elim
def Qbc (hΓ:zW P O) (hw:Want ops o S) {t:TypeId} {x:Operand} (ho:o.op=.makeInterface t x) (h:(Qdg S (O t) t (ev S x)).1):VE A P ops o (Qdg S (O t) t (ev S x)).2 S:=by
 unfold Qdg at h ⊢;split at h
 ·rename_i u hu
  obtain ⟨i,g1,g2⟩:=XE h
  try rw [hu]
  exact Qf2 hw ho (hΓ t i g1) g2 hu (.inl rfl)
 ·rename_i hu
  obtain ⟨i,g1,g2⟩:=XE h
  try rw [hu]
  exact Qf2 hw ho (hΓ t i g1) g2 hu (.inr ⟨rfl,rfl⟩)
 ·exact h.elim
def XD {Φ:Ctr} (hΓ:zW P O) (hΦ:Ctr.OK A P Φ) (hS:Wf S) (hw:Want ops o S) (h:(opE O Φ S o.op).1):VE A P ops o (opE O Φ S o.op).2 S:=by
 cases ho:o.op with
 |move x=>exact Qc4 hS hw (.inl ho)
 |assign x=>exact Qc4 hS hw (.inr ho)
 |load t x=>rw [ho] at h;exact U1 hΓ hS hw ho h
 |fieldAddr t x f=>rw [ho] at h;exact Ri hΓ hS hw ho h
 |indexAddr t x ix=>rw [ho] at h;exact Qbh hΓ hS hw ho h
 |alloc t =>
  rw [ho] at h;simp only [opE] at h ⊢
  cases hi:O t with
  |none=>rw [hi] at h;exact h.elim
  |some i=>exact Qg8 hw ho (hΓ t i hi)
 |box t x=>rw [ho] at h;exact QkY hS hw ho h
 |store t x v=>rw [ho] at h;exact Rq hΓ hS hw ho h
 |binOp op t x y c=>rw [ho] at h;exact Qbv hΓ hw ho h
 |unOp u t x=>rw [ho] at h;exact Qd4 hw ho h
 |convert s t x=>rw [ho] at h;exact Ul hΓ hw ho h
 |extract x ix=>rw [ho] at h;exact Qbb hS hw ho h
 |makeFunc f first caps =>
  rw [ho] at h;cases f <;> first|exact h.elim|skip
  simp only [opE] at h ⊢;cases hf1:first.toList with
  |nil =>
   simp only [aX,QeU];have e:first=#[]:=by apply Array.toList_inj.1;exact hf1
   subst e;exact LB hS hw ho
  |cons x xs =>
   rw [hf1] at h;cases hf2:caps.toList with
   |nil =>
    have e:caps=#[]:=by apply Array.toList_inj.1;exact hf2
    subst e;simp only [aw,aX,QeU]
    have:=Qfc (A:=A) (P:=P) hS hw ho;rw [hf1] at this
    exact this
   |cons y ys=>rw [hf2] at h;exact h.elim
 |nilCheck x =>
  rw [ho] at h;simp only [opE] at h ⊢
  refine UH hS hw ho ?_
  generalize ev S x=c at h;cases c <;> simp only [Zz] at h <;> first|exact h.elim|skip
  ·exact .inr (.inl ⟨_,_,rfl⟩)
  ·exact .inl ⟨_,_,rfl⟩
  ·exact .inr (.inr ⟨_,_,_,_,rfl⟩)
 |build t ps=>rw [ho] at h;exact RO hΓ hS hw ho h
 |buildSlice t n ps=>rw [ho] at h;exact Qdp hΓ hS hw ho h
 |slice t x lo hi mx=>rw [ho] at h;exact R6 hΓ hS hw ho h
 |makeSlice t x y=>rw [ho] at h;exact Uk hΓ hS hw ho h
 |index t x ix=>rw [ho] at h;exact RY hΓ hS hw ho h
 |field t x f=>rw [ho] at h;exact LD hΓ hS hw ho h
 |makeMap t r =>
  cases r with
  |none=>exact Qa4 hw ho
  |some _=>rw [ho] at h;exact h.elim
 |lookup t x k c=>rw [ho] at h;exact U5 hΓ hS hw ho h
 |mapUpdate t x k v=>rw [ho] at h;exact QbC hΓ hS hw ho h
 |call c=>rw [ho] at h;exact Lu hΓ hΦ hS hw ho h
 |mapEntry t x k=>rw [ho] at h;exact QbX hΓ hS hw ho h
 |entryStore t x s v=>rw [ho] at h;exact QbT hS hw ho h
 |makeInterface t x=>rw [ho] at h;exact Qbc hΓ hw ho h
 |_=>rw [ho] at h;exact h.elim
end sound
def St.lit (S:St) (d:Nat) (b:Bool):St:={ t:=upd S.t d (.v (.bool b)),h:=S.h,n:=S.n,j:=S.j,d:=S.d,m:=S.m }
def WP:AV->Option Bool
 |.v (.bool b)=>some b
 |_=>none
def Vk {a:AV} {b:Bool} (h:WP a=some b):a=.v (.bool b):=by
 unfold WP at h;split at h
 ·cases h;rfl
 ·cases h
def St.lit_eq {S:St} {d:Nat} {b:Bool} (h:S.t d=.v (.bool b)):S.lit d b=S:=by
 cases S;simp only [St.lit,St.mk.injEq,and_true,true_and]
 funext i
 by_cases hi:i=d
 ·subst hi;rw [upd_same];exact h.symm
 ·rw [upd_ne _ _ _ _ hi]
def ZO:AV->Option (Option Bool)
 |.v (.bool b)=>some (some b)
 |.tup []=>some none
 |_=>none
def U6 {a:AV} {b:Bool} (h:ZO a=some (some b)):a=.v (.bool b):=by
 unfold ZO at h;split at h
 ·cases h;rfl
 ·cases h
 ·cases h
def QaB {a:AV} (h:ZO a=some none):a=.tup []:=by
 unfold ZO at h;split at h
 ·cases h
 ·rfl
 ·cases h
def Vb:Op->Option (Operand × Operand × Operand)
 |.pick c x y=>some (c,x,y)
 |_=>none
def L8 {op:Op} {p:Operand × Operand × Operand} (h:Vb op=some p):op=.pick p.1 p.2.1 p.2.2:=by
 unfold Vb at h;split at h
 ·cases h;rfl
 ·cases h
def Qdf (O:Tys) (Φ:Ctr) (o:Oper) (rest:St->List Eff->Prop) (S:St) (es:List Eff):Prop :=
 match Vb o.op with
 |none=>(opE O Φ S o.op).1/\rest (S.app o.dst (opE O Φ S o.op).2) ((opE O Φ S o.op).2 :: es)
 |some p=>match WP (ev S p.1) with
  |none=>False
  |some b=>if b=true then rest (S.app o.dst { av:=ev S p.2.1,n:=S.n }) ({ av:=ev S p.2.1,n:=S.n } :: es) else rest (S.app o.dst { av:=ev S p.2.2,n:=S.n }) ({ av:=ev S p.2.2,n:=S.n } :: es)
def QcB (draw:Bool) (ops:Array Oper) (Q:St->Prop) (S:St) (es:List Eff):Prop:=match draw with
 |false=>Q S
 |true=>kS ops es.reverse=true/\Q S
def Qbj {draw:Bool} {ops:Array Oper} {Q:St->Prop} {S:St} {es:List Eff} (h:QcB draw ops Q S es):(draw=true->kS ops es.reverse=true)/\Q S:=by
 cases draw with
 |false=>exact ⟨fun h=>(by cases h),h⟩
 |true=>exact ⟨fun _=>h.1,h.2⟩
def kY (O:Tys) (Φ:Ctr) (ops:Array Oper) (draw:Bool) (Q:St->Prop):List Oper->St->List Eff->Prop
 |[],S,es=>QcB draw ops Q S es
 |o :: r,S,es=>match o.guard with
  |none=>Qdf O Φ o (kY O Φ ops draw Q r) S es
  |some g=>match (ops[g.1]?).bind (·.dst) with
   |none=>False
   |some d=>match ZO (S.t d) with
    |none=>False
    |some none=>kY O Φ ops draw Q r (S.app o.dst { av:=.tup [],n:=S.n }) ({ av:=.tup [],n:=S.n } :: es)
    |some (some c)=>if c=g.2 then Qdf O Φ o (kY O Φ ops draw Q r) (S.lit d g.2) es else kY O Φ ops draw Q r ((S.lit d (!g.2)).app o.dst { av:=.tup [],n:=S.n }) ({ av:=.tup [],n:=S.n } :: es)
def Qb1 {O:Tys} {Φ:Ctr} (hΓ:zW P O) (hΦ:Ctr.OK A P Φ) {ops:Array Oper} {o:Oper} {rest:St->List Eff->Prop} {S:St} {es:List Eff} (hS:Wf S) (hw:Want ops o S) (h:Qdf O Φ o rest S es) :
  ∃ e,VE A P ops o e S/\rest (S.app o.dst e) (e :: es):=by
 unfold Qdf at h;split at h
 ·exact ⟨_,XD hΓ hΦ hS hw h.1,h.2⟩
 ·rename_i p hp
  have hp:=L8 hp;split at h
  ·exact h.elim
  ·rename_i b hb
   have hv:=QhZ (A:=A) (P:=P) hS hw hp (Vk hb);split at h
   ·rename_i hbt;subst hbt;exact ⟨_,hv,h⟩
   ·rename_i hbt
    have:b=false:=by simpa using hbt
    subst this;exact ⟨_,hv,h⟩
def yu {O:Tys} {Φ:Ctr} (hΓ:zW P O) (hΦ:Ctr.OK A P Φ) {ops:Array Oper} {draw:Bool} {Q:St->Prop}:∀ (l:List Oper) (S:St) (es:List Eff),Wf S->kY O Φ ops draw Q l S es ->
  Run A P ops l S es fun S' es'=>(draw=true->kS ops es'.reverse=true)/\Q S'
 |[],S,es,_,h=>Qbj h
 |o :: r,S,es,hS,h=>by
  have go:Want ops o S->Qdf O Φ o (kY O Φ ops draw Q r) S es->Run A P ops (o :: r) S es fun S' es'=>(draw=true->kS ops es'.reverse=true)/\Q S':=fun hw h=>by
   obtain ⟨e,hv,hr⟩:=Qb1 hΓ hΦ hS hw h;exact ⟨e,hv,yu hΓ hΦ r _ _ (hS.app hv.ids) hr⟩
  simp only [kY] at h;split at h
  ·rename_i hg;exact go (.inl hg) h
  ·rename_i g hg
   split at h
   ·exact h.elim
   ·rename_i d hd
    split at h
    ·exact h.elim
    ·rename_i hc
     have hv:VE A P ops o { av:=.tup [],n:=S.n } S:=VE.skip ⟨g.1,g.2,d,hg,hd,.inr (QaB hc)⟩;exact ⟨_,hv,yu hΓ hΦ r _ _ (hS.app hv.ids) h⟩
    ·rename_i c hc
     have hc:=U6 hc;split at h
     ·rename_i hcb
      subst hcb;rw [St.lit_eq hc] at h
      exact go (.inr ⟨_,_,d,hg,hd,hc⟩) h
     ·rename_i hcb
      have hcn:(!g.2)=c:=by cases hg2:g.2 <;> cases hcc:c <;> simp_all
      rw [hcn,St.lit_eq hc] at h;have hv:VE A P ops o { av:=.tup [],n:=S.n } S:=VE.skip ⟨g.1,g.2,d,hg,hd,.inl ⟨c,hc,fun e=>hcb e.symm⟩⟩
      exact ⟨_,hv,yu hΓ hΦ r _ _ (hS.app hv.ids) h⟩
def Wf.lit {S:St}:True:=trivial
structure Env (A:Frm->Prop) (P:Program) (O:Tys) (Φ:Ctr):Prop where
 tys:zW P O
 ctr:Ctr.OK A P Φ
 mixed:P.follows .mixedOrders=true
def Qct {O:Tys} {Φ:Ctr} (hE:Env A P O Φ) {id:Nat} {ops:Array Oper} {draw:Bool} {S:St} {K:Exit->St->Prop} (h:∀ Q:St->Prop,(∀ S',K .normal S'->Q S')->kY O Φ ops draw Q ops.toList S []):Sym A P (.region id ops draw) S K:=fun F hF hd a w hg=>by
 have hr:=yu (A:=A) (P:=P) hE.tys hE.ctr ops.toList S [] hg.wf (h (fun S'=>K .normal S') fun _ h=>h)
 cases draw with
 |false=>exact Vq (QR (fun _ _ h=>h.2) _ _ _ hr) F hF hd a w hg
 |true=>exact YP hE.mixed (QR (fun _ _ h=>⟨h.1 rfl,h.2⟩) _ _ _ hr) F hF hd a w hg
def leT (S:St) (hf:Nat->Option AObj) (Z:Nat->Option Nat):List (Nat × AV)->Prop
 |[]=>True
 |p :: r=>AV.le hf Z (S.t p.1) p.2/\leT S hf Z r
def leO (hf:Nat->Option AObj) (Z:Nat->Option Nat) (o:Option AObj) (o':AObj):Prop:=match o with
 |some o=>AObj.le hf Z o o'
 |none=>False
def leH (S:St) (hf:Nat->Option AObj) (Z:Nat->Option Nat):List (Nat × AObj)->Prop
 |[]=>True
 |p :: r=>(match Z p.1 with|some i=>leO hf Z (S.h i) p.2|none=>match p.2 with|.row _ k xs=>xs=[]/\0 < k|.rows _ cs=>cs=[]|_=>False)/\leH S hf Z r
def Qff (n:Nat):List (Nat × AV)->Prop
 |[]=>True
 |p :: r=>(∀ id ∈ p.2.ids,id < n)/\Qff n r
def Qa5 (n:Nat):List (Nat × AObj)->Prop
 |[]=>True
 |p :: r=>p.1 < n/\(∀ id ∈ p.2.ids,id < n)/\Qa5 n r
def JW (Z:Nat->Option Nat) (H:List (Nat × AObj)):List Nat:=H.filterMap fun p=>Z p.1
structure LeOK (S:St) (L:List (Nat × AV)) (H:List (Nat × AObj)) (n:Nat) (d:List ADf) (Z:Nat->Option Nat) (fz:List Nat):Prop where
 t:leT S (fun i=>if i ∈ fz then S.h i else none) Z L
 h:leH S (fun i=>if i ∈ fz then S.h i else none) Z H
 df:ADf.leL (fun i=>if i ∈ fz then S.h i else none) Z S.d d
 img:(JW Z H).Nodup
 keys:(H.map (·.1)).Nodup
 frz:∀ i ∈ fz,i ∉ JW Z H
 pin:∀ i,i < S.m->Z i=some i
 idt:Qff n L
 idh:Qa5 n H
 idd:∀ id ∈ d.flatMap ADf.ids,id < n
 m:S.m<=n
def QcS {S:St} {hf:Nat->Option AObj} {Z:Nat->Option Nat}:∀ {L:List (Nat × AV)},leT S hf Z L->∀ p ∈ L,AV.le hf Z (S.t p.1) p.2
 |q :: r,h,p,hp=>by
  rcases ae.1 hp with rfl|hp
  ·exact h.1
  ·exact QcS h.2 p hp
def Y3 {S:St} {hf:Nat->Option AObj} {Z:Nat->Option Nat}:∀ {H:List (Nat × AObj)},leH S hf Z H->∀ p ∈ H,(∃ i o,Z p.1=some i/\S.h i=some o/\AObj.le hf Z o p.2)\/(Z p.1=none/\VV p.2)
 |q :: r,h,p,hp=>by
  rcases ae.1 hp with rfl|hp
  ·have h1:=h.1
   split at h1
   ·rename_i i hi
    unfold leO at h1;split at h1
    ·rename_i o ho;exact .inl ⟨i,o,hi,ho,h1⟩
    ·exact h1.elim
   ·rename_i hi
    split at h1
    ·rename_i e k xs hx;obtain ⟨rfl,hk⟩:=h1;exact .inr ⟨hi,.inl ⟨e,k,hx,hk⟩⟩
    ·rename_i e cs hx;subst h1;exact .inr ⟨hi,.inr ⟨e,hx⟩⟩
    ·exact h1.elim
  ·exact Y3 h.2 p hp
def UT {n:Nat}:∀ {L:List (Nat × AV)},Qff n L->∀ p ∈ L,∀ id ∈ p.2.ids,id < n
 |q :: r,h,p,hp=>by
  rcases ae.1 hp with rfl|hp
  ·exact h.1
  ·exact UT h.2 p hp
def Qaj {n:Nat}:∀ {H:List (Nat × AObj)},Qa5 n H->∀ p ∈ H,p.1 < n/\∀ id ∈ p.2.ids,id < n
 |q :: r,h,p,hp=>by
  rcases ae.1 hp with rfl|hp
  ·exact ⟨h.1,h.2.1⟩
  ·exact Qaj h.2.2 p hp
def JN {Z:Nat->Option Nat}:∀ {H:List (Nat × AObj)},(JW Z H).Nodup->∀ p ∈ H,∀ q ∈ H,∀ i,Z p.1=some i->Z q.1=some i->p=q\/p.1=q.1\/False
 |[],_,p,hp,_,_,_,_,_=>by simp at hp
 |r :: H,hn,p,hp,q,hq,i,h1,h2=>by
  have mem:∀ x ∈ H,Z x.1=some i->i ∈ JW Z H:=fun x hx hs=>ca.2 ⟨x,hx,hs⟩
  have hn':(JW Z H).Nodup:=by
   simp only [JW,di] at hn ⊢;split at hn
   ·exact hn
   ·exact (cz.1 hn).2
  have hni:∀ j,Z r.1=some j->j ∉ JW Z H:=fun j hj=>by
   simp only [JW,di,hj] at hn;exact (cz.1 hn).1
  rcases ae.1 hp with e1|hp'
  ·rcases ae.1 hq with e2|hq'
   ·exact .inl (e1.trans e2.symm)
   ·exact absurd (mem q hq' h2) (hni i (e1 ▸ h1))
  ·rcases ae.1 hq with e2|hq'
   ·exact absurd (mem p hp' h1) (hni i (e2 ▸ h2))
   ·exact JN hn' p hp' q hq' i h1 h2
def Le.ok {S:St} {L:List (Nat × AV)} {H:List (Nat × AObj)} {n:Nat} {d:List ADf} (Z:Nat->Option Nat) (fz:List Nat) (h:LeOK S L H n d Z fz):Le S { t:=asg L,h:=qf H,n,j:=S.j,d,m:=S.m }:=by
 refine Le.of Z (fun i=>if i ∈ fz then S.h i else none) (QcS h.t) (Y3 h.h) h.df (fun p hp q hq i h1 h2=>?_) (fun i o hi=>?_) h.pin (UT h.idt) (Qaj h.idh) h.idd h.m
 ·rcases JN h.img p hp q hq i h1 h2 with rfl|h|h
  ·rfl
  ·exact h
  ·exact h.elim
 ·by_cases hm:i ∈ fz
  ·rw [if_pos hm] at hi
   exact ⟨hi,fun p hp hs=>h.frz i hm (ca.2 ⟨p,hp,hs⟩)⟩
  ·rw [if_neg hm] at hi;cases hi
def noB:Ctx->Prop:=fun _=>True
def jh (T:World->Prop):Ctx->Prop:=fun c=>∀ j own w,c.J j own w->T w
def zQ (T:World->Prop):Frm->Prop:=fun F=>∀ j own w,F.J j own w->T w
def WB {T:World->Prop} {F:Frm} {S:St} {hs bo:List Nat} {ρ:Nat->Value} {own:Own} {w:World} (h:zQ T F):jh T (xZ F S hs bo ρ own w):=fun _ _ _ ⟨_,hj,_⟩=>h _ _ _ hj
def noH:Nat->Option AObj:=fun _=>none
def FnV (P:Program) (f:FuncId) (az:List AV) (v:AV):Prop:=Fn noB P f az noH v noH 0
mutual
def AV.view (h:Nat->Option AObj):AV->AV
 |.v x=>.v x
 |.nil=>.sl []
 |.emp=>.sl []
 |.sl xs=>.sl xs
 |.agg cs=>.agg (AV.viewL h cs)
 |.tup cs=>.tup (AV.viewL h cs)
 |.ep cs o=>.ep cs o
 |.ptr i o=>.ptr i o
 |.row i=>match h i with
  |some (.row _ _ xs)=>.sl xs
  |_=>.junk
 |.rp i k m o=>.rp i k m o
 |.csl i n=>.csl i n
 |.psl i o n c=>.psl i o n c
 |.rsl i k l n=>.rsl i k l n
 |.mp i=>.mp i
 |.clo f cs=>.clo f (AV.viewL h cs)
 |.cb=>.cb
 |.junk=>.junk
 |.any=>.any
 |.bnd f cs=>.bnd f (AV.viewL h cs)
def AV.viewL (h:Nat->Option AObj):List AV->List AV
 |[]=>[]
 |c :: cs=>c.view h :: AV.viewL h cs
end
mutual
def AV.rows:AV->List Nat
 |.v _=>[]
 |.nil=>[]
 |.emp=>[]
 |.sl _=>[]
 |.agg cs=>AV.rowsL cs
 |.tup cs=>AV.rowsL cs
 |.ep _ _=>[]
 |.ptr _ _=>[]
 |.row i=>[i]
 |.rp _ _ _ _=>[]
 |.csl _ _=>[]
 |.psl _ _ _ _=>[]
 |.rsl _ _ _ _=>[]
 |.mp _=>[]
 |.clo _ cs=>AV.rowsL cs
 |.cb=>[]
 |.junk=>[]
 |.any=>[]
 |.bnd _ cs=>AV.rowsL cs
def AV.rowsL:List AV->List Nat
 |[]=>[]
 |c :: cs=>c.rows++AV.rowsL cs
end
mutual
def AV.plain:AV->Prop
 |.v _=>True
 |.nil=>False
 |.emp=>False
 |.sl _=>True
 |.agg cs=>AV.plainL cs
 |.tup cs=>AV.plainL cs
 |.ep _ _=>True
 |.ptr _ _=>False
 |.row _=>False
 |.rp _ _ _ _=>False
 |.csl _ _=>False
 |.psl _ _ _ _=>False
 |.rsl _ _ _ _=>False
 |.mp _=>False
 |.clo _ cs=>AV.plainL cs
 |.cb=>True
 |.junk=>False
 |.any=>False
 |.bnd _ cs=>AV.plainL cs
def AV.plainL:List AV->Prop
 |[]=>True
 |c :: cs=>c.plain/\AV.plainL cs
end
def AV.plain_row (h:Nat->Option AObj) (i:Nat) (hp:(AV.view h (.row i)).plain):∃ e k xs,h i=some (.row e k xs)/\AV.view h (.row i)=.sl xs:=by
 simp only [AV.view] at hp;split at hp
 ·rename_i e k xs hi;exact ⟨e,k,xs,hi,by simp only [AV.view,hi]⟩
 ·exact hp.elim
def AV.view_row (h hf:Nat->Option AObj) (Z:Nat->Option Nat) (i:Nat) (hp:(AV.view h (.row i)).plain) (hr:hf i=h i):AV.le hf Z (.row i) (AV.view h (.row i)):=by
 obtain ⟨e,k,xs,hi,hv⟩:=AV.plain_row h i hp;rw [hv]
 simp only [AV.le];exact ⟨e,k,by unfold rowAt;rw [hr.trans hi]⟩
mutual
def AV.view_le (h hf:Nat->Option AObj) (Z:Nat->Option Nat):∀ c:AV,(c.view h).plain->(∀ i ∈ c.rows,hf i=h i)->AV.le hf Z c (c.view h)
 |.v _,_,_=>by simp [AV.view,AV.le]
 |.nil,_,_=>by simp [AV.view,AV.le]
 |.emp,_,_=>by simp [AV.view,AV.le]
 |.sl _,_,_=>by simp [AV.view,AV.le]
 |.agg cs,hp,hr=>by simp only [AV.view,AV.plain,AV.rows,AV.le] at hp hr ⊢;exact AV.viewL_le h hf Z cs hp hr
 |.tup cs,hp,hr=>by simp only [AV.view,AV.plain,AV.rows,AV.le] at hp hr ⊢;exact AV.viewL_le h hf Z cs hp hr
 |.ep _ _,_,_=>by simp [AV.view,AV.le]
 |.ptr _ _,hp,_=>by simp [AV.view,AV.plain] at hp
 |.row i,hp,hr=>AV.view_row h hf Z i hp (hr i (by simp [AV.rows]))
 |.rp _ _ _ _,hp,_=>by simp [AV.view,AV.plain] at hp
 |.csl _ _,hp,_=>by simp [AV.view,AV.plain] at hp
 |.psl _ _ _ _,hp,_=>by simp [AV.view,AV.plain] at hp
 |.rsl _ _ _ _,hp,_=>by simp [AV.view,AV.plain] at hp
 |.mp _,hp,_=>by simp [AV.view,AV.plain] at hp
 |.clo f cs,hp,hr=>by simp only [AV.view,AV.plain,AV.rows,AV.le] at hp hr ⊢;exact ⟨trivial,AV.viewL_le h hf Z cs hp hr⟩
 |.cb,_,_=>by simp [AV.view,AV.le]
 |.junk,hp,_=>by simp [AV.view,AV.plain] at hp
 |.any,hp,_=>by simp [AV.view,AV.plain] at hp
 |.bnd f cs,hp,hr=>by simp only [AV.view,AV.plain,AV.rows,AV.le] at hp hr ⊢;exact ⟨trivial,AV.viewL_le h hf Z cs hp hr⟩
def AV.viewL_le (h hf:Nat->Option AObj) (Z:Nat->Option Nat):∀ cs:List AV,AV.plainL (AV.viewL h cs)->(∀ i ∈ AV.rowsL cs,hf i=h i)->AV.leL hf Z cs (AV.viewL h cs)
 |[],_,_=>trivial
 |c :: cs,hp,hr=>by
  simp only [AV.viewL,AV.plainL,AV.rowsL,au] at hp hr ⊢;exact ⟨AV.view_le h hf Z c hp.1 fun i hi=>hr i (.inl hi),AV.viewL_le h hf Z cs hp.2 fun i hi=>hr i (.inr hi)⟩
end
mutual
def AV.plain_rows (h:Nat->Option AObj):∀ c:AV,(c.view h).plain->∀ i ∈ c.rows,∃ e k xs,h i=some (.row e k xs)
 |.agg cs,hp=>by simp only [AV.view,AV.plain,AV.rows] at hp ⊢;exact AV.plainL_rows h cs hp
 |.tup cs,hp=>by simp only [AV.view,AV.plain,AV.rows] at hp ⊢;exact AV.plainL_rows h cs hp
 |.row i,hp=>by
  intro j hj;simp only [AV.rows,aM] at hj
  subst hj;obtain ⟨e,k,xs,hi,_⟩:=AV.plain_row h j hp
  exact ⟨e,k,xs,hi⟩
 |.clo f cs,hp=>by simp only [AV.view,AV.plain,AV.rows] at hp ⊢;exact AV.plainL_rows h cs hp
 |.v _,_=>by simp [AV.rows]
 |.nil,_=>by simp [AV.rows]
 |.emp,_=>by simp [AV.rows]
 |.sl _,_=>by simp [AV.rows]
 |.ep _ _,_=>by simp [AV.rows]
 |.ptr _ _,_=>by simp [AV.rows]
 |.rp _ _ _ _,_=>by simp [AV.rows]
 |.csl _ _,_=>by simp [AV.rows]
 |.psl _ _ _ _,_=>by simp [AV.rows]
 |.rsl _ _ _ _,_=>by simp [AV.rows]
 |.mp _,_=>by simp [AV.rows]
 |.cb,_=>by simp [AV.rows]
 |.junk,_=>by simp [AV.rows]
 |.any,_=>by simp [AV.rows]
 |.bnd f cs,hp=>by simp only [AV.view,AV.plain,AV.rows] at hp ⊢;exact AV.plainL_rows h cs hp
def AV.plainL_rows (h:Nat->Option AObj):∀ cs:List AV,AV.plainL (AV.viewL h cs)->∀ i ∈ AV.rowsL cs,∃ e k xs,h i=some (.row e k xs)
 |[],_=>by simp [AV.rowsL]
 |c :: cs,hp=>by
  simp only [AV.viewL,AV.plainL] at hp;intro i hi
  simp only [AV.rowsL,au] at hi
  rcases hi with hi|hi
  ·exact AV.plain_rows h c hp.1 i hi
  ·exact AV.plainL_rows h cs hp.2 i hi
end
mutual
def AV.plain_ids:∀ c:AV,c.plain->c.ids=[]
 |.v _,_=>rfl
 |.nil,_=>rfl
 |.emp,_=>rfl
 |.sl _,_=>rfl
 |.agg cs,h=>by simp only [AV.plain,AV.ids] at h ⊢;exact AV.plainL_ids cs h
 |.tup cs,h=>by simp only [AV.plain,AV.ids] at h ⊢;exact AV.plainL_ids cs h
 |.ep _ _,_=>rfl
 |.ptr _ _,h=>h.elim
 |.row _,h=>h.elim
 |.rp _ _ _ _,h=>h.elim
 |.csl _ _,h=>h.elim
 |.psl _ _ _ _,h=>h.elim
 |.rsl _ _ _ _,h=>h.elim
 |.mp _,h=>h.elim
 |.clo _ cs,h=>by simp only [AV.plain,AV.ids] at h ⊢;exact AV.plainL_ids cs h
 |.cb,_=>rfl
 |.junk,_=>rfl
 |.any,h=>h.elim
 |.bnd _ cs,h=>by simp only [AV.plain,AV.ids] at h ⊢;exact AV.plainL_ids cs h
def AV.plainL_ids:∀ cs:List AV,AV.plainL cs->AV.idsL cs=[]
 |[],_=>rfl
 |c :: cs,h=>by simp only [AV.plainL,AV.idsL] at h ⊢;rw [AV.plain_ids c h.1,AV.plainL_ids cs h.2];rfl
end
mutual
def AV.plain_ren (τ:Nat->Nat):∀ c:AV,c.plain->c.ren τ=c
 |.v _,_=>rfl
 |.nil,_=>rfl
 |.emp,_=>rfl
 |.sl _,_=>rfl
 |.agg cs,h=>by simp only [AV.plain,AV.ren] at h ⊢;rw [AV.plainL_ren τ cs h]
 |.tup cs,h=>by simp only [AV.plain,AV.ren] at h ⊢;rw [AV.plainL_ren τ cs h]
 |.ep _ _,_=>rfl
 |.ptr _ _,h=>h.elim
 |.row _,h=>h.elim
 |.rp _ _ _ _,h=>h.elim
 |.csl _ _,h=>h.elim
 |.psl _ _ _ _,h=>h.elim
 |.rsl _ _ _ _,h=>h.elim
 |.mp _,h=>h.elim
 |.clo f cs,h=>by simp only [AV.plain,AV.ren] at h ⊢;rw [AV.plainL_ren τ cs h]
 |.cb,_=>rfl
 |.junk,_=>rfl
 |.any,h=>h.elim
 |.bnd f cs,h=>by simp only [AV.plain,AV.ren] at h ⊢;rw [AV.plainL_ren τ cs h]
def AV.plainL_ren (τ:Nat->Nat):∀ cs:List AV,AV.plainL cs->AV.renL τ cs=cs
 |[],_=>rfl
 |c :: cs,h=>by simp only [AV.plainL,AV.renL] at h ⊢;rw [AV.plain_ren τ c h.1,AV.plainL_ren τ cs h.2]
end
def zD (fl:Bool) (spec:List AV->Prop × AV) (S:St) (bs:List AV):Ans :=
 (AV.plainL (AV.viewL S.h bs)/\(spec (AV.viewL S.h bs)).1,{ av:=(spec (AV.viewL S.h bs)).2,hw:=bif fl then [] else qV (AV.rowsL bs),hr:=AV.rowsL bs,n:=S.n })
def VA {B:Ctx->Prop} (hB:∀ F S hs bo ρ own w,A F->B (xZ F S hs bo ρ own w)) {f:FuncId} {fl:Bool} {spec:List AV->Prop × AV} (hf:∀ az,AV.plainL az->(spec az).1->(spec az).2.plain/\(fl=true->(spec az).2.flat)/\Fn B P f az noH (spec az).2 noH 0)
  {S:St} {bs:List AV} (h:(zD fl spec S bs).1) (hS:Wf S) {ops:Array Oper} {o:Oper} {g:Operand} {args:Array Operand} {tys:Array TypeId} {caps:List AV} (hw:Want ops o S)
  (ho:o.op=.call { callee:=.value g,args:=args,argTypes:=tys }) (hg:jE (ev S g)=some (some f,caps)) (hb:Zu (ev S g)++(args.toList.map (ev S)++caps)=bs):VE A P ops o (zD fl spec S bs).2 S:=by
 obtain ⟨hp,hs⟩:=h;obtain ⟨hvp,hfl,hfn⟩:=hf _ hp hs
 have hg':=Zj hg;have hrows:=AV.plainL_rows S.h bs hp
 have hids:=AV.plain_ids _ hvp;have:=QcC (A:=A) (hs:=[]) (bo:=AV.rowsL bs) (dr:=bif fl then [] else AV.rowsL bs) (hf:=fun i=>if i ∈ AV.rowsL bs then S.h i else none) (nn:=0) hS hw ho hg' hfn (fun h=>absurd rfl h) (fun F S2 _ w ρ own h _ _ _=>hB F S2 _ _ ρ own w h)
  (by rw [hb];exact AV.viewL_le S.h _ _ bs hp fun i hi=>by simp [hi]) (fun i o0 hi=>by cases hi) (fun j hj=>by simp at hj) List.nodup_nil
  (fun i ob hi=>by
   by_cases hm:i ∈ AV.rowsL bs
   ·rw [if_pos hm] at hi;exact ⟨hi,by simp,hm⟩
   ·rw [if_neg hm] at hi;cases hi) (fun i hi=>by obtain ⟨e,k,xs,h⟩:=hrows i hi;exact ⟨⟨_,h⟩,by simp⟩)
  (by
   cases fl with
   |true=>exact .inr ⟨rfl,hfl rfl,fun i ob hi=>by cases hi⟩
   |false=>exact .inl rfl)
  (by rw [hids];simp) (fun i ob hi=>by cases hi)
 have e:qZ S [] (AV.rowsL bs) (bif fl then [] else AV.rowsL bs) (spec (AV.viewL S.h bs)).2 noH 0 0=(zD fl spec S bs).2:=by
  simp only [qZ,zD,AV.plain_ren _ _ hvp];cases fl <;> simp [qV]
 rw [e] at this;exact this
end Go.Sym
namespace Go.Sym
open Go
def zf {P : Program} {d : Nat} {w : World} {xs ys : Array Value} {f : Field} {fs : List Field} {r r' : Bool} {a b : Value} (hn : f.name ≠ "_") (ha : (part f.type xs f.offset).run P w = .ok a w) (hb : (part f.type ys f.offset).run P w = .ok b w)
  (he:(Op.equalIn d f.type a b).run P w=.ok r w) (hr:(Op.eqFields d xs ys fs).run P w=.ok r' w):(Op.eqFields d xs ys (f :: fs)).run P w=.ok (r && r') w:=by
 simp only [Op.eqFields,if_pos hn,aH,ha,hb,aJ,he];cases r
 ·simp
 ·simpa using hr
def ji {P:Program} {d:Nat} {w:World} {xs ys:Array Value}:(Op.eqFields d xs ys []).run P w=.ok true w:=by simp [Op.eqFields]
def qo {P:Program} {t:TypeId} {xs:Array Value} {off:Nat} {v:Value} {w:World} (ht:∀ w,(isAgg t).run P w=.ok false w) (h:xs[off]?=some v):(part t xs off).run P w=.ok v w:=by
 simp [part,ht,h]
def zG {P:Program} {t:TypeId} {xs cs:Array Value} {off n:Nat} {w:World} (ht:∀ w,(isAgg t).run P w=.ok true w) (hs:∀ w,(sizeOf t).run P w=.ok n w) (h:xs.extract off (off+n)=cs):(part t xs off).run P w=.ok (.agg cs) w:=by
 simp [part,ht,hs,h]
def Fin.val {S:St} {rv v:AV} (hj:S.j=0) (h:AV.le S.h some rv v):Fin S rv v 0 noH 0:=by
 refine ⟨some,S.h,h,fun i o hi=>?_,fun i o k o' c hi=>?_,fun i o hi=>⟨hi,fun j o1 hj=>?_⟩,fun i hi=>?_,hj⟩
 ·cases hi
 ·cases hi
 ·cases hj
 ·omega
def ite_and {p:Prop} [Decidable p] {A B:Prop}:(if p then A else B)=((p->A)/\(¬ p->B)):=by
 by_cases h:p <;> simp [h]
section
variable {A : Frm -> Prop} {P : Program} {N : St -> Prop} {K : Exit -> St -> Prop} {S : St} {id id' : Nat}
def zg {c:Operand} {x y:Code} {b:Bool} (hc:WP (ev S c)=some b) (h1:b=true->Sym A P x S K) (h2:b=false->Sym A P y S K):Sym A P (.cond c x y) S K:=Qey (Vk hc) h1 h2
def Qhn (h:N S):ZU N K .normal S:=h
def QiU (h:K (.exit id) S):ZU N K (.exit id) S:=h
def QiO (h:K .ret S):ZU N K .ret S:=h
def Qhb (h:K .normal S):yQ id K .normal S:=h
def QgC (h:K .ret S):yQ id K .ret S:=h
def Qa0 (h:K .normal S):yQ id K (.exit id) S:=by simp only [yQ,if_true];exact h
def YF (hn:id' ≠ id) (h:K (.exit id') S):yQ id K (.exit id') S:=by simp only [yQ,if_neg hn];exact h
end
def QH {α β:Type} (f:α->β) (l:List α) (n:Nat) (d:α):(l.map f).getD n (f d)=f (l.getD n d):=by simp [ah,aC]
def wrap64 {n:Int} (h:-9223372036854775808<=n) (h':n < 9223372036854775808):IntKind.wrap .i64 n=n:=by
 unfold IntKind.wrap;simp only [IntKind.bits,IntKind.signed]
 simp
 split <;> omega
def Qdw:maxLen < 9223372036854775808:=by decide
def qP {k n:Nat} (h:k < n) (hn:n<=maxLen):IntKind.wrap .i64 ((k:Int)+1)=((k+1:Nat):Int):=by
 have:=Qdw;rw [wrap64 (by omega) (by omega)];rfl
abbrev Entry:=St->List AV->Ans
def qc (A:Frm->Prop) (P:Program) (f:FuncId) (e:Entry):Prop:=∀ S bs,(e S bs).1->Wf S->∀ ops o g args tys caps,Want ops o S->o.op=.call { callee:=.value g,args:=args,argTypes:=tys }->jE (ev S g)=some (some f,caps)->Zu (ev S g)++(args.toList.map (ev S)++caps)=bs->VE A P ops o (e S bs).2 S
def Qdn (S:St) (f:FuncId) (bs:List AV):List (FuncId × Entry)->Ans
 |[]=>bad
 |p :: r=>if f=p.1 then p.2 S bs else Qdn S f bs r
def tab (L:List (FuncId × Entry)):Ctr:=fun S f bs=>match f with
 |some f=>Qdn S f bs L
 |none=>bad
def XI (A:Frm->Prop) (P:Program):List (FuncId × Entry)->Prop
 |[]=>True
 |p :: r=>qc A P p.1 p.2/\XI A P r
def kC {A:Frm->Prop} {P:Program} {f:FuncId} {e:Entry} {L:List (FuncId × Entry)} (h:qc A P f e) (r:XI A P L):XI A P ((f,e) :: L):=⟨h,r⟩
def kN {A:Frm->Prop} {P:Program}:XI A P []:=trivial
def k9 (k:Nat) (h:(k:Int)+1 < 9223372036854775808):IntKind.wrap .i64 ((k:Int)+1)=((k+1:Nat):Int):=by rw [wrap64 (by omega) (by omega)];rfl
def kV {P:Program} {O:Tys} {f:FuncId} {fn:Func} {c:Code} (hd:FnData P O f fn c) {az:List AV} {v:AV} {h1:Nat->Option AObj} {dj:Nat} (has:az.length<=fn.ntmps) (hids:∀ a ∈ az,∀ id ∈ a.ids,id < 0)
  (hs:Sym (fun _=>True) P c (wW az 0 noH) (Vt O noD fn fun S rv=>Fin S rv v 0 h1 dj)):Fn noB P f az noH v h1 dj:=Fn.of (A:=fun _=>True) (n0:=0) (D:=noD) hd has hids (fun i o h=>by cases h) (fun _ _ _ _=>trivial) zt hs
def kT {T:World->Prop} {P:Program} {O:Tys} {f:FuncId} {fn:Func} {c:Code} (hd:FnData P O f fn c) {az:List AV} {v:AV} {h1:Nat->Option AObj} {dj:Nat} (has:az.length<=fn.ntmps) (hids:∀ a ∈ az,∀ id ∈ a.ids,id < 0)
  (hs:Sym (zQ T) P c (wW az 0 noH) (Vt O noD fn fun S rv=>Fin S rv v 0 h1 dj)):Fn (jh T) P f az noH v h1 dj:=Fn.of (A:=zQ T) (n0:=0) (D:=noD) hd has hids (fun i o h=>by cases h) (fun _ hB _ _=>hB) zt hs
def Qj2 {A:Frm->Prop} {P:Program} {L:List (FuncId × Entry)} (h:XI A P L):Ctr.OK A P (tab L):=by
 intro S f bs hp hS ops o g args tys caps hw ho hg hb;cases f with
 |none=>exact hp.elim
 |some f =>
  simp only [tab] at hp ⊢
  induction L with
  |nil=>exact hp.elim
  |cons p r ih =>
   simp only [Qdn] at hp ⊢
   by_cases hf:f=p.1
   ·rw [if_pos hf] at hp ⊢;subst hf;exact h.1 S bs hp hS ops o g args tys caps hw ho hg hb
   ·rw [if_neg hf] at hp ⊢;exact ih h.2 hp
def qL {A:Frm->Prop} {P:Program} {f:FuncId} {fl:Bool} {spec:List AV->Prop × AV} (hf:∀ az,AV.plainL az->(spec az).1->(spec az).2.plain/\(fl=true->(spec az).2.flat)/\FnV P f az (spec az).2):qc A P f (zD fl spec) :=
 fun S bs h hS ops o g args tys caps hw ho hg hb=>VA (B:=noB) (fun _ _ _ _ _ _ _ _=>trivial) hf h hS hw ho hg hb
def xX {T:World->Prop} {P:Program} {f:FuncId} {fl:Bool} {spec:List AV->Prop × AV} (hf:∀ az,AV.plainL az->(spec az).1->(spec az).2.plain/\(fl=true->(spec az).2.flat)/\Fn (jh T) P f az noH (spec az).2 noH 0):qc (zQ T) P f (zD fl spec) :=
 fun S bs h hS ops o g args tys caps hw ho hg hb=>VA (B:=jh T) (fun _ _ _ _ _ _ _ h=>WB h) hf h hS hw ho hg hb
end Go.Sym
namespace Go.Sym
open Go
variable {A : Frm -> Prop} {P : Program}
def JU (P:Program) (y:Value) (vs:Array Value) (w:World) (R:Ending->World->Prop):Prop :=
 ∃ l fr tmps asg body,y=.func (.yield l) #[] #[]/\(Instr.yield l vs).run P w=.ok (.round l fr tmps asg body) w/\RoundIn (W none) 0 P l fr tmps asg body w R
def JU.mono {y:Value} {vs:Array Value} {w:World} {R R':Ending->World->Prop} (h:JU P y vs w R) (hr:∀ e w',R e w'->R' e w'):JU P y vs w R':=by
 obtain ⟨l,fr,tmps,asg,body,e1,e2,e3⟩:=h;exact ⟨l,fr,tmps,asg,body,e1,e2,RoundIn.mono e3 hr⟩
end Go.Sym
