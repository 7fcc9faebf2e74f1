/- Walks and what they compute, joined: part 2. -/
import Derived.ControlIn
import Derived.CallsIn
import Derived.OrdersIn
import Derived.RangeFuncRecord
import Derived.Maps.AppendAt
import Derived.OwnWalk
import Derived.Below
import Derived.Laws.StructEq
import Derived.Laws.Cells
import Derived.Laws.CopyRow
import Derived.Laws.Slices
import Derived.Laws.MakeOwn
import Derived.RangeFuncLeaves
import Derived.Maps.Keyed
import Derived.Laws.Strings
import Derived.Scope
import Derived.Test.YtoapndlmbpphfaaGreatDoorAS1
set_option linter.all false
namespace Go.Sym
open Go
variable {A : Frm → Prop} {P : Program}
section part
variable {ops : Array Oper} {o : Oper} {S : St}
theorem QgN (hS:Wf S) (hw:Want ops o S) {t t' e:TypeId} {x y:Operand} (ho:o.op=.call { callee:=.builtin .copy,args:=#[x,y],argTypes:=#[t,t'] }) {i j:TI} (ht:TyFact P t i) (htd:i.td=.slice e) (hj:TyFact P e j) (hk:0 < j.cells) {id lo n:Nat} {e':TypeId} {xs ys:List (List DV)} {hr:List Nat}
    (hx:(ev S x=.row id∧lo=0∧n=xs.length)∨ev S x=.rsl id j.cells lo n) (hc:S.h id=some (.row e' j.cells xs)) (hfit:lo+n≤xs.length) (hn:0 < n) (hyl:∀ r ∈ ys,r.length=j.cells) (hyn:0 < ys.length)
    (hsrc:∀ F S2 a w ρ own,Holds F S2 a w ρ own→(∀ id ∈ hr,S2.h id=S.h id)→∀ v,ARel w (okB w own ρ S2.h) ρ F.y (ev S y) v→∃ flat,Src w (okB w own ρ S2.h) j.cells ys v flat) :
    VE A P ops o { av:=.v (.int .i64 (min ys.length n:Nat)),hw:=[(id,some (.row e' j.cells (xs.take lo++ys.take (min ys.length n)++xs.drop (lo+min ys.length n))))],hr:=id :: hr,n:=S.n } S:=by
  obtain ⟨d,hd,hok⟩:=ht.under
  rw [htd] at hok
  simp only [TD.ok] at hok
  subst hok
  refine VE.setVal rfl hS hw (by simp [ho]) hc (by simp) (by simp [AObj.ids]) fun F S2 a w ρ own hag H hob=>?_
  have hxr:=qD H x
  rw [hag.ev (x:=x) (by simp [ho,Op.operands,Call.operands])] at hxr
  have hyr:=qD H y
  rw [hag.ev (x:=y) (by simp [ho,Op.operands,Call.operands])] at hyr
  obtain ⟨flat,⟨ay,cy,hyv,hsl,hsm,hcell⟩,hfl,hone,hrel⟩:=hsrc F S2 a w ρ own H (fun id hid=>hag.2.1 id (by simp [hid])) _ hyr
  obtain ⟨ad,rfl,hcells⟩:=hcell hyn
  have h5:=H.obj id _ hob
  have hxv:∃ dc,(∃ n0 c,ρ id=.slice (some ⟨(blk (ρ id)).getD 0,0,none⟩) n0 c)∧a.eval x=.slice (some ⟨(blk (ρ id)).getD 0,lo * j.cells,none⟩) n dc:=by
    generalize a.eval x=v at hxr
    rcases hx with ⟨hx,rfl,rfl⟩|hx
    · rw [hx] at hxr
      cases hxr with
      |row e1 e2 =>
        rw [e1] at h5 ⊢
        cases h5 with
        |row r1 r2 r3 r4 =>
          obtain ⟨_,g,cap,cur,rfl,hg,hnc,hcm,_,_,hb⟩:=jH r3 (by omega)
          rw [hb];exact ⟨cap,⟨_,_,rfl⟩,by simp⟩
    · rw [hx] at hxr
      cases hxr with
      |@rsl _ _ _ _ b c n0 e1 hlc =>
        rw [e1]
        have:blk (.slice (some ⟨b,0,none⟩) n0 c)=some b:=by simp only [blk];rw [if_neg (by omega)]
        rw [this];exact ⟨c - lo,⟨_,_,rfl⟩,rfl⟩
  obtain ⟨dc,⟨n0,c,hρ⟩,hxv⟩:=hxv
  generalize hbb:(blk (ρ id)).getD 0=b at hρ hxv
  cases h5':ρ id with
  |slice aa nn0 cc =>
    rw [h5'] at hρ
    simp only [Value.slice.injEq] at hρ
    obtain ⟨rfl,rfl,rfl⟩:=hρ
    rw [h5'] at h5
    cases h5 with
    |row r1 r2 r3 r4 =>
      obtain ⟨hown,g,cap,cur,hge,hg,hnc,hcm,hcs,htk,hblk⟩:=jH r3 (by omega)
      simp only [Value.slice.injEq,Option.some.injEq,Addr.mk.injEq,and_true] at hge
      obtain ⟨rfl,rfl,rfl⟩:=hge
      generalize hm:min ys.length n=m
      have hmn:m≤n:=by omega
      have hmy:m≤ys.length:=by omega
      have hkm:m * j.cells≤ys.length * j.cells:=Nat.mul_le_mul_right _ hmy
      have hkn:lo * j.cells+m * j.cells≤xs.length * j.cells:=by rw [← Nat.add_mul];exact Nat.mul_le_mul_right _ (by omega)
      have hkc:xs.length * j.cells≤cc * j.cells:=Nat.mul_le_mul_right _ hnc
      have hcl:(flat.take (m * j.cells)).length=m * j.cells:=by rw [List.length_take,hfl];omega
      have hfit':lo * j.cells+(flat.take (m * j.cells)).length≤cur.toList.length:=by rw [hcl,Array.length_toList,hcs];omega
      have hsc:∀ q v,(flat.take (m * j.cells))[q]?=some v→w.cell? (ad.add q)=some v:=fun q v hq=>by
        rw [List.getElem?_take] at hq
        split at hq
        · exact hcells q v hq
        · cases hq
      have hrun:=YR (P:=P) (t':=t') (ty:=o.type) (fun w=>hj.run_sizeOf w) hd (q:=lo * j.cells) (dLen:=n) (dCap:=dc) hg (a:=ad) (sLen:=ys.length) (sCap:=cy) (cs:=flat.take (m * j.cells)) (by rw [hcl];congr 1;exact hm.symm)
        hsc (by simpa using hfit') fun v hv=>hone v (List.mem_of_mem_take hv)
      refine ⟨w.setRow b (cur.toList.take (lo * j.cells)++flat.take (m * j.cells)++cur.toList.drop (lo * j.cells+(flat.take (m * j.cells)).length)).toArray, ?_,Ext.setRow w b _ hblk, ?_⟩
      · unfold execOp
        simp only [ho,resolve,invoke,builtin,Sem.run_bind,Sem.run_pure,Result.andThen_ok,List.map_toArray,List.map_cons,List.map_nil,hxv,hyv,hrun]
        rw [show Nat.min ys.length n=m from hm];rfl
      · try rw [h5']
        have hyt:(ys.take m).length=m:=by simp;omega
        have hfx:lo+(ys.take m).length≤xs.length:=by omega
        have e1:xs.take lo++ys.take m++xs.drop (lo+m)=xs.take lo++ys.take m++xs.drop (lo+(ys.take m).length):=by rw [hyt]
        rw [e1]
        have hlen':=ze (new:=ys.take m) hfx
        have hcl2:cur.toList.length=cc * j.cells:=by rw [Array.length_toList (xs:=cur),hcs]
        have hmono:∀ {d u},DRel w (okB w own ρ S2.h) d u→DRel (w.setRow b (cur.toList.take (lo * j.cells)++flat.take (m * j.cells)++cur.toList.drop (lo * j.cells+(flat.take (m * j.cells)).length)).toArray) (okB w own ρ S2.h) d u:=fun hr =>
          hr.mono fun q hq=>⟨hq,setRow_other w b q _ (fun eq=>hq.2.2 id _ hob (by rw [h5',hblk,eq]))⟩
        refine .row (flat:=(cur.toList.take (lo * j.cells)++flat.take (m * j.cells)++cur.toList.drop (lo * j.cells+(flat.take (m * j.cells)).length)).take (xs.length * j.cells)) hk (fun r hr=>?_) (.inl ⟨?_,.inr ⟨b,cc,_,by rw [hlen'],Nat.zero_le _,setRow_heap w b cur _ _ _ hg,by rw [hlen'];exact hnc,hcm, ?_, ?_⟩⟩) fun q r p dd hq hp=>?_
        · simp only [List.mem_append] at hr
          rcases hr with (hr|hr)|hr
          · exact r2 r (List.mem_of_mem_take hr)
          · exact hyl r (List.mem_of_mem_take hr)
          · exact r2 r (List.mem_of_mem_drop hr)
        · rw [hlen',List.length_take,ze hfit',hcl2];omega
        · rw [List.size_toArray,ze hfit',hcl2]
        · rw [hlen']
        · have hpk:p < j.cells:=by
            have:=(List.getElem?_eq_some_iff.1 hp).1
            rw [wE hfx] at hq
            split at hq
            · rw [r2 r (List.mem_of_getElem? hq)] at this;exact this
            · split at hq
              · rw [hyl r (List.mem_of_mem_take (List.mem_of_getElem? hq))] at this;exact this
              · rw [r2 r (List.mem_of_getElem? hq)] at this;exact this
          have hql:q < xs.length:=by have:=(List.getElem?_eq_some_iff.1 hq).1;rwa [hlen'] at this
          have hqk:(q+1) * j.cells≤xs.length * j.cells:=Nat.mul_le_mul_right _ hql
          rw [Nat.add_mul] at hqk
          have old:xs[q]?=some r→∃ u,cur.toList[q * j.cells+p]?=some u∧DRel w (okB w own ρ S2.h) dd u:=fun hq=>by
            obtain ⟨u,hu,hdu⟩:=r4 q r p dd hq hp
            rw [← htk,List.getElem?_take,if_pos (by omega)] at hu
            exact ⟨u,hu,hdu⟩
          rw [wE hfx,hyt] at hq
          rw [List.getElem?_take,if_pos (by omega),wE hfit']
          by_cases h1:q < lo
          · rw [if_pos h1] at hq
            have:(q+1) * j.cells≤lo * j.cells:=Nat.mul_le_mul_right _ h1
            rw [Nat.add_mul] at this
            rw [if_pos (by omega)]
            obtain ⟨u,hu,hdu⟩:=old hq
            exact ⟨u,hu,hmono hdu⟩
          · rw [if_neg h1] at hq
            have g1:lo * j.cells≤q * j.cells:=Nat.mul_le_mul_right _ (by omega)
            rw [if_neg (by omega)]
            by_cases h2:q < lo+m
            · rw [if_pos h2] at hq
              have:(q+1) * j.cells≤(lo+m) * j.cells:=Nat.mul_le_mul_right _ h2
              rw [Nat.add_mul,Nat.add_mul] at this
              rw [if_pos (by omega)]
              rw [List.getElem?_take] at hq
              split at hq
              · obtain ⟨u,hu,hdu⟩:=hrel _ _ _ _ hq hp
                have e2:q * j.cells+p - lo * j.cells=(q - lo) * j.cells+p:=by
                  have:q * j.cells=(q - lo) * j.cells+lo * j.cells:=by rw [← Nat.add_mul];congr 1;omega
                  omega
                have e3:(q - lo+1) * j.cells≤m * j.cells:=Nat.mul_le_mul_right _ (by omega)
                rw [Nat.add_mul] at e3
                exact ⟨u,by rw [e2,List.getElem?_take,if_pos (by omega)];exact hu,hmono hdu⟩
              · cases hq
            · rw [if_neg h2] at hq
              have:(lo+m) * j.cells≤q * j.cells:=Nat.mul_le_mul_right _ (by omega)
              rw [Nat.add_mul] at this
              rw [if_neg (by omega)]
              obtain ⟨u,hu,hdu⟩:=old hq
              exact ⟨u,hu,hmono hdu⟩
  |_=>rw [h5'] at hρ;cases hρ
end part
end Go.Sym
namespace Go.Sym
open Go
variable {A : Frm → Prop} {P : Program}
mutual
def AV.ren (τ:Nat→Nat):AV→AV
  |.v x=>.v x
  |.nil=>.nil
  |.emp=>.emp
  |.sl xs=>.sl xs
  |.agg cs=>.agg (AV.renL τ cs)
  |.tup cs=>.tup (AV.renL τ cs)
  |.ep cs o=>.ep cs o
  |.ptr i o=>.ptr (τ i) o
  |.row i=>.row (τ i)
  |.rp i k m o=>.rp (τ i) k m o
  |.csl i n=>.csl (τ i) n
  |.psl i o n c=>.psl (τ i) o n c
  |.rsl i k l n=>.rsl (τ i) k l n
  |.mp i=>.mp (τ i)
  |.clo f cs=>.clo f (AV.renL τ cs)
  |.cb=>.cb
  |.junk=>.junk
  |.any=>.any
  |.bnd f cs=>.bnd f (AV.renL τ cs)
def AV.renL (τ:Nat→Nat):List AV→List AV
  |[]=>[]
  |c :: cs=>c.ren τ :: AV.renL τ cs
end
theorem AV.renL_map (τ:Nat→Nat):∀ cs,AV.renL τ cs=cs.map (AV.ren τ)
  |[]=>rfl
  |c :: cs=>by simp [AV.renL,AV.renL_map τ cs]
def AObj.ren (τ:Nat→Nat):AObj→AObj
  |.cells cs=>.cells (AV.renL τ cs)
  |.row e k xs=>.row e k xs
  |.map es=>.map es
  |.mark=>.mark
  |.rows e cs=>.rows e (AV.renL τ cs)
  |.it m c s=>.it (τ m) c s
  |.fm es=>.fm (es.map fun p=>(p.1,p.2.ren τ))
mutual
def AV.flat:AV→Prop
  |.v _=>True
  |.nil=>True
  |.emp=>True
  |.sl xs=>xs=[]
  |.agg cs=>AV.flatL cs
  |.tup cs=>AV.flatL cs
  |.ep _ _=>False
  |.ptr _ _=>True
  |.row _=>True
  |.rp _ _ _ _=>True
  |.csl _ _=>True
  |.psl _ _ _ _=>True
  |.rsl _ _ _ _=>True
  |.mp _=>True
  |.clo _ cs=>AV.flatL cs
  |.cb=>True
  |.junk=>True
  |.any=>True
  |.bnd _ cs=>AV.flatL cs
def AV.flatL:List AV→Prop
  |[]=>True
  |c :: cs=>c.flat∧AV.flatL cs
end
theorem AV.flatL_mem:∀ {cs:List AV},AV.flatL cs→∀ c ∈ cs,c.flat
  |[],_,c,hc=>by simp at hc
  |d :: cs,h,c,hc=>by
    simp only [AV.flatL] at h
    rcases List.mem_cons.1 hc with rfl|hc
    · exact h.1
    · exact AV.flatL_mem h.2 c hc
def AObj.flat:AObj→Prop
  |.cells cs=>AV.flatL cs
  |.row _ _ xs=>∀ r ∈ xs,∀ d ∈ r,∃ x,d=.v x
  |.map _=>True
  |.mark=>True
  |.rows _ cs=>AV.flatL cs
  |.it _ _ _=>True
  |.fm es=>AV.flatL (es.map (·.2))
theorem ARel.flat {w w':World} {ok ok':Nat→Prop} {ρ:Nat→Value} {y:Value} {c:AV} {x:Value} (hr:ARel w ok ρ y c x):c.flat→ARel w' ok' ρ y c x:=by
  induction hr with
  |v hx=>exact fun _=>.v hx
  |nil=>exact fun _=>.nil
  |emp=>exact fun _=>.emp
  |sl hd =>
    intro h
    simp only [AV.flat] at h
    subst h
    cases hd with
    |sl0 hc=>exact .sl (.sl0 hc)
    |sl f h1 h2=>simp at h1;omega
  |agg hs _ ih=>exact fun h=>.agg hs fun i c hc=>ih i c hc (AV.flatL_mem h c (List.mem_of_getElem? hc))
  |tup hs _ ih=>exact fun h=>.tup hs fun i c hc=>ih i c hc (AV.flatL_mem h c (List.mem_of_getElem? hc))
  |ep f h1 h2 h3 h4=>exact fun h=>h.elim
  |ptr e=>exact fun _=>.ptr e
  |row e e'=>exact fun _=>.row e e'
  |rp e=>exact fun _=>.rp e
  |csl e h1=>exact fun _=>.csl e h1
  |psl e h1 h2=>exact fun _=>.psl e h1 h2
  |rsl e h1=>exact fun _=>.rsl e h1
  |mp e e'=>exact fun _=>.mp e e'
  |clo hs _ ih=>exact fun h=>.clo hs fun i c hc=>ih i c hc (AV.flatL_mem h c (List.mem_of_getElem? hc))
  |cb e e'=>exact fun _=>.cb e e'
  |junk=>exact fun _=>.junk
  |any e=>exact fun _=>.any e
  |bnd hs _ ih=>exact fun h=>.bnd hs fun i c hc=>ih i c hc (AV.flatL_mem h c (List.mem_of_getElem? hc))
theorem ARel.ren {w:World} {ok:Nat→Prop} {ρ ρ':Nat→Value} {y:Value} {τ:Nat→Nat} {c:AV} {x:Value} (hr:ARel w ok ρ y c x):(∀ id ∈ c.ids,ρ' (τ id)=ρ id)→ARel w ok ρ' y (c.ren τ) x:=by
  have sub:∀ {cs:List AV} {i:Nat} {d:AV},(AV.renL τ cs)[i]?=some d→∃ c,cs[i]?=some c∧d=c.ren τ:=by
    intro cs i d h
    rw [AV.renL_map,List.getElem?_map] at h
    obtain ⟨c,hc,rfl⟩:=Option.map_eq_some_iff.1 h
    exact ⟨c,hc,rfl⟩
  have len:∀ cs:List AV,(AV.renL τ cs).length=cs.length:=fun cs=>by rw [AV.renL_map,List.length_map]
  induction hr with
  |v hx=>exact fun _=>.v hx
  |nil=>exact fun _=>.nil
  |emp=>exact fun _=>.emp
  |sl hd=>exact fun _=>.sl hd
  |agg hs _ ih =>
    refine fun hi=>.agg (by rw [hs,len]) fun i d hd=>?_
    obtain ⟨c,hc,rfl⟩:=sub hd
    exact ih i c hc fun id hid=>hi id (by simp only [AV.ids];exact AV.mem_idsL.2 ⟨c,List.mem_of_getElem? hc,hid⟩)
  |tup hs _ ih =>
    refine fun hi=>.tup (by rw [hs,len]) fun i d hd=>?_
    obtain ⟨c,hc,rfl⟩:=sub hd
    exact ih i c hc fun id hid=>hi id (by simp only [AV.ids];exact AV.mem_idsL.2 ⟨c,List.mem_of_getElem? hc,hid⟩)
  |ep f h1 h2 h3 h4=>exact fun _=>.ep f h1 h2 h3 h4
  |ptr e=>exact fun hi=>.ptr (by rw [hi _ (by simp [AV.ids])];exact e)
  |row e e'=>exact fun hi=>.row (by rw [hi _ (by simp [AV.ids])];exact e) e'
  |rp e=>exact fun hi=>.rp (by rw [hi _ (by simp [AV.ids])];exact e)
  |csl e h1=>exact fun hi=>.csl (by rw [hi _ (by simp [AV.ids])];exact e) h1
  |psl e h1 h2=>exact fun hi=>.psl (by rw [hi _ (by simp [AV.ids])];exact e) h1 h2
  |rsl e h1=>exact fun hi=>.rsl (by rw [hi _ (by simp [AV.ids])];exact e) h1
  |mp e e'=>exact fun hi=>.mp (by rw [hi _ (by simp [AV.ids])];exact e) e'
  |clo hs _ ih =>
    refine fun hi=>.clo (by rw [hs,len]) fun i d hd=>?_
    obtain ⟨c,hc,rfl⟩:=sub hd
    exact ih i c hc fun id hid=>hi id (by simp only [AV.ids];exact AV.mem_idsL.2 ⟨c,List.mem_of_getElem? hc,hid⟩)
  |cb e e'=>exact fun _=>.cb e e'
  |junk=>exact fun _=>.junk
  |any e=>exact fun _=>.any e
  |bnd hs _ ih =>
    refine fun hi=>.bnd (by rw [hs,len]) fun i d hd=>?_
    obtain ⟨c,hc,rfl⟩:=sub hd
    exact ih i c hc fun id hid=>hi id (by simp only [AV.ids];exact AV.mem_idsL.2 ⟨c,List.mem_of_getElem? hc,hid⟩)
mutual
theorem AV.ren_ids (τ:Nat→Nat):∀ c:AV,(c.ren τ).ids=c.ids.map τ
  |.v _=>rfl
  |.nil=>rfl
  |.emp=>rfl
  |.sl _=>rfl
  |.agg cs=>by simp only [AV.ren,AV.ids];exact AV.renL_ids τ cs
  |.tup cs=>by simp only [AV.ren,AV.ids];exact AV.renL_ids τ cs
  |.ep _ _=>rfl
  |.ptr _ _=>rfl
  |.row _=>rfl
  |.rp _ _ _ _=>rfl
  |.csl _ _=>rfl
  |.psl _ _ _ _=>rfl
  |.rsl _ _ _ _=>rfl
  |.mp _=>rfl
  |.clo _ cs=>by simp only [AV.ren,AV.ids];exact AV.renL_ids τ cs
  |.cb=>rfl
  |.junk=>rfl
  |.any=>rfl
  |.bnd _ cs=>by simp only [AV.ren,AV.ids];exact AV.renL_ids τ cs
theorem AV.renL_ids (τ:Nat→Nat):∀ cs:List AV,AV.idsL (AV.renL τ cs)=(AV.idsL cs).map τ
  |[]=>rfl
  |c :: cs=>by simp only [AV.renL,AV.idsL,List.map_append,AV.ren_ids τ c,AV.renL_ids τ cs]
end
theorem AObj.ren_ids (τ:Nat→Nat) (o:AObj):(o.ren τ).ids=o.ids.map τ:=by
  cases o <;> simp [AObj.ren,AObj.ids,AV.renL_ids]
  rename_i es
  rw [← AV.renL_ids,AV.renL_map,List.map_map]
  rfl
theorem AObj.ren_rel {w:World} {ok ok':Nat→Prop} {ρ ρ':Nat→Value} {y:Value} {τ:Nat→Nat} {o:AObj} {x:Value} (hr:ORel w ok ρ y o x) (hok:o.flat∨∀ b,ok b→ok' b) (hi:∀ id ∈ o.ids,ρ' (τ id)=ρ id):ORel w ok' ρ' y (o.ren τ) x:=by
  cases hr with
  |@cells cs b t vs h1 h2 h3 =>
    refine .cells h1 (by rw [h2,AV.renL_map,List.length_map]) fun i d hd=>?_
    rw [AV.renL_map,List.getElem?_map] at hd
    obtain ⟨c,hc,rfl⟩:=Option.map_eq_some_iff.1 hd
    have hm:=List.mem_of_getElem? hc
    have h4:ARel w ok' ρ y c (vs.getD i undef):=by
      rcases hok with hf|hok
      · exact (h3 i c hc).1.flat (AV.flatL_mem hf c hm)
      · exact (h3 i c hc).1.mono (fun b hb=>⟨hok b hb,rfl⟩) fun _ _=>rfl
    exact ⟨h4.ren fun id hid=>hi id (by simp only [AObj.ids];exact AV.mem_idsL.2 ⟨c,hm,hid⟩),(h3 i c hc).2⟩
  |row h1 h2 h3 h4 =>
    refine .row h1 h2 h3 fun i r j d hir hj=>?_
    obtain ⟨u,hu,hd⟩:=h4 i r j d hir hj
    refine ⟨u,hu, ?_⟩
    rcases hok with hf|hok
    · obtain ⟨x,rfl⟩:=hf r (List.mem_of_getElem? hir) d (List.mem_of_getElem? hj)
      cases hd with|v h=>exact .v h
    · exact hd.mono fun b hb=>⟨hok b hb,rfl⟩
  |map h1 h2 h3 h4 h5=>exact .map h1 h2 h3 h4 h5
  |mark h1=>exact .mark h1
  |it h1 h2 h3=>exact .it h1 h2 ((hi _ (by simp [AObj.ids])).trans h3)
  |@fm es _ _ _ h1 h2 h3 h4 h5 =>
    refine .fm h1 (by simpa using h2) (fun i e q he hq=>?_) h4 h5
    rw [List.getElem?_map] at hq
    obtain ⟨p,hp,rfl⟩:=Option.map_eq_some_iff.1 hq
    obtain ⟨g1,g2,g3⟩:=h3 i e p he hp
    have hm:p.2 ∈ es.map (·.2):=List.mem_map.2 ⟨p,List.mem_of_getElem? hp,rfl⟩
    have h5:ARel w ok' ρ y p.2 e.val:=by
      rcases hok with hf|hok
      · exact g3.flat (AV.flatL_mem hf p.2 hm)
      · exact g3.mono (fun b hb=>⟨hok b hb,rfl⟩) fun _ _=>rfl
    exact ⟨g1,g2,h5.ren fun id hid=>hi id (by simp only [AObj.ids];exact AV.mem_idsL.2 ⟨p.2,hm,hid⟩)⟩
  |rows h3 h4 =>
    refine .rows (by rw [AV.renL_map,List.length_map];exact h3) fun i d hd=>?_
    rw [AV.renL_map,List.getElem?_map] at hd
    obtain ⟨c,hc,rfl⟩:=Option.map_eq_some_iff.1 hd
    have hm:=List.mem_of_getElem? hc
    obtain ⟨u,hu,hr,h1⟩:=h4 i c hc
    have h5:ARel w ok' ρ y c u:=by
      rcases hok with hf|hok
      · exact hr.flat (AV.flatL_mem hf c hm)
      · exact hr.mono (fun b hb=>⟨hok b hb,rfl⟩) fun _ _=>rfl
    exact ⟨u,hu,h5.ren fun id hid=>hi id (by simp only [AObj.ids];exact AV.mem_idsL.2 ⟨c,hm,hid⟩),h1⟩
theorem AObj.le_rel {w:World} {ok ok':Nat→Prop} {ρ ρ':Nat→Value} {y:Value} {h:Nat→Option AObj} {σ:Nat→Option Nat} (hobj:∀ i o,h i=some o→ORel w ok ρ y o (ρ i))
    (hok:∀ b,ok b→ok' b) (hrow:∀ i o b,h i=some o→blk (ρ i)=some b→ok' b) (hσ:∀ j i,σ j=some i→ρ' j=ρ i) (hσ0:∀ j,σ j=none→ρ' j=.slice none 0 0) {o o':AObj} {x:Value} (hr:ORel w ok ρ y o x)
    (hle:AObj.le h σ o o'):ORel w ok' ρ' y o' x:=by
  have hAV:∀ {c:AV} {x:Value},ARel w ok ρ y c x→∀ d,AV.le h σ c d→ARel w ok' ρ' y d x:=fun hr d hd=>AV.le_rel hobj hok hrow hσ hσ0 hr d hd
  cases hr with
  |@cells cs b t vs h1 h2 h3 =>
    cases o' <;> simp only [AObj.le] at hle <;> first|exact hle.elim|skip
    refine .cells h1 (h2.trans (AV.leL_length hle)) fun i d hd=>?_
    obtain ⟨c,hc,hcd⟩:=AV.leL_get hle i d hd
    exact ⟨hAV (h3 i c hc).1 d hcd,(h3 i c hc).2⟩
  |row h1 h2 h3 h4 =>
    cases o' <;> simp only [AObj.le] at hle <;> first|exact hle.elim|skip
    obtain ⟨rfl,rfl,rfl⟩:=hle
    exact .row h1 h2 h3 fun i r j d hi hj=>let ⟨u,hu,hd⟩:=h4 i r j d hi hj;⟨u,hu,hd.mono fun b hb=>⟨hok b hb,rfl⟩⟩
  |map h1 h2 h3 h4 h5 =>
    cases o' <;> simp only [AObj.le] at hle <;> first|exact hle.elim|skip
    subst hle
    exact .map h1 h2 h3 h4 h5
  |mark h1 =>
    cases o' <;> simp only [AObj.le] at hle <;> first|exact hle.elim|skip
    exact .mark h1
  |it h1 h2 h3 =>
    cases o' <;> simp only [AObj.le] at hle <;> first|exact hle.elim|skip
    obtain ⟨e1,rfl,rfl⟩:=hle
    exact .it h1 h2 ((hσ _ _ e1).trans h3)
  |fm h1 h2 h3 h4 h5 =>
    cases o' <;> simp only [AObj.le] at hle <;> first|exact hle.elim|skip
    exact QbC hAV h1 h2 h3 h4 h5 hle
  |rows h3 h4 =>
    cases o' <;> simp only [AObj.le] at hle <;> first|exact hle.elim|skip
    · obtain ⟨rfl,rfl,hle⟩:=hle
      exact WA hAV h3 h4 hle
    · obtain ⟨rfl,hle⟩:=hle
      refine .rows (by rw [← AV.leL_length hle];exact h3) fun i d hd=>?_
      obtain ⟨c,hc,hcd⟩:=AV.leL_get hle i d hd
      obtain ⟨u,hu,hr,h1⟩:=h4 i c hc
      exact ⟨u,hu,hAV hr d hcd,h1⟩
abbrev JJ:=Nat→Own→World→Prop
def JJ.Stable (J:JJ):Prop:=∀ j own w,J j own w→(∀ b,own.all b→b < w.heap.size)∧∀ w',Ext (fun b=>¬ own.all b) w w'→J j own w'
structure Hp (J:JJ) (y:Value) (h:Nat→Option AObj) (j:Nat) (own:Own) (w:World) (ρ:Nat→Value):Prop where
  jay:J j own w
  obj:∀ i o,h i=some o→ORel w (okB w own ρ h) ρ y o (ρ i)
  inj:∀ i k o o' b,h i=some o→h k=some o'→blk (ρ i)=some b→blk (ρ k)=some b→i=k
  off:∀ i o b,h i=some o→blk (ρ i)=some b→¬ own.all b
theorem Holds.hp {F:Frm} {S:St} {a:Act} {w:World} {ρ:Nat→Value} {own:Own} (H:Holds F S a w ρ own):Hp F.J F.y S.h S.j own w ρ:=⟨H.jay,H.obj,H.inj,fun i o b hi hb=>(H.blkOK i o b hi hb).1⟩
structure Ctx where
  y:Value
  J:JJ
  own:Own
  w:World
  ρ:Nat→Value
structure FnG (E:Value→Ending) (B:Ctx→Prop) (P:Program) (f:FuncId) (az:List AV) (h0:Nat→Option AObj) (v:AV) (h1:Nat→Option AObj) (dj:Nat):Prop where
  enter:∀ vs w,(callFunc f vs).run P w=.ok (.enter f vs) w
  calls:∀ (y:Value) (J:JJ),J.Stable→∀ (own:Own) (w:World) (ρ:Nat→Value) (vs:Array Value),B ⟨y,J,own,w,ρ⟩→Hp J y h0 0 own w ρ→vs.size=az.length →
    (∀ i c,az[i]?=some c→ARel w (okB w own ρ h0) ρ y c (vs.getD i undef)) →
    Calls P f vs w fun e w'=>∃ v' own' ρ',e=E v'∧Hp J y h1 dj own' w' ρ'∧ARel w' (okB w' own' ρ' h1) ρ' y v v'∧Ext (fun b=>own.prv b∨∃ i o,h0 i=some o∧blk (ρ i)=some b) w w' ∧
      (∀ b,own'.prv b→own.prv b∨w.heap.size≤b)∧(dj=0→own'=own)∧(∀ i o,h0 i=some o→ρ' i=ρ i)∧(∀ i o b,h1 i=some o→blk (ρ' i)=some b→w.heap.size≤b∨∃ k o',h0 k=some o'∧blk (ρ k)=some b)
abbrev Fn (B:Ctx→Prop) (P:Program) (f:FuncId) (az:List AV) (h0:Nat→Option AObj) (v:AV) (h1:Nat→Option AObj) (dj:Nat):Prop:=FnG .returned B P f az h0 v h1 dj
abbrev FnX (ch:List PanicEntry) (B:Ctx→Prop) (P:Program) (f:FuncId) (az:List AV) (h0 h1:Nat→Option AObj):Prop:=FnG (fun _=>.panicked ch) B P f az h0 .junk h1 0
def Jc (J:JJ) (j0:Nat) (Pr:Nat→Prop) (w0:World):JJ:=fun k own w=>∃ own':Own,J (j0+k) own' w∧(∀ b,own.all b ↔ own'.all b∨Pr b)∧(∀ b,own.prv b ↔ own'.prv b∨Pr b)∧∀ b,Pr b→¬ own'.all b∧b < w.heap.size∧w.heap[b]?=w0.heap[b]?
def Qu (own:Own) (Pr:Nat→Prop):Own:=⟨fun b=>own.all b∨Pr b,fun b=>own.prv b∨Pr b,fun b h=>h.imp (own.sub b) id⟩
theorem Jc.stable {J:JJ} (h:J.Stable) (j0:Nat) (Pr:Nat→Prop) (w0:World):(Jc J j0 Pr w0).Stable:=by
  rintro j own w ⟨own',hj,hiff,hiffp,hpr⟩
  refine ⟨fun b hb=>?_,fun w' hx=>⟨own',(h _ _ _ hj).2 w' (hx.weaken fun b _ hn ho=>hn ((hiff b).2 (.inl ho))),hiff,hiffp,fun b hb=>⟨(hpr b hb).1,Nat.lt_of_lt_of_le (hpr b hb).2.1 hx.size, ?_⟩⟩⟩
  · rcases (hiff b).1 hb with h1|h1
    · exact (h _ _ _ hj).1 b h1
    · exact (hpr b h1).2.1
  · rw [hx.block b (hpr b hb).2.1 fun hn=>hn ((hiff b).2 (.inr hb))];exact (hpr b hb).2.2
theorem vg {f:FuncId} {vs:Array Value} {w:World} {R R':Ending→World→Prop} (h:Calls P f vs w R) (hr:∀ e w',R e w'→R' e w'):Calls P f vs w R' :=
  callsIn_wide.1 (CallsIn.mono (n:=0) (callsIn_wide.2 h) hr)
theorem Xh {r:Option Nat} {f:FuncId} {vs:Array Value} {w:World} {R:Ending→World→Prop} (h:Calls P f vs w R):CallsIn (W r) 0 P f vs w R:=by
  have h1:CallsIn (W none) 0 P f vs w R:=callsIn_wide.2 h
  exact h1
theorem Y3 {r:Option Nat} {f:FuncId} {vs:Array Value} {w:World} {R:Ending→World→Prop} (h:CallsIn (W r) 0 P f vs w R):Calls P f vs w R :=
  callsIn_wide.1 (show CallsIn (W none) 0 P f vs w R from h)
def qj (hs:List Nat) (n:Nat) (j:Nat):Nat:=match hs[j]? with|some c=>c|none=>n+(j - hs.length)
def zl (S:St) (hs bo:List Nat) (dr:List Nat) (v:AV) (h1:Nat→Option AObj) (nn dj:Nat):Eff :=
  { av:=v.ren (qj hs S.n),hw:=(List.range (hs.length+nn)).map (fun j=>(qj hs S.n j,(h1 j).map (AObj.ren (qj hs S.n))))++zA dr,hr:=hs++bo,news:=(List.range nn).map (S.n+·),n:=S.n+nn,dj:=dj }
def xM (S:St) (hs bo:List Nat) (ρ:Nat→Value) (b:Nat):Prop:=∃ i ob,S.h i=some ob∧i ∉ hs∧i ∉ bo∧blk (ρ i)=some b
def zg (hs:List Nat) (ρ:Nat→Value) (j:Nat):Value:=match hs[j]? with|some i=>ρ i|none=>.slice none 0 0
def Q3 (F:Frm) (S:St) (hs bo:List Nat) (ρ:Nat→Value) (own:Own) (w:World):Ctx:=⟨F.y,Jc F.J S.j (xM S hs bo ρ) w,Qu own (xM S hs bo ρ),w,zg hs ρ⟩
theorem R4 {S:St} (hS:Wf S) {az bs:List AV} {hs bo dr:List Nat} {h0:Nat→Option AObj} {v:AV} {h1 hf:Nat→Option AObj} {dj nn:Nat}
    (hargs:AV.leL hf (fun j=>hs[j]?) bs az)
    (hobj:∀ i o0,h0 i=some o0→∃ c ob,hs[i]?=some c∧S.h c=some ob∧AObj.le hf (fun j=>hs[j]?) ob o0)
    (hdom:∀ j,j < hs.length→∃ o0,h0 j=some o0) (hnd:hs.Nodup)
    (hfr:∀ i ob,hf i=some ob→S.h i=some ob∧i ∉ hs∧i ∈ bo) (hbo:∀ i ∈ bo,(∃ ob,S.h i=some ob)∧i ∉ hs)
    (hdr:dr=bo∨(dr=[]∧v.flat∧∀ i ob,h1 i=some ob→ob.flat))
    (hv1:∀ id ∈ v.ids,id < hs.length+nn) (hh1:∀ i ob,h1 i=some ob→i < hs.length+nn∧∀ id ∈ ob.ids,id < hs.length+nn) :
    (∀ c ∈ hs,∃ ob,S.h c=some ob)∧(∀ c ∈ hs,c < S.n)∧(∀ id ∈ (zl S hs bo dr v h1 nn dj).ids,id < S.n+nn)∧∀ id ∈ (zl S hs bo dr v h1 nn dj).news,S.n≤id:=by
  have hall:∀ c ∈ hs,∃ ob,S.h c=some ob:=fun c hc=>by
    obtain ⟨j,hj⟩:=List.getElem?_of_mem hc
    obtain ⟨o0,ho0⟩:=hdom j (List.getElem?_eq_some_iff.1 hj).1
    obtain ⟨d,ob,e1,e2,_⟩:=hobj j o0 ho0
    rw [hj] at e1;cases e1
    exact ⟨ob,e2⟩
  have hslt:∀ c ∈ hs,c < S.n:=fun c hc=>Nat.lt_of_not_le fun hn=>by obtain ⟨ob,h⟩:=hall c hc;have:=(hS c hn).1;rw [h] at this;cases this
  have hbolt:∀ c ∈ bo,c < S.n:=fun c hc=>Nat.lt_of_not_le fun hn=>by obtain ⟨⟨ob,h⟩,_⟩:=hbo c hc;have:=(hS c hn).1;rw [h] at this;cases this
  have hdrbo:∀ c ∈ dr,c ∈ bo:=fun c hc=>by
    rcases hdr with h|h
    · rw [← h];exact hc
    · rw [h.1] at hc;cases hc
  have hτ:∀ j,j < hs.length+nn→qj hs S.n j < S.n+nn:=fun j hj=>by
    unfold qj
    cases hc:hs[j]? with
    |some c=>have:=hslt c (List.mem_of_getElem? hc);simp only;omega
    |none=>have:hs.length≤j:=List.getElem?_eq_none_iff.1 hc;simp only;omega
  have hwi:∀ {l:List (Nat × Option AObj)} {id:Nat},id ∈ wL l→∃ p ∈ l,id=p.1∨∃ ob,p.2=some ob∧id ∈ ob.ids:=by
    intro l
    induction l with
    |nil=>intro id h;simp [wL] at h
    |cons p l ih =>
      intro id h
      simp only [wL,List.mem_cons,List.mem_append] at h
      rcases h with rfl|h|h
      · exact ⟨p,List.mem_cons_self,.inl rfl⟩
      · cases hp:p.2 with
        |none=>rw [hp] at h;simp at h
        |some ob=>rw [hp] at h;exact ⟨p,List.mem_cons_self,.inr ⟨ob,hp,h⟩⟩
      · obtain ⟨q,hq,h'⟩:=ih h;exact ⟨q,List.mem_cons_of_mem _ hq,h'⟩
  have hI:∀ id ∈ (zl S hs bo dr v h1 nn dj).ids,id < S.n+nn:=by
    intro id hid
    simp only [Eff.ids,zl,List.flatMap_nil,List.append_nil,List.mem_append] at hid
    rcases hid with hid|hid
    · rw [AV.ren_ids] at hid
      obtain ⟨j,hj,rfl⟩:=List.mem_map.1 hid
      exact hτ j (hv1 j hj)
    · obtain ⟨p,hp,hid⟩:=hwi hid
      rcases List.mem_append.1 hp with hp|hp
      · obtain ⟨j,hj,rfl⟩:=List.mem_map.1 hp
        have hj:=List.mem_range.1 hj
        rcases hid with rfl|⟨ob,hob,hid⟩
        · exact hτ j hj
        · obtain ⟨o1,ho1,rfl⟩:=Option.map_eq_some_iff.1 hob
          rw [AObj.ren_ids] at hid
          obtain ⟨q,hq,rfl⟩:=List.mem_map.1 hid
          exact hτ q ((hh1 j o1 ho1).2 q hq)
      · obtain ⟨c,hc,rfl⟩:=List.mem_map.1 hp
        rcases hid with rfl|⟨ob,hob,_⟩
        · have:=hbolt _ (hdrbo _ hc);omega
        · cases hob
  refine ⟨hall,hslt,hI,fun id hid=>?_⟩
  simp only [zl,List.mem_map,List.mem_range] at hid;obtain ⟨k,_,rfl⟩:=hid;omega
theorem Xl {S:St} (hS:Wf S) {az bs:List AV} {hs bo dr:List Nat} {h0:Nat→Option AObj} {v:AV} {h1 hf:Nat→Option AObj} {dj nn:Nat}
    (hargs:AV.leL hf (fun j=>hs[j]?) bs az)
    (hobj:∀ i o0,h0 i=some o0→∃ c ob,hs[i]?=some c∧S.h c=some ob∧AObj.le hf (fun j=>hs[j]?) ob o0)
    (hdom:∀ j,j < hs.length→∃ o0,h0 j=some o0) (hnd:hs.Nodup)
    (hfr:∀ i ob,hf i=some ob→S.h i=some ob∧i ∉ hs∧i ∈ bo) (hbo:∀ i ∈ bo,(∃ ob,S.h i=some ob)∧i ∉ hs)
    (hdr:dr=bo∨(dr=[]∧v.flat∧∀ i ob,h1 i=some ob→ob.flat))
    (hv1:∀ id ∈ v.ids,id < hs.length+nn) (hh1:∀ i ob,h1 i=some ob→i < hs.length+nn∧∀ id ∈ ob.ids,id < hs.length+nn)
    {F:Frm} {S2:St} {a:Act} {w:World} {ρ:Nat→Value} {own:Own} (H:Holds F S2 a w ρ own) (hdj:dj ≠ 0→dr=bo) (hS2:∀ c,c ∈ hs∨c ∈ bo→S2.h c=S.h c) (hfr2:∀ id ∈ (zl S hs bo dr v h1 nn dj).news,Wq F S2 id)
    {vs:Array Value} (hsz:vs.size=bs.length) (hrel:∀ i c,bs[i]?=some c→ARel w (okB w own ρ S2.h) ρ F.y c (vs.getD i undef)) {dst:Option Nat} (hdst:∀ d,dst=some d→d < F.nt) :
    Hp (Jc F.J S2.j (xM S2 hs bo ρ) w) F.y h0 0 (Qu own (xM S2 hs bo ρ)) w (zg hs ρ)∧vs.size=az.length∧(∀ i c,az[i]?=some c→ARel w (okB w (Qu own (xM S2 hs bo ρ)) (zg hs ρ) h0) (zg hs ρ) F.y c (vs.getD i undef)) ∧
    ∀ v' w' ownc' ρc',Hp (Jc F.J S2.j (xM S2 hs bo ρ) w) F.y h1 dj ownc' w' ρc'→ARel w' (okB w' ownc' ρc' h1) ρc' F.y v v'→Ext (fun b=>(own.prv b∨xM S2 hs bo ρ b)∨∃ i o,h0 i=some o∧blk (zg hs ρ i)=some b) w w' →
      (∀ b,ownc'.prv b→(own.prv b∨xM S2 hs bo ρ b)∨w.heap.size≤b)→(dj=0→ownc'=Qu own (xM S2 hs bo ρ))→(∀ i o,h0 i=some o→ρc' i=zg hs ρ i)→(∀ i o b,h1 i=some o→blk (ρc' i)=some b→w.heap.size≤b∨∃ k o',h0 k=some o'∧blk (zg hs ρ k)=some b) →
      ∃ ρ' own',Holds F (S2.app dst (zl S hs bo dr v h1 nn dj)) { (a.put dst v') with defers:=[]++a.defers } w' ρ' own':=by
  have hall:∀ c ∈ hs,∃ ob,S.h c=some ob:=fun c hc=>by
    obtain ⟨j,hj⟩:=List.getElem?_of_mem hc
    obtain ⟨o0,ho0⟩:=hdom j (List.getElem?_eq_some_iff.1 hj).1
    obtain ⟨d,ob,e1,e2,_⟩:=hobj j o0 ho0
    rw [hj] at e1;cases e1
    exact ⟨ob,e2⟩
  have hslt:∀ c ∈ hs,c < S.n:=fun c hc=>Nat.lt_of_not_le fun hn=>by obtain ⟨ob,h⟩:=hall c hc;have:=(hS c hn).1;rw [h] at this;cases this
  have hbolt:∀ c ∈ bo,c < S.n:=fun c hc=>Nat.lt_of_not_le fun hn=>by obtain ⟨⟨ob,h⟩,_⟩:=hbo c hc;have:=(hS c hn).1;rw [h] at this;cases this
  have hdrbo:∀ c ∈ dr,c ∈ bo:=fun c hc=>by
    rcases hdr with h|h
    · rw [← h];exact hc
    · rw [h.1] at hc;cases hc
  have hτ:∀ j,j < hs.length+nn→qj hs S.n j < S.n+nn:=fun j hj=>by
    unfold qj
    cases hc:hs[j]? with
    |some c=>have:=hslt c (List.mem_of_getElem? hc);simp only;omega
    |none=>have:hs.length≤j:=List.getElem?_eq_none_iff.1 hc;simp only;omega
  have hwi:∀ {l:List (Nat × Option AObj)} {id:Nat},id ∈ wL l→∃ p ∈ l,id=p.1∨∃ ob,p.2=some ob∧id ∈ ob.ids:=by
    intro l
    induction l with
    |nil=>intro id h;simp [wL] at h
    |cons p l ih =>
      intro id h
      simp only [wL,List.mem_cons,List.mem_append] at h
      rcases h with rfl|h|h
      · exact ⟨p,List.mem_cons_self,.inl rfl⟩
      · cases hp:p.2 with
        |none=>rw [hp] at h;simp at h
        |some ob=>rw [hp] at h;exact ⟨p,List.mem_cons_self,.inr ⟨ob,hp,h⟩⟩
      · obtain ⟨q,hq,h'⟩:=ih h;exact ⟨q,List.mem_cons_of_mem _ hq,h'⟩
  have hI:∀ id ∈ (zl S hs bo dr v h1 nn dj).ids,id < S.n+nn:=by
    intro id hid
    simp only [Eff.ids,zl,List.flatMap_nil,List.append_nil,List.mem_append] at hid
    rcases hid with hid|hid
    · rw [AV.ren_ids] at hid
      obtain ⟨j,hj,rfl⟩:=List.mem_map.1 hid
      exact hτ j (hv1 j hj)
    · obtain ⟨p,hp,hid⟩:=hwi hid
      rcases List.mem_append.1 hp with hp|hp
      · obtain ⟨j,hj,rfl⟩:=List.mem_map.1 hp
        have hj:=List.mem_range.1 hj
        rcases hid with rfl|⟨ob,hob,hid⟩
        · exact hτ j hj
        · obtain ⟨o1,ho1,rfl⟩:=Option.map_eq_some_iff.1 hob
          rw [AObj.ren_ids] at hid
          obtain ⟨q,hq,rfl⟩:=List.mem_map.1 hid
          exact hτ q ((hh1 j o1 ho1).2 q hq)
      · obtain ⟨c,hc,rfl⟩:=List.mem_map.1 hp
        rcases hid with rfl|⟨ob,hob,_⟩
        · have:=hbolt _ (hdrbo _ hc);omega
        · cases hob
  have hσ:∀ j i,hs[j]?=some i→(zg hs ρ) j=ρ i:=fun j i h=>by simp only [zg,h]
  have hσ0:∀ j,hs[j]?=none→(zg hs ρ) j=.slice none 0 0:=fun j h=>by simp only [zg,h]
  let Pr:Nat→Prop:=xM S2 hs bo ρ
  let ownc:Own:=Qu own Pr
  have hh0:∀ i o0,h0 i=some o0→∃ c ob,hs[i]?=some c∧S2.h c=some ob∧AObj.le hf (fun j=>hs[j]?) ob o0:=fun i o0 hi=>by
    obtain ⟨c,ob,e1,e2,e3⟩:=hobj i o0 hi
    exact ⟨c,ob,e1,(hS2 c (.inl (List.mem_of_getElem? e1))).trans e2,e3⟩
  have hok:∀ b,okB w own ρ S2.h b→okB w ownc (zg hs ρ) h0 b:=by
    rintro b ⟨g1,g2,g3⟩
    refine ⟨g1, ?_,fun i o0 hi hb=>?_⟩
    · rintro (h|⟨i,ob,hi,_,_,hb⟩)
      · exact g2 h
      · exact g3 i ob hi hb
    · obtain ⟨c,ob,e1,e2,_⟩:=hh0 i o0 hi
      rw [hσ i c e1] at hb
      exact g3 c ob e2 hb
  have hfS2:∀ i ob,hf i=some ob→S2.h i=some ob:=fun i ob hi=>(hS2 i (.inr (hfr i ob hi).2.2)).trans (hfr i ob hi).1
  have hrow:∀ i ox b,hf i=some ox→blk (ρ i)=some b→okB w ownc (zg hs ρ) h0 b:=by
    intro i ox b hi hb
    have hi2:=hfS2 i _ hi
    refine ⟨(H.obj i _ hi2).lt hb, ?_,fun j o0 hj hbj=>?_⟩
    · rintro (h|⟨q,ob,hq,hqh,hqb,hbq⟩)
      · exact (H.blkOK i _ b hi2 hb).1 (own.sub _ h)
      · have:=H.inj i q _ ob b hi2 hq hb hbq
        subst this
        exact hqb (hfr i _ hi).2.2
    · obtain ⟨c,ob,e1,e2,_⟩:=hh0 j o0 hj
      rw [hσ j c e1] at hbj
      have:=H.inj i c _ ob b hi2 e2 hb hbj
      subst this
      exact (hfr i _ hi).2.1 (List.mem_of_getElem? e1)
  have hobjf:∀ i ob,hf i=some ob→ORel w (okB w own ρ S2.h) ρ F.y ob (ρ i):=fun i ob hi=>H.obj i ob (hfS2 i ob hi)
  have hHp:Hp (Jc F.J S2.j Pr w) F.y h0 0 ownc w (zg hs ρ):=by
    refine ⟨⟨own,H.jay,fun b=>Iff.rfl,fun b=>Iff.rfl,fun b ⟨i,ob,hi,_,_,hb⟩=>⟨(H.blkOK i ob b hi hb).1,(H.obj i ob hi).lt hb,rfl⟩⟩,fun i o0 hi=>?_,fun i k o1 o2 b hi hk hbi hbk=>?_,fun i o0 b hi hb=>?_⟩
    · obtain ⟨c,ob,e1,e2,e3⟩:=hh0 i o0 hi
      rw [hσ i c e1]
      exact AObj.le_rel hobjf hok hrow hσ hσ0 (H.obj c ob e2) e3
    · obtain ⟨c,ob,e1,e2,_⟩:=hh0 i o1 hi
      obtain ⟨d,od,e1',e2',_⟩:=hh0 k o2 hk
      rw [hσ i c e1] at hbi
      rw [hσ k d e1'] at hbk
      have:=H.inj c d ob od b e2 e2' hbi hbk
      subst this
      have hi':=(List.getElem?_eq_some_iff.1 e1)
      have hk':=(List.getElem?_eq_some_iff.1 e1')
      obtain ⟨hi1,hi2⟩:=hi'
      obtain ⟨hk1,hk2⟩:=hk'
      exact (List.getElem_inj (h₀:=hi1) (h₁:=hk1) hnd).1 (hi2.trans hk2.symm)
    · obtain ⟨c,ob,e1,e2,_⟩:=hh0 i o0 hi
      rw [hσ i c e1] at hb
      rintro (h|⟨q,oq,hq,hqh,_,hbq⟩)
      · exact (H.blkOK c ob b e2 hb).1 h
      · have:=H.inj c q ob oq b e2 hq hb hbq
        subst this
        exact hqh (List.mem_of_getElem? e1)
  refine ⟨hHp,by rw [← AV.leL_length hargs];exact hsz,fun i c hc=>?_, ?_⟩
  · obtain ⟨b,hb,hle⟩:=AV.leL_get hargs i c hc
    exact AV.le_rel hobjf hok hrow hσ hσ0 (hrel i b hb) c hle
  · intro v' w' ownc' ρc' hHp' hv' hx hown' hstill hpin hblk
    obtain ⟨own',hj',hiff,hiffp,hpr⟩:=hHp'.jay
    refine ⟨fun i=>if S.n≤i∧i < S.n+nn then ρc' (hs.length+(i - S.n)) else ρ i,own', ?_⟩
    have hρτ:∀ j,j < hs.length+nn→(fun i=>if S.n≤i∧i < S.n+nn then ρc' (hs.length+(i - S.n)) else ρ i) (qj hs S.n j)=ρc' j:=fun j hj=>by
      unfold qj
      cases hc:hs[j]? with
      |some c =>
        have:=hslt c (List.mem_of_getElem? hc)
        simp only
        obtain ⟨o0,ho0⟩:=hdom j (List.getElem?_eq_some_iff.1 hc).1
        rw [if_neg (by omega),hpin j o0 ho0,show zg hs ρ j=ρ c from hσ j c hc]
      |none =>
        have:hs.length≤j:=List.getElem?_eq_none_iff.1 hc
        simp only
        rw [if_pos (by omega)]
        congr 1;omega
    have hkeyτ:∀ i ob,zP S2.h (zl S hs bo dr v h1 nn dj).hw i=some ob→i ∈ (zl S hs bo dr v h1 nn dj).keys→∃ j o1,j < hs.length+nn∧i=qj hs S.n j∧h1 j=some o1∧ob=o1.ren (qj hs S.n):=fun i ob hi hk=>by
      have:=ZT hk hi
      simp only [zl,List.mem_append,List.mem_map,List.mem_range] at this
      rcases this with ⟨j,hj,e⟩|h
      · simp only [Prod.mk.injEq] at e
        obtain ⟨o1,ho1,e2⟩:=Option.map_eq_some_iff.1 e.2
        exact ⟨j,o1,hj,e.1.symm,ho1,e2.symm⟩
      · simp [zA] at h
    have hkeys:∀ j,j < hs.length+nn→qj hs S.n j ∈ (zl S hs bo dr v h1 nn dj).keys:=fun j hj=>by
      simp only [Eff.keys,zl,List.map_append,List.map_map,List.mem_append,List.mem_map,List.mem_range]
      exact .inl ⟨j,hj,rfl⟩
    have hskey:∀ c ∈ hs,c ∈ (zl S hs bo dr v h1 nn dj).keys:=fun c hc=>by
      obtain ⟨j,hj⟩:=List.getElem?_of_mem hc
      have:=hkeys j (by have:=(List.getElem?_eq_some_iff.1 hj).1;omega)
      simpa [qj,hj] using this
    have hnewkey:∀ i,S.n≤i→i < S.n+nn→i ∈ (zl S hs bo dr v h1 nn dj).keys:=fun i h1 h2=>by
      have:=hkeys (hs.length+(i - S.n)) (by omega)
      have e:qj hs S.n (hs.length+(i - S.n))=i:=by
        unfold qj
        rw [List.getElem?_eq_none (by omega)]
        simp only;omega
      rwa [e] at this
    have hxx:Ext (fun b=>own.prv b∨∃ i ob,i ∈ (zl S hs bo dr v h1 nn dj).keys∧S2.h i=some ob∧blk (ρ i)=some b) w w':=by
      refine ⟨hx.os,hx.tape,hx.output,hx.size,fun k hk hn=>?_⟩
      by_cases hp:Pr k
      · exact (hpr k hp).2.2
      · refine hx.block k hk ?_
        rintro ((h|h)|⟨i,o0,hi,hb⟩)
        · exact hn (.inl h)
        · exact hp h
        · obtain ⟨c,ob,e1,e2,_⟩:=hh0 i o0 hi
          rw [hσ i c e1] at hb
          exact hn (.inr ⟨c,ob,hskey c (List.mem_of_getElem? e1),e2,hb⟩)
    have hokc:dr=bo→∀ b,okB w' ownc' ρc' h1 b→okB w' own' (fun i=>if S.n≤i∧i < S.n+nn then ρc' (hs.length+(i - S.n)) else ρ i) (zP S2.h (zl S hs bo dr v h1 nn dj).hw) b:=by
      rintro hdb b ⟨g1,g2,g3⟩
      refine ⟨g1,fun h=>g2 ((hiffp b).2 (.inl h)),fun i ob hi hb=>?_⟩
      by_cases hk:i ∈ (zl S hs bo dr v h1 nn dj).keys
      · obtain ⟨j,o1,hj,rfl,ho1,rfl⟩:=hkeyτ i ob hi hk
        have:=hρτ j hj
        simp only at this hb
        rw [this] at hb
        exact g3 j o1 ho1 hb
      · rw [zV hk] at hi
        have hin:¬ (S.n≤i∧i < S.n+nn):=fun h=>hk (hnewkey i h.1 h.2)
        simp only [if_neg hin] at hb
        refine g2 ((hiffp b).2 (.inr ⟨i,ob,hi,fun h=>hk (hskey i h),fun h=>hk ?_,hb⟩))
        subst hdb
        simp only [Eff.keys,zl,List.map_append,List.mem_append,zA,List.map_map,List.mem_map]
        exact .inr ⟨i,h,rfl⟩
    refine H.app hdst hj' hxx ?_ (fun i hi=>?_) (fun i hi=>?_) hfr2 ?_ (fun i ob hk hi=>?_) (fun i k o1 o2 b hki hkk hi hk hbi hbk=>?_) (fun id hid=>Nat.lt_of_lt_of_le (hI id hid) (Nat.le_max_right _ _)) .nil
    · by_cases hd0:dj=0
      · left
        have he:=hstill hd0
        subst he
        have hno:∀ b,own.all b→¬ Pr b:=fun b hb ⟨i,ob,hi,_,_,hbb⟩=>(H.blkOK i ob b hi hbb).1 hb
        exact Own.eq (fun b=>⟨fun hb=>((hiff b).2 (.inl hb)).resolve_right fun hp=>(hpr b hp).1 hb,fun hb=>((hiff b).1 (.inl hb)).resolve_right (hno b hb)⟩)
          (fun b=>⟨fun hb=>((hiffp b).2 (.inl hb)).resolve_right fun hp=>(hpr b hp).1 (own'.sub _ hb),fun hb=>((hiffp b).1 (.inl hb)).resolve_right (hno b (own.sub _ hb))⟩)
      · refine .inr ⟨hd0,fun b hb=>?_,fun i ob b hi hk hb hall'=>?_⟩
        · rcases hown' b ((hiffp b).2 (.inl hb)) with (h|h)|h
          · exact .inl h
          · exact absurd (own'.sub _ hb) (hpr b h).1
          · exact .inr h
        · refine (hpr b ⟨i,ob,hi,fun h=>hk (hskey i h),fun h=>hk ?_,hb⟩).1 hall'
          have:=hdj hd0
          subst this
          simp only [Eff.keys,zl,List.map_append,List.mem_append,zA,List.map_map,List.mem_map]
          exact .inr ⟨i,h,rfl⟩
    · simp only [zl,List.mem_map,List.mem_range] at hi
      obtain ⟨k,hk,rfl⟩:=hi
      exact hnewkey _ (by omega) (by omega)
    · refine if_neg ?_
      rintro ⟨h1,h2⟩
      exact hi (by simp only [zl,List.mem_map,List.mem_range];exact ⟨i - S.n,by omega,by omega⟩)
    · have hv2:=hv'.ren (τ:=qj hs S.n) (ρ':=fun i=>if S.n≤i∧i < S.n+nn then ρc' (hs.length+(i - S.n)) else ρ i) fun id hid=>hρτ id (hv1 id hid)
      rcases hdr with hd|⟨_,hfl,_⟩
      · exact hv2.mono (fun b hb=>⟨hokc hd b hb,rfl⟩) fun _ _=>rfl
      · exact (hv'.flat hfl).ren fun id hid=>hρτ id (hv1 id hid)
    · obtain ⟨j,o1,hj,rfl,ho1,rfl⟩:=hkeyτ i ob hi hk
      have e:=hρτ j hj
      simp only at e ⊢
      rw [e]
      refine ⟨AObj.ren_rel (hHp'.obj j o1 ho1) ?_ fun id hid=>hρτ id ((hh1 j o1 ho1).2 id hid),fun b hb=>⟨fun h=>hHp'.off j o1 b ho1 hb ((hiff b).2 (.inl h)), ?_⟩⟩
      · rcases hdr with hd|⟨_,_,hfl⟩
        · exact .inr (hokc hd)
        · exact .inl (hfl j o1 ho1)
      · rcases hblk j o1 b ho1 hb with h|⟨q,oq,hq,hbq⟩
        · exact .inl h
        · obtain ⟨c,ob,e1,e2,_⟩:=hh0 q oq hq
          rw [show zg hs ρ q=ρ c from hσ q c e1] at hbq
          exact .inr ⟨c,ob,hskey c (List.mem_of_getElem? e1),e2,hbq⟩
    · obtain ⟨j,o1',hj,rfl,ho1,rfl⟩:=hkeyτ i o1 hi hki
      obtain ⟨j',o2',hj',rfl,ho2,rfl⟩:=hkeyτ k o2 hk hkk
      have e:=hρτ j hj
      have e':=hρτ j' hj'
      simp only at e e' hbi hbk
      rw [e] at hbi
      rw [e'] at hbk
      rw [hHp'.inj j j' o1' o2' b ho1 ho2 hbi hbk]
theorem Yc {ops:Array Oper} {o:Oper} {S:St} {g:Operand} {args:Array Operand} {tys:Array TypeId} (ho:o.op=.call { callee:=.value g,args:=args,argTypes:=tys }) {e:Eff} {F:Frm} {S2:St} {a:Act} {w:World} {ρ:Nat→Value} {own:Own}
    (hag:Agree ops o e S S2) (H:Holds F S2 a w ρ own) {caps:List AV} {cvs:Array Value} (hcs:cvs.size=caps.length) (hcr:∀ (i:Nat) (c:AV),caps[i]?=some c→ARel w (okB w own ρ S2.h) ρ F.y c (cvs.getD i undef)) :
    (args.map a.eval++cvs).size=(args.toList.map (ev S)++caps).length∧∀ i c,(args.toList.map (ev S)++caps)[i]?=some c→ARel w (okB w own ρ S2.h) ρ F.y c ((args.map a.eval++cvs).getD i undef):=by
  refine ⟨by simp [hcs],fun i c hc=>?_⟩
  by_cases hi:i < args.size
  · rw [List.getElem?_append_left (by simpa using hi),List.getElem?_map] at hc
    obtain ⟨x,hx,rfl⟩:=Option.map_eq_some_iff.1 hc
    have hx':args[i]?=some x:=by simpa using hx
    have hm:x ∈ args:=Array.mem_of_getElem? hx'
    rw [← hag.ev (x:=x) (by simp [ho,Op.operands,Call.operands,hm])]
    have hxa:args[i]=x:=(Array.getElem?_eq_some_iff.1 hx').2
    have:(args.map a.eval++cvs).getD i undef=a.eval x:=by
      simp [Array.getElem?_append,hi,hxa]
    rw [this]
    exact qD H x
  · rw [List.getElem?_append_right (by simpa using hi)] at hc
    simp only [List.length_map,Array.length_toList] at hc
    have:=hcr _ c hc
    have e:(args.map a.eval++cvs).getD i undef=cvs.getD (i - args.size) undef:=by
      simp [Array.getElem?_append,hi]
    rw [e];exact this
def ZA:AV→List AV
  |.bnd _ pre=>pre
  |_=>[]
theorem Qev {E:Value→Ending} {ops:Array Oper} {o:Oper} {S:St} (hS:Wf S) {g:Operand} {args:Array Operand} {tys:Array TypeId} (ho:o.op=.call { callee:=.value g,args:=args,argTypes:=tys })
    {f:FuncId} {caps pre:List AV} (hg:ev S g=.clo f caps∧pre=[]∨ev S g=.bnd f pre∧caps=[]) {B:Ctx→Prop} {az:List AV} {hs bo dr:List Nat} {h0:Nat→Option AObj} {v:AV} {h1 hf:Nat→Option AObj} {dj nn:Nat} (hfn:FnG E B P f az h0 v h1 dj)
    (hdj:dj ≠ 0→dr=bo)
    (hB:∀ F S2 a w ρ own,A F→(dj ≠ 0→S2.j=S.j)→(∀ c,c ∈ hs∨c ∈ bo→S2.h c=S.h c)→Holds F S2 a w ρ own→B (Q3 F S2 hs bo ρ own w))
    (hargs:AV.leL hf (fun j=>hs[j]?) (pre++(args.toList.map (ev S)++caps)) az)
    (hobj:∀ i o0,h0 i=some o0→∃ c ob,hs[i]?=some c∧S.h c=some ob∧AObj.le hf (fun j=>hs[j]?) ob o0)
    (hdom:∀ j,j < hs.length→∃ o0,h0 j=some o0) (hnd:hs.Nodup)
    (hfr:∀ i ob,hf i=some ob→S.h i=some ob∧i ∉ hs∧i ∈ bo) (hbo:∀ i ∈ bo,(∃ ob,S.h i=some ob)∧i ∉ hs)
    (hdr:dr=bo∨(dr=[]∧v.flat∧∀ i ob,h1 i=some ob→ob.flat))
    (hv1:∀ id ∈ v.ids,id < hs.length+nn) (hh1:∀ i ob,h1 i=some ob→i < hs.length+nn∧∀ id ∈ ob.ids,id < hs.length+nn)
    {F:Frm} (hF:A F) {S2:St} {a:Act} {w:World} {ρ:Nat→Value} {own:Own} (hag:Agree ops o (zl S hs bo dr v h1 nn dj) S S2) (hfr2:∀ id ∈ (zl S hs bo dr v h1 nn dj).news,Wq F S2 id) (H:Holds F S2 a w ρ own)
    {dst:Option Nat} (hdst:∀ d,dst=some d→d < F.nt) :
    ∃ vals,(execOp a.eval o).run P w=.ok (.enter f vals) w∧Calls P f vals w fun e w'=>∃ v' ρ' own',e=E v'∧Holds F (S2.app dst (zl S hs bo dr v h1 nn dj)) { (a.put dst v') with defers:=[]++a.defers } w' ρ' own':=by
  have hS2:∀ c,c ∈ hs∨c ∈ bo→S2.h c=S.h c:=fun c hc=>hag.2.1 c (by simpa [zl] using hc)
  have hgv:=qD H g
  rw [hag.ev (x:=g) (by simp [ho,Op.operands,Call.operands])] at hgv
  obtain ⟨vals,hsz,hrel,hexec⟩:∃ vals:Array Value,vals.size=(pre++(args.toList.map (ev S)++caps)).length∧(∀ i c,(pre++(args.toList.map (ev S)++caps))[i]?=some c→ARel w (okB w own ρ S2.h) ρ F.y c (vals.getD i undef))∧(execOp a.eval o).run P w=.ok (.enter f vals) w:=by
    generalize hgv':a.eval g=gv at hgv
    rcases hg with ⟨hg,rfl⟩|⟨hg,rfl⟩
    · rw [hg] at hgv
      cases hgv with
      |@clo _ _ cvs hcs hcr =>
        obtain ⟨hsz,hrel⟩:=Yc ho hag H hcs hcr
        exact ⟨args.map a.eval++cvs,by simpa using hsz,by simpa using hrel,by simp [execOp,ho,resolve,Deferred.ofValue,hgv',invoke,hfn.enter]⟩
    · rw [hg] at hgv
      cases hgv with
      |@bnd _ _ bvs hbs hbr =>
        obtain ⟨hsz,hrel⟩:=Yc ho hag H (caps:=[]) (cvs:=#[]) rfl (by simp)
        simp only [Array.append_empty] at hsz hrel
        refine ⟨bvs++args.map a.eval,by simp [hbs],fun i c hc=>?_,by simp [execOp,ho,resolve,Deferred.ofValue,hgv',invoke,hfn.enter]⟩
        by_cases hi:i < bvs.size
        · rw [List.getElem?_append_left (by omega)] at hc
          have e:(bvs++args.map a.eval).getD i undef=bvs.getD i undef:=by simp [Array.getElem?_append,hi]
          rw [e];exact hbr i c hc
        · rw [List.getElem?_append_right (by omega)] at hc
          have e:(bvs++args.map a.eval).getD i undef=(args.map a.eval).getD (i - pre.length) undef:=by
            have hi':¬ i < pre.length:=by omega
            simp [Array.getElem?_append,hi',hbs]
          rw [e];exact hrel _ c hc
  obtain ⟨c1,c2,c3,c4⟩:=Xl (dj:=dj) hS hargs hobj hdom hnd hfr hbo hdr hv1 hh1 H hdj hS2 hfr2 hsz hrel hdst
  have hcalls:=hfn.calls F.y (Jc F.J S2.j (xM S2 hs bo ρ) w) (Jc.stable F.stable _ _ _) _ w (zg hs ρ) vals (hB F S2 a w ρ own hF (fun hd=>hag.2.2 hd) hS2 H) c1 c2 c3
  refine ⟨vals,hexec,vg hcalls ?_⟩
  rintro e w' ⟨v',ownc',ρc',he,q1,q2,q3,q4,q7,q5,q6⟩
  obtain ⟨ρ',own',HH⟩:=c4 v' w' ownc' ρc' q1 q2 q3 q4 q7 q5 q6
  exact ⟨v',ρ',own',he,HH⟩
theorem KE {ops:Array Oper} {o:Oper} {S:St} (hS:Wf S) (hw:Want ops o S) {g:Operand} {args:Array Operand} {tys:Array TypeId} (ho:o.op=.call { callee:=.value g,args:=args,argTypes:=tys })
    {f:FuncId} {caps pre:List AV} (hg:ev S g=.clo f caps∧pre=[]∨ev S g=.bnd f pre∧caps=[]) {B:Ctx→Prop} {az:List AV} {hs bo dr:List Nat} {h0:Nat→Option AObj} {v:AV} {h1 hf:Nat→Option AObj} {dj nn:Nat} (hfn:Fn B P f az h0 v h1 dj)
    (hdj:dj ≠ 0→dr=bo)
    (hB:∀ F S2 a w ρ own,A F→(dj ≠ 0→S2.j=S.j)→(∀ c,c ∈ hs∨c ∈ bo→S2.h c=S.h c)→Holds F S2 a w ρ own→B (Q3 F S2 hs bo ρ own w))
    (hargs:AV.leL hf (fun j=>hs[j]?) (pre++(args.toList.map (ev S)++caps)) az)
    (hobj:∀ i o0,h0 i=some o0→∃ c ob,hs[i]?=some c∧S.h c=some ob∧AObj.le hf (fun j=>hs[j]?) ob o0)
    (hdom:∀ j,j < hs.length→∃ o0,h0 j=some o0) (hnd:hs.Nodup)
    (hfr:∀ i ob,hf i=some ob→S.h i=some ob∧i ∉ hs∧i ∈ bo) (hbo:∀ i ∈ bo,(∃ ob,S.h i=some ob)∧i ∉ hs)
    (hdr:dr=bo∨(dr=[]∧v.flat∧∀ i ob,h1 i=some ob→ob.flat))
    (hv1:∀ id ∈ v.ids,id < hs.length+nn) (hh1:∀ i ob,h1 i=some ob→i < hs.length+nn∧∀ id ∈ ob.ids,id < hs.length+nn) :
    VE A P ops o (zl S hs bo dr v h1 nn dj) S:=by
  obtain ⟨hall,hslt,hI,hN⟩:=R4 (dj:=dj) hS hargs hobj hdom hnd hfr hbo hdr hv1 hh1
  refine ⟨fun F hF hds S2 a w hag hfr2 ⟨ρ,own,H⟩=>?_,hI,hN⟩
  rw [jo hw hag H,if_pos rfl]
  obtain ⟨vals,hexec,hcalls⟩:=Qev (E:=.returned) hS ho hg hfn hdj hB hargs hobj hdom hnd hfr hbo hdr hv1 hh1 hF hag hfr2 H (vL hds)
  refine ⟨Zd o a w F.r, ?_⟩
  rw [Oper.semAt_eq _ _ _ (by simp [ho]),hexec]
  simp only [Oper.uponIn]
  refine ⟨fun h=>by simp [W] at h,Xh (vg hcalls ?_)⟩
  rintro e w' ⟨v',ρ',own',rfl,HH⟩
  exact jm HH
end Go.Sym
namespace Go.Sym
open Go
variable {A : Frm → Prop} {P : Program}
def vw (i:TI) (cells:List AV):AV:=bif i.td.agg then .agg cells else cells.headD .junk
def VN (Γ:Tys) (S:St):List ResultVar→(List AV→Prop)→Prop
  |[],K=>K []
  |.tmp t :: rs,K=>VN Γ S rs fun vs=>K (S.t t :: vs)
  |.cell t ty :: rs,K=>match Γ ty with
    |some i=>rd S (bif i.td.agg then i.cells else 1) (fun cells _=>VN Γ S rs fun vs=>K (vw i cells :: vs)) (S.t t)
    |none=>False
def KJ:List AV→AV
  |[]=>.tup []
  |[a]=>a
  |a :: b :: r=>.tup (a :: b :: r)
def KX (tmps:Array Value):ResultVar→Sem Value
  |.tmp t=>pure (tmps.getD t undef)
  |.cell x t=>do loadVar t (← asAddr (tmps.getD x undef))
theorem Lx (fn:Func) (tmps:Array Value):results fn tmps=(do let vs ← fn.results.mapM (KX tmps);pure (if h:vs.size=1 then vs[0] else .tuple vs)):=by
  unfold results
  congr 2
theorem KM {Γ:Tys} (hΓ:jg P Γ) {F:Frm} {S:St} {a:Act} {w:World} {ρ:Nat→Value} {own:Own} (H:Holds F S a w ρ own):∀ {rs:List ResultVar} {K:List AV→Prop},VN Γ S rs K →
    ∃ avs vs,K avs∧(List.mapM (KX a.tmps) rs:Sem (List Value)).run P w=.ok vs w∧vs.length=avs.length∧∀ (i:Nat) (c:AV),avs[i]?=some c→ARel w (okB w own ρ S.h) ρ F.y c (vs.getD i undef)
  |[],K,h=>⟨[],[],h,by simp,rfl,by simp⟩
  |.tmp t :: rs,K,h=>by
    obtain ⟨avs,vs,hK,hrun,hl,hr⟩:=KM hΓ H (rs:=rs) (K:=fun vs=>K (S.t t :: vs)) h
    refine ⟨_,a.tmps.getD t undef :: vs,hK,by simp only [List.mapM_cons,KX,Sem.run_bind,Sem.run_pure,Result.andThen_ok,hrun],by simp [hl],fun i c hc=>?_⟩
    cases i with
    |zero=>simp only [List.getElem?_cons_zero,Option.some.injEq] at hc;subst hc;exact H.temps t
    |succ i=>simpa using hr i c (by simpa using hc)
  |.cell x t :: rs,K,h=>by
    simp only [VN] at h
    split at h
    · rename_i i hi
      obtain ⟨cells,hr,h,hrd⟩:=Ul h
      obtain ⟨avs,vs,hK,hrun,hl,hrr⟩:=KM hΓ H (rs:=rs) (K:=fun vs=>K (vw i cells :: vs)) h
      have ht:=hΓ t i hi
      obtain ⟨hlen,ad,us,hv,hul,hcell,hrel⟩:=hrd.read F S a w ρ own _ (fun _ _=>rfl) H (H.temps x)
      have hone:∃ u,(loadVar t ad).run P w=.ok u w∧ARel w (okB w own ρ S.h) ρ F.y (vw i cells) u:=by
        unfold vw
        cases hagg:i.td.agg
        · rw [hagg,cond_false] at hlen hul
          obtain ⟨u,rfl⟩:=Rz hul
          have hc0:w.cell? ad=some u:=by have:=hcell 0 u rfl;rwa [add_zero'] at this
          refine ⟨u,Zn ht hagg w ad u hc0, ?_⟩
          match cells,hlen with
          |[c],_=>exact (hrel 0 c u rfl rfl).1
        · rw [hagg,cond_true] at hlen hul
          refine ⟨_,Zk ht hagg w ad us (by omega) hcell, ?_⟩
          refine .agg (by simp;omega) fun j c hc=>?_
          have hj:j < us.length:=by have:=(List.getElem?_eq_some_iff.1 hc).1;omega
          have:=(hrel j c _ hc (List.getElem?_eq_getElem hj)).1
          simpa [hj] using this
      obtain ⟨u,hu,hru⟩:=hone
      have hpa:(asAddr (a.tmps.getD x undef)).run P w=.ok ad w:=by rw [hv];rfl
      refine ⟨_,u :: vs,hK,by simp only [List.mapM_cons,KX,Sem.run_bind,hpa,Sem.run_pure,Result.andThen_ok,hu,hrun],by simp [hl],fun i c hc=>?_⟩
      cases i with
      |zero=>simp only [List.getElem?_cons_zero,Option.some.injEq] at hc;subst hc;exact hru
      |succ i=>simpa using hrr i c (by simpa using hc)
    · exact h.elim
theorem RQ {Γ:Tys} (hΓ:jg P Γ) {F:Frm} {S:St} {a:Act} {w:World} {ρ:Nat→Value} {own:Own} (H:Holds F S a w ρ own) {fn:Func} {K:List AV→Prop} (h:VN Γ S fn.results.toList K) :
    ∃ avs v,K avs∧(results fn a.tmps).run P w=.ok v w∧ARel w (okB w own ρ S.h) ρ F.y (KJ avs) v:=by
  obtain ⟨avs,vs,hK,hrun,hl,hr⟩:=KM hΓ H h
  refine ⟨avs,if h:vs.toArray.size=1 then vs.toArray[0] else .tuple vs.toArray,hK, ?_, ?_⟩
  · rw [Lx,Array.mapM_eq_mapM_toList]
    simp only [map_eq_pure_bind,Sem.run_bind,Sem.run_pure,hrun]
    rfl
  · match avs,vs,hl with
    |[],[],_=>exact .tup rfl (by simp)
    |[c],[v],_=>simpa [KJ] using hr 0 c rfl
    |c :: d :: r,v :: u :: q,hl =>
      simp only [KJ]
      rw [dif_neg (by simp)]
      exact .tup (by simpa using hl) fun i c hc=>by have:=hr i c hc;simpa using this
abbrev Zi:=FuncId→List AV→St→(St→Prop)→Prop
def Zi.OK (A:Frm→Prop) (P:Program) (D:Zi):Prop:=∀ f caps S K,D f caps S K→(∀ vs w,(callFunc f vs).run P w=.ok (.enter f vs) w)∧∀ F,A F→∀ a w ρ own,Holds F S a w ρ own→∀ vs:Array Value,vs.size=caps.length→(∀ (i:Nat) (c:AV),caps[i]?=some c→ARel w (okB w own ρ S.h) ρ F.y c (vs.getD i undef)) →
  CallsDIn (W none) 0 P f vs .returning w fun e u w'=>∃ v S',e=.returned v∧u=.returning∧K S'∧Gam F S' a w'
def noD:Zi:=fun _ _ _ _=>False
theorem qA:Zi.OK A P noD:=fun _ _ _ _ h=>h.elim
def QS (D:Zi):List ADf→St→(St→Prop)→Prop
  |[],S,K=>K S
  |.mark id :: ds,S,K=>S.h id=some .mark∧QS D ds { t:=S.t,h:=upd S.h id none,n:=S.n,j:=S.j,d:=ds,m:=S.m } K
  |.call f caps :: ds,S,K=>D f caps { t:=S.t,h:=S.h,n:=S.n,j:=S.j,d:=ds,m:=S.m } fun S'=>S'.d=ds∧QS D ds S' K
theorem Holds.pop {F:Frm} {S:St} {a:Act} {w:World} {ρ:Nat→Value} {own:Own} (H:Holds F S a w ρ own) {d:ADf} {ds:List ADf} (hd:S.d=d :: ds) :
    ∃ x xs,a.defers=x :: xs∧DfRel w (okB w own ρ S.h) ρ F.y d x∧Holds F { t:=S.t,h:=S.h,n:=S.n,j:=S.j,d:=ds,m:=S.m } { tmps:=a.tmps,defers:=xs } w ρ own:=by
  have h:=H.defs
  rw [hd] at h
  generalize hx:a.defers=l at h
  cases h with
  |@cons _ x _ xs h1 h2 =>
    refine ⟨x,xs,rfl,h1,H.jay,H.temps,H.obj,H.inj,H.blkOK,fun id hid=>?_,H.nle,H.meq,H.tsz,H.pins,H.ext,H.ownsub,H.still,h2⟩
    obtain ⟨g1,g2,g3,g4⟩:=H.fresh id hid
    refine ⟨g1,g2,g3,fun hm=>g4 ?_⟩
    rw [hd,List.flatMap_cons]
    exact List.mem_append_right _ hm
theorem xN (w:World) (b:Nat) (o:Obj) (k:Nat):(w.putObj b o).heap[k]?=if k=b∧b < w.heap.size then some o else w.heap[k]?:=by
  simp only [World.putObj,Array.getElem?_setIfInBounds]
  by_cases h:b=k
  · subst h
    by_cases h2:b < w.heap.size
    · simp [h2]
    · simp [h2]
  · rw [if_neg h,if_neg (by intro e;exact h e.1.symm)]
theorem Ext.putObj {mod:Nat→Prop} (w:World) (b:Nat) (o:Obj) (h:mod b):Ext mod w (w.putObj b o) :=
  ⟨rfl,rfl,rfl,by simp [World.putObj],fun k _ hn=>by rw [xN,if_neg (by rintro ⟨e,_⟩;subst e;exact hn h)]⟩
theorem Ze {D:Zi} (hD:Zi.OK A P D) {F:Frm} (hF:A F) {fn:Func} {R:Ending→World→Prop}:∀ (ds:List ADf) (S:St) (a:Act) (w:World) {K:St→Prop},S.d=ds→QS D ds S K→Gam F S a w →
    (∀ S' w',K S'→S'.d=[]→Gam F S' { tmps:=a.tmps,defers:=[] } w'→LeavesInM (W none) 0 P fn a.tmps R [] .returning w')→LeavesInM (W none) 0 P fn a.tmps R a.defers .returning w
  |[],S,a,w,K,hd,h,⟨ρ,own,H⟩,fin=>by
    have hdf:=H.defs
    rw [hd] at hdf
    generalize hx:a.defers=l at hdf
    cases hdf
    refine fin S w h hd ⟨ρ,own, ?_⟩
    have:a={ tmps:=a.tmps,defers:=[] }:=by rw [← hx]
    rw [← this];exact H
  |.mark id :: ds,S,a,w,K,hd,⟨hm,h⟩,⟨ρ,own,H⟩,fin=>by
    obtain ⟨x,xs,hx,hdr,H'⟩:=H.pop hd
    rw [hx]
    have hob:=H.obj id _ hm
    cases hdr with
    |@mark _ b e =>
      rw [e] at hob
      cases hob with
      |mark hb =>
        refine ⟨by simp,.inl ⟨b,_,rfl,run_takeDeferred hb, ?_⟩⟩
        have hxt:Ext (fun k=>k=b) w (w.putObj b (.deferred none)):=Ext.putObj _ _ _ rfl
        have hno:¬ own.all b:=(H.blkOK id _ b hm (by rw [e];rfl)).1
        have H2:=H'.app (dst:=none) (e:={ av:=.junk,hw:=[(id,none)] }) (v':=undef) (w':=w.putObj b (.deferred none)) (ρ':=ρ) (own':=own) (ds:=[]) (fun _ h=>by cases h)
          ((F.stable _ _ _ H.jay).2 _ (hxt.weaken fun k _ hk ho=>hno (hk ▸ ho))) (hxt.weaken fun k _ hk=>.inr ⟨id,.mark,by simp [Eff.keys],hm,by rw [e,hk];rfl⟩) (.inl rfl) (by simp) (fun _ _=>rfl) (by simp) .junk
          (fun i o hi ho=>by simp [Eff.keys] at hi;subst hi;simp [zP,upd_same] at ho) (fun i k o o' b hi hk ho=>by simp [Eff.keys] at hi;subst hi;simp [zP,upd_same] at ho)
          (fun i hi=>by
            simp [Eff.ids,AV.ids,wL] at hi
            subst hi
            have:i < S.n:=Nat.lt_of_not_le fun hn=>by have:=(H.fresh i hn).1;rw [hm] at this;cases this
            exact Nat.lt_of_lt_of_le this (Nat.le_max_left _ _)) .nil
        refine Ze hD hF ds _ { tmps:=a.tmps,defers:=xs } _ rfl h ⟨ρ,own, ?_⟩ fin
        simpa [St.app,put,zP,Act.put] using H2
  |.call f caps :: ds,S,a,w,K,hd,h,⟨ρ,own,H⟩,fin=>by
    obtain ⟨x,xs,hx,hdr,H'⟩:=H.pop hd
    rw [hx]
    cases hdr with
    |@call _ _ vs h1 h2 =>
      obtain ⟨hent,hc⟩:=hD f caps _ _ h
      refine ⟨by simp,.inr ⟨fun h=>by simp [W] at h,.func f,vs,f,#[]++vs,rfl, ?_,fun g _=>trivial, ?_⟩⟩
      · simp [invoke,hent]
      · refine CallsDIn.mono (n:=0) (hc F hF { tmps:=a.tmps,defers:=xs } w ρ own H' (#[]++vs) (by simpa using h1) fun i c hc=>by have:=h2 i c hc;simpa using this) ?_
        rintro e u w' ⟨v,S',rfl,rfl,⟨hS'd,hl⟩,hg⟩
        exact Ze hD hF ds S' { tmps:=a.tmps,defers:=xs } w' hS'd hl hg fin
def RF:Nat→List AV→List (Nat × AV)
  |_,[]=>[]
  |i,a :: az=>(i,a) :: RF (i+1) az
theorem VP (k:Nat):∀ (az:List AV) (i t:Nat),i≤t→(asg (RF i az) t=match az[t - i]? with|some a=>a|none=>.junk)
  |[],i,t,_=>by simp [RF,asg]
  |a :: az,i,t,h=>by
    rw [RF]
    by_cases ht:t=i
    · subst ht;simp [asg]
    · rw [Qd8 _ _ _ _ ht,VP k az (i+1) t (by omega)]
      rw [show t - i=(t - (i+1))+1 by omega,List.getElem?_cons_succ]
def Fin (S:St) (rv v:AV) (n0:Nat) (h1:Nat→Option AObj) (dj:Nat):Prop:=∃ (σ:Nat→Option Nat) (hf:Nat→Option AObj),AV.le hf σ rv v ∧
  (∀ i o1,h1 i=some o1→(∃ c o,σ i=some c∧S.h c=some o∧AObj.le hf σ o o1)∨(σ i=none∧Vg o1)) ∧
  (∀ i o k o' c,h1 i=some o→h1 k=some o'→σ i=some c→σ k=some c→i=k) ∧
  (∀ i o,hf i=some o→S.h i=some o∧∀ j o1,h1 j=some o1→σ j ≠ some i)∧(∀ i,i < n0→σ i=some i)∧S.j=dj
def U7 (Γ:Tys) (D:Zi) (fn:Func) (Q:St→AV→Prop):Exit→St→Prop
  |.normal,S=>QS D S.d S fun S'=>VN Γ S' fn.results.toList fun vs=>Q S' (KJ vs)
  |.ret,S=>QS D S.d S fun S'=>VN Γ S' fn.results.toList fun vs=>Q S' (KJ vs)
  |_,_=>False
structure FnData (P:Program) (Γ:Tys) (f:FuncId) (fn:Func) (c:Code):Prop where
  ok:jg P Γ
  func:P.funcs[f]?=some fn
  body:fn.body=some c
  enter:∀ vs w,(callFunc f vs).run P w=.ok (.enter f vs) w
  dst:vQ fn.ntmps c=true
def JS (az:List AV) (n0:Nat) (h0:Nat→Option AObj):St:={ t:=asg (RF 0 az),h:=h0,n:=n0,m:=n0 }
theorem Qhy {F:Frm} {S:St} {a:Act} {w:World} {ρ:Nat→Value} {own:Own} (H:Holds F S a w ρ own) {rv v:AV} {n0:Nat} {h1:Nat→Option AObj} {dj:Nat} (hq:Fin S rv v n0 h1 dj) (hn0:∀ i o,F.H0 i=some o→i < n0) :
    ∃ ρ',Hp F.J F.y h1 dj own w ρ'∧(∀ x,ARel w (okB w own ρ S.h) ρ F.y rv x→ARel w (okB w own ρ' h1) ρ' F.y v x)∧(∀ i o,F.H0 i=some o→ρ' i=F.ρ0 i) ∧
      ∀ i o b,h1 i=some o→blk (ρ' i)=some b→F.w0.heap.size≤b∨F.owns0 b:=by
  obtain ⟨σ,hf,hle,hh,hinj,hfr,hm,hj⟩:=hq
  let ρ':Nat→Value:=fun j=>match σ j with|some i=>ρ i|none=>.slice none 0 0
  have hσ:∀ j i,σ j=some i→ρ' j=ρ i:=fun j i h=>by simp only [ρ',h]
  have hσ0:∀ j,σ j=none→ρ' j=.slice none 0 0:=fun j h=>by simp only [ρ',h]
  have hok:∀ b,okB w own ρ S.h b→okB w own ρ' h1 b:=by
    rintro b ⟨g1,g2,g3⟩
    refine ⟨g1,g2,fun i o hi hb=>?_⟩
    rcases hh i o hi with ⟨k,o',hk,ho',_⟩|⟨hn,_⟩
    · rw [hσ i k hk] at hb;exact g3 k o' ho' hb
    · rw [hσ0 i hn] at hb;simp [blk] at hb
  have hrow:∀ i ox b,hf i=some ox→blk (ρ i)=some b→okB w own ρ' h1 b:=by
    intro i ox b hi hb
    obtain ⟨g1,g2⟩:=hfr i _ hi
    refine ⟨(H.obj i _ g1).lt hb,fun hp=>(H.blkOK i _ b g1 hb).1 (own.sub _ hp),fun j o hj hbj=>?_⟩
    rcases hh j o hj with ⟨k',o',hk',ho',_⟩|⟨hn,_⟩
    · rw [hσ j k' hk'] at hbj
      have:=H.inj k' i o' _ b ho' g1 hbj hb
      subst this
      exact g2 j o hj hk'
    · rw [hσ0 j hn] at hbj;simp [blk] at hbj
  have hobjf:∀ i o,hf i=some o→ORel w (okB w own ρ S.h) ρ F.y o (ρ i):=fun i o hi=>H.obj i o (hfr i o hi).1
  refine ⟨ρ',⟨hj ▸ H.jay,fun i o hi=>?_,fun i k o o' b hi hk hbi hbk=>?_,fun i o b hi hb=>?_⟩,fun x hx=>AV.le_rel hobjf hok hrow hσ hσ0 hx v hle,fun i o hi=>?_,fun i o b hi hb=>?_⟩
  · rcases hh i o hi with ⟨c,ob,hc,hob,hle⟩|⟨hn,he⟩
    · rw [hσ i c hc];exact AObj.le_rel hobjf hok hrow hσ hσ0 (H.obj c ob hob) hle
    · rw [hσ0 i hn];exact Yb he
  · rcases hh i o hi with ⟨c,ob,hc,hob,_⟩|⟨hn,_⟩
    · rcases hh k o' hk with ⟨c',ob',hc',hob',_⟩|⟨hn,_⟩
      · rw [hσ i c hc] at hbi
        rw [hσ k c' hc'] at hbk
        have:=H.inj c c' ob ob' b hob hob' hbi hbk
        subst this
        exact hinj i o k o' c hi hk hc hc'
      · rw [hσ0 k hn] at hbk;simp [blk] at hbk
    · rw [hσ0 i hn] at hbi;simp [blk] at hbi
  · rcases hh i o hi with ⟨c,ob,hc,hob,_⟩|⟨hn,_⟩
    · rw [hσ i c hc] at hb;exact (H.blkOK c ob b hob hb).1
    · rw [hσ0 i hn] at hb;simp [blk] at hb
  · rw [hσ i i (hm i (hn0 i o hi))];exact H.pins i o hi
  · rcases hh i o hi with ⟨c,ob,hc,hob,_⟩|⟨hn,_⟩
    · rw [hσ i c hc] at hb;exact (H.blkOK c ob b hob hb).2
    · rw [hσ0 i hn] at hb;simp [blk] at hb
def frm0 (y:Value) (J:JJ) (hJ:J.Stable) (own:Own) (w:World) (ρ:Nat→Value) (h0:Nat→Option AObj) (n0 nt:Nat) (hh0:∀ i o,h0 i=some o→i < n0∧∀ id ∈ o.ids,id < n0):Frm :=
  { r:=none,y,J,stable:=hJ,w0:=w,ρ0:=ρ,H0:=h0,own0:=own,n0,nt,pinn:=fun i o h=>(hh0 i o h).1,recs:=fun _ h=>by cases h }
theorem Rl {y:Value} {J:JJ} (hJ:J.Stable) {own:Own} {w:World} {ρ:Nat→Value} {az:List AV} {n0 nt:Nat} {h0:Nat→Option AObj} (has:az.length≤nt) (hids:∀ a ∈ az,∀ id ∈ a.ids,id < n0) (hh0:∀ i o,h0 i=some o→i < n0∧∀ id ∈ o.ids,id < n0)
    {vs:Array Value} (hp:Hp J y h0 0 own w ρ) (hsz:vs.size=az.length) (hrel:∀ i c,az[i]?=some c→ARel w (okB w own ρ h0) ρ y c (vs.getD i undef)) :
    Gam (frm0 y J hJ own w ρ h0 n0 nt hh0) (JS az n0 h0) { tmps:=vs++Array.replicate (nt - vs.size) undef,defers:=[] } w:=by
  have hlen:vs.size≤nt:=by omega
  refine ⟨ρ,own,hp.jay,fun t=>?_,hp.obj,hp.inj,fun i o b hi hb=>⟨hp.off i o b hi hb,.inr ⟨i,o,hi,hb⟩⟩,fun id hid=>⟨?_,fun t hm=>?_,fun i o hi hm=>?_,by simp [JS]⟩,Nat.le_refl _,rfl,by simp [frm0];omega,fun _ _ _=>rfl,Ext.refl _ _,fun b hb=>.inl hb,fun _=>rfl,.nil⟩
  · show ARel w _ ρ y (asg (RF 0 az) t) _
    rw [VP 0 az 0 t (Nat.zero_le _),Nat.sub_zero]
    cases hc:az[t]? with
    |none=>exact .junk
    |some c =>
      have ht:t < vs.size:=by rw [hsz];exact (List.getElem?_eq_some_iff.1 hc).1
      have e:(vs++Array.replicate (nt - vs.size) undef).getD t undef=vs.getD t undef:=by simp [Array.getElem?_append,ht]
      rw [e];exact hrel t c hc
  · show h0 id=none
    cases ho:h0 id with
    |none=>rfl
    |some o=>have:=(hh0 id o ho).1;have:n0≤id:=hid;omega
  · simp only [JS] at hm
    rw [VP 0 az 0 t (Nat.zero_le _),Nat.sub_zero] at hm
    cases hc:az[t]? with
    |none=>rw [hc] at hm;simp [AV.ids] at hm
    |some c=>rw [hc] at hm;have:=hids c (List.mem_of_getElem? hc) id hm;have:n0≤id:=hid;omega
  · have:=(hh0 i o hi).2 id hm;have:n0≤id:=hid;omega
def Qhc (F:Frm) (E:Value→Ending) (h1:Nat→Option AObj) (v:AV) (dj:Nat):Ending→World→Prop:=fun e w'=>∃ v' own' ρ',e=E v'∧Hp F.J F.y h1 dj own' w' ρ'∧ARel w' (okB w' own' ρ' h1) ρ' F.y v v'∧Ext (fun b=>F.own0.prv b∨∃ i o,F.H0 i=some o∧blk (F.ρ0 i)=some b) F.w0 w' ∧
  (∀ b,own'.prv b→F.own0.prv b∨F.w0.heap.size≤b)∧(dj=0→own'=F.own0)∧(∀ i o,F.H0 i=some o→ρ' i=F.ρ0 i)∧(∀ i o b,h1 i=some o→blk (ρ' i)=some b→F.w0.heap.size≤b∨∃ k o',F.H0 k=some o'∧blk (F.ρ0 k)=some b)
theorem Uh {F:Frm} {E:Value→Ending} {S:St} {a:Act} {w:World} {ρ:Nat→Value} {own:Own} (H:Holds F S a w ρ own) {rv v:AV} {n0:Nat} {h1:Nat→Option AObj} {dj:Nat} (hq:Fin S rv v n0 h1 dj) (hn0:∀ i o,F.H0 i=some o→i < n0) {v':Value} (hv:ARel w (okB w own ρ S.h) ρ F.y rv v'):Qhc F E h1 v dj (E v') w:=by
  obtain ⟨ρ3,hp3,hv3,hpin3,hbl3⟩:=Qhy H hq hn0
  obtain ⟨_,_,_,_,_,_,_,hj3⟩:=hq
  exact ⟨v',own,ρ3,rfl,hp3,hv3 _ hv,H.ext,H.ownsub,fun hd=>H.still (hj3.trans hd),hpin3,hbl3⟩
theorem XO {Γ:Tys} (hΓ:jg P Γ) {D:Zi} (hD:Zi.OK A P D) {F:Frm} (hF:A F) {fn:Func} {v:AV} {n0:Nat} {h1:Nat→Option AObj} {dj:Nat} (hn0:∀ i o,F.H0 i=some o→i < n0) {S:St} {a:Act} {w:World} (hg:Gam F S a w)
    (hl:QS D S.d S fun S'=>VN Γ S' fn.results.toList fun vs=>Fin S' (KJ vs) v n0 h1 dj):LeavesInM (W none) 0 P fn a.tmps (Qhc F .returned h1 v dj) a.defers .returning w :=
  Ze hD hF S.d S a w rfl hl hg fun S2 w2 hres _ ⟨ρ2,own2,H2⟩=>by
    obtain ⟨avs,v',hQ,hrun,hrv⟩:=RQ hΓ H2 hres
    exact ⟨v',hrun,Uh H2 hQ hn0 hrv⟩
theorem Fn.of {B:Ctx→Prop} {Γ:Tys} {D:Zi} {f:FuncId} {fn:Func} {c:Code} (hd:FnData P Γ f fn c) {az:List AV} {n0:Nat} {h0:Nat→Option AObj} {v:AV} {h1:Nat→Option AObj} {dj:Nat}
    (has:az.length≤fn.ntmps) (hids:∀ a ∈ az,∀ id ∈ a.ids,id < n0) (hh0:∀ i o,h0 i=some o→i < n0∧∀ id ∈ o.ids,id < n0)
    (hA:∀ F,B ⟨F.y,F.J,F.own0,F.w0,F.ρ0⟩→F.H0=h0→F.r=none→A F) (hD:Zi.OK A P D)
    (hs:Sym A P c (JS az n0 h0) (U7 Γ D fn fun S rv=>Fin S rv v n0 h1 dj)):Fn B P f az h0 v h1 dj:=by
  refine ⟨hd.enter,fun y J hJ own w ρ vs hB hp hsz hrel=>?_⟩
  have hF:A (frm0 y J hJ own w ρ h0 n0 fn.ntmps hh0):=hA _ hB rfl rfl
  have hbody:=hs _ hF hd.dst _ w (Rl hJ has hids hh0 hp hsz hrel)
  refine Y3 (r:=none) (callsIn_of_wp_marks hd.func hd.body trivial (wpIn_mono hbody ?_))
  rintro e a' w' ⟨S',hk,hg'⟩
  cases e with
  |normal=>exact XO hd.ok hD hF (fun i o hi=>(hh0 i o hi).1) hg' hk
  |ret=>exact XO hd.ok hD hF (fun i o hi=>(hh0 i o hi).1) hg' hk
  |_=>exact hk.elim
theorem FnX.of {B:Ctx→Prop} {Γ:Tys} {f:FuncId} {fn:Func} {c:Code} (hd:FnData P Γ f fn c) {az:List AV} {n0:Nat} {h0 h1:Nat→Option AObj} {ch:List PanicEntry}
    (has:az.length≤fn.ntmps) (hids:∀ a ∈ az,∀ id ∈ a.ids,id < n0) (hh0:∀ i o,h0 i=some o→i < n0∧∀ id ∈ o.ids,id < n0)
    (hA:∀ F,B ⟨F.y,F.J,F.own0,F.w0,F.ρ0⟩→F.H0=h0→F.r=none→A F)
    (hs:Sym A P c (JS az n0 h0) fun e S=>e=.panic ch∧S.d=[]∧Fin S .junk .junk n0 h1 0):FnX ch B P f az h0 h1:=by
  refine ⟨hd.enter,fun y J hJ own w ρ vs hB hp hsz hrel=>?_⟩
  have hF:A (frm0 y J hJ own w ρ h0 n0 fn.ntmps hh0):=hA _ hB rfl rfl
  have hbody:=hs _ hF hd.dst _ w (Rl hJ has hids hh0 hp hsz hrel)
  refine Y3 (r:=none) (callsIn_of_wp_marks hd.func hd.body trivial (wpIn_mono hbody ?_))
  rintro e a' w' ⟨S',⟨rfl,hds,hq⟩,ρ2,own2,H2⟩
  have hdf:=H2.defs
  rw [hds] at hdf
  generalize hx:a'.defers=l at hdf
  cases hdf
  show LeavesInM (W none) 0 P fn a'.tmps _ a'.defers (.panicking ch) w'
  rw [hx]
  exact Uh (E:=fun _=>.panicked ch) H2 hq (fun i o hi=>(hh0 i o hi).1) (v':=undef) .junk
end Go.Sym
namespace Go.Sym
open Go Go.MapKept
variable {A : Frm → Prop} {P : Program}
open Classical in
noncomputable def yR:List (Value × Value)→Value→Option Value
  |[],_=>none
  |p :: ps,k=>if p.1=k then some p.2 else yR ps k
open Classical in
noncomputable def Ql:List (Value × Value)→Value→Value→List (Value × Value)
  |[],k,v=>[(k,v)]
  |p :: ps,k,v=>if p.1=k then (k,v) :: ps else p :: Ql ps k v
theorem Xe {es:List (Value × Value)} {k:Value} (h:∀ p ∈ es,p.1 ≠ k):yR es k=none:=by
  induction es with
  |nil=>rfl
  |cons p es ih=>rw [yR,if_neg (h p List.mem_cons_self)];exact ih fun q hq=>h q (List.mem_cons_of_mem _ hq)
theorem Qb4 {es:List (Value × Value)} {k v:Value} (h:∀ p ∈ es,p.1 ≠ k):Ql es k v=es++[(k,v)]:=by
  induction es with
  |nil=>rfl
  |cons p es ih=>rw [Ql,if_neg (h p List.mem_cons_self),ih fun q hq=>h q (List.mem_cons_of_mem _ hq)];rfl
theorem XN {es:List (Value × Value)} {k:Value} {j:Nat} {p:Value × Value} (hn:(es.map (·.1)).Nodup) (h:es[j]?=some p) (hk:p.1=k):yR es k=some p.2:=by
  induction es generalizing j with
  |nil=>simp at h
  |cons q es ih =>
    rw [List.map_cons,List.nodup_cons] at hn
    cases j with
    |zero=>cases h;rw [yR,if_pos hk]
    |succ j =>
      have h':es[j]?=some p:=by simpa using h
      rw [yR,if_neg,ih hn.2 h']
      intro e
      exact hn.1 (by rw [e,← hk];exact List.mem_map.2 ⟨p,List.mem_of_getElem? h',rfl⟩)
theorem Qc2 {es:List (Value × Value)} {k v:Value} {j:Nat} {p:Value × Value} (hn:(es.map (·.1)).Nodup) (h:es[j]?=some p) (hk:p.1=k):Ql es k v=es.set j (k,v):=by
  induction es generalizing j with
  |nil=>simp at h
  |cons q es ih =>
    rw [List.map_cons,List.nodup_cons] at hn
    cases j with
    |zero=>cases h;rw [Ql,if_pos hk];rfl
    |succ j =>
      have h':es[j]?=some p:=by simpa using h
      rw [Ql,if_neg,ih hn.2 h']
      · rfl
      · intro e
        exact hn.1 (by rw [e,← hk];exact List.mem_map.2 ⟨p,List.mem_of_getElem? h',rfl⟩)
open Classical in
noncomputable def V3:List (Value × Value)→Value→Nat
  |[],_=>0
  |p :: ps,k=>if p.1=k then 0 else V3 ps k+1
noncomputable def WL (es:List (Value × Value)) (k z:Value):List (Value × Value):=match yR es k with
  |some _=>es
  |none=>es++[(k,z)]
def MOK (Q:Value→Prop) (es:List (Value × Value)):Prop:=(es.map (·.1)).Nodup∧∀ p ∈ es,Q p.1
theorem MOK.nil (Q:Value→Prop):MOK Q []:=⟨.nil,by simp⟩
theorem XA {es:List (Value × Value)} {k v:Value} {x:Value}:x ∈ (Ql es k v).map (·.1) ↔ x=k∨x ∈ es.map (·.1):=by
  induction es with
  |nil=>simp [Ql]
  |cons p es ih =>
    rw [Ql]
    split
    · rename_i h;subst h;simp
    · rw [List.map_cons,List.mem_cons,ih,List.map_cons,List.mem_cons]
      constructor
      · rintro (h|h|h)
        · exact .inr (.inl h)
        · exact .inl h
        · exact .inr (.inr h)
      · rintro (h|h|h)
        · exact .inr (.inl h)
        · exact .inl h
        · exact .inr (.inr h)
theorem MOK.set {Q:Value→Prop} {es:List (Value × Value)} (h:MOK Q es) {k v:Value} (hk:Q k):MOK Q (Ql es k v):=by
  constructor
  · have hn:=h.1
    clear h
    induction es with
    |nil=>simp [Ql]
    |cons p es ih =>
      rw [List.map_cons,List.nodup_cons] at hn
      rw [Ql]
      split
      · rename_i e;subst e;simpa using hn
      · rename_i e
        rw [List.map_cons,List.nodup_cons]
        refine ⟨fun hm=>?_,ih hn.2⟩
        rcases XA.1 hm with e'|e'
        · exact e e'
        · exact hn.1 e'
  · intro p hp
    have:p.1 ∈ (Ql es k v).map (·.1):=List.mem_map.2 ⟨p,hp,rfl⟩
    rcases XA.1 this with e|e
    · rw [e];exact hk
    · obtain ⟨q,hq,e⟩:=List.mem_map.1 e
      rw [← e];exact h.2 q hq
theorem LJ {k:IntKind} {ks:List (Option IntKind)} {n:Int} {xs:List Value}:qU (some k :: ks) (.int k n :: xs)=qU ks xs:=by simp [qU]
theorem R3 {ks:List (Option IntKind)} {b:Bool} {xs:List Value}:qU (none :: ks) (.bool b :: xs)=qU ks xs:=by simp [qU]
theorem QaH:qU [] []=True:=by simp [qU]
theorem vTL (l:List Value):l.toArray.toList=l:=rfl
theorem QaZ {ops:Array Oper} {o:Oper} {S:St} (hw:Want ops o S) {t:TypeId} (ho:o.op=.makeMap t none) :
    VE A P ops o { av:=.mp S.n,hw:=[(S.n,some (.map []))],news:=[S.n],n:=S.n+1 } S:=by
  have hd:∀ c,o.op ≠ .defer c:=by simp [ho]
  have hI:∀ id ∈ Eff.ids { av:=.mp S.n,hw:=[(S.n,some (.map []))],news:=[S.n],n:=S.n+1 },id < S.n+1:=by
    intro id hid
    simp only [Eff.ids,AV.ids,wL,AObj.ids,List.append_nil,List.flatMap_nil,List.mem_append,List.mem_cons,List.not_mem_nil,or_false] at hid
    rcases hid with rfl|rfl <;> omega
  refine ⟨fun F hF hds S2 a w hag hfr ⟨ρ,own,H⟩=>?_,hI,by simp⟩
  rw [jo hw hag H,if_pos rfl]
  have hrun:(execOp a.eval o).run P w=.ok (.value (.map (some w.heap.size))) (w.alloc (.map #[] 0)):=by
    simp [execOp,ho,Instr.makeMap,newObj,Sem.run]
  refine jA hd hrun (jm (ρ':=upd ρ S.n (.map (some w.heap.size))) (own':=own) ?_)
  have hx:Ext (fun _=>False) w (w.alloc (.map #[] 0)):=Ext.alloc _ _ _
  have hj:F.J S2.j own (w.alloc (.map #[] 0)):=(F.stable _ _ _ H.jay).2 _ (hx.weaken fun _ _ h=>h.elim)
  refine H.app (vL hds) hj (hx.weaken fun _ _ h=>h.elim) (.inl rfl) (by simp [Eff.keys]) (fun i hi=>upd_ne _ _ _ _ (by simpa using hi)) (by simpa using hfr) (.mp (upd_same _ _ _) rfl) ?_ ?_ ?_ .nil
  · intro i ob hi hob
    simp only [Eff.keys,List.map_cons,List.map_nil,List.mem_singleton] at hi
    subst hi
    simp only [zP,upd_same,Option.some.injEq] at hob
    subst hob
    rw [upd_same]
    refine ⟨.map (xD _ _) (by simp) (by simp) (by simp) (by simp),fun b hb=>?_⟩
    simp [blk] at hb
    subst hb
    exact ⟨fun ho=>by have:=(F.stable _ _ _ H.jay).1 _ ho;omega,.inl (Nat.le_refl _)⟩
  · intro i k o1 o2 b hi hk _ _ _ _
    simp only [Eff.keys,List.map_cons,List.map_nil,List.mem_singleton] at hi hk
    rw [hi,hk]
  · intro id hid
    exact Nat.lt_of_lt_of_le (hI id hid) (Nat.le_max_right _ _)
def Qo:List AV→Option (List Value)
  |[]=>some []
  |.v x :: cs=>(Qo cs).map (x :: ·)
  |_ :: _=>none
def AV.toV:AV→Option Value
  |.v x=>some x
  |.agg cs=>(Qo cs).map fun l=>.agg l.toArray
  |_=>none
theorem Y5 {w:World} {ok:Nat→Prop} {ρ:Nat→Value} {y:Value}:∀ {cs:List AV} {l:List Value} {vs:List Value},Qo cs=some l→vs.length=cs.length →
    (∀ (i:Nat) (c:AV),cs[i]?=some c→ARel w ok ρ y c (vs.getD i undef))→vs=l
  |[],l,vs,h,hl,_=>by simp [Qo] at h;subst h;exact List.eq_nil_of_length_eq_zero (by simpa using hl)
  |c :: cs,l,vs,h,hl,hr=>by
    cases vs with
    |nil=>simp at hl
    |cons u vs =>
      cases c <;> simp only [Qo] at h <;> first|cases h|skip
      rename_i x
      obtain ⟨l',h',rfl⟩:=Option.map_eq_some_iff.1 h
      have h0:=hr 0 _ rfl
      have e:u=x:=(qW (by simpa using h0)).1
      have e2:=Y5 (vs:=vs) h' (by simpa using hl) fun i c hc=>by simpa using hr (i+1) c (by simpa using hc)
      rw [e,e2]
theorem Wi {w:World} {ok:Nat→Prop} {ρ:Nat→Value} {y:Value} {c:AV} {u x:Value} (h:c.toV=some u) (hr:ARel w ok ρ y c x):x=u:=by
  cases c <;> simp only [AV.toV] at h <;> first|cases h|skip
  case v=>exact (qW hr).1
  case agg cs =>
    obtain ⟨l,h',rfl⟩:=Option.map_eq_some_iff.1 h
    cases hr with
    |@agg _ vs hs hall =>
      have:=Y5 (vs:=vs.toList) h' (by simpa using hs) fun i c hc=>by simpa using hall i c hc
      rw [← this]
def Xc (agg:Bool) (v:Value):Bool:=match agg,v with
  |true,.agg vs=>vs.toList.all (·.oneCell')
  |true,_=>false
  |false,v=>v.oneCell'
def vAV (v:Value):AV:=match v with
  |.agg vs=>.agg (vs.toList.map .v)
  |v=>.v v
theorem Qbs {w:World} {ok:Nat→Prop} {ρ:Nat→Value} {y:Value} {b:Bool} {v:Value} (h:Xc b v=true):ARel w ok ρ y (vAV v) v:=by
  have one:∀ v:Value,v.oneCell'=true→(∀ vs,v ≠ .agg vs)→ARel w ok ρ y (vAV v) v:=fun v hv hn=>by
    cases v <;> first|exact absurd rfl (hn _)|exact .v hv
  by_cases ha:∃ vs,v=.agg vs
  · obtain ⟨vs,rfl⟩:=ha
    cases b
    · simp [Xc,Value.oneCell'] at h
    · simp only [Xc] at h
      refine .agg (by simp) fun i c hc=>?_
      rw [List.getElem?_map] at hc
      obtain ⟨u,hu,rfl⟩:=Option.map_eq_some_iff.1 hc
      have hu':vs[i]?=some u:=by simpa using hu
      have:vs.getD i undef=u:=by simp [hu']
      rw [this]
      exact .v (List.all_eq_true.1 h u (List.mem_of_getElem? hu))
  · have hn:∀ vs,v ≠ .agg vs:=fun vs e=>ha ⟨vs,e⟩
    cases b
    · exact one v (by simpa [Xc] using h) hn
    · cases v <;> first|exact absurd rfl (hn _)|simp [Xc] at h
def ZOK (P:Program) (e:TypeId) (z:AV):Prop:=∀ w:World,∃ v,(zeroValue e).run P w=.ok v w∧∀ (w':World) (ok:Nat→Prop) (ρ:Nat→Value) (y:Value),ARel w' ok ρ y z v
def yw (q:KeyInfo):Option Value→Prop × AV × Bool
  |some v=>(Xc q.agg v=true,vAV v,true)
  |none=>(∀ id,id ∉ q.z.ids,q.z,false)
theorem QbH (v:Value):(vAV v).ids=[]:=by
  cases v <;> first|rfl|skip
  case agg vs =>
    simp only [vAV,AV.ids]
    refine List.eq_nil_iff_forall_not_mem.2 fun id h=>?_
    obtain ⟨c,hc,hid⟩:=AV.mem_idsL.1 h
    obtain ⟨u,_,rfl⟩:=List.mem_map.1 hc
    simp [AV.ids] at hid
theorem Qcc {es:List (Value × Value)} {k:Value} (h:∀ p ∈ es,p.1 ≠ k):V3 es k=es.length:=by
  induction es with
  |nil=>rfl
  |cons p es ih=>rw [V3,if_neg (h p List.mem_cons_self),ih fun q hq=>h q (List.mem_cons_of_mem _ hq)];rfl
theorem Qb8 {es:List (Value × Value)} {k:Value} {j:Nat} {p:Value × Value} (hn:(es.map (·.1)).Nodup) (h:es[j]?=some p) (hk:p.1=k):V3 es k=j:=by
  induction es generalizing j with
  |nil=>simp at h
  |cons q es ih =>
    rw [List.map_cons,List.nodup_cons] at hn
    cases j with
    |zero=>cases h;rw [V3,if_pos hk]
    |succ j =>
      have h':es[j]?=some p:=by simpa using h
      rw [V3,if_neg,ih hn.2 h']
      intro e
      exact hn.1 (by rw [e,← hk];exact List.mem_map.2 ⟨p,List.mem_of_getElem? h',rfl⟩)
theorem Xv {entries:Array MapEntry} {clock:Nat} {k v:Value} (h:∀ (i:Nat) (e:MapEntry),entries[i]?=some e→e.born=i) (hc:clock=entries.size):∀ (i:Nat) (e:MapEntry),(entries.push { key:=k,val:=v,born:=clock })[i]?=some e→e.born=i:=by
  intro i e hi
  rw [Array.getElem?_push] at hi
  split at hi
  · rename_i h1;cases hi;rw [h1];exact hc
  · exact h i e hi
theorem ZH {entries:Array MapEntry} {n:Nat} {f:MapEntry→MapEntry} (h:∀ (i:Nat) (e:MapEntry),entries[i]?=some e→e.born=i) (hf:∀ e,(f e).born=e.born):∀ (i:Nat) (e:MapEntry),(entries.modify n f)[i]?=some e→e.born=i:=by
  intro i e hi
  rw [Array.getElem?_modify] at hi
  split at hi
  · obtain ⟨e',he',rfl⟩:=Option.map_eq_some_iff.1 hi
    rw [hf];exact h i e' he'
  · exact h i e hi
theorem VE.setRet {ops:Array Oper} {o:Oper} {S:St} {id:Nat} {ob ob':AObj} {hr:List Nat} {av:AV} (hav:∀ i ∈ av.ids,i < S.n) (hS:Wf S) (hw:Want ops o S) (hd:∀ c,o.op ≠ .defer c) (hob:S.h id=some ob) (hidr:id ∈ hr) (hids:∀ i ∈ ob'.ids,i < S.n)
    (h:∀ F S2 a w ρ own,Agree ops o { av:=av,hw:=[(id,some ob')],hr:=hr,n:=S.n } S S2→Holds F S2 a w ρ own→S2.h id=some ob →
      ∃ u w',(execOp a.eval o).run P w=.ok (.value u) w'∧Ext (fun b=>blk (ρ id)=some b) w w'∧ORel w' (okB w own ρ S2.h) ρ F.y ob' (ρ id)∧∀ (w':World) (ok:Nat→Prop) (ρ:Nat→Value) (y:Value),ARel w' ok ρ y av u) :
    VE A P ops o { av:=av,hw:=[(id,some ob')],hr:=hr,n:=S.n } S:=by
  have hlt:id < S.n:=Nat.lt_of_not_le fun hn=>by have:=(hS id hn).1;rw [hob] at this;cases this
  have hI:∀ i ∈ Eff.ids { av:=av,hw:=[(id,some ob')],hr:=hr,n:=S.n },i < S.n:=by
    intro i hi
    simp only [Eff.ids,wL,List.append_nil,List.mem_append,List.mem_cons] at hi
    have hi:i ∈ av.ids∨i=id∨i ∈ ob'.ids:=by simpa using hi
    rcases hi with hi|rfl|hi
    · exact hav i hi
    · exact hlt
    · exact hids i hi
  refine ⟨fun F hF hds S2 a w hag _ ⟨ρ,own,H⟩=>?_,hI,by simp⟩
  rw [jo hw hag H,if_pos rfl]
  have hob2:S2.h id=some ob:=(hag.2.1 id hidr).trans hob
  obtain ⟨u,w',hrun,hx,horel,hu⟩:=h F S2 a w ρ own hag H hob2
  refine jA hd hrun (jm (ρ':=ρ) (own':=own) ?_)
  have hno:∀ b,own.all b→blk (ρ id) ≠ some b:=fun b ho hb=>(H.blkOK id ob b hob2 hb).1 ho
  have hj:F.J S2.j own w':=(F.stable _ _ _ H.jay).2 _ (hx.weaken fun b _ hb ho=>hno b ho hb)
  have hok:∀ b,okB w own ρ S2.h b→okB w' own ρ (upd S2.h id (some ob')) b∧w'.heap[b]?=w'.heap[b]?:=by
    rintro b ⟨h1,h2,h3⟩
    refine ⟨⟨Nat.lt_of_lt_of_le h1 hx.size,h2,fun i o hi hb=>?_⟩,rfl⟩
    by_cases hin:i=id
    · subst hin;exact h3 i ob hob2 hb
    · rw [upd_ne _ _ _ _ hin] at hi;exact h3 i o hi hb
  refine H.app (vL hds) hj (hx.weaken fun b _ hb=>.inr ⟨id,ob,by simp [Eff.keys],hob2,hb⟩) (.inl rfl) (by simp [Eff.keys]) (fun i _=>rfl) (by simp) (hu _ _ _ _) ?_ ?_ ?_ .nil
  · intro i o1 hi ho1
    simp only [Eff.keys,List.map_cons,List.map_nil,List.mem_singleton] at hi
    subst hi
    simp only [zP,upd_same,Option.some.injEq] at ho1
    subst ho1
    exact ⟨horel.mono hok (fun _ _=>rfl) (fun _ _=>rfl),fun b hb=>⟨(H.blkOK i ob b hob2 hb).1,.inr ⟨i,ob,by simp [Eff.keys],hob2,hb⟩⟩⟩
  · intro i k o1 o2 b hi hk _ _ _ _
    simp only [Eff.keys,List.map_cons,List.map_nil,List.mem_singleton] at hi hk
    rw [hi,hk]
  · intro i hi
    exact Nat.lt_of_lt_of_le (hI i hi) (Nat.le_max_right _ _)
section maps
variable {ops : Array Oper} {o : Oper} {S : St} {t kt e : TypeId} {x k : Operand} {i : TI} {j : KeyInfo} {Q : Value → Prop} {id : Nat} {es : List (Value × Value)} {kv : Value}
theorem KW {F:Frm} {S2:St} {a:Act} {w:World} {ρ:Nat→Value} {own:Own} (H:Holds F S2 a w ρ own) (hm:S2.h id=some (.map es)) :
    ∃ b entries clock,ρ id=.map (some b)∧w.heap[b]?=some (.map entries clock)∧entries.toList.map (fun e=>(e.key,e.val))=es∧(∀ (i:Nat) (e:MapEntry),entries[i]?=some e→e.born=i)∧clock=entries.size∧entries.size≤maxLen:=by
  have h:=H.obj id _ hm
  generalize hv:ρ id=v at h
  cases h with
  |map h1 h2 h3 h4 h5=>exact ⟨_,_,_,rfl,h1,h2,h3,h4,h5⟩
theorem Qca (hS:Wf S) (hw:Want ops o S) {c:Bool} (ho:o.op=.lookup t x k c) (ht:TyFact P t i) (htd:i.td=.map kt e) (hQ:MKey P kt Q) (hz:ZOK P e j.z)
    (hx:ev S x=.mp id) (hm:S.h id=some (.map es)) (hok:MOK Q es) (hk:(ev S k).toV=some kv) (hkq:Q kv) (hr:(yw j (yR es kv)).1) :
    VE A P ops o { av:=bif c then .tup [(yw j (yR es kv)).2.1,.v (.bool (yw j (yR es kv)).2.2)] else (yw j (yR es kv)).2.1,hr:=[id],n:=S.n } S:=by
  obtain ⟨d,hd,hdok⟩:=ht.under
  rw [htd] at hdok
  simp only [TD.ok] at hdok
  subst hdok
  have hnid:∀ i,i ∉ (yw j (yR es kv)).2.1.ids:=by
    intro i hi
    cases hg:yR es kv with
    |none=>rw [hg] at hi hr;exact hr i hi
    |some v=>rw [hg] at hi;simp [yw,QbH] at hi
  refine VE.val hw (by simp [ho]) (fun i hi=>?_) fun F S2 a w ρ own hag H=>?_
  · cases c
    · exact absurd hi (hnid i)
    · simp only [cond_true,AV.ids,AV.idsL,List.append_nil] at hi
      exact absurd hi (hnid i)
  have h1:=qD H x
  rw [hag.ev (x:=x) (by simp [ho,Op.operands]),hx] at h1
  have h2:=Wi (by rw [hag.ev (x:=k) (by simp [ho,Op.operands])];exact hk) (qD H k)
  have hm2:S2.h id=some (.map es):=(hag.2.1 id (by simp)).trans hm
  obtain ⟨b,entries,clock,hρ,hb,hes,_,_,_⟩:=KW H hm2
  have h1':a.eval x=.map (some b):=by
    generalize a.eval x=v at h1
    cases h1 with|mp e1 _=>rw [← e1,hρ]
  have hkeys:∀ q ∈ entries.toList,Q q.key:=fun q hq=>hok.2 (q.key,q.val) (by rw [← hes];exact List.mem_map.2 ⟨q,hq,rfl⟩)
  have hrun:∃ r,(Instr.lookup t (.map (some b)) kv c).run P w=.ok (if c then .tuple #[r,.bool (yw j (yR es kv)).2.2] else r) w∧∀ (ok:Nat→Prop) (ρ:Nat→Value) (y:Value),ARel w ok ρ y (yw j (yR es kv)).2.1 r:=by
    rcases hQ.find w hkq entries.toList hkeys with ⟨f1,f2⟩|⟨n,q,f1,f2,f3⟩
    · have hg:yR es kv=none:=Xe fun p hp=>by
        rw [← hes] at hp
        obtain ⟨q,hq,rfl⟩:=List.mem_map.1 hp
        exact f2 q hq
      obtain ⟨z,hz1,hz2⟩:=hz w
      refine ⟨z, ?_,fun ok ρ y=>by rw [hg];exact hz2 w ok ρ y⟩
      rw [hg]
      cases c <;> simp [Instr.lookup,run_underlying hd,MapKept.run_getObj_map hb,hQ.check w _ hkq,f1,hz1,Result.andThen,yw]
    · have hg:yR es kv=some q.val:=XN hok.1 (j:=n) (p:=(q.key,q.val)) (by rw [← hes,List.getElem?_map,f2];rfl) f3
      refine ⟨q.val, ?_,fun ok ρ y=>by rw [hg] at hr ⊢;exact Qbs hr⟩
      rw [hg]
      cases c <;> simp [Instr.lookup,run_underlying hd,MapKept.run_getObj_map hb,hQ.check w _ hkq,f1,Result.andThen,yw]
  obtain ⟨r,hr1,hr2⟩:=hrun
  refine ⟨if c then .tuple #[r,.bool (yw j (yR es kv)).2.2] else r,w,by simp [execOp,ho,h1',h2,hr1],Ext.none w, ?_⟩
  cases c
  · simpa using hr2 _ _ _
  · simp only [cond_true,if_true]
    refine .tup (by simp) fun i c hc=>?_
    match i with
    |0=>cases hc;simpa using hr2 _ _ _
    |1=>cases hc;simpa using .v rfl
    |n+2=>simp at hc
theorem X7 (hS:Wf S) (hw:Want ops o S) {v:Operand} (ho:o.op=.mapUpdate t x k v) (ht:TyFact P t i) (htd:i.td=.map kt e) (hQ:MKey P kt Q)
    (hx:ev S x=.mp id) (hm:S.h id=some (.map es)) (hok:MOK Q es) (hk:(ev S k).toV=some kv) (hkq:Q kv) {u:Value} (hv:(ev S v).toV=some u) (hlen:(Ql es kv u).length≤maxLen) :
    VE A P ops o { av:=.junk,hw:=[(id,some (.map (Ql es kv u)))],hr:=[id],n:=S.n } S:=by
  obtain ⟨d,hd,hdok⟩:=ht.under
  rw [htd] at hdok
  simp only [TD.ok] at hdok
  subst hdok
  refine VE.setObj hS hw (by simp [ho]) hm (by simp) (by simp [AObj.ids]) fun F S2 a w ρ own hag H hm2=>?_
  have h1:=qD H x
  rw [hag.ev (x:=x) (by simp [ho,Op.operands]),hx] at h1
  have h2:=Wi (by rw [hag.ev (x:=k) (by simp [ho,Op.operands])];exact hk) (qD H k)
  have h3:=Wi (by rw [hag.ev (x:=v) (by simp [ho,Op.operands])];exact hv) (qD H v)
  obtain ⟨b,entries,clock,hρ,hb,hes,hborn,hck,hsz⟩:=KW H hm2
  have h1':a.eval x=.map (some b):=by
    generalize a.eval x=v at h1
    cases h1 with|mp e1 _=>rw [← e1,hρ]
  have hkeys:∀ q ∈ entries.toList,Q q.key:=fun q hq=>hok.2 (q.key,q.val) (by rw [← hes];exact List.mem_map.2 ⟨q,hq,rfl⟩)
  have hlt:b < w.heap.size:=(Array.getElem?_eq_some_iff.1 hb).1
  have ext:∀ o',Ext (fun b'=>blk (ρ id)=some b') w { w with heap:=w.heap.setIfInBounds b o' }:=fun o' =>
    ⟨rfl,rfl,rfl,by simp,fun k _ hn=>(MapKept.heap_set (o':=o') hb).2 k fun e=>hn (by rw [hρ,e];rfl)⟩
  rcases hQ.find w hkq entries.toList hkeys with ⟨f1,f2⟩|⟨n,q,f1,f2,f3⟩
  · have hms:Ql es kv u=es++[(kv,u)]:=Qb4 fun p hp=>by
      rw [← hes] at hp
      obtain ⟨q,hq,rfl⟩:=List.mem_map.1 hp
      exact f2 q hq
    refine ⟨_,by simp [execOp,ho,h1',h2,h3,Instr.mapUpdate,run_underlying hd,MapKept.run_getObj_map hb,hQ.check w _ hkq,f1,MapKept.run_setObj_map _ hb,Result.andThen];rfl,ext _, ?_⟩
    rw [hρ]
    refine .map (MapKept.heap_set hb).1 (by simp [hms,hes]) ?_ (by simp [hck]) ?_
    · exact Xv hborn hck
    · rw [hms,← hes] at hlen;simpa using hlen
  · have hn:n < entries.size:=by simpa using (List.getElem?_eq_some_iff.1 f2).1
    have hms:Ql es kv u=es.set n (kv,u):=Qc2 hok.1 (p:=(q.key,q.val)) (by rw [← hes,List.getElem?_map,f2];rfl) f3
    have hq:entries[n]?=some q:=by simpa using f2
    refine ⟨_,by simp [execOp,ho,h1',h2,h3,Instr.mapUpdate,run_underlying hd,MapKept.run_getObj_map hb,hQ.check w _ hkq,f1,hq,f3,hQ.stays w hkq,MapKept.run_setObj_map _ hb,Result.andThen];rfl,ext _, ?_⟩
    rw [hρ]
    refine .map (MapKept.heap_set hb).1 ?_ (ZH hborn fun _=>rfl) (by simpa using hck) (by simpa using hsz)
    rw [hms,← hes]
    refine List.ext_getElem? fun m=>?_
    simp only [Array.toList_modify,List.getElem?_map,List.getElem?_modify,List.getElem?_set,List.length_map,Array.length_toList]
    by_cases hnm:n=m
    · subst hnm;simp [hn]
    · simp [hnm]
theorem RP (hS:Wf S) (hw:Want ops o S) (ho:o.op=.mapEntry t x k) (ht:TyFact P t i) (htd:i.td=.map kt e) (hQ:MKey P kt Q) (hz:ZOK P e j.z) {zv:Value} (hzv:j.z.toV=some zv)
    (hx:ev S x=.mp id) (hm:S.h id=some (.map es)) (hok:MOK Q es) (hk:(ev S k).toV=some kv) (hkq:Q kv) (hr:(yw j (yR es kv)).1) (hlen:es.length+1≤maxLen) :
    VE A P ops o { av:=.tup [(yw j (yR es kv)).2.1,.v (.int .i64 (V3 es kv:Nat))],hw:=[(id,some (.map (WL es kv zv)))],hr:=[id],n:=S.n } S:=by
  obtain ⟨d,hd,hdok⟩:=ht.under
  rw [htd] at hdok
  simp only [TD.ok] at hdok
  subst hdok
  have hnid:∀ i,i ∉ (yw j (yR es kv)).2.1.ids:=by
    intro i hi
    cases hg:yR es kv with
    |none=>rw [hg] at hi hr;exact hr i hi
    |some v=>rw [hg] at hi;simp [yw,QbH] at hi
  refine VE.setRet (fun i hi=>?_) hS hw (by simp [ho]) hm (by simp) (by simp [AObj.ids]) fun F S2 a w ρ own hag H hm2=>?_
  · simp only [AV.ids,AV.idsL,List.append_nil] at hi
    exact absurd hi (hnid i)
  have h1:=qD H x
  rw [hag.ev (x:=x) (by simp [ho,Op.operands]),hx] at h1
  have h2:=Wi (by rw [hag.ev (x:=k) (by simp [ho,Op.operands])];exact hk) (qD H k)
  obtain ⟨b,entries,clock,hρ,hb,hes,hborn,hck,hsz⟩:=KW H hm2
  have h1':a.eval x=.map (some b):=by
    generalize a.eval x=v at h1
    cases h1 with|mp e1 _=>rw [← e1,hρ]
  have hkeys:∀ q ∈ entries.toList,Q q.key:=fun q hq=>hok.2 (q.key,q.val) (by rw [← hes];exact List.mem_map.2 ⟨q,hq,rfl⟩)
  have ext:∀ o',Ext (fun b'=>blk (ρ id)=some b') w { w with heap:=w.heap.setIfInBounds b o' }:=fun o' =>
    ⟨rfl,rfl,rfl,by simp,fun k _ hn=>(MapKept.heap_set (o':=o') hb).2 k fun e=>hn (by rw [hρ,e];rfl)⟩
  rcases hQ.find w hkq entries.toList hkeys with ⟨f1,f2⟩|⟨n,q,f1,f2,f3⟩
  · have hne:∀ p ∈ es,p.1 ≠ kv:=fun p hp=>by
      rw [← hes] at hp
      obtain ⟨q,hq,rfl⟩:=List.mem_map.1 hp
      exact f2 q hq
    have hg:yR es kv=none:=Xe hne
    obtain ⟨z,hz1,hz2⟩:=hz w
    have hzz:z=zv:=Wi hzv (hz2 w (fun _=>True) (fun _=>undef) undef)
    subst hzz
    have hln:es.length=entries.size:=by rw [← hes];simp
    have hi1:V3 es kv=entries.size:=by rw [Qcc hne,hln]
    refine ⟨_,_,by simp [execOp,ho,h1',h2,Instr.mapEntry,run_underlying hd,MapKept.run_getObj_map hb,hQ.check w _ hkq,f1,hz1,MapKept.run_setObj_map _ hb,Result.andThen];exact ⟨rfl,rfl⟩,ext _, ?_,fun w' ok ρ y=>?_⟩
    · rw [hρ]
      refine .map (MapKept.heap_set hb).1 (by simp [WL,hg,hes]) (Xv hborn hck) (by simp [hck]) (by rw [hln] at hlen;simpa using hlen)
    · refine .tup (by simp) fun i c hc=>?_
      match i with
      |0=>cases hc;rw [hg];exact hz2 w' ok ρ y
      |1=>cases hc;rw [hi1,← hck];exact .v rfl
      |n+2=>simp at hc
  · have hn:n < entries.size:=by simpa using (List.getElem?_eq_some_iff.1 f2).1
    have hq:entries[n]?=some q:=by simpa using f2
    have hesn:es[n]?=some (q.key,q.val):=by rw [← hes,List.getElem?_map,f2];rfl
    have hg:yR es kv=some q.val:=XN hok.1 (j:=n) (p:=(q.key,q.val)) hesn f3
    have hi1:V3 es kv=n:=Qb8 hok.1 (p:=(q.key,q.val)) hesn f3
    have hbq:=hborn n q hq
    refine ⟨_,_,by simp [execOp,ho,h1',h2,Instr.mapEntry,run_underlying hd,MapKept.run_getObj_map hb,hQ.check w _ hkq,f1,hq,f3,hQ.stays w hkq,MapKept.run_setObj_map _ hb,Result.andThen];exact ⟨rfl,rfl⟩,ext _, ?_,fun w' ok ρ y=>?_⟩
    · rw [hρ]
      refine .map (MapKept.heap_set hb).1 ?_ (ZH hborn fun _=>rfl) (by simpa using hck) (by simpa using hsz)
      rw [show WL es kv zv=es by simp [WL,hg],← hes]
      refine List.ext_getElem? fun m=>?_
      simp only [Array.toList_modify,List.getElem?_map,List.getElem?_modify]
      by_cases hnm:n=m
      · subst hnm;simp [hq,f3]
      · simp [hnm]
    · refine .tup (by simp) fun i c hc=>?_
      match i with
      |0=>cases hc;rw [hg] at hr ⊢;exact Qbs hr
      |1=>cases hc;rw [hi1,← hbq];exact .v rfl
      |n+2=>simp at hc
theorem V5 (hS:Wf S) (hw:Want ops o S) {s v:Operand} (ho:o.op=.entryStore t x s v) {q:IntKind} {n:Int}
    (hx:ev S x=.mp id) (hm:S.h id=some (.map es)) (hs:ev S s=.v (.int q n)) {u:Value} (hv:(ev S v).toV=some u) (h0:0≤n) (hn:n.toNat < es.length) :
    VE A P ops o { av:=.junk,hw:=[(id,some (.map (es.set n.toNat ((es.getD n.toNat (undef,undef)).1,u))))],hr:=[id],n:=S.n } S:=by
  refine VE.setObj hS hw (by simp [ho]) hm (by simp) (by simp [AObj.ids]) fun F S2 a w ρ own hag H hm2=>?_
  have h1:=qD H x
  rw [hag.ev (x:=x) (by simp [ho,Op.operands]),hx] at h1
  have h2:=qD H s
  rw [hag.ev (x:=s) (by simp [ho,Op.operands]),hs] at h2
  have h2:=(qW h2).1
  have h3:=Wi (by rw [hag.ev (x:=v) (by simp [ho,Op.operands])];exact hv) (qD H v)
  obtain ⟨b,entries,clock,hρ,hb,hes,hborn,hck,hsz⟩:=KW H hm2
  have h1':a.eval x=.map (some b):=by
    generalize a.eval x=v at h1
    cases h1 with|mp e1 _=>rw [← e1,hρ]
  have ext:∀ o',Ext (fun b'=>blk (ρ id)=some b') w { w with heap:=w.heap.setIfInBounds b o' }:=fun o' =>
    ⟨rfl,rfl,rfl,by simp,fun k _ hn=>(MapKept.heap_set (o':=o') hb).2 k fun e=>hn (by rw [hρ,e];rfl)⟩
  obtain ⟨m,rfl⟩:∃ m:Nat,n=m:=⟨n.toNat,by omega⟩
  have hn:m < es.length:=hn
  have hms:m < entries.size:=by rw [← hes] at hn;simpa using hn
  have hf:entries.findIdx? (fun e=>((e.born:Int) == (m:Int)))=some m:=by
    rw [Array.findIdx?_eq_some_iff_getElem]
    refine ⟨hms, ?_,fun j hj=>?_⟩
    · have:=hborn m entries[m] (by simp [hms])
      simp [this]
    · have:=hborn j entries[j] (by simp [show j < entries.size by omega])
      simp [this];omega
  refine ⟨_,by simp [execOp,ho,h1',h2,h3,Instr.entryStore,MapKept.run_getObj_map hb,Go.asInt,asIntOf,hf,MapKept.run_setObj_map _ hb,Result.andThen];rfl,ext _, ?_⟩
  rw [hρ]
  refine .map (MapKept.heap_set hb).1 ?_ (ZH hborn fun _=>rfl) (by simpa using hck) (by simpa using hsz)
  rw [← hes]
  refine List.ext_getElem? fun l=>?_
  simp only [Array.toList_modify,List.getElem?_map,List.getElem?_modify,List.getElem?_set,List.length_map,Array.length_toList]
  by_cases hnm:m=l
  · subst hnm;simp [hms]
  · simp [hnm]
end maps
end Go.Sym
namespace Go.Sym
open Go
variable {A : Frm → Prop} {P : Program}
section arrs
variable {ops : Array Oper} {o : Oper} {S : St}
theorem Re (hS:Wf S) (hw:Want ops o S) {t:TypeId} {x:Operand} {hi:Option Operand} (ho:o.op=.slice t x none hi none) {i j:TI} {m:Nat} {e:TypeId} (ht:TyFact P t i) (htd:i.td=.array m e) (hj:TyFact P e j) {id off:Nat} (hx:ev S x=.ptr id off)
    {h:Int} (hhi:(hi=none∧h=m)∨∃ z k,hi=some z∧ev S z=.v (.int k h)) (g0:0≤h) (g1:h≤m) (hm:m≤maxLen):VE A P ops o { av:=.psl id off h.toNat m,n:=S.n } S:=by
  obtain ⟨d,hd,hok⟩:=ht.under
  rw [htd] at hok
  simp only [TD.ok] at hok
  subst hok
  refine VE.val hw (by simp [ho]) (fun j hj=>yh hS x j (by rw [hx];simpa [AV.ids] using hj)) fun F S2 a w ρ own hag H=>?_
  have h1:=qD H x
  rw [hag.ev (x:=x) (by simp [ho,Op.operands]),hx] at h1
  generalize hv:a.eval x=v at h1
  cases h1 with
  |@ptr _ _ b e1 =>
    refine ⟨.slice (some ⟨b,off,none⟩) h.toNat m,w, ?_,Ext.none w,.psl e1 (by omega) hm⟩
    have hb:∀ kk:IntKind,(Instr.sliceBound (.int kk h) m .sliceAlen).run P w=.ok h.toNat w:=fun kk=>by simp [Instr.sliceBound,asIntOf,g0,g1]
    have hbs:(Instr.sliceBounds false m m none (hi.map a.eval) none).run P w=.ok (0,h.toNat,m) w:=by
      rcases hhi with ⟨rfl,rfl⟩|⟨z,k,rfl,ez⟩
      · simp [Instr.sliceBounds]
      · have h2:=qD H z
        rw [hag.ev (x:=z) (by simp [ho,Op.operands]),ez] at h2
        simp [Instr.sliceBounds,(qW h2).1,hb]
    simp only [execOp,ho,hv,Instr.sliceAt,Instr.sureAddr,run_underlying hd,Sem.run_bind,Result.andThen_ok,Option.map_none,hbs,hj.run_sizeOf,Sem.run_pure,Nat.zero_mul,add_zero',ite_self,Nat.sub_zero]
theorem Qee {ys:List (List DV)} (h:∀ r ∈ ys,r.length=1):ys.flatten.length=ys.length∧∀ (i:Nat) (d:DV),ys.flatten[i]?=some d→∃ r,ys[i]?=some r∧r[0]?=some d:=by
  induction ys with
  |nil=>simp
  |cons r ys ih =>
    obtain ⟨g1,g2⟩:=ih fun r hr=>h r (List.mem_cons_of_mem _ hr)
    have hr:=h r List.mem_cons_self
    match r,hr with
    |[d0],_ =>
      refine ⟨by simp [g1],fun i d hd=>?_⟩
      cases i with
      |zero=>simp only [List.flatten_cons,List.singleton_append,List.getElem?_cons_zero,Option.some.injEq] at hd;subst hd;exact ⟨_,rfl,rfl⟩
      |succ i=>simpa using g2 i d (by simpa using hd)
theorem QaY (hS:Wf S) (hw:Want ops o S) {t t' e:TypeId} {x y:Operand} (ho:o.op=.call { callee:=.builtin .copy,args:=#[x,y],argTypes:=#[t,t'] }) {i j:TI} (ht:TyFact P t i) (htd:i.td=.slice e) (hj:TyFact P e j) (hk:j.cells=1) {id off n c:Nat} {cs:List AV} {ys:List (List DV)} {hr:List Nat}
    (hx:ev S x=.psl id off n c) (hc:S.h id=some (.cells cs)) (hfit:off+n≤cs.length) (hyl:∀ r ∈ ys,r.length=1) (hyn:0 < ys.length)
    (hsrc:∀ F S2 a w ρ own,Holds F S2 a w ρ own→(∀ id ∈ hr,S2.h id=S.h id)→∀ v,ARel w (okB w own ρ S2.h) ρ F.y (ev S y) v→∃ flat,Src w (okB w own ρ S2.h) 1 ys v flat) :
    VE A P ops o { av:=.v (.int .i64 (min ys.length n:Nat)),hw:=[(id,some (.cells (cs.take off++((ys.take (min ys.length n)).flatten).map DV.av++cs.drop (off+min ys.length n))))],hr:=id :: hr,n:=S.n } S:=by
  obtain ⟨d,hd,hok⟩:=ht.under
  rw [htd] at hok
  simp only [TD.ok] at hok
  subst hok
  generalize hm:min ys.length n=m
  have hmn:m≤n:=by omega
  have hmy:m≤ys.length:=by omega
  obtain ⟨f1,f2⟩:=Qee (ys:=ys.take m) fun r hr=>hyl r (List.mem_of_mem_take hr)
  have hdl:(((ys.take m).flatten).map DV.av).length=m:=by rw [List.length_map,f1,List.length_take];omega
  generalize hds:((ys.take m).flatten).map DV.av=ds at hdl
  have hfx:off+ds.length≤cs.length:=by omega
  have e1:cs.take off++ds++cs.drop (off+m)=cs.take off++ds++cs.drop (off+ds.length):=by rw [hdl]
  rw [e1]
  refine VE.setVal rfl hS hw (by simp [ho]) hc (by simp) (fun i hi=>?_) fun F S2 a w ρ own hag H hob=>?_
  · simp only [AObj.ids] at hi
    obtain ⟨c',hc',hi⟩:=AV.mem_idsL.1 hi
    simp only [List.mem_append] at hc'
    have old:c' ∈ cs→i < S.n:=fun hc'=>Nat.lt_of_not_le fun hn=>(hS i hn).2.2.1 id _ hc (by simp only [AObj.ids];exact AV.mem_idsL.2 ⟨c',hc',hi⟩)
    rcases hc' with (hc'|hc')|hc'
    · exact old (List.mem_of_mem_take hc')
    · rw [← hds] at hc'
      obtain ⟨d,_,rfl⟩:=List.mem_map.1 hc'
      rw [DV.av_ids] at hi;cases hi
    · exact old (List.mem_of_mem_drop hc')
  have hxr:=qD H x
  rw [hag.ev (x:=x) (by simp [ho,Op.operands,Call.operands]),hx] at hxr
  have hyr:=qD H y
  rw [hag.ev (x:=y) (by simp [ho,Op.operands,Call.operands])] at hyr
  obtain ⟨flat,⟨ay,cy,hyv,hsl,hsm,hcell⟩,hfl,hone,hrel⟩:=hsrc F S2 a w ρ own H (fun id hid=>hag.2.1 id (by simp [hid])) _ hyr
  obtain ⟨ad,rfl,hcells⟩:=hcell hyn
  have h5:=H.obj id _ hob
  generalize hxv:a.eval x=v at hxr
  cases hxr with
  |@psl _ _ _ _ b q1 q2 q3 =>
    rw [q1] at h5 ⊢
    cases h5 with
    |@cells _ _ T vs g1 g2 g3 =>
      rw [Nat.mul_one] at hfl
      have hcl:(flat.take m).length=m:=by rw [List.length_take,hfl];omega
      have hfit':off+(flat.take m).length≤vs.toList.length:=by rw [hcl,Array.length_toList];omega
      have hsc:∀ q v,(flat.take m)[q]?=some v→w.cell? (ad.add q)=some v:=fun q v hq=>by
        rw [List.getElem?_take] at hq
        split at hq
        · exact hcells q v hq
        · cases hq
      have hrun:=YR (P:=P) (k:=1) (t':=t') (ty:=o.type) (fun w=>by rw [← hk];exact hj.run_sizeOf w) hd (q:=off) (dLen:=n) (dCap:=c) g1 (a:=ad) (sLen:=ys.length) (sCap:=cy) (cs:=flat.take m) (by rw [hcl,Nat.mul_one];exact hm.symm)
        hsc (by simpa using hfit') fun v hv=>hone v (List.mem_of_mem_take hv)
      refine ⟨w.setRow b (vs.toList.take off++flat.take m++vs.toList.drop (off+(flat.take m).length)).toArray, ?_,Ext.setRow w b _ rfl, ?_⟩
      · unfold execOp
        simp only [ho,resolve,invoke,builtin,Sem.run_bind,Sem.run_pure,Result.andThen_ok,List.map_toArray,List.map_cons,List.map_nil,hxv,hyv,hrun]
        rw [show Nat.min ys.length n=m from hm];rfl
      · refine .cells (setRow_heap w b vs _ T _ g1) ?_ fun p c' hc'=>?_
        · rw [ze hfx,List.size_toArray,ze hfit',Array.length_toList,g2]
        · rw [wE hfx] at hc'
          have hget:((vs.toList.take off++flat.take m++vs.toList.drop (off+(flat.take m).length)).toArray).getD p undef =
              if p < off then vs.getD p undef else if p < off+m then (flat.take m).getD (p - off) undef else vs.getD p undef:=by
            have e1:=wE (i:=p) hfit'
            rw [Array.getD_eq_getD_getElem?,List.getElem?_toArray,e1]
            simp only [hcl]
            split
            · simp [Array.getD_eq_getD_getElem?]
            · split <;> simp [Array.getD_eq_getD_getElem?,List.getD_eq_getElem?_getD]
          rw [hget]
          have hmono:∀ {c u},ARel w (okB w own ρ S2.h) ρ F.y c u→ARel (w.setRow b (vs.toList.take off++flat.take m++vs.toList.drop (off+(flat.take m).length)).toArray) (okB w own ρ S2.h) ρ F.y c u:=fun hr =>
            hr.mono (fun q hq=>⟨hq,setRow_other w b q _ (fun eq=>hq.2.2 id _ hob (by rw [q1];simp [blk,eq]))⟩) (fun _ _=>rfl)
          rw [hdl] at hc'
          split
          · rename_i hj;rw [if_pos hj] at hc';exact ⟨hmono (g3 p c' hc').1,(g3 p c' hc').2⟩
          · rename_i hj
            rw [if_neg hj] at hc'
            split
            · rename_i hj2
              rw [if_pos hj2,← hds,List.getElem?_map] at hc'
              obtain ⟨dd,hdd,rfl⟩:=Option.map_eq_some_iff.1 hc'
              obtain ⟨r,hr1,hr2⟩:=f2 _ _ hdd
              rw [List.getElem?_take] at hr1
              split at hr1
              · rename_i hlt
                obtain ⟨u,hu,hdu⟩:=hrel _ _ _ _ hr1 hr2
                rw [Nat.mul_one,Nat.add_zero] at hu
                have:(flat.take m).getD (p - off) undef=u:=by simp [List.getD_eq_getElem?_getD,List.getElem?_take,hlt,hu]
                rw [this]
                exact ⟨hmono (DRel.av hdu).1,(DRel.av (ρ:=ρ) (y:=F.y) hdu).2⟩
              · cases hr1
            · rename_i hj2;rw [if_neg hj2] at hc';exact ⟨hmono (g3 p c' hc').1,(g3 p c' hc').2⟩
theorem RV {e:TypeId} {j:TI} (hj:TyFact P e j) {w:World} {ok:Nat→Prop} {ρ:Nat→Value} {y:Value} {cs:List AV} {vs:Array Value} (hs:vs.size=cs.length) (hr:∀ (i:Nat) (c:AV),cs[i]?=some c→ARel w ok ρ y c (vs.getD i undef)) {off:Nat}
    (hle:off+(bif j.td.agg then j.cells else 1)≤cs.length):∃ v,(part e vs off).run P w=.ok v w∧ARel w ok ρ y (vw j ((cs.drop off).take (bif j.td.agg then j.cells else 1))) v:=by
  cases hb:j.td.agg with
  |true =>
    rw [hb] at hle
    simp only [cond_true] at hle ⊢
    refine ⟨.agg (vs.extract off (off+j.cells)),by simp [part,hj.run_isAgg,hj.run_sizeOf,hb], ?_⟩
    simp only [vw,hb,cond_true]
    refine .agg (by simp;omega) fun i c hc=>?_
    rw [List.getElem?_take] at hc
    split at hc
    · rename_i hi
      rw [List.getElem?_drop] at hc
      have:=hr _ c hc
      have e:(vs.extract off (off+j.cells)).getD i undef=vs.getD (off+i) undef:=by
        simp only [Array.getD_eq_getD_getElem?,Array.getElem?_extract]
        rw [if_pos (by omega)]
      rw [e];exact this
    · cases hc
  |false =>
    rw [hb] at hle
    simp only [cond_false] at hle ⊢
    have hlt:off < vs.size:=by omega
    refine ⟨vs[off],by simp [part,hj.run_isAgg,hb,hlt], ?_⟩
    have h0:cs[off]?=some cs[off]:=List.getElem?_eq_getElem (by omega)
    have:=hr off _ h0
    simp only [vw,hb,cond_false]
    have e1:(cs.drop off).take 1=[cs[off]]:=by
      rw [List.drop_eq_getElem_cons (by omega)];rfl
    rw [e1,List.headD_cons]
    simpa [hlt] using this
theorem Y8 {j:TI} {cs:List AV} {off n N:Nat} (h:∀ id ∈ AV.idsL cs,id < N):∀ id ∈ (vw j ((cs.drop off).take n)).ids,id < N:=by
  intro id hid
  simp only [vw] at hid
  cases hb:j.td.agg with
  |true =>
    rw [hb] at hid
    simp only [cond_true,AV.ids] at hid
    obtain ⟨c,hc,hid⟩:=AV.mem_idsL.1 hid
    exact h id (AV.mem_idsL.2 ⟨c,List.mem_of_mem_drop (List.mem_of_mem_take hc),hid⟩)
  |false =>
    rw [hb] at hid
    simp only [cond_false] at hid
    cases hl:(cs.drop off).take n with
    |nil=>rw [hl] at hid;simp [AV.ids] at hid
    |cons c r =>
      rw [hl,List.headD_cons] at hid
      exact h id (AV.mem_idsL.2 ⟨c,List.mem_of_mem_drop (List.mem_of_mem_take (by rw [hl];exact List.mem_cons_self)),hid⟩)
theorem Qff (hS:Wf S) (hw:Want ops o S) {t e:TypeId} {x ix:Operand} (ho:o.op=.index t x ix) {i j:TI} {m:Nat} (ht:TyFact P t i) (htd:i.td=.array m e) (hj:TyFact P e j) {cs:List AV} (hx:ev S x=.agg cs) {k:IntKind} {n:Int} (hi:ev S ix=.v (.int k n))
    (g0:0≤n) (g1:n < m) (hle:n.toNat * j.cells+(bif j.td.agg then j.cells else 1)≤cs.length):VE A P ops o { av:=vw j ((cs.drop (n.toNat * j.cells)).take (bif j.td.agg then j.cells else 1)),n:=S.n } S:=by
  obtain ⟨d,hd,hok⟩:=ht.under
  rw [htd] at hok
  simp only [TD.ok] at hok
  subst hok
  refine VE.val hw (by simp [ho]) (Y8 fun id hid=>yh hS x id (by rw [hx];exact hid)) fun F S2 a w ρ own hag H=>?_
  have h1:=qD H x
  rw [hag.ev (x:=x) (by simp [ho,Op.operands]),hx] at h1
  have h2:=qD H ix
  rw [hag.ev (x:=ix) (by simp [ho,Op.operands]),hi] at h2
  have h2:=(qW h2).1
  generalize hv:a.eval x=v at h1
  cases h1 with
  |@agg _ vs hs hr =>
    obtain ⟨v,hv1,hv2⟩:=RV hj hs hr hle
    refine ⟨v,w, ?_,Ext.none w,hv2⟩
    simp only [execOp,ho,hv,h2,Instr.index,asIntOf,run_underlying hd,Sem.run_bind,Sem.run_pure,Result.andThen_ok,if_pos (And.intro g0 g1),hj.run_sizeOf,hv1]
theorem Qe0 (hS:Wf S) (hw:Want ops o S) {t:TypeId} {x:Operand} {f:Nat} (ho:o.op=.field t x f) {i j:TI} (ht:TyFact P t i) {fs:List (Nat × Nat × TypeId)} (htd:i.td=.struct fs) {p:Nat × Nat × TypeId} (hf:fs[f]?=some p) (hj:TyFact P p.2.2 j) {cs:List AV} (hx:ev S x=.agg cs)
    (hle:p.1+(bif j.td.agg then j.cells else 1)≤cs.length):VE A P ops o { av:=vw j ((cs.drop p.1).take (bif j.td.agg then j.cells else 1)),n:=S.n } S:=by
  obtain ⟨d,hd,hok⟩:=ht.under
  rw [htd] at hok
  obtain ⟨fields,rfl,hmap⟩:=hok
  obtain ⟨off,sz,ft⟩:=p
  have hfield:∃ fl,fields[f]?=some fl∧fl.offset=off∧fl.type=ft:=by
    have hf':=congrArg (Option.map fun p:Nat × Nat × TypeId=>(p.1,p.2.2)) hf
    rw [← List.getElem?_map,← hmap,List.getElem?_map] at hf'
    obtain ⟨fl,h1,h2⟩:=Option.map_eq_some_iff.1 hf'
    exact ⟨fl,by simpa using h1,(Prod.mk.inj h2).1,(Prod.mk.inj h2).2⟩
  obtain ⟨fl,hfl,rfl,rfl⟩:=hfield
  simp only at hj hle ⊢
  refine VE.val hw (by simp [ho]) (Y8 fun id hid=>yh hS x id (by rw [hx];exact hid)) fun F S2 a w ρ own hag H=>?_
  have h1:=qD H x
  rw [hag.ev (x:=x) (by simp [ho,Op.operands]),hx] at h1
  generalize hv:a.eval x=v at h1
  cases h1 with
  |@agg _ vs hs hr =>
    obtain ⟨v,hv1,hv2⟩:=RV hj hs hr hle
    refine ⟨v,w, ?_,Ext.none w,hv2⟩
    simp only [execOp,ho,hv,Instr.field,Go.asAgg,run_underlying hd,hfl,Sem.run_bind,Sem.run_pure,Result.andThen_ok,hv1]
theorem RB (hS:Wf S) (hw:Want ops o S) {t e:TypeId} {parts:Array (Nat × Operand)} (ho:o.op=.build t parts) {i j:TI} {m:Nat} (ht:TyFact P t i) (htd:i.td=.array m e) (hj:TyFact P e j)
    {K:List AV→Prop} (h:xK (j4 j.cells) K i.zero (parts.toList.map fun p=>(p.1,ev S p.2))):∃ cs,K cs∧VE A P ops o { av:=.agg cs,n:=S.n } S:=by
  obtain ⟨d,hd,hok⟩:=ht.under
  rw [htd] at hok
  simp only [TD.ok] at hok
  subst hok
  obtain ⟨out,hK,ho'⟩:=QV h
  obtain ⟨inf,z0,_,_,_,_,hz0,_,_⟩:=ht.info
  refine ⟨out,hK,VE.val hw (by simp [ho]) (fun id hid=>?_) fun F S2 a w ρ own hag H=>?_⟩
  · simp only [AV.ids] at hid
    obtain ⟨c,hc,hid⟩:=AV.mem_idsL.1 hid
    refine Ws ho' (fun c hc id hid=>?_) (fun p hp id hid=>?_) c hc id hid
    · rw [← hz0] at hc
      obtain ⟨v,_,rfl⟩:=List.mem_map.1 hc
      rw [Qz] at hid;cases hid
    · obtain ⟨q,_,rfl⟩:=List.mem_map.1 hp
      exact yh hS q.2 id hid
  · obtain ⟨z,hz,h1,h2,h3⟩:=ht.run_zero w
    have hp:=Z8 (S:=S) H (parts:=parts) fun x hx=>hag.ev (x:=x) (by simp [ho,Op.operands];simpa using hx)
    obtain ⟨_,vout,rfl,g2,g3⟩:=ZV ho' hp.1 hp.2 (Z5 h1 h3)
    refine ⟨.agg vout,w, ?_,Ext.none w,.agg g3.size fun i c hc=>(g3.rel i c hc).1⟩
    have g2':=g2
    unfold j4 at g2'
    simp only [execOp,ho,Instr.build,Sem.run_bind,hz,Result.andThen_ok,run_underlying hd,hj.run_sizeOf,g2',Sem.run_pure]
end arrs
end Go.Sym
namespace Go.Sym
open Go
set_option linter.all false
variable {P : Program} {A : Frm → Prop}
theorem Ru {w:World} {ok:Nat→Prop} {ρ:Nat→Value} {y:Value} {e:TypeId} {k:Nat} {xs:List (List DV)} {b n0 c n:Nat} (h:ORel w ok ρ y (.row e k xs) (.slice (some ⟨b,0,none⟩) n0 c)) (hc:0 < c) (hn:n≤xs.length):ORel w ok ρ y (.row e k (xs.take n)) (.slice (some ⟨b,0,none⟩) n c):=by
  cases h with
  |row r1 r2 r3 r4 =>
    rename_i flat
    have hl:(xs.take n).length=n:=by rw [List.length_take];omega
    have h3:w.ownsRow 0 e k (.slice (some ⟨b,0,none⟩) n0 c) xs.length flat:=by
      rcases r3 with h|⟨_,_,a,h⟩
      · exact h
      · simp only [Value.slice.injEq] at h;omega
    obtain ⟨g0,g1⟩:=h3
    have hle:n * k≤xs.length * k:=Nat.mul_le_mul_right _ hn
    refine .row (flat:=flat.take (n * k)) r1 (fun r hr=>r2 r (List.mem_of_mem_take hr)) (.inl ⟨?_, ?_⟩) fun i r j d hi hj=>?_
    · rw [List.length_take,hl];omega
    · rcases g1 with ⟨h,_⟩|⟨g,cap,cur,h1,h2,h3,h4,h5,h6,h7⟩
      · cases h
      · simp only [Value.slice.injEq,Option.some.injEq,Addr.mk.injEq] at h1
        obtain ⟨⟨rfl,_⟩,rfl,rfl⟩:=h1
        refine .inr ⟨_,_,cur,by rw [hl],h2,h3,by omega,h5,h6, ?_⟩
        rw [hl,← h7,List.take_take,Nat.min_eq_left hle]
    · have hin:i < n:=by
        have:=(List.getElem?_eq_some_iff.1 hi).1
        omega
      have hi':xs[i]?=some r:=by rw [List.getElem?_take_of_lt hin] at hi;exact hi
      have hjk:j < k:=by
        have:=(List.getElem?_eq_some_iff.1 hj).1
        rw [r2 r (List.mem_of_getElem? hi')] at this
        exact this
      obtain ⟨u,hu,hd⟩:=r4 i r j d hi' hj
      refine ⟨u, ?_,hd⟩
      rw [List.getElem?_take_of_lt]
      · exact hu
      · have:(i+1) * k≤n * k:=Nat.mul_le_mul_right _ (by omega)
        rw [Nat.succ_mul] at this
        omega
theorem QaF {ops:Array Oper} {o:Oper} {S:St} (hS:Wf S) (hw:Want ops o S) {t e:TypeId} {x y:Operand} (ho:o.op=.call { callee:=.builtin .append,args:=#[x,y],argTypes:=#[t,t] }) {it i:TI} (ht:TyFact P t it) (htd:it.td=.slice e) (hi:TyFact P e i) (hk:0 < i.cells)
    {id n:Nat} {xs ys:List (List DV)} {hr:List Nat} (hx:ev S x=.rsl id i.cells 0 n) (hc:S.h id=some (.row e i.cells xs)) (hn:n≤xs.length)
    (hy:∀ F S2 a w ρ own,Holds F S2 a w ρ own→(∀ j ∈ hr,S2.h j=S.h j)→∀ v,ARel w (okB w own ρ S2.h) ρ F.y (ev S y) v→∃ flat,Src w (okB w own ρ S2.h) i.cells ys v flat)
    (hxl:∀ r ∈ xs.take n,r.length=i.cells) (hyl:∀ r ∈ ys,r.length=i.cells) (hb:((xs.take n).length+ys.length) * i.bytes≤140737488355328) (hm:(xs.take n).length+ys.length≤maxLen) :
    VE A P ops o { av:=.row S.n,hw:=wR (some id)++[(S.n,some (.row e i.cells (xs.take n++ys)))],hr:=xG (some id)++hr,news:=[S.n],n:=S.n+1 } S:=by
  obtain ⟨d,hd,hok⟩:=ht.under
  rw [htd] at hok
  simp only [TD.ok] at hok
  subst hok
  have hdead:∀ j,(some id:Option Nat)=some j→j ∈ xG (some id)++hr∧∃ ob,S.h j=some ob:=by
    rintro j hj
    cases hj
    exact ⟨by simp [xG],_,hc⟩
  refine VE.newRow hS hw (by simp [ho]) hdead fun F S2 a w ρ own hag H=>?_
  have h1:=qD H x
  rw [hag.ev (x:=x) (by simp [ho,Op.operands,Call.operands]),hx] at h1
  have h2:=qD H y
  rw [hag.ev (x:=y) (by simp [ho,Op.operands,Call.operands])] at h2
  obtain ⟨flat,hs⟩:=hy F S2 a w ρ own H (fun j hj=>hag.2.1 j (by simp [hj])) _ h2
  have hob:=H.obj id _ ((hag.2.1 id (by simp [xG])).trans hc)
  have hdst:Dst w (okB w own ρ S2.h) e i.cells (xs.take n) (a.eval x)∧∀ b,blk (a.eval x)=some b→∃ j,(some id:Option Nat)=some j∧blk (ρ j)=some b:=by
    generalize a.eval x=v at h1
    cases h1 with
    |@rsl _ _ _ _ b c n0 e1 hlc =>
      rw [e1] at hob
      have hrow:=Ru (n:=n) hob hlc hn
      simp only [Nat.zero_mul,Nat.sub_zero]
      cases hrow with
      |row r1 r2 r3 r4=>exact ⟨⟨_,r3,r4⟩,fun b' hb'=>⟨id,rfl,by rw [e1];exact hb'⟩⟩
  obtain ⟨v',w',hrun,hxt,h1c,hbl,flat',hown',hrel'⟩:=Qb (ty:=o.type) hd hi hk hxl hyl hdst.1 hs hb hm
  refine ⟨v',w', ?_,hxt.weaken fun b _ hb=>hdst.2 b hb,h1c, ?_,fun b hb'=>(hbl b hb').imp (fun h=>h) (hdst.2 b)⟩
  · unfold execOp
    simp only [ho,resolve,invoke,builtin,Sem.run_bind,Sem.run_pure,Result.andThen_ok,List.map_toArray,List.map_cons,List.map_nil,hrun]
  · refine .row hk (fun r hr'=>?_) hown' fun q r j d hq hj=>?_
    · rcases List.mem_append.1 hr' with h|h
      · exact hxl r h
      · exact hyl r h
    · obtain ⟨u,hu,hdu⟩:=hrel' q r j d hq hj
      refine ⟨u,hu,hdu.mono fun b hb'=>⟨hb',hxt.block b hb'.1 fun hbx=>?_⟩⟩
      obtain ⟨j',hj',hbj⟩:=hdst.2 b hbx
      obtain ⟨hmem,ob,hob⟩:=hdead j' hj'
      exact hb'.2.2 j' ob ((hag.2.1 j' hmem).trans hob) hbj
end Go.Sym
namespace Go.Sym
open Go
set_option linter.all false
variable {P : Program} {A : Frm → Prop}
theorem QeS {ops:Array Oper} {o:Oper} {S:St} (hS:Wf S) (hw:Want ops o S) {t e:TypeId} {x:Operand} (ho:o.op=.call { callee:=.builtin .clear,args:=#[x],argTypes:=#[t] }) {i j:TI} (ht:TyFact P t i) (htd:i.td=.slice e) (hj:TyFact P e j) (hk:0 < j.cells) {id lo n:Nat} {e':TypeId} {xs:List (List DV)}
    (hx:ev S x=.rsl id j.cells lo n) (hc:S.h id=some (.row e' j.cells xs)) (hfit:lo+n≤xs.length) (hn:0 < n) {ds:List DV} (hz:dvL j.zero=some ds) :
    VE A P ops o { av:=.junk,hw:=[(id,some (.row e' j.cells (xs.take lo++List.replicate n ds++xs.drop (lo+n))))],hr:=[id],n:=S.n } S:=by
  obtain ⟨d,hd,hok⟩:=ht.under
  rw [htd] at hok
  simp only [TD.ok] at hok
  subst hok
  refine VE.setRet (by simp [AV.ids]) hS hw (by simp [ho]) hc (by simp) (by simp [AObj.ids]) fun F S2 a w ρ own hag H hob=>?_
  have hxr:=qD H x
  rw [hag.ev (x:=x) (by simp [ho,Op.operands,Call.operands])] at hxr
  obtain ⟨inf,z,hinf,_,_,hzi,z1,z2,z3⟩:=hj.info
  have hzv:∀ w,(zeroValue e).run P w=.ok z w:=fun w=>by simp [zeroValue,typeInfo,hinf,hzi]
  obtain ⟨g1,g2⟩:=YH hz
  have hdl:ds.length=j.cells:=by rw [← g1,← z1];simpa using z2
  obtain ⟨flat,hflat⟩:∃ flat,(madeCells z.cells (n * j.cells)).toList=flat:=⟨_,rfl⟩
  have hflen:flat.length=n * j.cells:=by rw [← hflat,Array.length_toList,size_madeCells]
  have hget:∀ q,q < n * j.cells→∃ v,flat[q]?=some v∧z.cells[q % j.cells]?=some v:=fun q hq=>by
    obtain ⟨h1,h2⟩:=VL z2 hq
    exact ⟨_,by rw [← hflat,Array.getElem?_toList,h1,Array.getElem?_eq_getElem h2],Array.getElem?_eq_getElem h2⟩
  have hone:∀ v ∈ flat,v.oneCell'=true:=fun v hv=>by
    obtain ⟨q,hq,rfl⟩:=List.mem_iff_getElem.1 hv
    obtain ⟨v,h1,h2⟩:=hget q (by rw [hflen] at hq;exact hq)
    rw [List.getElem?_eq_getElem hq] at h1
    rw [Option.some.inj h1]
    exact z3 v (by rw [← Array.getElem?_toList] at h2;exact List.mem_of_getElem? h2)
  have hrel:∀ (q:Nat) (r:List DV) (p:Nat) (dd:DV),(List.replicate n ds)[q]?=some r→r[p]?=some dd→∃ u,flat[q * j.cells+p]?=some u∧DRel w (okB w own ρ S2.h) dd u:=fun q r p dd hq hp=>by
    have hqn:=(List.getElem?_eq_some_iff.1 hq).1
    rw [List.length_replicate] at hqn
    rw [List.getElem?_replicate,if_pos hqn] at hq
    cases hq
    have hpl:p < j.cells:=by rw [← hdl];exact (List.getElem?_eq_some_iff.1 hp).1
    have hlt:q * j.cells+p < n * j.cells:=by
      have:(q+1) * j.cells≤n * j.cells:=Nat.mul_le_mul_right _ hqn
      rw [Nat.add_mul] at this;omega
    obtain ⟨v,h1,h2⟩:=hget _ hlt
    rw [show (q * j.cells+p) % j.cells=p by rw [Nat.add_comm,Nat.add_mul_mod_self_right,Nat.mod_eq_of_lt hpl]] at h2
    obtain ⟨c,hc,hcd⟩:=g2 p dd hp
    rw [← z1,List.getElem?_map] at hc
    obtain ⟨v',hv',rfl⟩:=Option.map_eq_some_iff.1 hc
    rw [Array.getElem?_toList,h2] at hv'
    cases hv'
    exact ⟨v,h1,WT (ρ:=ρ) (y:=F.y) hcd (kG v)⟩
  have h5:=H.obj id _ hob
  have hxv:∃ dc,(∃ n0 c,ρ id=.slice (some ⟨(blk (ρ id)).getD 0,0,none⟩) n0 c)∧a.eval x=.slice (some ⟨(blk (ρ id)).getD 0,lo * j.cells,none⟩) n dc:=by
    generalize a.eval x=v at hxr
    rw [hx] at hxr
    cases hxr with
    |@rsl _ _ _ _ b c n0 e1 hlc =>
      rw [e1]
      have:blk (.slice (some ⟨b,0,none⟩) n0 c)=some b:=by simp only [blk];rw [if_neg (by omega)]
      rw [this];exact ⟨c - lo,⟨_,_,rfl⟩,rfl⟩
  obtain ⟨dc,⟨n0,c,hρ⟩,hxv⟩:=hxv
  generalize hbb:(blk (ρ id)).getD 0=b at hρ hxv
  cases h5':ρ id with
  |slice aa nn0 cc =>
    rw [h5'] at hρ
    simp only [Value.slice.injEq] at hρ
    obtain ⟨rfl,rfl,rfl⟩:=hρ
    rw [h5'] at h5
    cases h5 with
    |row r1 r2 r3 r4 =>
      obtain ⟨hown,g,cap,cur,hge,hg,hnc,hcm,hcs,htk,hblk⟩:=jH r3 (by omega)
      simp only [Value.slice.injEq,Option.some.injEq,Addr.mk.injEq,and_true] at hge
      obtain ⟨rfl,rfl,rfl⟩:=hge
      have hfl:(flat.take (n * j.cells))=flat:=List.take_of_length_le (by omega)
      have hkn:lo * j.cells+n * j.cells≤xs.length * j.cells:=by rw [← Nat.add_mul];exact Nat.mul_le_mul_right _ (by omega)
      have hkc:xs.length * j.cells≤cc * j.cells:=Nat.mul_le_mul_right _ hnc
      have hcl:(flat.take (n * j.cells)).length=n * j.cells:=by rw [List.length_take];omega
      have hfit':lo * j.cells+(flat.take (n * j.cells)).length≤cur.toList.length:=by rw [hcl,Array.length_toList,hcs];omega
      have hrun:=run_storeCells_at P b (lo * j.cells) e' (flat.take (n * j.cells)) 0 cur w hg (by rw [Nat.add_zero];simpa using hfit') (fun v hv=>hone v (List.mem_of_mem_take hv))
      simp only [Nat.add_zero] at hrun
      refine ⟨.tuple #[],w.setRow b (cur.toList.take (lo * j.cells)++flat.take (n * j.cells)++cur.toList.drop (lo * j.cells+(flat.take (n * j.cells)).length)).toArray, ?_,Ext.setRow w b _ hblk, ?_,fun _ _ _ _=>.junk⟩
      · unfold execOp
        simp only [ho,resolve,invoke,builtin,Sem.run_bind,Sem.run_pure,Result.andThen_ok,List.map_toArray,List.map_cons,List.map_nil,hxv]
        obtain ⟨n',rfl⟩:∃ n',n=n'+1:=⟨n - 1,by omega⟩
        have hzz:(Builtin.zeroCells z.cells (n'+1)).toList=flat:=by rw [← hflat,← z2];rfl
        rw [hfl] at hrun
        simp [Builtin.clear_,run_underlying hd,hzv,hzz,hrun,hfl]
      · try rw [h5']
        have hyt:(List.replicate n ds).length=n:=by simp
        have hfx:lo+(List.replicate n ds).length≤xs.length:=by omega
        have e1:xs.take lo++List.replicate n ds++xs.drop (lo+n)=xs.take lo++List.replicate n ds++xs.drop (lo+(List.replicate n ds).length):=by rw [hyt]
        rw [e1]
        have hlen':=ze (new:=List.replicate n ds) hfx
        have hcl2:cur.toList.length=cc * j.cells:=by rw [Array.length_toList (xs:=cur),hcs]
        have hmono:∀ {d u},DRel w (okB w own ρ S2.h) d u→DRel (w.setRow b (cur.toList.take (lo * j.cells)++flat.take (n * j.cells)++cur.toList.drop (lo * j.cells+(flat.take (n * j.cells)).length)).toArray) (okB w own ρ S2.h) d u:=fun hr =>
          hr.mono fun q hq=>⟨hq,setRow_other w b q _ (fun eq=>hq.2.2 id _ hob (by rw [h5',hblk,eq]))⟩
        refine .row (flat:=(cur.toList.take (lo * j.cells)++flat.take (n * j.cells)++cur.toList.drop (lo * j.cells+(flat.take (n * j.cells)).length)).take (xs.length * j.cells)) hk (fun r hr=>?_) (.inl ⟨?_,.inr ⟨b,cc,_,by rw [hlen'],Nat.zero_le _,setRow_heap w b cur _ _ _ hg,by rw [hlen'];exact hnc,hcm, ?_, ?_⟩⟩) fun q r p dd hq hp=>?_
        · simp only [List.mem_append] at hr
          rcases hr with (hr|hr)|hr
          · exact r2 r (List.mem_of_mem_take hr)
          · rw [List.eq_of_mem_replicate hr,hdl]
          · exact r2 r (List.mem_of_mem_drop hr)
        · rw [hlen',List.length_take,ze hfit',hcl2];omega
        · rw [List.size_toArray,ze hfit',hcl2]
        · rw [hlen']
        · have hpk:p < j.cells:=by
            have:=(List.getElem?_eq_some_iff.1 hp).1
            rw [wE hfx] at hq
            split at hq
            · rw [r2 r (List.mem_of_getElem? hq)] at this;exact this
            · split at hq
              · rw [List.eq_of_mem_replicate (List.mem_of_getElem? hq),hdl] at this;exact this
              · rw [r2 r (List.mem_of_getElem? hq)] at this;exact this
          have hql:q < xs.length:=by have:=(List.getElem?_eq_some_iff.1 hq).1;rwa [hlen'] at this
          have hqk:(q+1) * j.cells≤xs.length * j.cells:=Nat.mul_le_mul_right _ hql
          rw [Nat.add_mul] at hqk
          have old:xs[q]?=some r→∃ u,cur.toList[q * j.cells+p]?=some u∧DRel w (okB w own ρ S2.h) dd u:=fun hq=>by
            obtain ⟨u,hu,hdu⟩:=r4 q r p dd hq hp
            rw [← htk,List.getElem?_take,if_pos (by omega)] at hu
            exact ⟨u,hu,hdu⟩
          rw [wE hfx,hyt] at hq
          rw [List.getElem?_take,if_pos (by omega),wE hfit']
          by_cases h1:q < lo
          · rw [if_pos h1] at hq
            have:(q+1) * j.cells≤lo * j.cells:=Nat.mul_le_mul_right _ h1
            rw [Nat.add_mul] at this
            rw [if_pos (by omega)]
            obtain ⟨u,hu,hdu⟩:=old hq
            exact ⟨u,hu,hmono hdu⟩
          · rw [if_neg h1] at hq
            have g1:lo * j.cells≤q * j.cells:=Nat.mul_le_mul_right _ (by omega)
            rw [if_neg (by omega)]
            by_cases h2:q < lo+n
            · rw [if_pos h2] at hq
              have:(q+1) * j.cells≤(lo+n) * j.cells:=Nat.mul_le_mul_right _ h2
              rw [Nat.add_mul,Nat.add_mul] at this
              rw [if_pos (by omega)]
              obtain ⟨u,hu,hdu⟩:=hrel _ _ _ _ hq hp
              have e2:q * j.cells+p - lo * j.cells=(q - lo) * j.cells+p:=by
                have:q * j.cells=(q - lo) * j.cells+lo * j.cells:=by rw [← Nat.add_mul];congr 1;omega
                omega
              have e3:(q - lo+1) * j.cells≤n * j.cells:=Nat.mul_le_mul_right _ (by omega)
              rw [Nat.add_mul] at e3
              exact ⟨u,by rw [e2,List.getElem?_take,if_pos (by omega)];exact hu,hmono hdu⟩
            · rw [if_neg h2] at hq
              have:(lo+n) * j.cells≤q * j.cells:=Nat.mul_le_mul_right _ (by omega)
              rw [Nat.add_mul] at this
              rw [if_neg (by omega)]
              obtain ⟨u,hu,hdu⟩:=old hq
              exact ⟨u,hu,hmono hdu⟩
  |_=>rw [h5'] at hρ;cases hρ
end Go.Sym
namespace Go.Sym
open Go
variable {A : Frm → Prop} {P : Program}
theorem VE.newOb {ops:Array Oper} {o:Oper} {S:St} {ob':AObj} {dead:Option Nat} {hr:List Nat} (hS:Wf S) (hw:Want ops o S) (hd:∀ c,o.op ≠ .defer c)
    (hids:∀ i ∈ ob'.ids,i < S.n) (hdead:∀ i,dead=some i→i ∈ hr∧∃ ob,S.h i=some ob)
    (h:∀ F S2 a w ρ own,Agree ops o { av:=.row S.n,hw:=wR dead++[(S.n,some ob')],hr:=hr,news:=[S.n],n:=S.n+1 } S S2→Holds F S2 a w ρ own →
      ∃ v' w',(execOp a.eval o).run P w=.ok (.value v') w'∧Ext (fun b=>∃ i,dead=some i∧blk (ρ i)=some b) w w'∧v'.oneCell'=true∧ORel w' (okB w own ρ S2.h) ρ F.y ob' v' ∧
        ∀ b,blk v'=some b→w.heap.size≤b∨∃ i,dead=some i∧blk (ρ i)=some b) :
    VE A P ops o { av:=.row S.n,hw:=wR dead++[(S.n,some ob')],hr:=hr,news:=[S.n],n:=S.n+1 } S:=by
  have hdlt:∀ i,dead=some i→i < S.n:=fun i hi=>Nat.lt_of_not_le fun hn=>by
    obtain ⟨_,ob,hob⟩:=hdead i hi
    have:=(hS i hn).1;rw [hob] at this;cases this
  have hI:∀ id ∈ Eff.ids { av:=.row S.n,hw:=wR dead++[(S.n,some ob')],hr:=hr,news:=[S.n],n:=S.n+1 },id < S.n+1:=by
    intro id hid
    cases dead with
    |none =>
      simp [Eff.ids,AV.ids,wL,wR] at hid
      rcases hid with rfl|hid
      · omega
      · have:=hids id hid;omega
    |some i =>
      have:=hdlt i rfl
      simp [Eff.ids,AV.ids,wL,wR] at hid
      rcases hid with rfl|rfl|rfl|hid
      · omega
      · omega
      · omega
      · have:=hids id hid;omega
  have hkeys:∀ i,i ∈ Eff.keys { av:=.row S.n,hw:=wR dead++[(S.n,some ob')],hr:=hr,news:=[S.n],n:=S.n+1 } ↔ dead=some i∨i=S.n:=by
    intro i
    cases dead <;> simp [Eff.keys,wR,eq_comm]
  have hupdn:∀ (hp:Nat→Option AObj),zP hp (wR dead++[(S.n,some ob')]) S.n=some ob':=fun hp=>by
    cases dead <;> simp [wR,zP,upd_same]
  have hupdd:∀ (hp:Nat→Option AObj) i,dead=some i→zP hp (wR dead++[(S.n,some ob')]) i=none:=fun hp i hi=>by
    have hlt:=hdlt i hi
    subst hi
    simp [wR,zP,upd,Nat.ne_of_lt hlt]
  refine ⟨fun F hF hds S2 a w hag hfr ⟨ρ,own,H⟩=>?_,hI,by simp⟩
  rw [jo hw hag H,if_pos rfl]
  obtain ⟨v',w',hrun,hx,h1,horel,hblk⟩:=h F S2 a w ρ own hag H
  refine jA hd hrun (jm (ρ':=upd ρ S.n v') (own':=own) ?_)
  have hdob:∀ i,dead=some i→∃ ob,S2.h i=some ob:=fun i hi=>by
    obtain ⟨hm,ob,hob⟩:=hdead i hi
    exact ⟨ob,(hag.2.1 i hm).trans hob⟩
  have hno:∀ b i,dead=some i→own.all b→blk (ρ i) ≠ some b:=fun b i hi ho hb=>by
    obtain ⟨ob,hob⟩:=hdob i hi
    exact (H.blkOK i ob b hob hb).1 ho
  have hj:F.J S2.j own w':=(F.stable _ _ _ H.jay).2 _ (hx.weaken fun b _ ⟨i,hi,hb⟩ ho=>hno b i hi ho hb)
  have hok:∀ b,okB w own ρ S2.h b→okB w' own (upd ρ S.n v') (zP S2.h (wR dead++[(S.n,some ob')])) b∧w'.heap[b]?=w'.heap[b]?:=by
    rintro b ⟨g1,g2,g3⟩
    refine ⟨⟨Nat.lt_of_lt_of_le g1 hx.size,g2,fun i ob hi hb=>?_⟩,rfl⟩
    by_cases hin:i=S.n
    · subst hin
      rw [upd_same] at hb
      rcases hblk b hb with h|⟨i,hi',hb'⟩
      · omega
      · obtain ⟨ob',hob'⟩:=hdob i hi'
        exact g3 i ob' hob' hb'
    · by_cases hid:dead=some i
      · rw [hupdd _ i hid] at hi;cases hi
      · rw [zV (by rw [show List.map (fun x=>x.1) (wR dead++[(S.n,some ob')])=Eff.keys { av:=.row S.n,hw:=wR dead++[(S.n,some ob')],hr:=hr,news:=[S.n],n:=S.n+1 } from rfl,hkeys];rintro (h|h);exact hid h;exact hin h)] at hi
        rw [upd_ne _ _ _ _ hin] at hb
        exact g3 i ob hi hb
  refine H.app (vL hds) hj (hx.weaken fun b _ ⟨i,hi,hb⟩=>.inr (by obtain ⟨ob,hob⟩:=hdob i hi;exact ⟨i,ob,(hkeys i).2 (.inl hi),hob,hb⟩)) (.inl rfl) (fun i hi=>(hkeys i).2 (.inr (by simpa using hi))) (fun i hi=>upd_ne _ _ _ _ (by simpa using hi)) (by simpa using hfr)
    (.row (upd_same _ _ _) h1) ?_ ?_ ?_ .nil
  · intro i ob hi hob
    rcases (hkeys i).1 hi with hi|rfl
    · rw [hupdd _ i hi] at hob;cases hob
    · rw [hupdn] at hob
      cases hob
      rw [upd_same]
      refine ⟨horel.mono hok (fun _ _=>rfl) (fun id hid=>upd_ne _ _ _ _ (Nat.ne_of_lt (hids id hid))),fun b hb=>?_⟩
      rcases hblk b hb with h|⟨i,hi,hb'⟩
      · exact ⟨fun ho=>by have:=(F.stable _ _ _ H.jay).1 _ ho;omega,.inl h⟩
      · obtain ⟨ob',hob'⟩:=hdob i hi
        exact ⟨fun ho=>hno b i hi ho hb',.inr ⟨i,ob',(hkeys i).2 (.inl hi),hob',hb'⟩⟩
  · intro i q o1 o2 b hi hq ho1 ho2 _ _
    rcases (hkeys i).1 hi with hi|rfl
    · rw [hupdd _ i hi] at ho1;cases ho1
    · rcases (hkeys q).1 hq with hq|rfl
      · rw [hupdd _ q hq] at ho2;cases ho2
      · rfl
  · intro id hid
    exact Nat.lt_of_lt_of_le (hI id hid) (Nat.le_max_right _ _)
theorem Vk {S:St} (hS:Wf S) {id:Nat} {e:TypeId} {cs:List AV} (h:S.h id=some (.rows e cs)):∀ c ∈ cs,∀ i ∈ c.ids,i < S.n:=fun c hc i hi=>Nat.lt_of_not_le fun hn =>
  (hS i hn).2.2.1 id _ h (by simp only [AObj.ids];exact AV.mem_idsL.2 ⟨c,hc,hi⟩)
def opq (l:List Value):List (List DV):=l.map fun u=>[.v u]
theorem X6 {w:World} {ok:Nat→Prop} {l:List Value} (h:∀ (i:Nat) u,l[i]?=some u→u.oneCell'=true) :
    ∀ (i:Nat) (r:List DV) (j:Nat) (d:DV),(opq l)[i]?=some r→r[j]?=some d→∃ u,l[i * 1+j]?=some u∧DRel w ok d u:=by
  intro i r j d hi hj
  simp only [opq,List.getElem?_map] at hi
  obtain ⟨u,hu,rfl⟩:=Option.map_eq_some_iff.1 hi
  cases j with
  |succ j=>simp at hj
  |zero =>
    simp only [List.getElem?_cons_zero,Option.some.injEq] at hj
    subst hj
    exact ⟨u,by simpa using hu,.v (h i u hu)⟩
theorem YK (l:List Value):∀ r ∈ opq l,r.length=1:=fun r hr=>by
  simp only [opq,List.mem_map] at hr
  obtain ⟨_,_,rfl⟩:=hr
  rfl
theorem Jr {w:World} {ok:Nat→Prop} {ρ:Nat→Value} {y:Value} {e:TypeId} {cs:List AV} {x:Value} (h:ORel w ok ρ y (.rows e cs) x) :
    ∃ flat,Yq w e 1 x cs.length flat∧flat.length=cs.length∧(∀ (i:Nat) u,flat[i]?=some u→u.oneCell'=true)∧∀ (i:Nat) (c:AV),cs[i]?=some c→∃ u,flat[i]?=some u∧ARel w ok ρ y c u:=by
  cases h with
  |@rows _ _ _ flat h3 h4 =>
    have hl:flat.length=cs.length:=by
      rcases h3 with h3|⟨h0,rfl,_⟩
      · simpa using h3.1
      · simp [h0]
    refine ⟨flat,h3,hl,fun i u hu=>?_,fun i c hc=>let ⟨u,hu,hr,_⟩:=h4 i c hc;⟨u,hu,hr⟩⟩
    have hi:i < cs.length:=by have:=(List.getElem?_eq_some_iff.1 hu).1;omega
    obtain ⟨u',hu',_,h1⟩:=h4 i _ (List.getElem?_eq_getElem hi)
    rw [hu] at hu'
    cases hu'
    exact h1
def yO (S:St) (e:TypeId):AV→Prop × List AV × Option Nat
  |.nil=>(True,[],none)
  |.emp=>(True,[],none)
  |.row id=>match S.h id with
    |some (.rows e' cs)=>(e'=e,cs,some id)
    |_=>(False,[],none)
  |_=>(False,[],none)
def Qcf (S:St):AV→Option (Nat × List AV)
  |.row id=>match S.h id with
    |some (.rows _ cs)=>some (id,cs)
    |_=>none
  |_=>none
theorem Qb9 {S:St} {c:AV} {p:Nat × List AV} (h:Qcf S c=some p):c=.row p.1∧∃ e,S.h p.1=some (.rows e p.2):=by
  cases c <;> simp only [Qcf] at h <;> first|(cases h;done)|skip
  split at h
  · rename_i e cs hc;cases h;exact ⟨rfl,e,hc⟩
  · cases h
def notW (d:Option Nat) (i:Nat):Prop:=match d with
  |some d=>d ≠ i
  |none=>True
theorem Qe5 {S:St} (hS:Wf S) {e:TypeId} {c:AV} (h:(yO S e c).1):(∀ d ∈ (yO S e c).2.1,∀ i ∈ d.ids,i < S.n)∧∀ j,(yO S e c).2.2=some j→∃ ob,S.h j=some ob:=by
  cases c <;> simp only [yO] at h ⊢ <;> first|exact h.elim|skip
  · exact ⟨by simp,by simp⟩
  · exact ⟨by simp,by simp⟩
  · split at h
    · rename_i e' cs hc
      simp only [hc]
      exact ⟨fun d hd i hi=>Vk hS hc d hd i hi,fun j hj=>by cases hj;exact ⟨_,hc⟩⟩
    · exact h.elim
theorem Qf9 {F:Frm} {S S2:St} {a:Act} {w:World} {ρ:Nat→Value} {own:Own} (H:Holds F S2 a w ρ own) {e:TypeId} {c:AV} {v:Value} (h:(yO S e c).1)
    (hag:∀ id,(yO S e c).2.2=some id→S2.h id=S.h id) (hr:ARel w (okB w own ρ S2.h) ρ F.y c v) :
    ∃ f1,Yq w e 1 v (yO S e c).2.1.length f1∧f1.length=(yO S e c).2.1.length∧(∀ (i:Nat) u,f1[i]?=some u→u.oneCell'=true) ∧
      (∀ (i:Nat) d,(yO S e c).2.1[i]?=some d→∃ u,f1[i]?=some u∧ARel w (okB w own ρ S2.h) ρ F.y d u)∧∀ b,blk v=some b→∃ j,(yO S e c).2.2=some j∧blk (ρ j)=some b:=by
  cases c <;> simp only [yO] at h hag ⊢ <;> first|exact h.elim|skip
  · cases hr;exact ⟨[],.inl (World.ownsRow_nil _ _ _ _),rfl,by simp,by simp,by simp [blk]⟩
  · cases hr with|@emp q=>exact ⟨[],.inr ⟨rfl,rfl,q,rfl⟩,rfl,by simp,by simp,by cases q <;> simp [blk]⟩
  · rename_i id
    split at h
    · rename_i e' cs hc
      subst h
      simp only [hc] at hag ⊢
      have hob:=H.obj id _ ((hag id rfl).trans hc)
      cases hr with
      |row e1 _ =>
        rw [e1] at hob
        obtain ⟨flat,g1,g2,g3,g4⟩:=Jr hob
        exact ⟨flat,g1,g2,g3,g4,fun b hb=>⟨id,rfl,by rw [e1];exact hb⟩⟩
    · exact h.elim
section
variable {ops : Array Oper} {o : Oper} {S : St}
theorem LC (hS:Wf S) (hw:Want ops o S) {t e:TypeId} {x y:Operand} (ho:o.op=.call { callee:=.builtin .append,args:=#[x,y],argTypes:=#[t,t] }) {it i:TI} (ht:TyFact P t it) (htd:it.td=.slice e) (hi:TyFact P e i) (hk:i.cells=1)
    (hx:(yO S e (ev S x)).1) {id2:Nat} {e2:TypeId} {ds:List AV} (hy:ev S y=.row id2) (hh:S.h id2=some (.rows e2 ds)) (hne:notW (yO S e (ev S x)).2.2 id2)
    (hb:((yO S e (ev S x)).2.1.length+ds.length) * i.bytes≤140737488355328) (hm:(yO S e (ev S x)).2.1.length+ds.length≤maxLen) :
    VE A P ops o { av:=.row S.n,hw:=wR (yO S e (ev S x)).2.2++[(S.n,some (.rows e ((yO S e (ev S x)).2.1++ds)))],hr:=xG (yO S e (ev S x)).2.2++[id2],news:=[S.n],n:=S.n+1 } S:=by
  obtain ⟨d,hd,hok⟩:=ht.under
  rw [htd] at hok
  simp only [TD.ok] at hok
  subst hok
  obtain ⟨g1,g2⟩:=Qe5 hS hx
  have hdead:∀ j,(yO S e (ev S x)).2.2=some j→j ∈ xG (yO S e (ev S x)).2.2++[id2]∧∃ ob,S.h j=some ob:=fun j hj=>⟨by rw [hj];simp [xG],g2 j hj⟩
  refine VE.newOb hS hw (by simp [ho]) (fun i hi=>?_) hdead fun F S2 a w ρ own hag H=>?_
  · simp only [AObj.ids] at hi
    obtain ⟨c,hc,hi⟩:=AV.mem_idsL.1 hi
    rcases List.mem_append.1 hc with hc|hc
    · exact g1 c hc i hi
    · exact Vk hS hh c hc i hi
  have h1:=qD H x
  rw [hag.ev (x:=x) (by simp [ho,Op.operands,Call.operands])] at h1
  have h2:=qD H y
  rw [hag.ev (x:=y) (by simp [ho,Op.operands,Call.operands]),hy] at h2
  obtain ⟨f1,p1,p2,p3,p4,p5⟩:=Qf9 H hx (fun id hid=>hag.2.1 id (by rw [hid];simp [xG])) h1
  have hob:=H.obj id2 _ ((hag.2.1 id2 (by simp)).trans hh)
  generalize hvy:a.eval y=vy at h2
  cases h2 with
  |row e1 _ =>
    rw [e1] at hob
    obtain ⟨f2,q1,q2,q3,q4⟩:=Jr hob
    have hrow:ORel w (okB w own ρ S2.h) ρ F.y (.row e2 1 (opq f2)) vy:=.row (by omega) (YK f2) (by simpa [opq,q2] using q1) (X6 q3)
    obtain ⟨flat,hs⟩:=WZ hrow
    have hdst:Dst w (okB w own ρ S2.h) e 1 (opq f1) (a.eval x):=⟨f1,by simpa [opq,p2] using p1,X6 p3⟩
    rw [← hk] at hs hdst
    have hl1:(opq f1).length=(yO S e (ev S x)).2.1.length:=by simp [opq,p2]
    have hl2:(opq f2).length=ds.length:=by simp [opq,q2]
    obtain ⟨v',w',hrun,hxt,h1c,hbl,flat',hown',hrel'⟩:=Qb (ty:=o.type) hd hi (by omega) (fun r hr=>by rw [hk];exact YK f1 r hr) (fun r hr=>by rw [hk];exact YK f2 r hr) hdst hs (by rw [hl1,hl2];exact hb) (by rw [hl1,hl2];exact hm)
    rw [hk] at hown' hrel'
    refine ⟨v',w', ?_,hxt.weaken fun b _ hb=>p5 b hb,h1c, ?_,fun b hb'=>(hbl b hb').imp id (p5 b)⟩
    · unfold execOp
      simp only [ho,resolve,invoke,builtin,Sem.run_bind,Sem.run_pure,Result.andThen_ok,List.map_toArray,List.map_cons,List.map_nil,hvy,hrun]
    · refine .rows (flat:=flat') (by rw [List.length_append,← hl1,← hl2,← List.length_append];exact hown') fun q c hq=>?_
      have key:∃ u,(opq f1++opq f2)[q]?=some [.v u]∧ARel w (okB w own ρ S2.h) ρ F.y c u:=by
        by_cases hlt:q < (yO S e (ev S x)).2.1.length
        · rw [List.getElem?_append_left hlt] at hq
          obtain ⟨u,hu,hr⟩:=p4 q c hq
          exact ⟨u,by rw [List.getElem?_append_left (by omega)];simp [opq,hu],hr⟩
        · rw [List.getElem?_append_right (by omega)] at hq
          obtain ⟨u,hu,hr⟩:=q4 _ c hq
          exact ⟨u,by rw [List.getElem?_append_right (by omega),hl1];simp [opq,hu],hr⟩
      obtain ⟨u,hu,hr⟩:=key
      obtain ⟨u',hu',hd'⟩:=hrel' q _ 0 _ hu rfl
      cases hd' with
      |v h1 =>
        refine ⟨u,by simpa using hu',hr.mono (fun b hb'=>⟨hb',hxt.block b hb'.1 fun hbx=>?_⟩) (fun _ _=>rfl),h1⟩
        obtain ⟨j',hj',hbj⟩:=p5 b hbx
        obtain ⟨hmem,ob,hob⟩:=hdead j' hj'
        exact hb'.2.2 j' ob ((hag.2.1 j' hmem).trans hob) hbj
theorem Qb0 (hS:Wf S) (hw:Want ops o S) {t e:TypeId} {n:Nat} {parts:Array (Nat × Operand)} (ho:o.op=.buildSlice t n parts) {i j:TI} (ht:TyFact P t i) (htd:i.td=.slice e) (hj:TyFact P e j) (hk:j.cells=1) (hn:0 < n) (hmax:n≤16777216)
    {out:List AV} (h:xK (j4 1) (fun cs=>cs=out) (zeros j.zero n) (parts.toList.map fun p=>(p.1,ev S p.2))) :
    VE A P ops o { av:=.row S.n,hw:=wR none++[(S.n,some (.rows e out))],hr:=[],news:=[S.n],n:=S.n+1 } S:=by
  obtain ⟨d,hd,hok⟩:=ht.under
  rw [htd] at hok
  simp only [TD.ok] at hok
  subst hok
  obtain ⟨inf,z0,_,_,_,_,hz0,hzs0,_⟩:=hj.info
  have hzl:j.zero.length=1:=by rw [← hz0];simpa [hk] using hzs0
  have hol0:out.length=n:=by rw [Za h,zeros_length,hzl,Nat.mul_one]
  have hcid:∀ c ∈ out,∀ id ∈ c.ids,id < S.n:=by
    refine Ws h (fun c hc id hid=>?_) (fun p hp id hid=>?_)
    · obtain ⟨q,hq⟩:=List.mem_iff_getElem?.1 hc
      have hlt:q < n * j.zero.length:=by have:=(List.getElem?_eq_some_iff.1 hq).1;rwa [zeros_length] at this
      rw [Z4 _ _ _ hlt,← hz0,List.getElem?_map] at hq
      obtain ⟨v,_,rfl⟩:=Option.map_eq_some_iff.1 hq
      rw [Qz] at hid;cases hid
    · obtain ⟨q,_,rfl⟩:=List.mem_map.1 hp
      exact yh hS q.2 id hid
  refine VE.newOb hS hw (by simp [ho]) (fun i hi=>?_) (by simp) fun F S2 a w ρ own hag H=>?_
  · simp only [AObj.ids] at hi
    obtain ⟨c,hc,hi⟩:=AV.mem_idsL.1 hi
    exact hcid c hc i hi
  obtain ⟨z,hz,h1,h2,h3⟩:=hj.run_zero w
  have hsz:z.cells.size=1:=h2.trans hk
  have hp:=Z8 (S:=S) H (parts:=parts) fun x hx=>hag.ev (x:=x) (by simp [ho,Op.operands];simpa using hx)
  have hinit:CRel w (okB w own ρ S2.h) ρ F.y (zeros j.zero n) ((Array.range (n * 1)).map (z.cells[· % z.cells.size]!)):=by
    refine ⟨by simp [zeros_length,hzl],fun q c hc=>?_⟩
    have hq:q < n * 1:=by have:=(List.getElem?_eq_some_iff.1 hc).1;rwa [zeros_length,hzl] at this
    rw [Z4 _ _ _ (by rw [hzl];exact hq),hzl] at hc
    have hcr:=(Z5 (w:=w) (ok:=okB w own ρ S2.h) (ρ:=ρ) (y:=F.y) h1 h3).rel _ c hc
    have hmod:q % 1 < z.cells.size:=by rw [hsz];exact Nat.mod_lt _ (by omega)
    have:((Array.range (n * 1)).map (z.cells[· % z.cells.size]!)).getD q undef=z.cells.getD (q % 1) undef:=by
      have hq':q < n:=by omega
      simp [hq',hsz,Nat.mod_one]
    rw [this]
    exact hcr
  obtain ⟨_,vout,rfl,g2,g3⟩:=ZV h hp.1 hp.2 hinit
  have hol:vout.size=n:=by rw [g3.size,hol0]
  refine ⟨.slice (some ⟨w.heap.size,0,none⟩) n n,w.alloc (.cells vout e), ?_,(Ext.alloc _ _ _),rfl, ?_,fun b hb=>?_⟩
  · have h0:¬ (2 ^ 24 < n * 1):=by have:(2:Nat) ^ 24=16777216:=rfl;omega
    have h00:¬ (n * 1=0):=by omega
    have hpl:(fun q=>some (q * 1,1))=j4 1:=rfl
    simp only [execOp,ho,Instr.buildSlice,Sem.run_bind,run_underlying hd,Result.andThen_ok,hj.run_sizeOf,hk,gt_iff_lt,h0,if_false,h00,hz,Sem.run_pure,hpl,g2]
    simp [newRow,newObj,Sem.run]
  · refine .rows (flat:=vout.toList) (.inl ⟨by simp [hol,hol0],.inr ⟨w.heap.size,n,vout,by rw [hol0],Nat.zero_le _,xD _ _,by rw [hol0];exact Nat.le_refl _, ?_,by rw [hol,Nat.mul_one], ?_⟩⟩) fun i c hc=>?_
    · have hml:(16777216:Nat)≤maxLen:=by decide
      omega
    · rw [hol0];exact List.take_of_length_le (by rw [Array.length_toList,hol];omega)
    · obtain ⟨r1,r2⟩:=g3.rel i c hc
      have hlt:i < vout.size:=by have:=(List.getElem?_eq_some_iff.1 hc).1;omega
      refine ⟨vout.getD i undef,by simp [hlt],r1.mono (fun b hb=>⟨hb,(Ext.alloc (fun _=>False) w _).block b hb.1 (by simp)⟩) (fun _ _=>rfl),r2⟩
  · simp only [blk] at hb
    split at hb
    · cases hb
    · cases hb;exact .inl (Nat.le_refl _)
theorem Qb7 (hS:Wf S) (hw:Want ops o S) {t e:TypeId} {x ix:Operand} (ho:o.op=.indexAddr t x ix) {i j:TI} (ht:TyFact P t i) (htd:i.td=.slice e) (hj:TyFact P e j) (hk:j.cells=1) {k:IntKind} {n:Int} (hn:ev S ix=.v (.int k n))
    {id:Nat} {e':TypeId} {cs:List AV} (hx:ev S x=.row id) (hh:S.h id=some (.rows e' cs)) (h0:0≤n) (hlt:n.toNat < cs.length):VE A P ops o { av:=.rp id 1 n.toNat 0,hr:=[id],n:=S.n } S:=by
  obtain ⟨d,hd,hok⟩:=ht.under
  rw [htd] at hok
  simp only [TD.ok] at hok
  subst hok
  have hids:=yh hS x
  rw [hx] at hids
  refine VE.val hw (by simp [ho]) (by simpa [AV.ids] using hids) fun F S2 a w ρ own hag H=>?_
  have h1:=qD H x
  rw [hag.ev (x:=x) (by simp [ho,Op.operands]),hx] at h1
  have h2:=qD H ix
  rw [hag.ev (x:=ix) (by simp [ho,Op.operands]),hn] at h2
  have h2:=(qW h2).1
  generalize hv:a.eval x=v at h1
  cases h1 with
  |row e1 e2 =>
    have hobj:=H.obj id _ ((hag.2.1 id (by simp)).trans hh)
    rw [e1] at hobj
    obtain ⟨flat,r3,_⟩:=Jr hobj
    obtain ⟨_,g,cap,cur,rfl,_⟩:=jH r3 (by omega)
    have hnm:n < (cs.length:Int):=by omega
    refine ⟨.pointer (some ⟨g,n.toNat * 1,none⟩),w, ?_,Ext.none w, ?_⟩
    · simp [execOp,ho,hv,h2,Instr.indexAt,asIntOf,run_underlying hd,hj.run_sizeOf,hk,h0,hnm,jR]
    · exact .rp (off:=0) e1
theorem Qgv {id i:Nat} {e:TypeId} {cs:List AV} (hh:S.h id=some (.rows e cs)) (hi:i < cs.length):RdOK S (.rp id 1 i 0) 1 [cs[i]] [id]:=by
  refine ⟨fun hS c hc j hj=>?_,fun F S2 a w ρ own v hag H hv=>?_⟩
  · rw [List.mem_singleton] at hc
    subst hc
    exact Vk hS hh _ (List.getElem_mem hi) j hj
  · have ho:=H.obj id _ ((hag id (by simp)).trans hh)
    cases hv with
    |@rp _ _ _ _ b m c e' =>
      rw [e'] at ho
      obtain ⟨flat,r3,r4,r5,r6⟩:=Jr ho
      have hcell:=(jH r3 (by omega)).1.cells (g:=b) rfl
      obtain ⟨u,hu,hr⟩:=r6 i _ (List.getElem?_eq_getElem hi)
      refine ⟨rfl,_,[u],rfl,rfl,fun j u' hu'=>?_,fun j c u' hc hu'=>?_⟩
      · cases j with
        |succ j=>simp at hu'
        |zero =>
          simp only [List.getElem?_cons_zero,Option.some.injEq] at hu'
          subst hu'
          have:=hcell _ u hu
          rw [jR] at this
          rw [jR]
          simpa using this
      · cases j with
        |succ j=>simp at hu'
        |zero =>
          simp only [List.getElem?_cons_zero,Option.some.injEq] at hu' hc
          subst hu' hc
          exact ⟨hr,r5 i u hu⟩
theorem QdT {w:World} {ok:Nat→Prop} {ρ:Nat→Value} {y:Value} {e:TypeId} {cs:List AV} {x:Value} (h:ORel w ok ρ y (.rows e cs) x):∃ a c,x=.slice a cs.length c∧cs.length≤maxLen:=by
  obtain ⟨flat,h3,hl,h4,_⟩:=Jr h
  have hrow:ORel w ok ρ y (.row e 1 (opq flat)) x:=.row (by omega) (YK flat) (by simpa [opq,hl] using h3) (X6 h4)
  have:=Qbo hrow
  simpa [opq,hl] using this
theorem Qgy (hw:Want ops o S) {t:TypeId} {x:Operand} (ho:o.op=.call { callee:=.builtin .len,args:=#[x],argTypes:=#[t] }) {i:TI} (ht:TyFact P t i) {e:TypeId} (htd:i.td=.slice e)
    {id:Nat} {e':TypeId} {cs:List AV} (hx:ev S x=.row id) (hh:S.h id=some (.rows e' cs)):VE A P ops o { av:=.v (.int .i64 cs.length),hr:=[id],n:=S.n } S:=by
  obtain ⟨d,hd,hok⟩:=ht.under
  rw [htd] at hok
  simp only [TD.ok] at hok
  subst hok
  refine VE.val hw (by simp [ho]) (by simp [AV.ids]) fun F S2 a w ρ own hag H=>?_
  have h1:=qD H x
  rw [hag.ev (x:=x) (by simp [ho,Op.operands,Call.operands]),hx] at h1
  refine ⟨_,w, ?_,Ext.none w,.v rfl⟩
  have hob:=H.obj id _ ((hag.2.1 id (by simp)).trans hh)
  generalize hv:a.eval x=v at h1
  cases h1 with
  |row e1 _ =>
    rw [e1] at hob
    obtain ⟨a0,c0,rfl,_⟩:=QdT hob
    have hrun:(Builtin.len_ #[t] o.type #[.slice a0 cs.length c0]).run P w=.ok (.int .i64 cs.length) w:=by simp [Builtin.len_,run_underlying hd,goInt]
    unfold execOp
    simp only [ho,resolve,invoke,builtin,Sem.run_bind,Sem.run_pure,Result.andThen_ok,List.map_toArray,List.map_cons,List.map_nil,hv,hrun]
end
end Go.Sym
namespace Go.Sym
open Go
variable {A : Frm → Prop} {P : Program}
theorem Qcz (op:BinOp) (t:TypeId) (x y:Operand) (a b:ByteArray) (w:World):(eqGuard op t x y (.string a) (.string b)).run P w=.ok () w:=by
  cases op <;> rfl
theorem Qcj (op:BinOp) (t:TypeId) (a b:ByteArray):binOp op t (.string a) (.string b)=Op.stringOp op a b:=by
  cases op <;> rfl
theorem JR {ops:Array Oper} {o:Oper} {S:St} (hw:Want ops o S) {op:BinOp} {t:TypeId} {x y:Operand} {c:TypeId} (ho:o.op=.binOp op t x y c) {a b:ByteArray} (hx:ev S x=.v (.string a)) (hy:ev S y=.v (.string b)) {v:Value} (h1:v.oneCell'=true)
    (h:∀ w,(Op.stringOp op a b).run P w=.ok v w):VE A P ops o { av:=.v v,n:=S.n } S :=
  VE.val2 hw (by simp [ho]) (by simp [ho,Op.operands]) (by simp [ho,Op.operands]) hx hy h1 fun ac w ex ey=>by
    simp [execOp,ho,ex,ey,Qcz,Qcj,h w]
theorem QfX {a b:List UInt8} (h:a.length+b.length≤9223372036854775807) (w:World):(Op.stringOp .add ⟨⟨a⟩⟩ ⟨⟨b⟩⟩).run P w=.ok (.string ⟨⟨a++b⟩⟩) w:=by
  have e:¬ (((ByteArray.size ⟨⟨a⟩⟩+ByteArray.size ⟨⟨b⟩⟩:Nat):Int) > IntKind.i64.max):=by
    show ¬ (((a.length+b.length:Nat):Int) > 9223372036854775807)
    omega
  have e2:(⟨⟨a⟩⟩:ByteArray)++⟨⟨b⟩⟩=⟨⟨a++b⟩⟩:=by
    apply ByteArray.ext
    simp
  simp only [Op.stringOp]
  rw [if_neg e,e2]
  rfl
theorem Qf1 (a b:List UInt8) (w:World):(Op.stringOp .eql ⟨⟨a⟩⟩ ⟨⟨b⟩⟩).run P w=.ok (.bool (a == b)) w:=by
  simp only [Op.stringOp,ByteArray.toList_eq];rfl
theorem Qgc (a b:List UInt8) (w:World):(Op.stringOp .neq ⟨⟨a⟩⟩ ⟨⟨b⟩⟩).run P w=.ok (.bool (!(a == b))) w:=by
  simp only [Op.stringOp,ByteArray.toList_eq];rfl
end Go.Sym
namespace Go.Sym
open Go
variable {A : Frm → Prop} {P : Program}
abbrev Ans:=Prop × Eff
def bad:Ans:=(False,{ av:=.junk })
abbrev Ctr:=St→Option FuncId→List AV→Ans
def wO:AV→Option (Option FuncId × List AV)
  |.clo f caps=>some (some f,caps)
  |.cb=>some (none,[])
  |.bnd f _=>some (some f,[])
  |_=>none
theorem QR {v:AV} {f:FuncId} {caps:List AV} (h:wO v=some (some f,caps)):v=.clo f caps∧ZA v=[]∨v=.bnd f (ZA v)∧caps=[]:=by
  cases v <;> simp only [wO,Option.some.injEq,Prod.mk.injEq,reduceCtorEq,false_and] at h
  · obtain ⟨rfl,rfl⟩:=h;exact .inl ⟨rfl,rfl⟩
  · obtain ⟨rfl,rfl⟩:=h;exact .inr ⟨rfl,rfl⟩
theorem QcI {v:AV} {caps:List AV} (h:wO v=some (none,caps)):ZA v=[]:=by
  cases v <;> first|rfl|(simp [wO] at h;done)
def Ctr.OK (A:Frm→Prop) (P:Program) (Φ:Ctr):Prop:=∀ S f bs,(Φ S f bs).1→Wf S→∀ ops o g args tys caps,Want ops o S→o.op=.call { callee:=.value g,args:=args,argTypes:=tys }→wO (ev S g)=some (f,caps)→ZA (ev S g)++(args.toList.map (ev S)++caps)=bs→VE A P ops o (Φ S f bs).2 S
def rdE (S:St) (n:Nat):AV→Prop × List AV × List Nat
  |.ptr id off=>match S.h id with
    |some (.cells cs)=>(off+n≤cs.length,(cs.drop off).take n,[id])
    |_=>(False,[],[])
  |.ep cs off=>(off+n≤cs.length,((cs.drop off).take n).map DV.av,[])
  |.rp id k i off=>match S.h id with
    |some (.row _ k' xs)=>(k'=k∧off+n≤k∧i < xs.length,(((xs.getD i []).drop off).take n).map DV.av,[id])
    |some (.rows _ cs)=>(k=1∧n=1∧off=0∧i < cs.length,[cs.getD i .junk],[id])
    |_=>(False,[],[])
  |_=>(False,[],[])
theorem kK {α:Type} {xs:List α} {i:Nat} (h:i < xs.length) (z:α):xs.getD i z=xs[i]:=by simp [h]
theorem Qdx {S:St} {n:Nat} {c:AV} (h:(rdE S n c).1):RdOK S c n (rdE S n c).2.1 (rdE S n c).2.2:=by
  by_cases hr:∃ id k i off e cs,c=.rp id k i off∧S.h id=some (.rows e cs)
  · obtain ⟨id,k,i,off,e,cs,rfl,hc⟩:=hr
    simp only [rdE,hc] at h ⊢
    obtain ⟨rfl,rfl,rfl,h4⟩:=h
    rw [kK h4]
    exact Qgv hc h4
  have key:rd S n (fun cells hr=>cells=(rdE S n c).2.1∧hr=(rdE S n c).2.2) c:=by
    cases c <;> simp only [rdE] at h <;> simp only [rd]
    case ptr id off =>
      split at h
      · rename_i cs hc;rw [hc];exact ⟨cs,rfl,h,by simp [rdE,hc],by simp [rdE,hc]⟩
      · exact h.elim
    case ep cs off=>exact ⟨h,rfl,rfl⟩
    case rp id k i off =>
      split at h
      · rename_i e k' xs hc;rw [hc];exact ⟨e,k',xs,rfl,h.1,h.2.1,h.2.2,by simp only [rdE,hc];rw [kK h.2.2],by simp only [rdE,hc]⟩
      · rename_i e cs hc;exact absurd ⟨_,_,_,_,_,_,rfl,hc⟩ hr
      · exact h.elim
    all_goals exact h.elim
  obtain ⟨cells,hr,⟨rfl,rfl⟩,hrd⟩:=Ul key
  exact hrd
def UO (S:St) (i:Option TI) (x:AV):Ans:=match i with
  |some i=>((rdE S (bif i.td.agg then i.cells else 1) x).1,{ av:=vw i (rdE S (bif i.td.agg then i.cells else 1) x).2.1,hr:=(rdE S (bif i.td.agg then i.cells else 1) x).2.2,n:=S.n })
  |none=>bad
def QcQ (n:Nat):AV→AV
  |.ptr id o=>.ptr id (o+n)
  |.ep cs o=>.ep cs (o+n)
  |.rp id k i o=>.rp id k i (o+n)
  |_=>.junk
def ZX:AV→Prop
  |.ptr _ _=>True
  |.ep _ _=>True
  |.rp _ _ _ _=>True
  |_=>False
def JZ (S:St) (i:Option TI) (f:Nat) (x:AV):Ans:=match i with
  |some i=>match i.td with
    |.struct fs=>match fs[f]? with
      |some p=>(p.2.1 ≠ 0∧ZX x,{ av:=QcQ p.1 x,n:=S.n })
      |none=>bad
    |_=>bad
  |none=>bad
def wo (Γ:Tys) (i:Option TI):Option (TypeId × TI):=match i with
  |some i=>match i.td.elem with
    |some e=>match Γ e with
      |some j=>some (e,j)
      |none=>none
    |none=>none
  |none=>none
theorem kZ {Γ:Tys} {i:Option TI} {e:TypeId} {j:TI} (h:wo Γ i=some (e,j)):∃ i',i=some i'∧i'.td.elem=some e∧Γ e=some j:=by
  cases i with
  |none=>simp [wo] at h
  |some i =>
    simp only [wo] at h
    split at h
    · rename_i e' he
      split at h
      · rename_i j' hj;cases h;exact ⟨i,rfl,he,hj⟩
      · cases h
    · cases h
def dvZ (cs:List AV):List DV:=(dvL cs).getD []
def Zq (S:St) (ej:Option (TypeId × TI)) (i:Option TI) (ix:AV) (x:AV):Ans:=match ej,i,ix with
  |some (_,j),some i,.v (.int _ n)=>match x with
    |.sl xs=>((i.td.elem.isSome=true∧i.td.agg=false)∧0≤n∧n.toNat < xs.length∧(xs.getD n.toNat (dvZ j.zero)).length=j.cells,{ av:=.ep (xs.getD n.toNat (dvZ j.zero)) 0,n:=S.n })
    |.row id=>match S.h id with
      |some (.row _ k xs)=>((i.td.elem.isSome=true∧i.td.agg=false)∧k=j.cells∧0≤n∧n.toNat < xs.length,{ av:=.rp id k n.toNat 0,hr:=[id],n:=S.n })
      |some (.rows _ cs)=>((i.td.elem.isSome=true∧i.td.agg=false)∧j.cells=1∧0≤n∧n.toNat < cs.length,{ av:=.rp id 1 n.toNat 0,hr:=[id],n:=S.n })
      |_=>bad
    |.rsl id kk lo m=>match S.h id with
      |some (.row _ k xs)=>((i.td.elem.isSome=true∧i.td.agg=false)∧(k=j.cells∧kk=j.cells)∧0≤n∧n.toNat < m∧lo+m≤xs.length,{ av:=.rp id kk (lo+n.toNat) 0,hr:=[id],n:=S.n })
      |_=>bad
    |.csl id m=>((i.td.elem.isSome=true∧i.td.agg=false)∧0≤n∧n.toNat < m,{ av:=.ptr id (n.toNat * j.cells),n:=S.n })
    |.ptr id off=>match i.td with
      |.array m _=>(0≤n∧n.toNat < m,{ av:=.ptr id (off+n.toNat * j.cells),n:=S.n })
      |_=>bad
    |_=>bad
  |_,_,_=>bad
def L6 (S:St) (i:Option TI):Ans:=match i with
  |some i=>(True,{ av:=.ptr S.n 0,hw:=[(S.n,some (.cells i.zero))],news:=[S.n],n:=S.n+1 })
  |none=>bad
def boxE (S:St) (x:AV):Ans:=((cellsOf x).all jQ=true,{ av:=.ptr S.n 0,hw:=[(S.n,some (.cells (cellsOf x)))],news:=[S.n],n:=S.n+1 })
def dvE (S:St):AV→Prop × DV × List Nat
  |.v x=>(True,.v x,[])
  |.nil=>(True,.sl [],[])
  |.emp=>(True,.sl [],[])
  |.sl xs=>(True,.sl xs,[])
  |.row id=>match S.h id with
    |some (.row _ _ xs)=>(True,.sl xs,[id])
    |_=>(False,.sl [],[])
  |_=>(False,.sl [],[])
def xn (S:St):List AV→Prop × List DV × List Nat
  |[]=>(True,[],[])
  |c :: cs=>((dvE S c).1∧(xn S cs).1,(dvE S c).2.1 :: (xn S cs).2.1,(dvE S c).2.2++(xn S cs).2.2)
def Q7 (S:St) (i:Option TI) (x v:AV):Ans:=match i with
  |some i=>match x with
    |.ptr id off=>match S.h id with
      |some (.cells cs)=>((cellsOf v).all jQ=true∧(cellsOf v).length=i.cells∧off+(cellsOf v).length≤cs.length,{ av:=.junk,hw:=[(id,some (.cells (cs.take off++cellsOf v++cs.drop (off+(cellsOf v).length))))],hr:=[id],n:=S.n })
      |_=>bad
    |.rp id k m off=>match S.h id with
      |some (.row e k' xs)=>((cellsOf v).length=i.cells∧k'=k∧(xn S (cellsOf v)).1∧off+(xn S (cellsOf v)).2.1.length≤k∧m < xs.length∧id ∉ (xn S (cellsOf v)).2.2,{ av:=.junk,hw:=(id,some (.row e k (xs.set m ((xs.getD m []).take off++(xn S (cellsOf v)).2.1++(xs.getD m []).drop (off+(xn S (cellsOf v)).2.1.length))))) :: zA (xn S (cellsOf v)).2.2,hr:=id :: (xn S (cellsOf v)).2.2,n:=S.n })
      |_=>bad
    |_=>bad
  |none=>bad
def kQ (op:BinOp) (k:IntKind) (a b:Int):Prop × Value :=
  match op with
  |.add=>(True,.int k (k.wrap (a+b)))
  |.sub=>(True,.int k (k.wrap (a - b)))
  |.mul=>(True,.int k (k.wrap (a * b)))
  |.quo=>(b ≠ 0,.int k (k.wrap (a.tdiv b)))
  |.rem=>(b ≠ 0,.int k (a.tmod b))
  |.and=>(True,.int k (k.wrap (BitVec.ofInt k.bits a &&& BitVec.ofInt k.bits b).toNat))
  |.or=>(True,.int k (k.wrap (BitVec.ofInt k.bits a ||| BitVec.ofInt k.bits b).toNat))
  |.xor=>(True,.int k (k.wrap (BitVec.ofInt k.bits a ^^^ BitVec.ofInt k.bits b).toNat))
  |.andNot=>(True,.int k (k.wrap (BitVec.ofInt k.bits a &&& ~~~(BitVec.ofInt k.bits b)).toNat))
  |.eql=>(True,.bool (decide (a=b)))
  |.neq=>(True,.bool (!decide (a=b)))
  |.lss=>(True,.bool (decide (a < b)))
  |.leq=>(True,.bool (decide (a≤b)))
  |.gtr=>(True,.bool (decide (b < a)))
  |.geq=>(True,.bool (decide (b≤a)))
  |.shl=>(0≤b,.int k (k.wrap (a * 2 ^ min b.toNat k.bits)))
  |.shr=>(0≤b,.int k (a.fdiv (2 ^ min b.toNat k.bits)))
theorem Qc0 {op:BinOp} {k:IntKind} {a b:Int} (h:(kQ op k a b).1):Qfp op k a b fun v=>v=(kQ op k a b).2:=by
  cases op <;> simp only [kQ] at h <;> simp only [Qfp,kQ] <;> first|exact ⟨h,trivial⟩|exact rfl
def Qdc:Option IntKind→AV→AV→Prop × Bool
  |some k,.v (.int k1 a),.v (.int k2 b)=>(k1=k∧k2=k,decide (a=b))
  |none,.v (.bool a),.v (.bool b)=>(True,a == b)
  |_,_,_=>(False,false)
def eqE:List (Option IntKind)→List AV→List AV→Prop × Bool
  |[],[],[]=>(True,true)
  |k :: ks,c :: cs,d :: ds=>((Qdc k c d).1∧(eqE ks cs ds).1,(Qdc k c d).2 && (eqE ks cs ds).2)
  |_,_,_=>(False,false)
theorem VR:∀ {ks:List (Option IntKind)} {cs ds:List AV} {K:Bool→Prop},(eqE ks cs ds).1→K (eqE ks cs ds).2→eqB ks cs ds K
  |[],[],[],K,_,hk=>hk
  |k :: ks,c :: cs,d :: ds,K,h,hk=>by
    simp only [eqE] at h hk
    obtain ⟨h1,h2⟩:=h
    unfold Qdc at h1 hk
    split at h1
    · exact ⟨_,_,rfl,_,_,rfl,h1.1,h1.2,VR h2 hk⟩
    · exact ⟨_,rfl,_,rfl,VR h2 hk⟩
    · exact h1.elim
  |[],[],_ :: _,_,h,_=>by simp [eqE] at h
  |[],_ :: _,_,_,h,_=>by simp [eqE] at h
  |_ :: _,[],_,_,h,_=>by simp [eqE] at h
  |_ :: _,_ :: _,[],_,h,_=>by simp [eqE] at h
def boolT:Option TI→Bool
  |some i=>match i.td with
    |.bool=>true
    |_=>false
  |none=>false
def XC (S:St) (i:Option TI) (op:BinOp) (a b:Bool):Ans:=match op with
  |.eql=>(boolT i=true,{ av:=.v (.bool (a == b)),n:=S.n })
  |.neq=>(boolT i=true,{ av:=.v (.bool (!(a == b))),n:=S.n })
  |_=>bad
def Qa6 (S:St) (op:BinOp) (a b:List UInt8):Ans:=match op with
  |.add=>(a.length+b.length≤9223372036854775807,{ av:=.v (.string ⟨⟨a++b⟩⟩),n:=S.n })
  |.eql=>(True,{ av:=.v (.bool (a == b)),n:=S.n })
  |.neq=>(True,{ av:=.v (.bool (!(a == b))),n:=S.n })
  |_=>bad
def Vy (S:St) (i:Option TI) (op:BinOp) (x y:AV):Ans:=match x,y with
  |.v (.int k a),.v (.int k' b)=>((We op || k == k')=true∧(kQ op k a b).1,{ av:=.v (kQ op k a b).2,n:=S.n })
  |.agg cs,.agg ds=>match i with
    |some i=>match i.eqk with
      |some ks=>match op with
        |.eql=>((eqE ks cs ds).1,{ av:=.v (.bool (eqE ks cs ds).2),n:=S.n })
        |.neq=>((eqE ks cs ds).1,{ av:=.v (.bool (!(eqE ks cs ds).2)),n:=S.n })
        |_=>bad
      |none=>bad
    |none=>bad
  |.v (.bool a),.v (.bool b)=>XC S i op a b
  |.v (.string ⟨⟨a⟩⟩),.v (.string ⟨⟨b⟩⟩)=>Qa6 S op a b
  |_,_=>bad
def unE (S:St) (op:UnOp) (x:AV):Ans:=match op,x with
  |.not,.v (.bool b)=>(True,{ av:=.v (.bool (!b)),n:=S.n })
  |.neg,.v (.int k n)=>(True,{ av:=.v (.int k (k.wrap (0 - n))),n:=S.n })
  |_,_=>bad
def YZ (S:St) (i j:Option TI) (x:AV):Ans:=match i,j,x with
  |some _,some j,.v (.int _ n)=>match j.td with
    |.int k'=>(True,{ av:=.v (.int k' (k'.wrap n)),n:=S.n })
    |_=>bad
  |_,_,_=>bad
def Qaa (S:St) (x:AV) (ix:Nat):Ans:=match x with
  |.tup cs=>match cs[ix]? with
    |some c=>(True,{ av:=c,n:=S.n })
    |none=>bad
  |_=>bad
def JM (S:St) (i:Option TI) (x:AV):Ans:=match i with
  |some i=>match i.td with
    |.slice _=>match x with
      |.nil=>(True,{ av:=.v (.int .i64 0),n:=S.n })
      |.emp=>(True,{ av:=.v (.int .i64 0),n:=S.n })
      |.sl xs=>(True,{ av:=.v (.int .i64 xs.length),n:=S.n })
      |.csl _ m=>(True,{ av:=.v (.int .i64 m),n:=S.n })
      |.rsl _ _ _ m=>(True,{ av:=.v (.int .i64 m),n:=S.n })
      |.row id=>match S.h id with
        |some (.row _ _ xs)=>(True,{ av:=.v (.int .i64 xs.length),hr:=[id],n:=S.n })
        |some (.rows _ cs)=>(True,{ av:=.v (.int .i64 cs.length),hr:=[id],n:=S.n })
        |_=>bad
      |_=>bad
    |.string=>match x with
      |.v (.string s)=>(True,{ av:=.v (.int .i64 s.size),n:=S.n })
      |_=>bad
    |_=>bad
  |none=>bad
def xq (S:St):AV→Prop × List (List DV) × List Nat
  |.nil=>(True,[],[])
  |.emp=>(True,[],[])
  |.sl xs=>(True,xs,[])
  |.row id=>match S.h id with
    |some (.row _ _ xs)=>(True,xs,[id])
    |_=>(False,[],[])
  |_=>(False,[],[])
def dstE (S:St) (e:TypeId) (k:Nat):AV→Prop × List (List DV) × Option Nat
  |.nil=>(True,[],none)
  |.emp=>(True,[],none)
  |.row id=>match S.h id with
    |some (.row e' k' xs)=>(e'=e∧k'=k,xs,some id)
    |_=>(False,[],none)
  |_=>(False,[],none)
def zX (k:Nat) (xs:List (List DV)):Prop:=∀ r ∈ xs,r.length=k
theorem Qac (k:Nat):zX k []=True:=by simp [zX]
theorem Rq (k:Nat) (x:List DV) (xs:List (List DV)):zX k (x :: xs)=(x.length=k∧zX k xs):=by simp [zX]
theorem V9 (k:Nat) (xs ys:List (List DV)):zX k (xs++ys)=(zX k xs∧zX k ys):=by
  apply propext
  simp only [zX,List.mem_append]
  exact ⟨fun h=>⟨fun r hr=>h r (.inl hr),fun r hr=>h r (.inr hr)⟩,fun h r hr=>hr.elim (h.1 r) (h.2 r)⟩
theorem vk {α:Type} {k:Nat} {f:α→List DV} (h:∀ a,(f a).length=k) (l:List α):zX k (l.map f)=True:=by
  simp only [zX,List.mem_map]
  exact eq_true fun r ⟨a,_,e⟩=>e ▸ h a
def Qbc (d:Option Nat) (hr:List Nat):Prop:=match d with
  |some d=>d ∉ hr
  |none=>True
theorem Qa1 {d:Option Nat} {hr:List Nat} (h:Qbc d hr):∀ i,d=some i→i ∉ hr:=by
  rintro i rfl;exact h
def QfA (S:St) (ej:Option (TypeId × TI)) (sl:Bool) (x y:AV):Ans:=match ej with
  |some (e,j)=>(sl=true∧0 < j.cells∧(dstE S e j.cells x).1∧(xq S y).1∧Qbc (dstE S e j.cells x).2.2 (xq S y).2.2∧zX j.cells (dstE S e j.cells x).2.1∧zX j.cells (xq S y).2.1 ∧
      ((dstE S e j.cells x).2.1.length+(xq S y).2.1.length) * j.bytes≤140737488355328∧(dstE S e j.cells x).2.1.length+(xq S y).2.1.length≤maxLen,
      { av:=.row S.n,hw:=wR (dstE S e j.cells x).2.2++[(S.n,some (.row e j.cells ((dstE S e j.cells x).2.1++(xq S y).2.1)))],hr:=xG (dstE S e j.cells x).2.2++(xq S y).2.2,news:=[S.n],n:=S.n+1 })
  |none=>bad
def isSlice (i:Option TI):Bool:=match i with
  |some i=>match i.td with
    |.slice _=>true
    |_=>false
  |none=>false
def minE (S:St) (x y:AV):Ans:=match x,y with
  |.v (.int k a),.v (.int _ b)=>(True,{ av:=.v (.int k (min a b)),n:=S.n })
  |_,_=>bad
def maxE (S:St) (x y:AV):Ans:=match x,y with
  |.v (.int k a),.v (.int _ b)=>(True,{ av:=.v (.int k (max a b)),n:=S.n })
  |_,_=>bad
def zW (d:Int):Option AV→Prop × Int
  |none=>(True,d)
  |some (.v (.int _ n))=>(True,n)
  |some _=>(False,0)
def slE (x:AV):Prop × List (List DV):=match x with
  |.nil=>(True,[])
  |.emp=>(True,[])
  |.sl xs=>(True,xs)
  |_=>(False,[])
def Zx (S:St) (ej:Option (TypeId × TI)) (sl:Bool) (x:AV) (lo hi mx:Option AV):Ans:=match ej with
  |some (_,j)=>match mx with
    |none=>(sl=true∧(slE x).1∧(zW 0 lo).1∧(zW (slE x).2.length hi).1∧0≤(zW 0 lo).2∧(zW 0 lo).2≤(zW (slE x).2.length hi).2∧(zW (slE x).2.length hi).2≤(slE x).2.length∧zX j.cells (slE x).2,
        { av:=.sl (((slE x).2.take (zW (slE x).2.length hi).2.toNat).drop (zW 0 lo).2.toNat),n:=S.n })
    |some m=>(sl=true∧(slE x).1∧lo=none∧hi.isSome=true∧(zW 0 hi).1∧(zW 0 hi).2=0∧(zW 0 (some m)).1∧(zW 0 (some m)).2=0,{ av:=.emp,n:=S.n })
  |none=>bad
def yJ (place:Nat→Option (Nat × Nat)):List AV→List (Nat × AV)→Prop × List AV
  |cells,[]=>(True,cells)
  |cells,p :: rest=>match place p.1 with
    |some q=>((cellsOf p.2).length=q.2∧q.1+(cellsOf p.2).length≤cells.length∧(cellsOf p.2).all jQ=true∧(yJ place (cells.take q.1++cellsOf p.2++cells.drop (q.1+(cellsOf p.2).length)) rest).1,(yJ place (cells.take q.1++cellsOf p.2++cells.drop (q.1+(cellsOf p.2).length)) rest).2)
    |none=>(False,[])
theorem kJ {place:Nat→Option (Nat × Nat)} {K:List AV→Prop}:∀ {ps:List (Nat × AV)} {cells:List AV},(yJ place cells ps).1→K (yJ place cells ps).2→xK place K cells ps
  |[],_,_,hk=>hk
  |p :: ps,cells,h,hk=>by
    simp only [yJ] at h hk
    simp only [xK]
    split at h
    · rename_i q hq
      rw [hq] at hk ⊢
      exact ⟨h.1,h.2.1,h.2.2.1,kJ h.2.2.2 hk⟩
    · exact h.elim
def KC (S:St) (i:Option TI) (ps:List (Nat × AV)):Ans:=match i with
  |some i=>match i.td with
    |.struct fs=>((yJ (WI fs) i.zero ps).1,{ av:=.agg (yJ (WI fs) i.zero ps).2,n:=S.n })
    |_=>bad
  |none=>bad
theorem Qft {S:St} {c:AV} {K:DV→List Nat→Prop} (h:(dvE S c).1) (hk:K (dvE S c).2.1 (dvE S c).2.2):dvS S K c:=by
  cases c <;> simp only [dvE] at h hk <;> simp only [dvS] <;> first|exact hk|exact h.elim|skip
  split at h
  · rename_i e k xs hc;rw [hc] at hk ⊢;exact ⟨e,k,xs,rfl,hk⟩
  · exact h.elim
theorem J3 {S:St}:∀ {cs:List AV} {K:List DV→List Nat→Prop},(xn S cs).1→K (xn S cs).2.1 (xn S cs).2.2→Wx S K cs
  |[],K,_,hk=>hk
  |c :: cs,K,h,hk=>Qft h.1 (J3 h.2 hk)
def bsW (S:St) (e:TypeId) (j:TI) (sl:Bool) (n:Nat) (ps:List (Nat × AV)):Ans :=
  (sl=true∧j.cells=1∧n≤16777216∧(yJ (j4 1) (zeros j.zero n) ps).1,{ av:=.row S.n,hw:=wR none++[(S.n,some (.rows e (yJ (j4 1) (zeros j.zero n) ps).2))],hr:=[],news:=[S.n],n:=S.n+1 })
def bsE (S:St) (ej:Option (TypeId × TI)) (sl:Bool) (n:Nat) (ps:List (Nat × AV)):Ans:=match ej with
  |some (e,j)=>if n=0 then (sl=true∧ps=[],{ av:=.emp,n:=S.n }) else bif j.deep then bsW S e j sl n ps else
      (sl=true∧0 < j.cells∧n * j.cells≤16777216∧(yJ (j4 j.cells) (zeros j.zero n) ps).1∧(xn S (yJ (j4 j.cells) (zeros j.zero n) ps).2).1,
        { av:=.row S.n,hw:=(S.n,some (.row e j.cells (chunk j.cells n (xn S (yJ (j4 j.cells) (zeros j.zero n) ps).2).2.1))) :: zA (xn S (yJ (j4 j.cells) (zeros j.zero n) ps).2).2.2,hr:=(xn S (yJ (j4 j.cells) (zeros j.zero n) ps).2).2.2,news:=[S.n],n:=S.n+1 })
  |none=>bad
def Qfv (id k n:Nat) (l h:Int):Option AV→AV
  |none=>.rsl id k l.toNat (h.toNat - l.toNat)
  |some _=>if l < n then .rsl id k l.toNat (h.toNat - l.toNat) else .sl []
def Kr (S:St) (ej:Option (TypeId × TI)) (sl:Bool) (x:AV) (lo hi mx:Option AV):Ans:=match ej,x,mx with
  |some (_,j),.row id,none=>match S.h id with
    |some (.row _ k xs)=>(sl=true∧k=j.cells∧(zW 0 lo).1∧(zW xs.length hi).1∧0≤(zW 0 lo).2∧(zW 0 lo).2≤(zW xs.length hi).2∧(zW xs.length hi).2≤xs.length∧0 < xs.length,
        { av:=Qfv id j.cells xs.length (zW 0 lo).2 (zW xs.length hi).2 lo,hr:=[id],n:=S.n })
    |_=>bad
  |_,_,_=>bad
def Qbt:AV→Bool
  |.row _=>true
  |_=>false
def Lm (S:St) (ej:Option (TypeId × TI)) (i:Option TI) (x:AV) (lo hi mx:Option AV):Ans:=match ej,i with
  |some (_,_),some i=>match i.td with
    |.array m _=>match x with
      |.ptr id off=>match lo,mx with
        |none,none=>((zW m hi).1∧0≤(zW m hi).2∧(zW m hi).2≤m∧m≤maxLen,{ av:=.psl id off (zW m hi).2.toNat m,n:=S.n })
        |_,_=>bad
      |_=>bad
    |_=>bad
  |_,_=>bad
def Qbn:AV→Bool
  |.ptr _ _=>true
  |_=>false
def Vl (S:St) (i:Option TI) (ej:Option (TypeId × TI)) (sl:Bool) (x:AV) (lo hi mx:Option AV):Ans:=match Qbn x with
  |true=>Lm S ej i x lo hi mx
  |false=>match Qbt x with
    |true=>Kr S ej sl x lo hi mx
    |false=>Zx S ej sl x lo hi mx
def vC (S:St) (kk:Nat):AV→Prop × List (List DV) × List Nat
  |.sl ys=>(True,ys,[])
  |.row id=>match S.h id with
    |some (.row _ k xs)=>(k=kk,xs,[id])
    |_=>(False,[],[])
  |.rsl id k lo n=>match S.h id with
    |some (.row _ k' xs)=>(k=kk∧k'=kk∧lo+n≤xs.length,(xs.drop lo).take n,[id])
    |_=>(False,[],[])
  |_=>(False,[],[])
def appR (S:St) (ej:Option (TypeId × TI)) (sl:Bool) (x y:AV):Ans:=match ej,x with
  |some (e,j),.rsl id k' lo n=>match S.h id with
    |some (.row e' k xs)=>(sl=true∧0 < j.cells∧e'=e∧k=j.cells∧k'=j.cells∧lo=0∧n≤xs.length∧(vC S j.cells y).1∧zX j.cells (xs.take n)∧zX j.cells (vC S j.cells y).2.1 ∧
        ((xs.take n).length+(vC S j.cells y).2.1.length) * j.bytes≤140737488355328∧(xs.take n).length+(vC S j.cells y).2.1.length≤maxLen,
        { av:=.row S.n,hw:=wR (some id)++[(S.n,some (.row e j.cells (xs.take n++(vC S j.cells y).2.1)))],hr:=xG (some id)++(vC S j.cells y).2.2,news:=[S.n],n:=S.n+1 })
    |_=>bad
  |_,_=>bad
def Qbp:AV→Bool
  |.rsl _ _ _ _=>true
  |_=>false
def appW (S:St) (ej:Option (TypeId × TI)) (sl:Bool) (x:AV) (p:Nat × List AV):Ans:=match ej with
  |some (e,j)=>(sl=true∧j.cells=1∧(yO S e x).1∧notW (yO S e x).2.2 p.1∧((yO S e x).2.1.length+p.2.length) * j.bytes≤140737488355328∧(yO S e x).2.1.length+p.2.length≤maxLen,
      { av:=.row S.n,hw:=wR (yO S e x).2.2++[(S.n,some (.rows e ((yO S e x).2.1++p.2)))],hr:=xG (yO S e x).2.2++[p.1],news:=[S.n],n:=S.n+1 })
  |none=>bad
def Qfq (S:St) (ej:Option (TypeId × TI)) (sl:Bool) (x y:AV):Ans:=match Qbp x with
  |true=>appR S ej sl x y
  |false=>match Qcf S y with
    |some p=>appW S ej sl x p
    |none=>QfA S ej sl x y
def Qew:AV→Option (Nat × Nat × Option Nat)
  |.row id=>some (id,0,none)
  |.rsl id _ lo n=>some (id,lo,some n)
  |_=>none
def Xi (S:St) (ej:Option (TypeId × TI)) (sl:Bool) (x y:AV):Ans:=match ej,Qew x with
  |some (_,j),some (id,lo,nn)=>match S.h id with
    |some (.row e' k xs)=>(sl=true∧0 < j.cells∧k=j.cells∧(x=.row id∨x=.rsl id j.cells lo (nn.getD xs.length))∧lo+nn.getD xs.length≤xs.length∧0 < nn.getD xs.length∧(vC S j.cells y).1∧zX j.cells (vC S j.cells y).2.1∧0 < (vC S j.cells y).2.1.length,
        { av:=.v (.int .i64 (min (vC S j.cells y).2.1.length (nn.getD xs.length):Nat)),hw:=[(id,some (.row e' k (xs.take lo++(vC S j.cells y).2.1.take (min (vC S j.cells y).2.1.length (nn.getD xs.length))++xs.drop (lo+min (vC S j.cells y).2.1.length (nn.getD xs.length)))))],hr:=id :: (vC S j.cells y).2.2,n:=S.n })
    |_=>bad
  |_,_=>bad
def QdC (S:St) (ej:Option (TypeId × TI)) (sl:Bool) (x y:AV):Ans:=match ej,x with
  |some (_,j),.psl id off n _=>match S.h id with
    |some (.cells cs)=>(sl=true∧j.cells=1∧off+n≤cs.length∧(vC S 1 y).1∧zX 1 (vC S 1 y).2.1∧0 < (vC S 1 y).2.1.length,
        { av:=.v (.int .i64 (min (vC S 1 y).2.1.length n:Nat)),hw:=[(id,some (.cells (cs.take off++(((vC S 1 y).2.1.take (min (vC S 1 y).2.1.length n)).flatten).map DV.av++cs.drop (off+min (vC S 1 y).2.1.length n))))],hr:=id :: (vC S 1 y).2.2,n:=S.n })
    |_=>bad
  |_,_=>bad
def Qdl:AV→Bool
  |.psl _ _ _ _=>true
  |_=>false
def Rj (S:St) (ej:Option (TypeId × TI)) (sl:Bool) (x y:AV):Ans:=match Qdl x with
  |true=>QdC S ej sl x y
  |false=>Xi S ej sl x y
def isNil:List AV→Bool
  |[.nil]=>true
  |_=>false
theorem Qao {l:List AV} (h:isNil l=true):l=[.nil]:=by
  unfold isNil at h;split at h
  · rfl
  · cases h
def XG (S:St) (ej:Option (TypeId × TI)) (sl:Bool) (x y:AV):Ans:=match ej,x,y with
  |some (e,j),.v (.int _ n),.v (.int _ m)=>bif isNil j.zero then
      (sl=true∧n=m∧0≤n∧(j.bytes:Int) * n≤140737488355328∧n≤maxLen,{ av:=.csl S.n n.toNat,hw:=[(S.n,some (.cells (List.replicate n.toNat .nil)))],hr:=[],news:=[S.n],n:=S.n+1 })
    else (sl=true∧n=m∧0≤n∧(j.bytes:Int) * n≤140737488355328∧n≤maxLen∧0 < j.cells∧(dvL j.zero).isSome=true,{ av:=.row S.n,hw:=(S.n,some (.row e j.cells (List.replicate n.toNat (dvZ j.zero)))) :: zA [],hr:=[],news:=[S.n],n:=S.n+1 })
  |_,_,_=>bad
def QbD (S:St):Option Operand→Ans
  |none=>(True,{ av:=.mp S.n,hw:=[(S.n,some (.map []))],news:=[S.n],n:=S.n+1 })
  |some _=>bad
noncomputable def UG (S:St) (i:Option TI) (c:Bool) (k x:AV):Ans:=match i with
  |some i=>match i.key with
    |some q=>match x with
      |.mp id=>match k.toV with
        |some kv=>match S.h id with
          |some (.map es)=>(MOK q.kd.Q es∧q.kd.Q kv∧(yw q (yR es kv)).1,{ av:=bif c then .tup [(yw q (yR es kv)).2.1,.v (.bool (yw q (yR es kv)).2.2)] else (yw q (yR es kv)).2.1,hr:=[id],n:=S.n })
          |_=>bad
        |none=>bad
      |_=>bad
    |none=>bad
  |none=>bad
noncomputable def Qdk (S:St) (i:Option TI) (k v x:AV):Ans:=match i with
  |some i=>match i.key with
    |some q=>match x with
      |.mp id=>match k.toV with
        |some kv=>match v.toV with
          |some u=>match S.h id with
            |some (.map es)=>(MOK q.kd.Q es∧q.kd.Q kv∧(Ql es kv u).length≤maxLen,{ av:=.junk,hw:=[(id,some (.map (Ql es kv u)))],hr:=[id],n:=S.n })
            |_=>bad
          |none=>bad
        |none=>bad
      |_=>bad
    |none=>bad
  |none=>bad
noncomputable def QdL (S:St) (i:Option TI) (k x:AV):Ans:=match i with
  |some i=>match i.key with
    |some q=>match x with
      |.mp id=>match k.toV with
        |some kv=>match q.z.toV with
          |some zv=>match S.h id with
            |some (.map es)=>(MOK q.kd.Q es∧q.kd.Q kv∧(yw q (yR es kv)).1∧es.length+1≤maxLen,{ av:=.tup [(yw q (yR es kv)).2.1,.v (.int .i64 (V3 es kv:Nat))],hw:=[(id,some (.map (WL es kv zv)))],hr:=[id],n:=S.n })
            |_=>bad
          |none=>bad
        |none=>bad
      |_=>bad
    |none=>bad
  |none=>bad
def Qfs (S:St) (s v x:AV):Ans:=match x with
  |.mp id=>match s with
    |.v (.int _ n)=>match v.toV with
      |some u=>match S.h id with
        |some (.map es)=>(0≤n∧n.toNat < es.length,{ av:=.junk,hw:=[(id,some (.map (es.set n.toNat ((es.getD n.toNat (undef,undef)).1,u))))],hr:=[id],n:=S.n })
        |_=>bad
      |none=>bad
    |_=>bad
  |_=>bad
def QaC (S:St) (ej:Option (TypeId × TI)) (i:Option TI) (ps:List (Nat × AV)):Ans:=match ej,i with
  |some (_,j),some i=>match i.td with
    |.array _ _=>((yJ (j4 j.cells) i.zero ps).1,{ av:=.agg (yJ (j4 j.cells) i.zero ps).2,n:=S.n })
    |_=>bad
  |_,_=>bad
def arrB:Option TI→Bool
  |some i=>match i.td with
    |.array _ _=>true
    |_=>false
  |none=>false
def YT (S:St) (ej:Option (TypeId × TI)) (i:Option TI) (ps:List (Nat × AV)):Ans:=match arrB i with
  |true=>QaC S ej i ps
  |false=>KC S i ps
def VF (S:St) (ej:Option (TypeId × TI)) (i:Option TI) (ix x:AV):Ans:=match ej,i with
  |some (_,j),some i=>match i.td with
    |.array m _=>match x,ix with
      |.agg cs,.v (.int _ n)=>(0≤n∧n < m∧n.toNat * j.cells+(bif j.td.agg then j.cells else 1)≤cs.length,{ av:=vw j ((cs.drop (n.toNat * j.cells)).take (bif j.td.agg then j.cells else 1)),n:=S.n })
      |_,_=>bad
    |_=>bad
  |_,_=>bad
def QI (Γ:Tys) (S:St) (i:Option TI) (f:Nat) (x:AV):Ans:=match i with
  |some i=>match i.td with
    |.struct fs=>match fs[f]? with
      |some p=>match Γ p.2.2 with
        |some j=>match x with
          |.agg cs=>(p.1+(bif j.td.agg then j.cells else 1)≤cs.length,{ av:=vw j ((cs.drop p.1).take (bif j.td.agg then j.cells else 1)),n:=S.n })
          |_=>bad
        |none=>bad
      |none=>bad
    |_=>bad
  |none=>bad
def Vf (S:St) (ej:Option (TypeId × TI)) (sl:Bool) (x:AV):Ans:=match ej,x with
  |some (_,j),.rsl id k' lo n=>match S.h id with
    |some (.row e' k xs)=>(sl=true∧0 < j.cells∧k=j.cells∧k'=j.cells∧lo+n≤xs.length∧0 < n∧(dvL j.zero).isSome=true,
        { av:=.junk,hw:=[(id,some (.row e' k (xs.take lo++List.replicate n (dvZ j.zero)++xs.drop (lo+n))))],hr:=[id],n:=S.n })
    |_=>bad
  |_,_=>bad
def Qdt (S:St) (f:FuncId):List AV→List AV→Ans
  |[],cs=>(True,{ av:=.clo f cs,n:=S.n })
  |x :: xs,[]=>(True,{ av:=.bnd f (x :: xs),n:=S.n })
  |_,_=>bad
def ZO (Γ:Tys) (Φ:Ctr) (S:St) (c:Call):Ans:=match c.callee with
  |.builtin .len=>match c.args.toList,c.argTypes.toList with
    |[x],[t]=>JM S (Γ t) (ev S x)
    |_,_=>bad
  |.builtin .copy=>match c.args.toList,c.argTypes.toList with
    |[x,y],[t,_]=>Rj S (wo Γ (Γ t)) (isSlice (Γ t)) (ev S x) (ev S y)
    |_,_=>bad
  |.builtin .append=>match c.args.toList,c.argTypes.toList with
    |[x,y],[t,t']=>if t=t' then Qfq S (wo Γ (Γ t)) (isSlice (Γ t)) (ev S x) (ev S y) else bad
    |_,_=>bad
  |.builtin .clear=>match c.args.toList,c.argTypes.toList with
    |[x],[t]=>Vf S (wo Γ (Γ t)) (isSlice (Γ t)) (ev S x)
    |_,_=>bad
  |.builtin .min=>match c.args.toList,c.argTypes.toList with
    |[x,y],[_,_]=>minE S (ev S x) (ev S y)
    |_,_=>bad
  |.builtin .max=>match c.args.toList,c.argTypes.toList with
    |[x,y],[_,_]=>maxE S (ev S x) (ev S y)
    |_,_=>bad
  |.value g=>match wO (ev S g) with
    |some (f,caps)=>Φ S f (ZA (ev S g)++(c.args.toList.map (ev S)++caps))
    |none=>bad
  |_=>bad
noncomputable def opE (Γ:Tys) (Φ:Ctr) (S:St):Op→Ans
  |.move x=>(True,{ av:=ev S x,n:=S.n })
  |.assign x=>(True,{ av:=ev S x,n:=S.n })
  |.load t x=>UO S (Γ t) (ev S x)
  |.fieldAddr t x f=>JZ S (Γ t) f (ev S x)
  |.indexAddr t x ix=>Zq S (wo Γ (Γ t)) (Γ t) (ev S ix) (ev S x)
  |.alloc t=>L6 S (Γ t)
  |.box _ x=>boxE S (ev S x)
  |.store t x v=>Q7 S (Γ t) (ev S x) (ev S v)
  |.binOp op t x y _=>Vy S (Γ t) op (ev S x) (ev S y)
  |.unOp u _ x=>unE S u (ev S x)
  |.convert s t x=>YZ S (Γ s) (Γ t) (ev S x)
  |.extract x ix=>Qaa S (ev S x) ix
  |.makeFunc (.func f) first caps=>Qdt S f (first.toList.map (ev S)) (caps.toList.map (ev S))
  |.nilCheck x=>(ZX (ev S x),{ av:=ev S x,n:=S.n })
  |.build t ps=>YT S (wo Γ (Γ t)) (Γ t) (ps.toList.map fun p=>(p.1,ev S p.2))
  |.buildSlice t n ps=>bsE S (wo Γ (Γ t)) (isSlice (Γ t)) n (ps.toList.map fun p=>(p.1,ev S p.2))
  |.makeSlice t x y=>XG S (wo Γ (Γ t)) (isSlice (Γ t)) (ev S x) (ev S y)
  |.slice t x lo hi mx=>Vl S (Γ t) (wo Γ (Γ t)) (isSlice (Γ t)) (ev S x) (lo.map (ev S)) (hi.map (ev S)) (mx.map (ev S))
  |.index t x ix=>VF S (wo Γ (Γ t)) (Γ t) (ev S ix) (ev S x)
  |.field t x f=>QI Γ S (Γ t) f (ev S x)
  |.makeMap _ r=>QbD S r
  |.lookup t x k c=>UG S (Γ t) c (ev S k) (ev S x)
  |.mapUpdate t x k v=>Qdk S (Γ t) (ev S k) (ev S v) (ev S x)
  |.call c=>ZO Γ Φ S c
  |.mapEntry t x k=>QdL S (Γ t) (ev S k) (ev S x)
  |.entryStore _ x s v=>Qfs S (ev S s) (ev S v) (ev S x)
  |_=>bad
section sound
variable {ops : Array Oper} {o : Oper} {S : St} {Γ : Tys}
theorem Uj (hΓ:jg P Γ) (hS:Wf S) (hw:Want ops o S) {t:TypeId} {x:Operand} (ho:o.op=.load t x) (h:(UO S (Γ t) (ev S x)).1):VE A P ops o (UO S (Γ t) (ev S x)).2 S:=by
  cases hi:Γ t with
  |none=>rw [hi] at h;exact h.elim
  |some i=>rw [hi] at h;exact QgH hS hw ho (hΓ t i hi) rfl (Qdx h)
theorem XY (hΓ:jg P Γ) (hS:Wf S) (hw:Want ops o S) {t:TypeId} {x:Operand} {f:Nat} (ho:o.op=.fieldAddr t x f) (h:(JZ S (Γ t) f (ev S x)).1):VE A P ops o (JZ S (Γ t) f (ev S x)).2 S:=by
  cases hi:Γ t with
  |none=>rw [hi] at h;exact h.elim
  |some i =>
    rw [hi] at h
    simp only [JZ] at h ⊢
    split at h
    · rename_i fs htd
      try rw [htd]
      try simp only
      split at h
      · rename_i p hp
        try rw [hp]
        obtain ⟨off,sz,ft⟩:=p
        obtain ⟨av,rfl,hv⟩:=Kt (A:=A) (K:=fun av=>av=QcQ off (ev S x)) hS hw ho (hΓ t i hi) htd hp h.1 (by
          have h2:=h.2
          generalize ev S x=c at h2
          cases c <;> simp only [ZX] at h2 <;> first|exact h2.elim|rfl)
        exact hv
      · exact h.elim
    · exact h.elim
theorem QaR (hΓ:jg P Γ) (hS:Wf S) (hw:Want ops o S) {t:TypeId} {x ix:Operand} (ho:o.op=.indexAddr t x ix) (h:(Zq S (wo Γ (Γ t)) (Γ t) (ev S ix) (ev S x)).1):VE A P ops o (Zq S (wo Γ (Γ t)) (Γ t) (ev S ix) (ev S x)).2 S:=by
  cases hej:wo Γ (Γ t) with
  |none=>rw [hej] at h;exact h.elim
  |some p =>
    obtain ⟨e,j⟩:=p
    obtain ⟨i,hi,hel,hj⟩:=kZ hej
    rw [hej,hi] at h
    have slice:i.td.elem.isSome=true∧i.td.agg=false→∃ e,i.td=.slice e:=fun ⟨h1,h2⟩=>by
      cases htd:i.td <;> rw [htd] at h1 h2 <;> simp [TD.elem,TD.agg] at h1 h2
      exact ⟨_,rfl⟩
    cases hix:ev S ix with
    |v u =>
      rw [hix] at h
      cases u with
      |int k n =>
        by_cases hw8:∃ id e' cs,ev S x=.row id∧S.h id=some (.rows e' cs)
        · obtain ⟨id,e',cs,hx,hc⟩:=hw8
          rw [hx] at h ⊢
          rw [hi]
          simp only [Zq,hc] at h ⊢
          obtain ⟨h1,h2,h3,h4⟩:=h
          obtain ⟨e0,he0⟩:=slice h1
          rw [he0] at hel
          simp only [TD.elem,Option.some.injEq] at hel
          subst hel
          exact Qb7 hS hw ho (hΓ t i hi) he0 (hΓ _ j hj) h2 hix hx hc h3 h4
        have hyp:∃ av hr,(av=(Zq S (some (e,j)) (some i) (.v (.int k n)) (ev S x)).2.av∧hr=(Zq S (some (e,j)) (some i) (.v (.int k n)) (ev S x)).2.hr)∧VE A P ops o { av:=av,hr:=hr,n:=S.n } S:=by
          refine Ky hS hw ho (hΓ t i hi) hel (hΓ e j hj) hix ?_
          generalize ev S x=c at h hw8 ⊢
          cases c <;> simp only [Zq] at h ⊢ <;> simp only [idxA] <;> first|exact h.elim|skip
          case sl xs =>
            obtain ⟨h1,h2,h3,h4⟩:=h
            rw [kK h3] at h4
            exact ⟨slice h1,h2,h3,h4,by rw [kK h3],trivial⟩
          case row id =>
            split at h
            · rename_i e' k' xs hc
              rw [hc]
              exact ⟨slice h.1,e',k',xs,rfl,h.2.1,h.2.2.1,h.2.2.2,rfl,rfl⟩
            · rename_i e' cs hc;exact absurd ⟨_,_,_,rfl,hc⟩ hw8
            · exact h.elim
          case rsl id kk lo m =>
            split at h
            · rename_i e' k' xs hc
              rw [hc]
              exact ⟨slice h.1,e',k',xs,rfl,h.2.1,h.2.2.1,h.2.2.2.1,h.2.2.2.2,rfl,rfl⟩
            · exact h.elim
          case csl id m =>
            obtain ⟨h1,h2,h3⟩:=h
            exact ⟨slice h1,h2,h3,trivial,trivial⟩
          case ptr id off =>
            split at h
            · rename_i m e' htd
              try rw [htd]
              exact ⟨m,e',rfl,h.1,h.2,rfl,rfl⟩
            · exact h.elim
        obtain ⟨av,hr,⟨rfl,rfl⟩,hv⟩:=hyp
        rw [hi]
        have e2:(Zq S (some (e,j)) (some i) (.v (.int k n)) (ev S x)).2={ av:=(Zq S (some (e,j)) (some i) (.v (.int k n)) (ev S x)).2.av,hr:=(Zq S (some (e,j)) (some i) (.v (.int k n)) (ev S x)).2.hr,n:=S.n }:=by
          generalize ev S x=c at h hw8 ⊢
          cases c <;> simp only [Zq] at h ⊢ <;> first|exact h.elim|skip
          · split at h
            · rename_i hc;first|rfl|rw [hc]
            · exact h.elim
          · split at h
            · rename_i hc;first|rfl|rw [hc]
            · rename_i hc;exact absurd ⟨_,_,_,rfl,hc⟩ hw8
            · exact h.elim
          · split at h
            · rename_i hc;first|rfl|rw [hc]
            · exact h.elim
        rw [e2];exact hv
      |_=>exact h.elim
    |_=>rw [hix] at h;exact h.elim
theorem Qeo {S:St} {c:AV} (h:(dvE S c).1):jQ c=true∧∀ i ∈ (dvE S c).2.2,∃ ob,S.h i=some ob:=by
  cases c with
  |row id =>
    simp only [dvE] at h ⊢
    split at h
    · rename_i hc;refine ⟨rfl,fun i hi=>?_⟩
      first
        |(simp only [hc,List.mem_singleton] at hi;subst hi;exact ⟨_,hc⟩)
        |(simp only [List.mem_singleton] at hi;subst hi;exact ⟨_,hc⟩)
    · exact h.elim
  |_=>first|exact h.elim|exact ⟨rfl,fun i hi=>by simp [dvE] at hi⟩
theorem Xz {S:St}:∀ {cs:List AV},(xn S cs).1→cs.all jQ=true∧∀ i ∈ (xn S cs).2.2,∃ ob,S.h i=some ob
  |[],_=>⟨rfl,fun i hi=>by simp [xn] at hi⟩
  |c :: cs,h=>by
    simp only [xn] at h ⊢
    obtain ⟨g1,g2⟩:=Qeo h.1
    obtain ⟨g3,g4⟩:=Xz h.2
    refine ⟨by rw [List.all_cons,g1,g3];rfl,fun i hi=>?_⟩
    rcases List.mem_append.1 hi with hi|hi
    · exact g2 i hi
    · exact g4 i hi
theorem X8 (hΓ:jg P Γ) (hS:Wf S) (hw:Want ops o S) {t:TypeId} {x v:Operand} (ho:o.op=.store t x v) (h:(Q7 S (Γ t) (ev S x) (ev S v)).1):VE A P ops o (Q7 S (Γ t) (ev S x) (ev S v)).2 S:=by
  cases hi:Γ t with
  |none=>rw [hi] at h;exact h.elim
  |some i =>
    rw [hi] at h
    cases hx:ev S x with
    |ptr id off =>
      rw [hx] at h
      simp only [Q7] at h ⊢
      split at h
      · rename_i cs hc
        try rw [hc]
        obtain ⟨hws,hr,⟨rfl,rfl⟩,hv⟩:=Qfx (A:=A) (K:=fun hws hr=>hws=[(id,some (.cells (cs.take off++cellsOf (ev S v)++cs.drop (off+(cellsOf (ev S v)).length))))]∧hr=[id]) hS hw ho (hΓ t i hi) h.1 h.2.1 (by
          rw [hx];simp only [wr];rw [hc];exact ⟨cs,rfl,h.2.2,by simp⟩)
        exact hv
      · exact h.elim
    |rp id k m off =>
      rw [hx] at h
      simp only [Q7] at h ⊢
      split at h
      · rename_i e k' xs hc
        try rw [hc]
        obtain ⟨h1,h2,h3,h4,h5,h6⟩:=h
        subst h2
        obtain ⟨g1,g2⟩:=Xz h3
        have hv:=QcE (A:=A) hS hw ho (hΓ t i hi) g1 h1 hx hc (J3 (K:=fun d i=>d=(xn S (cellsOf (ev S v))).2.1∧i=(xn S (cellsOf (ev S v))).2.2) h3 ⟨rfl,rfl⟩) g2 h6 h4 h5
        simp only [kK h5]
        exact hv
      · exact h.elim
    |_=>rw [hx] at h;exact h.elim
theorem RZ (hΓ:jg P Γ) (hw:Want ops o S) {op:BinOp} {t c:TypeId} {x y:Operand} (ho:o.op=.binOp op t x y c) {a b:Bool} (hx:ev S x=.v (.bool a)) (hy:ev S y=.v (.bool b)) (h:(XC S (Γ t) op a b).1):VE A P ops o (XC S (Γ t) op a b).2 S:=by
  have hb:boolT (Γ t)=true→P.underlying t=some .bool:=fun h=>by
    cases hi:Γ t with
    |none=>rw [hi] at h;simp [boolT] at h
    |some i =>
      rw [hi] at h
      obtain ⟨d,hd,hok⟩:=(hΓ t i hi).under
      simp only [boolT] at h
      split at h
      · rename_i htd
        rw [htd] at hok
        simp only [TD.ok] at hok
        rw [hd,hok]
      · cases h
  cases op <;> simp only [XC] at h ⊢ <;> first|exact h.elim|skip
  · exact VE.val2 hw (by simp [ho]) (by simp [ho,Op.operands]) (by simp [ho,Op.operands]) hx hy rfl fun ac w ex ey=>by
      simp [execOp,ho,ex,ey,eqGuard,binOp,run_equal_bool _ t a b (hb h),Result.andThen]
  · exact VE.val2 hw (by simp [ho]) (by simp [ho,Op.operands]) (by simp [ho,Op.operands]) hx hy rfl fun ac w ex ey=>by
      simp [execOp,ho,ex,ey,eqGuard,binOp,run_equal_bool _ t a b (hb h),Result.andThen]
theorem L8 (hw:Want ops o S) {op:BinOp} {t c:TypeId} {x y:Operand} (ho:o.op=.binOp op t x y c) {a b:List UInt8} (hx:ev S x=.v (.string ⟨⟨a⟩⟩)) (hy:ev S y=.v (.string ⟨⟨b⟩⟩)) (h:(Qa6 S op a b).1):VE A P ops o (Qa6 S op a b).2 S:=by
  cases op <;> simp only [Qa6] at h ⊢ <;> first|exact h.elim|skip
  · exact JR hw ho hx hy rfl (QfX h)
  · exact JR hw ho hx hy rfl fun w=>Qf1 a b w
  · exact JR hw ho hx hy rfl fun w=>Qgc a b w
theorem L9 (hΓ:jg P Γ) (hw:Want ops o S) {op:BinOp} {t c:TypeId} {x y:Operand} (ho:o.op=.binOp op t x y c) (h:(Vy S (Γ t) op (ev S x) (ev S y)).1):VE A P ops o (Vy S (Γ t) op (ev S x) (ev S y)).2 S:=by
  unfold Vy at h
  split at h
  · rename_i k a k' b hx hy
    obtain ⟨v,rfl,hv⟩:=Qc6 (A:=A) (P:=P) hw ho hx hy h.1 (Qc0 h.2)
    rw [hx,hy];exact hv
  · rename_i cs ds hx hy
    split at h
    · rename_i i hi
      split at h
      · rename_i ks hks
        have go:(op=.eql∨op=.neq)→(eqE ks cs ds).1→VE A P ops o { av:=.v (.bool (if op=.eql then (eqE ks cs ds).2 else !(eqE ks cs ds).2)),n:=S.n } S:=fun hop h=>by
          obtain ⟨b,rfl,hv⟩:=QeP (A:=A) (K:=fun b=>b=(eqE ks cs ds).2) hw ho hop (hΓ t i hi) hks hx hy (VR h rfl)
          exact hv
        split at h
        · have:=go (.inl rfl) h;rw [hx,hy,hi];simp only [Vy,hks];simpa using this
        · have:=go (.inr rfl) h;rw [hx,hy,hi];simp only [Vy,hks];simpa using this
        · exact h.elim
      · exact h.elim
    · exact h.elim
  · rename_i a b hx hy
    rw [hx,hy]
    exact RZ hΓ hw ho hx hy h
  · rename_i a b hx hy
    rw [hx,hy]
    exact L8 hw ho hx hy h
  · exact h.elim
theorem QbT (hw:Want ops o S) {u:UnOp} {t:TypeId} {x:Operand} (ho:o.op=.unOp u t x) (h:(unE S u (ev S x)).1):VE A P ops o (unE S u (ev S x)).2 S:=by
  unfold unE at h
  split at h
  · rename_i b hx;rw [hx];exact Qhj hw ho hx
  · rename_i k n hx;rw [hx];exact Qh2 hw ho hx
  · exact h.elim
theorem U6 (hΓ:jg P Γ) (hw:Want ops o S) {s t:TypeId} {x:Operand} (ho:o.op=.convert s t x) (h:(YZ S (Γ s) (Γ t) (ev S x)).1):VE A P ops o (YZ S (Γ s) (Γ t) (ev S x)).2 S:=by
  unfold YZ at h
  split at h
  · rename_i i j k n hi hj hx
    split at h
    · rename_i k' hk'
      rw [hi,hj,hx]
      simp only [YZ,hk']
      exact QaV hw ho (hΓ s i hi) (hΓ t j hj) hk' hx
    · exact h.elim
  · exact h.elim
theorem Qaf (hS:Wf S) (hw:Want ops o S) {x:Operand} {ix:Nat} (ho:o.op=.extract x ix) (h:(Qaa S (ev S x) ix).1):VE A P ops o (Qaa S (ev S x) ix).2 S:=by
  unfold Qaa at h
  split at h
  · rename_i cs hx
    split at h
    · rename_i c hc;rw [hx];simp only [Qaa,hc];exact LG hS hw ho hx hc
    · exact h.elim
  · exact h.elim
theorem La (hΓ:jg P Γ) (hw:Want ops o S) {t:TypeId} {x:Operand} (ho:o.op=.call { callee:=.builtin .len,args:=#[x],argTypes:=#[t] }) (h:(JM S (Γ t) (ev S x)).1):VE A P ops o (JM S (Γ t) (ev S x)).2 S:=by
  cases hi:Γ t with
  |none=>rw [hi] at h;exact h.elim
  |some i =>
    rw [hi] at h
    simp only [JM] at h ⊢
    split at h
    · rename_i e htd
      have go:∀ (n:Int) (hr:List Nat),lenA S (fun m r=>m=n∧r=hr) (ev S x)→(match ev S x with|.v _=>False|.mp _=>False|_=>True)→VE A P ops o { av:=.v (.int .i64 n),hr:=hr,n:=S.n } S:=fun n hr h hty=>by
        obtain ⟨_,_,⟨rfl,rfl⟩,hv⟩:=Qet (A:=A) hw ho (hΓ t i hi) (by rw [htd];trivial) h (by
          generalize ev S x=c at hty
          cases c <;> first|exact hty.elim|exact ⟨e,htd⟩)
        exact hv
      try rw [htd]
      try simp only
      split at h
      · rename_i hx;rw [hx] at go;try rw [hx]
        exact go 0 [] ⟨rfl,rfl⟩ trivial
      · rename_i hx;rw [hx] at go;try rw [hx]
        exact go 0 [] ⟨rfl,rfl⟩ trivial
      · rename_i xs hx;rw [hx] at go;try rw [hx]
        exact go _ [] ⟨rfl,rfl⟩ trivial
      · rename_i xs hx;rw [hx] at go;try rw [hx]
        exact go _ [] ⟨rfl,rfl⟩ trivial
      · rename_i xs hx;rw [hx] at go;try rw [hx]
        exact go _ [] ⟨rfl,rfl⟩ trivial
      · rename_i id hx
        split at h
        · rename_i e' k xs hc;rw [hx] at go;try rw [hx]
          try simp only [hc]
          exact go _ [id] (by simp only [lenA];rw [hc];exact ⟨_,_,_,rfl,by simp⟩) trivial
        · rename_i e' cs hc;try rw [hx]
          try simp only [hc]
          exact Qgy hw ho (hΓ t i hi) htd hx hc
        · exact h.elim
      · exact h.elim
    · rename_i htd
      try rw [htd]
      try simp only
      split at h
      · rename_i s hx
        obtain ⟨_,_,⟨rfl,rfl⟩,hv⟩:=Qet (A:=A) (K:=fun m r=>m=s.size∧r=[]) hw ho (hΓ t i hi) (by rw [htd];trivial) (by rw [hx];exact ⟨s,rfl,rfl,rfl⟩) (by rw [hx];exact htd)
        try rw [hx]
        exact hv
      · exact h.elim
    · exact h.elim
theorem X3 {i:Option TI} (h:isSlice i=true):∃ i',i=some i'∧∃ e,i'.td=.slice e:=by
  cases i with
  |none=>simp [isSlice] at h
  |some i =>
    simp only [isSlice] at h
    split at h
    · rename_i e he;exact ⟨i,rfl,e,he⟩
    · cases h
theorem yt {Γ:Tys} {t e:TypeId} {j:TI} (hs:isSlice (Γ t)=true) (hej:wo Γ (Γ t)=some (e,j)):∃ i,Γ t=some i∧i.td=.slice e∧Γ e=some j:=by
  obtain ⟨i,hi,e',he'⟩:=X3 hs
  obtain ⟨i',hi',hel,hj⟩:=kZ hej
  rw [hi] at hi';cases hi'
  rw [he'] at hel
  simp only [TD.elem,Option.some.injEq] at hel
  subst hel
  exact ⟨i,hi,he',hj⟩
theorem Qaz (hΓ:jg P Γ) (hS:Wf S) (hw:Want ops o S) {t:TypeId} {x y:Operand} (ho:o.op=.call { callee:=.builtin .append,args:=#[x,y],argTypes:=#[t,t] }) (h:(QfA S (wo Γ (Γ t)) (isSlice (Γ t)) (ev S x) (ev S y)).1) :
    VE A P ops o (QfA S (wo Γ (Γ t)) (isSlice (Γ t)) (ev S x) (ev S y)).2 S:=by
  cases hej:wo Γ (Γ t) with
  |none=>rw [hej] at h;exact h.elim
  |some p =>
    obtain ⟨e,j⟩:=p
    rw [hej] at h
    obtain ⟨h1,h2,h3,h4,h5,h6,h7,h8,h9⟩:=h
    obtain ⟨i,hi,htd,hj⟩:=yt h1 hej
    refine QcL hS hw ho (hΓ t i hi) htd (hΓ e j hj) h2 ?_ ?_ (Qa1 h5) h6 h7 h8 h9
    · generalize ev S x=c at h3 ⊢
      cases c <;> simp only [dstE] at h3 ⊢ <;> simp only [dstA] <;> first|exact h3.elim|exact ⟨trivial,trivial⟩|exact ⟨rfl,rfl⟩|skip
      split at h3
      · rename_i e' k' xs hc;rw [hc];exact ⟨e',k',xs,rfl,h3.1,h3.2,by simp⟩
      · exact h3.elim
    · generalize ev S y=c at h4 ⊢
      cases c <;> simp only [xq] at h4 ⊢ <;> simp only [XZ] <;> first|exact h4.elim|exact ⟨trivial,trivial⟩|exact ⟨rfl,rfl⟩|skip
      split at h4
      · rename_i e' k' xs hc;rw [hc];exact ⟨e',k',xs,rfl,by simp⟩
      · exact h4.elim
theorem xO {S:St} {x:Option Operand} {d:Int} {K:Int→Prop} (h:(zW d (x.map (ev S))).1) (hk:K (zW d (x.map (ev S))).2):Qcn S d K x:=by
  cases x with
  |none=>exact hk
  |some z =>
    simp only [Option.map_some] at h hk
    unfold zW at h hk
    cases hz:ev S z with
    |v u =>
      rw [hz] at h hk
      cases u with
      |int k n=>exact ⟨k,n,hz,hk⟩
      |_=>exact h.elim
    |_=>rw [hz] at h;exact h.elim
theorem UY {S:St} {x:AV} {K:List (List DV)→Prop} (h:(slE x).1) (hk:K (slE x).2):sliA S K x:=by
  cases x <;> simp only [slE] at h hk <;> simp only [sliA] <;> first|exact h.elim|exact hk
theorem XW (hΓ:jg P Γ) (hw:Want ops o S) {t:TypeId} {x:Operand} {lo hi mx:Option Operand} (ho:o.op=.slice t x lo hi mx) (h:(Zx S (wo Γ (Γ t)) (isSlice (Γ t)) (ev S x) (lo.map (ev S)) (hi.map (ev S)) (mx.map (ev S))).1) :
    VE A P ops o (Zx S (wo Γ (Γ t)) (isSlice (Γ t)) (ev S x) (lo.map (ev S)) (hi.map (ev S)) (mx.map (ev S))).2 S:=by
  cases hej:wo Γ (Γ t) with
  |none=>rw [hej] at h;exact h.elim
  |some p =>
    obtain ⟨e,j⟩:=p
    rw [hej] at h
    cases mx with
    |none =>
      simp only [Option.map_none,Zx] at h ⊢
      obtain ⟨h1,h2,h3,h4,h5,h6,h7,h8⟩:=h
      obtain ⟨i,hi',htd,hj⟩:=yt h1 hej
      obtain ⟨av,rfl,_,hv⟩:=UI (A:=A) (K:=fun av=>av=.sl (((slE (ev S x)).2.take (zW (slE (ev S x)).2.length (hi.map (ev S))).2.toNat).drop (zW 0 (lo.map (ev S))).2.toNat)) hw ho (hΓ t i hi') htd (hΓ e j hj)
        (UY h2 (by simp only [JU];exact xO h3 (xO h4 ⟨h5,h6,h7,h8,rfl⟩)))
      exact hv
    |some m =>
      simp only [Option.map_some,Zx] at h ⊢
      obtain ⟨h1,h2,h3,h4,h5,h6,h7,h8⟩:=h
      obtain ⟨i,hi',htd,hj⟩:=yt h1 hej
      obtain ⟨av,rfl,_,hv⟩:=UI (A:=A) (K:=fun av=>av=.emp) hw ho (hΓ t i hi') htd (hΓ e j hj)
        (UY h2 (by
          simp only [JU]
          refine ⟨by simpa using h3,by simpa using h4,xO h5 ⟨h6, ?_⟩⟩
          cases hm:ev S m with
          |v u =>
            rw [hm] at h7 h8
            cases u with
            |int k n=>exact ⟨k,n,rfl,h8,trivial⟩
            |_=>exact h7.elim
          |_=>rw [hm] at h7;exact h7.elim))
      exact hv
theorem Ko (hΓ:jg P Γ) (hS:Wf S) (hw:Want ops o S) {t:TypeId} {x:Operand} {lo hi mx:Option Operand} (ho:o.op=.slice t x lo hi mx) (h:(Vl S (Γ t) (wo Γ (Γ t)) (isSlice (Γ t)) (ev S x) (lo.map (ev S)) (hi.map (ev S)) (mx.map (ev S))).1) :
    VE A P ops o (Vl S (Γ t) (wo Γ (Γ t)) (isSlice (Γ t)) (ev S x) (lo.map (ev S)) (hi.map (ev S)) (mx.map (ev S))).2 S:=by
  unfold Vl at h ⊢
  cases hp:Qbn (ev S x) with
  |true =>
    rw [hp] at h
    simp only at h ⊢
    unfold Lm at h ⊢
    split at h
    · rename_i e j i hej hi'
      try rw [hej,hi']
      try simp only
      split at h
      · rename_i m e' htd
        try rw [htd]
        try simp only
        split at h
        · rename_i id off hx
          try rw [hx]
          try simp only
          cases lo with
          |some _=>exact h.elim
          |none =>
            cases mx with
            |some _=>exact h.elim
            |none =>
              simp only [Option.map_none] at h ⊢
              obtain ⟨h1,h2,h3,h4⟩:=h
              obtain ⟨i2,g1,g2,g3⟩:=kZ hej
              rw [hi'] at g1
              cases g1
              rw [htd] at g2
              simp only [TD.elem,Option.some.injEq] at g2
              subst g2
              refine Re hS hw ho (hΓ t i hi') htd (hΓ _ j g3) hx ?_ h2 h3 h4
              cases hi with
              |none=>exact .inl ⟨rfl,rfl⟩
              |some z =>
                right
                simp only [Option.map_some] at h1 ⊢
                cases hz:ev S z with
                |v u =>
                  cases u with
                  |int k n=>exact ⟨z,k,rfl,by rw [zW];exact hz⟩
                  |_=>rw [hz] at h1;exact h1.elim
                |_=>rw [hz] at h1;exact h1.elim
        · exact h.elim
      · exact h.elim
    · exact h.elim
  |false =>
    rw [hp] at h
    simp only at h ⊢
    cases hr:Qbt (ev S x) with
    |false=>rw [hr] at h;exact XW hΓ hw ho h
    |true =>
      rw [hr] at h
      simp only at h ⊢
      unfold Kr at h ⊢
      split at h
      · rename_i e j id hej hx hmx
        have hm:mx=none:=by simpa using hmx
        subst hm
        try rw [hej,hx]
        try simp only [Option.map_none]
        split at h
        · rename_i e' k xs hc
          try rw [hc]
          try simp only
          obtain ⟨h1,h2,h3,h4,h5,h6,h7,h8⟩:=h
          obtain ⟨i,hi',htd,hj⟩:=yt h1 hej
          subst h2
          exact RD hS hw ho (hΓ t i hi') htd (hΓ e j hj) hx hc (xO h3 (xO h4 ⟨h5,h6,h7,h8,by
            generalize ((zW xs.length (hi.map (ev S))).2)=hh at h6 h7 ⊢
            cases lo with
            |none=>exact .inl ⟨by simp only [Option.map_none,zW];omega,rfl⟩
            |some y =>
              by_cases hl:(zW 0 (some (ev S y))).2 < xs.length
              · exact .inl ⟨hl,by simp only [Option.map_some,Qfv];rw [if_pos hl]⟩
              · simp only [Option.map_some] at h6
                exact .inr ⟨by simp only [Option.map_some];omega,by simp only [Option.map_some,Qfv];rw [if_neg hl]⟩⟩))
        · exact h.elim
      · exact h.elim
theorem Yj {k:Nat} (hk:0 < k) {c:AV} (h:(vC S k c).1) (hys:zX k (vC S k c).2.1) {F:Frm} {S2:St} {a:Act} {w:World} {ρ:Nat→Value} {own:Own} (H:Holds F S2 a w ρ own) (hag:∀ id ∈ (vC S k c).2.2,S2.h id=S.h id) {x:Value} (hr:ARel w (okB w own ρ S2.h) ρ F.y c x) :
    ∃ flat,Src w (okB w own ρ S2.h) k (vC S k c).2.1 x flat:=by
  cases c <;> simp only [vC] at h hys hag ⊢ <;> first|exact h.elim|skip
  case sl ys=>cases hr with|sl hd=>exact KL hk hys hd
  case row id =>
    cases hc:S.h id with
    |none=>rw [hc] at h;exact h.elim
    |some o =>
      cases o <;> rw [hc] at h hys hag <;> simp only at h hys hag <;> first|exact h.elim|skip
      subst h
      have ho:=H.obj id _ ((hag id (by simp)).trans hc)
      cases hr with
      |row e1 e2=>rw [e1] at ho;exact WZ ho
  case rsl id k1 lo n =>
    cases hc:S.h id with
    |none=>rw [hc] at h;exact h.elim
    |some o =>
      cases o <;> rw [hc] at h hys hag <;> simp only at h hys hag <;> first|exact h.elim|skip
      obtain ⟨rfl,rfl,h3⟩:=h
      have ho:=H.obj id _ ((hag id (by simp)).trans hc)
      cases hr with
      |rsl e1 e2=>rw [e1] at ho;exact Qea ho h3 e2
theorem Qai (hΓ:jg P Γ) (hS:Wf S) (hw:Want ops o S) {t:TypeId} {x y:Operand} (ho:o.op=.call { callee:=.builtin .append,args:=#[x,y],argTypes:=#[t,t] }) (h:(Qfq S (wo Γ (Γ t)) (isSlice (Γ t)) (ev S x) (ev S y)).1) :
    VE A P ops o (Qfq S (wo Γ (Γ t)) (isSlice (Γ t)) (ev S x) (ev S y)).2 S:=by
  unfold Qfq at h ⊢
  cases hr:Qbp (ev S x) with
  |false =>
    rw [hr] at h
    cases hs:Qcf S (ev S y) with
    |none=>rw [hs] at h;exact Qaz hΓ hS hw ho h
    |some p =>
      rw [hs] at h
      simp only at h ⊢
      unfold appW at h ⊢
      obtain ⟨g1,e2,g2⟩:=Qb9 hs
      cases hej:wo Γ (Γ t) with
      |none=>rw [hej] at h;exact h.elim
      |some q =>
        obtain ⟨e,j⟩:=q
        rw [hej] at h
        obtain ⟨h1,h2,h3,h4,h5,h6⟩:=h
        obtain ⟨i,hi',htd,hj⟩:=yt h1 hej
        exact LC hS hw ho (hΓ t i hi') htd (hΓ _ j hj) h2 h3 g1 g2 h4 h5 h6
  |true =>
    rw [hr] at h
    simp only at h ⊢
    unfold appR at h ⊢
    split at h
    · rename_i e j id k' lo n hej hx
      try rw [hej,hx]
      try simp only
      split at h
      · rename_i e' k xs hc
        try rw [hc]
        try simp only
        obtain ⟨h1,h2,rfl,rfl,rfl,rfl,h7,h8,h9,h10,h11,h12⟩:=h
        obtain ⟨i,hi',htd,hj⟩:=yt h1 hej
        exact QaF hS hw ho (hΓ t i hi') htd (hΓ _ j hj) h2 hx hc h7 (fun F S2 a w ρ own H hag v hv=>Yj h2 h8 h10 H hag hv) h9 h10 h11 h12
      · exact h.elim
    · exact h.elim
theorem U3 (hΓ:jg P Γ) (hS:Wf S) (hw:Want ops o S) {t t':TypeId} {x y:Operand} (ho:o.op=.call { callee:=.builtin .copy,args:=#[x,y],argTypes:=#[t,t'] }) (h:(Xi S (wo Γ (Γ t)) (isSlice (Γ t)) (ev S x) (ev S y)).1) :
    VE A P ops o (Xi S (wo Γ (Γ t)) (isSlice (Γ t)) (ev S x) (ev S y)).2 S:=by
  unfold Xi at h ⊢
  split at h
  · rename_i e j id lo nn hej hd
    try rw [hej,hd]
    try simp only
    split at h
    · rename_i e' k xs hc
      try rw [hc]
      try simp only
      obtain ⟨h1,h2,rfl,h4,h5,h6,h7,h8,h9⟩:=h
      obtain ⟨i,hi',htd,hj⟩:=yt h1 hej
      have hnn:ev S x=.row id→nn.getD xs.length=xs.length∧lo=0:=fun he=>by
        rw [he] at hd;simp only [Qew,Option.some.injEq,Prod.mk.injEq] at hd;obtain ⟨_,rfl,rfl⟩:=hd;exact ⟨rfl,rfl⟩
      exact QgN hS hw ho (hΓ t i hi') htd (hΓ e j hj) h2 (h4.imp (fun he=>⟨he,(hnn he).2,(hnn he).1⟩) fun he=>he) hc h5 h6 h8 h9 fun F S2 a w ρ own H hag v hr=>Yj h2 h7 h8 H hag hr
    · exact h.elim
  · exact h.elim
theorem RU (hΓ:jg P Γ) (hS:Wf S) (hw:Want ops o S) {t t':TypeId} {x y:Operand} (ho:o.op=.call { callee:=.builtin .copy,args:=#[x,y],argTypes:=#[t,t'] }) (h:(Rj S (wo Γ (Γ t)) (isSlice (Γ t)) (ev S x) (ev S y)).1) :
    VE A P ops o (Rj S (wo Γ (Γ t)) (isSlice (Γ t)) (ev S x) (ev S y)).2 S:=by
  unfold Rj at h ⊢
  split at h
  · rename_i hp
    try rw [hp]
    try simp only at h ⊢
    unfold QdC at h ⊢
    split at h
    · rename_i e j id off n c hej hx
      try rw [hej,hx]
      try simp only
      split at h
      · rename_i cs hc
        try rw [hc]
        try simp only
        obtain ⟨h1,h2,h3,h4,h5,h6⟩:=h
        obtain ⟨i,hi',htd,hj⟩:=yt h1 hej
        exact QaY hS hw ho (hΓ t i hi') htd (hΓ e j hj) h2 hx hc h3 h5 h6 fun F S2 a w ρ own H hag v hr=>Yj (by omega) h4 h5 H hag hr
      · exact h.elim
    · exact h.elim
  · rename_i hp
    try rw [hp]
    exact U3 hΓ hS hw ho h
theorem K6 (hΓ:jg P Γ) (hS:Wf S) (hw:Want ops o S) {t:TypeId} {x:Operand} (ho:o.op=.call { callee:=.builtin .clear,args:=#[x],argTypes:=#[t] }) (h:(Vf S (wo Γ (Γ t)) (isSlice (Γ t)) (ev S x)).1) :
    VE A P ops o (Vf S (wo Γ (Γ t)) (isSlice (Γ t)) (ev S x)).2 S:=by
  unfold Vf at h ⊢
  split at h
  · rename_i e j id k' lo n hej hx
    try rw [hej,hx]
    try simp only
    split at h
    · rename_i e' k xs hc
      try rw [hc]
      try simp only
      obtain ⟨h1,h2,rfl,rfl,h5,h6,h7⟩:=h
      obtain ⟨i,hi',htd,hj⟩:=yt h1 hej
      obtain ⟨ds,hz⟩:=Option.isSome_iff_exists.1 h7
      have hd:dvZ j.zero=ds:=by unfold dvZ;rw [hz];rfl
      rw [hd]
      exact QeS hS hw ho (hΓ t i hi') htd (hΓ e j hj) h2 hx hc h5 h6 hz
    · exact h.elim
  · exact h.elim
theorem Qce (hΓ:jg P Γ) (hS:Wf S) (hw:Want ops o S) {t:TypeId} {n:Nat} {ps:Array (Nat × Operand)} (ho:o.op=.buildSlice t n ps) (h:(bsE S (wo Γ (Γ t)) (isSlice (Γ t)) n (ps.toList.map fun p=>(p.1,ev S p.2))).1) :
    VE A P ops o (bsE S (wo Γ (Γ t)) (isSlice (Γ t)) n (ps.toList.map fun p=>(p.1,ev S p.2))).2 S:=by
  cases hej:wo Γ (Γ t) with
  |none=>rw [hej] at h;exact h.elim
  |some p =>
    obtain ⟨e,j⟩:=p
    rw [hej] at h
    simp only [bsE] at h ⊢
    by_cases hn:n=0
    · rw [if_pos hn] at h ⊢
      subst hn
      obtain ⟨i,hi',htd,hj⟩:=yt h.1 hej
      exact Xa hw ho (Array.toList_eq_nil_iff.1 (List.map_eq_nil_iff.1 h.2)) (hΓ t i hi') htd (hΓ e j hj)
    · rw [if_neg hn] at h ⊢
      cases hdp:j.deep with
      |true =>
        rw [hdp] at h
        simp only [cond_true] at h ⊢
        obtain ⟨h1,h2,h3,h4⟩:=h
        obtain ⟨i,hi',htd,hj⟩:=yt h1 hej
        exact Qb0 hS hw ho (hΓ t i hi') htd (hΓ e j hj) h2 (Nat.pos_of_ne_zero hn) h3 (kJ (K:=fun cs=>cs=_) h4 rfl)
      |false =>
      rw [hdp] at h
      simp only [cond_false] at h ⊢
      obtain ⟨h1,h2,h3,h4,h5⟩:=h
      obtain ⟨i,hi',htd,hj⟩:=yt h1 hej
      obtain ⟨ds,dead,⟨rfl,rfl⟩,hv⟩:=V4 (A:=A) (K:=fun ds dead=>ds=(xn S (yJ (j4 j.cells) (zeros j.zero n) (ps.toList.map fun p=>(p.1,ev S p.2))).2).2.1∧dead=(xn S (yJ (j4 j.cells) (zeros j.zero n) (ps.toList.map fun p=>(p.1,ev S p.2))).2).2.2) hS hw ho (hΓ t i hi') htd (hΓ e j hj) h2 (Nat.pos_of_ne_zero hn) h3
        (kJ h4 (J3 h5 ⟨rfl,rfl⟩))
      exact hv
theorem RN (hΓ:jg P Γ) (hS:Wf S) (hw:Want ops o S) {t:TypeId} {x y:Operand} (ho:o.op=.makeSlice t x y) (h:(XG S (wo Γ (Γ t)) (isSlice (Γ t)) (ev S x) (ev S y)).1) :
    VE A P ops o (XG S (wo Γ (Γ t)) (isSlice (Γ t)) (ev S x) (ev S y)).2 S:=by
  cases hej:wo Γ (Γ t) with
  |none=>rw [hej] at h;exact h.elim
  |some p =>
    obtain ⟨e,j⟩:=p
    rw [hej] at h
    unfold XG at h ⊢
    split at h
    · rename_i e' j' k n k' m hp hx hy
      simp only [Option.some.injEq,Prod.mk.injEq] at hp
      obtain ⟨rfl,rfl⟩:=hp
      try rw [hx,hy]
      try simp only
      cases hz:isNil j.zero with
      |true =>
        rw [hz] at h
        simp only [cond_true] at h ⊢
        obtain ⟨h1,rfl,h2,h3,h4⟩:=h
        obtain ⟨i,hi',htd,hj⟩:=yt h1 hej
        exact Qch hS hw ho (hΓ t i hi') htd (hΓ e j hj) (Qao hz) hx hy h2 h3 h4
      |false =>
        rw [hz] at h
        simp only [cond_false] at h ⊢
        obtain ⟨h1,rfl,h2,h3,h4,h5,h6⟩:=h
        obtain ⟨i,hi',htd,hj⟩:=yt h1 hej
        obtain ⟨ds,hds⟩:=Option.isSome_iff_exists.1 h6
        have e1:dvZ j.zero=ds:=by simp [dvZ,hds]
        rw [e1]
        exact LV hS hw ho (hΓ t i hi') htd (hΓ e j hj) h5 hx hy h2 h3 h4 hds
    · exact h.elim
theorem UC {Φ:Ctr} (hΓ:jg P Γ) (hΦ:Ctr.OK A P Φ) (hS:Wf S) (hw:Want ops o S) {c:Call} (ho:o.op=.call c) (h:(ZO Γ Φ S c).1):VE A P ops o (ZO Γ Φ S c).2 S:=by
  obtain ⟨cl,args,tys⟩:=c
  have arr:∀ {α:Type} {a:Array α} {l:List α},a.toList=l→a=l.toArray:=fun h=>by rw [← h]
  cases cl with
  |invoke r n=>exact h.elim
  |builtin b =>
    cases b <;> first|exact h.elim|skip
    case append =>
      simp only [ZO] at h ⊢
      split at h
      · rename_i x y t t' ha ht
        try rw [ha,ht]
        try simp only
        split at h
        · rename_i htt
          subst htt
          try rw [if_pos rfl]
          exact Qai hΓ hS hw (by rw [ho,arr ha,arr ht]) h
        · exact h.elim
      · exact h.elim
    case copy =>
      simp only [ZO] at h ⊢
      split at h
      · rename_i x y t t' ha ht
        try rw [ha,ht]
        exact RU hΓ hS hw (by rw [ho,arr ha,arr ht]) h
      · exact h.elim
    case clear =>
      simp only [ZO] at h ⊢
      split at h
      · rename_i x t ha ht
        try rw [ha,ht]
        exact K6 hΓ hS hw (by rw [ho,arr ha,arr ht]) h
      · exact h.elim
    case len =>
      simp only [ZO] at h ⊢
      split at h
      · rename_i x t ha ht
        try rw [ha,ht]
        exact La hΓ hw (by rw [ho,arr ha,arr ht]) h
      · exact h.elim
    case max =>
      simp only [ZO] at h ⊢
      split at h
      · rename_i x y t t' ha ht
        try rw [ha,ht]
        simp only [maxE] at h ⊢
        split at h
        · rename_i k a k' b hx hy;try rw [hx,hy]
          exact Qid hw (by rw [ho,arr ha,arr ht]) hx hy
        · exact h.elim
      · exact h.elim
    case min =>
      simp only [ZO] at h ⊢
      split at h
      · rename_i x y t t' ha ht
        try rw [ha,ht]
        simp only [minE] at h ⊢
        split at h
        · rename_i k a k' b hx hy;try rw [hx,hy]
          exact Qhw hw (by rw [ho,arr ha,arr ht]) hx hy
        · exact h.elim
      · exact h.elim
  |value g =>
    simp only [ZO] at h ⊢
    split at h
    · rename_i f caps hg
      try rw [hg]
      exact hΦ S f _ h hS ops o g args tys caps hw ho hg rfl
    · exact h.elim
theorem KF (hΓ:jg P Γ) (hS:Wf S) (hw:Want ops o S) {t:TypeId} {ps:Array (Nat × Operand)} (ho:o.op=.build t ps) (h:(YT S (wo Γ (Γ t)) (Γ t) (ps.toList.map fun p=>(p.1,ev S p.2))).1) :
    VE A P ops o (YT S (wo Γ (Γ t)) (Γ t) (ps.toList.map fun p=>(p.1,ev S p.2))).2 S:=by
  unfold YT at h ⊢
  cases hb:arrB (Γ t) with
  |true =>
    rw [hb] at h
    simp only at h ⊢
    unfold QaC at h ⊢
    split at h
    · rename_i e j i hej hi
      try rw [hej,hi]
      try simp only
      split at h
      · rename_i m e' htd
        try rw [htd]
        try simp only
        obtain ⟨i2,g1,g2,g3⟩:=kZ hej
        rw [hi] at g1
        cases g1
        rw [htd] at g2
        simp only [TD.elem,Option.some.injEq] at g2
        subst g2
        obtain ⟨cs,rfl,hv⟩:=RB (A:=A) (K:=fun cs=>cs=(yJ (j4 j.cells) i.zero (ps.toList.map fun p=>(p.1,ev S p.2))).2) hS hw ho (hΓ t i hi) htd (hΓ _ j g3) (kJ h rfl)
        exact hv
      · exact h.elim
    · exact h.elim
  |false =>
    rw [hb] at h
    simp only at h ⊢
    cases hi:Γ t with
    |none=>rw [hi] at h;exact h.elim
    |some i =>
      rw [hi] at h
      simp only [KC] at h ⊢
      split at h
      · rename_i fs htd
        try rw [htd]
        obtain ⟨cs,rfl,hv⟩:=QdX (A:=A) (K:=fun cs=>cs=(yJ (WI fs) i.zero (ps.toList.map fun p=>(p.1,ev S p.2))).2) hS hw ho (hΓ t i hi) htd (kJ h rfl)
        exact hv
      · exact h.elim
theorem KG (hΓ:jg P Γ) (hS:Wf S) (hw:Want ops o S) {t:TypeId} {x ix:Operand} (ho:o.op=.index t x ix) (h:(VF S (wo Γ (Γ t)) (Γ t) (ev S ix) (ev S x)).1) :
    VE A P ops o (VF S (wo Γ (Γ t)) (Γ t) (ev S ix) (ev S x)).2 S:=by
  unfold VF at h ⊢
  split at h
  · rename_i e j i hej hi'
    try rw [hej,hi']
    try simp only
    split at h
    · rename_i m e' htd
      try rw [htd]
      try simp only
      split at h
      · rename_i cs k n hx hn
        try rw [hx,hn]
        try simp only
        obtain ⟨h1,h2,h3⟩:=h
        obtain ⟨i2,g1,g2,g3⟩:=kZ hej
        rw [hi'] at g1
        cases g1
        rw [htd] at g2
        simp only [TD.elem,Option.some.injEq] at g2
        subst g2
        exact Qff hS hw ho (hΓ t i hi') htd (hΓ _ j g3) hx hn h1 h2 h3
      · exact h.elim
    · exact h.elim
  · exact h.elim
theorem Rh (hΓ:jg P Γ) (hS:Wf S) (hw:Want ops o S) {t:TypeId} {x:Operand} {f:Nat} (ho:o.op=.field t x f) (h:(QI Γ S (Γ t) f (ev S x)).1) :
    VE A P ops o (QI Γ S (Γ t) f (ev S x)).2 S:=by
  unfold QI at h ⊢
  cases hi:Γ t with
  |none=>rw [hi] at h;exact h.elim
  |some i =>
    rw [hi] at h
    simp only at h ⊢
    split at h
    · rename_i fs htd
      try rw [htd]
      try simp only
      split at h
      · rename_i p hf
        try rw [hf]
        try simp only
        split at h
        · rename_i j hj
          try rw [hj]
          try simp only
          split at h
          · rename_i cs hx
            try rw [hx]
            try simp only
            exact Qe0 hS hw ho (hΓ t i hi) htd hf (hΓ _ j hj) hx h
          · exact h.elim
        · exact h.elim
      · exact h.elim
    · exact h.elim
theorem UE (hΓ:jg P Γ) (hS:Wf S) (hw:Want ops o S) {t:TypeId} {x k:Operand} {c:Bool} (ho:o.op=.lookup t x k c) (h:(UG S (Γ t) c (ev S k) (ev S x)).1) :
    VE A P ops o (UG S (Γ t) c (ev S k) (ev S x)).2 S:=by
  unfold UG at h ⊢
  cases hi:Γ t with
  |none=>rw [hi] at h;exact h.elim
  |some i =>
    rw [hi] at h
    simp only at h ⊢
    cases hq:i.key with
    |none=>rw [hq] at h;exact h.elim
    |some q =>
      rw [hq] at h
      simp only at h ⊢
      cases hx:ev S x <;> rw [hx] at h <;> first|exact h.elim|skip
      rename_i id
      simp only at h ⊢
      cases hk:(ev S k).toV with
      |none=>rw [hk] at h;exact h.elim
      |some kv =>
        rw [hk] at h
        simp only at h ⊢
        split at h
        · rename_i es hm
          simp only [hm] at h ⊢
          obtain ⟨h1,h2,h3⟩:=h
          obtain ⟨kt,e,e1,e2,e3⟩:=(hΓ t i hi).key q hq
          exact Qca hS hw ho (hΓ t i hi) e1 e2 e3 hx hm h1 hk h2 h3
        · exact h.elim
theorem LF (hΓ:jg P Γ) (hS:Wf S) (hw:Want ops o S) {t:TypeId} {x k v:Operand} (ho:o.op=.mapUpdate t x k v) (h:(Qdk S (Γ t) (ev S k) (ev S v) (ev S x)).1) :
    VE A P ops o (Qdk S (Γ t) (ev S k) (ev S v) (ev S x)).2 S:=by
  unfold Qdk at h ⊢
  cases hi:Γ t with
  |none=>rw [hi] at h;exact h.elim
  |some i =>
    rw [hi] at h
    simp only at h ⊢
    cases hq:i.key with
    |none=>rw [hq] at h;exact h.elim
    |some q =>
      rw [hq] at h
      simp only at h ⊢
      cases hx:ev S x <;> rw [hx] at h <;> first|exact h.elim|skip
      rename_i id
      simp only at h ⊢
      cases hk:(ev S k).toV with
      |none=>rw [hk] at h;exact h.elim
      |some kv =>
        rw [hk] at h
        simp only at h ⊢
        cases hv:(ev S v).toV with
        |none=>rw [hv] at h;exact h.elim
        |some u =>
          rw [hv] at h
          simp only at h ⊢
          split at h
          · rename_i es hm
            simp only [hm] at h ⊢
            obtain ⟨h1,h2,h3⟩:=h
            obtain ⟨kt,e,e1,e2,e3⟩:=(hΓ t i hi).key q hq
            exact X7 hS hw ho (hΓ t i hi) e1 e2 hx hm h1 hk h2 hv h3
          · exact h.elim
theorem QaL (hΓ:jg P Γ) (hS:Wf S) (hw:Want ops o S) {t:TypeId} {x k:Operand} (ho:o.op=.mapEntry t x k) (h:(QdL S (Γ t) (ev S k) (ev S x)).1) :
    VE A P ops o (QdL S (Γ t) (ev S k) (ev S x)).2 S:=by
  unfold QdL at h ⊢
  cases hi:Γ t with
  |none=>rw [hi] at h;exact h.elim
  |some i =>
    rw [hi] at h
    simp only at h ⊢
    cases hq:i.key with
    |none=>rw [hq] at h;exact h.elim
    |some q =>
      rw [hq] at h
      simp only at h ⊢
      cases hx:ev S x <;> rw [hx] at h <;> first|exact h.elim|skip
      rename_i id
      simp only at h ⊢
      cases hk:(ev S k).toV with
      |none=>rw [hk] at h;exact h.elim
      |some kv =>
        rw [hk] at h
        simp only at h ⊢
        cases hv:q.z.toV with
        |none=>rw [hv] at h;exact h.elim
        |some u =>
          rw [hv] at h
          simp only at h ⊢
          split at h
          · rename_i es hm
            simp only [hm] at h ⊢
            obtain ⟨h1,h2,h3,h4⟩:=h
            obtain ⟨kt,e,e1,e2,e3⟩:=(hΓ t i hi).key q hq
            exact RP hS hw ho (hΓ t i hi) e1 e2 e3 hv hx hm h1 hk h2 h3 h4
          · exact h.elim
theorem LH (hS:Wf S) (hw:Want ops o S) {t:TypeId} {x s v:Operand} (ho:o.op=.entryStore t x s v) (h:(Qfs S (ev S s) (ev S v) (ev S x)).1) :
    VE A P ops o (Qfs S (ev S s) (ev S v) (ev S x)).2 S:=by
  unfold Qfs at h ⊢
  cases hx:ev S x <;> rw [hx] at h <;> first|exact h.elim|skip
  rename_i id
  simp only at h ⊢
  cases hs:ev S s <;> rw [hs] at h <;> first|exact h.elim|skip
  rename_i sv
  cases sv <;> first|exact h.elim|skip
  simp only at h ⊢
  cases hv:(ev S v).toV with
  |none=>rw [hv] at h;exact h.elim
  |some u =>
    rw [hv] at h
    simp only at h ⊢
    split at h
    · rename_i es hm
      simp only [hm] at h ⊢
      exact V5 hS hw ho hx hm hs hv h.1 h.2
    · exact h.elim
theorem Qb6 {Φ:Ctr} (hΓ:jg P Γ) (hΦ:Ctr.OK A P Φ) (hS:Wf S) (hw:Want ops o S) (h:(opE Γ Φ S o.op).1):VE A P ops o (opE Γ Φ S o.op).2 S:=by
  cases ho:o.op with
  |move x=>exact Qbh hS hw (.inl ho)
  |assign x=>exact Qbh hS hw (.inr ho)
  |load t x=>rw [ho] at h;exact Uj hΓ hS hw ho h
  |fieldAddr t x f=>rw [ho] at h;exact XY hΓ hS hw ho h
  |indexAddr t x ix=>rw [ho] at h;exact QaR hΓ hS hw ho h
  |alloc t =>
    rw [ho] at h
    simp only [opE] at h ⊢
    cases hi:Γ t with
    |none=>rw [hi] at h;exact h.elim
    |some i=>exact QeO hw ho (hΓ t i hi)
  |box t x=>rw [ho] at h;exact Qhs hS hw ho h
  |store t x v=>rw [ho] at h;exact X8 hΓ hS hw ho h
  |binOp op t x y c=>rw [ho] at h;exact L9 hΓ hw ho h
  |unOp u t x=>rw [ho] at h;exact QbT hw ho h
  |convert s t x=>rw [ho] at h;exact U6 hΓ hw ho h
  |extract x ix=>rw [ho] at h;exact Qaf hS hw ho h
  |makeFunc f first caps =>
    rw [ho] at h
    cases f <;> first|exact h.elim|skip
    simp only [opE] at h ⊢
    cases hf1:first.toList with
    |nil =>
      simp only [List.map_nil,Qdt]
      have e:first=#[]:=by apply Array.toList_inj.1;exact hf1
      subst e
      exact UR hS hw ho
    |cons x xs =>
      rw [hf1] at h
      cases hf2:caps.toList with
      |nil =>
        have e:caps=#[]:=by apply Array.toList_inj.1;exact hf2
        subst e
        simp only [List.map_cons,List.map_nil,Qdt]
        have:=QeG (A:=A) (P:=P) hS hw ho
        rw [hf1] at this
        exact this
      |cons y ys=>rw [hf2] at h;exact h.elim
  |nilCheck x =>
    rw [ho] at h
    simp only [opE] at h ⊢
    refine Uu hS hw ho ?_
    generalize ev S x=c at h
    cases c <;> simp only [ZX] at h <;> first|exact h.elim|skip
    · exact .inr (.inl ⟨_,_,rfl⟩)
    · exact .inl ⟨_,_,rfl⟩
    · exact .inr (.inr ⟨_,_,_,_,rfl⟩)
  |build t ps=>rw [ho] at h;exact KF hΓ hS hw ho h
  |buildSlice t n ps=>rw [ho] at h;exact Qce hΓ hS hw ho h
  |slice t x lo hi mx=>rw [ho] at h;exact Ko hΓ hS hw ho h
  |makeSlice t x y=>rw [ho] at h;exact RN hΓ hS hw ho h
  |index t x ix=>rw [ho] at h;exact KG hΓ hS hw ho h
  |field t x f=>rw [ho] at h;exact Rh hΓ hS hw ho h
  |makeMap t r =>
    cases r with
    |none=>exact QaZ hw ho
    |some _=>rw [ho] at h;exact h.elim
  |lookup t x k c=>rw [ho] at h;exact UE hΓ hS hw ho h
  |mapUpdate t x k v=>rw [ho] at h;exact LF hΓ hS hw ho h
  |call c=>rw [ho] at h;exact UC hΓ hΦ hS hw ho h
  |mapEntry t x k=>rw [ho] at h;exact QaL hΓ hS hw ho h
  |entryStore t x s v=>rw [ho] at h;exact LH hS hw ho h
  |_=>rw [ho] at h;exact h.elim
end sound
end Go.Sym
namespace Go.Sym
open Go
variable {A : Frm → Prop} {P : Program}
def St.lit (S:St) (d:Nat) (b:Bool):St:={ t:=upd S.t d (.v (.bool b)),h:=S.h,n:=S.n,j:=S.j,d:=S.d,m:=S.m }
def WU:AV→Option Bool
  |.v (.bool b)=>some b
  |_=>none
theorem Y2 {a:AV} {b:Bool} (h:WU a=some b):a=.v (.bool b):=by
  unfold WU at h
  split at h
  · cases h;rfl
  · cases h
theorem St.lit_eq {S:St} {d:Nat} {b:Bool} (h:S.t d=.v (.bool b)):S.lit d b=S:=by
  cases S
  simp only [St.lit,St.mk.injEq,and_true,true_and]
  funext i
  by_cases hi:i=d
  · subst hi;rw [upd_same];exact h.symm
  · rw [upd_ne _ _ _ _ hi]
def ZN:AV→Option (Option Bool)
  |.v (.bool b)=>some (some b)
  |.tup []=>some none
  |_=>none
theorem Ur {a:AV} {b:Bool} (h:ZN a=some (some b)):a=.v (.bool b):=by
  unfold ZN at h
  split at h
  · cases h;rfl
  · cases h
  · cases h
theorem RS {a:AV} (h:ZN a=some none):a=.tup []:=by
  unfold ZN at h
  split at h
  · cases h
  · rfl
  · cases h
def Vj:Op→Option (Operand × Operand × Operand)
  |.pick c x y=>some (c,x,y)
  |_=>none
theorem Ui {op:Op} {p:Operand × Operand × Operand} (h:Vj op=some p):op=.pick p.1 p.2.1 p.2.2:=by
  unfold Vj at h
  split at h
  · cases h;rfl
  · cases h
def QcZ (Γ:Tys) (Φ:Ctr) (o:Oper) (rest:St→List Eff→Prop) (S:St) (es:List Eff):Prop :=
  match Vj o.op with
  |none=>(opE Γ Φ S o.op).1∧rest (S.app o.dst (opE Γ Φ S o.op).2) ((opE Γ Φ S o.op).2 :: es)
  |some p=>match WU (ev S p.1) with
    |none=>False
    |some b=>if b=true then rest (S.app o.dst { av:=ev S p.2.1,n:=S.n }) ({ av:=ev S p.2.1,n:=S.n } :: es) else rest (S.app o.dst { av:=ev S p.2.2,n:=S.n }) ({ av:=ev S p.2.2,n:=S.n } :: es)
def QbG (draw:Bool) (ops:Array Oper) (Q:St→Prop) (S:St) (es:List Eff):Prop:=match draw with
  |false=>Q S
  |true=>kI ops es.reverse=true∧Q S
theorem Ll {draw:Bool} {ops:Array Oper} {Q:St→Prop} {S:St} {es:List Eff} (h:QbG draw ops Q S es):(draw=true→kI ops es.reverse=true)∧Q S:=by
  cases draw with
  |false=>exact ⟨fun h=>(by cases h),h⟩
  |true=>exact ⟨fun _=>h.1,h.2⟩
def WB (Γ:Tys) (Φ:Ctr) (ops:Array Oper) (draw:Bool) (Q:St→Prop):List Oper→St→List Eff→Prop
  |[],S,es=>QbG draw ops Q S es
  |o :: r,S,es=>match o.guard with
    |none=>QcZ Γ Φ o (WB Γ Φ ops draw Q r) S es
    |some g=>match (ops[g.1]?).bind (·.dst) with
      |none=>False
      |some d=>match ZN (S.t d) with
        |none=>False
        |some none=>WB Γ Φ ops draw Q r (S.app o.dst { av:=.tup [],n:=S.n }) ({ av:=.tup [],n:=S.n } :: es)
        |some (some c)=>if c=g.2 then QcZ Γ Φ o (WB Γ Φ ops draw Q r) (S.lit d g.2) es else WB Γ Φ ops draw Q r ((S.lit d (!g.2)).app o.dst { av:=.tup [],n:=S.n }) ({ av:=.tup [],n:=S.n } :: es)
theorem Qax {Γ:Tys} {Φ:Ctr} (hΓ:jg P Γ) (hΦ:Ctr.OK A P Φ) {ops:Array Oper} {o:Oper} {rest:St→List Eff→Prop} {S:St} {es:List Eff} (hS:Wf S) (hw:Want ops o S) (h:QcZ Γ Φ o rest S es) :
    ∃ e,VE A P ops o e S∧rest (S.app o.dst e) (e :: es):=by
  unfold QcZ at h
  split at h
  · exact ⟨_,Qb6 hΓ hΦ hS hw h.1,h.2⟩
  · rename_i p hp
    have hp:=Ui hp
    split at h
    · exact h.elim
    · rename_i b hb
      have hv:=Qge (A:=A) (P:=P) hS hw hp (Y2 hb)
      split at h
      · rename_i hbt;subst hbt;exact ⟨_,hv,h⟩
      · rename_i hbt
        have:b=false:=by simpa using hbt
        subst this;exact ⟨_,hv,h⟩
theorem Qf {Γ:Tys} {Φ:Ctr} (hΓ:jg P Γ) (hΦ:Ctr.OK A P Φ) {ops:Array Oper} {draw:Bool} {Q:St→Prop}:∀ (l:List Oper) (S:St) (es:List Eff),Wf S→WB Γ Φ ops draw Q l S es →
    Run A P ops l S es fun S' es'=>(draw=true→kI ops es'.reverse=true)∧Q S'
  |[],S,es,_,h=>Ll h
  |o :: r,S,es,hS,h=>by
    have go:Want ops o S→QcZ Γ Φ o (WB Γ Φ ops draw Q r) S es→Run A P ops (o :: r) S es fun S' es'=>(draw=true→kI ops es'.reverse=true)∧Q S':=fun hw h=>by
      obtain ⟨e,hv,hr⟩:=Qax hΓ hΦ hS hw h
      exact ⟨e,hv,Qf hΓ hΦ r _ _ (hS.app hv.ids) hr⟩
    simp only [WB] at h
    split at h
    · rename_i hg;exact go (.inl hg) h
    · rename_i g hg
      split at h
      · exact h.elim
      · rename_i d hd
        split at h
        · exact h.elim
        · rename_i hc
          have hv:VE A P ops o { av:=.tup [],n:=S.n } S:=VE.skip ⟨g.1,g.2,d,hg,hd,.inr (RS hc)⟩
          exact ⟨_,hv,Qf hΓ hΦ r _ _ (hS.app hv.ids) h⟩
        · rename_i c hc
          have hc:=Ur hc
          split at h
          · rename_i hcb
            subst hcb
            rw [St.lit_eq hc] at h
            exact go (.inr ⟨_,_,d,hg,hd,hc⟩) h
          · rename_i hcb
            have hcn:(!g.2)=c:=by cases hg2:g.2 <;> cases hcc:c <;> simp_all
            rw [hcn,St.lit_eq hc] at h
            have hv:VE A P ops o { av:=.tup [],n:=S.n } S:=VE.skip ⟨g.1,g.2,d,hg,hd,.inl ⟨c,hc,fun e=>hcb e.symm⟩⟩
            exact ⟨_,hv,Qf hΓ hΦ r _ _ (hS.app hv.ids) h⟩
theorem Wf.lit {S:St}:True:=trivial
structure Env (A:Frm→Prop) (P:Program) (Γ:Tys) (Φ:Ctr):Prop where
  tys:jg P Γ
  ctr:Ctr.OK A P Φ
  mixed:P.follows .mixedOrders=true
theorem Qbl {Γ:Tys} {Φ:Ctr} (hE:Env A P Γ Φ) {id:Nat} {ops:Array Oper} {draw:Bool} {S:St} {K:Exit→St→Prop} (h:∀ Q:St→Prop,(∀ S',K .normal S'→Q S')→WB Γ Φ ops draw Q ops.toList S []):Sym A P (.region id ops draw) S K:=fun F hF hd a w hg=>by
  have hr:=Qf (A:=A) (P:=P) hE.tys hE.ctr ops.toList S [] hg.wf (h (fun S'=>K .normal S') fun _ h=>h)
  cases draw with
  |false=>exact Lc (ZP (fun _ _ h=>h.2) _ _ _ hr) F hF hd a w hg
  |true=>exact Yz hE.mixed (ZP (fun _ _ h=>⟨h.1 rfl,h.2⟩) _ _ _ hr) F hF hd a w hg
def leT (S:St) (hf:Nat→Option AObj) (σ:Nat→Option Nat):List (Nat × AV)→Prop
  |[]=>True
  |p :: r=>AV.le hf σ (S.t p.1) p.2∧leT S hf σ r
def leO (hf:Nat→Option AObj) (σ:Nat→Option Nat) (o:Option AObj) (o':AObj):Prop:=match o with
  |some o=>AObj.le hf σ o o'
  |none=>False
def leH (S:St) (hf:Nat→Option AObj) (σ:Nat→Option Nat):List (Nat × AObj)→Prop
  |[]=>True
  |p :: r=>(match σ p.1 with|some i=>leO hf σ (S.h i) p.2|none=>match p.2 with|.row _ k xs=>xs=[]∧0 < k|.rows _ cs=>cs=[]|_=>False)∧leH S hf σ r
def UV (n:Nat):List (Nat × AV)→Prop
  |[]=>True
  |p :: r=>(∀ id ∈ p.2.ids,id < n)∧UV n r
def YV (n:Nat):List (Nat × AObj)→Prop
  |[]=>True
  |p :: r=>p.1 < n∧(∀ id ∈ p.2.ids,id < n)∧YV n r
def Jl (σ:Nat→Option Nat) (H:List (Nat × AObj)):List Nat:=H.filterMap fun p=>σ p.1
structure LeOK (S:St) (L:List (Nat × AV)) (H:List (Nat × AObj)) (n:Nat) (d:List ADf) (σ:Nat→Option Nat) (fz:List Nat):Prop where
  t:leT S (fun i=>if i ∈ fz then S.h i else none) σ L
  h:leH S (fun i=>if i ∈ fz then S.h i else none) σ H
  df:ADf.leL (fun i=>if i ∈ fz then S.h i else none) σ S.d d
  img:(Jl σ H).Nodup
  keys:(H.map (·.1)).Nodup
  frz:∀ i ∈ fz,i ∉ Jl σ H
  pin:∀ i,i < S.m→σ i=some i
  idt:UV n L
  idh:YV n H
  idd:∀ id ∈ d.flatMap ADf.ids,id < n
  m:S.m≤n
theorem QbI {S:St} {hf:Nat→Option AObj} {σ:Nat→Option Nat}:∀ {L:List (Nat × AV)},leT S hf σ L→∀ p ∈ L,AV.le hf σ (S.t p.1) p.2
  |q :: r,h,p,hp=>by
    rcases List.mem_cons.1 hp with rfl|hp
    · exact h.1
    · exact QbI h.2 p hp
theorem YC {S:St} {hf:Nat→Option AObj} {σ:Nat→Option Nat}:∀ {H:List (Nat × AObj)},leH S hf σ H→∀ p ∈ H,(∃ i o,σ p.1=some i∧S.h i=some o∧AObj.le hf σ o p.2)∨(σ p.1=none∧Vg p.2)
  |q :: r,h,p,hp=>by
    rcases List.mem_cons.1 hp with rfl|hp
    · have h1:=h.1
      split at h1
      · rename_i i hi
        unfold leO at h1
        split at h1
        · rename_i o ho;exact .inl ⟨i,o,hi,ho,h1⟩
        · exact h1.elim
      · rename_i hi
        split at h1
        · rename_i e k xs hx;obtain ⟨rfl,hk⟩:=h1;exact .inr ⟨hi,.inl ⟨e,k,hx,hk⟩⟩
        · rename_i e cs hx;subst h1;exact .inr ⟨hi,.inr ⟨e,hx⟩⟩
        · exact h1.elim
    · exact YC h.2 p hp
theorem Vs {n:Nat}:∀ {L:List (Nat × AV)},UV n L→∀ p ∈ L,∀ id ∈ p.2.ids,id < n
  |q :: r,h,p,hp=>by
    rcases List.mem_cons.1 hp with rfl|hp
    · exact h.1
    · exact Vs h.2 p hp
theorem Ju {n:Nat}:∀ {H:List (Nat × AObj)},YV n H→∀ p ∈ H,p.1 < n∧∀ id ∈ p.2.ids,id < n
  |q :: r,h,p,hp=>by
    rcases List.mem_cons.1 hp with rfl|hp
    · exact ⟨h.1,h.2.1⟩
    · exact Ju h.2.2 p hp
theorem Jq {σ:Nat→Option Nat}:∀ {H:List (Nat × AObj)},(Jl σ H).Nodup→∀ p ∈ H,∀ q ∈ H,∀ i,σ p.1=some i→σ q.1=some i→p=q∨p.1=q.1∨False
  |[],_,p,hp,_,_,_,_,_=>by simp at hp
  |r :: H,hn,p,hp,q,hq,i,h1,h2=>by
    have mem:∀ x ∈ H,σ x.1=some i→i ∈ Jl σ H:=fun x hx hs=>List.mem_filterMap.2 ⟨x,hx,hs⟩
    have hn':(Jl σ H).Nodup:=by
      simp only [Jl,List.filterMap_cons] at hn ⊢
      split at hn
      · exact hn
      · exact (List.nodup_cons.1 hn).2
    have hni:∀ j,σ r.1=some j→j ∉ Jl σ H:=fun j hj=>by
      simp only [Jl,List.filterMap_cons,hj] at hn
      exact (List.nodup_cons.1 hn).1
    rcases List.mem_cons.1 hp with e1|hp'
    · rcases List.mem_cons.1 hq with e2|hq'
      · exact .inl (e1.trans e2.symm)
      · exact absurd (mem q hq' h2) (hni i (e1 ▸ h1))
    · rcases List.mem_cons.1 hq with e2|hq'
      · exact absurd (mem p hp' h1) (hni i (e2 ▸ h2))
      · exact Jq hn' p hp' q hq' i h1 h2
theorem Le.ok {S:St} {L:List (Nat × AV)} {H:List (Nat × AObj)} {n:Nat} {d:List ADf} (σ:Nat→Option Nat) (fz:List Nat) (h:LeOK S L H n d σ fz):Le S { t:=asg L,h:=qc H,n,j:=S.j,d,m:=S.m }:=by
  refine Le.of σ (fun i=>if i ∈ fz then S.h i else none) (QbI h.t) (YC h.h) h.df (fun p hp q hq i h1 h2=>?_) (fun i o hi=>?_) h.pin (Vs h.idt) (Ju h.idh) h.idd h.m
  · rcases Jq h.img p hp q hq i h1 h2 with rfl|h|h
    · rfl
    · exact h
    · exact h.elim
  · by_cases hm:i ∈ fz
    · rw [if_pos hm] at hi
      exact ⟨hi,fun p hp hs=>h.frz i hm (List.mem_filterMap.2 ⟨p,hp,hs⟩)⟩
    · rw [if_neg hm] at hi;cases hi
def noB:Ctx→Prop:=fun _=>True
def VX (T:World→Prop):Ctx→Prop:=fun c=>∀ j own w,c.J j own w→T w
def YA (T:World→Prop):Frm→Prop:=fun F=>∀ j own w,F.J j own w→T w
theorem Qco {T:World→Prop} {F:Frm} {S:St} {hs bo:List Nat} {ρ:Nat→Value} {own:Own} {w:World} (h:YA T F):VX T (Q3 F S hs bo ρ own w):=fun _ _ _ ⟨_,hj,_⟩=>h _ _ _ hj
def noH:Nat→Option AObj:=fun _=>none
def FnV (P:Program) (f:FuncId) (az:List AV) (v:AV):Prop:=Fn noB P f az noH v noH 0
mutual
def AV.view (h:Nat→Option AObj):AV→AV
  |.v x=>.v x
  |.nil=>.sl []
  |.emp=>.sl []
  |.sl xs=>.sl xs
  |.agg cs=>.agg (AV.viewL h cs)
  |.tup cs=>.tup (AV.viewL h cs)
  |.ep cs o=>.ep cs o
  |.ptr i o=>.ptr i o
  |.row i=>match h i with
    |some (.row _ _ xs)=>.sl xs
    |_=>.junk
  |.rp i k m o=>.rp i k m o
  |.csl i n=>.csl i n
  |.psl i o n c=>.psl i o n c
  |.rsl i k l n=>.rsl i k l n
  |.mp i=>.mp i
  |.clo f cs=>.clo f (AV.viewL h cs)
  |.cb=>.cb
  |.junk=>.junk
  |.any=>.any
  |.bnd f cs=>.bnd f (AV.viewL h cs)
def AV.viewL (h:Nat→Option AObj):List AV→List AV
  |[]=>[]
  |c :: cs=>c.view h :: AV.viewL h cs
end
mutual
def AV.rows:AV→List Nat
  |.v _=>[]
  |.nil=>[]
  |.emp=>[]
  |.sl _=>[]
  |.agg cs=>AV.rowsL cs
  |.tup cs=>AV.rowsL cs
  |.ep _ _=>[]
  |.ptr _ _=>[]
  |.row i=>[i]
  |.rp _ _ _ _=>[]
  |.csl _ _=>[]
  |.psl _ _ _ _=>[]
  |.rsl _ _ _ _=>[]
  |.mp _=>[]
  |.clo _ cs=>AV.rowsL cs
  |.cb=>[]
  |.junk=>[]
  |.any=>[]
  |.bnd _ cs=>AV.rowsL cs
def AV.rowsL:List AV→List Nat
  |[]=>[]
  |c :: cs=>c.rows++AV.rowsL cs
end
mutual
def AV.plain:AV→Prop
  |.v _=>True
  |.nil=>False
  |.emp=>False
  |.sl _=>True
  |.agg cs=>AV.plainL cs
  |.tup cs=>AV.plainL cs
  |.ep _ _=>True
  |.ptr _ _=>False
  |.row _=>False
  |.rp _ _ _ _=>False
  |.csl _ _=>False
  |.psl _ _ _ _=>False
  |.rsl _ _ _ _=>False
  |.mp _=>False
  |.clo _ cs=>AV.plainL cs
  |.cb=>True
  |.junk=>False
  |.any=>False
  |.bnd _ cs=>AV.plainL cs
def AV.plainL:List AV→Prop
  |[]=>True
  |c :: cs=>c.plain∧AV.plainL cs
end
theorem AV.plain_row (h:Nat→Option AObj) (i:Nat) (hp:(AV.view h (.row i)).plain):∃ e k xs,h i=some (.row e k xs)∧AV.view h (.row i)=.sl xs:=by
  simp only [AV.view] at hp
  split at hp
  · rename_i e k xs hi;exact ⟨e,k,xs,hi,by simp only [AV.view,hi]⟩
  · exact hp.elim
theorem AV.view_row (h hf:Nat→Option AObj) (σ:Nat→Option Nat) (i:Nat) (hp:(AV.view h (.row i)).plain) (hr:hf i=h i):AV.le hf σ (.row i) (AV.view h (.row i)):=by
  obtain ⟨e,k,xs,hi,hv⟩:=AV.plain_row h i hp
  rw [hv]
  simp only [AV.le]
  exact ⟨e,k,by unfold rowAt;rw [hr.trans hi]⟩
mutual
theorem AV.view_le (h hf:Nat→Option AObj) (σ:Nat→Option Nat):∀ c:AV,(c.view h).plain→(∀ i ∈ c.rows,hf i=h i)→AV.le hf σ c (c.view h)
  |.v _,_,_=>by simp [AV.view,AV.le]
  |.nil,_,_=>by simp [AV.view,AV.le]
  |.emp,_,_=>by simp [AV.view,AV.le]
  |.sl _,_,_=>by simp [AV.view,AV.le]
  |.agg cs,hp,hr=>by simp only [AV.view,AV.plain,AV.rows,AV.le] at hp hr ⊢;exact AV.viewL_le h hf σ cs hp hr
  |.tup cs,hp,hr=>by simp only [AV.view,AV.plain,AV.rows,AV.le] at hp hr ⊢;exact AV.viewL_le h hf σ cs hp hr
  |.ep _ _,_,_=>by simp [AV.view,AV.le]
  |.ptr _ _,hp,_=>by simp [AV.view,AV.plain] at hp
  |.row i,hp,hr=>AV.view_row h hf σ i hp (hr i (by simp [AV.rows]))
  |.rp _ _ _ _,hp,_=>by simp [AV.view,AV.plain] at hp
  |.csl _ _,hp,_=>by simp [AV.view,AV.plain] at hp
  |.psl _ _ _ _,hp,_=>by simp [AV.view,AV.plain] at hp
  |.rsl _ _ _ _,hp,_=>by simp [AV.view,AV.plain] at hp
  |.mp _,hp,_=>by simp [AV.view,AV.plain] at hp
  |.clo f cs,hp,hr=>by simp only [AV.view,AV.plain,AV.rows,AV.le] at hp hr ⊢;exact ⟨trivial,AV.viewL_le h hf σ cs hp hr⟩
  |.cb,_,_=>by simp [AV.view,AV.le]
  |.junk,hp,_=>by simp [AV.view,AV.plain] at hp
  |.any,hp,_=>by simp [AV.view,AV.plain] at hp
  |.bnd f cs,hp,hr=>by simp only [AV.view,AV.plain,AV.rows,AV.le] at hp hr ⊢;exact ⟨trivial,AV.viewL_le h hf σ cs hp hr⟩
theorem AV.viewL_le (h hf:Nat→Option AObj) (σ:Nat→Option Nat):∀ cs:List AV,AV.plainL (AV.viewL h cs)→(∀ i ∈ AV.rowsL cs,hf i=h i)→AV.leL hf σ cs (AV.viewL h cs)
  |[],_,_=>trivial
  |c :: cs,hp,hr=>by
    simp only [AV.viewL,AV.plainL,AV.rowsL,List.mem_append] at hp hr ⊢
    exact ⟨AV.view_le h hf σ c hp.1 fun i hi=>hr i (.inl hi),AV.viewL_le h hf σ cs hp.2 fun i hi=>hr i (.inr hi)⟩
end
mutual
theorem AV.plain_rows (h:Nat→Option AObj):∀ c:AV,(c.view h).plain→∀ i ∈ c.rows,∃ e k xs,h i=some (.row e k xs)
  |.agg cs,hp=>by simp only [AV.view,AV.plain,AV.rows] at hp ⊢;exact AV.plainL_rows h cs hp
  |.tup cs,hp=>by simp only [AV.view,AV.plain,AV.rows] at hp ⊢;exact AV.plainL_rows h cs hp
  |.row i,hp=>by
    intro j hj
    simp only [AV.rows,List.mem_singleton] at hj
    subst hj
    obtain ⟨e,k,xs,hi,_⟩:=AV.plain_row h j hp
    exact ⟨e,k,xs,hi⟩
  |.clo f cs,hp=>by simp only [AV.view,AV.plain,AV.rows] at hp ⊢;exact AV.plainL_rows h cs hp
  |.v _,_=>by simp [AV.rows]
  |.nil,_=>by simp [AV.rows]
  |.emp,_=>by simp [AV.rows]
  |.sl _,_=>by simp [AV.rows]
  |.ep _ _,_=>by simp [AV.rows]
  |.ptr _ _,_=>by simp [AV.rows]
  |.rp _ _ _ _,_=>by simp [AV.rows]
  |.csl _ _,_=>by simp [AV.rows]
  |.psl _ _ _ _,_=>by simp [AV.rows]
  |.rsl _ _ _ _,_=>by simp [AV.rows]
  |.mp _,_=>by simp [AV.rows]
  |.cb,_=>by simp [AV.rows]
  |.junk,_=>by simp [AV.rows]
  |.any,_=>by simp [AV.rows]
  |.bnd f cs,hp=>by simp only [AV.view,AV.plain,AV.rows] at hp ⊢;exact AV.plainL_rows h cs hp
theorem AV.plainL_rows (h:Nat→Option AObj):∀ cs:List AV,AV.plainL (AV.viewL h cs)→∀ i ∈ AV.rowsL cs,∃ e k xs,h i=some (.row e k xs)
  |[],_=>by simp [AV.rowsL]
  |c :: cs,hp=>by
    simp only [AV.viewL,AV.plainL] at hp
    intro i hi
    simp only [AV.rowsL,List.mem_append] at hi
    rcases hi with hi|hi
    · exact AV.plain_rows h c hp.1 i hi
    · exact AV.plainL_rows h cs hp.2 i hi
end
mutual
theorem AV.plain_ids:∀ c:AV,c.plain→c.ids=[]
  |.v _,_=>rfl
  |.nil,_=>rfl
  |.emp,_=>rfl
  |.sl _,_=>rfl
  |.agg cs,h=>by simp only [AV.plain,AV.ids] at h ⊢;exact AV.plainL_ids cs h
  |.tup cs,h=>by simp only [AV.plain,AV.ids] at h ⊢;exact AV.plainL_ids cs h
  |.ep _ _,_=>rfl
  |.ptr _ _,h=>h.elim
  |.row _,h=>h.elim
  |.rp _ _ _ _,h=>h.elim
  |.csl _ _,h=>h.elim
  |.psl _ _ _ _,h=>h.elim
  |.rsl _ _ _ _,h=>h.elim
  |.mp _,h=>h.elim
  |.clo _ cs,h=>by simp only [AV.plain,AV.ids] at h ⊢;exact AV.plainL_ids cs h
  |.cb,_=>rfl
  |.junk,_=>rfl
  |.any,h=>h.elim
  |.bnd _ cs,h=>by simp only [AV.plain,AV.ids] at h ⊢;exact AV.plainL_ids cs h
theorem AV.plainL_ids:∀ cs:List AV,AV.plainL cs→AV.idsL cs=[]
  |[],_=>rfl
  |c :: cs,h=>by simp only [AV.plainL,AV.idsL] at h ⊢;rw [AV.plain_ids c h.1,AV.plainL_ids cs h.2];rfl
end
mutual
theorem AV.plain_ren (τ:Nat→Nat):∀ c:AV,c.plain→c.ren τ=c
  |.v _,_=>rfl
  |.nil,_=>rfl
  |.emp,_=>rfl
  |.sl _,_=>rfl
  |.agg cs,h=>by simp only [AV.plain,AV.ren] at h ⊢;rw [AV.plainL_ren τ cs h]
  |.tup cs,h=>by simp only [AV.plain,AV.ren] at h ⊢;rw [AV.plainL_ren τ cs h]
  |.ep _ _,_=>rfl
  |.ptr _ _,h=>h.elim
  |.row _,h=>h.elim
  |.rp _ _ _ _,h=>h.elim
  |.csl _ _,h=>h.elim
  |.psl _ _ _ _,h=>h.elim
  |.rsl _ _ _ _,h=>h.elim
  |.mp _,h=>h.elim
  |.clo f cs,h=>by simp only [AV.plain,AV.ren] at h ⊢;rw [AV.plainL_ren τ cs h]
  |.cb,_=>rfl
  |.junk,_=>rfl
  |.any,h=>h.elim
  |.bnd f cs,h=>by simp only [AV.plain,AV.ren] at h ⊢;rw [AV.plainL_ren τ cs h]
theorem AV.plainL_ren (τ:Nat→Nat):∀ cs:List AV,AV.plainL cs→AV.renL τ cs=cs
  |[],_=>rfl
  |c :: cs,h=>by simp only [AV.plainL,AV.renL] at h ⊢;rw [AV.plain_ren τ c h.1,AV.plainL_ren τ cs h.2]
end
def qo (fl:Bool) (spec:List AV→Prop × AV) (S:St) (bs:List AV):Ans :=
  (AV.plainL (AV.viewL S.h bs)∧(spec (AV.viewL S.h bs)).1,{ av:=(spec (AV.viewL S.h bs)).2,hw:=bif fl then [] else zA (AV.rowsL bs),hr:=AV.rowsL bs,n:=S.n })
theorem VD {B:Ctx→Prop} (hB:∀ F S hs bo ρ own w,A F→B (Q3 F S hs bo ρ own w)) {f:FuncId} {fl:Bool} {spec:List AV→Prop × AV} (hf:∀ az,AV.plainL az→(spec az).1→(spec az).2.plain∧(fl=true→(spec az).2.flat)∧Fn B P f az noH (spec az).2 noH 0)
    {S:St} {bs:List AV} (h:(qo fl spec S bs).1) (hS:Wf S) {ops:Array Oper} {o:Oper} {g:Operand} {args:Array Operand} {tys:Array TypeId} {caps:List AV} (hw:Want ops o S)
    (ho:o.op=.call { callee:=.value g,args:=args,argTypes:=tys }) (hg:wO (ev S g)=some (some f,caps)) (hb:ZA (ev S g)++(args.toList.map (ev S)++caps)=bs):VE A P ops o (qo fl spec S bs).2 S:=by
  obtain ⟨hp,hs⟩:=h
  obtain ⟨hvp,hfl,hfn⟩:=hf _ hp hs
  have hg':=QR hg
  have hrows:=AV.plainL_rows S.h bs hp
  have hids:=AV.plain_ids _ hvp
  have:=KE (A:=A) (hs:=[]) (bo:=AV.rowsL bs) (dr:=bif fl then [] else AV.rowsL bs) (hf:=fun i=>if i ∈ AV.rowsL bs then S.h i else none) (nn:=0) hS hw ho hg' hfn (fun h=>absurd rfl h) (fun F S2 _ w ρ own h _ _ _=>hB F S2 _ _ ρ own w h)
    (by rw [hb];exact AV.viewL_le S.h _ _ bs hp fun i hi=>by simp [hi]) (fun i o0 hi=>by cases hi) (fun j hj=>by simp at hj) List.nodup_nil
    (fun i ob hi=>by
      by_cases hm:i ∈ AV.rowsL bs
      · rw [if_pos hm] at hi;exact ⟨hi,by simp,hm⟩
      · rw [if_neg hm] at hi;cases hi) (fun i hi=>by obtain ⟨e,k,xs,h⟩:=hrows i hi;exact ⟨⟨_,h⟩,by simp⟩)
    (by
      cases fl with
      |true=>exact .inr ⟨rfl,hfl rfl,fun i ob hi=>by cases hi⟩
      |false=>exact .inl rfl)
    (by rw [hids];simp) (fun i ob hi=>by cases hi)
  have e:zl S [] (AV.rowsL bs) (bif fl then [] else AV.rowsL bs) (spec (AV.viewL S.h bs)).2 noH 0 0=(qo fl spec S bs).2:=by
    simp only [zl,qo,AV.plain_ren _ _ hvp]
    cases fl <;> simp [zA]
  rw [e] at this
  exact this
end Go.Sym
namespace Go.Sym
open Go
theorem xx {P : Program} {d : Nat} {w : World} {xs ys : Array Value} {f : Field} {fs : List Field} {r r' : Bool} {a b : Value} (hn : f.name ≠ "_") (ha : (part f.type xs f.offset).run P w = .ok a w) (hb : (part f.type ys f.offset).run P w = .ok b w)
    (he:(Op.equalIn d f.type a b).run P w=.ok r w) (hr:(Op.eqFields d xs ys fs).run P w=.ok r' w):(Op.eqFields d xs ys (f :: fs)).run P w=.ok (r && r') w:=by
  simp only [Op.eqFields,if_pos hn,Sem.run_bind,ha,hb,Result.andThen_ok,he]
  cases r
  · simp
  · simpa using hr
theorem Zv {P:Program} {d:Nat} {w:World} {xs ys:Array Value}:(Op.eqFields d xs ys []).run P w=.ok true w:=by simp [Op.eqFields]
theorem vF {P:Program} {t:TypeId} {xs:Array Value} {off:Nat} {v:Value} {w:World} (ht:∀ w,(isAgg t).run P w=.ok false w) (h:xs[off]?=some v):(part t xs off).run P w=.ok v w:=by
  simp [part,ht,h]
theorem jI {P:Program} {t:TypeId} {xs cs:Array Value} {off n:Nat} {w:World} (ht:∀ w,(isAgg t).run P w=.ok true w) (hs:∀ w,(sizeOf t).run P w=.ok n w) (h:xs.extract off (off+n)=cs):(part t xs off).run P w=.ok (.agg cs) w:=by
  simp [part,ht,hs,h]
theorem Fin.val {S:St} {rv v:AV} (hj:S.j=0) (h:AV.le S.h some rv v):Fin S rv v 0 noH 0:=by
  refine ⟨some,S.h,h,fun i o hi=>?_,fun i o k o' c hi=>?_,fun i o hi=>⟨hi,fun j o1 hj=>?_⟩,fun i hi=>?_,hj⟩
  · cases hi
  · cases hi
  · cases hj
  · omega
theorem ite_and {p:Prop} [Decidable p] {A B:Prop}:(if p then A else B)=((p→A)∧(¬ p→B)):=by
  by_cases h:p <;> simp [h]
section
variable {A : Frm → Prop} {P : Program} {N : St → Prop} {K : Exit → St → Prop} {S : St} {id id' : Nat}
theorem wh {c:Operand} {x y:Code} {b:Bool} (hc:WU (ev S c)=some b) (h1:b=true→Sym A P x S K) (h2:b=false→Sym A P y S K):Sym A P (.cond c x y) S K:=Qe1 (Y2 hc) h1 h2
theorem K8 (h:N S):QH N K .normal S:=h
theorem Ku (h:K (.exit id) S):QH N K (.exit id) S:=h
theorem X0 (h:K .ret S):QH N K .ret S:=h
theorem Y9 (h:K .normal S):xc id K .normal S:=h
theorem YP (h:K .ret S):xc id K .ret S:=h
theorem WR (h:K .normal S):xc id K (.exit id) S:=by simp only [xc,if_true];exact h
theorem Yr (hn:id' ≠ id) (h:K (.exit id') S):xc id K (.exit id') S:=by simp only [xc,if_neg hn];exact h
end
theorem QL {α β:Type} (f:α→β) (l:List α) (n:Nat) (d:α):(l.map f).getD n (f d)=f (l.getD n d):=by simp [List.getD_eq_getElem?_getD,List.getElem?_map]
theorem wrap64 {n:Int} (h:-9223372036854775808≤n) (h':n < 9223372036854775808):IntKind.wrap .i64 n=n:=by
  unfold IntKind.wrap
  simp only [IntKind.bits,IntKind.signed]
  simp
  split <;> omega
theorem Qct:maxLen < 9223372036854775808:=by decide
theorem zt {k n:Nat} (h:k < n) (hn:n≤maxLen):IntKind.wrap .i64 ((k:Int)+1)=((k+1:Nat):Int):=by
  have:=Qct
  rw [wrap64 (by omega) (by omega)];rfl
abbrev Entry:=St→List AV→Ans
def qh (A:Frm→Prop) (P:Program) (f:FuncId) (e:Entry):Prop:=∀ S bs,(e S bs).1→Wf S→∀ ops o g args tys caps,Want ops o S→o.op=.call { callee:=.value g,args:=args,argTypes:=tys }→wO (ev S g)=some (some f,caps)→ZA (ev S g)++(args.toList.map (ev S)++caps)=bs→VE A P ops o (e S bs).2 S
def Qcg (S:St) (f:FuncId) (bs:List AV):List (FuncId × Entry)→Ans
  |[]=>bad
  |p :: r=>if f=p.1 then p.2 S bs else Qcg S f bs r
def tab (L:List (FuncId × Entry)):Ctr:=fun S f bs=>match f with
  |some f=>Qcg S f bs L
  |none=>bad
def Qbf (A:Frm→Prop) (P:Program):List (FuncId × Entry)→Prop
  |[]=>True
  |p :: r=>qh A P p.1 p.2∧Qbf A P r
theorem QdM {A:Frm→Prop} {P:Program} {L:List (FuncId × Entry)} (h:Qbf A P L):Ctr.OK A P (tab L):=by
  intro S f bs hp hS ops o g args tys caps hw ho hg hb
  cases f with
  |none=>exact hp.elim
  |some f =>
    simp only [tab] at hp ⊢
    induction L with
    |nil=>exact hp.elim
    |cons p r ih =>
      simp only [Qcg] at hp ⊢
      by_cases hf:f=p.1
      · rw [if_pos hf] at hp ⊢;subst hf;exact h.1 S bs hp hS ops o g args tys caps hw ho hg hb
      · rw [if_neg hf] at hp ⊢;exact ih h.2 hp
theorem qL {A:Frm→Prop} {P:Program} {f:FuncId} {fl:Bool} {spec:List AV→Prop × AV} (hf:∀ az,AV.plainL az→(spec az).1→(spec az).2.plain∧(fl=true→(spec az).2.flat)∧FnV P f az (spec az).2):qh A P f (qo fl spec) :=
  fun S bs h hS ops o g args tys caps hw ho hg hb=>VD (B:=noB) (fun _ _ _ _ _ _ _ _=>trivial) hf h hS hw ho hg hb
theorem K3 {T:World→Prop} {P:Program} {f:FuncId} {fl:Bool} {spec:List AV→Prop × AV} (hf:∀ az,AV.plainL az→(spec az).1→(spec az).2.plain∧(fl=true→(spec az).2.flat)∧Fn (VX T) P f az noH (spec az).2 noH 0):qh (YA T) P f (qo fl spec) :=
  fun S bs h hS ops o g args tys caps hw ho hg hb=>VD (B:=VX T) (fun _ _ _ _ _ _ _ h=>Qco h) hf h hS hw ho hg hb
end Go.Sym
namespace Go.Sym
open Go
variable {A : Frm → Prop} {P : Program}
def Jh (P:Program) (y:Value) (vs:Array Value) (w:World) (R:Ending→World→Prop):Prop :=
  ∃ l fr tmps asg body,y=.func (.yield l) #[] #[]∧(Instr.yield l vs).run P w=.ok (.round l fr tmps asg body) w∧RoundIn (W none) 0 P l fr tmps asg body w R
theorem Jh.mono {y:Value} {vs:Array Value} {w:World} {R R':Ending→World→Prop} (h:Jh P y vs w R) (hr:∀ e w',R e w'→R' e w'):Jh P y vs w R':=by
  obtain ⟨l,fr,tmps,asg,body,e1,e2,e3⟩:=h
  exact ⟨l,fr,tmps,asg,body,e1,e2,RoundIn.mono e3 hr⟩
def Bcc (P:Program) (hp h0:Nat→Option AObj) (ys:Nat→List AV) (hl:Nat→Nat→Option AObj) (ans:Nat→Bool) (R:Nat) (c:Ctx):Prop :=
  ∀ j,j < R→∀ (Pr:Nat→Prop) (own:Own) (w:World) (ρ:Nat→Value) (vs:Array Value),Hp (Jc c.J j Pr w) c.y (hl j) 0 own w ρ→(∀ i o,hp i=some o→ρ i=c.ρ i) →
    Ext (fun b=>c.own.prv b∨∃ i o,h0 i=some o∧blk (c.ρ i)=some b) c.w w →
    (∀ i o b,hl j i=some o→blk (ρ i)=some b→c.w.heap.size≤b∨∃ k o',h0 k=some o'∧blk (c.ρ k)=some b) →
    (∀ b,own.prv b→c.own.prv b∨c.w.heap.size≤b∨∃ k o',h0 k=some o'∧blk (c.ρ k)=some b) →
    vs.size=(ys j).length→(∀ i a,(ys j)[i]?=some a→ARel w (okB w own ρ (hl j)) ρ c.y a (vs.getD i undef)) →
    Jh P c.y vs w fun e w'=>e=.returned (.bool (ans j))∧∃ own',Hp (Jc c.J j Pr w) c.y (hl j) 1 own' w' ρ∧Ext (fun b=>own.prv b∨∃ i o,hl j i=some o∧blk (ρ i)=some b) w w'∧∀ b,own'.prv b→own.prv b∨w.heap.size≤b
abbrev Bcb (P:Program) (h0:Nat→Option AObj):=Bcc P h0 h0
structure Rounds (ans:Nat→Bool) (R N:Nat):Prop where
  le:R≤N
  yes:∀ j,j+1 < R→ans j=true
  stop:R < N→0 < R∧ans (R - 1)=false
theorem Rounds.lt {ans:Nat→Bool} {R N k:Nat} (h:Rounds ans R N) (hk:k < N) (hy:∀ j,j < k→ans j=true):k < R:=by
  refine Classical.byContradiction fun hn=>?_
  have h1:R < N:=by omega
  obtain ⟨h2,h3⟩:=h.stop h1
  have:=hy (R - 1) (by omega)
  rw [h3] at this;cases this
theorem Rounds.last {ans:Nat→Bool} {R N k:Nat} (h:Rounds ans R N) (hk:k < R) (hn:ans k=false):k+1=R:=by
  refine Classical.byContradiction fun he=>?_
  have:=h.yes k (by omega)
  rw [hn] at this;cases this
theorem Rounds.all {ans:Nat→Bool} {R N k:Nat} (h:Rounds ans R N) (hk:N≤k) (hy:∀ j,j < k→ans j=true):R=N:=by
  refine Classical.byContradiction fun he=>?_
  have h1:R < N:=by have:=h.le;omega
  obtain ⟨h2,h3⟩:=h.stop h1
  have:=hy (R - 1) (by omega)
  rw [h3] at this;cases this
def Iter (P:Program) (f:FuncId) (az:List AV) (h0:Nat→Option AObj) (ys:Nat→List AV) (N:Nat) (hl:Nat→Nat→Option AObj) (v:Nat→(Nat→Bool)→AV):Prop :=
  ∀ ans R,Rounds ans R N→Fn (Bcb P h0 ys hl ans R) P f az h0 (v R ans) h0 R
def Acb (P:Program) (hp h0:Nat→Option AObj) (ys:Nat→List AV) (hl:Nat→Nat→Option AObj) (ans:Nat→Bool) (R:Nat) (F:Frm):Prop:=F.H0=h0∧(∀ i o,hp i=some o→∃ o',h0 i=some o')∧Bcc P hp h0 ys hl ans R ⟨F.y,F.J,F.own0,F.w0,F.ρ0⟩
theorem Jc.shift {J:JJ} {j k:Nat} {Pr:Nat→Prop} {w0:World} {own:Own} {w:World} (h:Jc J j Pr w0 k own w):Jc J (j+k) Pr w0 0 own w:=by
  obtain ⟨own',h1,h2,h3,h4⟩:=h
  exact ⟨own',by rw [Nat.add_zero];exact h1,h2,h3,h4⟩
theorem ve_cb {ops:Array Oper} {o:Oper} {S:St} (hS:Wf S) (hw:Want ops o S) {g:Operand} {args:Array Operand} {tys:Array TypeId} (ho:o.op=.call { callee:=.value g,args:=args,argTypes:=tys }) (hg:ev S g=.cb)
    {hp hp0:Nat→Option AObj} {ys:Nat→List AV} {hl:Nat→Nat→Option AObj} {ans:Nat→Bool} {R:Nat} (hA:∀ F,A F→Acb P hp hp0 ys hl ans R F) (hj:S.j < R)
    {hs bo:List Nat} {hf:Nat→Option AObj}
    (hpin:∀ i o,hp i=some o→hs[i]?=some i)
    (hargs:AV.leL hf (fun j=>hs[j]?) (args.toList.map (ev S)) (ys S.j))
    (hobj:∀ i o0,hl S.j i=some o0→∃ c ob,hs[i]?=some c∧S.h c=some ob∧AObj.le hf (fun j=>hs[j]?) ob o0)
    (hdom:∀ j,j < hs.length→∃ o0,hl S.j j=some o0) (hnd:hs.Nodup)
    (hfr:∀ i ob,hf i=some ob→S.h i=some ob∧i ∉ hs∧i ∈ bo) (hbo:∀ i ∈ bo,(∃ ob,S.h i=some ob)∧i ∉ hs)
    (hh1:∀ i ob,hl S.j i=some ob→i < hs.length+0∧∀ id ∈ ob.ids,id < hs.length+0) :
    VE A P ops o (zl S hs bo bo (.v (.bool (ans S.j))) (hl S.j) 0 1) S:=by
  obtain ⟨hall,hslt,hI,hN⟩:=R4 (v:=.v (.bool (ans S.j))) (dj:=1) hS hargs hobj hdom hnd hfr hbo (.inl rfl) (by simp [AV.ids]) hh1
  refine ⟨fun F hF hds S2 a w hag hfr2 ⟨ρ,own,H⟩=>?_,hI,hN⟩
  rw [jo hw hag H,if_pos rfl]
  have hS2:∀ c,c ∈ hs∨c ∈ bo→S2.h c=S.h c:=fun c hc=>hag.2.1 c (by simpa [zl] using hc)
  have hjj:S2.j=S.j:=hag.2.2 (by simp [zl])
  have hgv:=qD H g
  rw [hag.ev (x:=g) (by simp [ho,Op.operands,Call.operands]),hg] at hgv
  generalize hgv':a.eval g=gv at hgv
  cases hgv with
  |cb e _ =>
    obtain ⟨hsz,hrel⟩:=Yc ho hag H (caps:=[]) (cvs:=#[]) rfl (by simp)
    simp only [List.append_nil,Array.append_empty] at hsz hrel
    obtain ⟨c1,c2,c3,c4⟩:=Xl (v:=.v (.bool (ans S.j))) (dj:=1) hS hargs hobj hdom hnd hfr hbo (.inl rfl) (by simp [AV.ids]) hh1 H (fun _=>rfl) hS2 hfr2 hsz hrel (vL hds)
    obtain ⟨hH0,hsub,hB⟩:=hA F hF
    have hrho:∀ i o,hp i=some o→zg hs ρ i=F.ρ0 i:=fun i o hi=>by
      obtain ⟨o',ho'⟩:=hsub i o hi
      simp only [zg,hpin i o hi]
      exact H.pins i o' (by rw [hH0];exact ho')
    have hown0:∀ b,F.owns0 b ↔ ∃ i o,hp0 i=some o∧blk (F.ρ0 i)=some b:=fun b=>by simp only [Frm.owns0,hH0]
    rw [hjj] at c1
    have hans:=hB S.j hj (xM S2 hs bo ρ) (Qu own (xM S2 hs bo ρ)) w (zg hs ρ) (args.map a.eval) c1 hrho (H.ext.weaken fun b _ h=>h.imp id fun h=>(hown0 b).1 h)
      (fun i o b hi hb=>by
        obtain ⟨c,ob,e1,e2,_⟩:=hobj i o hi
        have:zg hs ρ i=ρ c:=by simp only [zg,e1]
        rw [this] at hb
        exact ((H.blkOK c ob b ((hS2 c (.inl (List.mem_of_getElem? e1))).trans e2) hb).2).imp id fun h=>(hown0 b).1 h)
      (fun b hb=>by
        rcases hb with hb|⟨i,ob,hi,_,_,hb⟩
        · rcases H.ownsub b hb with h|h
          · exact .inl h
          · exact .inr (.inl h)
        · rcases (H.blkOK i ob b hi hb).2 with h|h
          · exact .inr (.inl h)
          · exact .inr (.inr ((hown0 b).1 h))) c2 c3
    obtain ⟨l,fr,tmps,asg,body,ey,hy,hrd⟩:=hans
    simp only at ey
    have hexec:(execOp a.eval o).run P w=.ok (.round l fr tmps asg body) w:=by
      rw [e] at ey
      simp [execOp,ho,resolve,Deferred.ofValue,hgv',ey,invoke,hy]
    refine ⟨Zd o a w F.r, ?_⟩
    rw [Oper.semAt_eq _ _ _ (by simp [ho]),hexec]
    simp only [Oper.uponIn]
    refine ⟨fun h=>by simp [W] at h, ?_⟩
    have hrd':RoundIn (W F.r) 0 P l fr tmps asg body w _:=show RoundIn (W none) 0 P l fr tmps asg body w _ from hrd
    refine RoundIn.mono hrd' ?_
    rintro e w' ⟨rfl,own',q1,q2,q3⟩
    obtain ⟨ρ',own'',HH⟩:=c4 (.bool (ans S.j)) w' own' (zg hs ρ) (by rw [hjj];exact q1) (.v rfl) q2 q3 (fun h=>by cases h) (fun _ _ _=>rfl) (fun i o b hi hb=>.inr ⟨i,o,hi,hb⟩)
    exact jm HH
end Go.Sym
namespace Go.Sym
open Go
variable {A : Frm → Prop} {P : Program}
mutual
def AV.nocb:AV→Prop
  |.v _=>True
  |.nil=>True
  |.emp=>True
  |.sl _=>True
  |.agg cs=>AV.nocbL cs
  |.tup cs=>AV.nocbL cs
  |.ep _ _=>True
  |.ptr _ _=>True
  |.row _=>True
  |.rp _ _ _ _=>True
  |.csl _ _=>True
  |.psl _ _ _ _=>True
  |.rsl _ _ _ _=>True
  |.mp _=>True
  |.clo _ cs=>AV.nocbL cs
  |.cb=>False
  |.junk=>True
  |.any=>True
  |.bnd _ cs=>AV.nocbL cs
def AV.nocbL:List AV→Prop
  |[]=>True
  |c :: cs=>c.nocb∧AV.nocbL cs
end
theorem AV.nocbL_mem:∀ {cs:List AV},AV.nocbL cs→∀ c ∈ cs,c.nocb
  |[],_,c,hc=>by simp at hc
  |d :: cs,h,c,hc=>by
    simp only [AV.nocbL] at h
    rcases List.mem_cons.1 hc with rfl|hc
    · exact h.1
    · exact AV.nocbL_mem h.2 c hc
def AObj.nocb:AObj→Prop
  |.cells cs=>AV.nocbL cs
  |.row _ _ _=>True
  |.map _=>True
  |.mark=>True
  |.rows _ cs=>AV.nocbL cs
  |.it _ _ _=>True
  |.fm es=>AV.nocbL (es.map (·.2))
theorem ARel.chy {w:World} {ok:Nat→Prop} {ρ:Nat→Value} {y y':Value} {c:AV} {x:Value} (hr:ARel w ok ρ y c x):c.nocb→ARel w ok ρ y' c x:=by
  induction hr with
  |v hx=>exact fun _=>.v hx
  |nil=>exact fun _=>.nil
  |emp=>exact fun _=>.emp
  |sl hd=>exact fun _=>.sl hd
  |agg hs _ ih=>exact fun h=>.agg hs fun i c hc=>ih i c hc (AV.nocbL_mem h c (List.mem_of_getElem? hc))
  |tup hs _ ih=>exact fun h=>.tup hs fun i c hc=>ih i c hc (AV.nocbL_mem h c (List.mem_of_getElem? hc))
  |ep f h1 h2 h3 h4=>exact fun _=>.ep f h1 h2 h3 h4
  |ptr e=>exact fun _=>.ptr e
  |row e e'=>exact fun _=>.row e e'
  |rp e=>exact fun _=>.rp e
  |csl e h1=>exact fun _=>.csl e h1
  |psl e h1 h2=>exact fun _=>.psl e h1 h2
  |rsl e h1=>exact fun _=>.rsl e h1
  |mp e e'=>exact fun _=>.mp e e'
  |clo hs _ ih=>exact fun h=>.clo hs fun i c hc=>ih i c hc (AV.nocbL_mem h c (List.mem_of_getElem? hc))
  |cb e e'=>exact fun h=>h.elim
  |junk=>exact fun _=>.junk
  |any e=>exact fun _=>.any e
  |bnd hs _ ih=>exact fun h=>.bnd hs fun i c hc=>ih i c hc (AV.nocbL_mem h c (List.mem_of_getElem? hc))
theorem ORel.chy {w:World} {ok:Nat→Prop} {ρ:Nat→Value} {y y':Value} {o:AObj} {x:Value} (hr:ORel w ok ρ y o x) (hn:o.nocb):ORel w ok ρ y' o x:=by
  cases hr with
  |cells h1 h2 h3=>exact .cells h1 h2 fun i c hc=>⟨(h3 i c hc).1.chy (AV.nocbL_mem hn c (List.mem_of_getElem? hc)),(h3 i c hc).2⟩
  |row h1 h2 h3 h4=>exact .row h1 h2 h3 h4
  |map h1 h2 h3 h4 h5=>exact .map h1 h2 h3 h4 h5
  |mark h1=>exact .mark h1
  |it h1 h2 h3=>exact .it h1 h2 h3
  |fm h1 h2 h3 h4 h5=>exact .fm h1 h2 (fun i e p he hp=>let ⟨g1,g2,g3⟩:=h3 i e p he hp;⟨g1,g2,g3.chy (AV.nocbL_mem hn p.2 (List.mem_map.2 ⟨p,List.mem_of_getElem? hp,rfl⟩))⟩) h4 h5
  |rows h3 h4=>exact .rows h3 fun i c hc=>let ⟨u,hu,hr,h1⟩:=h4 i c hc;⟨u,hu,hr.chy (AV.nocbL_mem hn c (List.mem_of_getElem? hc)),h1⟩
def vY (h:Nat→Option AObj) (ρ:Nat→Value) (b:Nat):Prop:=∃ i o,h i=some o∧blk (ρ i)=some b
structure RH (F:Frm) (ws:World) (ρs:Nat→Value) (oks:Nat→Prop) (keep:Nat→Prop) (l:Nat) (rc:Loop) (h:Nat→Option AObj) (j:Nat) (ownr:Own) (w:World) (ρk:Nat→Value) (ownk:Own) (fz:Nat→Prop):Prop where
  jay:F.J j ownk w
  prv:∀ b,ownr.prv b ↔ ownk.prv b∨vY h ρk b∨b=l
  all:∀ b,ownr.all b ↔ ownk.all b∨vY h ρk b∨b=l∨fz b
  fzok:∀ b,fz b→b < w.heap.size∧¬ ownk.prv b∧¬ vY h ρk b∧b ≠ l
  obj:∀ i o,h i=some o→ORel w fz ρk F.y o (ρk i)
  inj:∀ i k o o' b,h i=some o→h k=some o'→blk (ρk i)=some b→blk (ρk k)=some b→i=k
  off:∀ i o b,h i=some o→blk (ρk i)=some b→¬ ownk.all b∧b ≠ l
  lown:¬ ownk.all l
  rcd:w.heap[l]?=some (.loop rc)
  oks:∀ b,oks b→fz b∧w.heap[b]?=ws.heap[b]?
  keep:∀ id,keep id→ρk id=ρs id
  prov:∀ i o b,h i=some o→blk (ρk i)=some b→F.w0.heap.size≤b∨F.owns0 b
  psub:∀ b,ownk.prv b→F.own0.prv b∨F.w0.heap.size≤b
  still:j=0→ownk=F.own0
  big:F.w0.heap.size≤w.heap.size
def RJ (F:Frm) (ws:World) (ρs:Nat→Value) (oks:Nat→Prop) (keep:Nat→Prop) (l:Nat) (rc:Nat→Loop) (hc:Nat→Nat→Option AObj) (jj:Nat→Nat):JJ :=
  fun k ownr w=>∃ ρk ownk fz,RH F ws ρs oks keep l (rc k) (hc k) (jj k) ownr w ρk ownk fz
theorem RJ.stable (F:Frm) (ws:World) (ρs:Nat→Value) (oks:Nat→Prop) (keep:Nat→Prop) (l:Nat) (rc:Nat→Loop) (hc:Nat→Nat→Option AObj) (jj:Nat→Nat):(RJ F ws ρs oks keep l rc hc jj).Stable:=by
  rintro k ownr w ⟨ρk,ownk,fz,H⟩
  have hll:l < w.heap.size:=(Array.getElem?_eq_some_iff.1 H.rcd).1
  have hall:∀ b,ownr.all b→b < w.heap.size:=fun b hb=>by
    rcases (H.all b).1 hb with h|⟨i,o,hi,hbi⟩|rfl|h
    · exact (F.stable _ _ _ H.jay).1 b h
    · exact (H.obj i o hi).lt hbi
    · exact hll
    · exact (H.fzok b h).1
  refine ⟨hall,fun w' hx=>?_⟩
  have same:∀ b,ownr.all b→w'.heap[b]?=w.heap[b]?:=fun b hb=>hx.block b (hall b hb) fun hn=>hn hb
  have hfz:∀ b,fz b→fz b∧w'.heap[b]?=w.heap[b]?:=fun b hb=>⟨hb,same b ((H.all b).2 (.inr (.inr (.inr hb))))⟩
  refine ⟨ρk,ownk,fz,(F.stable _ _ _ H.jay).2 w' (hx.weaken fun b _ hn ho=>hn ((H.all b).2 (.inl ho))),H.prv,H.all,fun b hb=>⟨Nat.lt_of_lt_of_le (H.fzok b hb).1 hx.size,(H.fzok b hb).2⟩,fun i o hi=>?_,H.inj,H.off,H.lown, ?_,fun b hb=>⟨(H.oks b hb).1, ?_⟩,H.keep,H.prov,H.psub,H.still,Nat.le_trans H.big hx.size⟩
  · exact (H.obj i o hi).mono hfz (fun b hb=>same b ((H.all b).2 (.inr (.inl ⟨i,o,hi,hb⟩)))) fun _ _=>rfl
  · rw [same l ((H.all l).2 (.inr (.inr (.inl rfl))))];exact H.rcd
  · rw [(hfz b (H.oks b hb).1).2];exact (H.oks b hb).2
def Yt (T:Nat→AV):List (Nat × AV)→(Nat→AV)
  |[]=>T
  |p :: r=>Yt (upd T p.1 p.2) r
def zZ (hs:List Nat) (n nl:Nat) (h:Nat→Option AObj):List (Nat × AObj):=(List.range (hs.length+nl)).filterMap fun m=>(h m).map fun o=>(qj hs n m,o.ren (qj hs n))
theorem vD {L M:List (Nat × AObj)} {i:Nat}:qc (L++M) i=match qc L i with|some o=>some o|none=>qc M i:=by
  induction L with
  |nil=>rfl
  |cons p r ih =>
    simp only [List.cons_append,qc]
    split
    · rfl
    · exact ih
theorem QE {hs:List Nat} {n nl:Nat} {h:Nat→Option AObj} {i:Nat} {o:AObj} (hi:qc (zZ hs n nl h) i=some o):∃ m o0,m < hs.length+nl∧h m=some o0∧i=qj hs n m∧o=o0.ren (qj hs n):=by
  have:=qV hi
  simp only [zZ,List.mem_filterMap,List.mem_range] at this
  obtain ⟨m,hm,e⟩:=this
  obtain ⟨o0,h0,e⟩:=Option.map_eq_some_iff.1 e
  simp only [Prod.mk.injEq] at e
  exact ⟨m,o0,hm,h0,e.1.symm,e.2.symm⟩
def KY (F:Frm) (l j:Nat) (Pr:Nat→Prop) (wj:World) (hl:Pr l) (hrec:∃ rc,wj.heap[l]?=some (.loop rc)) (w0:World) (ρ0:Nat→Value) (H0:Nat→Option AObj) (own0:Own) (n0:Nat) (pinn:∀ i o,H0 i=some o→i < n0):Frm :=
  { r:=some l,y:=F.y,J:=Jc F.J j Pr wj,stable:=Jc.stable F.stable j Pr wj,w0,ρ0,H0,own0,n0,nt:=F.nt,pinn,
    recs:=fun l' h k own w hJ=>by
      cases h
      obtain ⟨own',_,_,_,hp⟩:=hJ
      obtain ⟨rc,hrc⟩:=hrec
      exact ⟨rc,(hp l hl).2.2.trans hrc⟩ }
theorem XH {w:World} {ok:Nat→Prop} {ρ:Nat→Value} {y:Value}:∀ {L:List (Nat × AV)} {vs:List (Nat × Value)} {T:Nat→AV} {tmps:Array Value},L.length=vs.length→(∀ (i:Nat) (p:Nat × AV) (v:Nat × Value),L[i]?=some p→vs[i]?=some v→p.1=v.1∧ARel w ok ρ y p.2 v.2) →
    (∀ p ∈ L,p.1 < tmps.size)→(∀ t,ARel w ok ρ y (T t) (tmps.getD t undef)) →
    (∀ t,ARel w ok ρ y (Yt T L t) ((vs.foldl (fun (tmps:Array Value) p=>tmps.setIfInBounds p.1 p.2) tmps).getD t undef))∧(vs.foldl (fun (tmps:Array Value) p=>tmps.setIfInBounds p.1 p.2) tmps).size=tmps.size
  |[],[],T,tmps,_,_,_,h=>⟨h,rfl⟩
  |p :: L,v :: vs,T,tmps,hl,hp,hb,h=>by
    obtain ⟨e,hr⟩:=hp 0 p v rfl rfl
    have h1:=XH (L:=L) (vs:=vs) (T:=upd T p.1 p.2) (tmps:=tmps.setIfInBounds v.1 v.2) (by simpa using hl) (fun i p v h h'=>hp (i+1) p v (by simpa using h) (by simpa using h'))
      (fun q hq=>by simpa using hb q (List.mem_cons_of_mem _ hq)) fun t=>by
        by_cases ht:t=p.1
        · subst ht
          have hlt:p.1 < tmps.size:=hb p List.mem_cons_self
          rw [upd_same]
          have:(tmps.setIfInBounds v.1 v.2).getD p.1 undef=v.2:=by rw [← e];simp [hlt]
          rw [this];exact hr
        · rw [upd_ne _ _ _ _ ht]
          have:(tmps.setIfInBounds v.1 v.2).getD t undef=tmps.getD t undef:=by
            rw [← e];simp [Array.getElem?_setIfInBounds_ne (Ne.symm ht)]
          rw [this];exact h t
    exact ⟨h1.1,by simpa using h1.2⟩
  |[],_ :: _,_,_,hl,_,_,_=>by simp at hl
  |_ :: _,[],_,_,hl,_,_,_=>by simp at hl
theorem QbZ (T:Nat→AV):∀ (L:List (Nat × AV)) (t:Nat),Yt T L t=T t∨∃ p ∈ L,Yt T L t=p.2:=by
  intro L
  induction L generalizing T with
  |nil=>intro t;exact .inl rfl
  |cons p r ih =>
    intro t
    rcases ih (upd T p.1 p.2) t with h|⟨q,hq,h⟩
    · by_cases ht:t=p.1
      · subst ht;rw [upd_same] at h;exact .inr ⟨p,List.mem_cons_self,h⟩
      · rw [upd_ne _ _ _ _ ht] at h;exact .inl h
    · exact .inr ⟨q,List.mem_cons_of_mem _ hq,h⟩
def JX (T:Nat→AV) (ps:List Nat) (hs:List Nat) (n nl:Nat) (ys:List AV) (own:List (Nat × AObj)) (lent:Nat→Option AObj):St :=
  { t:=Yt T (ps.zip (ys.map (AV.ren (qj hs n)))),h:=qc (own++zZ hs n nl lent),n:=n+nl,m:=n+nl }
end Go.Sym
namespace Go.Sym
open Go
variable {A : Frm → Prop} {P : Program}
def wB (hs:List Nat) (n nl:Nat) (ρk ρx:Nat→Value) (id:Nat):Value:=if n≤id∧id < n+nl then ρx (hs.length+(id - n)) else ρk id
structure RStat (F:Frm) (T:Nat→AV) (ps hs:List Nat) (n nl:Nat) (ys:List AV) (own:List (Nat × AObj)) (lent:Nat→Option AObj) (keep:Nat→Prop):Prop where
  hsn:∀ c ∈ hs,c < n
  tmp:∀ t,∀ id ∈ (T t).ids,id < n∧keep id
  own:∀ i o,qc own i=some o→i < n∧∀ id ∈ o.ids,id < n
  lent:∀ m o,lent m=some o→m < hs.length+nl∧o.nocb∧∀ id ∈ o.ids,id < hs.length+nl
  args:∀ c ∈ ys,c.nocb∧∀ id ∈ c.ids,id < hs.length+nl
  plen:ps.length=ys.length
  psn:∀ p ∈ ps,p < F.nt
theorem kT {hs:List Nat} {n nl m:Nat} (h:∀ c ∈ hs,c < n) (hm:m < hs.length+nl):qj hs n m < n+nl:=by
  unfold qj
  cases hc:hs[m]? with
  |some c=>have:=h c (List.mem_of_getElem? hc);simp only;omega
  |none=>have:hs.length≤m:=List.getElem?_eq_none_iff.1 hc;simp only;omega
theorem Jy {hs:List Nat} {n nl:Nat} {ρk ρx:Nat→Value} (hn:∀ c ∈ hs,c < n) (hpin:∀ m c,hs[m]?=some c→ρx m=ρk c) {m:Nat} (hm:m < hs.length+nl):wB hs n nl ρk ρx (qj hs n m)=ρx m:=by
  unfold wB qj
  cases hc:hs[m]? with
  |some c =>
    have:=hn c (List.mem_of_getElem? hc)
    simp only
    rw [if_neg (by omega),hpin m c hc]
  |none =>
    have:hs.length≤m:=List.getElem?_eq_none_iff.1 hc
    simp only
    rw [if_pos (by omega)]
    congr 1;omega
theorem wY {hs:List Nat} {n nl:Nat} {ρk ρx:Nat→Value} {id:Nat} (h:id < n):wB hs n nl ρk ρx id=ρk id:=by
  unfold wB;rw [if_neg (by omega)]
theorem WQ {hs:List Nat} {n nl:Nat} {own:List (Nat × AObj)} {lent:Nat→Option AObj} (hsn:∀ c ∈ hs,c < n) (hown:∀ i o,qc own i=some o→i < n∧∀ id ∈ o.ids,id < n):∀ i o,qc (own++zZ hs n nl lent) i=some o→i < n+nl:=by
  intro i o hi
  rw [vD] at hi
  cases ho:qc own i with
  |some o1=>have:=(hown i o1 ho).1;omega
  |none =>
    rw [ho] at hi
    obtain ⟨m,o0,hm,_,rfl,_⟩:=QE hi
    exact kT hsn hm
end Go.Sym
