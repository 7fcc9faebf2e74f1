/- Walks and what they compute, joined: part 2. -/
import Derived.ControlIn
import Derived.CallsIn
import Derived.OrdersIn
import Derived.RangeFuncRecord
import Derived.Maps.AppendAt
import Derived.OwnWalk
import Derived.Below
import Derived.Laws.StructEq
import Derived.Laws.Cells
import Derived.Laws.CopyRow
import Derived.Laws.Slices
import Derived.Laws.MakeOwn
import Derived.RangeFuncLeaves
import Derived.Maps.Keyed
import Derived.Scope
import Derived.Test.YtoapndlmbpphfaaVS1
set_option linter.all false
namespace Go.Sym
open Go
variable {A : Frm → Prop} {P : Program}
section part
variable {ops : Array Oper} {o : Oper} {S : St}
theorem ve_copy (hS:Wf S) (hw:Want ops o S) {t t' e:TypeId} {x y:Operand} (ho:o.op=.call { callee:=.builtin .copy,args:=#[x,y],argTypes:=#[t,t'] }) {i j:TI} (ht:TyFact P t i) (htd:i.td=.slice e) (hj:TyFact P e j) (hk:0 < j.cells) {id lo n:Nat} {e':TypeId} {xs ys:List (List DV)} {hr:List Nat}
    (hx:(ev S x=.row id∧lo=0∧n=xs.length)∨ev S x=.rsl id j.cells lo n) (hc:S.h id=some (.row e' j.cells xs)) (hfit:lo+n≤xs.length) (hn:0 < n) (hyl:∀ r ∈ ys,r.length=j.cells) (hyn:0 < ys.length)
    (hsrc:∀ F S2 a w ρ own,Holds F S2 a w ρ own→(∀ id ∈ hr,S2.h id=S.h id)→∀ v,ARel w (okB w own ρ S2.h) ρ F.y (ev S y) v→∃ flat,Src w (okB w own ρ S2.h) j.cells ys v flat) :
    VE A P ops o { av:=.v (.int .i64 (min ys.length n:Nat)),hw:=[(id,some (.row e' j.cells (xs.take lo++ys.take (min ys.length n)++xs.drop (lo+min ys.length n))))],hr:=id :: hr,n:=S.n } S:=by
  obtain ⟨d,hd,hok⟩:=ht.under
  rw [htd] at hok
  simp only [TD.ok] at hok
  subst hok
  refine VE.setVal rfl hS hw (by simp [ho]) hc (by simp) (by simp [AObj.ids]) fun F S2 a w ρ own hag H hob=>?_
  have hxr:=ev_rel H x
  rw [hag.ev (x:=x) (by simp [ho,Op.operands,Call.operands])] at hxr
  have hyr:=ev_rel H y
  rw [hag.ev (x:=y) (by simp [ho,Op.operands,Call.operands])] at hyr
  obtain ⟨flat,⟨ay,cy,hyv,hsl,hsm,hcell⟩,hfl,hone,hrel⟩:=hsrc F S2 a w ρ own H (fun id hid=>hag.2.1 id (by simp [hid])) _ hyr
  obtain ⟨ad,rfl,hcells⟩:=hcell hyn
  have h5:=H.obj id _ hob
  have hxv:∃ dc,(∃ n0 c,ρ id=.slice (some ⟨(blk (ρ id)).getD 0,0,none⟩) n0 c)∧a.eval x=.slice (some ⟨(blk (ρ id)).getD 0,lo * j.cells,none⟩) n dc:=by
    generalize a.eval x=v at hxr
    rcases hx with ⟨hx,rfl,rfl⟩|hx
    · rw [hx] at hxr
      cases hxr with
      |row e1 e2 =>
        rw [e1] at h5 ⊢
        cases h5 with
        |row r1 r2 r3 r4 =>
          obtain ⟨_,g,cap,cur,rfl,hg,hnc,hcm,_,_,hb⟩:=ownsR_pos r3 (by omega)
          rw [hb];exact ⟨cap,⟨_,_,rfl⟩,by simp⟩
    · rw [hx] at hxr
      cases hxr with
      |@rsl _ _ _ _ b c n0 e1 hlc =>
        rw [e1]
        have:blk (.slice (some ⟨b,0,none⟩) n0 c)=some b:=by simp only [blk];rw [if_neg (by omega)]
        rw [this];exact ⟨c - lo,⟨_,_,rfl⟩,rfl⟩
  obtain ⟨dc,⟨n0,c,hρ⟩,hxv⟩:=hxv
  generalize hbb:(blk (ρ id)).getD 0=b at hρ hxv
  cases h5':ρ id with
  |slice aa nn0 cc =>
    rw [h5'] at hρ
    simp only [Value.slice.injEq] at hρ
    obtain ⟨rfl,rfl,rfl⟩:=hρ
    rw [h5'] at h5
    cases h5 with
    |row r1 r2 r3 r4 =>
      obtain ⟨hown,g,cap,cur,hge,hg,hnc,hcm,hcs,htk,hblk⟩:=ownsR_pos r3 (by omega)
      simp only [Value.slice.injEq,Option.some.injEq,Addr.mk.injEq,and_true] at hge
      obtain ⟨rfl,rfl,rfl⟩:=hge
      generalize hm:min ys.length n=m
      have hmn:m≤n:=by omega
      have hmy:m≤ys.length:=by omega
      have hkm:m * j.cells≤ys.length * j.cells:=Nat.mul_le_mul_right _ hmy
      have hkn:lo * j.cells+m * j.cells≤xs.length * j.cells:=by rw [← Nat.add_mul];exact Nat.mul_le_mul_right _ (by omega)
      have hkc:xs.length * j.cells≤cc * j.cells:=Nat.mul_le_mul_right _ hnc
      have hcl:(flat.take (m * j.cells)).length=m * j.cells:=by rw [List.length_take,hfl];omega
      have hfit':lo * j.cells+(flat.take (m * j.cells)).length≤cur.toList.length:=by rw [hcl,Array.length_toList,hcs];omega
      have hsc:∀ q v,(flat.take (m * j.cells))[q]?=some v→w.cell? (ad.add q)=some v:=fun q v hq=>by
        rw [List.getElem?_take] at hq
        split at hq
        · exact hcells q v hq
        · cases hq
      have hrun:=run_copy_k (P:=P) (t':=t') (ty:=o.type) (fun w=>hj.run_sizeOf w) hd (q:=lo * j.cells) (dLen:=n) (dCap:=dc) hg (a:=ad) (sLen:=ys.length) (sCap:=cy) (cs:=flat.take (m * j.cells)) (by rw [hcl];congr 1;exact hm.symm)
        hsc (by simpa using hfit') fun v hv=>hone v (List.mem_of_mem_take hv)
      refine ⟨w.setRow b (cur.toList.take (lo * j.cells)++flat.take (m * j.cells)++cur.toList.drop (lo * j.cells+(flat.take (m * j.cells)).length)).toArray, ?_,Ext.setRow w b _ hblk, ?_⟩
      · unfold execOp
        simp only [ho,resolve,invoke,builtin,Sem.run_bind,Sem.run_pure,Result.andThen_ok,List.map_toArray,List.map_cons,List.map_nil,hxv,hyv,hrun]
        rw [show Nat.min ys.length n=m from hm];rfl
      · try rw [h5']
        have hyt:(ys.take m).length=m:=by simp;omega
        have hfx:lo+(ys.take m).length≤xs.length:=by omega
        have e1:xs.take lo++ys.take m++xs.drop (lo+m)=xs.take lo++ys.take m++xs.drop (lo+(ys.take m).length):=by rw [hyt]
        rw [e1]
        have hlen':=splice_length (new:=ys.take m) hfx
        have hcl2:cur.toList.length=cc * j.cells:=by rw [Array.length_toList (xs:=cur),hcs]
        have hmono:∀ {d u},DRel w (okB w own ρ S2.h) d u→DRel (w.setRow b (cur.toList.take (lo * j.cells)++flat.take (m * j.cells)++cur.toList.drop (lo * j.cells+(flat.take (m * j.cells)).length)).toArray) (okB w own ρ S2.h) d u:=fun hr =>
          hr.mono fun q hq=>⟨hq,setRow_other w b q _ (fun eq=>hq.2.2 id _ hob (by rw [h5',hblk,eq]))⟩
        refine .row (flat:=(cur.toList.take (lo * j.cells)++flat.take (m * j.cells)++cur.toList.drop (lo * j.cells+(flat.take (m * j.cells)).length)).take (xs.length * j.cells)) hk (fun r hr=>?_) (.inl ⟨?_,.inr ⟨b,cc,_,by rw [hlen'],Nat.zero_le _,setRow_heap w b cur _ _ _ hg,by rw [hlen'];exact hnc,hcm, ?_, ?_⟩⟩) fun q r p dd hq hp=>?_
        · simp only [List.mem_append] at hr
          rcases hr with (hr|hr)|hr
          · exact r2 r (List.mem_of_mem_take hr)
          · exact hyl r (List.mem_of_mem_take hr)
          · exact r2 r (List.mem_of_mem_drop hr)
        · rw [hlen',List.length_take,splice_length hfit',hcl2];omega
        · rw [List.size_toArray,splice_length hfit',hcl2]
        · rw [hlen']
        · have hpk:p < j.cells:=by
            have:=(List.getElem?_eq_some_iff.1 hp).1
            rw [splice_get hfx] at hq
            split at hq
            · rw [r2 r (List.mem_of_getElem? hq)] at this;exact this
            · split at hq
              · rw [hyl r (List.mem_of_mem_take (List.mem_of_getElem? hq))] at this;exact this
              · rw [r2 r (List.mem_of_getElem? hq)] at this;exact this
          have hql:q < xs.length:=by have:=(List.getElem?_eq_some_iff.1 hq).1;rwa [hlen'] at this
          have hqk:(q+1) * j.cells≤xs.length * j.cells:=Nat.mul_le_mul_right _ hql
          rw [Nat.add_mul] at hqk
          have old:xs[q]?=some r→∃ u,cur.toList[q * j.cells+p]?=some u∧DRel w (okB w own ρ S2.h) dd u:=fun hq=>by
            obtain ⟨u,hu,hdu⟩:=r4 q r p dd hq hp
            rw [← htk,List.getElem?_take,if_pos (by omega)] at hu
            exact ⟨u,hu,hdu⟩
          rw [splice_get hfx,hyt] at hq
          rw [List.getElem?_take,if_pos (by omega),splice_get hfit']
          by_cases h1:q < lo
          · rw [if_pos h1] at hq
            have:(q+1) * j.cells≤lo * j.cells:=Nat.mul_le_mul_right _ h1
            rw [Nat.add_mul] at this
            rw [if_pos (by omega)]
            obtain ⟨u,hu,hdu⟩:=old hq
            exact ⟨u,hu,hmono hdu⟩
          · rw [if_neg h1] at hq
            have g1:lo * j.cells≤q * j.cells:=Nat.mul_le_mul_right _ (by omega)
            rw [if_neg (by omega)]
            by_cases h2:q < lo+m
            · rw [if_pos h2] at hq
              have:(q+1) * j.cells≤(lo+m) * j.cells:=Nat.mul_le_mul_right _ h2
              rw [Nat.add_mul,Nat.add_mul] at this
              rw [if_pos (by omega)]
              rw [List.getElem?_take] at hq
              split at hq
              · obtain ⟨u,hu,hdu⟩:=hrel _ _ _ _ hq hp
                have e2:q * j.cells+p - lo * j.cells=(q - lo) * j.cells+p:=by
                  have:q * j.cells=(q - lo) * j.cells+lo * j.cells:=by rw [← Nat.add_mul];congr 1;omega
                  omega
                have e3:(q - lo+1) * j.cells≤m * j.cells:=Nat.mul_le_mul_right _ (by omega)
                rw [Nat.add_mul] at e3
                exact ⟨u,by rw [e2,List.getElem?_take,if_pos (by omega)];exact hu,hmono hdu⟩
              · cases hq
            · rw [if_neg h2] at hq
              have:(lo+m) * j.cells≤q * j.cells:=Nat.mul_le_mul_right _ (by omega)
              rw [Nat.add_mul] at this
              rw [if_neg (by omega)]
              obtain ⟨u,hu,hdu⟩:=old hq
              exact ⟨u,hu,hmono hdu⟩
  |_=>rw [h5'] at hρ;cases hρ
end part
end Go.Sym
namespace Go.Sym
open Go
variable {A : Frm → Prop} {P : Program}
mutual
def AV.ren (τ:Nat→Nat):AV→AV
  |.v x=>.v x
  |.nil=>.nil
  |.emp=>.emp
  |.sl xs=>.sl xs
  |.agg cs=>.agg (AV.renL τ cs)
  |.tup cs=>.tup (AV.renL τ cs)
  |.ep cs o=>.ep cs o
  |.ptr i o=>.ptr (τ i) o
  |.row i=>.row (τ i)
  |.rp i k m o=>.rp (τ i) k m o
  |.csl i n=>.csl (τ i) n
  |.psl i o n c=>.psl (τ i) o n c
  |.rsl i k l n=>.rsl (τ i) k l n
  |.mp i=>.mp (τ i)
  |.clo f cs=>.clo f (AV.renL τ cs)
  |.cb=>.cb
  |.junk=>.junk
  |.any=>.any
  |.bnd f cs=>.bnd f (AV.renL τ cs)
def AV.renL (τ:Nat→Nat):List AV→List AV
  |[]=>[]
  |c :: cs=>c.ren τ :: AV.renL τ cs
end
theorem AV.renL_map (τ:Nat→Nat):∀ cs,AV.renL τ cs=cs.map (AV.ren τ)
  |[]=>rfl
  |c :: cs=>by simp [AV.renL,AV.renL_map τ cs]
def AObj.ren (τ:Nat→Nat):AObj→AObj
  |.cells cs=>.cells (AV.renL τ cs)
  |.row e k xs=>.row e k xs
  |.map es=>.map es
  |.mark=>.mark
  |.rows e cs=>.rows e (AV.renL τ cs)
mutual
def AV.flat:AV→Prop
  |.v _=>True
  |.nil=>True
  |.emp=>True
  |.sl xs=>xs=[]
  |.agg cs=>AV.flatL cs
  |.tup cs=>AV.flatL cs
  |.ep _ _=>False
  |.ptr _ _=>True
  |.row _=>True
  |.rp _ _ _ _=>True
  |.csl _ _=>True
  |.psl _ _ _ _=>True
  |.rsl _ _ _ _=>True
  |.mp _=>True
  |.clo _ cs=>AV.flatL cs
  |.cb=>True
  |.junk=>True
  |.any=>True
  |.bnd _ cs=>AV.flatL cs
def AV.flatL:List AV→Prop
  |[]=>True
  |c :: cs=>c.flat∧AV.flatL cs
end
theorem AV.flatL_mem:∀ {cs:List AV},AV.flatL cs→∀ c ∈ cs,c.flat
  |[],_,c,hc=>by simp at hc
  |d :: cs,h,c,hc=>by
    simp only [AV.flatL] at h
    rcases List.mem_cons.1 hc with rfl|hc
    · exact h.1
    · exact AV.flatL_mem h.2 c hc
def AObj.flat:AObj→Prop
  |.cells cs=>AV.flatL cs
  |.row _ _ xs=>∀ r ∈ xs,∀ d ∈ r,∃ x,d=.v x
  |.map _=>True
  |.mark=>True
  |.rows _ cs=>AV.flatL cs
theorem ARel.flat {w w':World} {ok ok':Nat→Prop} {ρ:Nat→Value} {y:Value} {c:AV} {x:Value} (hr:ARel w ok ρ y c x):c.flat→ARel w' ok' ρ y c x:=by
  induction hr with
  |v hx=>exact fun _=>.v hx
  |nil=>exact fun _=>.nil
  |emp=>exact fun _=>.emp
  |sl hd =>
    intro h
    simp only [AV.flat] at h
    subst h
    cases hd with
    |sl0 hc=>exact .sl (.sl0 hc)
    |sl f h1 h2=>simp at h1;omega
  |agg hs _ ih=>exact fun h=>.agg hs fun i c hc=>ih i c hc (AV.flatL_mem h c (List.mem_of_getElem? hc))
  |tup hs _ ih=>exact fun h=>.tup hs fun i c hc=>ih i c hc (AV.flatL_mem h c (List.mem_of_getElem? hc))
  |ep f h1 h2 h3 h4=>exact fun h=>h.elim
  |ptr e=>exact fun _=>.ptr e
  |row e e'=>exact fun _=>.row e e'
  |rp e=>exact fun _=>.rp e
  |csl e h1=>exact fun _=>.csl e h1
  |psl e h1 h2=>exact fun _=>.psl e h1 h2
  |rsl e h1=>exact fun _=>.rsl e h1
  |mp e e'=>exact fun _=>.mp e e'
  |clo hs _ ih=>exact fun h=>.clo hs fun i c hc=>ih i c hc (AV.flatL_mem h c (List.mem_of_getElem? hc))
  |cb e e'=>exact fun _=>.cb e e'
  |junk=>exact fun _=>.junk
  |any e=>exact fun _=>.any e
  |bnd hs _ ih=>exact fun h=>.bnd hs fun i c hc=>ih i c hc (AV.flatL_mem h c (List.mem_of_getElem? hc))
theorem ARel.ren {w:World} {ok:Nat→Prop} {ρ ρ':Nat→Value} {y:Value} {τ:Nat→Nat} {c:AV} {x:Value} (hr:ARel w ok ρ y c x):(∀ id ∈ c.ids,ρ' (τ id)=ρ id)→ARel w ok ρ' y (c.ren τ) x:=by
  have sub:∀ {cs:List AV} {i:Nat} {d:AV},(AV.renL τ cs)[i]?=some d→∃ c,cs[i]?=some c∧d=c.ren τ:=by
    intro cs i d h
    rw [AV.renL_map,List.getElem?_map] at h
    obtain ⟨c,hc,rfl⟩:=Option.map_eq_some_iff.1 h
    exact ⟨c,hc,rfl⟩
  have len:∀ cs:List AV,(AV.renL τ cs).length=cs.length:=fun cs=>by rw [AV.renL_map,List.length_map]
  induction hr with
  |v hx=>exact fun _=>.v hx
  |nil=>exact fun _=>.nil
  |emp=>exact fun _=>.emp
  |sl hd=>exact fun _=>.sl hd
  |agg hs _ ih =>
    refine fun hi=>.agg (by rw [hs,len]) fun i d hd=>?_
    obtain ⟨c,hc,rfl⟩:=sub hd
    exact ih i c hc fun id hid=>hi id (by simp only [AV.ids];exact AV.mem_idsL.2 ⟨c,List.mem_of_getElem? hc,hid⟩)
  |tup hs _ ih =>
    refine fun hi=>.tup (by rw [hs,len]) fun i d hd=>?_
    obtain ⟨c,hc,rfl⟩:=sub hd
    exact ih i c hc fun id hid=>hi id (by simp only [AV.ids];exact AV.mem_idsL.2 ⟨c,List.mem_of_getElem? hc,hid⟩)
  |ep f h1 h2 h3 h4=>exact fun _=>.ep f h1 h2 h3 h4
  |ptr e=>exact fun hi=>.ptr (by rw [hi _ (by simp [AV.ids])];exact e)
  |row e e'=>exact fun hi=>.row (by rw [hi _ (by simp [AV.ids])];exact e) e'
  |rp e=>exact fun hi=>.rp (by rw [hi _ (by simp [AV.ids])];exact e)
  |csl e h1=>exact fun hi=>.csl (by rw [hi _ (by simp [AV.ids])];exact e) h1
  |psl e h1 h2=>exact fun hi=>.psl (by rw [hi _ (by simp [AV.ids])];exact e) h1 h2
  |rsl e h1=>exact fun hi=>.rsl (by rw [hi _ (by simp [AV.ids])];exact e) h1
  |mp e e'=>exact fun hi=>.mp (by rw [hi _ (by simp [AV.ids])];exact e) e'
  |clo hs _ ih =>
    refine fun hi=>.clo (by rw [hs,len]) fun i d hd=>?_
    obtain ⟨c,hc,rfl⟩:=sub hd
    exact ih i c hc fun id hid=>hi id (by simp only [AV.ids];exact AV.mem_idsL.2 ⟨c,List.mem_of_getElem? hc,hid⟩)
  |cb e e'=>exact fun _=>.cb e e'
  |junk=>exact fun _=>.junk
  |any e=>exact fun _=>.any e
  |bnd hs _ ih =>
    refine fun hi=>.bnd (by rw [hs,len]) fun i d hd=>?_
    obtain ⟨c,hc,rfl⟩:=sub hd
    exact ih i c hc fun id hid=>hi id (by simp only [AV.ids];exact AV.mem_idsL.2 ⟨c,List.mem_of_getElem? hc,hid⟩)
mutual
theorem AV.ren_ids (τ:Nat→Nat):∀ c:AV,(c.ren τ).ids=c.ids.map τ
  |.v _=>rfl
  |.nil=>rfl
  |.emp=>rfl
  |.sl _=>rfl
  |.agg cs=>by simp only [AV.ren,AV.ids];exact AV.renL_ids τ cs
  |.tup cs=>by simp only [AV.ren,AV.ids];exact AV.renL_ids τ cs
  |.ep _ _=>rfl
  |.ptr _ _=>rfl
  |.row _=>rfl
  |.rp _ _ _ _=>rfl
  |.csl _ _=>rfl
  |.psl _ _ _ _=>rfl
  |.rsl _ _ _ _=>rfl
  |.mp _=>rfl
  |.clo _ cs=>by simp only [AV.ren,AV.ids];exact AV.renL_ids τ cs
  |.cb=>rfl
  |.junk=>rfl
  |.any=>rfl
  |.bnd _ cs=>by simp only [AV.ren,AV.ids];exact AV.renL_ids τ cs
theorem AV.renL_ids (τ:Nat→Nat):∀ cs:List AV,AV.idsL (AV.renL τ cs)=(AV.idsL cs).map τ
  |[]=>rfl
  |c :: cs=>by simp only [AV.renL,AV.idsL,List.map_append,AV.ren_ids τ c,AV.renL_ids τ cs]
end
theorem AObj.ren_ids (τ:Nat→Nat) (o:AObj):(o.ren τ).ids=o.ids.map τ:=by
  cases o <;> simp [AObj.ren,AObj.ids,AV.renL_ids]
theorem AObj.ren_rel {w:World} {ok ok':Nat→Prop} {ρ ρ':Nat→Value} {y:Value} {τ:Nat→Nat} {o:AObj} {x:Value} (hr:ORel w ok ρ y o x) (hok:o.flat∨∀ b,ok b→ok' b) (hi:∀ id ∈ o.ids,ρ' (τ id)=ρ id):ORel w ok' ρ' y (o.ren τ) x:=by
  cases hr with
  |@cells cs b t vs h1 h2 h3 =>
    refine .cells h1 (by rw [h2,AV.renL_map,List.length_map]) fun i d hd=>?_
    rw [AV.renL_map,List.getElem?_map] at hd
    obtain ⟨c,hc,rfl⟩:=Option.map_eq_some_iff.1 hd
    have hm:=List.mem_of_getElem? hc
    have h4:ARel w ok' ρ y c (vs.getD i undef):=by
      rcases hok with hf|hok
      · exact (h3 i c hc).1.flat (AV.flatL_mem hf c hm)
      · exact (h3 i c hc).1.mono (fun b hb=>⟨hok b hb,rfl⟩) fun _ _=>rfl
    exact ⟨h4.ren fun id hid=>hi id (by simp only [AObj.ids];exact AV.mem_idsL.2 ⟨c,hm,hid⟩),(h3 i c hc).2⟩
  |row h1 h2 h3 h4 =>
    refine .row h1 h2 h3 fun i r j d hir hj=>?_
    obtain ⟨u,hu,hd⟩:=h4 i r j d hir hj
    refine ⟨u,hu, ?_⟩
    rcases hok with hf|hok
    · obtain ⟨x,rfl⟩:=hf r (List.mem_of_getElem? hir) d (List.mem_of_getElem? hj)
      cases hd with|v h=>exact .v h
    · exact hd.mono fun b hb=>⟨hok b hb,rfl⟩
  |map h1 h2 h3 h4 h5=>exact .map h1 h2 h3 h4 h5
  |mark h1=>exact .mark h1
  |rows h3 h4 =>
    refine .rows (by rw [AV.renL_map,List.length_map];exact h3) fun i d hd=>?_
    rw [AV.renL_map,List.getElem?_map] at hd
    obtain ⟨c,hc,rfl⟩:=Option.map_eq_some_iff.1 hd
    have hm:=List.mem_of_getElem? hc
    obtain ⟨u,hu,hr,h1⟩:=h4 i c hc
    have h5:ARel w ok' ρ y c u:=by
      rcases hok with hf|hok
      · exact hr.flat (AV.flatL_mem hf c hm)
      · exact hr.mono (fun b hb=>⟨hok b hb,rfl⟩) fun _ _=>rfl
    exact ⟨u,hu,h5.ren fun id hid=>hi id (by simp only [AObj.ids];exact AV.mem_idsL.2 ⟨c,hm,hid⟩),h1⟩
theorem AObj.le_rel {w:World} {ok ok':Nat→Prop} {ρ ρ':Nat→Value} {y:Value} {h:Nat→Option AObj} {σ:Nat→Option Nat} (hobj:∀ i o,h i=some o→ORel w ok ρ y o (ρ i))
    (hok:∀ b,ok b→ok' b) (hrow:∀ i o b,h i=some o→blk (ρ i)=some b→ok' b) (hσ:∀ j i,σ j=some i→ρ' j=ρ i) (hσ0:∀ j,σ j=none→ρ' j=.slice none 0 0) {o o':AObj} {x:Value} (hr:ORel w ok ρ y o x)
    (hle:AObj.le h σ o o'):ORel w ok' ρ' y o' x:=by
  have hAV:∀ {c:AV} {x:Value},ARel w ok ρ y c x→∀ d,AV.le h σ c d→ARel w ok' ρ' y d x:=fun hr d hd=>AV.le_rel hobj hok hrow hσ hσ0 hr d hd
  cases hr with
  |@cells cs b t vs h1 h2 h3 =>
    cases o' <;> simp only [AObj.le] at hle <;> first|exact hle.elim|skip
    refine .cells h1 (h2.trans (AV.leL_length hle)) fun i d hd=>?_
    obtain ⟨c,hc,hcd⟩:=AV.leL_get hle i d hd
    exact ⟨hAV (h3 i c hc).1 d hcd,(h3 i c hc).2⟩
  |row h1 h2 h3 h4 =>
    cases o' <;> simp only [AObj.le] at hle <;> first|exact hle.elim|skip
    obtain ⟨rfl,rfl,rfl⟩:=hle
    exact .row h1 h2 h3 fun i r j d hi hj=>let ⟨u,hu,hd⟩:=h4 i r j d hi hj;⟨u,hu,hd.mono fun b hb=>⟨hok b hb,rfl⟩⟩
  |map h1 h2 h3 h4 h5 =>
    cases o' <;> simp only [AObj.le] at hle <;> first|exact hle.elim|skip
    subst hle
    exact .map h1 h2 h3 h4 h5
  |mark h1 =>
    cases o' <;> simp only [AObj.le] at hle <;> first|exact hle.elim|skip
    exact .mark h1
  |rows h3 h4 =>
    cases o' <;> simp only [AObj.le] at hle <;> first|exact hle.elim|skip
    · obtain ⟨rfl,rfl,hle⟩:=hle
      exact orel_rows_row hAV h3 h4 hle
    · obtain ⟨rfl,hle⟩:=hle
      refine .rows (by rw [← AV.leL_length hle];exact h3) fun i d hd=>?_
      obtain ⟨c,hc,hcd⟩:=AV.leL_get hle i d hd
      obtain ⟨u,hu,hr,h1⟩:=h4 i c hc
      exact ⟨u,hu,hAV hr d hcd,h1⟩
abbrev JJ:=Nat→Own→World→Prop
def JJ.Stable (J:JJ):Prop:=∀ j own w,J j own w→(∀ b,own.all b→b < w.heap.size)∧∀ w',Ext (fun b=>¬ own.all b) w w'→J j own w'
structure Hp (J:JJ) (y:Value) (h:Nat→Option AObj) (j:Nat) (own:Own) (w:World) (ρ:Nat→Value):Prop where
  jay:J j own w
  obj:∀ i o,h i=some o→ORel w (okB w own ρ h) ρ y o (ρ i)
  inj:∀ i k o o' b,h i=some o→h k=some o'→blk (ρ i)=some b→blk (ρ k)=some b→i=k
  off:∀ i o b,h i=some o→blk (ρ i)=some b→¬ own.all b
theorem Holds.hp {F:Frm} {S:St} {a:Act} {w:World} {ρ:Nat→Value} {own:Own} (H:Holds F S a w ρ own):Hp F.J F.y S.h S.j own w ρ:=⟨H.jay,H.obj,H.inj,fun i o b hi hb=>(H.blkOK i o b hi hb).1⟩
structure Ctx where
  y:Value
  J:JJ
  own:Own
  w:World
  ρ:Nat→Value
structure Fn (B:Ctx→Prop) (P:Program) (f:FuncId) (az:List AV) (h0:Nat→Option AObj) (v:AV) (h1:Nat→Option AObj) (dj:Nat):Prop where
  enter:∀ vs w,(callFunc f vs).run P w=.ok (.enter f vs) w
  calls:∀ (y:Value) (J:JJ),J.Stable→∀ (own:Own) (w:World) (ρ:Nat→Value) (vs:Array Value),B ⟨y,J,own,w,ρ⟩→Hp J y h0 0 own w ρ→vs.size=az.length →
    (∀ i c,az[i]?=some c→ARel w (okB w own ρ h0) ρ y c (vs.getD i undef)) →
    Calls P f vs w fun e w'=>∃ v' own' ρ',e=.returned v'∧Hp J y h1 dj own' w' ρ'∧ARel w' (okB w' own' ρ' h1) ρ' y v v'∧Ext (fun b=>own.prv b∨∃ i o,h0 i=some o∧blk (ρ i)=some b) w w' ∧
      (∀ b,own'.prv b→own.prv b∨w.heap.size≤b)∧(dj=0→own'=own)∧(∀ i o,h0 i=some o→ρ' i=ρ i)∧(∀ i o b,h1 i=some o→blk (ρ' i)=some b→w.heap.size≤b∨∃ k o',h0 k=some o'∧blk (ρ k)=some b)
def Jc (J:JJ) (j0:Nat) (Pr:Nat→Prop) (w0:World):JJ:=fun k own w=>∃ own':Own,J (j0+k) own' w∧(∀ b,own.all b ↔ own'.all b∨Pr b)∧(∀ b,own.prv b ↔ own'.prv b∨Pr b)∧∀ b,Pr b→¬ own'.all b∧b < w.heap.size∧w.heap[b]?=w0.heap[b]?
def ownP (own:Own) (Pr:Nat→Prop):Own:=⟨fun b=>own.all b∨Pr b,fun b=>own.prv b∨Pr b,fun b h=>h.imp (own.sub b) id⟩
theorem Jc.stable {J:JJ} (h:J.Stable) (j0:Nat) (Pr:Nat→Prop) (w0:World):(Jc J j0 Pr w0).Stable:=by
  rintro j own w ⟨own',hj,hiff,hiffp,hpr⟩
  refine ⟨fun b hb=>?_,fun w' hx=>⟨own',(h _ _ _ hj).2 w' (hx.weaken fun b _ hn ho=>hn ((hiff b).2 (.inl ho))),hiff,hiffp,fun b hb=>⟨(hpr b hb).1,Nat.lt_of_lt_of_le (hpr b hb).2.1 hx.size, ?_⟩⟩⟩
  · rcases (hiff b).1 hb with h1|h1
    · exact (h _ _ _ hj).1 b h1
    · exact (hpr b h1).2.1
  · rw [hx.block b (hpr b hb).2.1 fun hn=>hn ((hiff b).2 (.inr hb))];exact (hpr b hb).2.2
theorem calls_mono {f:FuncId} {vs:Array Value} {w:World} {R R':Ending→World→Prop} (h:Calls P f vs w R) (hr:∀ e w',R e w'→R' e w'):Calls P f vs w R' :=
  callsIn_wide.1 (CallsIn.mono (n:=0) (callsIn_wide.2 h) hr)
theorem callsIn_W {r:Option Nat} {f:FuncId} {vs:Array Value} {w:World} {R:Ending→World→Prop} (h:Calls P f vs w R):CallsIn (W r) 0 P f vs w R:=by
  have h1:CallsIn (W none) 0 P f vs w R:=callsIn_wide.2 h
  exact h1
theorem calls_of_W {r:Option Nat} {f:FuncId} {vs:Array Value} {w:World} {R:Ending→World→Prop} (h:CallsIn (W r) 0 P f vs w R):Calls P f vs w R :=
  callsIn_wide.1 (show CallsIn (W none) 0 P f vs w R from h)
def callRen (hs:List Nat) (n:Nat) (j:Nat):Nat:=match hs[j]? with|some c=>c|none=>n+(j - hs.length)
def callEff (S:St) (hs bo:List Nat) (dr:List Nat) (v:AV) (h1:Nat→Option AObj) (nn dj:Nat):Eff :=
  { av:=v.ren (callRen hs S.n),hw:=(List.range (hs.length+nn)).map (fun j=>(callRen hs S.n j,(h1 j).map (AObj.ren (callRen hs S.n))))++dropW dr,hr:=hs++bo,news:=(List.range nn).map (S.n+·),n:=S.n+nn,dj:=dj }
def privB (S:St) (hs bo:List Nat) (ρ:Nat→Value) (b:Nat):Prop:=∃ i ob,S.h i=some ob∧i ∉ hs∧i ∉ bo∧blk (ρ i)=some b
def callRho (hs:List Nat) (ρ:Nat→Value) (j:Nat):Value:=match hs[j]? with|some i=>ρ i|none=>.slice none 0 0
def callCtx (F:Frm) (S:St) (hs bo:List Nat) (ρ:Nat→Value) (own:Own) (w:World):Ctx:=⟨F.y,Jc F.J S.j (privB S hs bo ρ) w,ownP own (privB S hs bo ρ),w,callRho hs ρ⟩
theorem call_ids {S:St} (hS:Wf S) {az bs:List AV} {hs bo dr:List Nat} {h0:Nat→Option AObj} {v:AV} {h1 hf:Nat→Option AObj} {dj nn:Nat}
    (hargs:AV.leL hf (fun j=>hs[j]?) bs az)
    (hobj:∀ i o0,h0 i=some o0→∃ c ob,hs[i]?=some c∧S.h c=some ob∧AObj.le hf (fun j=>hs[j]?) ob o0)
    (hdom:∀ j,j < hs.length→∃ o0,h0 j=some o0) (hnd:hs.Nodup)
    (hfr:∀ i ob,hf i=some ob→S.h i=some ob∧i ∉ hs∧i ∈ bo) (hbo:∀ i ∈ bo,(∃ ob,S.h i=some ob)∧i ∉ hs)
    (hdr:dr=bo∨(dr=[]∧v.flat∧∀ i ob,h1 i=some ob→ob.flat))
    (hv1:∀ id ∈ v.ids,id < hs.length+nn) (hh1:∀ i ob,h1 i=some ob→i < hs.length+nn∧∀ id ∈ ob.ids,id < hs.length+nn) :
    (∀ c ∈ hs,∃ ob,S.h c=some ob)∧(∀ c ∈ hs,c < S.n)∧(∀ id ∈ (callEff S hs bo dr v h1 nn dj).ids,id < S.n+nn)∧∀ id ∈ (callEff S hs bo dr v h1 nn dj).news,S.n≤id:=by
  have hall:∀ c ∈ hs,∃ ob,S.h c=some ob:=fun c hc=>by
    obtain ⟨j,hj⟩:=List.getElem?_of_mem hc
    obtain ⟨o0,ho0⟩:=hdom j (List.getElem?_eq_some_iff.1 hj).1
    obtain ⟨d,ob,e1,e2,_⟩:=hobj j o0 ho0
    rw [hj] at e1;cases e1
    exact ⟨ob,e2⟩
  have hslt:∀ c ∈ hs,c < S.n:=fun c hc=>Nat.lt_of_not_le fun hn=>by obtain ⟨ob,h⟩:=hall c hc;have:=(hS c hn).1;rw [h] at this;cases this
  have hbolt:∀ c ∈ bo,c < S.n:=fun c hc=>Nat.lt_of_not_le fun hn=>by obtain ⟨⟨ob,h⟩,_⟩:=hbo c hc;have:=(hS c hn).1;rw [h] at this;cases this
  have hdrbo:∀ c ∈ dr,c ∈ bo:=fun c hc=>by
    rcases hdr with h|h
    · rw [← h];exact hc
    · rw [h.1] at hc;cases hc
  have hτ:∀ j,j < hs.length+nn→callRen hs S.n j < S.n+nn:=fun j hj=>by
    unfold callRen
    cases hc:hs[j]? with
    |some c=>have:=hslt c (List.mem_of_getElem? hc);simp only;omega
    |none=>have:hs.length≤j:=List.getElem?_eq_none_iff.1 hc;simp only;omega
  have hwi:∀ {l:List (Nat × Option AObj)} {id:Nat},id ∈ hwIds l→∃ p ∈ l,id=p.1∨∃ ob,p.2=some ob∧id ∈ ob.ids:=by
    intro l
    induction l with
    |nil=>intro id h;simp [hwIds] at h
    |cons p l ih =>
      intro id h
      simp only [hwIds,List.mem_cons,List.mem_append] at h
      rcases h with rfl|h|h
      · exact ⟨p,List.mem_cons_self,.inl rfl⟩
      · cases hp:p.2 with
        |none=>rw [hp] at h;simp at h
        |some ob=>rw [hp] at h;exact ⟨p,List.mem_cons_self,.inr ⟨ob,hp,h⟩⟩
      · obtain ⟨q,hq,h'⟩:=ih h;exact ⟨q,List.mem_cons_of_mem _ hq,h'⟩
  have hI:∀ id ∈ (callEff S hs bo dr v h1 nn dj).ids,id < S.n+nn:=by
    intro id hid
    simp only [Eff.ids,callEff,List.flatMap_nil,List.append_nil,List.mem_append] at hid
    rcases hid with hid|hid
    · rw [AV.ren_ids] at hid
      obtain ⟨j,hj,rfl⟩:=List.mem_map.1 hid
      exact hτ j (hv1 j hj)
    · obtain ⟨p,hp,hid⟩:=hwi hid
      rcases List.mem_append.1 hp with hp|hp
      · obtain ⟨j,hj,rfl⟩:=List.mem_map.1 hp
        have hj:=List.mem_range.1 hj
        rcases hid with rfl|⟨ob,hob,hid⟩
        · exact hτ j hj
        · obtain ⟨o1,ho1,rfl⟩:=Option.map_eq_some_iff.1 hob
          rw [AObj.ren_ids] at hid
          obtain ⟨q,hq,rfl⟩:=List.mem_map.1 hid
          exact hτ q ((hh1 j o1 ho1).2 q hq)
      · obtain ⟨c,hc,rfl⟩:=List.mem_map.1 hp
        rcases hid with rfl|⟨ob,hob,_⟩
        · have:=hbolt _ (hdrbo _ hc);omega
        · cases hob
  refine ⟨hall,hslt,hI,fun id hid=>?_⟩
  simp only [callEff,List.mem_map,List.mem_range] at hid;obtain ⟨k,_,rfl⟩:=hid;omega
theorem call_core {S:St} (hS:Wf S) {az bs:List AV} {hs bo dr:List Nat} {h0:Nat→Option AObj} {v:AV} {h1 hf:Nat→Option AObj} {dj nn:Nat}
    (hargs:AV.leL hf (fun j=>hs[j]?) bs az)
    (hobj:∀ i o0,h0 i=some o0→∃ c ob,hs[i]?=some c∧S.h c=some ob∧AObj.le hf (fun j=>hs[j]?) ob o0)
    (hdom:∀ j,j < hs.length→∃ o0,h0 j=some o0) (hnd:hs.Nodup)
    (hfr:∀ i ob,hf i=some ob→S.h i=some ob∧i ∉ hs∧i ∈ bo) (hbo:∀ i ∈ bo,(∃ ob,S.h i=some ob)∧i ∉ hs)
    (hdr:dr=bo∨(dr=[]∧v.flat∧∀ i ob,h1 i=some ob→ob.flat))
    (hv1:∀ id ∈ v.ids,id < hs.length+nn) (hh1:∀ i ob,h1 i=some ob→i < hs.length+nn∧∀ id ∈ ob.ids,id < hs.length+nn)
    {F:Frm} {S2:St} {a:Act} {w:World} {ρ:Nat→Value} {own:Own} (H:Holds F S2 a w ρ own) (hdj:dj ≠ 0→dr=bo) (hS2:∀ c,c ∈ hs∨c ∈ bo→S2.h c=S.h c) (hfr2:∀ id ∈ (callEff S hs bo dr v h1 nn dj).news,FreshIn F S2 id)
    {vs:Array Value} (hsz:vs.size=bs.length) (hrel:∀ i c,bs[i]?=some c→ARel w (okB w own ρ S2.h) ρ F.y c (vs.getD i undef)) {dst:Option Nat} (hdst:∀ d,dst=some d→d < F.nt) :
    Hp (Jc F.J S2.j (privB S2 hs bo ρ) w) F.y h0 0 (ownP own (privB S2 hs bo ρ)) w (callRho hs ρ)∧vs.size=az.length∧(∀ i c,az[i]?=some c→ARel w (okB w (ownP own (privB S2 hs bo ρ)) (callRho hs ρ) h0) (callRho hs ρ) F.y c (vs.getD i undef)) ∧
    ∀ v' w' ownc' ρc',Hp (Jc F.J S2.j (privB S2 hs bo ρ) w) F.y h1 dj ownc' w' ρc'→ARel w' (okB w' ownc' ρc' h1) ρc' F.y v v'→Ext (fun b=>(own.prv b∨privB S2 hs bo ρ b)∨∃ i o,h0 i=some o∧blk (callRho hs ρ i)=some b) w w' →
      (∀ b,ownc'.prv b→(own.prv b∨privB S2 hs bo ρ b)∨w.heap.size≤b)→(dj=0→ownc'=ownP own (privB S2 hs bo ρ))→(∀ i o,h0 i=some o→ρc' i=callRho hs ρ i)→(∀ i o b,h1 i=some o→blk (ρc' i)=some b→w.heap.size≤b∨∃ k o',h0 k=some o'∧blk (callRho hs ρ k)=some b) →
      ∃ ρ' own',Holds F (S2.app dst (callEff S hs bo dr v h1 nn dj)) { (a.put dst v') with defers:=[]++a.defers } w' ρ' own':=by
  have hall:∀ c ∈ hs,∃ ob,S.h c=some ob:=fun c hc=>by
    obtain ⟨j,hj⟩:=List.getElem?_of_mem hc
    obtain ⟨o0,ho0⟩:=hdom j (List.getElem?_eq_some_iff.1 hj).1
    obtain ⟨d,ob,e1,e2,_⟩:=hobj j o0 ho0
    rw [hj] at e1;cases e1
    exact ⟨ob,e2⟩
  have hslt:∀ c ∈ hs,c < S.n:=fun c hc=>Nat.lt_of_not_le fun hn=>by obtain ⟨ob,h⟩:=hall c hc;have:=(hS c hn).1;rw [h] at this;cases this
  have hbolt:∀ c ∈ bo,c < S.n:=fun c hc=>Nat.lt_of_not_le fun hn=>by obtain ⟨⟨ob,h⟩,_⟩:=hbo c hc;have:=(hS c hn).1;rw [h] at this;cases this
  have hdrbo:∀ c ∈ dr,c ∈ bo:=fun c hc=>by
    rcases hdr with h|h
    · rw [← h];exact hc
    · rw [h.1] at hc;cases hc
  have hτ:∀ j,j < hs.length+nn→callRen hs S.n j < S.n+nn:=fun j hj=>by
    unfold callRen
    cases hc:hs[j]? with
    |some c=>have:=hslt c (List.mem_of_getElem? hc);simp only;omega
    |none=>have:hs.length≤j:=List.getElem?_eq_none_iff.1 hc;simp only;omega
  have hwi:∀ {l:List (Nat × Option AObj)} {id:Nat},id ∈ hwIds l→∃ p ∈ l,id=p.1∨∃ ob,p.2=some ob∧id ∈ ob.ids:=by
    intro l
    induction l with
    |nil=>intro id h;simp [hwIds] at h
    |cons p l ih =>
      intro id h
      simp only [hwIds,List.mem_cons,List.mem_append] at h
      rcases h with rfl|h|h
      · exact ⟨p,List.mem_cons_self,.inl rfl⟩
      · cases hp:p.2 with
        |none=>rw [hp] at h;simp at h
        |some ob=>rw [hp] at h;exact ⟨p,List.mem_cons_self,.inr ⟨ob,hp,h⟩⟩
      · obtain ⟨q,hq,h'⟩:=ih h;exact ⟨q,List.mem_cons_of_mem _ hq,h'⟩
  have hI:∀ id ∈ (callEff S hs bo dr v h1 nn dj).ids,id < S.n+nn:=by
    intro id hid
    simp only [Eff.ids,callEff,List.flatMap_nil,List.append_nil,List.mem_append] at hid
    rcases hid with hid|hid
    · rw [AV.ren_ids] at hid
      obtain ⟨j,hj,rfl⟩:=List.mem_map.1 hid
      exact hτ j (hv1 j hj)
    · obtain ⟨p,hp,hid⟩:=hwi hid
      rcases List.mem_append.1 hp with hp|hp
      · obtain ⟨j,hj,rfl⟩:=List.mem_map.1 hp
        have hj:=List.mem_range.1 hj
        rcases hid with rfl|⟨ob,hob,hid⟩
        · exact hτ j hj
        · obtain ⟨o1,ho1,rfl⟩:=Option.map_eq_some_iff.1 hob
          rw [AObj.ren_ids] at hid
          obtain ⟨q,hq,rfl⟩:=List.mem_map.1 hid
          exact hτ q ((hh1 j o1 ho1).2 q hq)
      · obtain ⟨c,hc,rfl⟩:=List.mem_map.1 hp
        rcases hid with rfl|⟨ob,hob,_⟩
        · have:=hbolt _ (hdrbo _ hc);omega
        · cases hob
  have hσ:∀ j i,hs[j]?=some i→(callRho hs ρ) j=ρ i:=fun j i h=>by simp only [callRho,h]
  have hσ0:∀ j,hs[j]?=none→(callRho hs ρ) j=.slice none 0 0:=fun j h=>by simp only [callRho,h]
  let Pr:Nat→Prop:=privB S2 hs bo ρ
  let ownc:Own:=ownP own Pr
  have hh0:∀ i o0,h0 i=some o0→∃ c ob,hs[i]?=some c∧S2.h c=some ob∧AObj.le hf (fun j=>hs[j]?) ob o0:=fun i o0 hi=>by
    obtain ⟨c,ob,e1,e2,e3⟩:=hobj i o0 hi
    exact ⟨c,ob,e1,(hS2 c (.inl (List.mem_of_getElem? e1))).trans e2,e3⟩
  have hok:∀ b,okB w own ρ S2.h b→okB w ownc (callRho hs ρ) h0 b:=by
    rintro b ⟨g1,g2,g3⟩
    refine ⟨g1, ?_,fun i o0 hi hb=>?_⟩
    · rintro (h|⟨i,ob,hi,_,_,hb⟩)
      · exact g2 h
      · exact g3 i ob hi hb
    · obtain ⟨c,ob,e1,e2,_⟩:=hh0 i o0 hi
      rw [hσ i c e1] at hb
      exact g3 c ob e2 hb
  have hfS2:∀ i ob,hf i=some ob→S2.h i=some ob:=fun i ob hi=>(hS2 i (.inr (hfr i ob hi).2.2)).trans (hfr i ob hi).1
  have hrow:∀ i ox b,hf i=some ox→blk (ρ i)=some b→okB w ownc (callRho hs ρ) h0 b:=by
    intro i ox b hi hb
    have hi2:=hfS2 i _ hi
    refine ⟨(H.obj i _ hi2).lt hb, ?_,fun j o0 hj hbj=>?_⟩
    · rintro (h|⟨q,ob,hq,hqh,hqb,hbq⟩)
      · exact (H.blkOK i _ b hi2 hb).1 (own.sub _ h)
      · have:=H.inj i q _ ob b hi2 hq hb hbq
        subst this
        exact hqb (hfr i _ hi).2.2
    · obtain ⟨c,ob,e1,e2,_⟩:=hh0 j o0 hj
      rw [hσ j c e1] at hbj
      have:=H.inj i c _ ob b hi2 e2 hb hbj
      subst this
      exact (hfr i _ hi).2.1 (List.mem_of_getElem? e1)
  have hobjf:∀ i ob,hf i=some ob→ORel w (okB w own ρ S2.h) ρ F.y ob (ρ i):=fun i ob hi=>H.obj i ob (hfS2 i ob hi)
  have hHp:Hp (Jc F.J S2.j Pr w) F.y h0 0 ownc w (callRho hs ρ):=by
    refine ⟨⟨own,H.jay,fun b=>Iff.rfl,fun b=>Iff.rfl,fun b ⟨i,ob,hi,_,_,hb⟩=>⟨(H.blkOK i ob b hi hb).1,(H.obj i ob hi).lt hb,rfl⟩⟩,fun i o0 hi=>?_,fun i k o1 o2 b hi hk hbi hbk=>?_,fun i o0 b hi hb=>?_⟩
    · obtain ⟨c,ob,e1,e2,e3⟩:=hh0 i o0 hi
      rw [hσ i c e1]
      exact AObj.le_rel hobjf hok hrow hσ hσ0 (H.obj c ob e2) e3
    · obtain ⟨c,ob,e1,e2,_⟩:=hh0 i o1 hi
      obtain ⟨d,od,e1',e2',_⟩:=hh0 k o2 hk
      rw [hσ i c e1] at hbi
      rw [hσ k d e1'] at hbk
      have:=H.inj c d ob od b e2 e2' hbi hbk
      subst this
      have hi':=(List.getElem?_eq_some_iff.1 e1)
      have hk':=(List.getElem?_eq_some_iff.1 e1')
      obtain ⟨hi1,hi2⟩:=hi'
      obtain ⟨hk1,hk2⟩:=hk'
      exact (List.getElem_inj (h₀:=hi1) (h₁:=hk1) hnd).1 (hi2.trans hk2.symm)
    · obtain ⟨c,ob,e1,e2,_⟩:=hh0 i o0 hi
      rw [hσ i c e1] at hb
      rintro (h|⟨q,oq,hq,hqh,_,hbq⟩)
      · exact (H.blkOK c ob b e2 hb).1 h
      · have:=H.inj c q ob oq b e2 hq hb hbq
        subst this
        exact hqh (List.mem_of_getElem? e1)
  refine ⟨hHp,by rw [← AV.leL_length hargs];exact hsz,fun i c hc=>?_, ?_⟩
  · obtain ⟨b,hb,hle⟩:=AV.leL_get hargs i c hc
    exact AV.le_rel hobjf hok hrow hσ hσ0 (hrel i b hb) c hle
  · intro v' w' ownc' ρc' hHp' hv' hx hown' hstill hpin hblk
    obtain ⟨own',hj',hiff,hiffp,hpr⟩:=hHp'.jay
    refine ⟨fun i=>if S.n≤i∧i < S.n+nn then ρc' (hs.length+(i - S.n)) else ρ i,own', ?_⟩
    have hρτ:∀ j,j < hs.length+nn→(fun i=>if S.n≤i∧i < S.n+nn then ρc' (hs.length+(i - S.n)) else ρ i) (callRen hs S.n j)=ρc' j:=fun j hj=>by
      unfold callRen
      cases hc:hs[j]? with
      |some c =>
        have:=hslt c (List.mem_of_getElem? hc)
        simp only
        obtain ⟨o0,ho0⟩:=hdom j (List.getElem?_eq_some_iff.1 hc).1
        rw [if_neg (by omega),hpin j o0 ho0,show callRho hs ρ j=ρ c from hσ j c hc]
      |none =>
        have:hs.length≤j:=List.getElem?_eq_none_iff.1 hc
        simp only
        rw [if_pos (by omega)]
        congr 1;omega
    have hkeyτ:∀ i ob,hupd S2.h (callEff S hs bo dr v h1 nn dj).hw i=some ob→i ∈ (callEff S hs bo dr v h1 nn dj).keys→∃ j o1,j < hs.length+nn∧i=callRen hs S.n j∧h1 j=some o1∧ob=o1.ren (callRen hs S.n):=fun i ob hi hk=>by
      have:=hupd_mem hk hi
      simp only [callEff,List.mem_append,List.mem_map,List.mem_range] at this
      rcases this with ⟨j,hj,e⟩|h
      · simp only [Prod.mk.injEq] at e
        obtain ⟨o1,ho1,e2⟩:=Option.map_eq_some_iff.1 e.2
        exact ⟨j,o1,hj,e.1.symm,ho1,e2.symm⟩
      · simp [dropW] at h
    have hkeys:∀ j,j < hs.length+nn→callRen hs S.n j ∈ (callEff S hs bo dr v h1 nn dj).keys:=fun j hj=>by
      simp only [Eff.keys,callEff,List.map_append,List.map_map,List.mem_append,List.mem_map,List.mem_range]
      exact .inl ⟨j,hj,rfl⟩
    have hskey:∀ c ∈ hs,c ∈ (callEff S hs bo dr v h1 nn dj).keys:=fun c hc=>by
      obtain ⟨j,hj⟩:=List.getElem?_of_mem hc
      have:=hkeys j (by have:=(List.getElem?_eq_some_iff.1 hj).1;omega)
      simpa [callRen,hj] using this
    have hnewkey:∀ i,S.n≤i→i < S.n+nn→i ∈ (callEff S hs bo dr v h1 nn dj).keys:=fun i h1 h2=>by
      have:=hkeys (hs.length+(i - S.n)) (by omega)
      have e:callRen hs S.n (hs.length+(i - S.n))=i:=by
        unfold callRen
        rw [List.getElem?_eq_none (by omega)]
        simp only;omega
      rwa [e] at this
    have hxx:Ext (fun b=>own.prv b∨∃ i ob,i ∈ (callEff S hs bo dr v h1 nn dj).keys∧S2.h i=some ob∧blk (ρ i)=some b) w w':=by
      refine ⟨hx.os,hx.tape,hx.output,hx.size,fun k hk hn=>?_⟩
      by_cases hp:Pr k
      · exact (hpr k hp).2.2
      · refine hx.block k hk ?_
        rintro ((h|h)|⟨i,o0,hi,hb⟩)
        · exact hn (.inl h)
        · exact hp h
        · obtain ⟨c,ob,e1,e2,_⟩:=hh0 i o0 hi
          rw [hσ i c e1] at hb
          exact hn (.inr ⟨c,ob,hskey c (List.mem_of_getElem? e1),e2,hb⟩)
    have hokc:dr=bo→∀ b,okB w' ownc' ρc' h1 b→okB w' own' (fun i=>if S.n≤i∧i < S.n+nn then ρc' (hs.length+(i - S.n)) else ρ i) (hupd S2.h (callEff S hs bo dr v h1 nn dj).hw) b:=by
      rintro hdb b ⟨g1,g2,g3⟩
      refine ⟨g1,fun h=>g2 ((hiffp b).2 (.inl h)),fun i ob hi hb=>?_⟩
      by_cases hk:i ∈ (callEff S hs bo dr v h1 nn dj).keys
      · obtain ⟨j,o1,hj,rfl,ho1,rfl⟩:=hkeyτ i ob hi hk
        have:=hρτ j hj
        simp only at this hb
        rw [this] at hb
        exact g3 j o1 ho1 hb
      · rw [hupd_not hk] at hi
        have hin:¬ (S.n≤i∧i < S.n+nn):=fun h=>hk (hnewkey i h.1 h.2)
        simp only [if_neg hin] at hb
        refine g2 ((hiffp b).2 (.inr ⟨i,ob,hi,fun h=>hk (hskey i h),fun h=>hk ?_,hb⟩))
        subst hdb
        simp only [Eff.keys,callEff,List.map_append,List.mem_append,dropW,List.map_map,List.mem_map]
        exact .inr ⟨i,h,rfl⟩
    refine H.app hdst hj' hxx ?_ (fun i hi=>?_) (fun i hi=>?_) hfr2 ?_ (fun i ob hk hi=>?_) (fun i k o1 o2 b hki hkk hi hk hbi hbk=>?_) (fun id hid=>Nat.lt_of_lt_of_le (hI id hid) (Nat.le_max_right _ _)) .nil
    · by_cases hd0:dj=0
      · left
        have he:=hstill hd0
        subst he
        have hno:∀ b,own.all b→¬ Pr b:=fun b hb ⟨i,ob,hi,_,_,hbb⟩=>(H.blkOK i ob b hi hbb).1 hb
        exact Own.eq (fun b=>⟨fun hb=>((hiff b).2 (.inl hb)).resolve_right fun hp=>(hpr b hp).1 hb,fun hb=>((hiff b).1 (.inl hb)).resolve_right (hno b hb)⟩)
          (fun b=>⟨fun hb=>((hiffp b).2 (.inl hb)).resolve_right fun hp=>(hpr b hp).1 (own'.sub _ hb),fun hb=>((hiffp b).1 (.inl hb)).resolve_right (hno b (own.sub _ hb))⟩)
      · refine .inr ⟨hd0,fun b hb=>?_,fun i ob b hi hk hb hall'=>?_⟩
        · rcases hown' b ((hiffp b).2 (.inl hb)) with (h|h)|h
          · exact .inl h
          · exact absurd (own'.sub _ hb) (hpr b h).1
          · exact .inr h
        · refine (hpr b ⟨i,ob,hi,fun h=>hk (hskey i h),fun h=>hk ?_,hb⟩).1 hall'
          have:=hdj hd0
          subst this
          simp only [Eff.keys,callEff,List.map_append,List.mem_append,dropW,List.map_map,List.mem_map]
          exact .inr ⟨i,h,rfl⟩
    · simp only [callEff,List.mem_map,List.mem_range] at hi
      obtain ⟨k,hk,rfl⟩:=hi
      exact hnewkey _ (by omega) (by omega)
    · refine if_neg ?_
      rintro ⟨h1,h2⟩
      exact hi (by simp only [callEff,List.mem_map,List.mem_range];exact ⟨i - S.n,by omega,by omega⟩)
    · have hv2:=hv'.ren (τ:=callRen hs S.n) (ρ':=fun i=>if S.n≤i∧i < S.n+nn then ρc' (hs.length+(i - S.n)) else ρ i) fun id hid=>hρτ id (hv1 id hid)
      rcases hdr with hd|⟨_,hfl,_⟩
      · exact hv2.mono (fun b hb=>⟨hokc hd b hb,rfl⟩) fun _ _=>rfl
      · exact (hv'.flat hfl).ren fun id hid=>hρτ id (hv1 id hid)
    · obtain ⟨j,o1,hj,rfl,ho1,rfl⟩:=hkeyτ i ob hi hk
      have e:=hρτ j hj
      simp only at e ⊢
      rw [e]
      refine ⟨AObj.ren_rel (hHp'.obj j o1 ho1) ?_ fun id hid=>hρτ id ((hh1 j o1 ho1).2 id hid),fun b hb=>⟨fun h=>hHp'.off j o1 b ho1 hb ((hiff b).2 (.inl h)), ?_⟩⟩
      · rcases hdr with hd|⟨_,_,hfl⟩
        · exact .inr (hokc hd)
        · exact .inl (hfl j o1 ho1)
      · rcases hblk j o1 b ho1 hb with h|⟨q,oq,hq,hbq⟩
        · exact .inl h
        · obtain ⟨c,ob,e1,e2,_⟩:=hh0 q oq hq
          rw [show callRho hs ρ q=ρ c from hσ q c e1] at hbq
          exact .inr ⟨c,ob,hskey c (List.mem_of_getElem? e1),e2,hbq⟩
    · obtain ⟨j,o1',hj,rfl,ho1,rfl⟩:=hkeyτ i o1 hi hki
      obtain ⟨j',o2',hj',rfl,ho2,rfl⟩:=hkeyτ k o2 hk hkk
      have e:=hρτ j hj
      have e':=hρτ j' hj'
      simp only at e e' hbi hbk
      rw [e] at hbi
      rw [e'] at hbk
      rw [hHp'.inj j j' o1' o2' b ho1 ho2 hbi hbk]
theorem call_args {ops:Array Oper} {o:Oper} {S:St} {g:Operand} {args:Array Operand} {tys:Array TypeId} (ho:o.op=.call { callee:=.value g,args:=args,argTypes:=tys }) {e:Eff} {F:Frm} {S2:St} {a:Act} {w:World} {ρ:Nat→Value} {own:Own}
    (hag:Agree ops o e S S2) (H:Holds F S2 a w ρ own) {caps:List AV} {cvs:Array Value} (hcs:cvs.size=caps.length) (hcr:∀ (i:Nat) (c:AV),caps[i]?=some c→ARel w (okB w own ρ S2.h) ρ F.y c (cvs.getD i undef)) :
    (args.map a.eval++cvs).size=(args.toList.map (ev S)++caps).length∧∀ i c,(args.toList.map (ev S)++caps)[i]?=some c→ARel w (okB w own ρ S2.h) ρ F.y c ((args.map a.eval++cvs).getD i undef):=by
  refine ⟨by simp [hcs],fun i c hc=>?_⟩
  by_cases hi:i < args.size
  · rw [List.getElem?_append_left (by simpa using hi),List.getElem?_map] at hc
    obtain ⟨x,hx,rfl⟩:=Option.map_eq_some_iff.1 hc
    have hx':args[i]?=some x:=by simpa using hx
    have hm:x ∈ args:=Array.mem_of_getElem? hx'
    rw [← hag.ev (x:=x) (by simp [ho,Op.operands,Call.operands,hm])]
    have hxa:args[i]=x:=(Array.getElem?_eq_some_iff.1 hx').2
    have:(args.map a.eval++cvs).getD i undef=a.eval x:=by
      simp [Array.getElem?_append,hi,hxa]
    rw [this]
    exact ev_rel H x
  · rw [List.getElem?_append_right (by simpa using hi)] at hc
    simp only [List.length_map,Array.length_toList] at hc
    have:=hcr _ c hc
    have e:(args.map a.eval++cvs).getD i undef=cvs.getD (i - args.size) undef:=by
      simp [Array.getElem?_append,hi]
    rw [e];exact this
def preOf:AV→List AV
  |.bnd _ pre=>pre
  |_=>[]
theorem ve_call {ops:Array Oper} {o:Oper} {S:St} (hS:Wf S) (hw:Want ops o S) {g:Operand} {args:Array Operand} {tys:Array TypeId} (ho:o.op=.call { callee:=.value g,args:=args,argTypes:=tys })
    {f:FuncId} {caps pre:List AV} (hg:ev S g=.clo f caps∧pre=[]∨ev S g=.bnd f pre∧caps=[]) {B:Ctx→Prop} {az:List AV} {hs bo dr:List Nat} {h0:Nat→Option AObj} {v:AV} {h1 hf:Nat→Option AObj} {dj nn:Nat} (hfn:Fn B P f az h0 v h1 dj)
    (hdj:dj ≠ 0→dr=bo)
    (hB:∀ F S2 a w ρ own,A F→(dj ≠ 0→S2.j=S.j)→(∀ c,c ∈ hs∨c ∈ bo→S2.h c=S.h c)→Holds F S2 a w ρ own→B (callCtx F S2 hs bo ρ own w))
    (hargs:AV.leL hf (fun j=>hs[j]?) (pre++(args.toList.map (ev S)++caps)) az)
    (hobj:∀ i o0,h0 i=some o0→∃ c ob,hs[i]?=some c∧S.h c=some ob∧AObj.le hf (fun j=>hs[j]?) ob o0)
    (hdom:∀ j,j < hs.length→∃ o0,h0 j=some o0) (hnd:hs.Nodup)
    (hfr:∀ i ob,hf i=some ob→S.h i=some ob∧i ∉ hs∧i ∈ bo) (hbo:∀ i ∈ bo,(∃ ob,S.h i=some ob)∧i ∉ hs)
    (hdr:dr=bo∨(dr=[]∧v.flat∧∀ i ob,h1 i=some ob→ob.flat))
    (hv1:∀ id ∈ v.ids,id < hs.length+nn) (hh1:∀ i ob,h1 i=some ob→i < hs.length+nn∧∀ id ∈ ob.ids,id < hs.length+nn) :
    VE A P ops o (callEff S hs bo dr v h1 nn dj) S:=by
  obtain ⟨hall,hslt,hI,hN⟩:=call_ids (dj:=dj) hS hargs hobj hdom hnd hfr hbo hdr hv1 hh1
  refine ⟨fun F hF hds S2 a w hag hfr2 ⟨ρ,own,H⟩=>?_,hI,hN⟩
  rw [want_true hw hag H,if_pos rfl]
  have hS2:∀ c,c ∈ hs∨c ∈ bo→S2.h c=S.h c:=fun c hc=>hag.2.1 c (by simpa [callEff] using hc)
  have hgv:=ev_rel H g
  rw [hag.ev (x:=g) (by simp [ho,Op.operands,Call.operands])] at hgv
  obtain ⟨vals,hsz,hrel,hexec⟩:∃ vals:Array Value,vals.size=(pre++(args.toList.map (ev S)++caps)).length∧(∀ i c,(pre++(args.toList.map (ev S)++caps))[i]?=some c→ARel w (okB w own ρ S2.h) ρ F.y c (vals.getD i undef))∧(execOp a.eval o).run P w=.ok (.enter f vals) w:=by
    generalize hgv':a.eval g=gv at hgv
    rcases hg with ⟨hg,rfl⟩|⟨hg,rfl⟩
    · rw [hg] at hgv
      cases hgv with
      |@clo _ _ cvs hcs hcr =>
        obtain ⟨hsz,hrel⟩:=call_args ho hag H hcs hcr
        exact ⟨args.map a.eval++cvs,by simpa using hsz,by simpa using hrel,by simp [execOp,ho,resolve,Deferred.ofValue,hgv',invoke,hfn.enter]⟩
    · rw [hg] at hgv
      cases hgv with
      |@bnd _ _ bvs hbs hbr =>
        obtain ⟨hsz,hrel⟩:=call_args ho hag H (caps:=[]) (cvs:=#[]) rfl (by simp)
        simp only [Array.append_empty] at hsz hrel
        refine ⟨bvs++args.map a.eval,by simp [hbs],fun i c hc=>?_,by simp [execOp,ho,resolve,Deferred.ofValue,hgv',invoke,hfn.enter]⟩
        by_cases hi:i < bvs.size
        · rw [List.getElem?_append_left (by omega)] at hc
          have e:(bvs++args.map a.eval).getD i undef=bvs.getD i undef:=by simp [Array.getElem?_append,hi]
          rw [e];exact hbr i c hc
        · rw [List.getElem?_append_right (by omega)] at hc
          have e:(bvs++args.map a.eval).getD i undef=(args.map a.eval).getD (i - pre.length) undef:=by
            have hi':¬ i < pre.length:=by omega
            simp [Array.getElem?_append,hi',hbs]
          rw [e];exact hrel _ c hc
  obtain ⟨c1,c2,c3,c4⟩:=call_core (dj:=dj) hS hargs hobj hdom hnd hfr hbo hdr hv1 hh1 H hdj hS2 hfr2 hsz hrel (dst_lt hds)
  have hcalls:=hfn.calls F.y (Jc F.J S2.j (privB S2 hs bo ρ) w) (Jc.stable F.stable _ _ _) _ w (callRho hs ρ) vals (hB F S2 a w ρ own hF (fun hd=>hag.2.2 hd) hS2 H) c1 c2 c3
  refine ⟨about_wide o a w F.r, ?_⟩
  rw [Oper.semAt_eq _ _ _ (by simp [ho]),hexec]
  simp only [Oper.uponIn]
  refine ⟨fun h=>by simp [W] at h,callsIn_W (calls_mono hcalls ?_)⟩
  rintro e w' ⟨v',ownc',ρc',rfl,q1,q2,q3,q4,q7,q5,q6⟩
  obtain ⟨ρ',own',HH⟩:=c4 v' w' ownc' ρc' q1 q2 q3 q4 q7 q5 q6
  exact gam_value HH
end Go.Sym
namespace Go.Sym
open Go
variable {A : Frm → Prop} {P : Program}
def loadAV (i:TI) (cells:List AV):AV:=bif i.td.agg then .agg cells else cells.headD .junk
def resL (Γ:Tys) (S:St):List ResultVar→(List AV→Prop)→Prop
  |[],K=>K []
  |.tmp t :: rs,K=>resL Γ S rs fun vs=>K (S.t t :: vs)
  |.cell t ty :: rs,K=>match Γ ty with
    |some i=>rd S (bif i.td.agg then i.cells else 1) (fun cells _=>resL Γ S rs fun vs=>K (loadAV i cells :: vs)) (S.t t)
    |none=>False
def tupA:List AV→AV
  |[]=>.tup []
  |[a]=>a
  |a :: b :: r=>.tup (a :: b :: r)
def resOne (tmps:Array Value):ResultVar→Sem Value
  |.tmp t=>pure (tmps.getD t undef)
  |.cell x t=>do loadVar t (← asAddr (tmps.getD x undef))
theorem results_eq (fn:Func) (tmps:Array Value):results fn tmps=(do let vs ← fn.results.mapM (resOne tmps);pure (if h:vs.size=1 then vs[0] else .tuple vs)):=by
  unfold results
  congr 2
theorem run_res {Γ:Tys} (hΓ:TysOK P Γ) {F:Frm} {S:St} {a:Act} {w:World} {ρ:Nat→Value} {own:Own} (H:Holds F S a w ρ own):∀ {rs:List ResultVar} {K:List AV→Prop},resL Γ S rs K →
    ∃ avs vs,K avs∧(List.mapM (resOne a.tmps) rs:Sem (List Value)).run P w=.ok vs w∧vs.length=avs.length∧∀ (i:Nat) (c:AV),avs[i]?=some c→ARel w (okB w own ρ S.h) ρ F.y c (vs.getD i undef)
  |[],K,h=>⟨[],[],h,by simp,rfl,by simp⟩
  |.tmp t :: rs,K,h=>by
    obtain ⟨avs,vs,hK,hrun,hl,hr⟩:=run_res hΓ H (rs:=rs) (K:=fun vs=>K (S.t t :: vs)) h
    refine ⟨_,a.tmps.getD t undef :: vs,hK,by simp only [List.mapM_cons,resOne,Sem.run_bind,Sem.run_pure,Result.andThen_ok,hrun],by simp [hl],fun i c hc=>?_⟩
    cases i with
    |zero=>simp only [List.getElem?_cons_zero,Option.some.injEq] at hc;subst hc;exact H.temps t
    |succ i=>simpa using hr i c (by simpa using hc)
  |.cell x t :: rs,K,h=>by
    simp only [resL] at h
    split at h
    · rename_i i hi
      obtain ⟨cells,hr,h,hrd⟩:=rd_sound h
      obtain ⟨avs,vs,hK,hrun,hl,hrr⟩:=run_res hΓ H (rs:=rs) (K:=fun vs=>K (loadAV i cells :: vs)) h
      have ht:=hΓ t i hi
      obtain ⟨hlen,ad,us,hv,hul,hcell,hrel⟩:=hrd.read F S a w ρ own _ (fun _ _=>rfl) H (H.temps x)
      have hone:∃ u,(loadVar t ad).run P w=.ok u w∧ARel w (okB w own ρ S.h) ρ F.y (loadAV i cells) u:=by
        unfold loadAV
        cases hagg:i.td.agg
        · rw [hagg,cond_false] at hlen hul
          obtain ⟨u,rfl⟩:=list_one hul
          have hc0:w.cell? ad=some u:=by have:=hcell 0 u rfl;rwa [add_zero'] at this
          refine ⟨u,run_loadVar_one ht hagg w ad u hc0, ?_⟩
          match cells,hlen with
          |[c],_=>exact (hrel 0 c u rfl rfl).1
        · rw [hagg,cond_true] at hlen hul
          refine ⟨_,run_loadVar_agg ht hagg w ad us (by omega) hcell, ?_⟩
          refine .agg (by simp;omega) fun j c hc=>?_
          have hj:j < us.length:=by have:=(List.getElem?_eq_some_iff.1 hc).1;omega
          have:=(hrel j c _ hc (List.getElem?_eq_getElem hj)).1
          simpa [hj] using this
      obtain ⟨u,hu,hru⟩:=hone
      have hpa:(asAddr (a.tmps.getD x undef)).run P w=.ok ad w:=by rw [hv];rfl
      refine ⟨_,u :: vs,hK,by simp only [List.mapM_cons,resOne,Sem.run_bind,hpa,Sem.run_pure,Result.andThen_ok,hu,hrun],by simp [hl],fun i c hc=>?_⟩
      cases i with
      |zero=>simp only [List.getElem?_cons_zero,Option.some.injEq] at hc;subst hc;exact hru
      |succ i=>simpa using hrr i c (by simpa using hc)
    · exact h.elim
theorem run_results {Γ:Tys} (hΓ:TysOK P Γ) {F:Frm} {S:St} {a:Act} {w:World} {ρ:Nat→Value} {own:Own} (H:Holds F S a w ρ own) {fn:Func} {K:List AV→Prop} (h:resL Γ S fn.results.toList K) :
    ∃ avs v,K avs∧(results fn a.tmps).run P w=.ok v w∧ARel w (okB w own ρ S.h) ρ F.y (tupA avs) v:=by
  obtain ⟨avs,vs,hK,hrun,hl,hr⟩:=run_res hΓ H h
  refine ⟨avs,if h:vs.toArray.size=1 then vs.toArray[0] else .tuple vs.toArray,hK, ?_, ?_⟩
  · rw [results_eq,Array.mapM_eq_mapM_toList]
    simp only [map_eq_pure_bind,Sem.run_bind,Sem.run_pure,hrun]
    rfl
  · match avs,vs,hl with
    |[],[],_=>exact .tup rfl (by simp)
    |[c],[v],_=>simpa [tupA] using hr 0 c rfl
    |c :: d :: r,v :: u :: q,hl =>
      simp only [tupA]
      rw [dif_neg (by simp)]
      exact .tup (by simpa using hl) fun i c hc=>by have:=hr i c hc;simpa using this
abbrev DCall:=FuncId→List AV→St→(St→Prop)→Prop
def DCall.OK (A:Frm→Prop) (P:Program) (D:DCall):Prop:=∀ f caps S K,D f caps S K→(∀ vs w,(callFunc f vs).run P w=.ok (.enter f vs) w)∧∀ F,A F→∀ a w ρ own,Holds F S a w ρ own→∀ vs:Array Value,vs.size=caps.length→(∀ (i:Nat) (c:AV),caps[i]?=some c→ARel w (okB w own ρ S.h) ρ F.y c (vs.getD i undef)) →
  CallsDIn (W none) 0 P f vs .returning w fun e u w'=>∃ v S',e=.returned v∧u=.returning∧K S'∧Gam F S' a w'
def noD:DCall:=fun _ _ _ _=>False
theorem noD_ok:DCall.OK A P noD:=fun _ _ _ _ h=>h.elim
def leaveA (D:DCall):List ADf→St→(St→Prop)→Prop
  |[],S,K=>K S
  |.mark id :: ds,S,K=>S.h id=some .mark∧leaveA D ds { t:=S.t,h:=upd S.h id none,n:=S.n,j:=S.j,d:=ds,m:=S.m } K
  |.call f caps :: ds,S,K=>D f caps { t:=S.t,h:=S.h,n:=S.n,j:=S.j,d:=ds,m:=S.m } fun S'=>S'.d=ds∧leaveA D ds S' K
theorem Holds.pop {F:Frm} {S:St} {a:Act} {w:World} {ρ:Nat→Value} {own:Own} (H:Holds F S a w ρ own) {d:ADf} {ds:List ADf} (hd:S.d=d :: ds) :
    ∃ x xs,a.defers=x :: xs∧DfRel w (okB w own ρ S.h) ρ F.y d x∧Holds F { t:=S.t,h:=S.h,n:=S.n,j:=S.j,d:=ds,m:=S.m } { tmps:=a.tmps,defers:=xs } w ρ own:=by
  have h:=H.defs
  rw [hd] at h
  generalize hx:a.defers=l at h
  cases h with
  |@cons _ x _ xs h1 h2 =>
    refine ⟨x,xs,rfl,h1,H.jay,H.temps,H.obj,H.inj,H.blkOK,fun id hid=>?_,H.nle,H.meq,H.tsz,H.pins,H.ext,H.ownsub,H.still,h2⟩
    obtain ⟨g1,g2,g3,g4⟩:=H.fresh id hid
    refine ⟨g1,g2,g3,fun hm=>g4 ?_⟩
    rw [hd,List.flatMap_cons]
    exact List.mem_append_right _ hm
theorem putObj_heap (w:World) (b:Nat) (o:Obj) (k:Nat):(w.putObj b o).heap[k]?=if k=b∧b < w.heap.size then some o else w.heap[k]?:=by
  simp only [World.putObj,Array.getElem?_setIfInBounds]
  by_cases h:b=k
  · subst h
    by_cases h2:b < w.heap.size
    · simp [h2]
    · simp [h2]
  · rw [if_neg h,if_neg (by intro e;exact h e.1.symm)]
theorem Ext.putObj {mod:Nat→Prop} (w:World) (b:Nat) (o:Obj) (h:mod b):Ext mod w (w.putObj b o) :=
  ⟨rfl,rfl,rfl,by simp [World.putObj],fun k _ hn=>by rw [putObj_heap,if_neg (by rintro ⟨e,_⟩;subst e;exact hn h)]⟩
theorem leaves_sound {D:DCall} (hD:DCall.OK A P D) {F:Frm} (hF:A F) {fn:Func} {R:Ending→World→Prop}:∀ (ds:List ADf) (S:St) (a:Act) (w:World) {K:St→Prop},S.d=ds→leaveA D ds S K→Gam F S a w →
    (∀ S' w',K S'→S'.d=[]→Gam F S' { tmps:=a.tmps,defers:=[] } w'→LeavesInM (W none) 0 P fn a.tmps R [] .returning w')→LeavesInM (W none) 0 P fn a.tmps R a.defers .returning w
  |[],S,a,w,K,hd,h,⟨ρ,own,H⟩,fin=>by
    have hdf:=H.defs
    rw [hd] at hdf
    generalize hx:a.defers=l at hdf
    cases hdf
    refine fin S w h hd ⟨ρ,own, ?_⟩
    have:a={ tmps:=a.tmps,defers:=[] }:=by rw [← hx]
    rw [← this];exact H
  |.mark id :: ds,S,a,w,K,hd,⟨hm,h⟩,⟨ρ,own,H⟩,fin=>by
    obtain ⟨x,xs,hx,hdr,H'⟩:=H.pop hd
    rw [hx]
    have hob:=H.obj id _ hm
    cases hdr with
    |@mark _ b e =>
      rw [e] at hob
      cases hob with
      |mark hb =>
        refine ⟨by simp,.inl ⟨b,_,rfl,run_takeDeferred hb, ?_⟩⟩
        have hxt:Ext (fun k=>k=b) w (w.putObj b (.deferred none)):=Ext.putObj _ _ _ rfl
        have hno:¬ own.all b:=(H.blkOK id _ b hm (by rw [e];rfl)).1
        have H2:=H'.app (dst:=none) (e:={ av:=.junk,hw:=[(id,none)] }) (v':=undef) (w':=w.putObj b (.deferred none)) (ρ':=ρ) (own':=own) (ds:=[]) (fun _ h=>by cases h)
          ((F.stable _ _ _ H.jay).2 _ (hxt.weaken fun k _ hk ho=>hno (hk ▸ ho))) (hxt.weaken fun k _ hk=>.inr ⟨id,.mark,by simp [Eff.keys],hm,by rw [e,hk];rfl⟩) (.inl rfl) (by simp) (fun _ _=>rfl) (by simp) .junk
          (fun i o hi ho=>by simp [Eff.keys] at hi;subst hi;simp [hupd,upd_same] at ho) (fun i k o o' b hi hk ho=>by simp [Eff.keys] at hi;subst hi;simp [hupd,upd_same] at ho)
          (fun i hi=>by
            simp [Eff.ids,AV.ids,hwIds] at hi
            subst hi
            have:i < S.n:=Nat.lt_of_not_le fun hn=>by have:=(H.fresh i hn).1;rw [hm] at this;cases this
            exact Nat.lt_of_lt_of_le this (Nat.le_max_left _ _)) .nil
        refine leaves_sound hD hF ds _ { tmps:=a.tmps,defers:=xs } _ rfl h ⟨ρ,own, ?_⟩ fin
        simpa [St.app,put,hupd,Act.put] using H2
  |.call f caps :: ds,S,a,w,K,hd,h,⟨ρ,own,H⟩,fin=>by
    obtain ⟨x,xs,hx,hdr,H'⟩:=H.pop hd
    rw [hx]
    cases hdr with
    |@call _ _ vs h1 h2 =>
      obtain ⟨hent,hc⟩:=hD f caps _ _ h
      refine ⟨by simp,.inr ⟨fun h=>by simp [W] at h,.func f,vs,f,#[]++vs,rfl, ?_,fun g _=>trivial, ?_⟩⟩
      · simp [invoke,hent]
      · refine CallsDIn.mono (n:=0) (hc F hF { tmps:=a.tmps,defers:=xs } w ρ own H' (#[]++vs) (by simpa using h1) fun i c hc=>by have:=h2 i c hc;simpa using this) ?_
        rintro e u w' ⟨v,S',rfl,rfl,⟨hS'd,hl⟩,hg⟩
        exact leaves_sound hD hF ds S' { tmps:=a.tmps,defers:=xs } w' hS'd hl hg fin
def argL:Nat→List AV→List (Nat × AV)
  |_,[]=>[]
  |i,a :: az=>(i,a) :: argL (i+1) az
theorem asg_argL (k:Nat):∀ (az:List AV) (i t:Nat),i≤t→(asg (argL i az) t=match az[t - i]? with|some a=>a|none=>.junk)
  |[],i,t,_=>by simp [argL,asg]
  |a :: az,i,t,h=>by
    rw [argL]
    by_cases ht:t=i
    · subst ht;simp [asg]
    · rw [asg_ne _ _ _ _ ht,asg_argL k az (i+1) t (by omega)]
      rw [show t - i=(t - (i+1))+1 by omega,List.getElem?_cons_succ]
def Fin (S:St) (rv v:AV) (n0:Nat) (h1:Nat→Option AObj) (dj:Nat):Prop:=∃ (σ:Nat→Option Nat) (hf:Nat→Option AObj),AV.le hf σ rv v ∧
  (∀ i o1,h1 i=some o1→(∃ c o,σ i=some c∧S.h c=some o∧AObj.le hf σ o o1)∨(σ i=none∧emptyO o1)) ∧
  (∀ i o k o' c,h1 i=some o→h1 k=some o'→σ i=some c→σ k=some c→i=k) ∧
  (∀ i o,hf i=some o→S.h i=some o∧∀ j o1,h1 j=some o1→σ j ≠ some i)∧(∀ i,i < n0→σ i=some i)∧S.j=dj
def retK (Γ:Tys) (D:DCall) (fn:Func) (Q:St→AV→Prop):Exit→St→Prop
  |.normal,S=>leaveA D S.d S fun S'=>resL Γ S' fn.results.toList fun vs=>Q S' (tupA vs)
  |.ret,S=>leaveA D S.d S fun S'=>resL Γ S' fn.results.toList fun vs=>Q S' (tupA vs)
  |_,_=>False
structure FnData (P:Program) (Γ:Tys) (f:FuncId) (fn:Func) (c:Code):Prop where
  ok:TysOK P Γ
  func:P.funcs[f]?=some fn
  body:fn.body=some c
  enter:∀ vs w,(callFunc f vs).run P w=.ok (.enter f vs) w
  dst:dstOK fn.ntmps c=true
def startS (az:List AV) (n0:Nat) (h0:Nat→Option AObj):St:={ t:=asg (argL 0 az),h:=h0,n:=n0,m:=n0 }
theorem fin_hp {F:Frm} {S:St} {a:Act} {w:World} {ρ:Nat→Value} {own:Own} (H:Holds F S a w ρ own) {rv v:AV} {n0:Nat} {h1:Nat→Option AObj} {dj:Nat} (hq:Fin S rv v n0 h1 dj) (hn0:∀ i o,F.H0 i=some o→i < n0) :
    ∃ ρ',Hp F.J F.y h1 dj own w ρ'∧(∀ x,ARel w (okB w own ρ S.h) ρ F.y rv x→ARel w (okB w own ρ' h1) ρ' F.y v x)∧(∀ i o,F.H0 i=some o→ρ' i=F.ρ0 i) ∧
      ∀ i o b,h1 i=some o→blk (ρ' i)=some b→F.w0.heap.size≤b∨F.owns0 b:=by
  obtain ⟨σ,hf,hle,hh,hinj,hfr,hm,hj⟩:=hq
  let ρ':Nat→Value:=fun j=>match σ j with|some i=>ρ i|none=>.slice none 0 0
  have hσ:∀ j i,σ j=some i→ρ' j=ρ i:=fun j i h=>by simp only [ρ',h]
  have hσ0:∀ j,σ j=none→ρ' j=.slice none 0 0:=fun j h=>by simp only [ρ',h]
  have hok:∀ b,okB w own ρ S.h b→okB w own ρ' h1 b:=by
    rintro b ⟨g1,g2,g3⟩
    refine ⟨g1,g2,fun i o hi hb=>?_⟩
    rcases hh i o hi with ⟨k,o',hk,ho',_⟩|⟨hn,_⟩
    · rw [hσ i k hk] at hb;exact g3 k o' ho' hb
    · rw [hσ0 i hn] at hb;simp [blk] at hb
  have hrow:∀ i ox b,hf i=some ox→blk (ρ i)=some b→okB w own ρ' h1 b:=by
    intro i ox b hi hb
    obtain ⟨g1,g2⟩:=hfr i _ hi
    refine ⟨(H.obj i _ g1).lt hb,fun hp=>(H.blkOK i _ b g1 hb).1 (own.sub _ hp),fun j o hj hbj=>?_⟩
    rcases hh j o hj with ⟨k',o',hk',ho',_⟩|⟨hn,_⟩
    · rw [hσ j k' hk'] at hbj
      have:=H.inj k' i o' _ b ho' g1 hbj hb
      subst this
      exact g2 j o hj hk'
    · rw [hσ0 j hn] at hbj;simp [blk] at hbj
  have hobjf:∀ i o,hf i=some o→ORel w (okB w own ρ S.h) ρ F.y o (ρ i):=fun i o hi=>H.obj i o (hfr i o hi).1
  refine ⟨ρ',⟨hj ▸ H.jay,fun i o hi=>?_,fun i k o o' b hi hk hbi hbk=>?_,fun i o b hi hb=>?_⟩,fun x hx=>AV.le_rel hobjf hok hrow hσ hσ0 hx v hle,fun i o hi=>?_,fun i o b hi hb=>?_⟩
  · rcases hh i o hi with ⟨c,ob,hc,hob,hle⟩|⟨hn,he⟩
    · rw [hσ i c hc];exact AObj.le_rel hobjf hok hrow hσ hσ0 (H.obj c ob hob) hle
    · rw [hσ0 i hn];exact empty_rel he
  · rcases hh i o hi with ⟨c,ob,hc,hob,_⟩|⟨hn,_⟩
    · rcases hh k o' hk with ⟨c',ob',hc',hob',_⟩|⟨hn,_⟩
      · rw [hσ i c hc] at hbi
        rw [hσ k c' hc'] at hbk
        have:=H.inj c c' ob ob' b hob hob' hbi hbk
        subst this
        exact hinj i o k o' c hi hk hc hc'
      · rw [hσ0 k hn] at hbk;simp [blk] at hbk
    · rw [hσ0 i hn] at hbi;simp [blk] at hbi
  · rcases hh i o hi with ⟨c,ob,hc,hob,_⟩|⟨hn,_⟩
    · rw [hσ i c hc] at hb;exact (H.blkOK c ob b hob hb).1
    · rw [hσ0 i hn] at hb;simp [blk] at hb
  · rw [hσ i i (hm i (hn0 i o hi))];exact H.pins i o hi
  · rcases hh i o hi with ⟨c,ob,hc,hob,_⟩|⟨hn,_⟩
    · rw [hσ i c hc] at hb;exact (H.blkOK c ob b hob hb).2
    · rw [hσ0 i hn] at hb;simp [blk] at hb
theorem Fn.of {B:Ctx→Prop} {Γ:Tys} {D:DCall} {f:FuncId} {fn:Func} {c:Code} (hd:FnData P Γ f fn c) {az:List AV} {n0:Nat} {h0:Nat→Option AObj} {v:AV} {h1:Nat→Option AObj} {dj:Nat}
    (has:az.length≤fn.ntmps) (hids:∀ a ∈ az,∀ id ∈ a.ids,id < n0) (hh0:∀ i o,h0 i=some o→i < n0∧∀ id ∈ o.ids,id < n0)
    (hA:∀ F,B ⟨F.y,F.J,F.own0,F.w0,F.ρ0⟩→F.H0=h0→F.r=none→A F) (hD:DCall.OK A P D)
    (hs:Sym A P c (startS az n0 h0) (retK Γ D fn fun S rv=>Fin S rv v n0 h1 dj)):Fn B P f az h0 v h1 dj:=by
  refine ⟨hd.enter,fun y J hJ own w ρ vs hB hp hsz hrel=>?_⟩
  let F:Frm:={ r:=none,y,J,stable:=hJ,w0:=w,ρ0:=ρ,H0:=h0,own0:=own,n0,nt:=fn.ntmps,pinn:=fun i o h=>(hh0 i o h).1,recs:=fun _ h=>by cases h }
  have hF:A F:=hA F hB rfl rfl
  have hlen:vs.size≤fn.ntmps:=by omega
  let a:Act:={ tmps:=vs++Array.replicate (fn.ntmps - vs.size) undef,defers:=[] }
  have hg:Gam F (startS az n0 h0) a w:=by
    refine ⟨ρ,own,hp.jay,fun t=>?_,hp.obj,hp.inj,fun i o b hi hb=>⟨hp.off i o b hi hb,.inr ⟨i,o,hi,hb⟩⟩,fun id hid=>⟨?_,fun t hm=>?_,fun i o hi hm=>?_,by simp [startS]⟩,Nat.le_refl _,rfl,by simp [a,F];omega,fun _ _ _=>rfl,Ext.refl _ _,fun b hb=>.inl hb,fun _=>rfl,.nil⟩
    · show ARel w _ ρ y (asg (argL 0 az) t) _
      rw [asg_argL 0 az 0 t (Nat.zero_le _),Nat.sub_zero]
      cases hc:az[t]? with
      |none=>exact .junk
      |some c =>
        have ht:t < vs.size:=by rw [hsz];exact (List.getElem?_eq_some_iff.1 hc).1
        have e:a.tmps.getD t undef=vs.getD t undef:=by simp [a,Array.getElem?_append,ht]
        rw [e];exact hrel t c hc
    · show h0 id=none
      cases ho:h0 id with
      |none=>rfl
      |some o=>have:=(hh0 id o ho).1;have:n0≤id:=hid;omega
    · simp only [startS] at hm
      rw [asg_argL 0 az 0 t (Nat.zero_le _),Nat.sub_zero] at hm
      cases hc:az[t]? with
      |none=>rw [hc] at hm;simp [AV.ids] at hm
      |some c=>rw [hc] at hm;have:=hids c (List.mem_of_getElem? hc) id hm;have:n0≤id:=hid;omega
    · have:=(hh0 i o hi).2 id hm;have:n0≤id:=hid;omega
  have hbody:=hs F hF hd.dst a w hg
  refine calls_of_W (r:=none) (callsIn_of_wp_marks hd.func hd.body trivial (wpIn_mono hbody ?_))
  have hlv:∀ S' (a':Act) w',Gam F S' a' w'→leaveA D S'.d S' (fun S'=>resL Γ S' fn.results.toList fun vs=>Fin S' (tupA vs) v n0 h1 dj)→LeavesInM (W none) 0 P fn a'.tmps (fun e w'=>∃ v' own' ρ',e=.returned v'∧Hp J y h1 dj own' w' ρ'∧ARel w' (okB w' own' ρ' h1) ρ' y v v'∧Ext (fun b=>own.prv b∨∃ i o,h0 i=some o∧blk (ρ i)=some b) w w' ∧
      (∀ b,own'.prv b→own.prv b∨w.heap.size≤b)∧(dj=0→own'=own)∧(∀ i o,h0 i=some o→ρ' i=ρ i)∧(∀ i o b,h1 i=some o→blk (ρ' i)=some b→w.heap.size≤b∨∃ k o',h0 k=some o'∧blk (ρ k)=some b)) a'.defers .returning w':=by
    intro S' a' w' hg' hl
    refine leaves_sound hD hF S'.d S' a' w' rfl hl hg' fun S2 w2 hres _ ⟨ρ2,own2,H2⟩=>?_
    obtain ⟨avs,v',hQ,hrun,hrv⟩:=run_results hd.ok H2 hres
    obtain ⟨ρ3,hp3,hv3,hpin3,hbl3⟩:=fin_hp H2 hQ fun i o hi=>(hh0 i o hi).1
    obtain ⟨_,_,_,_,_,_,_,hj3⟩:=hQ
    exact ⟨v',hrun,v',own2,ρ3,rfl,hp3,hv3 _ hrv,H2.ext,H2.ownsub,fun hd=>H2.still (hj3.trans hd),hpin3,hbl3⟩
  rintro e a' w' ⟨S',hk,hg'⟩
  cases e with
  |normal=>exact hlv S' a' w' hg' hk
  |ret=>exact hlv S' a' w' hg' hk
  |_=>exact hk.elim
end Go.Sym
namespace Go.Sym
open Go Go.MapKept
variable {A : Frm → Prop} {P : Program}
open Classical in
noncomputable def mget:List (Value × Value)→Value→Option Value
  |[],_=>none
  |p :: ps,k=>if p.1=k then some p.2 else mget ps k
open Classical in
noncomputable def mset:List (Value × Value)→Value→Value→List (Value × Value)
  |[],k,v=>[(k,v)]
  |p :: ps,k,v=>if p.1=k then (k,v) :: ps else p :: mset ps k v
theorem mget_none {es:List (Value × Value)} {k:Value} (h:∀ p ∈ es,p.1 ≠ k):mget es k=none:=by
  induction es with
  |nil=>rfl
  |cons p es ih=>rw [mget,if_neg (h p List.mem_cons_self)];exact ih fun q hq=>h q (List.mem_cons_of_mem _ hq)
theorem mset_none {es:List (Value × Value)} {k v:Value} (h:∀ p ∈ es,p.1 ≠ k):mset es k v=es++[(k,v)]:=by
  induction es with
  |nil=>rfl
  |cons p es ih=>rw [mset,if_neg (h p List.mem_cons_self),ih fun q hq=>h q (List.mem_cons_of_mem _ hq)];rfl
theorem mget_some {es:List (Value × Value)} {k:Value} {j:Nat} {p:Value × Value} (hn:(es.map (·.1)).Nodup) (h:es[j]?=some p) (hk:p.1=k):mget es k=some p.2:=by
  induction es generalizing j with
  |nil=>simp at h
  |cons q es ih =>
    rw [List.map_cons,List.nodup_cons] at hn
    cases j with
    |zero=>cases h;rw [mget,if_pos hk]
    |succ j =>
      have h':es[j]?=some p:=by simpa using h
      rw [mget,if_neg,ih hn.2 h']
      intro e
      exact hn.1 (by rw [e,← hk];exact List.mem_map.2 ⟨p,List.mem_of_getElem? h',rfl⟩)
theorem mset_some {es:List (Value × Value)} {k v:Value} {j:Nat} {p:Value × Value} (hn:(es.map (·.1)).Nodup) (h:es[j]?=some p) (hk:p.1=k):mset es k v=es.set j (k,v):=by
  induction es generalizing j with
  |nil=>simp at h
  |cons q es ih =>
    rw [List.map_cons,List.nodup_cons] at hn
    cases j with
    |zero=>cases h;rw [mset,if_pos hk];rfl
    |succ j =>
      have h':es[j]?=some p:=by simpa using h
      rw [mset,if_neg,ih hn.2 h']
      · rfl
      · intro e
        exact hn.1 (by rw [e,← hk];exact List.mem_map.2 ⟨p,List.mem_of_getElem? h',rfl⟩)
open Classical in
noncomputable def mIdx:List (Value × Value)→Value→Nat
  |[],_=>0
  |p :: ps,k=>if p.1=k then 0 else mIdx ps k+1
noncomputable def mEnt (es:List (Value × Value)) (k z:Value):List (Value × Value):=match mget es k with
  |some _=>es
  |none=>es++[(k,z)]
def MOK (Q:Value→Prop) (es:List (Value × Value)):Prop:=(es.map (·.1)).Nodup∧∀ p ∈ es,Q p.1
theorem MOK.nil (Q:Value→Prop):MOK Q []:=⟨.nil,by simp⟩
theorem mset_keys {es:List (Value × Value)} {k v:Value} {x:Value}:x ∈ (mset es k v).map (·.1) ↔ x=k∨x ∈ es.map (·.1):=by
  induction es with
  |nil=>simp [mset]
  |cons p es ih =>
    rw [mset]
    split
    · rename_i h;subst h;simp
    · rw [List.map_cons,List.mem_cons,ih,List.map_cons,List.mem_cons]
      constructor
      · rintro (h|h|h)
        · exact .inr (.inl h)
        · exact .inl h
        · exact .inr (.inr h)
      · rintro (h|h|h)
        · exact .inr (.inl h)
        · exact .inl h
        · exact .inr (.inr h)
theorem MOK.set {Q:Value→Prop} {es:List (Value × Value)} (h:MOK Q es) {k v:Value} (hk:Q k):MOK Q (mset es k v):=by
  constructor
  · have hn:=h.1
    clear h
    induction es with
    |nil=>simp [mset]
    |cons p es ih =>
      rw [List.map_cons,List.nodup_cons] at hn
      rw [mset]
      split
      · rename_i e;subst e;simpa using hn
      · rename_i e
        rw [List.map_cons,List.nodup_cons]
        refine ⟨fun hm=>?_,ih hn.2⟩
        rcases mset_keys.1 hm with e'|e'
        · exact e e'
        · exact hn.1 e'
  · intro p hp
    have:p.1 ∈ (mset es k v).map (·.1):=List.mem_map.2 ⟨p,hp,rfl⟩
    rcases mset_keys.1 this with e|e
    · rw [e];exact hk
    · obtain ⟨q,hq,e⟩:=List.mem_map.1 e
      rw [← e];exact h.2 q hq
theorem kindsB_int {k:IntKind} {ks:List (Option IntKind)} {n:Int} {xs:List Value}:kindsB (some k :: ks) (.int k n :: xs)=kindsB ks xs:=by simp [kindsB]
theorem kindsB_bool {ks:List (Option IntKind)} {b:Bool} {xs:List Value}:kindsB (none :: ks) (.bool b :: xs)=kindsB ks xs:=by simp [kindsB]
theorem kindsB_nil:kindsB [] []=True:=by simp [kindsB]
theorem vTL (l:List Value):l.toArray.toList=l:=rfl
theorem ve_makeMap {ops:Array Oper} {o:Oper} {S:St} (hw:Want ops o S) {t:TypeId} (ho:o.op=.makeMap t none) :
    VE A P ops o { av:=.mp S.n,hw:=[(S.n,some (.map []))],news:=[S.n],n:=S.n+1 } S:=by
  have hd:∀ c,o.op ≠ .defer c:=by simp [ho]
  have hI:∀ id ∈ Eff.ids { av:=.mp S.n,hw:=[(S.n,some (.map []))],news:=[S.n],n:=S.n+1 },id < S.n+1:=by
    intro id hid
    simp only [Eff.ids,AV.ids,hwIds,AObj.ids,List.append_nil,List.flatMap_nil,List.mem_append,List.mem_cons,List.not_mem_nil,or_false] at hid
    rcases hid with rfl|rfl <;> omega
  refine ⟨fun F hF hds S2 a w hag hfr ⟨ρ,own,H⟩=>?_,hI,by simp⟩
  rw [want_true hw hag H,if_pos rfl]
  have hrun:(execOp a.eval o).run P w=.ok (.value (.map (some w.heap.size))) (w.alloc (.map #[] 0)):=by
    simp [execOp,ho,Instr.makeMap,newObj,Sem.run]
  refine wpIn_value hd hrun (gam_value (ρ':=upd ρ S.n (.map (some w.heap.size))) (own':=own) ?_)
  have hx:Ext (fun _=>False) w (w.alloc (.map #[] 0)):=Ext.alloc _ _ _
  have hj:F.J S2.j own (w.alloc (.map #[] 0)):=(F.stable _ _ _ H.jay).2 _ (hx.weaken fun _ _ h=>h.elim)
  refine H.app (dst_lt hds) hj (hx.weaken fun _ _ h=>h.elim) (.inl rfl) (by simp [Eff.keys]) (fun i hi=>upd_ne _ _ _ _ (by simpa using hi)) (by simpa using hfr) (.mp (upd_same _ _ _) rfl) ?_ ?_ ?_ .nil
  · intro i ob hi hob
    simp only [Eff.keys,List.map_cons,List.map_nil,List.mem_singleton] at hi
    subst hi
    simp only [hupd,upd_same,Option.some.injEq] at hob
    subst hob
    rw [upd_same]
    refine ⟨.map (heap_new _ _) (by simp) (by simp) (by simp) (by simp),fun b hb=>?_⟩
    simp [blk] at hb
    subst hb
    exact ⟨fun ho=>by have:=(F.stable _ _ _ H.jay).1 _ ho;omega,.inl (Nat.le_refl _)⟩
  · intro i k o1 o2 b hi hk _ _ _ _
    simp only [Eff.keys,List.map_cons,List.map_nil,List.mem_singleton] at hi hk
    rw [hi,hk]
  · intro id hid
    exact Nat.lt_of_lt_of_le (hI id hid) (Nat.le_max_right _ _)
def cellsV:List AV→Option (List Value)
  |[]=>some []
  |.v x :: cs=>(cellsV cs).map (x :: ·)
  |_ :: _=>none
def AV.toV:AV→Option Value
  |.v x=>some x
  |.agg cs=>(cellsV cs).map fun l=>.agg l.toArray
  |_=>none
theorem cellsV_rel {w:World} {ok:Nat→Prop} {ρ:Nat→Value} {y:Value}:∀ {cs:List AV} {l:List Value} {vs:List Value},cellsV cs=some l→vs.length=cs.length →
    (∀ (i:Nat) (c:AV),cs[i]?=some c→ARel w ok ρ y c (vs.getD i undef))→vs=l
  |[],l,vs,h,hl,_=>by simp [cellsV] at h;subst h;exact List.eq_nil_of_length_eq_zero (by simpa using hl)
  |c :: cs,l,vs,h,hl,hr=>by
    cases vs with
    |nil=>simp at hl
    |cons u vs =>
      cases c <;> simp only [cellsV] at h <;> first|cases h|skip
      rename_i x
      obtain ⟨l',h',rfl⟩:=Option.map_eq_some_iff.1 h
      have h0:=hr 0 _ rfl
      have e:u=x:=(isBool_inv (by simpa using h0)).1
      have e2:=cellsV_rel (vs:=vs) h' (by simpa using hl) fun i c hc=>by simpa using hr (i+1) c (by simpa using hc)
      rw [e,e2]
theorem toV_rel {w:World} {ok:Nat→Prop} {ρ:Nat→Value} {y:Value} {c:AV} {u x:Value} (h:c.toV=some u) (hr:ARel w ok ρ y c x):x=u:=by
  cases c <;> simp only [AV.toV] at h <;> first|cases h|skip
  case v=>exact (isBool_inv hr).1
  case agg cs =>
    obtain ⟨l,h',rfl⟩:=Option.map_eq_some_iff.1 h
    cases hr with
    |@agg _ vs hs hall =>
      have:=cellsV_rel (vs:=vs.toList) h' (by simpa using hs) fun i c hc=>by simpa using hall i c hc
      rw [← this]
def vokB (agg:Bool) (v:Value):Bool:=match agg,v with
  |true,.agg vs=>vs.toList.all (·.oneCell')
  |true,_=>false
  |false,v=>v.oneCell'
def vAV (v:Value):AV:=match v with
  |.agg vs=>.agg (vs.toList.map .v)
  |v=>.v v
theorem vAV_rel {w:World} {ok:Nat→Prop} {ρ:Nat→Value} {y:Value} {b:Bool} {v:Value} (h:vokB b v=true):ARel w ok ρ y (vAV v) v:=by
  have one:∀ v:Value,v.oneCell'=true→(∀ vs,v ≠ .agg vs)→ARel w ok ρ y (vAV v) v:=fun v hv hn=>by
    cases v <;> first|exact absurd rfl (hn _)|exact .v hv
  by_cases ha:∃ vs,v=.agg vs
  · obtain ⟨vs,rfl⟩:=ha
    cases b
    · simp [vokB,Value.oneCell'] at h
    · simp only [vokB] at h
      refine .agg (by simp) fun i c hc=>?_
      rw [List.getElem?_map] at hc
      obtain ⟨u,hu,rfl⟩:=Option.map_eq_some_iff.1 hc
      have hu':vs[i]?=some u:=by simpa using hu
      have:vs.getD i undef=u:=by simp [hu']
      rw [this]
      exact .v (List.all_eq_true.1 h u (List.mem_of_getElem? hu))
  · have hn:∀ vs,v ≠ .agg vs:=fun vs e=>ha ⟨vs,e⟩
    cases b
    · exact one v (by simpa [vokB] using h) hn
    · cases v <;> first|exact absurd rfl (hn _)|simp [vokB] at h
def ZOK (P:Program) (e:TypeId) (z:AV):Prop:=∀ w:World,∃ v,(zeroValue e).run P w=.ok v w∧∀ (w':World) (ok:Nat→Prop) (ρ:Nat→Value) (y:Value),ARel w' ok ρ y z v
def lookR (q:KeyInfo):Option Value→Prop × AV × Bool
  |some v=>(vokB q.agg v=true,vAV v,true)
  |none=>(∀ id,id ∉ q.z.ids,q.z,false)
theorem vAV_ids (v:Value):(vAV v).ids=[]:=by
  cases v <;> first|rfl|skip
  case agg vs =>
    simp only [vAV,AV.ids]
    refine List.eq_nil_iff_forall_not_mem.2 fun id h=>?_
    obtain ⟨c,hc,hid⟩:=AV.mem_idsL.1 h
    obtain ⟨u,_,rfl⟩:=List.mem_map.1 hc
    simp [AV.ids] at hid
theorem mIdx_none {es:List (Value × Value)} {k:Value} (h:∀ p ∈ es,p.1 ≠ k):mIdx es k=es.length:=by
  induction es with
  |nil=>rfl
  |cons p es ih=>rw [mIdx,if_neg (h p List.mem_cons_self),ih fun q hq=>h q (List.mem_cons_of_mem _ hq)];rfl
theorem mIdx_some {es:List (Value × Value)} {k:Value} {j:Nat} {p:Value × Value} (hn:(es.map (·.1)).Nodup) (h:es[j]?=some p) (hk:p.1=k):mIdx es k=j:=by
  induction es generalizing j with
  |nil=>simp at h
  |cons q es ih =>
    rw [List.map_cons,List.nodup_cons] at hn
    cases j with
    |zero=>cases h;rw [mIdx,if_pos hk]
    |succ j =>
      have h':es[j]?=some p:=by simpa using h
      rw [mIdx,if_neg,ih hn.2 h']
      intro e
      exact hn.1 (by rw [e,← hk];exact List.mem_map.2 ⟨p,List.mem_of_getElem? h',rfl⟩)
theorem born_push {entries:Array MapEntry} {clock:Nat} {k v:Value} (h:∀ (i:Nat) (e:MapEntry),entries[i]?=some e→e.born=i) (hc:clock=entries.size):∀ (i:Nat) (e:MapEntry),(entries.push { key:=k,val:=v,born:=clock })[i]?=some e→e.born=i:=by
  intro i e hi
  rw [Array.getElem?_push] at hi
  split at hi
  · rename_i h1;cases hi;rw [h1];exact hc
  · exact h i e hi
theorem born_modify {entries:Array MapEntry} {n:Nat} {f:MapEntry→MapEntry} (h:∀ (i:Nat) (e:MapEntry),entries[i]?=some e→e.born=i) (hf:∀ e,(f e).born=e.born):∀ (i:Nat) (e:MapEntry),(entries.modify n f)[i]?=some e→e.born=i:=by
  intro i e hi
  rw [Array.getElem?_modify] at hi
  split at hi
  · obtain ⟨e',he',rfl⟩:=Option.map_eq_some_iff.1 hi
    rw [hf];exact h i e' he'
  · exact h i e hi
theorem VE.setRet {ops:Array Oper} {o:Oper} {S:St} {id:Nat} {ob ob':AObj} {hr:List Nat} {av:AV} (hav:∀ i ∈ av.ids,i < S.n) (hS:Wf S) (hw:Want ops o S) (hd:∀ c,o.op ≠ .defer c) (hob:S.h id=some ob) (hidr:id ∈ hr) (hids:∀ i ∈ ob'.ids,i < S.n)
    (h:∀ F S2 a w ρ own,Agree ops o { av:=av,hw:=[(id,some ob')],hr:=hr,n:=S.n } S S2→Holds F S2 a w ρ own→S2.h id=some ob →
      ∃ u w',(execOp a.eval o).run P w=.ok (.value u) w'∧Ext (fun b=>blk (ρ id)=some b) w w'∧ORel w' (okB w own ρ S2.h) ρ F.y ob' (ρ id)∧∀ (w':World) (ok:Nat→Prop) (ρ:Nat→Value) (y:Value),ARel w' ok ρ y av u) :
    VE A P ops o { av:=av,hw:=[(id,some ob')],hr:=hr,n:=S.n } S:=by
  have hlt:id < S.n:=Nat.lt_of_not_le fun hn=>by have:=(hS id hn).1;rw [hob] at this;cases this
  have hI:∀ i ∈ Eff.ids { av:=av,hw:=[(id,some ob')],hr:=hr,n:=S.n },i < S.n:=by
    intro i hi
    simp only [Eff.ids,hwIds,List.append_nil,List.mem_append,List.mem_cons] at hi
    have hi:i ∈ av.ids∨i=id∨i ∈ ob'.ids:=by simpa using hi
    rcases hi with hi|rfl|hi
    · exact hav i hi
    · exact hlt
    · exact hids i hi
  refine ⟨fun F hF hds S2 a w hag _ ⟨ρ,own,H⟩=>?_,hI,by simp⟩
  rw [want_true hw hag H,if_pos rfl]
  have hob2:S2.h id=some ob:=(hag.2.1 id hidr).trans hob
  obtain ⟨u,w',hrun,hx,horel,hu⟩:=h F S2 a w ρ own hag H hob2
  refine wpIn_value hd hrun (gam_value (ρ':=ρ) (own':=own) ?_)
  have hno:∀ b,own.all b→blk (ρ id) ≠ some b:=fun b ho hb=>(H.blkOK id ob b hob2 hb).1 ho
  have hj:F.J S2.j own w':=(F.stable _ _ _ H.jay).2 _ (hx.weaken fun b _ hb ho=>hno b ho hb)
  have hok:∀ b,okB w own ρ S2.h b→okB w' own ρ (upd S2.h id (some ob')) b∧w'.heap[b]?=w'.heap[b]?:=by
    rintro b ⟨h1,h2,h3⟩
    refine ⟨⟨Nat.lt_of_lt_of_le h1 hx.size,h2,fun i o hi hb=>?_⟩,rfl⟩
    by_cases hin:i=id
    · subst hin;exact h3 i ob hob2 hb
    · rw [upd_ne _ _ _ _ hin] at hi;exact h3 i o hi hb
  refine H.app (dst_lt hds) hj (hx.weaken fun b _ hb=>.inr ⟨id,ob,by simp [Eff.keys],hob2,hb⟩) (.inl rfl) (by simp [Eff.keys]) (fun i _=>rfl) (by simp) (hu _ _ _ _) ?_ ?_ ?_ .nil
  · intro i o1 hi ho1
    simp only [Eff.keys,List.map_cons,List.map_nil,List.mem_singleton] at hi
    subst hi
    simp only [hupd,upd_same,Option.some.injEq] at ho1
    subst ho1
    exact ⟨horel.mono hok (fun _ _=>rfl) (fun _ _=>rfl),fun b hb=>⟨(H.blkOK i ob b hob2 hb).1,.inr ⟨i,ob,by simp [Eff.keys],hob2,hb⟩⟩⟩
  · intro i k o1 o2 b hi hk _ _ _ _
    simp only [Eff.keys,List.map_cons,List.map_nil,List.mem_singleton] at hi hk
    rw [hi,hk]
  · intro i hi
    exact Nat.lt_of_lt_of_le (hI i hi) (Nat.le_max_right _ _)
section maps
variable {ops : Array Oper} {o : Oper} {S : St} {t kt e : TypeId} {x k : Operand} {i : TI} {j : KeyInfo} {Q : Value → Prop} {id : Nat} {es : List (Value × Value)} {kv : Value}
theorem map_at {F:Frm} {S2:St} {a:Act} {w:World} {ρ:Nat→Value} {own:Own} (H:Holds F S2 a w ρ own) (hm:S2.h id=some (.map es)) :
    ∃ b entries clock,ρ id=.map (some b)∧w.heap[b]?=some (.map entries clock)∧entries.toList.map (fun e=>(e.key,e.val))=es∧(∀ (i:Nat) (e:MapEntry),entries[i]?=some e→e.born=i)∧clock=entries.size∧entries.size≤maxLen:=by
  have h:=H.obj id _ hm
  generalize hv:ρ id=v at h
  cases h with
  |map h1 h2 h3 h4 h5=>exact ⟨_,_,_,rfl,h1,h2,h3,h4,h5⟩
theorem ve_lookup (hS:Wf S) (hw:Want ops o S) {c:Bool} (ho:o.op=.lookup t x k c) (ht:TyFact P t i) (htd:i.td=.map kt e) (hQ:MKey P kt Q) (hz:ZOK P e j.z)
    (hx:ev S x=.mp id) (hm:S.h id=some (.map es)) (hok:MOK Q es) (hk:(ev S k).toV=some kv) (hkq:Q kv) (hr:(lookR j (mget es kv)).1) :
    VE A P ops o { av:=bif c then .tup [(lookR j (mget es kv)).2.1,.v (.bool (lookR j (mget es kv)).2.2)] else (lookR j (mget es kv)).2.1,hr:=[id],n:=S.n } S:=by
  obtain ⟨d,hd,hdok⟩:=ht.under
  rw [htd] at hdok
  simp only [TD.ok] at hdok
  subst hdok
  have hnid:∀ i,i ∉ (lookR j (mget es kv)).2.1.ids:=by
    intro i hi
    cases hg:mget es kv with
    |none=>rw [hg] at hi hr;exact hr i hi
    |some v=>rw [hg] at hi;simp [lookR,vAV_ids] at hi
  refine VE.val hw (by simp [ho]) (fun i hi=>?_) fun F S2 a w ρ own hag H=>?_
  · cases c
    · exact absurd hi (hnid i)
    · simp only [cond_true,AV.ids,AV.idsL,List.append_nil] at hi
      exact absurd hi (hnid i)
  have h1:=ev_rel H x
  rw [hag.ev (x:=x) (by simp [ho,Op.operands]),hx] at h1
  have h2:=toV_rel (by rw [hag.ev (x:=k) (by simp [ho,Op.operands])];exact hk) (ev_rel H k)
  have hm2:S2.h id=some (.map es):=(hag.2.1 id (by simp)).trans hm
  obtain ⟨b,entries,clock,hρ,hb,hes,_,_,_⟩:=map_at H hm2
  have h1':a.eval x=.map (some b):=by
    generalize a.eval x=v at h1
    cases h1 with|mp e1 _=>rw [← e1,hρ]
  have hkeys:∀ q ∈ entries.toList,Q q.key:=fun q hq=>hok.2 (q.key,q.val) (by rw [← hes];exact List.mem_map.2 ⟨q,hq,rfl⟩)
  have hrun:∃ r,(Instr.lookup t (.map (some b)) kv c).run P w=.ok (if c then .tuple #[r,.bool (lookR j (mget es kv)).2.2] else r) w∧∀ (ok:Nat→Prop) (ρ:Nat→Value) (y:Value),ARel w ok ρ y (lookR j (mget es kv)).2.1 r:=by
    rcases hQ.find w hkq entries.toList hkeys with ⟨f1,f2⟩|⟨n,q,f1,f2,f3⟩
    · have hg:mget es kv=none:=mget_none fun p hp=>by
        rw [← hes] at hp
        obtain ⟨q,hq,rfl⟩:=List.mem_map.1 hp
        exact f2 q hq
      obtain ⟨z,hz1,hz2⟩:=hz w
      refine ⟨z, ?_,fun ok ρ y=>by rw [hg];exact hz2 w ok ρ y⟩
      rw [hg]
      cases c <;> simp [Instr.lookup,run_underlying hd,MapKept.run_getObj_map hb,hQ.check w _ hkq,f1,hz1,Result.andThen,lookR]
    · have hg:mget es kv=some q.val:=mget_some hok.1 (j:=n) (p:=(q.key,q.val)) (by rw [← hes,List.getElem?_map,f2];rfl) f3
      refine ⟨q.val, ?_,fun ok ρ y=>by rw [hg] at hr ⊢;exact vAV_rel hr⟩
      rw [hg]
      cases c <;> simp [Instr.lookup,run_underlying hd,MapKept.run_getObj_map hb,hQ.check w _ hkq,f1,Result.andThen,lookR]
  obtain ⟨r,hr1,hr2⟩:=hrun
  refine ⟨if c then .tuple #[r,.bool (lookR j (mget es kv)).2.2] else r,w,by simp [execOp,ho,h1',h2,hr1],Ext.none w, ?_⟩
  cases c
  · simpa using hr2 _ _ _
  · simp only [cond_true,if_true]
    refine .tup (by simp) fun i c hc=>?_
    match i with
    |0=>cases hc;simpa using hr2 _ _ _
    |1=>cases hc;simpa using .v rfl
    |n+2=>simp at hc
theorem ve_mapUpdate (hS:Wf S) (hw:Want ops o S) {v:Operand} (ho:o.op=.mapUpdate t x k v) (ht:TyFact P t i) (htd:i.td=.map kt e) (hQ:MKey P kt Q)
    (hx:ev S x=.mp id) (hm:S.h id=some (.map es)) (hok:MOK Q es) (hk:(ev S k).toV=some kv) (hkq:Q kv) {u:Value} (hv:(ev S v).toV=some u) (hlen:(mset es kv u).length≤maxLen) :
    VE A P ops o { av:=.junk,hw:=[(id,some (.map (mset es kv u)))],hr:=[id],n:=S.n } S:=by
  obtain ⟨d,hd,hdok⟩:=ht.under
  rw [htd] at hdok
  simp only [TD.ok] at hdok
  subst hdok
  refine VE.setObj hS hw (by simp [ho]) hm (by simp) (by simp [AObj.ids]) fun F S2 a w ρ own hag H hm2=>?_
  have h1:=ev_rel H x
  rw [hag.ev (x:=x) (by simp [ho,Op.operands]),hx] at h1
  have h2:=toV_rel (by rw [hag.ev (x:=k) (by simp [ho,Op.operands])];exact hk) (ev_rel H k)
  have h3:=toV_rel (by rw [hag.ev (x:=v) (by simp [ho,Op.operands])];exact hv) (ev_rel H v)
  obtain ⟨b,entries,clock,hρ,hb,hes,hborn,hck,hsz⟩:=map_at H hm2
  have h1':a.eval x=.map (some b):=by
    generalize a.eval x=v at h1
    cases h1 with|mp e1 _=>rw [← e1,hρ]
  have hkeys:∀ q ∈ entries.toList,Q q.key:=fun q hq=>hok.2 (q.key,q.val) (by rw [← hes];exact List.mem_map.2 ⟨q,hq,rfl⟩)
  have hlt:b < w.heap.size:=(Array.getElem?_eq_some_iff.1 hb).1
  have ext:∀ o',Ext (fun b'=>blk (ρ id)=some b') w { w with heap:=w.heap.setIfInBounds b o' }:=fun o' =>
    ⟨rfl,rfl,rfl,by simp,fun k _ hn=>(MapKept.heap_set (o':=o') hb).2 k fun e=>hn (by rw [hρ,e];rfl)⟩
  rcases hQ.find w hkq entries.toList hkeys with ⟨f1,f2⟩|⟨n,q,f1,f2,f3⟩
  · have hms:mset es kv u=es++[(kv,u)]:=mset_none fun p hp=>by
      rw [← hes] at hp
      obtain ⟨q,hq,rfl⟩:=List.mem_map.1 hp
      exact f2 q hq
    refine ⟨_,by simp [execOp,ho,h1',h2,h3,Instr.mapUpdate,run_underlying hd,MapKept.run_getObj_map hb,hQ.check w _ hkq,f1,MapKept.run_setObj_map _ hb,Result.andThen];rfl,ext _, ?_⟩
    rw [hρ]
    refine .map (MapKept.heap_set hb).1 (by simp [hms,hes]) ?_ (by simp [hck]) ?_
    · exact born_push hborn hck
    · rw [hms,← hes] at hlen;simpa using hlen
  · have hn:n < entries.size:=by simpa using (List.getElem?_eq_some_iff.1 f2).1
    have hms:mset es kv u=es.set n (kv,u):=mset_some hok.1 (p:=(q.key,q.val)) (by rw [← hes,List.getElem?_map,f2];rfl) f3
    have hq:entries[n]?=some q:=by simpa using f2
    refine ⟨_,by simp [execOp,ho,h1',h2,h3,Instr.mapUpdate,run_underlying hd,MapKept.run_getObj_map hb,hQ.check w _ hkq,f1,hq,f3,hQ.stays w hkq,MapKept.run_setObj_map _ hb,Result.andThen];rfl,ext _, ?_⟩
    rw [hρ]
    refine .map (MapKept.heap_set hb).1 ?_ (born_modify hborn fun _=>rfl) (by simpa using hck) (by simpa using hsz)
    rw [hms,← hes]
    refine List.ext_getElem? fun m=>?_
    simp only [Array.toList_modify,List.getElem?_map,List.getElem?_modify,List.getElem?_set,List.length_map,Array.length_toList]
    by_cases hnm:n=m
    · subst hnm;simp [hn]
    · simp [hnm]
theorem ve_mapEntry (hS:Wf S) (hw:Want ops o S) (ho:o.op=.mapEntry t x k) (ht:TyFact P t i) (htd:i.td=.map kt e) (hQ:MKey P kt Q) (hz:ZOK P e j.z) {zv:Value} (hzv:j.z.toV=some zv)
    (hx:ev S x=.mp id) (hm:S.h id=some (.map es)) (hok:MOK Q es) (hk:(ev S k).toV=some kv) (hkq:Q kv) (hr:(lookR j (mget es kv)).1) (hlen:es.length+1≤maxLen) :
    VE A P ops o { av:=.tup [(lookR j (mget es kv)).2.1,.v (.int .i64 (mIdx es kv:Nat))],hw:=[(id,some (.map (mEnt es kv zv)))],hr:=[id],n:=S.n } S:=by
  obtain ⟨d,hd,hdok⟩:=ht.under
  rw [htd] at hdok
  simp only [TD.ok] at hdok
  subst hdok
  have hnid:∀ i,i ∉ (lookR j (mget es kv)).2.1.ids:=by
    intro i hi
    cases hg:mget es kv with
    |none=>rw [hg] at hi hr;exact hr i hi
    |some v=>rw [hg] at hi;simp [lookR,vAV_ids] at hi
  refine VE.setRet (fun i hi=>?_) hS hw (by simp [ho]) hm (by simp) (by simp [AObj.ids]) fun F S2 a w ρ own hag H hm2=>?_
  · simp only [AV.ids,AV.idsL,List.append_nil] at hi
    exact absurd hi (hnid i)
  have h1:=ev_rel H x
  rw [hag.ev (x:=x) (by simp [ho,Op.operands]),hx] at h1
  have h2:=toV_rel (by rw [hag.ev (x:=k) (by simp [ho,Op.operands])];exact hk) (ev_rel H k)
  obtain ⟨b,entries,clock,hρ,hb,hes,hborn,hck,hsz⟩:=map_at H hm2
  have h1':a.eval x=.map (some b):=by
    generalize a.eval x=v at h1
    cases h1 with|mp e1 _=>rw [← e1,hρ]
  have hkeys:∀ q ∈ entries.toList,Q q.key:=fun q hq=>hok.2 (q.key,q.val) (by rw [← hes];exact List.mem_map.2 ⟨q,hq,rfl⟩)
  have ext:∀ o',Ext (fun b'=>blk (ρ id)=some b') w { w with heap:=w.heap.setIfInBounds b o' }:=fun o' =>
    ⟨rfl,rfl,rfl,by simp,fun k _ hn=>(MapKept.heap_set (o':=o') hb).2 k fun e=>hn (by rw [hρ,e];rfl)⟩
  rcases hQ.find w hkq entries.toList hkeys with ⟨f1,f2⟩|⟨n,q,f1,f2,f3⟩
  · have hne:∀ p ∈ es,p.1 ≠ kv:=fun p hp=>by
      rw [← hes] at hp
      obtain ⟨q,hq,rfl⟩:=List.mem_map.1 hp
      exact f2 q hq
    have hg:mget es kv=none:=mget_none hne
    obtain ⟨z,hz1,hz2⟩:=hz w
    have hzz:z=zv:=toV_rel hzv (hz2 w (fun _=>True) (fun _=>undef) undef)
    subst hzz
    have hln:es.length=entries.size:=by rw [← hes];simp
    have hi1:mIdx es kv=entries.size:=by rw [mIdx_none hne,hln]
    refine ⟨_,_,by simp [execOp,ho,h1',h2,Instr.mapEntry,run_underlying hd,MapKept.run_getObj_map hb,hQ.check w _ hkq,f1,hz1,MapKept.run_setObj_map _ hb,Result.andThen];exact ⟨rfl,rfl⟩,ext _, ?_,fun w' ok ρ y=>?_⟩
    · rw [hρ]
      refine .map (MapKept.heap_set hb).1 (by simp [mEnt,hg,hes]) (born_push hborn hck) (by simp [hck]) (by rw [hln] at hlen;simpa using hlen)
    · refine .tup (by simp) fun i c hc=>?_
      match i with
      |0=>cases hc;rw [hg];exact hz2 w' ok ρ y
      |1=>cases hc;rw [hi1,← hck];exact .v rfl
      |n+2=>simp at hc
  · have hn:n < entries.size:=by simpa using (List.getElem?_eq_some_iff.1 f2).1
    have hq:entries[n]?=some q:=by simpa using f2
    have hesn:es[n]?=some (q.key,q.val):=by rw [← hes,List.getElem?_map,f2];rfl
    have hg:mget es kv=some q.val:=mget_some hok.1 (j:=n) (p:=(q.key,q.val)) hesn f3
    have hi1:mIdx es kv=n:=mIdx_some hok.1 (p:=(q.key,q.val)) hesn f3
    have hbq:=hborn n q hq
    refine ⟨_,_,by simp [execOp,ho,h1',h2,Instr.mapEntry,run_underlying hd,MapKept.run_getObj_map hb,hQ.check w _ hkq,f1,hq,f3,hQ.stays w hkq,MapKept.run_setObj_map _ hb,Result.andThen];exact ⟨rfl,rfl⟩,ext _, ?_,fun w' ok ρ y=>?_⟩
    · rw [hρ]
      refine .map (MapKept.heap_set hb).1 ?_ (born_modify hborn fun _=>rfl) (by simpa using hck) (by simpa using hsz)
      rw [show mEnt es kv zv=es by simp [mEnt,hg],← hes]
      refine List.ext_getElem? fun m=>?_
      simp only [Array.toList_modify,List.getElem?_map,List.getElem?_modify]
      by_cases hnm:n=m
      · subst hnm;simp [hq,f3]
      · simp [hnm]
    · refine .tup (by simp) fun i c hc=>?_
      match i with
      |0=>cases hc;rw [hg] at hr ⊢;exact vAV_rel hr
      |1=>cases hc;rw [hi1,← hbq];exact .v rfl
      |n+2=>simp at hc
theorem ve_entryStore (hS:Wf S) (hw:Want ops o S) {s v:Operand} (ho:o.op=.entryStore t x s v) {q:IntKind} {n:Int}
    (hx:ev S x=.mp id) (hm:S.h id=some (.map es)) (hs:ev S s=.v (.int q n)) {u:Value} (hv:(ev S v).toV=some u) (h0:0≤n) (hn:n.toNat < es.length) :
    VE A P ops o { av:=.junk,hw:=[(id,some (.map (es.set n.toNat ((es.getD n.toNat (undef,undef)).1,u))))],hr:=[id],n:=S.n } S:=by
  refine VE.setObj hS hw (by simp [ho]) hm (by simp) (by simp [AObj.ids]) fun F S2 a w ρ own hag H hm2=>?_
  have h1:=ev_rel H x
  rw [hag.ev (x:=x) (by simp [ho,Op.operands]),hx] at h1
  have h2:=ev_rel H s
  rw [hag.ev (x:=s) (by simp [ho,Op.operands]),hs] at h2
  have h2:=(isBool_inv h2).1
  have h3:=toV_rel (by rw [hag.ev (x:=v) (by simp [ho,Op.operands])];exact hv) (ev_rel H v)
  obtain ⟨b,entries,clock,hρ,hb,hes,hborn,hck,hsz⟩:=map_at H hm2
  have h1':a.eval x=.map (some b):=by
    generalize a.eval x=v at h1
    cases h1 with|mp e1 _=>rw [← e1,hρ]
  have ext:∀ o',Ext (fun b'=>blk (ρ id)=some b') w { w with heap:=w.heap.setIfInBounds b o' }:=fun o' =>
    ⟨rfl,rfl,rfl,by simp,fun k _ hn=>(MapKept.heap_set (o':=o') hb).2 k fun e=>hn (by rw [hρ,e];rfl)⟩
  obtain ⟨m,rfl⟩:∃ m:Nat,n=m:=⟨n.toNat,by omega⟩
  have hn:m < es.length:=hn
  have hms:m < entries.size:=by rw [← hes] at hn;simpa using hn
  have hf:entries.findIdx? (fun e=>((e.born:Int) == (m:Int)))=some m:=by
    rw [Array.findIdx?_eq_some_iff_getElem]
    refine ⟨hms, ?_,fun j hj=>?_⟩
    · have:=hborn m entries[m] (by simp [hms])
      simp [this]
    · have:=hborn j entries[j] (by simp [show j < entries.size by omega])
      simp [this];omega
  refine ⟨_,by simp [execOp,ho,h1',h2,h3,Instr.entryStore,MapKept.run_getObj_map hb,Go.asInt,asIntOf,hf,MapKept.run_setObj_map _ hb,Result.andThen];rfl,ext _, ?_⟩
  rw [hρ]
  refine .map (MapKept.heap_set hb).1 ?_ (born_modify hborn fun _=>rfl) (by simpa using hck) (by simpa using hsz)
  rw [← hes]
  refine List.ext_getElem? fun l=>?_
  simp only [Array.toList_modify,List.getElem?_map,List.getElem?_modify,List.getElem?_set,List.length_map,Array.length_toList]
  by_cases hnm:m=l
  · subst hnm;simp [hms]
  · simp [hnm]
end maps
end Go.Sym
namespace Go.Sym
open Go
variable {A : Frm → Prop} {P : Program}
section arrs
variable {ops : Array Oper} {o : Oper} {S : St}
theorem ve_slicePtr (hS:Wf S) (hw:Want ops o S) {t:TypeId} {x:Operand} {hi:Option Operand} (ho:o.op=.slice t x none hi none) {i j:TI} {m:Nat} {e:TypeId} (ht:TyFact P t i) (htd:i.td=.array m e) (hj:TyFact P e j) {id off:Nat} (hx:ev S x=.ptr id off)
    {h:Int} (hhi:(hi=none∧h=m)∨∃ z k,hi=some z∧ev S z=.v (.int k h)) (g0:0≤h) (g1:h≤m) (hm:m≤maxLen):VE A P ops o { av:=.psl id off h.toNat m,n:=S.n } S:=by
  obtain ⟨d,hd,hok⟩:=ht.under
  rw [htd] at hok
  simp only [TD.ok] at hok
  subst hok
  refine VE.val hw (by simp [ho]) (fun j hj=>ev_ids hS x j (by rw [hx];simpa [AV.ids] using hj)) fun F S2 a w ρ own hag H=>?_
  have h1:=ev_rel H x
  rw [hag.ev (x:=x) (by simp [ho,Op.operands]),hx] at h1
  generalize hv:a.eval x=v at h1
  cases h1 with
  |@ptr _ _ b e1 =>
    refine ⟨.slice (some ⟨b,off,none⟩) h.toNat m,w, ?_,Ext.none w,.psl e1 (by omega) hm⟩
    have hb:∀ kk:IntKind,(Instr.sliceBound (.int kk h) m .sliceAlen).run P w=.ok h.toNat w:=fun kk=>by simp [Instr.sliceBound,asIntOf,g0,g1]
    have hbs:(Instr.sliceBounds false m m none (hi.map a.eval) none).run P w=.ok (0,h.toNat,m) w:=by
      rcases hhi with ⟨rfl,rfl⟩|⟨z,k,rfl,ez⟩
      · simp [Instr.sliceBounds]
      · have h2:=ev_rel H z
        rw [hag.ev (x:=z) (by simp [ho,Op.operands]),ez] at h2
        simp [Instr.sliceBounds,(isBool_inv h2).1,hb]
    simp only [execOp,ho,hv,Instr.sliceAt,Instr.sureAddr,run_underlying hd,Sem.run_bind,Result.andThen_ok,Option.map_none,hbs,hj.run_sizeOf,Sem.run_pure,Nat.zero_mul,add_zero',ite_self,Nat.sub_zero]
theorem flat_one {ys:List (List DV)} (h:∀ r ∈ ys,r.length=1):ys.flatten.length=ys.length∧∀ (i:Nat) (d:DV),ys.flatten[i]?=some d→∃ r,ys[i]?=some r∧r[0]?=some d:=by
  induction ys with
  |nil=>simp
  |cons r ys ih =>
    obtain ⟨g1,g2⟩:=ih fun r hr=>h r (List.mem_cons_of_mem _ hr)
    have hr:=h r List.mem_cons_self
    match r,hr with
    |[d0],_ =>
      refine ⟨by simp [g1],fun i d hd=>?_⟩
      cases i with
      |zero=>simp only [List.flatten_cons,List.singleton_append,List.getElem?_cons_zero,Option.some.injEq] at hd;subst hd;exact ⟨_,rfl,rfl⟩
      |succ i=>simpa using g2 i d (by simpa using hd)
theorem ve_copyPsl (hS:Wf S) (hw:Want ops o S) {t t' e:TypeId} {x y:Operand} (ho:o.op=.call { callee:=.builtin .copy,args:=#[x,y],argTypes:=#[t,t'] }) {i j:TI} (ht:TyFact P t i) (htd:i.td=.slice e) (hj:TyFact P e j) (hk:j.cells=1) {id off n c:Nat} {cs:List AV} {ys:List (List DV)} {hr:List Nat}
    (hx:ev S x=.psl id off n c) (hc:S.h id=some (.cells cs)) (hfit:off+n≤cs.length) (hyl:∀ r ∈ ys,r.length=1) (hyn:0 < ys.length)
    (hsrc:∀ F S2 a w ρ own,Holds F S2 a w ρ own→(∀ id ∈ hr,S2.h id=S.h id)→∀ v,ARel w (okB w own ρ S2.h) ρ F.y (ev S y) v→∃ flat,Src w (okB w own ρ S2.h) 1 ys v flat) :
    VE A P ops o { av:=.v (.int .i64 (min ys.length n:Nat)),hw:=[(id,some (.cells (cs.take off++((ys.take (min ys.length n)).flatten).map DV.av++cs.drop (off+min ys.length n))))],hr:=id :: hr,n:=S.n } S:=by
  obtain ⟨d,hd,hok⟩:=ht.under
  rw [htd] at hok
  simp only [TD.ok] at hok
  subst hok
  generalize hm:min ys.length n=m
  have hmn:m≤n:=by omega
  have hmy:m≤ys.length:=by omega
  obtain ⟨f1,f2⟩:=flat_one (ys:=ys.take m) fun r hr=>hyl r (List.mem_of_mem_take hr)
  have hdl:(((ys.take m).flatten).map DV.av).length=m:=by rw [List.length_map,f1,List.length_take];omega
  generalize hds:((ys.take m).flatten).map DV.av=ds at hdl
  have hfx:off+ds.length≤cs.length:=by omega
  have e1:cs.take off++ds++cs.drop (off+m)=cs.take off++ds++cs.drop (off+ds.length):=by rw [hdl]
  rw [e1]
  refine VE.setVal rfl hS hw (by simp [ho]) hc (by simp) (fun i hi=>?_) fun F S2 a w ρ own hag H hob=>?_
  · simp only [AObj.ids] at hi
    obtain ⟨c',hc',hi⟩:=AV.mem_idsL.1 hi
    simp only [List.mem_append] at hc'
    have old:c' ∈ cs→i < S.n:=fun hc'=>Nat.lt_of_not_le fun hn=>(hS i hn).2.2.1 id _ hc (by simp only [AObj.ids];exact AV.mem_idsL.2 ⟨c',hc',hi⟩)
    rcases hc' with (hc'|hc')|hc'
    · exact old (List.mem_of_mem_take hc')
    · rw [← hds] at hc'
      obtain ⟨d,_,rfl⟩:=List.mem_map.1 hc'
      rw [DV.av_ids] at hi;cases hi
    · exact old (List.mem_of_mem_drop hc')
  have hxr:=ev_rel H x
  rw [hag.ev (x:=x) (by simp [ho,Op.operands,Call.operands]),hx] at hxr
  have hyr:=ev_rel H y
  rw [hag.ev (x:=y) (by simp [ho,Op.operands,Call.operands])] at hyr
  obtain ⟨flat,⟨ay,cy,hyv,hsl,hsm,hcell⟩,hfl,hone,hrel⟩:=hsrc F S2 a w ρ own H (fun id hid=>hag.2.1 id (by simp [hid])) _ hyr
  obtain ⟨ad,rfl,hcells⟩:=hcell hyn
  have h5:=H.obj id _ hob
  generalize hxv:a.eval x=v at hxr
  cases hxr with
  |@psl _ _ _ _ b q1 q2 q3 =>
    rw [q1] at h5 ⊢
    cases h5 with
    |@cells _ _ T vs g1 g2 g3 =>
      rw [Nat.mul_one] at hfl
      have hcl:(flat.take m).length=m:=by rw [List.length_take,hfl];omega
      have hfit':off+(flat.take m).length≤vs.toList.length:=by rw [hcl,Array.length_toList];omega
      have hsc:∀ q v,(flat.take m)[q]?=some v→w.cell? (ad.add q)=some v:=fun q v hq=>by
        rw [List.getElem?_take] at hq
        split at hq
        · exact hcells q v hq
        · cases hq
      have hrun:=run_copy_k (P:=P) (k:=1) (t':=t') (ty:=o.type) (fun w=>by rw [← hk];exact hj.run_sizeOf w) hd (q:=off) (dLen:=n) (dCap:=c) g1 (a:=ad) (sLen:=ys.length) (sCap:=cy) (cs:=flat.take m) (by rw [hcl,Nat.mul_one];exact hm.symm)
        hsc (by simpa using hfit') fun v hv=>hone v (List.mem_of_mem_take hv)
      refine ⟨w.setRow b (vs.toList.take off++flat.take m++vs.toList.drop (off+(flat.take m).length)).toArray, ?_,Ext.setRow w b _ rfl, ?_⟩
      · unfold execOp
        simp only [ho,resolve,invoke,builtin,Sem.run_bind,Sem.run_pure,Result.andThen_ok,List.map_toArray,List.map_cons,List.map_nil,hxv,hyv,hrun]
        rw [show Nat.min ys.length n=m from hm];rfl
      · refine .cells (setRow_heap w b vs _ T _ g1) ?_ fun p c' hc'=>?_
        · rw [splice_length hfx,List.size_toArray,splice_length hfit',Array.length_toList,g2]
        · rw [splice_get hfx] at hc'
          have hget:((vs.toList.take off++flat.take m++vs.toList.drop (off+(flat.take m).length)).toArray).getD p undef =
              if p < off then vs.getD p undef else if p < off+m then (flat.take m).getD (p - off) undef else vs.getD p undef:=by
            have e1:=splice_get (i:=p) hfit'
            rw [Array.getD_eq_getD_getElem?,List.getElem?_toArray,e1]
            simp only [hcl]
            split
            · simp [Array.getD_eq_getD_getElem?]
            · split <;> simp [Array.getD_eq_getD_getElem?,List.getD_eq_getElem?_getD]
          rw [hget]
          have hmono:∀ {c u},ARel w (okB w own ρ S2.h) ρ F.y c u→ARel (w.setRow b (vs.toList.take off++flat.take m++vs.toList.drop (off+(flat.take m).length)).toArray) (okB w own ρ S2.h) ρ F.y c u:=fun hr =>
            hr.mono (fun q hq=>⟨hq,setRow_other w b q _ (fun eq=>hq.2.2 id _ hob (by rw [q1];simp [blk,eq]))⟩) (fun _ _=>rfl)
          rw [hdl] at hc'
          split
          · rename_i hj;rw [if_pos hj] at hc';exact ⟨hmono (g3 p c' hc').1,(g3 p c' hc').2⟩
          · rename_i hj
            rw [if_neg hj] at hc'
            split
            · rename_i hj2
              rw [if_pos hj2,← hds,List.getElem?_map] at hc'
              obtain ⟨dd,hdd,rfl⟩:=Option.map_eq_some_iff.1 hc'
              obtain ⟨r,hr1,hr2⟩:=f2 _ _ hdd
              rw [List.getElem?_take] at hr1
              split at hr1
              · rename_i hlt
                obtain ⟨u,hu,hdu⟩:=hrel _ _ _ _ hr1 hr2
                rw [Nat.mul_one,Nat.add_zero] at hu
                have:(flat.take m).getD (p - off) undef=u:=by simp [List.getD_eq_getElem?_getD,List.getElem?_take,hlt,hu]
                rw [this]
                exact ⟨hmono (DRel.av hdu).1,(DRel.av (ρ:=ρ) (y:=F.y) hdu).2⟩
              · cases hr1
            · rename_i hj2;rw [if_neg hj2] at hc';exact ⟨hmono (g3 p c' hc').1,(g3 p c' hc').2⟩
theorem run_part {e:TypeId} {j:TI} (hj:TyFact P e j) {w:World} {ok:Nat→Prop} {ρ:Nat→Value} {y:Value} {cs:List AV} {vs:Array Value} (hs:vs.size=cs.length) (hr:∀ (i:Nat) (c:AV),cs[i]?=some c→ARel w ok ρ y c (vs.getD i undef)) {off:Nat}
    (hle:off+(bif j.td.agg then j.cells else 1)≤cs.length):∃ v,(part e vs off).run P w=.ok v w∧ARel w ok ρ y (loadAV j ((cs.drop off).take (bif j.td.agg then j.cells else 1))) v:=by
  cases hb:j.td.agg with
  |true =>
    rw [hb] at hle
    simp only [cond_true] at hle ⊢
    refine ⟨.agg (vs.extract off (off+j.cells)),by simp [part,hj.run_isAgg,hj.run_sizeOf,hb], ?_⟩
    simp only [loadAV,hb,cond_true]
    refine .agg (by simp;omega) fun i c hc=>?_
    rw [List.getElem?_take] at hc
    split at hc
    · rename_i hi
      rw [List.getElem?_drop] at hc
      have:=hr _ c hc
      have e:(vs.extract off (off+j.cells)).getD i undef=vs.getD (off+i) undef:=by
        simp only [Array.getD_eq_getD_getElem?,Array.getElem?_extract]
        rw [if_pos (by omega)]
      rw [e];exact this
    · cases hc
  |false =>
    rw [hb] at hle
    simp only [cond_false] at hle ⊢
    have hlt:off < vs.size:=by omega
    refine ⟨vs[off],by simp [part,hj.run_isAgg,hb,hlt], ?_⟩
    have h0:cs[off]?=some cs[off]:=List.getElem?_eq_getElem (by omega)
    have:=hr off _ h0
    simp only [loadAV,hb,cond_false]
    have e1:(cs.drop off).take 1=[cs[off]]:=by
      rw [List.drop_eq_getElem_cons (by omega)];rfl
    rw [e1,List.headD_cons]
    simpa [hlt] using this
theorem loadAV_ids {j:TI} {cs:List AV} {off n N:Nat} (h:∀ id ∈ AV.idsL cs,id < N):∀ id ∈ (loadAV j ((cs.drop off).take n)).ids,id < N:=by
  intro id hid
  simp only [loadAV] at hid
  cases hb:j.td.agg with
  |true =>
    rw [hb] at hid
    simp only [cond_true,AV.ids] at hid
    obtain ⟨c,hc,hid⟩:=AV.mem_idsL.1 hid
    exact h id (AV.mem_idsL.2 ⟨c,List.mem_of_mem_drop (List.mem_of_mem_take hc),hid⟩)
  |false =>
    rw [hb] at hid
    simp only [cond_false] at hid
    cases hl:(cs.drop off).take n with
    |nil=>rw [hl] at hid;simp [AV.ids] at hid
    |cons c r =>
      rw [hl,List.headD_cons] at hid
      exact h id (AV.mem_idsL.2 ⟨c,List.mem_of_mem_drop (List.mem_of_mem_take (by rw [hl];exact List.mem_cons_self)),hid⟩)
theorem ve_index (hS:Wf S) (hw:Want ops o S) {t e:TypeId} {x ix:Operand} (ho:o.op=.index t x ix) {i j:TI} {m:Nat} (ht:TyFact P t i) (htd:i.td=.array m e) (hj:TyFact P e j) {cs:List AV} (hx:ev S x=.agg cs) {k:IntKind} {n:Int} (hi:ev S ix=.v (.int k n))
    (g0:0≤n) (g1:n < m) (hle:n.toNat * j.cells+(bif j.td.agg then j.cells else 1)≤cs.length):VE A P ops o { av:=loadAV j ((cs.drop (n.toNat * j.cells)).take (bif j.td.agg then j.cells else 1)),n:=S.n } S:=by
  obtain ⟨d,hd,hok⟩:=ht.under
  rw [htd] at hok
  simp only [TD.ok] at hok
  subst hok
  refine VE.val hw (by simp [ho]) (loadAV_ids fun id hid=>ev_ids hS x id (by rw [hx];exact hid)) fun F S2 a w ρ own hag H=>?_
  have h1:=ev_rel H x
  rw [hag.ev (x:=x) (by simp [ho,Op.operands]),hx] at h1
  have h2:=ev_rel H ix
  rw [hag.ev (x:=ix) (by simp [ho,Op.operands]),hi] at h2
  have h2:=(isBool_inv h2).1
  generalize hv:a.eval x=v at h1
  cases h1 with
  |@agg _ vs hs hr =>
    obtain ⟨v,hv1,hv2⟩:=run_part hj hs hr hle
    refine ⟨v,w, ?_,Ext.none w,hv2⟩
    simp only [execOp,ho,hv,h2,Instr.index,asIntOf,run_underlying hd,Sem.run_bind,Sem.run_pure,Result.andThen_ok,if_pos (And.intro g0 g1),hj.run_sizeOf,hv1]
theorem ve_field (hS:Wf S) (hw:Want ops o S) {t:TypeId} {x:Operand} {f:Nat} (ho:o.op=.field t x f) {i j:TI} (ht:TyFact P t i) {fs:List (Nat × Nat × TypeId)} (htd:i.td=.struct fs) {p:Nat × Nat × TypeId} (hf:fs[f]?=some p) (hj:TyFact P p.2.2 j) {cs:List AV} (hx:ev S x=.agg cs)
    (hle:p.1+(bif j.td.agg then j.cells else 1)≤cs.length):VE A P ops o { av:=loadAV j ((cs.drop p.1).take (bif j.td.agg then j.cells else 1)),n:=S.n } S:=by
  obtain ⟨d,hd,hok⟩:=ht.under
  rw [htd] at hok
  obtain ⟨fields,rfl,hmap⟩:=hok
  obtain ⟨off,sz,ft⟩:=p
  have hfield:∃ fl,fields[f]?=some fl∧fl.offset=off∧fl.type=ft:=by
    have hf':=congrArg (Option.map fun p:Nat × Nat × TypeId=>(p.1,p.2.2)) hf
    rw [← List.getElem?_map,← hmap,List.getElem?_map] at hf'
    obtain ⟨fl,h1,h2⟩:=Option.map_eq_some_iff.1 hf'
    exact ⟨fl,by simpa using h1,(Prod.mk.inj h2).1,(Prod.mk.inj h2).2⟩
  obtain ⟨fl,hfl,rfl,rfl⟩:=hfield
  simp only at hj hle ⊢
  refine VE.val hw (by simp [ho]) (loadAV_ids fun id hid=>ev_ids hS x id (by rw [hx];exact hid)) fun F S2 a w ρ own hag H=>?_
  have h1:=ev_rel H x
  rw [hag.ev (x:=x) (by simp [ho,Op.operands]),hx] at h1
  generalize hv:a.eval x=v at h1
  cases h1 with
  |@agg _ vs hs hr =>
    obtain ⟨v,hv1,hv2⟩:=run_part hj hs hr hle
    refine ⟨v,w, ?_,Ext.none w,hv2⟩
    simp only [execOp,ho,hv,Instr.field,Go.asAgg,run_underlying hd,hfl,Sem.run_bind,Sem.run_pure,Result.andThen_ok,hv1]
theorem ve_buildArr (hS:Wf S) (hw:Want ops o S) {t e:TypeId} {parts:Array (Nat × Operand)} (ho:o.op=.build t parts) {i j:TI} {m:Nat} (ht:TyFact P t i) (htd:i.td=.array m e) (hj:TyFact P e j)
    {K:List AV→Prop} (h:fillA (placeN j.cells) K i.zero (parts.toList.map fun p=>(p.1,ev S p.2))):∃ cs,K cs∧VE A P ops o { av:=.agg cs,n:=S.n } S:=by
  obtain ⟨d,hd,hok⟩:=ht.under
  rw [htd] at hok
  simp only [TD.ok] at hok
  subst hok
  obtain ⟨out,hK,ho'⟩:=fillA_spec h
  obtain ⟨inf,z0,_,_,_,_,hz0,_,_⟩:=ht.info
  refine ⟨out,hK,VE.val hw (by simp [ho]) (fun id hid=>?_) fun F S2 a w ρ own hag H=>?_⟩
  · simp only [AV.ids] at hid
    obtain ⟨c,hc,hid⟩:=AV.mem_idsL.1 hid
    refine fillA_ids ho' (fun c hc id hid=>?_) (fun p hp id hid=>?_) c hc id hid
    · rw [← hz0] at hc
      obtain ⟨v,_,rfl⟩:=List.mem_map.1 hc
      rw [cAV1_ids] at hid;cases hid
    · obtain ⟨q,_,rfl⟩:=List.mem_map.1 hp
      exact ev_ids hS q.2 id hid
  · obtain ⟨z,hz,h1,h2,h3⟩:=ht.run_zero w
    have hp:=parts_rel (S:=S) H (parts:=parts) fun x hx=>hag.ev (x:=x) (by simp [ho,Op.operands];simpa using hx)
    obtain ⟨_,vout,rfl,g2,g3⟩:=fill_rel ho' hp.1 hp.2 (zero_crel h1 h3)
    refine ⟨.agg vout,w, ?_,Ext.none w,.agg g3.size fun i c hc=>(g3.rel i c hc).1⟩
    have g2':=g2
    unfold placeN at g2'
    simp only [execOp,ho,Instr.build,Sem.run_bind,hz,Result.andThen_ok,run_underlying hd,hj.run_sizeOf,g2',Sem.run_pure]
end arrs
end Go.Sym
namespace Go.Sym
open Go
set_option linter.all false
variable {P : Program} {A : Frm → Prop}
theorem row_take {w:World} {ok:Nat→Prop} {ρ:Nat→Value} {y:Value} {e:TypeId} {k:Nat} {xs:List (List DV)} {b n0 c n:Nat} (h:ORel w ok ρ y (.row e k xs) (.slice (some ⟨b,0,none⟩) n0 c)) (hc:0 < c) (hn:n≤xs.length):ORel w ok ρ y (.row e k (xs.take n)) (.slice (some ⟨b,0,none⟩) n c):=by
  cases h with
  |row r1 r2 r3 r4 =>
    rename_i flat
    have hl:(xs.take n).length=n:=by rw [List.length_take];omega
    have h3:w.ownsRow 0 e k (.slice (some ⟨b,0,none⟩) n0 c) xs.length flat:=by
      rcases r3 with h|⟨_,_,a,h⟩
      · exact h
      · simp only [Value.slice.injEq] at h;omega
    obtain ⟨g0,g1⟩:=h3
    have hle:n * k≤xs.length * k:=Nat.mul_le_mul_right _ hn
    refine .row (flat:=flat.take (n * k)) r1 (fun r hr=>r2 r (List.mem_of_mem_take hr)) (.inl ⟨?_, ?_⟩) fun i r j d hi hj=>?_
    · rw [List.length_take,hl];omega
    · rcases g1 with ⟨h,_⟩|⟨g,cap,cur,h1,h2,h3,h4,h5,h6,h7⟩
      · cases h
      · simp only [Value.slice.injEq,Option.some.injEq,Addr.mk.injEq] at h1
        obtain ⟨⟨rfl,_⟩,rfl,rfl⟩:=h1
        refine .inr ⟨_,_,cur,by rw [hl],h2,h3,by omega,h5,h6, ?_⟩
        rw [hl,← h7,List.take_take,Nat.min_eq_left hle]
    · have hin:i < n:=by
        have:=(List.getElem?_eq_some_iff.1 hi).1
        omega
      have hi':xs[i]?=some r:=by rw [List.getElem?_take_of_lt hin] at hi;exact hi
      have hjk:j < k:=by
        have:=(List.getElem?_eq_some_iff.1 hj).1
        rw [r2 r (List.mem_of_getElem? hi')] at this
        exact this
      obtain ⟨u,hu,hd⟩:=r4 i r j d hi' hj
      refine ⟨u, ?_,hd⟩
      rw [List.getElem?_take_of_lt]
      · exact hu
      · have:(i+1) * k≤n * k:=Nat.mul_le_mul_right _ (by omega)
        rw [Nat.succ_mul] at this
        omega
theorem ve_appendR {ops:Array Oper} {o:Oper} {S:St} (hS:Wf S) (hw:Want ops o S) {t e:TypeId} {x y:Operand} (ho:o.op=.call { callee:=.builtin .append,args:=#[x,y],argTypes:=#[t,t] }) {it i:TI} (ht:TyFact P t it) (htd:it.td=.slice e) (hi:TyFact P e i) (hk:0 < i.cells)
    {id n:Nat} {xs ys:List (List DV)} {hr:List Nat} (hx:ev S x=.rsl id i.cells 0 n) (hc:S.h id=some (.row e i.cells xs)) (hn:n≤xs.length)
    (hy:∀ F S2 a w ρ own,Holds F S2 a w ρ own→(∀ j ∈ hr,S2.h j=S.h j)→∀ v,ARel w (okB w own ρ S2.h) ρ F.y (ev S y) v→∃ flat,Src w (okB w own ρ S2.h) i.cells ys v flat)
    (hxl:∀ r ∈ xs.take n,r.length=i.cells) (hyl:∀ r ∈ ys,r.length=i.cells) (hb:((xs.take n).length+ys.length) * i.bytes≤140737488355328) (hm:(xs.take n).length+ys.length≤maxLen) :
    VE A P ops o { av:=.row S.n,hw:=deadW (some id)++[(S.n,some (.row e i.cells (xs.take n++ys)))],hr:=deadR (some id)++hr,news:=[S.n],n:=S.n+1 } S:=by
  obtain ⟨d,hd,hok⟩:=ht.under
  rw [htd] at hok
  simp only [TD.ok] at hok
  subst hok
  have hdead:∀ j,(some id:Option Nat)=some j→j ∈ deadR (some id)++hr∧∃ ob,S.h j=some ob:=by
    rintro j hj
    cases hj
    exact ⟨by simp [deadR],_,hc⟩
  refine VE.newRow hS hw (by simp [ho]) hdead fun F S2 a w ρ own hag H=>?_
  have h1:=ev_rel H x
  rw [hag.ev (x:=x) (by simp [ho,Op.operands,Call.operands]),hx] at h1
  have h2:=ev_rel H y
  rw [hag.ev (x:=y) (by simp [ho,Op.operands,Call.operands])] at h2
  obtain ⟨flat,hs⟩:=hy F S2 a w ρ own H (fun j hj=>hag.2.1 j (by simp [hj])) _ h2
  have hob:=H.obj id _ ((hag.2.1 id (by simp [deadR])).trans hc)
  have hdst:Dst w (okB w own ρ S2.h) e i.cells (xs.take n) (a.eval x)∧∀ b,blk (a.eval x)=some b→∃ j,(some id:Option Nat)=some j∧blk (ρ j)=some b:=by
    generalize a.eval x=v at h1
    cases h1 with
    |@rsl _ _ _ _ b c n0 e1 hlc =>
      rw [e1] at hob
      have hrow:=row_take (n:=n) hob hlc hn
      simp only [Nat.zero_mul,Nat.sub_zero]
      cases hrow with
      |row r1 r2 r3 r4=>exact ⟨⟨_,r3,r4⟩,fun b' hb'=>⟨id,rfl,by rw [e1];exact hb'⟩⟩
  obtain ⟨v',w',hrun,hxt,h1c,hbl,flat',hown',hrel'⟩:=run_append_sym (ty:=o.type) hd hi hk hxl hyl hdst.1 hs hb hm
  refine ⟨v',w', ?_,hxt.weaken fun b _ hb=>hdst.2 b hb,h1c, ?_,fun b hb'=>(hbl b hb').imp (fun h=>h) (hdst.2 b)⟩
  · unfold execOp
    simp only [ho,resolve,invoke,builtin,Sem.run_bind,Sem.run_pure,Result.andThen_ok,List.map_toArray,List.map_cons,List.map_nil,hrun]
  · refine .row hk (fun r hr'=>?_) hown' fun q r j d hq hj=>?_
    · rcases List.mem_append.1 hr' with h|h
      · exact hxl r h
      · exact hyl r h
    · obtain ⟨u,hu,hdu⟩:=hrel' q r j d hq hj
      refine ⟨u,hu,hdu.mono fun b hb'=>⟨hb',hxt.block b hb'.1 fun hbx=>?_⟩⟩
      obtain ⟨j',hj',hbj⟩:=hdst.2 b hbx
      obtain ⟨hmem,ob,hob⟩:=hdead j' hj'
      exact hb'.2.2 j' ob ((hag.2.1 j' hmem).trans hob) hbj
end Go.Sym
namespace Go.Sym
open Go
set_option linter.all false
variable {P : Program} {A : Frm → Prop}
theorem ve_clear {ops:Array Oper} {o:Oper} {S:St} (hS:Wf S) (hw:Want ops o S) {t e:TypeId} {x:Operand} (ho:o.op=.call { callee:=.builtin .clear,args:=#[x],argTypes:=#[t] }) {i j:TI} (ht:TyFact P t i) (htd:i.td=.slice e) (hj:TyFact P e j) (hk:0 < j.cells) {id lo n:Nat} {e':TypeId} {xs:List (List DV)}
    (hx:ev S x=.rsl id j.cells lo n) (hc:S.h id=some (.row e' j.cells xs)) (hfit:lo+n≤xs.length) (hn:0 < n) {ds:List DV} (hz:dvL j.zero=some ds) :
    VE A P ops o { av:=.junk,hw:=[(id,some (.row e' j.cells (xs.take lo++List.replicate n ds++xs.drop (lo+n))))],hr:=[id],n:=S.n } S:=by
  obtain ⟨d,hd,hok⟩:=ht.under
  rw [htd] at hok
  simp only [TD.ok] at hok
  subst hok
  refine VE.setRet (by simp [AV.ids]) hS hw (by simp [ho]) hc (by simp) (by simp [AObj.ids]) fun F S2 a w ρ own hag H hob=>?_
  have hxr:=ev_rel H x
  rw [hag.ev (x:=x) (by simp [ho,Op.operands,Call.operands])] at hxr
  obtain ⟨inf,z,hinf,_,_,hzi,z1,z2,z3⟩:=hj.info
  have hzv:∀ w,(zeroValue e).run P w=.ok z w:=fun w=>by simp [zeroValue,typeInfo,hinf,hzi]
  obtain ⟨g1,g2⟩:=dvL_get hz
  have hdl:ds.length=j.cells:=by rw [← g1,← z1];simpa using z2
  obtain ⟨flat,hflat⟩:∃ flat,(madeCells z.cells (n * j.cells)).toList=flat:=⟨_,rfl⟩
  have hflen:flat.length=n * j.cells:=by rw [← hflat,Array.length_toList,size_madeCells]
  have hget:∀ q,q < n * j.cells→∃ v,flat[q]?=some v∧z.cells[q % j.cells]?=some v:=fun q hq=>by
    obtain ⟨h1,h2⟩:=made_get z2 hq
    exact ⟨_,by rw [← hflat,Array.getElem?_toList,h1,Array.getElem?_eq_getElem h2],Array.getElem?_eq_getElem h2⟩
  have hone:∀ v ∈ flat,v.oneCell'=true:=fun v hv=>by
    obtain ⟨q,hq,rfl⟩:=List.mem_iff_getElem.1 hv
    obtain ⟨v,h1,h2⟩:=hget q (by rw [hflen] at hq;exact hq)
    rw [List.getElem?_eq_getElem hq] at h1
    rw [Option.some.inj h1]
    exact z3 v (by rw [← Array.getElem?_toList] at h2;exact List.mem_of_getElem? h2)
  have hrel:∀ (q:Nat) (r:List DV) (p:Nat) (dd:DV),(List.replicate n ds)[q]?=some r→r[p]?=some dd→∃ u,flat[q * j.cells+p]?=some u∧DRel w (okB w own ρ S2.h) dd u:=fun q r p dd hq hp=>by
    have hqn:=(List.getElem?_eq_some_iff.1 hq).1
    rw [List.length_replicate] at hqn
    rw [List.getElem?_replicate,if_pos hqn] at hq
    cases hq
    have hpl:p < j.cells:=by rw [← hdl];exact (List.getElem?_eq_some_iff.1 hp).1
    have hlt:q * j.cells+p < n * j.cells:=by
      have:(q+1) * j.cells≤n * j.cells:=Nat.mul_le_mul_right _ hqn
      rw [Nat.add_mul] at this;omega
    obtain ⟨v,h1,h2⟩:=hget _ hlt
    rw [show (q * j.cells+p) % j.cells=p by rw [Nat.add_comm,Nat.add_mul_mod_self_right,Nat.mod_eq_of_lt hpl]] at h2
    obtain ⟨c,hc,hcd⟩:=g2 p dd hp
    rw [← z1,List.getElem?_map] at hc
    obtain ⟨v',hv',rfl⟩:=Option.map_eq_some_iff.1 hc
    rw [Array.getElem?_toList,h2] at hv'
    cases hv'
    exact ⟨v,h1,dv_rel (ρ:=ρ) (y:=F.y) hcd (cAV1_rel v)⟩
  have h5:=H.obj id _ hob
  have hxv:∃ dc,(∃ n0 c,ρ id=.slice (some ⟨(blk (ρ id)).getD 0,0,none⟩) n0 c)∧a.eval x=.slice (some ⟨(blk (ρ id)).getD 0,lo * j.cells,none⟩) n dc:=by
    generalize a.eval x=v at hxr
    rw [hx] at hxr
    cases hxr with
    |@rsl _ _ _ _ b c n0 e1 hlc =>
      rw [e1]
      have:blk (.slice (some ⟨b,0,none⟩) n0 c)=some b:=by simp only [blk];rw [if_neg (by omega)]
      rw [this];exact ⟨c - lo,⟨_,_,rfl⟩,rfl⟩
  obtain ⟨dc,⟨n0,c,hρ⟩,hxv⟩:=hxv
  generalize hbb:(blk (ρ id)).getD 0=b at hρ hxv
  cases h5':ρ id with
  |slice aa nn0 cc =>
    rw [h5'] at hρ
    simp only [Value.slice.injEq] at hρ
    obtain ⟨rfl,rfl,rfl⟩:=hρ
    rw [h5'] at h5
    cases h5 with
    |row r1 r2 r3 r4 =>
      obtain ⟨hown,g,cap,cur,hge,hg,hnc,hcm,hcs,htk,hblk⟩:=ownsR_pos r3 (by omega)
      simp only [Value.slice.injEq,Option.some.injEq,Addr.mk.injEq,and_true] at hge
      obtain ⟨rfl,rfl,rfl⟩:=hge
      have hfl:(flat.take (n * j.cells))=flat:=List.take_of_length_le (by omega)
      have hkn:lo * j.cells+n * j.cells≤xs.length * j.cells:=by rw [← Nat.add_mul];exact Nat.mul_le_mul_right _ (by omega)
      have hkc:xs.length * j.cells≤cc * j.cells:=Nat.mul_le_mul_right _ hnc
      have hcl:(flat.take (n * j.cells)).length=n * j.cells:=by rw [List.length_take];omega
      have hfit':lo * j.cells+(flat.take (n * j.cells)).length≤cur.toList.length:=by rw [hcl,Array.length_toList,hcs];omega
      have hrun:=run_storeCells_at P b (lo * j.cells) e' (flat.take (n * j.cells)) 0 cur w hg (by rw [Nat.add_zero];simpa using hfit') (fun v hv=>hone v (List.mem_of_mem_take hv))
      simp only [Nat.add_zero] at hrun
      refine ⟨.tuple #[],w.setRow b (cur.toList.take (lo * j.cells)++flat.take (n * j.cells)++cur.toList.drop (lo * j.cells+(flat.take (n * j.cells)).length)).toArray, ?_,Ext.setRow w b _ hblk, ?_,fun _ _ _ _=>.junk⟩
      · unfold execOp
        simp only [ho,resolve,invoke,builtin,Sem.run_bind,Sem.run_pure,Result.andThen_ok,List.map_toArray,List.map_cons,List.map_nil,hxv]
        obtain ⟨n',rfl⟩:∃ n',n=n'+1:=⟨n - 1,by omega⟩
        have hzz:(Builtin.zeroCells z.cells (n'+1)).toList=flat:=by rw [← hflat,← z2];rfl
        rw [hfl] at hrun
        simp [Builtin.clear_,run_underlying hd,hzv,hzz,hrun,hfl]
      · try rw [h5']
        have hyt:(List.replicate n ds).length=n:=by simp
        have hfx:lo+(List.replicate n ds).length≤xs.length:=by omega
        have e1:xs.take lo++List.replicate n ds++xs.drop (lo+n)=xs.take lo++List.replicate n ds++xs.drop (lo+(List.replicate n ds).length):=by rw [hyt]
        rw [e1]
        have hlen':=splice_length (new:=List.replicate n ds) hfx
        have hcl2:cur.toList.length=cc * j.cells:=by rw [Array.length_toList (xs:=cur),hcs]
        have hmono:∀ {d u},DRel w (okB w own ρ S2.h) d u→DRel (w.setRow b (cur.toList.take (lo * j.cells)++flat.take (n * j.cells)++cur.toList.drop (lo * j.cells+(flat.take (n * j.cells)).length)).toArray) (okB w own ρ S2.h) d u:=fun hr =>
          hr.mono fun q hq=>⟨hq,setRow_other w b q _ (fun eq=>hq.2.2 id _ hob (by rw [h5',hblk,eq]))⟩
        refine .row (flat:=(cur.toList.take (lo * j.cells)++flat.take (n * j.cells)++cur.toList.drop (lo * j.cells+(flat.take (n * j.cells)).length)).take (xs.length * j.cells)) hk (fun r hr=>?_) (.inl ⟨?_,.inr ⟨b,cc,_,by rw [hlen'],Nat.zero_le _,setRow_heap w b cur _ _ _ hg,by rw [hlen'];exact hnc,hcm, ?_, ?_⟩⟩) fun q r p dd hq hp=>?_
        · simp only [List.mem_append] at hr
          rcases hr with (hr|hr)|hr
          · exact r2 r (List.mem_of_mem_take hr)
          · rw [List.eq_of_mem_replicate hr,hdl]
          · exact r2 r (List.mem_of_mem_drop hr)
        · rw [hlen',List.length_take,splice_length hfit',hcl2];omega
        · rw [List.size_toArray,splice_length hfit',hcl2]
        · rw [hlen']
        · have hpk:p < j.cells:=by
            have:=(List.getElem?_eq_some_iff.1 hp).1
            rw [splice_get hfx] at hq
            split at hq
            · rw [r2 r (List.mem_of_getElem? hq)] at this;exact this
            · split at hq
              · rw [List.eq_of_mem_replicate (List.mem_of_getElem? hq),hdl] at this;exact this
              · rw [r2 r (List.mem_of_getElem? hq)] at this;exact this
          have hql:q < xs.length:=by have:=(List.getElem?_eq_some_iff.1 hq).1;rwa [hlen'] at this
          have hqk:(q+1) * j.cells≤xs.length * j.cells:=Nat.mul_le_mul_right _ hql
          rw [Nat.add_mul] at hqk
          have old:xs[q]?=some r→∃ u,cur.toList[q * j.cells+p]?=some u∧DRel w (okB w own ρ S2.h) dd u:=fun hq=>by
            obtain ⟨u,hu,hdu⟩:=r4 q r p dd hq hp
            rw [← htk,List.getElem?_take,if_pos (by omega)] at hu
            exact ⟨u,hu,hdu⟩
          rw [splice_get hfx,hyt] at hq
          rw [List.getElem?_take,if_pos (by omega),splice_get hfit']
          by_cases h1:q < lo
          · rw [if_pos h1] at hq
            have:(q+1) * j.cells≤lo * j.cells:=Nat.mul_le_mul_right _ h1
            rw [Nat.add_mul] at this
            rw [if_pos (by omega)]
            obtain ⟨u,hu,hdu⟩:=old hq
            exact ⟨u,hu,hmono hdu⟩
          · rw [if_neg h1] at hq
            have g1:lo * j.cells≤q * j.cells:=Nat.mul_le_mul_right _ (by omega)
            rw [if_neg (by omega)]
            by_cases h2:q < lo+n
            · rw [if_pos h2] at hq
              have:(q+1) * j.cells≤(lo+n) * j.cells:=Nat.mul_le_mul_right _ h2
              rw [Nat.add_mul,Nat.add_mul] at this
              rw [if_pos (by omega)]
              obtain ⟨u,hu,hdu⟩:=hrel _ _ _ _ hq hp
              have e2:q * j.cells+p - lo * j.cells=(q - lo) * j.cells+p:=by
                have:q * j.cells=(q - lo) * j.cells+lo * j.cells:=by rw [← Nat.add_mul];congr 1;omega
                omega
              have e3:(q - lo+1) * j.cells≤n * j.cells:=Nat.mul_le_mul_right _ (by omega)
              rw [Nat.add_mul] at e3
              exact ⟨u,by rw [e2,List.getElem?_take,if_pos (by omega)];exact hu,hmono hdu⟩
            · rw [if_neg h2] at hq
              have:(lo+n) * j.cells≤q * j.cells:=Nat.mul_le_mul_right _ (by omega)
              rw [Nat.add_mul] at this
              rw [if_neg (by omega)]
              obtain ⟨u,hu,hdu⟩:=old hq
              exact ⟨u,hu,hmono hdu⟩
  |_=>rw [h5'] at hρ;cases hρ
end Go.Sym
namespace Go.Sym
open Go
variable {A : Frm → Prop} {P : Program}
theorem VE.newOb {ops:Array Oper} {o:Oper} {S:St} {ob':AObj} {dead:Option Nat} {hr:List Nat} (hS:Wf S) (hw:Want ops o S) (hd:∀ c,o.op ≠ .defer c)
    (hids:∀ i ∈ ob'.ids,i < S.n) (hdead:∀ i,dead=some i→i ∈ hr∧∃ ob,S.h i=some ob)
    (h:∀ F S2 a w ρ own,Agree ops o { av:=.row S.n,hw:=deadW dead++[(S.n,some ob')],hr:=hr,news:=[S.n],n:=S.n+1 } S S2→Holds F S2 a w ρ own →
      ∃ v' w',(execOp a.eval o).run P w=.ok (.value v') w'∧Ext (fun b=>∃ i,dead=some i∧blk (ρ i)=some b) w w'∧v'.oneCell'=true∧ORel w' (okB w own ρ S2.h) ρ F.y ob' v' ∧
        ∀ b,blk v'=some b→w.heap.size≤b∨∃ i,dead=some i∧blk (ρ i)=some b) :
    VE A P ops o { av:=.row S.n,hw:=deadW dead++[(S.n,some ob')],hr:=hr,news:=[S.n],n:=S.n+1 } S:=by
  have hdlt:∀ i,dead=some i→i < S.n:=fun i hi=>Nat.lt_of_not_le fun hn=>by
    obtain ⟨_,ob,hob⟩:=hdead i hi
    have:=(hS i hn).1;rw [hob] at this;cases this
  have hI:∀ id ∈ Eff.ids { av:=.row S.n,hw:=deadW dead++[(S.n,some ob')],hr:=hr,news:=[S.n],n:=S.n+1 },id < S.n+1:=by
    intro id hid
    cases dead with
    |none =>
      simp [Eff.ids,AV.ids,hwIds,deadW] at hid
      rcases hid with rfl|hid
      · omega
      · have:=hids id hid;omega
    |some i =>
      have:=hdlt i rfl
      simp [Eff.ids,AV.ids,hwIds,deadW] at hid
      rcases hid with rfl|rfl|rfl|hid
      · omega
      · omega
      · omega
      · have:=hids id hid;omega
  have hkeys:∀ i,i ∈ Eff.keys { av:=.row S.n,hw:=deadW dead++[(S.n,some ob')],hr:=hr,news:=[S.n],n:=S.n+1 } ↔ dead=some i∨i=S.n:=by
    intro i
    cases dead <;> simp [Eff.keys,deadW,eq_comm]
  have hupdn:∀ (hp:Nat→Option AObj),hupd hp (deadW dead++[(S.n,some ob')]) S.n=some ob':=fun hp=>by
    cases dead <;> simp [deadW,hupd,upd_same]
  have hupdd:∀ (hp:Nat→Option AObj) i,dead=some i→hupd hp (deadW dead++[(S.n,some ob')]) i=none:=fun hp i hi=>by
    have hlt:=hdlt i hi
    subst hi
    simp [deadW,hupd,upd,Nat.ne_of_lt hlt]
  refine ⟨fun F hF hds S2 a w hag hfr ⟨ρ,own,H⟩=>?_,hI,by simp⟩
  rw [want_true hw hag H,if_pos rfl]
  obtain ⟨v',w',hrun,hx,h1,horel,hblk⟩:=h F S2 a w ρ own hag H
  refine wpIn_value hd hrun (gam_value (ρ':=upd ρ S.n v') (own':=own) ?_)
  have hdob:∀ i,dead=some i→∃ ob,S2.h i=some ob:=fun i hi=>by
    obtain ⟨hm,ob,hob⟩:=hdead i hi
    exact ⟨ob,(hag.2.1 i hm).trans hob⟩
  have hno:∀ b i,dead=some i→own.all b→blk (ρ i) ≠ some b:=fun b i hi ho hb=>by
    obtain ⟨ob,hob⟩:=hdob i hi
    exact (H.blkOK i ob b hob hb).1 ho
  have hj:F.J S2.j own w':=(F.stable _ _ _ H.jay).2 _ (hx.weaken fun b _ ⟨i,hi,hb⟩ ho=>hno b i hi ho hb)
  have hok:∀ b,okB w own ρ S2.h b→okB w' own (upd ρ S.n v') (hupd S2.h (deadW dead++[(S.n,some ob')])) b∧w'.heap[b]?=w'.heap[b]?:=by
    rintro b ⟨g1,g2,g3⟩
    refine ⟨⟨Nat.lt_of_lt_of_le g1 hx.size,g2,fun i ob hi hb=>?_⟩,rfl⟩
    by_cases hin:i=S.n
    · subst hin
      rw [upd_same] at hb
      rcases hblk b hb with h|⟨i,hi',hb'⟩
      · omega
      · obtain ⟨ob',hob'⟩:=hdob i hi'
        exact g3 i ob' hob' hb'
    · by_cases hid:dead=some i
      · rw [hupdd _ i hid] at hi;cases hi
      · rw [hupd_not (by rw [show List.map (fun x=>x.1) (deadW dead++[(S.n,some ob')])=Eff.keys { av:=.row S.n,hw:=deadW dead++[(S.n,some ob')],hr:=hr,news:=[S.n],n:=S.n+1 } from rfl,hkeys];rintro (h|h);exact hid h;exact hin h)] at hi
        rw [upd_ne _ _ _ _ hin] at hb
        exact g3 i ob hi hb
  refine H.app (dst_lt hds) hj (hx.weaken fun b _ ⟨i,hi,hb⟩=>.inr (by obtain ⟨ob,hob⟩:=hdob i hi;exact ⟨i,ob,(hkeys i).2 (.inl hi),hob,hb⟩)) (.inl rfl) (fun i hi=>(hkeys i).2 (.inr (by simpa using hi))) (fun i hi=>upd_ne _ _ _ _ (by simpa using hi)) (by simpa using hfr)
    (.row (upd_same _ _ _) h1) ?_ ?_ ?_ .nil
  · intro i ob hi hob
    rcases (hkeys i).1 hi with hi|rfl
    · rw [hupdd _ i hi] at hob;cases hob
    · rw [hupdn] at hob
      cases hob
      rw [upd_same]
      refine ⟨horel.mono hok (fun _ _=>rfl) (fun id hid=>upd_ne _ _ _ _ (Nat.ne_of_lt (hids id hid))),fun b hb=>?_⟩
      rcases hblk b hb with h|⟨i,hi,hb'⟩
      · exact ⟨fun ho=>by have:=(F.stable _ _ _ H.jay).1 _ ho;omega,.inl h⟩
      · obtain ⟨ob',hob'⟩:=hdob i hi
        exact ⟨fun ho=>hno b i hi ho hb',.inr ⟨i,ob',(hkeys i).2 (.inl hi),hob',hb'⟩⟩
  · intro i q o1 o2 b hi hq ho1 ho2 _ _
    rcases (hkeys i).1 hi with hi|rfl
    · rw [hupdd _ i hi] at ho1;cases ho1
    · rcases (hkeys q).1 hq with hq|rfl
      · rw [hupdd _ q hq] at ho2;cases ho2
      · rfl
  · intro id hid
    exact Nat.lt_of_lt_of_le (hI id hid) (Nat.le_max_right _ _)
theorem rows_ids {S:St} (hS:Wf S) {id:Nat} {e:TypeId} {cs:List AV} (h:S.h id=some (.rows e cs)):∀ c ∈ cs,∀ i ∈ c.ids,i < S.n:=fun c hc i hi=>Nat.lt_of_not_le fun hn =>
  (hS i hn).2.2.1 id _ h (by simp only [AObj.ids];exact AV.mem_idsL.2 ⟨c,hc,hi⟩)
def opq (l:List Value):List (List DV):=l.map fun u=>[.v u]
theorem opq_rel {w:World} {ok:Nat→Prop} {l:List Value} (h:∀ (i:Nat) u,l[i]?=some u→u.oneCell'=true) :
    ∀ (i:Nat) (r:List DV) (j:Nat) (d:DV),(opq l)[i]?=some r→r[j]?=some d→∃ u,l[i * 1+j]?=some u∧DRel w ok d u:=by
  intro i r j d hi hj
  simp only [opq,List.getElem?_map] at hi
  obtain ⟨u,hu,rfl⟩:=Option.map_eq_some_iff.1 hi
  cases j with
  |succ j=>simp at hj
  |zero =>
    simp only [List.getElem?_cons_zero,Option.some.injEq] at hj
    subst hj
    exact ⟨u,by simpa using hu,.v (h i u hu)⟩
theorem opq_len (l:List Value):∀ r ∈ opq l,r.length=1:=fun r hr=>by
  simp only [opq,List.mem_map] at hr
  obtain ⟨_,_,rfl⟩:=hr
  rfl
theorem rows_at {w:World} {ok:Nat→Prop} {ρ:Nat→Value} {y:Value} {e:TypeId} {cs:List AV} {x:Value} (h:ORel w ok ρ y (.rows e cs) x) :
    ∃ flat,ownsR w e 1 x cs.length flat∧flat.length=cs.length∧(∀ (i:Nat) u,flat[i]?=some u→u.oneCell'=true)∧∀ (i:Nat) (c:AV),cs[i]?=some c→∃ u,flat[i]?=some u∧ARel w ok ρ y c u:=by
  cases h with
  |@rows _ _ _ flat h3 h4 =>
    have hl:flat.length=cs.length:=by
      rcases h3 with h3|⟨h0,rfl,_⟩
      · simpa using h3.1
      · simp [h0]
    refine ⟨flat,h3,hl,fun i u hu=>?_,fun i c hc=>let ⟨u,hu,hr,_⟩:=h4 i c hc;⟨u,hu,hr⟩⟩
    have hi:i < cs.length:=by have:=(List.getElem?_eq_some_iff.1 hu).1;omega
    obtain ⟨u',hu',_,h1⟩:=h4 i _ (List.getElem?_eq_getElem hi)
    rw [hu] at hu'
    cases hu'
    exact h1
def dstW (S:St) (e:TypeId):AV→Prop × List AV × Option Nat
  |.nil=>(True,[],none)
  |.emp=>(True,[],none)
  |.row id=>match S.h id with
    |some (.rows e' cs)=>(e'=e,cs,some id)
    |_=>(False,[],none)
  |_=>(False,[],none)
def srcW (S:St):AV→Option (Nat × List AV)
  |.row id=>match S.h id with
    |some (.rows _ cs)=>some (id,cs)
    |_=>none
  |_=>none
theorem srcW_spec {S:St} {c:AV} {p:Nat × List AV} (h:srcW S c=some p):c=.row p.1∧∃ e,S.h p.1=some (.rows e p.2):=by
  cases c <;> simp only [srcW] at h <;> first|(cases h;done)|skip
  split at h
  · rename_i e cs hc;cases h;exact ⟨rfl,e,hc⟩
  · cases h
def notW (d:Option Nat) (i:Nat):Prop:=match d with
  |some d=>d ≠ i
  |none=>True
theorem dstW_ids {S:St} (hS:Wf S) {e:TypeId} {c:AV} (h:(dstW S e c).1):(∀ d ∈ (dstW S e c).2.1,∀ i ∈ d.ids,i < S.n)∧∀ j,(dstW S e c).2.2=some j→∃ ob,S.h j=some ob:=by
  cases c <;> simp only [dstW] at h ⊢ <;> first|exact h.elim|skip
  · exact ⟨by simp,by simp⟩
  · exact ⟨by simp,by simp⟩
  · split at h
    · rename_i e' cs hc
      simp only [hc]
      exact ⟨fun d hd i hi=>rows_ids hS hc d hd i hi,fun j hj=>by cases hj;exact ⟨_,hc⟩⟩
    · exact h.elim
theorem dstW_at {F:Frm} {S S2:St} {a:Act} {w:World} {ρ:Nat→Value} {own:Own} (H:Holds F S2 a w ρ own) {e:TypeId} {c:AV} {v:Value} (h:(dstW S e c).1)
    (hag:∀ id,(dstW S e c).2.2=some id→S2.h id=S.h id) (hr:ARel w (okB w own ρ S2.h) ρ F.y c v) :
    ∃ f1,ownsR w e 1 v (dstW S e c).2.1.length f1∧f1.length=(dstW S e c).2.1.length∧(∀ (i:Nat) u,f1[i]?=some u→u.oneCell'=true) ∧
      (∀ (i:Nat) d,(dstW S e c).2.1[i]?=some d→∃ u,f1[i]?=some u∧ARel w (okB w own ρ S2.h) ρ F.y d u)∧∀ b,blk v=some b→∃ j,(dstW S e c).2.2=some j∧blk (ρ j)=some b:=by
  cases c <;> simp only [dstW] at h hag ⊢ <;> first|exact h.elim|skip
  · cases hr;exact ⟨[],.inl (World.ownsRow_nil _ _ _ _),rfl,by simp,by simp,by simp [blk]⟩
  · cases hr with|@emp q=>exact ⟨[],.inr ⟨rfl,rfl,q,rfl⟩,rfl,by simp,by simp,by cases q <;> simp [blk]⟩
  · rename_i id
    split at h
    · rename_i e' cs hc
      subst h
      simp only [hc] at hag ⊢
      have hob:=H.obj id _ ((hag id rfl).trans hc)
      cases hr with
      |row e1 _ =>
        rw [e1] at hob
        obtain ⟨flat,g1,g2,g3,g4⟩:=rows_at hob
        exact ⟨flat,g1,g2,g3,g4,fun b hb=>⟨id,rfl,by rw [e1];exact hb⟩⟩
    · exact h.elim
section
variable {ops : Array Oper} {o : Oper} {S : St}
theorem ve_appendW (hS:Wf S) (hw:Want ops o S) {t e:TypeId} {x y:Operand} (ho:o.op=.call { callee:=.builtin .append,args:=#[x,y],argTypes:=#[t,t] }) {it i:TI} (ht:TyFact P t it) (htd:it.td=.slice e) (hi:TyFact P e i) (hk:i.cells=1)
    (hx:(dstW S e (ev S x)).1) {id2:Nat} {e2:TypeId} {ds:List AV} (hy:ev S y=.row id2) (hh:S.h id2=some (.rows e2 ds)) (hne:notW (dstW S e (ev S x)).2.2 id2)
    (hb:((dstW S e (ev S x)).2.1.length+ds.length) * i.bytes≤140737488355328) (hm:(dstW S e (ev S x)).2.1.length+ds.length≤maxLen) :
    VE A P ops o { av:=.row S.n,hw:=deadW (dstW S e (ev S x)).2.2++[(S.n,some (.rows e ((dstW S e (ev S x)).2.1++ds)))],hr:=deadR (dstW S e (ev S x)).2.2++[id2],news:=[S.n],n:=S.n+1 } S:=by
  obtain ⟨d,hd,hok⟩:=ht.under
  rw [htd] at hok
  simp only [TD.ok] at hok
  subst hok
  obtain ⟨g1,g2⟩:=dstW_ids hS hx
  have hdead:∀ j,(dstW S e (ev S x)).2.2=some j→j ∈ deadR (dstW S e (ev S x)).2.2++[id2]∧∃ ob,S.h j=some ob:=fun j hj=>⟨by rw [hj];simp [deadR],g2 j hj⟩
  refine VE.newOb hS hw (by simp [ho]) (fun i hi=>?_) hdead fun F S2 a w ρ own hag H=>?_
  · simp only [AObj.ids] at hi
    obtain ⟨c,hc,hi⟩:=AV.mem_idsL.1 hi
    rcases List.mem_append.1 hc with hc|hc
    · exact g1 c hc i hi
    · exact rows_ids hS hh c hc i hi
  have h1:=ev_rel H x
  rw [hag.ev (x:=x) (by simp [ho,Op.operands,Call.operands])] at h1
  have h2:=ev_rel H y
  rw [hag.ev (x:=y) (by simp [ho,Op.operands,Call.operands]),hy] at h2
  obtain ⟨f1,p1,p2,p3,p4,p5⟩:=dstW_at H hx (fun id hid=>hag.2.1 id (by rw [hid];simp [deadR])) h1
  have hob:=H.obj id2 _ ((hag.2.1 id2 (by simp)).trans hh)
  generalize hvy:a.eval y=vy at h2
  cases h2 with
  |row e1 _ =>
    rw [e1] at hob
    obtain ⟨f2,q1,q2,q3,q4⟩:=rows_at hob
    have hrow:ORel w (okB w own ρ S2.h) ρ F.y (.row e2 1 (opq f2)) vy:=.row (by omega) (opq_len f2) (by simpa [opq,q2] using q1) (opq_rel q3)
    obtain ⟨flat,hs⟩:=src_row hrow
    have hdst:Dst w (okB w own ρ S2.h) e 1 (opq f1) (a.eval x):=⟨f1,by simpa [opq,p2] using p1,opq_rel p3⟩
    rw [← hk] at hs hdst
    have hl1:(opq f1).length=(dstW S e (ev S x)).2.1.length:=by simp [opq,p2]
    have hl2:(opq f2).length=ds.length:=by simp [opq,q2]
    obtain ⟨v',w',hrun,hxt,h1c,hbl,flat',hown',hrel'⟩:=run_append_sym (ty:=o.type) hd hi (by omega) (fun r hr=>by rw [hk];exact opq_len f1 r hr) (fun r hr=>by rw [hk];exact opq_len f2 r hr) hdst hs (by rw [hl1,hl2];exact hb) (by rw [hl1,hl2];exact hm)
    rw [hk] at hown' hrel'
    refine ⟨v',w', ?_,hxt.weaken fun b _ hb=>p5 b hb,h1c, ?_,fun b hb'=>(hbl b hb').imp id (p5 b)⟩
    · unfold execOp
      simp only [ho,resolve,invoke,builtin,Sem.run_bind,Sem.run_pure,Result.andThen_ok,List.map_toArray,List.map_cons,List.map_nil,hvy,hrun]
    · refine .rows (flat:=flat') (by rw [List.length_append,← hl1,← hl2,← List.length_append];exact hown') fun q c hq=>?_
      have key:∃ u,(opq f1++opq f2)[q]?=some [.v u]∧ARel w (okB w own ρ S2.h) ρ F.y c u:=by
        by_cases hlt:q < (dstW S e (ev S x)).2.1.length
        · rw [List.getElem?_append_left hlt] at hq
          obtain ⟨u,hu,hr⟩:=p4 q c hq
          exact ⟨u,by rw [List.getElem?_append_left (by omega)];simp [opq,hu],hr⟩
        · rw [List.getElem?_append_right (by omega)] at hq
          obtain ⟨u,hu,hr⟩:=q4 _ c hq
          exact ⟨u,by rw [List.getElem?_append_right (by omega),hl1];simp [opq,hu],hr⟩
      obtain ⟨u,hu,hr⟩:=key
      obtain ⟨u',hu',hd'⟩:=hrel' q _ 0 _ hu rfl
      cases hd' with
      |v h1 =>
        refine ⟨u,by simpa using hu',hr.mono (fun b hb'=>⟨hb',hxt.block b hb'.1 fun hbx=>?_⟩) (fun _ _=>rfl),h1⟩
        obtain ⟨j',hj',hbj⟩:=p5 b hbx
        obtain ⟨hmem,ob,hob⟩:=hdead j' hj'
        exact hb'.2.2 j' ob ((hag.2.1 j' hmem).trans hob) hbj
theorem ve_buildW (hS:Wf S) (hw:Want ops o S) {t e:TypeId} {n:Nat} {parts:Array (Nat × Operand)} (ho:o.op=.buildSlice t n parts) {i j:TI} (ht:TyFact P t i) (htd:i.td=.slice e) (hj:TyFact P e j) (hk:j.cells=1) (hn:0 < n) (hmax:n≤16777216)
    {out:List AV} (h:fillA (placeN 1) (fun cs=>cs=out) (zeros j.zero n) (parts.toList.map fun p=>(p.1,ev S p.2))) :
    VE A P ops o { av:=.row S.n,hw:=deadW none++[(S.n,some (.rows e out))],hr:=[],news:=[S.n],n:=S.n+1 } S:=by
  obtain ⟨d,hd,hok⟩:=ht.under
  rw [htd] at hok
  simp only [TD.ok] at hok
  subst hok
  obtain ⟨inf,z0,_,_,_,_,hz0,hzs0,_⟩:=hj.info
  have hzl:j.zero.length=1:=by rw [← hz0];simpa [hk] using hzs0
  have hol0:out.length=n:=by rw [fillA_length h,zeros_length,hzl,Nat.mul_one]
  have hcid:∀ c ∈ out,∀ id ∈ c.ids,id < S.n:=by
    refine fillA_ids h (fun c hc id hid=>?_) (fun p hp id hid=>?_)
    · obtain ⟨q,hq⟩:=List.mem_iff_getElem?.1 hc
      have hlt:q < n * j.zero.length:=by have:=(List.getElem?_eq_some_iff.1 hq).1;rwa [zeros_length] at this
      rw [zeros_get _ _ _ hlt,← hz0,List.getElem?_map] at hq
      obtain ⟨v,_,rfl⟩:=Option.map_eq_some_iff.1 hq
      rw [cAV1_ids] at hid;cases hid
    · obtain ⟨q,_,rfl⟩:=List.mem_map.1 hp
      exact ev_ids hS q.2 id hid
  refine VE.newOb hS hw (by simp [ho]) (fun i hi=>?_) (by simp) fun F S2 a w ρ own hag H=>?_
  · simp only [AObj.ids] at hi
    obtain ⟨c,hc,hi⟩:=AV.mem_idsL.1 hi
    exact hcid c hc i hi
  obtain ⟨z,hz,h1,h2,h3⟩:=hj.run_zero w
  have hsz:z.cells.size=1:=h2.trans hk
  have hp:=parts_rel (S:=S) H (parts:=parts) fun x hx=>hag.ev (x:=x) (by simp [ho,Op.operands];simpa using hx)
  have hinit:CRel w (okB w own ρ S2.h) ρ F.y (zeros j.zero n) ((Array.range (n * 1)).map (z.cells[· % z.cells.size]!)):=by
    refine ⟨by simp [zeros_length,hzl],fun q c hc=>?_⟩
    have hq:q < n * 1:=by have:=(List.getElem?_eq_some_iff.1 hc).1;rwa [zeros_length,hzl] at this
    rw [zeros_get _ _ _ (by rw [hzl];exact hq),hzl] at hc
    have hcr:=(zero_crel (w:=w) (ok:=okB w own ρ S2.h) (ρ:=ρ) (y:=F.y) h1 h3).rel _ c hc
    have hmod:q % 1 < z.cells.size:=by rw [hsz];exact Nat.mod_lt _ (by omega)
    have:((Array.range (n * 1)).map (z.cells[· % z.cells.size]!)).getD q undef=z.cells.getD (q % 1) undef:=by
      have hq':q < n:=by omega
      simp [hq',hsz,Nat.mod_one]
    rw [this]
    exact hcr
  obtain ⟨_,vout,rfl,g2,g3⟩:=fill_rel h hp.1 hp.2 hinit
  have hol:vout.size=n:=by rw [g3.size,hol0]
  refine ⟨.slice (some ⟨w.heap.size,0,none⟩) n n,w.alloc (.cells vout e), ?_,(Ext.alloc _ _ _),rfl, ?_,fun b hb=>?_⟩
  · have h0:¬ (2 ^ 24 < n * 1):=by have:(2:Nat) ^ 24=16777216:=rfl;omega
    have h00:¬ (n * 1=0):=by omega
    have hpl:(fun q=>some (q * 1,1))=placeN 1:=rfl
    simp only [execOp,ho,Instr.buildSlice,Sem.run_bind,run_underlying hd,Result.andThen_ok,hj.run_sizeOf,hk,gt_iff_lt,h0,if_false,h00,hz,Sem.run_pure,hpl,g2]
    simp [newRow,newObj,Sem.run]
  · refine .rows (flat:=vout.toList) (.inl ⟨by simp [hol,hol0],.inr ⟨w.heap.size,n,vout,by rw [hol0],Nat.zero_le _,heap_new _ _,by rw [hol0];exact Nat.le_refl _, ?_,by rw [hol,Nat.mul_one], ?_⟩⟩) fun i c hc=>?_
    · have hml:(16777216:Nat)≤maxLen:=by decide
      omega
    · rw [hol0];exact List.take_of_length_le (by rw [Array.length_toList,hol];omega)
    · obtain ⟨r1,r2⟩:=g3.rel i c hc
      have hlt:i < vout.size:=by have:=(List.getElem?_eq_some_iff.1 hc).1;omega
      refine ⟨vout.getD i undef,by simp [hlt],r1.mono (fun b hb=>⟨hb,(Ext.alloc (fun _=>False) w _).block b hb.1 (by simp)⟩) (fun _ _=>rfl),r2⟩
  · simp only [blk] at hb
    split at hb
    · cases hb
    · cases hb;exact .inl (Nat.le_refl _)
theorem ve_indexW (hS:Wf S) (hw:Want ops o S) {t e:TypeId} {x ix:Operand} (ho:o.op=.indexAddr t x ix) {i j:TI} (ht:TyFact P t i) (htd:i.td=.slice e) (hj:TyFact P e j) (hk:j.cells=1) {k:IntKind} {n:Int} (hn:ev S ix=.v (.int k n))
    {id:Nat} {e':TypeId} {cs:List AV} (hx:ev S x=.row id) (hh:S.h id=some (.rows e' cs)) (h0:0≤n) (hlt:n.toNat < cs.length):VE A P ops o { av:=.rp id 1 n.toNat 0,hr:=[id],n:=S.n } S:=by
  obtain ⟨d,hd,hok⟩:=ht.under
  rw [htd] at hok
  simp only [TD.ok] at hok
  subst hok
  have hids:=ev_ids hS x
  rw [hx] at hids
  refine VE.val hw (by simp [ho]) (by simpa [AV.ids] using hids) fun F S2 a w ρ own hag H=>?_
  have h1:=ev_rel H x
  rw [hag.ev (x:=x) (by simp [ho,Op.operands]),hx] at h1
  have h2:=ev_rel H ix
  rw [hag.ev (x:=ix) (by simp [ho,Op.operands]),hn] at h2
  have h2:=(isBool_inv h2).1
  generalize hv:a.eval x=v at h1
  cases h1 with
  |row e1 e2 =>
    have hobj:=H.obj id _ ((hag.2.1 id (by simp)).trans hh)
    rw [e1] at hobj
    obtain ⟨flat,r3,_⟩:=rows_at hobj
    obtain ⟨_,g,cap,cur,rfl,_⟩:=ownsR_pos r3 (by omega)
    have hnm:n < (cs.length:Int):=by omega
    refine ⟨.pointer (some ⟨g,n.toNat * 1,none⟩),w, ?_,Ext.none w, ?_⟩
    · simp [execOp,ho,hv,h2,Instr.indexAt,asIntOf,run_underlying hd,hj.run_sizeOf,hk,h0,hnm,lit_add]
    · exact .rp (off:=0) e1
theorem rd_rows {id i:Nat} {e:TypeId} {cs:List AV} (hh:S.h id=some (.rows e cs)) (hi:i < cs.length):RdOK S (.rp id 1 i 0) 1 [cs[i]] [id]:=by
  refine ⟨fun hS c hc j hj=>?_,fun F S2 a w ρ own v hag H hv=>?_⟩
  · rw [List.mem_singleton] at hc
    subst hc
    exact rows_ids hS hh _ (List.getElem_mem hi) j hj
  · have ho:=H.obj id _ ((hag id (by simp)).trans hh)
    cases hv with
    |@rp _ _ _ _ b m c e' =>
      rw [e'] at ho
      obtain ⟨flat,r3,r4,r5,r6⟩:=rows_at ho
      have hcell:=(ownsR_pos r3 (by omega)).1.cells (g:=b) rfl
      obtain ⟨u,hu,hr⟩:=r6 i _ (List.getElem?_eq_getElem hi)
      refine ⟨rfl,_,[u],rfl,rfl,fun j u' hu'=>?_,fun j c u' hc hu'=>?_⟩
      · cases j with
        |succ j=>simp at hu'
        |zero =>
          simp only [List.getElem?_cons_zero,Option.some.injEq] at hu'
          subst hu'
          have:=hcell _ u hu
          rw [lit_add] at this
          rw [lit_add]
          simpa using this
      · cases j with
        |succ j=>simp at hu'
        |zero =>
          simp only [List.getElem?_cons_zero,Option.some.injEq] at hu' hc
          subst hu' hc
          exact ⟨hr,r5 i u hu⟩
theorem rows_len {w:World} {ok:Nat→Prop} {ρ:Nat→Value} {y:Value} {e:TypeId} {cs:List AV} {x:Value} (h:ORel w ok ρ y (.rows e cs) x):∃ a c,x=.slice a cs.length c∧cs.length≤maxLen:=by
  obtain ⟨flat,h3,hl,h4,_⟩:=rows_at h
  have hrow:ORel w ok ρ y (.row e 1 (opq flat)) x:=.row (by omega) (opq_len flat) (by simpa [opq,hl] using h3) (opq_rel h4)
  have:=row_len hrow
  simpa [opq,hl] using this
theorem ve_lenW (hw:Want ops o S) {t:TypeId} {x:Operand} (ho:o.op=.call { callee:=.builtin .len,args:=#[x],argTypes:=#[t] }) {i:TI} (ht:TyFact P t i) {e:TypeId} (htd:i.td=.slice e)
    {id:Nat} {e':TypeId} {cs:List AV} (hx:ev S x=.row id) (hh:S.h id=some (.rows e' cs)):VE A P ops o { av:=.v (.int .i64 cs.length),hr:=[id],n:=S.n } S:=by
  obtain ⟨d,hd,hok⟩:=ht.under
  rw [htd] at hok
  simp only [TD.ok] at hok
  subst hok
  refine VE.val hw (by simp [ho]) (by simp [AV.ids]) fun F S2 a w ρ own hag H=>?_
  have h1:=ev_rel H x
  rw [hag.ev (x:=x) (by simp [ho,Op.operands,Call.operands]),hx] at h1
  refine ⟨_,w, ?_,Ext.none w,.v rfl⟩
  have hob:=H.obj id _ ((hag.2.1 id (by simp)).trans hh)
  generalize hv:a.eval x=v at h1
  cases h1 with
  |row e1 _ =>
    rw [e1] at hob
    obtain ⟨a0,c0,rfl,_⟩:=rows_len hob
    have hrun:(Builtin.len_ #[t] o.type #[.slice a0 cs.length c0]).run P w=.ok (.int .i64 cs.length) w:=by simp [Builtin.len_,run_underlying hd,goInt]
    unfold execOp
    simp only [ho,resolve,invoke,builtin,Sem.run_bind,Sem.run_pure,Result.andThen_ok,List.map_toArray,List.map_cons,List.map_nil,hv,hrun]
end
end Go.Sym
namespace Go.Sym
open Go
variable {A : Frm → Prop} {P : Program}
abbrev Ans:=Prop × Eff
def bad:Ans:=(False,{ av:=.junk })
abbrev Ctr:=St→Option FuncId→List AV→Ans
def calleeOf:AV→Option (Option FuncId × List AV)
  |.clo f caps=>some (some f,caps)
  |.cb=>some (none,[])
  |.bnd f _=>some (some f,[])
  |_=>none
theorem callee_cases {v:AV} {f:FuncId} {caps:List AV} (h:calleeOf v=some (some f,caps)):v=.clo f caps∧preOf v=[]∨v=.bnd f (preOf v)∧caps=[]:=by
  cases v <;> simp only [calleeOf,Option.some.injEq,Prod.mk.injEq,reduceCtorEq,false_and] at h
  · obtain ⟨rfl,rfl⟩:=h;exact .inl ⟨rfl,rfl⟩
  · obtain ⟨rfl,rfl⟩:=h;exact .inr ⟨rfl,rfl⟩
def Ctr.OK (A:Frm→Prop) (P:Program) (Φ:Ctr):Prop:=∀ S f bs,(Φ S f bs).1→Wf S→∀ ops o g args tys caps,Want ops o S→o.op=.call { callee:=.value g,args:=args,argTypes:=tys }→calleeOf (ev S g)=some (f,caps)→preOf (ev S g)++(args.toList.map (ev S)++caps)=bs→VE A P ops o (Φ S f bs).2 S
def rdE (S:St) (n:Nat):AV→Prop × List AV × List Nat
  |.ptr id off=>match S.h id with
    |some (.cells cs)=>(off+n≤cs.length,(cs.drop off).take n,[id])
    |_=>(False,[],[])
  |.ep cs off=>(off+n≤cs.length,((cs.drop off).take n).map DV.av,[])
  |.rp id k i off=>match S.h id with
    |some (.row _ k' xs)=>(k'=k∧off+n≤k∧i < xs.length,(((xs.getD i []).drop off).take n).map DV.av,[id])
    |some (.rows _ cs)=>(k=1∧n=1∧off=0∧i < cs.length,[cs.getD i .junk],[id])
    |_=>(False,[],[])
  |_=>(False,[],[])
theorem getD_of_lt {α:Type} {xs:List α} {i:Nat} (h:i < xs.length) (z:α):xs.getD i z=xs[i]:=by simp [h]
theorem rdE_spec {S:St} {n:Nat} {c:AV} (h:(rdE S n c).1):RdOK S c n (rdE S n c).2.1 (rdE S n c).2.2:=by
  by_cases hr:∃ id k i off e cs,c=.rp id k i off∧S.h id=some (.rows e cs)
  · obtain ⟨id,k,i,off,e,cs,rfl,hc⟩:=hr
    simp only [rdE,hc] at h ⊢
    obtain ⟨rfl,rfl,rfl,h4⟩:=h
    rw [getD_of_lt h4]
    exact rd_rows hc h4
  have key:rd S n (fun cells hr=>cells=(rdE S n c).2.1∧hr=(rdE S n c).2.2) c:=by
    cases c <;> simp only [rdE] at h <;> simp only [rd]
    case ptr id off =>
      split at h
      · rename_i cs hc;rw [hc];exact ⟨cs,rfl,h,by simp [rdE,hc],by simp [rdE,hc]⟩
      · exact h.elim
    case ep cs off=>exact ⟨h,rfl,rfl⟩
    case rp id k i off =>
      split at h
      · rename_i e k' xs hc;rw [hc];exact ⟨e,k',xs,rfl,h.1,h.2.1,h.2.2,by simp only [rdE,hc];rw [getD_of_lt h.2.2],by simp only [rdE,hc]⟩
      · rename_i e cs hc;exact absurd ⟨_,_,_,_,_,_,rfl,hc⟩ hr
      · exact h.elim
    all_goals exact h.elim
  obtain ⟨cells,hr,⟨rfl,rfl⟩,hrd⟩:=rd_sound key
  exact hrd
def loadE (S:St) (i:Option TI) (x:AV):Ans:=match i with
  |some i=>((rdE S (bif i.td.agg then i.cells else 1) x).1,{ av:=loadAV i (rdE S (bif i.td.agg then i.cells else 1) x).2.1,hr:=(rdE S (bif i.td.agg then i.cells else 1) x).2.2,n:=S.n })
  |none=>bad
def addE (n:Nat):AV→AV
  |.ptr id o=>.ptr id (o+n)
  |.ep cs o=>.ep cs (o+n)
  |.rp id k i o=>.rp id k i (o+n)
  |_=>.junk
def isAddr:AV→Prop
  |.ptr _ _=>True
  |.ep _ _=>True
  |.rp _ _ _ _=>True
  |_=>False
def fieldE (S:St) (i:Option TI) (f:Nat) (x:AV):Ans:=match i with
  |some i=>match i.td with
    |.struct fs=>match fs[f]? with
      |some p=>(p.2.1 ≠ 0∧isAddr x,{ av:=addE p.1 x,n:=S.n })
      |none=>bad
    |_=>bad
  |none=>bad
def elemI (Γ:Tys) (i:Option TI):Option (TypeId × TI):=match i with
  |some i=>match i.td.elem with
    |some e=>match Γ e with
      |some j=>some (e,j)
      |none=>none
    |none=>none
  |none=>none
theorem elemI_spec {Γ:Tys} {i:Option TI} {e:TypeId} {j:TI} (h:elemI Γ i=some (e,j)):∃ i',i=some i'∧i'.td.elem=some e∧Γ e=some j:=by
  cases i with
  |none=>simp [elemI] at h
  |some i =>
    simp only [elemI] at h
    split at h
    · rename_i e' he
      split at h
      · rename_i j' hj;cases h;exact ⟨i,rfl,he,hj⟩
      · cases h
    · cases h
def dvZ (cs:List AV):List DV:=(dvL cs).getD []
def idxE (S:St) (ej:Option (TypeId × TI)) (i:Option TI) (ix:AV) (x:AV):Ans:=match ej,i,ix with
  |some (_,j),some i,.v (.int _ n)=>match x with
    |.sl xs=>((i.td.elem.isSome=true∧i.td.agg=false)∧0≤n∧n.toNat < xs.length∧(xs.getD n.toNat (dvZ j.zero)).length=j.cells,{ av:=.ep (xs.getD n.toNat (dvZ j.zero)) 0,n:=S.n })
    |.row id=>match S.h id with
      |some (.row _ k xs)=>((i.td.elem.isSome=true∧i.td.agg=false)∧k=j.cells∧0≤n∧n.toNat < xs.length,{ av:=.rp id k n.toNat 0,hr:=[id],n:=S.n })
      |some (.rows _ cs)=>((i.td.elem.isSome=true∧i.td.agg=false)∧j.cells=1∧0≤n∧n.toNat < cs.length,{ av:=.rp id 1 n.toNat 0,hr:=[id],n:=S.n })
      |_=>bad
    |.rsl id kk lo m=>match S.h id with
      |some (.row _ k xs)=>((i.td.elem.isSome=true∧i.td.agg=false)∧(k=j.cells∧kk=j.cells)∧0≤n∧n.toNat < m∧lo+m≤xs.length,{ av:=.rp id kk (lo+n.toNat) 0,hr:=[id],n:=S.n })
      |_=>bad
    |.csl id m=>((i.td.elem.isSome=true∧i.td.agg=false)∧0≤n∧n.toNat < m,{ av:=.ptr id (n.toNat * j.cells),n:=S.n })
    |.ptr id off=>match i.td with
      |.array m _=>(0≤n∧n.toNat < m,{ av:=.ptr id (off+n.toNat * j.cells),n:=S.n })
      |_=>bad
    |_=>bad
  |_,_,_=>bad
def allocE (S:St) (i:Option TI):Ans:=match i with
  |some i=>(True,{ av:=.ptr S.n 0,hw:=[(S.n,some (.cells i.zero))],news:=[S.n],n:=S.n+1 })
  |none=>bad
def boxE (S:St) (x:AV):Ans:=((cellsOf x).all oneB=true,{ av:=.ptr S.n 0,hw:=[(S.n,some (.cells (cellsOf x)))],news:=[S.n],n:=S.n+1 })
def dvE (S:St):AV→Prop × DV × List Nat
  |.v x=>(True,.v x,[])
  |.nil=>(True,.sl [],[])
  |.emp=>(True,.sl [],[])
  |.sl xs=>(True,.sl xs,[])
  |.row id=>match S.h id with
    |some (.row _ _ xs)=>(True,.sl xs,[id])
    |_=>(False,.sl [],[])
  |_=>(False,.sl [],[])
def dvsE (S:St):List AV→Prop × List DV × List Nat
  |[]=>(True,[],[])
  |c :: cs=>((dvE S c).1∧(dvsE S cs).1,(dvE S c).2.1 :: (dvsE S cs).2.1,(dvE S c).2.2++(dvsE S cs).2.2)
def storeE (S:St) (i:Option TI) (x v:AV):Ans:=match i with
  |some i=>match x with
    |.ptr id off=>match S.h id with
      |some (.cells cs)=>((cellsOf v).all oneB=true∧(cellsOf v).length=i.cells∧off+(cellsOf v).length≤cs.length,{ av:=.junk,hw:=[(id,some (.cells (cs.take off++cellsOf v++cs.drop (off+(cellsOf v).length))))],hr:=[id],n:=S.n })
      |_=>bad
    |.rp id k m off=>match S.h id with
      |some (.row e k' xs)=>((cellsOf v).length=i.cells∧k'=k∧(dvsE S (cellsOf v)).1∧off+(dvsE S (cellsOf v)).2.1.length≤k∧m < xs.length∧id ∉ (dvsE S (cellsOf v)).2.2,{ av:=.junk,hw:=(id,some (.row e k (xs.set m ((xs.getD m []).take off++(dvsE S (cellsOf v)).2.1++(xs.getD m []).drop (off+(dvsE S (cellsOf v)).2.1.length))))) :: dropW (dvsE S (cellsOf v)).2.2,hr:=id :: (dvsE S (cellsOf v)).2.2,n:=S.n })
      |_=>bad
    |_=>bad
  |none=>bad
def intE (op:BinOp) (k:IntKind) (a b:Int):Prop × Value :=
  match op with
  |.add=>(True,.int k (k.wrap (a+b)))
  |.sub=>(True,.int k (k.wrap (a - b)))
  |.mul=>(True,.int k (k.wrap (a * b)))
  |.quo=>(b ≠ 0,.int k (k.wrap (a.tdiv b)))
  |.rem=>(b ≠ 0,.int k (a.tmod b))
  |.and=>(True,.int k (k.wrap (BitVec.ofInt k.bits a &&& BitVec.ofInt k.bits b).toNat))
  |.or=>(True,.int k (k.wrap (BitVec.ofInt k.bits a ||| BitVec.ofInt k.bits b).toNat))
  |.xor=>(True,.int k (k.wrap (BitVec.ofInt k.bits a ^^^ BitVec.ofInt k.bits b).toNat))
  |.andNot=>(True,.int k (k.wrap (BitVec.ofInt k.bits a &&& ~~~(BitVec.ofInt k.bits b)).toNat))
  |.eql=>(True,.bool (decide (a=b)))
  |.neq=>(True,.bool (!decide (a=b)))
  |.lss=>(True,.bool (decide (a < b)))
  |.leq=>(True,.bool (decide (a≤b)))
  |.gtr=>(True,.bool (decide (b < a)))
  |.geq=>(True,.bool (decide (b≤a)))
  |.shl=>(0≤b,.int k (k.wrap (a * 2 ^ min b.toNat k.bits)))
  |.shr=>(0≤b,.int k (a.fdiv (2 ^ min b.toNat k.bits)))
theorem intE_spec {op:BinOp} {k:IntKind} {a b:Int} (h:(intE op k a b).1):intB op k a b fun v=>v=(intE op k a b).2:=by
  cases op <;> simp only [intE] at h <;> simp only [intB,intE] <;> first|exact ⟨h,trivial⟩|exact rfl
def cmpE:Option IntKind→AV→AV→Prop × Bool
  |some k,.v (.int k1 a),.v (.int k2 b)=>(k1=k∧k2=k,decide (a=b))
  |none,.v (.bool a),.v (.bool b)=>(True,a == b)
  |_,_,_=>(False,false)
def eqE:List (Option IntKind)→List AV→List AV→Prop × Bool
  |[],[],[]=>(True,true)
  |k :: ks,c :: cs,d :: ds=>((cmpE k c d).1∧(eqE ks cs ds).1,(cmpE k c d).2 && (eqE ks cs ds).2)
  |_,_,_=>(False,false)
theorem eqE_spec:∀ {ks:List (Option IntKind)} {cs ds:List AV} {K:Bool→Prop},(eqE ks cs ds).1→K (eqE ks cs ds).2→eqB ks cs ds K
  |[],[],[],K,_,hk=>hk
  |k :: ks,c :: cs,d :: ds,K,h,hk=>by
    simp only [eqE] at h hk
    obtain ⟨h1,h2⟩:=h
    unfold cmpE at h1 hk
    split at h1
    · exact ⟨_,_,rfl,_,_,rfl,h1.1,h1.2,eqE_spec h2 hk⟩
    · exact ⟨_,rfl,_,rfl,eqE_spec h2 hk⟩
    · exact h1.elim
  |[],[],_ :: _,_,h,_=>by simp [eqE] at h
  |[],_ :: _,_,_,h,_=>by simp [eqE] at h
  |_ :: _,[],_,_,h,_=>by simp [eqE] at h
  |_ :: _,_ :: _,[],_,h,_=>by simp [eqE] at h
def boolT:Option TI→Bool
  |some i=>match i.td with
    |.bool=>true
    |_=>false
  |none=>false
def boolE (S:St) (i:Option TI) (op:BinOp) (a b:Bool):Ans:=match op with
  |.eql=>(boolT i=true,{ av:=.v (.bool (a == b)),n:=S.n })
  |.neq=>(boolT i=true,{ av:=.v (.bool (!(a == b))),n:=S.n })
  |_=>bad
def binE (S:St) (i:Option TI) (op:BinOp) (x y:AV):Ans:=match x,y with
  |.v (.int k a),.v (.int k' b)=>((isShift op || k == k')=true∧(intE op k a b).1,{ av:=.v (intE op k a b).2,n:=S.n })
  |.agg cs,.agg ds=>match i with
    |some i=>match i.eqk with
      |some ks=>match op with
        |.eql=>((eqE ks cs ds).1,{ av:=.v (.bool (eqE ks cs ds).2),n:=S.n })
        |.neq=>((eqE ks cs ds).1,{ av:=.v (.bool (!(eqE ks cs ds).2)),n:=S.n })
        |_=>bad
      |none=>bad
    |none=>bad
  |.v (.bool a),.v (.bool b)=>boolE S i op a b
  |_,_=>bad
def unE (S:St) (op:UnOp) (x:AV):Ans:=match op,x with
  |.not,.v (.bool b)=>(True,{ av:=.v (.bool (!b)),n:=S.n })
  |.neg,.v (.int k n)=>(True,{ av:=.v (.int k (k.wrap (0 - n))),n:=S.n })
  |_,_=>bad
def convE (S:St) (i j:Option TI) (x:AV):Ans:=match i,j,x with
  |some _,some j,.v (.int _ n)=>match j.td with
    |.int k'=>(True,{ av:=.v (.int k' (k'.wrap n)),n:=S.n })
    |_=>bad
  |_,_,_=>bad
def extE (S:St) (x:AV) (ix:Nat):Ans:=match x with
  |.tup cs=>match cs[ix]? with
    |some c=>(True,{ av:=c,n:=S.n })
    |none=>bad
  |_=>bad
def lenE (S:St) (i:Option TI) (x:AV):Ans:=match i with
  |some i=>match i.td with
    |.slice _=>match x with
      |.nil=>(True,{ av:=.v (.int .i64 0),n:=S.n })
      |.emp=>(True,{ av:=.v (.int .i64 0),n:=S.n })
      |.sl xs=>(True,{ av:=.v (.int .i64 xs.length),n:=S.n })
      |.csl _ m=>(True,{ av:=.v (.int .i64 m),n:=S.n })
      |.rsl _ _ _ m=>(True,{ av:=.v (.int .i64 m),n:=S.n })
      |.row id=>match S.h id with
        |some (.row _ _ xs)=>(True,{ av:=.v (.int .i64 xs.length),hr:=[id],n:=S.n })
        |some (.rows _ cs)=>(True,{ av:=.v (.int .i64 cs.length),hr:=[id],n:=S.n })
        |_=>bad
      |_=>bad
    |.string=>match x with
      |.v (.string s)=>(True,{ av:=.v (.int .i64 s.size),n:=S.n })
      |_=>bad
    |_=>bad
  |none=>bad
def elemsE (S:St):AV→Prop × List (List DV) × List Nat
  |.nil=>(True,[],[])
  |.emp=>(True,[],[])
  |.sl xs=>(True,xs,[])
  |.row id=>match S.h id with
    |some (.row _ _ xs)=>(True,xs,[id])
    |_=>(False,[],[])
  |_=>(False,[],[])
def dstE (S:St) (e:TypeId) (k:Nat):AV→Prop × List (List DV) × Option Nat
  |.nil=>(True,[],none)
  |.emp=>(True,[],none)
  |.row id=>match S.h id with
    |some (.row e' k' xs)=>(e'=e∧k'=k,xs,some id)
    |_=>(False,[],none)
  |_=>(False,[],none)
def rowsOK (k:Nat) (xs:List (List DV)):Prop:=∀ r ∈ xs,r.length=k
theorem rowsOK_nil (k:Nat):rowsOK k []=True:=by simp [rowsOK]
theorem rowsOK_cons (k:Nat) (x:List DV) (xs:List (List DV)):rowsOK k (x :: xs)=(x.length=k∧rowsOK k xs):=by simp [rowsOK]
theorem rowsOK_append (k:Nat) (xs ys:List (List DV)):rowsOK k (xs++ys)=(rowsOK k xs∧rowsOK k ys):=by
  apply propext
  simp only [rowsOK,List.mem_append]
  exact ⟨fun h=>⟨fun r hr=>h r (.inl hr),fun r hr=>h r (.inr hr)⟩,fun h r hr=>hr.elim (h.1 r) (h.2 r)⟩
theorem rowsOK_map {α:Type} {k:Nat} {f:α→List DV} (h:∀ a,(f a).length=k) (l:List α):rowsOK k (l.map f)=True:=by
  simp only [rowsOK,List.mem_map]
  exact eq_true fun r ⟨a,_,e⟩=>e ▸ h a
def notIn (d:Option Nat) (hr:List Nat):Prop:=match d with
  |some d=>d ∉ hr
  |none=>True
theorem notIn_spec {d:Option Nat} {hr:List Nat} (h:notIn d hr):∀ i,d=some i→i ∉ hr:=by
  rintro i rfl;exact h
def appE (S:St) (ej:Option (TypeId × TI)) (sl:Bool) (x y:AV):Ans:=match ej with
  |some (e,j)=>(sl=true∧0 < j.cells∧(dstE S e j.cells x).1∧(elemsE S y).1∧notIn (dstE S e j.cells x).2.2 (elemsE S y).2.2∧rowsOK j.cells (dstE S e j.cells x).2.1∧rowsOK j.cells (elemsE S y).2.1 ∧
      ((dstE S e j.cells x).2.1.length+(elemsE S y).2.1.length) * j.bytes≤140737488355328∧(dstE S e j.cells x).2.1.length+(elemsE S y).2.1.length≤maxLen,
      { av:=.row S.n,hw:=deadW (dstE S e j.cells x).2.2++[(S.n,some (.row e j.cells ((dstE S e j.cells x).2.1++(elemsE S y).2.1)))],hr:=deadR (dstE S e j.cells x).2.2++(elemsE S y).2.2,news:=[S.n],n:=S.n+1 })
  |none=>bad
def isSlice (i:Option TI):Bool:=match i with
  |some i=>match i.td with
    |.slice _=>true
    |_=>false
  |none=>false
def minE (S:St) (x y:AV):Ans:=match x,y with
  |.v (.int k a),.v (.int _ b)=>(True,{ av:=.v (.int k (min a b)),n:=S.n })
  |_,_=>bad
def maxE (S:St) (x y:AV):Ans:=match x,y with
  |.v (.int k a),.v (.int _ b)=>(True,{ av:=.v (.int k (max a b)),n:=S.n })
  |_,_=>bad
def boundE (d:Int):Option AV→Prop × Int
  |none=>(True,d)
  |some (.v (.int _ n))=>(True,n)
  |some _=>(False,0)
def slE (x:AV):Prop × List (List DV):=match x with
  |.nil=>(True,[])
  |.emp=>(True,[])
  |.sl xs=>(True,xs)
  |_=>(False,[])
def sliceE (S:St) (ej:Option (TypeId × TI)) (sl:Bool) (x:AV) (lo hi mx:Option AV):Ans:=match ej with
  |some (_,j)=>match mx with
    |none=>(sl=true∧(slE x).1∧(boundE 0 lo).1∧(boundE (slE x).2.length hi).1∧0≤(boundE 0 lo).2∧(boundE 0 lo).2≤(boundE (slE x).2.length hi).2∧(boundE (slE x).2.length hi).2≤(slE x).2.length∧rowsOK j.cells (slE x).2,
        { av:=.sl (((slE x).2.take (boundE (slE x).2.length hi).2.toNat).drop (boundE 0 lo).2.toNat),n:=S.n })
    |some m=>(sl=true∧(slE x).1∧lo=none∧hi.isSome=true∧(boundE 0 hi).1∧(boundE 0 hi).2=0∧(boundE 0 (some m)).1∧(boundE 0 (some m)).2=0,{ av:=.emp,n:=S.n })
  |none=>bad
def fillE (place:Nat→Option (Nat × Nat)):List AV→List (Nat × AV)→Prop × List AV
  |cells,[]=>(True,cells)
  |cells,p :: rest=>match place p.1 with
    |some q=>((cellsOf p.2).length=q.2∧q.1+(cellsOf p.2).length≤cells.length∧(cellsOf p.2).all oneB=true∧(fillE place (cells.take q.1++cellsOf p.2++cells.drop (q.1+(cellsOf p.2).length)) rest).1,(fillE place (cells.take q.1++cellsOf p.2++cells.drop (q.1+(cellsOf p.2).length)) rest).2)
    |none=>(False,[])
theorem fillE_spec {place:Nat→Option (Nat × Nat)} {K:List AV→Prop}:∀ {ps:List (Nat × AV)} {cells:List AV},(fillE place cells ps).1→K (fillE place cells ps).2→fillA place K cells ps
  |[],_,_,hk=>hk
  |p :: ps,cells,h,hk=>by
    simp only [fillE] at h hk
    simp only [fillA]
    split at h
    · rename_i q hq
      rw [hq] at hk ⊢
      exact ⟨h.1,h.2.1,h.2.2.1,fillE_spec h.2.2.2 hk⟩
    · exact h.elim
def buildE (S:St) (i:Option TI) (ps:List (Nat × AV)):Ans:=match i with
  |some i=>match i.td with
    |.struct fs=>((fillE (placeL fs) i.zero ps).1,{ av:=.agg (fillE (placeL fs) i.zero ps).2,n:=S.n })
    |_=>bad
  |none=>bad
theorem dvE_spec {S:St} {c:AV} {K:DV→List Nat→Prop} (h:(dvE S c).1) (hk:K (dvE S c).2.1 (dvE S c).2.2):dvS S K c:=by
  cases c <;> simp only [dvE] at h hk <;> simp only [dvS] <;> first|exact hk|exact h.elim|skip
  split at h
  · rename_i e k xs hc;rw [hc] at hk ⊢;exact ⟨e,k,xs,rfl,hk⟩
  · exact h.elim
theorem dvsE_spec {S:St}:∀ {cs:List AV} {K:List DV→List Nat→Prop},(dvsE S cs).1→K (dvsE S cs).2.1 (dvsE S cs).2.2→dvSL S K cs
  |[],K,_,hk=>hk
  |c :: cs,K,h,hk=>dvE_spec h.1 (dvsE_spec h.2 hk)
def bsW (S:St) (e:TypeId) (j:TI) (sl:Bool) (n:Nat) (ps:List (Nat × AV)):Ans :=
  (sl=true∧j.cells=1∧n≤16777216∧(fillE (placeN 1) (zeros j.zero n) ps).1,{ av:=.row S.n,hw:=deadW none++[(S.n,some (.rows e (fillE (placeN 1) (zeros j.zero n) ps).2))],hr:=[],news:=[S.n],n:=S.n+1 })
def bsE (S:St) (ej:Option (TypeId × TI)) (sl:Bool) (n:Nat) (ps:List (Nat × AV)):Ans:=match ej with
  |some (e,j)=>if n=0 then (sl=true∧ps=[],{ av:=.emp,n:=S.n }) else bif j.deep then bsW S e j sl n ps else
      (sl=true∧0 < j.cells∧n * j.cells≤16777216∧(fillE (placeN j.cells) (zeros j.zero n) ps).1∧(dvsE S (fillE (placeN j.cells) (zeros j.zero n) ps).2).1,
        { av:=.row S.n,hw:=(S.n,some (.row e j.cells (chunk j.cells n (dvsE S (fillE (placeN j.cells) (zeros j.zero n) ps).2).2.1))) :: dropW (dvsE S (fillE (placeN j.cells) (zeros j.zero n) ps).2).2.2,hr:=(dvsE S (fillE (placeN j.cells) (zeros j.zero n) ps).2).2.2,news:=[S.n],n:=S.n+1 })
  |none=>bad
def rslA (id k n:Nat) (l h:Int):Option AV→AV
  |none=>.rsl id k l.toNat (h.toNat - l.toNat)
  |some _=>if l < n then .rsl id k l.toNat (h.toNat - l.toNat) else .sl []
def sliceR (S:St) (ej:Option (TypeId × TI)) (sl:Bool) (x:AV) (lo hi mx:Option AV):Ans:=match ej,x,mx with
  |some (_,j),.row id,none=>match S.h id with
    |some (.row _ k xs)=>(sl=true∧k=j.cells∧(boundE 0 lo).1∧(boundE xs.length hi).1∧0≤(boundE 0 lo).2∧(boundE 0 lo).2≤(boundE xs.length hi).2∧(boundE xs.length hi).2≤xs.length∧0 < xs.length,
        { av:=rslA id j.cells xs.length (boundE 0 lo).2 (boundE xs.length hi).2 lo,hr:=[id],n:=S.n })
    |_=>bad
  |_,_,_=>bad
def rowId:AV→Bool
  |.row _=>true
  |_=>false
def sliceP (S:St) (ej:Option (TypeId × TI)) (i:Option TI) (x:AV) (lo hi mx:Option AV):Ans:=match ej,i with
  |some (_,_),some i=>match i.td with
    |.array m _=>match x with
      |.ptr id off=>match lo,mx with
        |none,none=>((boundE m hi).1∧0≤(boundE m hi).2∧(boundE m hi).2≤m∧m≤maxLen,{ av:=.psl id off (boundE m hi).2.toNat m,n:=S.n })
        |_,_=>bad
      |_=>bad
    |_=>bad
  |_,_=>bad
def ptrId:AV→Bool
  |.ptr _ _=>true
  |_=>false
def sliceX (S:St) (i:Option TI) (ej:Option (TypeId × TI)) (sl:Bool) (x:AV) (lo hi mx:Option AV):Ans:=match ptrId x with
  |true=>sliceP S ej i x lo hi mx
  |false=>match rowId x with
    |true=>sliceR S ej sl x lo hi mx
    |false=>sliceE S ej sl x lo hi mx
def srcE (S:St) (kk:Nat):AV→Prop × List (List DV) × List Nat
  |.sl ys=>(True,ys,[])
  |.row id=>match S.h id with
    |some (.row _ k xs)=>(k=kk,xs,[id])
    |_=>(False,[],[])
  |.rsl id k lo n=>match S.h id with
    |some (.row _ k' xs)=>(k=kk∧k'=kk∧lo+n≤xs.length,(xs.drop lo).take n,[id])
    |_=>(False,[],[])
  |_=>(False,[],[])
def appR (S:St) (ej:Option (TypeId × TI)) (sl:Bool) (x y:AV):Ans:=match ej,x with
  |some (e,j),.rsl id k' lo n=>match S.h id with
    |some (.row e' k xs)=>(sl=true∧0 < j.cells∧e'=e∧k=j.cells∧k'=j.cells∧lo=0∧n≤xs.length∧(srcE S j.cells y).1∧rowsOK j.cells (xs.take n)∧rowsOK j.cells (srcE S j.cells y).2.1 ∧
        ((xs.take n).length+(srcE S j.cells y).2.1.length) * j.bytes≤140737488355328∧(xs.take n).length+(srcE S j.cells y).2.1.length≤maxLen,
        { av:=.row S.n,hw:=deadW (some id)++[(S.n,some (.row e j.cells (xs.take n++(srcE S j.cells y).2.1)))],hr:=deadR (some id)++(srcE S j.cells y).2.2,news:=[S.n],n:=S.n+1 })
    |_=>bad
  |_,_=>bad
def rslId:AV→Bool
  |.rsl _ _ _ _=>true
  |_=>false
def appW (S:St) (ej:Option (TypeId × TI)) (sl:Bool) (x:AV) (p:Nat × List AV):Ans:=match ej with
  |some (e,j)=>(sl=true∧j.cells=1∧(dstW S e x).1∧notW (dstW S e x).2.2 p.1∧((dstW S e x).2.1.length+p.2.length) * j.bytes≤140737488355328∧(dstW S e x).2.1.length+p.2.length≤maxLen,
      { av:=.row S.n,hw:=deadW (dstW S e x).2.2++[(S.n,some (.rows e ((dstW S e x).2.1++p.2)))],hr:=deadR (dstW S e x).2.2++[p.1],news:=[S.n],n:=S.n+1 })
  |none=>bad
def appX (S:St) (ej:Option (TypeId × TI)) (sl:Bool) (x y:AV):Ans:=match rslId x with
  |true=>appR S ej sl x y
  |false=>match srcW S y with
    |some p=>appW S ej sl x p
    |none=>appE S ej sl x y
def dstI:AV→Option (Nat × Nat × Option Nat)
  |.row id=>some (id,0,none)
  |.rsl id _ lo n=>some (id,lo,some n)
  |_=>none
def copyE (S:St) (ej:Option (TypeId × TI)) (sl:Bool) (x y:AV):Ans:=match ej,dstI x with
  |some (_,j),some (id,lo,nn)=>match S.h id with
    |some (.row e' k xs)=>(sl=true∧0 < j.cells∧k=j.cells∧(x=.row id∨x=.rsl id j.cells lo (nn.getD xs.length))∧lo+nn.getD xs.length≤xs.length∧0 < nn.getD xs.length∧(srcE S j.cells y).1∧rowsOK j.cells (srcE S j.cells y).2.1∧0 < (srcE S j.cells y).2.1.length,
        { av:=.v (.int .i64 (min (srcE S j.cells y).2.1.length (nn.getD xs.length):Nat)),hw:=[(id,some (.row e' k (xs.take lo++(srcE S j.cells y).2.1.take (min (srcE S j.cells y).2.1.length (nn.getD xs.length))++xs.drop (lo+min (srcE S j.cells y).2.1.length (nn.getD xs.length)))))],hr:=id :: (srcE S j.cells y).2.2,n:=S.n })
    |_=>bad
  |_,_=>bad
def copyP (S:St) (ej:Option (TypeId × TI)) (sl:Bool) (x y:AV):Ans:=match ej,x with
  |some (_,j),.psl id off n _=>match S.h id with
    |some (.cells cs)=>(sl=true∧j.cells=1∧off+n≤cs.length∧(srcE S 1 y).1∧rowsOK 1 (srcE S 1 y).2.1∧0 < (srcE S 1 y).2.1.length,
        { av:=.v (.int .i64 (min (srcE S 1 y).2.1.length n:Nat)),hw:=[(id,some (.cells (cs.take off++(((srcE S 1 y).2.1.take (min (srcE S 1 y).2.1.length n)).flatten).map DV.av++cs.drop (off+min (srcE S 1 y).2.1.length n))))],hr:=id :: (srcE S 1 y).2.2,n:=S.n })
    |_=>bad
  |_,_=>bad
def pslId:AV→Bool
  |.psl _ _ _ _=>true
  |_=>false
def copyX (S:St) (ej:Option (TypeId × TI)) (sl:Bool) (x y:AV):Ans:=match pslId x with
  |true=>copyP S ej sl x y
  |false=>copyE S ej sl x y
def isNil:List AV→Bool
  |[.nil]=>true
  |_=>false
theorem isNil_spec {l:List AV} (h:isNil l=true):l=[.nil]:=by
  unfold isNil at h;split at h
  · rfl
  · cases h
def makeE (S:St) (ej:Option (TypeId × TI)) (sl:Bool) (x y:AV):Ans:=match ej,x,y with
  |some (e,j),.v (.int _ n),.v (.int _ m)=>bif isNil j.zero then
      (sl=true∧n=m∧0≤n∧(j.bytes:Int) * n≤140737488355328∧n≤maxLen,{ av:=.csl S.n n.toNat,hw:=[(S.n,some (.cells (List.replicate n.toNat .nil)))],hr:=[],news:=[S.n],n:=S.n+1 })
    else (sl=true∧n=m∧0≤n∧(j.bytes:Int) * n≤140737488355328∧n≤maxLen∧0 < j.cells∧(dvL j.zero).isSome=true,{ av:=.row S.n,hw:=(S.n,some (.row e j.cells (List.replicate n.toNat (dvZ j.zero)))) :: dropW [],hr:=[],news:=[S.n],n:=S.n+1 })
  |_,_,_=>bad
def newMapE (S:St):Option Operand→Ans
  |none=>(True,{ av:=.mp S.n,hw:=[(S.n,some (.map []))],news:=[S.n],n:=S.n+1 })
  |some _=>bad
noncomputable def lookE (S:St) (i:Option TI) (c:Bool) (k x:AV):Ans:=match i with
  |some i=>match i.key with
    |some q=>match x with
      |.mp id=>match k.toV with
        |some kv=>match S.h id with
          |some (.map es)=>(MOK q.kd.Q es∧q.kd.Q kv∧(lookR q (mget es kv)).1,{ av:=bif c then .tup [(lookR q (mget es kv)).2.1,.v (.bool (lookR q (mget es kv)).2.2)] else (lookR q (mget es kv)).2.1,hr:=[id],n:=S.n })
          |_=>bad
        |none=>bad
      |_=>bad
    |none=>bad
  |none=>bad
noncomputable def mupE (S:St) (i:Option TI) (k v x:AV):Ans:=match i with
  |some i=>match i.key with
    |some q=>match x with
      |.mp id=>match k.toV with
        |some kv=>match v.toV with
          |some u=>match S.h id with
            |some (.map es)=>(MOK q.kd.Q es∧q.kd.Q kv∧(mset es kv u).length≤maxLen,{ av:=.junk,hw:=[(id,some (.map (mset es kv u)))],hr:=[id],n:=S.n })
            |_=>bad
          |none=>bad
        |none=>bad
      |_=>bad
    |none=>bad
  |none=>bad
noncomputable def entE (S:St) (i:Option TI) (k x:AV):Ans:=match i with
  |some i=>match i.key with
    |some q=>match x with
      |.mp id=>match k.toV with
        |some kv=>match q.z.toV with
          |some zv=>match S.h id with
            |some (.map es)=>(MOK q.kd.Q es∧q.kd.Q kv∧(lookR q (mget es kv)).1∧es.length+1≤maxLen,{ av:=.tup [(lookR q (mget es kv)).2.1,.v (.int .i64 (mIdx es kv:Nat))],hw:=[(id,some (.map (mEnt es kv zv)))],hr:=[id],n:=S.n })
            |_=>bad
          |none=>bad
        |none=>bad
      |_=>bad
    |none=>bad
  |none=>bad
def ensE (S:St) (s v x:AV):Ans:=match x with
  |.mp id=>match s with
    |.v (.int _ n)=>match v.toV with
      |some u=>match S.h id with
        |some (.map es)=>(0≤n∧n.toNat < es.length,{ av:=.junk,hw:=[(id,some (.map (es.set n.toNat ((es.getD n.toNat (undef,undef)).1,u))))],hr:=[id],n:=S.n })
        |_=>bad
      |none=>bad
    |_=>bad
  |_=>bad
def buildA (S:St) (ej:Option (TypeId × TI)) (i:Option TI) (ps:List (Nat × AV)):Ans:=match ej,i with
  |some (_,j),some i=>match i.td with
    |.array _ _=>((fillE (placeN j.cells) i.zero ps).1,{ av:=.agg (fillE (placeN j.cells) i.zero ps).2,n:=S.n })
    |_=>bad
  |_,_=>bad
def arrB:Option TI→Bool
  |some i=>match i.td with
    |.array _ _=>true
    |_=>false
  |none=>false
def buildX (S:St) (ej:Option (TypeId × TI)) (i:Option TI) (ps:List (Nat × AV)):Ans:=match arrB i with
  |true=>buildA S ej i ps
  |false=>buildE S i ps
def indexE (S:St) (ej:Option (TypeId × TI)) (i:Option TI) (ix x:AV):Ans:=match ej,i with
  |some (_,j),some i=>match i.td with
    |.array m _=>match x,ix with
      |.agg cs,.v (.int _ n)=>(0≤n∧n < m∧n.toNat * j.cells+(bif j.td.agg then j.cells else 1)≤cs.length,{ av:=loadAV j ((cs.drop (n.toNat * j.cells)).take (bif j.td.agg then j.cells else 1)),n:=S.n })
      |_,_=>bad
    |_=>bad
  |_,_=>bad
def partE (Γ:Tys) (S:St) (i:Option TI) (f:Nat) (x:AV):Ans:=match i with
  |some i=>match i.td with
    |.struct fs=>match fs[f]? with
      |some p=>match Γ p.2.2 with
        |some j=>match x with
          |.agg cs=>(p.1+(bif j.td.agg then j.cells else 1)≤cs.length,{ av:=loadAV j ((cs.drop p.1).take (bif j.td.agg then j.cells else 1)),n:=S.n })
          |_=>bad
        |none=>bad
      |none=>bad
    |_=>bad
  |none=>bad
def clearE (S:St) (ej:Option (TypeId × TI)) (sl:Bool) (x:AV):Ans:=match ej,x with
  |some (_,j),.rsl id k' lo n=>match S.h id with
    |some (.row e' k xs)=>(sl=true∧0 < j.cells∧k=j.cells∧k'=j.cells∧lo+n≤xs.length∧0 < n∧(dvL j.zero).isSome=true,
        { av:=.junk,hw:=[(id,some (.row e' k (xs.take lo++List.replicate n (dvZ j.zero)++xs.drop (lo+n))))],hr:=[id],n:=S.n })
    |_=>bad
  |_,_=>bad
def mkFn (S:St) (f:FuncId):List AV→List AV→Ans
  |[],cs=>(True,{ av:=.clo f cs,n:=S.n })
  |x :: xs,[]=>(True,{ av:=.bnd f (x :: xs),n:=S.n })
  |_,_=>bad
def callE (Γ:Tys) (Φ:Ctr) (S:St) (c:Call):Ans:=match c.callee with
  |.builtin .len=>match c.args.toList,c.argTypes.toList with
    |[x],[t]=>lenE S (Γ t) (ev S x)
    |_,_=>bad
  |.builtin .copy=>match c.args.toList,c.argTypes.toList with
    |[x,y],[t,_]=>copyX S (elemI Γ (Γ t)) (isSlice (Γ t)) (ev S x) (ev S y)
    |_,_=>bad
  |.builtin .append=>match c.args.toList,c.argTypes.toList with
    |[x,y],[t,t']=>if t=t' then appX S (elemI Γ (Γ t)) (isSlice (Γ t)) (ev S x) (ev S y) else bad
    |_,_=>bad
  |.builtin .clear=>match c.args.toList,c.argTypes.toList with
    |[x],[t]=>clearE S (elemI Γ (Γ t)) (isSlice (Γ t)) (ev S x)
    |_,_=>bad
  |.builtin .min=>match c.args.toList,c.argTypes.toList with
    |[x,y],[_,_]=>minE S (ev S x) (ev S y)
    |_,_=>bad
  |.builtin .max=>match c.args.toList,c.argTypes.toList with
    |[x,y],[_,_]=>maxE S (ev S x) (ev S y)
    |_,_=>bad
  |.value g=>match calleeOf (ev S g) with
    |some (f,caps)=>Φ S f (preOf (ev S g)++(c.args.toList.map (ev S)++caps))
    |none=>bad
  |_=>bad
noncomputable def opE (Γ:Tys) (Φ:Ctr) (S:St):Op→Ans
  |.move x=>(True,{ av:=ev S x,n:=S.n })
  |.assign x=>(True,{ av:=ev S x,n:=S.n })
  |.load t x=>loadE S (Γ t) (ev S x)
  |.fieldAddr t x f=>fieldE S (Γ t) f (ev S x)
  |.indexAddr t x ix=>idxE S (elemI Γ (Γ t)) (Γ t) (ev S ix) (ev S x)
  |.alloc t=>allocE S (Γ t)
  |.box _ x=>boxE S (ev S x)
  |.store t x v=>storeE S (Γ t) (ev S x) (ev S v)
  |.binOp op t x y _=>binE S (Γ t) op (ev S x) (ev S y)
  |.unOp u _ x=>unE S u (ev S x)
  |.convert s t x=>convE S (Γ s) (Γ t) (ev S x)
  |.extract x ix=>extE S (ev S x) ix
  |.makeFunc (.func f) first caps=>mkFn S f (first.toList.map (ev S)) (caps.toList.map (ev S))
  |.nilCheck x=>(isAddr (ev S x),{ av:=ev S x,n:=S.n })
  |.build t ps=>buildX S (elemI Γ (Γ t)) (Γ t) (ps.toList.map fun p=>(p.1,ev S p.2))
  |.buildSlice t n ps=>bsE S (elemI Γ (Γ t)) (isSlice (Γ t)) n (ps.toList.map fun p=>(p.1,ev S p.2))
  |.makeSlice t x y=>makeE S (elemI Γ (Γ t)) (isSlice (Γ t)) (ev S x) (ev S y)
  |.slice t x lo hi mx=>sliceX S (Γ t) (elemI Γ (Γ t)) (isSlice (Γ t)) (ev S x) (lo.map (ev S)) (hi.map (ev S)) (mx.map (ev S))
  |.index t x ix=>indexE S (elemI Γ (Γ t)) (Γ t) (ev S ix) (ev S x)
  |.field t x f=>partE Γ S (Γ t) f (ev S x)
  |.makeMap _ r=>newMapE S r
  |.lookup t x k c=>lookE S (Γ t) c (ev S k) (ev S x)
  |.mapUpdate t x k v=>mupE S (Γ t) (ev S k) (ev S v) (ev S x)
  |.call c=>callE Γ Φ S c
  |.mapEntry t x k=>entE S (Γ t) (ev S k) (ev S x)
  |.entryStore _ x s v=>ensE S (ev S s) (ev S v) (ev S x)
  |_=>bad
section sound
variable {ops : Array Oper} {o : Oper} {S : St} {Γ : Tys}
theorem loadE_sound (hΓ:TysOK P Γ) (hS:Wf S) (hw:Want ops o S) {t:TypeId} {x:Operand} (ho:o.op=.load t x) (h:(loadE S (Γ t) (ev S x)).1):VE A P ops o (loadE S (Γ t) (ev S x)).2 S:=by
  cases hi:Γ t with
  |none=>rw [hi] at h;exact h.elim
  |some i=>rw [hi] at h;exact ve_load hS hw ho (hΓ t i hi) rfl (rdE_spec h)
theorem fieldE_sound (hΓ:TysOK P Γ) (hS:Wf S) (hw:Want ops o S) {t:TypeId} {x:Operand} {f:Nat} (ho:o.op=.fieldAddr t x f) (h:(fieldE S (Γ t) f (ev S x)).1):VE A P ops o (fieldE S (Γ t) f (ev S x)).2 S:=by
  cases hi:Γ t with
  |none=>rw [hi] at h;exact h.elim
  |some i =>
    rw [hi] at h
    simp only [fieldE] at h ⊢
    split at h
    · rename_i fs htd
      try rw [htd]
      try simp only
      split at h
      · rename_i p hp
        try rw [hp]
        obtain ⟨off,sz,ft⟩:=p
        obtain ⟨av,rfl,hv⟩:=ve_fieldAddr (A:=A) (K:=fun av=>av=addE off (ev S x)) hS hw ho (hΓ t i hi) htd hp h.1 (by
          have h2:=h.2
          generalize ev S x=c at h2
          cases c <;> simp only [isAddr] at h2 <;> first|exact h2.elim|rfl)
        exact hv
      · exact h.elim
    · exact h.elim
theorem idxE_sound (hΓ:TysOK P Γ) (hS:Wf S) (hw:Want ops o S) {t:TypeId} {x ix:Operand} (ho:o.op=.indexAddr t x ix) (h:(idxE S (elemI Γ (Γ t)) (Γ t) (ev S ix) (ev S x)).1):VE A P ops o (idxE S (elemI Γ (Γ t)) (Γ t) (ev S ix) (ev S x)).2 S:=by
  cases hej:elemI Γ (Γ t) with
  |none=>rw [hej] at h;exact h.elim
  |some p =>
    obtain ⟨e,j⟩:=p
    obtain ⟨i,hi,hel,hj⟩:=elemI_spec hej
    rw [hej,hi] at h
    have slice:i.td.elem.isSome=true∧i.td.agg=false→∃ e,i.td=.slice e:=fun ⟨h1,h2⟩=>by
      cases htd:i.td <;> rw [htd] at h1 h2 <;> simp [TD.elem,TD.agg] at h1 h2
      exact ⟨_,rfl⟩
    cases hix:ev S ix with
    |v u =>
      rw [hix] at h
      cases u with
      |int k n =>
        by_cases hw8:∃ id e' cs,ev S x=.row id∧S.h id=some (.rows e' cs)
        · obtain ⟨id,e',cs,hx,hc⟩:=hw8
          rw [hx] at h ⊢
          rw [hi]
          simp only [idxE,hc] at h ⊢
          obtain ⟨h1,h2,h3,h4⟩:=h
          obtain ⟨e0,he0⟩:=slice h1
          rw [he0] at hel
          simp only [TD.elem,Option.some.injEq] at hel
          subst hel
          exact ve_indexW hS hw ho (hΓ t i hi) he0 (hΓ _ j hj) h2 hix hx hc h3 h4
        have hyp:∃ av hr,(av=(idxE S (some (e,j)) (some i) (.v (.int k n)) (ev S x)).2.av∧hr=(idxE S (some (e,j)) (some i) (.v (.int k n)) (ev S x)).2.hr)∧VE A P ops o { av:=av,hr:=hr,n:=S.n } S:=by
          refine ve_indexAddr hS hw ho (hΓ t i hi) hel (hΓ e j hj) hix ?_
          generalize ev S x=c at h hw8 ⊢
          cases c <;> simp only [idxE] at h ⊢ <;> simp only [idxA] <;> first|exact h.elim|skip
          case sl xs =>
            obtain ⟨h1,h2,h3,h4⟩:=h
            rw [getD_of_lt h3] at h4
            exact ⟨slice h1,h2,h3,h4,by rw [getD_of_lt h3],trivial⟩
          case row id =>
            split at h
            · rename_i e' k' xs hc
              rw [hc]
              exact ⟨slice h.1,e',k',xs,rfl,h.2.1,h.2.2.1,h.2.2.2,rfl,rfl⟩
            · rename_i e' cs hc;exact absurd ⟨_,_,_,rfl,hc⟩ hw8
            · exact h.elim
          case rsl id kk lo m =>
            split at h
            · rename_i e' k' xs hc
              rw [hc]
              exact ⟨slice h.1,e',k',xs,rfl,h.2.1,h.2.2.1,h.2.2.2.1,h.2.2.2.2,rfl,rfl⟩
            · exact h.elim
          case csl id m =>
            obtain ⟨h1,h2,h3⟩:=h
            exact ⟨slice h1,h2,h3,trivial,trivial⟩
          case ptr id off =>
            split at h
            · rename_i m e' htd
              try rw [htd]
              exact ⟨m,e',rfl,h.1,h.2,rfl,rfl⟩
            · exact h.elim
        obtain ⟨av,hr,⟨rfl,rfl⟩,hv⟩:=hyp
        rw [hi]
        have e2:(idxE S (some (e,j)) (some i) (.v (.int k n)) (ev S x)).2={ av:=(idxE S (some (e,j)) (some i) (.v (.int k n)) (ev S x)).2.av,hr:=(idxE S (some (e,j)) (some i) (.v (.int k n)) (ev S x)).2.hr,n:=S.n }:=by
          generalize ev S x=c at h hw8 ⊢
          cases c <;> simp only [idxE] at h ⊢ <;> first|exact h.elim|skip
          · split at h
            · rename_i hc;first|rfl|rw [hc]
            · exact h.elim
          · split at h
            · rename_i hc;first|rfl|rw [hc]
            · rename_i hc;exact absurd ⟨_,_,_,rfl,hc⟩ hw8
            · exact h.elim
          · split at h
            · rename_i hc;first|rfl|rw [hc]
            · exact h.elim
        rw [e2];exact hv
      |_=>exact h.elim
    |_=>rw [hix] at h;exact h.elim
theorem dvE_dead {S:St} {c:AV} (h:(dvE S c).1):oneB c=true∧∀ i ∈ (dvE S c).2.2,∃ ob,S.h i=some ob:=by
  cases c with
  |row id =>
    simp only [dvE] at h ⊢
    split at h
    · rename_i hc;refine ⟨rfl,fun i hi=>?_⟩
      first
        |(simp only [hc,List.mem_singleton] at hi;subst hi;exact ⟨_,hc⟩)
        |(simp only [List.mem_singleton] at hi;subst hi;exact ⟨_,hc⟩)
    · exact h.elim
  |_=>first|exact h.elim|exact ⟨rfl,fun i hi=>by simp [dvE] at hi⟩
theorem dvsE_dead {S:St}:∀ {cs:List AV},(dvsE S cs).1→cs.all oneB=true∧∀ i ∈ (dvsE S cs).2.2,∃ ob,S.h i=some ob
  |[],_=>⟨rfl,fun i hi=>by simp [dvsE] at hi⟩
  |c :: cs,h=>by
    simp only [dvsE] at h ⊢
    obtain ⟨g1,g2⟩:=dvE_dead h.1
    obtain ⟨g3,g4⟩:=dvsE_dead h.2
    refine ⟨by rw [List.all_cons,g1,g3];rfl,fun i hi=>?_⟩
    rcases List.mem_append.1 hi with hi|hi
    · exact g2 i hi
    · exact g4 i hi
theorem storeE_sound (hΓ:TysOK P Γ) (hS:Wf S) (hw:Want ops o S) {t:TypeId} {x v:Operand} (ho:o.op=.store t x v) (h:(storeE S (Γ t) (ev S x) (ev S v)).1):VE A P ops o (storeE S (Γ t) (ev S x) (ev S v)).2 S:=by
  cases hi:Γ t with
  |none=>rw [hi] at h;exact h.elim
  |some i =>
    rw [hi] at h
    cases hx:ev S x with
    |ptr id off =>
      rw [hx] at h
      simp only [storeE] at h ⊢
      split at h
      · rename_i cs hc
        try rw [hc]
        obtain ⟨hws,hr,⟨rfl,rfl⟩,hv⟩:=ve_store (A:=A) (K:=fun hws hr=>hws=[(id,some (.cells (cs.take off++cellsOf (ev S v)++cs.drop (off+(cellsOf (ev S v)).length))))]∧hr=[id]) hS hw ho (hΓ t i hi) h.1 h.2.1 (by
          rw [hx];simp only [wr];rw [hc];exact ⟨cs,rfl,h.2.2,by simp⟩)
        exact hv
      · exact h.elim
    |rp id k m off =>
      rw [hx] at h
      simp only [storeE] at h ⊢
      split at h
      · rename_i e k' xs hc
        try rw [hc]
        obtain ⟨h1,h2,h3,h4,h5,h6⟩:=h
        subst h2
        obtain ⟨g1,g2⟩:=dvsE_dead h3
        have hv:=ve_storeD (A:=A) hS hw ho (hΓ t i hi) g1 h1 hx hc (dvsE_spec (K:=fun d i=>d=(dvsE S (cellsOf (ev S v))).2.1∧i=(dvsE S (cellsOf (ev S v))).2.2) h3 ⟨rfl,rfl⟩) g2 h6 h4 h5
        simp only [getD_of_lt h5]
        exact hv
      · exact h.elim
    |_=>rw [hx] at h;exact h.elim
theorem boolE_sound (hΓ:TysOK P Γ) (hw:Want ops o S) {op:BinOp} {t c:TypeId} {x y:Operand} (ho:o.op=.binOp op t x y c) {a b:Bool} (hx:ev S x=.v (.bool a)) (hy:ev S y=.v (.bool b)) (h:(boolE S (Γ t) op a b).1):VE A P ops o (boolE S (Γ t) op a b).2 S:=by
  have hb:boolT (Γ t)=true→P.underlying t=some .bool:=fun h=>by
    cases hi:Γ t with
    |none=>rw [hi] at h;simp [boolT] at h
    |some i =>
      rw [hi] at h
      obtain ⟨d,hd,hok⟩:=(hΓ t i hi).under
      simp only [boolT] at h
      split at h
      · rename_i htd
        rw [htd] at hok
        simp only [TD.ok] at hok
        rw [hd,hok]
      · cases h
  cases op <;> simp only [boolE] at h ⊢ <;> first|exact h.elim|skip
  · exact VE.val2 hw (by simp [ho]) (by simp [ho,Op.operands]) (by simp [ho,Op.operands]) hx hy rfl fun ac w ex ey=>by
      simp [execOp,ho,ex,ey,eqGuard,binOp,run_equal_bool _ t a b (hb h),Result.andThen]
  · exact VE.val2 hw (by simp [ho]) (by simp [ho,Op.operands]) (by simp [ho,Op.operands]) hx hy rfl fun ac w ex ey=>by
      simp [execOp,ho,ex,ey,eqGuard,binOp,run_equal_bool _ t a b (hb h),Result.andThen]
theorem binE_sound (hΓ:TysOK P Γ) (hw:Want ops o S) {op:BinOp} {t c:TypeId} {x y:Operand} (ho:o.op=.binOp op t x y c) (h:(binE S (Γ t) op (ev S x) (ev S y)).1):VE A P ops o (binE S (Γ t) op (ev S x) (ev S y)).2 S:=by
  unfold binE at h
  split at h
  · rename_i k a k' b hx hy
    obtain ⟨v,rfl,hv⟩:=ve_binInt (A:=A) (P:=P) hw ho hx hy h.1 (intE_spec h.2)
    rw [hx,hy];exact hv
  · rename_i cs ds hx hy
    split at h
    · rename_i i hi
      split at h
      · rename_i ks hks
        have go:(op=.eql∨op=.neq)→(eqE ks cs ds).1→VE A P ops o { av:=.v (.bool (if op=.eql then (eqE ks cs ds).2 else !(eqE ks cs ds).2)),n:=S.n } S:=fun hop h=>by
          obtain ⟨b,rfl,hv⟩:=ve_eqAgg (A:=A) (K:=fun b=>b=(eqE ks cs ds).2) hw ho hop (hΓ t i hi) hks hx hy (eqE_spec h rfl)
          exact hv
        split at h
        · have:=go (.inl rfl) h;rw [hx,hy,hi];simp only [binE,hks];simpa using this
        · have:=go (.inr rfl) h;rw [hx,hy,hi];simp only [binE,hks];simpa using this
        · exact h.elim
      · exact h.elim
    · exact h.elim
  · rename_i a b hx hy
    rw [hx,hy]
    exact boolE_sound hΓ hw ho hx hy h
  · exact h.elim
theorem unE_sound (hw:Want ops o S) {u:UnOp} {t:TypeId} {x:Operand} (ho:o.op=.unOp u t x) (h:(unE S u (ev S x)).1):VE A P ops o (unE S u (ev S x)).2 S:=by
  unfold unE at h
  split at h
  · rename_i b hx;rw [hx];exact ve_not hw ho hx
  · rename_i k n hx;rw [hx];exact ve_neg hw ho hx
  · exact h.elim
theorem convE_sound (hΓ:TysOK P Γ) (hw:Want ops o S) {s t:TypeId} {x:Operand} (ho:o.op=.convert s t x) (h:(convE S (Γ s) (Γ t) (ev S x)).1):VE A P ops o (convE S (Γ s) (Γ t) (ev S x)).2 S:=by
  unfold convE at h
  split at h
  · rename_i i j k n hi hj hx
    split at h
    · rename_i k' hk'
      rw [hi,hj,hx]
      simp only [convE,hk']
      exact ve_convInt hw ho (hΓ s i hi) (hΓ t j hj) hk' hx
    · exact h.elim
  · exact h.elim
theorem extE_sound (hS:Wf S) (hw:Want ops o S) {x:Operand} {ix:Nat} (ho:o.op=.extract x ix) (h:(extE S (ev S x) ix).1):VE A P ops o (extE S (ev S x) ix).2 S:=by
  unfold extE at h
  split at h
  · rename_i cs hx
    split at h
    · rename_i c hc;rw [hx];simp only [extE,hc];exact ve_extract hS hw ho hx hc
    · exact h.elim
  · exact h.elim
theorem lenE_sound (hΓ:TysOK P Γ) (hw:Want ops o S) {t:TypeId} {x:Operand} (ho:o.op=.call { callee:=.builtin .len,args:=#[x],argTypes:=#[t] }) (h:(lenE S (Γ t) (ev S x)).1):VE A P ops o (lenE S (Γ t) (ev S x)).2 S:=by
  cases hi:Γ t with
  |none=>rw [hi] at h;exact h.elim
  |some i =>
    rw [hi] at h
    simp only [lenE] at h ⊢
    split at h
    · rename_i e htd
      have go:∀ (n:Int) (hr:List Nat),lenA S (fun m r=>m=n∧r=hr) (ev S x)→(match ev S x with|.v _=>False|.mp _=>False|_=>True)→VE A P ops o { av:=.v (.int .i64 n),hr:=hr,n:=S.n } S:=fun n hr h hty=>by
        obtain ⟨_,_,⟨rfl,rfl⟩,hv⟩:=ve_len (A:=A) hw ho (hΓ t i hi) (by rw [htd];trivial) h (by
          generalize ev S x=c at hty
          cases c <;> first|exact hty.elim|exact ⟨e,htd⟩)
        exact hv
      try rw [htd]
      try simp only
      split at h
      · rename_i hx;rw [hx] at go;try rw [hx]
        exact go 0 [] ⟨rfl,rfl⟩ trivial
      · rename_i hx;rw [hx] at go;try rw [hx]
        exact go 0 [] ⟨rfl,rfl⟩ trivial
      · rename_i xs hx;rw [hx] at go;try rw [hx]
        exact go _ [] ⟨rfl,rfl⟩ trivial
      · rename_i xs hx;rw [hx] at go;try rw [hx]
        exact go _ [] ⟨rfl,rfl⟩ trivial
      · rename_i xs hx;rw [hx] at go;try rw [hx]
        exact go _ [] ⟨rfl,rfl⟩ trivial
      · rename_i id hx
        split at h
        · rename_i e' k xs hc;rw [hx] at go;try rw [hx]
          try simp only [hc]
          exact go _ [id] (by simp only [lenA];rw [hc];exact ⟨_,_,_,rfl,by simp⟩) trivial
        · rename_i e' cs hc;try rw [hx]
          try simp only [hc]
          exact ve_lenW hw ho (hΓ t i hi) htd hx hc
        · exact h.elim
      · exact h.elim
    · rename_i htd
      try rw [htd]
      try simp only
      split at h
      · rename_i s hx
        obtain ⟨_,_,⟨rfl,rfl⟩,hv⟩:=ve_len (A:=A) (K:=fun m r=>m=s.size∧r=[]) hw ho (hΓ t i hi) (by rw [htd];trivial) (by rw [hx];exact ⟨s,rfl,rfl,rfl⟩) (by rw [hx];exact htd)
        try rw [hx]
        exact hv
      · exact h.elim
    · exact h.elim
theorem isSlice_spec {i:Option TI} (h:isSlice i=true):∃ i',i=some i'∧∃ e,i'.td=.slice e:=by
  cases i with
  |none=>simp [isSlice] at h
  |some i =>
    simp only [isSlice] at h
    split at h
    · rename_i e he;exact ⟨i,rfl,e,he⟩
    · cases h
theorem sliceTy {Γ:Tys} {t e:TypeId} {j:TI} (hs:isSlice (Γ t)=true) (hej:elemI Γ (Γ t)=some (e,j)):∃ i,Γ t=some i∧i.td=.slice e∧Γ e=some j:=by
  obtain ⟨i,hi,e',he'⟩:=isSlice_spec hs
  obtain ⟨i',hi',hel,hj⟩:=elemI_spec hej
  rw [hi] at hi';cases hi'
  rw [he'] at hel
  simp only [TD.elem,Option.some.injEq] at hel
  subst hel
  exact ⟨i,hi,he',hj⟩
theorem appE_sound (hΓ:TysOK P Γ) (hS:Wf S) (hw:Want ops o S) {t:TypeId} {x y:Operand} (ho:o.op=.call { callee:=.builtin .append,args:=#[x,y],argTypes:=#[t,t] }) (h:(appE S (elemI Γ (Γ t)) (isSlice (Γ t)) (ev S x) (ev S y)).1) :
    VE A P ops o (appE S (elemI Γ (Γ t)) (isSlice (Γ t)) (ev S x) (ev S y)).2 S:=by
  cases hej:elemI Γ (Γ t) with
  |none=>rw [hej] at h;exact h.elim
  |some p =>
    obtain ⟨e,j⟩:=p
    rw [hej] at h
    obtain ⟨h1,h2,h3,h4,h5,h6,h7,h8,h9⟩:=h
    obtain ⟨i,hi,htd,hj⟩:=sliceTy h1 hej
    refine ve_append hS hw ho (hΓ t i hi) htd (hΓ e j hj) h2 ?_ ?_ (notIn_spec h5) h6 h7 h8 h9
    · generalize ev S x=c at h3 ⊢
      cases c <;> simp only [dstE] at h3 ⊢ <;> simp only [dstA] <;> first|exact h3.elim|exact ⟨trivial,trivial⟩|exact ⟨rfl,rfl⟩|skip
      split at h3
      · rename_i e' k' xs hc;rw [hc];exact ⟨e',k',xs,rfl,h3.1,h3.2,by simp⟩
      · exact h3.elim
    · generalize ev S y=c at h4 ⊢
      cases c <;> simp only [elemsE] at h4 ⊢ <;> simp only [elemsA] <;> first|exact h4.elim|exact ⟨trivial,trivial⟩|exact ⟨rfl,rfl⟩|skip
      split at h4
      · rename_i e' k' xs hc;rw [hc];exact ⟨e',k',xs,rfl,by simp⟩
      · exact h4.elim
theorem boundE_spec {S:St} {x:Option Operand} {d:Int} {K:Int→Prop} (h:(boundE d (x.map (ev S))).1) (hk:K (boundE d (x.map (ev S))).2):optI S d K x:=by
  cases x with
  |none=>exact hk
  |some z =>
    simp only [Option.map_some] at h hk
    unfold boundE at h hk
    cases hz:ev S z with
    |v u =>
      rw [hz] at h hk
      cases u with
      |int k n=>exact ⟨k,n,hz,hk⟩
      |_=>exact h.elim
    |_=>rw [hz] at h;exact h.elim
theorem slE_spec {S:St} {x:AV} {K:List (List DV)→Prop} (h:(slE x).1) (hk:K (slE x).2):sliA S K x:=by
  cases x <;> simp only [slE] at h hk <;> simp only [sliA] <;> first|exact h.elim|exact hk
theorem sliceE_sound (hΓ:TysOK P Γ) (hw:Want ops o S) {t:TypeId} {x:Operand} {lo hi mx:Option Operand} (ho:o.op=.slice t x lo hi mx) (h:(sliceE S (elemI Γ (Γ t)) (isSlice (Γ t)) (ev S x) (lo.map (ev S)) (hi.map (ev S)) (mx.map (ev S))).1) :
    VE A P ops o (sliceE S (elemI Γ (Γ t)) (isSlice (Γ t)) (ev S x) (lo.map (ev S)) (hi.map (ev S)) (mx.map (ev S))).2 S:=by
  cases hej:elemI Γ (Γ t) with
  |none=>rw [hej] at h;exact h.elim
  |some p =>
    obtain ⟨e,j⟩:=p
    rw [hej] at h
    cases mx with
    |none =>
      simp only [Option.map_none,sliceE] at h ⊢
      obtain ⟨h1,h2,h3,h4,h5,h6,h7,h8⟩:=h
      obtain ⟨i,hi',htd,hj⟩:=sliceTy h1 hej
      obtain ⟨av,rfl,_,hv⟩:=ve_slice (A:=A) (K:=fun av=>av=.sl (((slE (ev S x)).2.take (boundE (slE (ev S x)).2.length (hi.map (ev S))).2.toNat).drop (boundE 0 (lo.map (ev S))).2.toNat)) hw ho (hΓ t i hi') htd (hΓ e j hj)
        (slE_spec h2 (by simp only [sliceA];exact boundE_spec h3 (boundE_spec h4 ⟨h5,h6,h7,h8,rfl⟩)))
      exact hv
    |some m =>
      simp only [Option.map_some,sliceE] at h ⊢
      obtain ⟨h1,h2,h3,h4,h5,h6,h7,h8⟩:=h
      obtain ⟨i,hi',htd,hj⟩:=sliceTy h1 hej
      obtain ⟨av,rfl,_,hv⟩:=ve_slice (A:=A) (K:=fun av=>av=.emp) hw ho (hΓ t i hi') htd (hΓ e j hj)
        (slE_spec h2 (by
          simp only [sliceA]
          refine ⟨by simpa using h3,by simpa using h4,boundE_spec h5 ⟨h6, ?_⟩⟩
          cases hm:ev S m with
          |v u =>
            rw [hm] at h7 h8
            cases u with
            |int k n=>exact ⟨k,n,rfl,h8,trivial⟩
            |_=>exact h7.elim
          |_=>rw [hm] at h7;exact h7.elim))
      exact hv
theorem sliceX_sound (hΓ:TysOK P Γ) (hS:Wf S) (hw:Want ops o S) {t:TypeId} {x:Operand} {lo hi mx:Option Operand} (ho:o.op=.slice t x lo hi mx) (h:(sliceX S (Γ t) (elemI Γ (Γ t)) (isSlice (Γ t)) (ev S x) (lo.map (ev S)) (hi.map (ev S)) (mx.map (ev S))).1) :
    VE A P ops o (sliceX S (Γ t) (elemI Γ (Γ t)) (isSlice (Γ t)) (ev S x) (lo.map (ev S)) (hi.map (ev S)) (mx.map (ev S))).2 S:=by
  unfold sliceX at h ⊢
  cases hp:ptrId (ev S x) with
  |true =>
    rw [hp] at h
    simp only at h ⊢
    unfold sliceP at h ⊢
    split at h
    · rename_i e j i hej hi'
      try rw [hej,hi']
      try simp only
      split at h
      · rename_i m e' htd
        try rw [htd]
        try simp only
        split at h
        · rename_i id off hx
          try rw [hx]
          try simp only
          cases lo with
          |some _=>exact h.elim
          |none =>
            cases mx with
            |some _=>exact h.elim
            |none =>
              simp only [Option.map_none] at h ⊢
              obtain ⟨h1,h2,h3,h4⟩:=h
              obtain ⟨i2,g1,g2,g3⟩:=elemI_spec hej
              rw [hi'] at g1
              cases g1
              rw [htd] at g2
              simp only [TD.elem,Option.some.injEq] at g2
              subst g2
              refine ve_slicePtr hS hw ho (hΓ t i hi') htd (hΓ _ j g3) hx ?_ h2 h3 h4
              cases hi with
              |none=>exact .inl ⟨rfl,rfl⟩
              |some z =>
                right
                simp only [Option.map_some] at h1 ⊢
                cases hz:ev S z with
                |v u =>
                  cases u with
                  |int k n=>exact ⟨z,k,rfl,by rw [boundE];exact hz⟩
                  |_=>rw [hz] at h1;exact h1.elim
                |_=>rw [hz] at h1;exact h1.elim
        · exact h.elim
      · exact h.elim
    · exact h.elim
  |false =>
    rw [hp] at h
    simp only at h ⊢
    cases hr:rowId (ev S x) with
    |false=>rw [hr] at h;exact sliceE_sound hΓ hw ho h
    |true =>
      rw [hr] at h
      simp only at h ⊢
      unfold sliceR at h ⊢
      split at h
      · rename_i e j id hej hx hmx
        have hm:mx=none:=by simpa using hmx
        subst hm
        try rw [hej,hx]
        try simp only [Option.map_none]
        split at h
        · rename_i e' k xs hc
          try rw [hc]
          try simp only
          obtain ⟨h1,h2,h3,h4,h5,h6,h7,h8⟩:=h
          obtain ⟨i,hi',htd,hj⟩:=sliceTy h1 hej
          subst h2
          exact ve_sliceRow hS hw ho (hΓ t i hi') htd (hΓ e j hj) hx hc (boundE_spec h3 (boundE_spec h4 ⟨h5,h6,h7,h8,by
            generalize ((boundE xs.length (hi.map (ev S))).2)=hh at h6 h7 ⊢
            cases lo with
            |none=>exact .inl ⟨by simp only [Option.map_none,boundE];omega,rfl⟩
            |some y =>
              by_cases hl:(boundE 0 (some (ev S y))).2 < xs.length
              · exact .inl ⟨hl,by simp only [Option.map_some,rslA];rw [if_pos hl]⟩
              · simp only [Option.map_some] at h6
                exact .inr ⟨by simp only [Option.map_some];omega,by simp only [Option.map_some,rslA];rw [if_neg hl]⟩⟩))
        · exact h.elim
      · exact h.elim
theorem srcE_spec {k:Nat} (hk:0 < k) {c:AV} (h:(srcE S k c).1) (hys:rowsOK k (srcE S k c).2.1) {F:Frm} {S2:St} {a:Act} {w:World} {ρ:Nat→Value} {own:Own} (H:Holds F S2 a w ρ own) (hag:∀ id ∈ (srcE S k c).2.2,S2.h id=S.h id) {x:Value} (hr:ARel w (okB w own ρ S2.h) ρ F.y c x) :
    ∃ flat,Src w (okB w own ρ S2.h) k (srcE S k c).2.1 x flat:=by
  cases c <;> simp only [srcE] at h hys hag ⊢ <;> first|exact h.elim|skip
  case sl ys=>cases hr with|sl hd=>exact src_sl hk hys hd
  case row id =>
    cases hc:S.h id with
    |none=>rw [hc] at h;exact h.elim
    |some o =>
      cases o <;> rw [hc] at h hys hag <;> simp only at h hys hag <;> first|exact h.elim|skip
      subst h
      have ho:=H.obj id _ ((hag id (by simp)).trans hc)
      cases hr with
      |row e1 e2=>rw [e1] at ho;exact src_row ho
  case rsl id k1 lo n =>
    cases hc:S.h id with
    |none=>rw [hc] at h;exact h.elim
    |some o =>
      cases o <;> rw [hc] at h hys hag <;> simp only at h hys hag <;> first|exact h.elim|skip
      obtain ⟨rfl,rfl,h3⟩:=h
      have ho:=H.obj id _ ((hag id (by simp)).trans hc)
      cases hr with
      |rsl e1 e2=>rw [e1] at ho;exact src_part ho h3 e2
theorem appX_sound (hΓ:TysOK P Γ) (hS:Wf S) (hw:Want ops o S) {t:TypeId} {x y:Operand} (ho:o.op=.call { callee:=.builtin .append,args:=#[x,y],argTypes:=#[t,t] }) (h:(appX S (elemI Γ (Γ t)) (isSlice (Γ t)) (ev S x) (ev S y)).1) :
    VE A P ops o (appX S (elemI Γ (Γ t)) (isSlice (Γ t)) (ev S x) (ev S y)).2 S:=by
  unfold appX at h ⊢
  cases hr:rslId (ev S x) with
  |false =>
    rw [hr] at h
    cases hs:srcW S (ev S y) with
    |none=>rw [hs] at h;exact appE_sound hΓ hS hw ho h
    |some p =>
      rw [hs] at h
      simp only at h ⊢
      unfold appW at h ⊢
      obtain ⟨g1,e2,g2⟩:=srcW_spec hs
      cases hej:elemI Γ (Γ t) with
      |none=>rw [hej] at h;exact h.elim
      |some q =>
        obtain ⟨e,j⟩:=q
        rw [hej] at h
        obtain ⟨h1,h2,h3,h4,h5,h6⟩:=h
        obtain ⟨i,hi',htd,hj⟩:=sliceTy h1 hej
        exact ve_appendW hS hw ho (hΓ t i hi') htd (hΓ _ j hj) h2 h3 g1 g2 h4 h5 h6
  |true =>
    rw [hr] at h
    simp only at h ⊢
    unfold appR at h ⊢
    split at h
    · rename_i e j id k' lo n hej hx
      try rw [hej,hx]
      try simp only
      split at h
      · rename_i e' k xs hc
        try rw [hc]
        try simp only
        obtain ⟨h1,h2,rfl,rfl,rfl,rfl,h7,h8,h9,h10,h11,h12⟩:=h
        obtain ⟨i,hi',htd,hj⟩:=sliceTy h1 hej
        exact ve_appendR hS hw ho (hΓ t i hi') htd (hΓ _ j hj) h2 hx hc h7 (fun F S2 a w ρ own H hag v hv=>srcE_spec h2 h8 h10 H hag hv) h9 h10 h11 h12
      · exact h.elim
    · exact h.elim
theorem copyE_sound (hΓ:TysOK P Γ) (hS:Wf S) (hw:Want ops o S) {t t':TypeId} {x y:Operand} (ho:o.op=.call { callee:=.builtin .copy,args:=#[x,y],argTypes:=#[t,t'] }) (h:(copyE S (elemI Γ (Γ t)) (isSlice (Γ t)) (ev S x) (ev S y)).1) :
    VE A P ops o (copyE S (elemI Γ (Γ t)) (isSlice (Γ t)) (ev S x) (ev S y)).2 S:=by
  unfold copyE at h ⊢
  split at h
  · rename_i e j id lo nn hej hd
    try rw [hej,hd]
    try simp only
    split at h
    · rename_i e' k xs hc
      try rw [hc]
      try simp only
      obtain ⟨h1,h2,rfl,h4,h5,h6,h7,h8,h9⟩:=h
      obtain ⟨i,hi',htd,hj⟩:=sliceTy h1 hej
      have hnn:ev S x=.row id→nn.getD xs.length=xs.length∧lo=0:=fun he=>by
        rw [he] at hd;simp only [dstI,Option.some.injEq,Prod.mk.injEq] at hd;obtain ⟨_,rfl,rfl⟩:=hd;exact ⟨rfl,rfl⟩
      exact ve_copy hS hw ho (hΓ t i hi') htd (hΓ e j hj) h2 (h4.imp (fun he=>⟨he,(hnn he).2,(hnn he).1⟩) fun he=>he) hc h5 h6 h8 h9 fun F S2 a w ρ own H hag v hr=>srcE_spec h2 h7 h8 H hag hr
    · exact h.elim
  · exact h.elim
theorem copyX_sound (hΓ:TysOK P Γ) (hS:Wf S) (hw:Want ops o S) {t t':TypeId} {x y:Operand} (ho:o.op=.call { callee:=.builtin .copy,args:=#[x,y],argTypes:=#[t,t'] }) (h:(copyX S (elemI Γ (Γ t)) (isSlice (Γ t)) (ev S x) (ev S y)).1) :
    VE A P ops o (copyX S (elemI Γ (Γ t)) (isSlice (Γ t)) (ev S x) (ev S y)).2 S:=by
  unfold copyX at h ⊢
  split at h
  · rename_i hp
    try rw [hp]
    try simp only at h ⊢
    unfold copyP at h ⊢
    split at h
    · rename_i e j id off n c hej hx
      try rw [hej,hx]
      try simp only
      split at h
      · rename_i cs hc
        try rw [hc]
        try simp only
        obtain ⟨h1,h2,h3,h4,h5,h6⟩:=h
        obtain ⟨i,hi',htd,hj⟩:=sliceTy h1 hej
        exact ve_copyPsl hS hw ho (hΓ t i hi') htd (hΓ e j hj) h2 hx hc h3 h5 h6 fun F S2 a w ρ own H hag v hr=>srcE_spec (by omega) h4 h5 H hag hr
      · exact h.elim
    · exact h.elim
  · rename_i hp
    try rw [hp]
    exact copyE_sound hΓ hS hw ho h
theorem clearE_sound (hΓ:TysOK P Γ) (hS:Wf S) (hw:Want ops o S) {t:TypeId} {x:Operand} (ho:o.op=.call { callee:=.builtin .clear,args:=#[x],argTypes:=#[t] }) (h:(clearE S (elemI Γ (Γ t)) (isSlice (Γ t)) (ev S x)).1) :
    VE A P ops o (clearE S (elemI Γ (Γ t)) (isSlice (Γ t)) (ev S x)).2 S:=by
  unfold clearE at h ⊢
  split at h
  · rename_i e j id k' lo n hej hx
    try rw [hej,hx]
    try simp only
    split at h
    · rename_i e' k xs hc
      try rw [hc]
      try simp only
      obtain ⟨h1,h2,rfl,rfl,h5,h6,h7⟩:=h
      obtain ⟨i,hi',htd,hj⟩:=sliceTy h1 hej
      obtain ⟨ds,hz⟩:=Option.isSome_iff_exists.1 h7
      have hd:dvZ j.zero=ds:=by unfold dvZ;rw [hz];rfl
      rw [hd]
      exact ve_clear hS hw ho (hΓ t i hi') htd (hΓ e j hj) h2 hx hc h5 h6 hz
    · exact h.elim
  · exact h.elim
theorem bsE_sound (hΓ:TysOK P Γ) (hS:Wf S) (hw:Want ops o S) {t:TypeId} {n:Nat} {ps:Array (Nat × Operand)} (ho:o.op=.buildSlice t n ps) (h:(bsE S (elemI Γ (Γ t)) (isSlice (Γ t)) n (ps.toList.map fun p=>(p.1,ev S p.2))).1) :
    VE A P ops o (bsE S (elemI Γ (Γ t)) (isSlice (Γ t)) n (ps.toList.map fun p=>(p.1,ev S p.2))).2 S:=by
  cases hej:elemI Γ (Γ t) with
  |none=>rw [hej] at h;exact h.elim
  |some p =>
    obtain ⟨e,j⟩:=p
    rw [hej] at h
    simp only [bsE] at h ⊢
    by_cases hn:n=0
    · rw [if_pos hn] at h ⊢
      subst hn
      obtain ⟨i,hi',htd,hj⟩:=sliceTy h.1 hej
      exact ve_buildEmpty hw ho (Array.toList_eq_nil_iff.1 (List.map_eq_nil_iff.1 h.2)) (hΓ t i hi') htd (hΓ e j hj)
    · rw [if_neg hn] at h ⊢
      cases hdp:j.deep with
      |true =>
        rw [hdp] at h
        simp only [cond_true] at h ⊢
        obtain ⟨h1,h2,h3,h4⟩:=h
        obtain ⟨i,hi',htd,hj⟩:=sliceTy h1 hej
        exact ve_buildW hS hw ho (hΓ t i hi') htd (hΓ e j hj) h2 (Nat.pos_of_ne_zero hn) h3 (fillE_spec (K:=fun cs=>cs=_) h4 rfl)
      |false =>
      rw [hdp] at h
      simp only [cond_false] at h ⊢
      obtain ⟨h1,h2,h3,h4,h5⟩:=h
      obtain ⟨i,hi',htd,hj⟩:=sliceTy h1 hej
      obtain ⟨ds,dead,⟨rfl,rfl⟩,hv⟩:=ve_buildSlice (A:=A) (K:=fun ds dead=>ds=(dvsE S (fillE (placeN j.cells) (zeros j.zero n) (ps.toList.map fun p=>(p.1,ev S p.2))).2).2.1∧dead=(dvsE S (fillE (placeN j.cells) (zeros j.zero n) (ps.toList.map fun p=>(p.1,ev S p.2))).2).2.2) hS hw ho (hΓ t i hi') htd (hΓ e j hj) h2 (Nat.pos_of_ne_zero hn) h3
        (fillE_spec h4 (dvsE_spec h5 ⟨rfl,rfl⟩))
      exact hv
theorem makeE_sound (hΓ:TysOK P Γ) (hS:Wf S) (hw:Want ops o S) {t:TypeId} {x y:Operand} (ho:o.op=.makeSlice t x y) (h:(makeE S (elemI Γ (Γ t)) (isSlice (Γ t)) (ev S x) (ev S y)).1) :
    VE A P ops o (makeE S (elemI Γ (Γ t)) (isSlice (Γ t)) (ev S x) (ev S y)).2 S:=by
  cases hej:elemI Γ (Γ t) with
  |none=>rw [hej] at h;exact h.elim
  |some p =>
    obtain ⟨e,j⟩:=p
    rw [hej] at h
    unfold makeE at h ⊢
    split at h
    · rename_i e' j' k n k' m hp hx hy
      simp only [Option.some.injEq,Prod.mk.injEq] at hp
      obtain ⟨rfl,rfl⟩:=hp
      try rw [hx,hy]
      try simp only
      cases hz:isNil j.zero with
      |true =>
        rw [hz] at h
        simp only [cond_true] at h ⊢
        obtain ⟨h1,rfl,h2,h3,h4⟩:=h
        obtain ⟨i,hi',htd,hj⟩:=sliceTy h1 hej
        exact ve_makeCs hS hw ho (hΓ t i hi') htd (hΓ e j hj) (isNil_spec hz) hx hy h2 h3 h4
      |false =>
        rw [hz] at h
        simp only [cond_false] at h ⊢
        obtain ⟨h1,rfl,h2,h3,h4,h5,h6⟩:=h
        obtain ⟨i,hi',htd,hj⟩:=sliceTy h1 hej
        obtain ⟨ds,hds⟩:=Option.isSome_iff_exists.1 h6
        have e1:dvZ j.zero=ds:=by simp [dvZ,hds]
        rw [e1]
        exact ve_makeRow hS hw ho (hΓ t i hi') htd (hΓ e j hj) h5 hx hy h2 h3 h4 hds
    · exact h.elim
theorem callE_sound {Φ:Ctr} (hΓ:TysOK P Γ) (hΦ:Ctr.OK A P Φ) (hS:Wf S) (hw:Want ops o S) {c:Call} (ho:o.op=.call c) (h:(callE Γ Φ S c).1):VE A P ops o (callE Γ Φ S c).2 S:=by
  obtain ⟨cl,args,tys⟩:=c
  have arr:∀ {α:Type} {a:Array α} {l:List α},a.toList=l→a=l.toArray:=fun h=>by rw [← h]
  cases cl with
  |invoke r n=>exact h.elim
  |builtin b =>
    cases b <;> first|exact h.elim|skip
    case append =>
      simp only [callE] at h ⊢
      split at h
      · rename_i x y t t' ha ht
        try rw [ha,ht]
        try simp only
        split at h
        · rename_i htt
          subst htt
          try rw [if_pos rfl]
          exact appX_sound hΓ hS hw (by rw [ho,arr ha,arr ht]) h
        · exact h.elim
      · exact h.elim
    case copy =>
      simp only [callE] at h ⊢
      split at h
      · rename_i x y t t' ha ht
        try rw [ha,ht]
        exact copyX_sound hΓ hS hw (by rw [ho,arr ha,arr ht]) h
      · exact h.elim
    case clear =>
      simp only [callE] at h ⊢
      split at h
      · rename_i x t ha ht
        try rw [ha,ht]
        exact clearE_sound hΓ hS hw (by rw [ho,arr ha,arr ht]) h
      · exact h.elim
    case len =>
      simp only [callE] at h ⊢
      split at h
      · rename_i x t ha ht
        try rw [ha,ht]
        exact lenE_sound hΓ hw (by rw [ho,arr ha,arr ht]) h
      · exact h.elim
    case max =>
      simp only [callE] at h ⊢
      split at h
      · rename_i x y t t' ha ht
        try rw [ha,ht]
        simp only [maxE] at h ⊢
        split at h
        · rename_i k a k' b hx hy;try rw [hx,hy]
          exact ve_max hw (by rw [ho,arr ha,arr ht]) hx hy
        · exact h.elim
      · exact h.elim
    case min =>
      simp only [callE] at h ⊢
      split at h
      · rename_i x y t t' ha ht
        try rw [ha,ht]
        simp only [minE] at h ⊢
        split at h
        · rename_i k a k' b hx hy;try rw [hx,hy]
          exact ve_min hw (by rw [ho,arr ha,arr ht]) hx hy
        · exact h.elim
      · exact h.elim
  |value g =>
    simp only [callE] at h ⊢
    split at h
    · rename_i f caps hg
      try rw [hg]
      exact hΦ S f _ h hS ops o g args tys caps hw ho hg rfl
    · exact h.elim
theorem buildX_sound (hΓ:TysOK P Γ) (hS:Wf S) (hw:Want ops o S) {t:TypeId} {ps:Array (Nat × Operand)} (ho:o.op=.build t ps) (h:(buildX S (elemI Γ (Γ t)) (Γ t) (ps.toList.map fun p=>(p.1,ev S p.2))).1) :
    VE A P ops o (buildX S (elemI Γ (Γ t)) (Γ t) (ps.toList.map fun p=>(p.1,ev S p.2))).2 S:=by
  unfold buildX at h ⊢
  cases hb:arrB (Γ t) with
  |true =>
    rw [hb] at h
    simp only at h ⊢
    unfold buildA at h ⊢
    split at h
    · rename_i e j i hej hi
      try rw [hej,hi]
      try simp only
      split at h
      · rename_i m e' htd
        try rw [htd]
        try simp only
        obtain ⟨i2,g1,g2,g3⟩:=elemI_spec hej
        rw [hi] at g1
        cases g1
        rw [htd] at g2
        simp only [TD.elem,Option.some.injEq] at g2
        subst g2
        obtain ⟨cs,rfl,hv⟩:=ve_buildArr (A:=A) (K:=fun cs=>cs=(fillE (placeN j.cells) i.zero (ps.toList.map fun p=>(p.1,ev S p.2))).2) hS hw ho (hΓ t i hi) htd (hΓ _ j g3) (fillE_spec h rfl)
        exact hv
      · exact h.elim
    · exact h.elim
  |false =>
    rw [hb] at h
    simp only at h ⊢
    cases hi:Γ t with
    |none=>rw [hi] at h;exact h.elim
    |some i =>
      rw [hi] at h
      simp only [buildE] at h ⊢
      split at h
      · rename_i fs htd
        try rw [htd]
        obtain ⟨cs,rfl,hv⟩:=ve_build (A:=A) (K:=fun cs=>cs=(fillE (placeL fs) i.zero (ps.toList.map fun p=>(p.1,ev S p.2))).2) hS hw ho (hΓ t i hi) htd (fillE_spec h rfl)
        exact hv
      · exact h.elim
theorem indexE_sound (hΓ:TysOK P Γ) (hS:Wf S) (hw:Want ops o S) {t:TypeId} {x ix:Operand} (ho:o.op=.index t x ix) (h:(indexE S (elemI Γ (Γ t)) (Γ t) (ev S ix) (ev S x)).1) :
    VE A P ops o (indexE S (elemI Γ (Γ t)) (Γ t) (ev S ix) (ev S x)).2 S:=by
  unfold indexE at h ⊢
  split at h
  · rename_i e j i hej hi'
    try rw [hej,hi']
    try simp only
    split at h
    · rename_i m e' htd
      try rw [htd]
      try simp only
      split at h
      · rename_i cs k n hx hn
        try rw [hx,hn]
        try simp only
        obtain ⟨h1,h2,h3⟩:=h
        obtain ⟨i2,g1,g2,g3⟩:=elemI_spec hej
        rw [hi'] at g1
        cases g1
        rw [htd] at g2
        simp only [TD.elem,Option.some.injEq] at g2
        subst g2
        exact ve_index hS hw ho (hΓ t i hi') htd (hΓ _ j g3) hx hn h1 h2 h3
      · exact h.elim
    · exact h.elim
  · exact h.elim
theorem partE_sound (hΓ:TysOK P Γ) (hS:Wf S) (hw:Want ops o S) {t:TypeId} {x:Operand} {f:Nat} (ho:o.op=.field t x f) (h:(partE Γ S (Γ t) f (ev S x)).1) :
    VE A P ops o (partE Γ S (Γ t) f (ev S x)).2 S:=by
  unfold partE at h ⊢
  cases hi:Γ t with
  |none=>rw [hi] at h;exact h.elim
  |some i =>
    rw [hi] at h
    simp only at h ⊢
    split at h
    · rename_i fs htd
      try rw [htd]
      try simp only
      split at h
      · rename_i p hf
        try rw [hf]
        try simp only
        split at h
        · rename_i j hj
          try rw [hj]
          try simp only
          split at h
          · rename_i cs hx
            try rw [hx]
            try simp only
            exact ve_field hS hw ho (hΓ t i hi) htd hf (hΓ _ j hj) hx h
          · exact h.elim
        · exact h.elim
      · exact h.elim
    · exact h.elim
theorem lookE_sound (hΓ:TysOK P Γ) (hS:Wf S) (hw:Want ops o S) {t:TypeId} {x k:Operand} {c:Bool} (ho:o.op=.lookup t x k c) (h:(lookE S (Γ t) c (ev S k) (ev S x)).1) :
    VE A P ops o (lookE S (Γ t) c (ev S k) (ev S x)).2 S:=by
  unfold lookE at h ⊢
  cases hi:Γ t with
  |none=>rw [hi] at h;exact h.elim
  |some i =>
    rw [hi] at h
    simp only at h ⊢
    cases hq:i.key with
    |none=>rw [hq] at h;exact h.elim
    |some q =>
      rw [hq] at h
      simp only at h ⊢
      cases hx:ev S x <;> rw [hx] at h <;> first|exact h.elim|skip
      rename_i id
      simp only at h ⊢
      cases hk:(ev S k).toV with
      |none=>rw [hk] at h;exact h.elim
      |some kv =>
        rw [hk] at h
        simp only at h ⊢
        split at h
        · rename_i es hm
          simp only [hm] at h ⊢
          obtain ⟨h1,h2,h3⟩:=h
          obtain ⟨kt,e,e1,e2,e3⟩:=(hΓ t i hi).key q hq
          exact ve_lookup hS hw ho (hΓ t i hi) e1 e2 e3 hx hm h1 hk h2 h3
        · exact h.elim
theorem mupE_sound (hΓ:TysOK P Γ) (hS:Wf S) (hw:Want ops o S) {t:TypeId} {x k v:Operand} (ho:o.op=.mapUpdate t x k v) (h:(mupE S (Γ t) (ev S k) (ev S v) (ev S x)).1) :
    VE A P ops o (mupE S (Γ t) (ev S k) (ev S v) (ev S x)).2 S:=by
  unfold mupE at h ⊢
  cases hi:Γ t with
  |none=>rw [hi] at h;exact h.elim
  |some i =>
    rw [hi] at h
    simp only at h ⊢
    cases hq:i.key with
    |none=>rw [hq] at h;exact h.elim
    |some q =>
      rw [hq] at h
      simp only at h ⊢
      cases hx:ev S x <;> rw [hx] at h <;> first|exact h.elim|skip
      rename_i id
      simp only at h ⊢
      cases hk:(ev S k).toV with
      |none=>rw [hk] at h;exact h.elim
      |some kv =>
        rw [hk] at h
        simp only at h ⊢
        cases hv:(ev S v).toV with
        |none=>rw [hv] at h;exact h.elim
        |some u =>
          rw [hv] at h
          simp only at h ⊢
          split at h
          · rename_i es hm
            simp only [hm] at h ⊢
            obtain ⟨h1,h2,h3⟩:=h
            obtain ⟨kt,e,e1,e2,e3⟩:=(hΓ t i hi).key q hq
            exact ve_mapUpdate hS hw ho (hΓ t i hi) e1 e2 hx hm h1 hk h2 hv h3
          · exact h.elim
theorem entE_sound (hΓ:TysOK P Γ) (hS:Wf S) (hw:Want ops o S) {t:TypeId} {x k:Operand} (ho:o.op=.mapEntry t x k) (h:(entE S (Γ t) (ev S k) (ev S x)).1) :
    VE A P ops o (entE S (Γ t) (ev S k) (ev S x)).2 S:=by
  unfold entE at h ⊢
  cases hi:Γ t with
  |none=>rw [hi] at h;exact h.elim
  |some i =>
    rw [hi] at h
    simp only at h ⊢
    cases hq:i.key with
    |none=>rw [hq] at h;exact h.elim
    |some q =>
      rw [hq] at h
      simp only at h ⊢
      cases hx:ev S x <;> rw [hx] at h <;> first|exact h.elim|skip
      rename_i id
      simp only at h ⊢
      cases hk:(ev S k).toV with
      |none=>rw [hk] at h;exact h.elim
      |some kv =>
        rw [hk] at h
        simp only at h ⊢
        cases hv:q.z.toV with
        |none=>rw [hv] at h;exact h.elim
        |some u =>
          rw [hv] at h
          simp only at h ⊢
          split at h
          · rename_i es hm
            simp only [hm] at h ⊢
            obtain ⟨h1,h2,h3,h4⟩:=h
            obtain ⟨kt,e,e1,e2,e3⟩:=(hΓ t i hi).key q hq
            exact ve_mapEntry hS hw ho (hΓ t i hi) e1 e2 e3 hv hx hm h1 hk h2 h3 h4
          · exact h.elim
theorem ensE_sound (hS:Wf S) (hw:Want ops o S) {t:TypeId} {x s v:Operand} (ho:o.op=.entryStore t x s v) (h:(ensE S (ev S s) (ev S v) (ev S x)).1) :
    VE A P ops o (ensE S (ev S s) (ev S v) (ev S x)).2 S:=by
  unfold ensE at h ⊢
  cases hx:ev S x <;> rw [hx] at h <;> first|exact h.elim|skip
  rename_i id
  simp only at h ⊢
  cases hs:ev S s <;> rw [hs] at h <;> first|exact h.elim|skip
  rename_i sv
  cases sv <;> first|exact h.elim|skip
  simp only at h ⊢
  cases hv:(ev S v).toV with
  |none=>rw [hv] at h;exact h.elim
  |some u =>
    rw [hv] at h
    simp only at h ⊢
    split at h
    · rename_i es hm
      simp only [hm] at h ⊢
      exact ve_entryStore hS hw ho hx hm hs hv h.1 h.2
    · exact h.elim
theorem opE_sound {Φ:Ctr} (hΓ:TysOK P Γ) (hΦ:Ctr.OK A P Φ) (hS:Wf S) (hw:Want ops o S) (h:(opE Γ Φ S o.op).1):VE A P ops o (opE Γ Φ S o.op).2 S:=by
  cases ho:o.op with
  |move x=>exact ve_move hS hw (.inl ho)
  |assign x=>exact ve_move hS hw (.inr ho)
  |load t x=>rw [ho] at h;exact loadE_sound hΓ hS hw ho h
  |fieldAddr t x f=>rw [ho] at h;exact fieldE_sound hΓ hS hw ho h
  |indexAddr t x ix=>rw [ho] at h;exact idxE_sound hΓ hS hw ho h
  |alloc t =>
    rw [ho] at h
    simp only [opE] at h ⊢
    cases hi:Γ t with
    |none=>rw [hi] at h;exact h.elim
    |some i=>exact ve_alloc hw ho (hΓ t i hi)
  |box t x=>rw [ho] at h;exact ve_box hS hw ho h
  |store t x v=>rw [ho] at h;exact storeE_sound hΓ hS hw ho h
  |binOp op t x y c=>rw [ho] at h;exact binE_sound hΓ hw ho h
  |unOp u t x=>rw [ho] at h;exact unE_sound hw ho h
  |convert s t x=>rw [ho] at h;exact convE_sound hΓ hw ho h
  |extract x ix=>rw [ho] at h;exact extE_sound hS hw ho h
  |makeFunc f first caps =>
    rw [ho] at h
    cases f <;> first|exact h.elim|skip
    simp only [opE] at h ⊢
    cases hf1:first.toList with
    |nil =>
      simp only [List.map_nil,mkFn]
      have e:first=#[]:=by apply Array.toList_inj.1;exact hf1
      subst e
      exact ve_makeFunc hS hw ho
    |cons x xs =>
      rw [hf1] at h
      cases hf2:caps.toList with
      |nil =>
        have e:caps=#[]:=by apply Array.toList_inj.1;exact hf2
        subst e
        simp only [List.map_cons,List.map_nil,mkFn]
        have:=ve_bound (A:=A) (P:=P) hS hw ho
        rw [hf1] at this
        exact this
      |cons y ys=>rw [hf2] at h;exact h.elim
  |nilCheck x =>
    rw [ho] at h
    simp only [opE] at h ⊢
    refine ve_nilCheck hS hw ho ?_
    generalize ev S x=c at h
    cases c <;> simp only [isAddr] at h <;> first|exact h.elim|skip
    · exact .inr (.inl ⟨_,_,rfl⟩)
    · exact .inl ⟨_,_,rfl⟩
    · exact .inr (.inr ⟨_,_,_,_,rfl⟩)
  |build t ps=>rw [ho] at h;exact buildX_sound hΓ hS hw ho h
  |buildSlice t n ps=>rw [ho] at h;exact bsE_sound hΓ hS hw ho h
  |slice t x lo hi mx=>rw [ho] at h;exact sliceX_sound hΓ hS hw ho h
  |makeSlice t x y=>rw [ho] at h;exact makeE_sound hΓ hS hw ho h
  |index t x ix=>rw [ho] at h;exact indexE_sound hΓ hS hw ho h
  |field t x f=>rw [ho] at h;exact partE_sound hΓ hS hw ho h
  |makeMap t r =>
    cases r with
    |none=>exact ve_makeMap hw ho
    |some _=>rw [ho] at h;exact h.elim
  |lookup t x k c=>rw [ho] at h;exact lookE_sound hΓ hS hw ho h
  |mapUpdate t x k v=>rw [ho] at h;exact mupE_sound hΓ hS hw ho h
  |call c=>rw [ho] at h;exact callE_sound hΓ hΦ hS hw ho h
  |mapEntry t x k=>rw [ho] at h;exact entE_sound hΓ hS hw ho h
  |entryStore t x s v=>rw [ho] at h;exact ensE_sound hS hw ho h
  |_=>rw [ho] at h;exact h.elim
end sound
end Go.Sym
namespace Go.Sym
open Go
variable {A : Frm → Prop} {P : Program}
def St.lit (S:St) (d:Nat) (b:Bool):St:={ t:=upd S.t d (.v (.bool b)),h:=S.h,n:=S.n,j:=S.j,d:=S.d,m:=S.m }
def boolA:AV→Option Bool
  |.v (.bool b)=>some b
  |_=>none
theorem boolA_spec {a:AV} {b:Bool} (h:boolA a=some b):a=.v (.bool b):=by
  unfold boolA at h
  split at h
  · cases h;rfl
  · cases h
theorem St.lit_eq {S:St} {d:Nat} {b:Bool} (h:S.t d=.v (.bool b)):S.lit d b=S:=by
  cases S
  simp only [St.lit,St.mk.injEq,and_true,true_and]
  funext i
  by_cases hi:i=d
  · subst hi;rw [upd_same];exact h.symm
  · rw [upd_ne _ _ _ _ hi]
def guardA:AV→Option (Option Bool)
  |.v (.bool b)=>some (some b)
  |.tup []=>some none
  |_=>none
theorem guardA_some {a:AV} {b:Bool} (h:guardA a=some (some b)):a=.v (.bool b):=by
  unfold guardA at h
  split at h
  · cases h;rfl
  · cases h
  · cases h
theorem guardA_none {a:AV} (h:guardA a=some none):a=.tup []:=by
  unfold guardA at h
  split at h
  · cases h
  · rfl
  · cases h
def asPick:Op→Option (Operand × Operand × Operand)
  |.pick c x y=>some (c,x,y)
  |_=>none
theorem asPick_spec {op:Op} {p:Operand × Operand × Operand} (h:asPick op=some p):op=.pick p.1 p.2.1 p.2.2:=by
  unfold asPick at h
  split at h
  · cases h;rfl
  · cases h
def vcOp (Γ:Tys) (Φ:Ctr) (o:Oper) (rest:St→List Eff→Prop) (S:St) (es:List Eff):Prop :=
  match asPick o.op with
  |none=>(opE Γ Φ S o.op).1∧rest (S.app o.dst (opE Γ Φ S o.op).2) ((opE Γ Φ S o.op).2 :: es)
  |some p=>match boolA (ev S p.1) with
    |none=>False
    |some b=>if b=true then rest (S.app o.dst { av:=ev S p.2.1,n:=S.n }) ({ av:=ev S p.2.1,n:=S.n } :: es) else rest (S.app o.dst { av:=ev S p.2.2,n:=S.n }) ({ av:=ev S p.2.2,n:=S.n } :: es)
def vcEnd (draw:Bool) (ops:Array Oper) (Q:St→Prop) (S:St) (es:List Eff):Prop:=match draw with
  |false=>Q S
  |true=>drawB ops es.reverse=true∧Q S
theorem vcEnd_spec {draw:Bool} {ops:Array Oper} {Q:St→Prop} {S:St} {es:List Eff} (h:vcEnd draw ops Q S es):(draw=true→drawB ops es.reverse=true)∧Q S:=by
  cases draw with
  |false=>exact ⟨fun h=>(by cases h),h⟩
  |true=>exact ⟨fun _=>h.1,h.2⟩
def vcOps (Γ:Tys) (Φ:Ctr) (ops:Array Oper) (draw:Bool) (Q:St→Prop):List Oper→St→List Eff→Prop
  |[],S,es=>vcEnd draw ops Q S es
  |o :: r,S,es=>match o.guard with
    |none=>vcOp Γ Φ o (vcOps Γ Φ ops draw Q r) S es
    |some g=>match (ops[g.1]?).bind (·.dst) with
      |none=>False
      |some d=>match guardA (S.t d) with
        |none=>False
        |some none=>vcOps Γ Φ ops draw Q r (S.app o.dst { av:=.tup [],n:=S.n }) ({ av:=.tup [],n:=S.n } :: es)
        |some (some c)=>if c=g.2 then vcOp Γ Φ o (vcOps Γ Φ ops draw Q r) (S.lit d g.2) es else vcOps Γ Φ ops draw Q r ((S.lit d (!g.2)).app o.dst { av:=.tup [],n:=S.n }) ({ av:=.tup [],n:=S.n } :: es)
theorem vcOp_sound {Γ:Tys} {Φ:Ctr} (hΓ:TysOK P Γ) (hΦ:Ctr.OK A P Φ) {ops:Array Oper} {o:Oper} {rest:St→List Eff→Prop} {S:St} {es:List Eff} (hS:Wf S) (hw:Want ops o S) (h:vcOp Γ Φ o rest S es) :
    ∃ e,VE A P ops o e S∧rest (S.app o.dst e) (e :: es):=by
  unfold vcOp at h
  split at h
  · exact ⟨_,opE_sound hΓ hΦ hS hw h.1,h.2⟩
  · rename_i p hp
    have hp:=asPick_spec hp
    split at h
    · exact h.elim
    · rename_i b hb
      have hv:=ve_pick (A:=A) (P:=P) hS hw hp (boolA_spec hb)
      split at h
      · rename_i hbt;subst hbt;exact ⟨_,hv,h⟩
      · rename_i hbt
        have:b=false:=by simpa using hbt
        subst this;exact ⟨_,hv,h⟩
theorem vcOps_sound {Γ:Tys} {Φ:Ctr} (hΓ:TysOK P Γ) (hΦ:Ctr.OK A P Φ) {ops:Array Oper} {draw:Bool} {Q:St→Prop}:∀ (l:List Oper) (S:St) (es:List Eff),Wf S→vcOps Γ Φ ops draw Q l S es →
    Run A P ops l S es fun S' es'=>(draw=true→drawB ops es'.reverse=true)∧Q S'
  |[],S,es,_,h=>vcEnd_spec h
  |o :: r,S,es,hS,h=>by
    have go:Want ops o S→vcOp Γ Φ o (vcOps Γ Φ ops draw Q r) S es→Run A P ops (o :: r) S es fun S' es'=>(draw=true→drawB ops es'.reverse=true)∧Q S':=fun hw h=>by
      obtain ⟨e,hv,hr⟩:=vcOp_sound hΓ hΦ hS hw h
      exact ⟨e,hv,vcOps_sound hΓ hΦ r _ _ (hS.app hv.ids) hr⟩
    simp only [vcOps] at h
    split at h
    · rename_i hg;exact go (.inl hg) h
    · rename_i g hg
      split at h
      · exact h.elim
      · rename_i d hd
        split at h
        · exact h.elim
        · rename_i hc
          have hv:VE A P ops o { av:=.tup [],n:=S.n } S:=VE.skip ⟨g.1,g.2,d,hg,hd,.inr (guardA_none hc)⟩
          exact ⟨_,hv,vcOps_sound hΓ hΦ r _ _ (hS.app hv.ids) h⟩
        · rename_i c hc
          have hc:=guardA_some hc
          split at h
          · rename_i hcb
            subst hcb
            rw [St.lit_eq hc] at h
            exact go (.inr ⟨_,_,d,hg,hd,hc⟩) h
          · rename_i hcb
            have hcn:(!g.2)=c:=by cases hg2:g.2 <;> cases hcc:c <;> simp_all
            rw [hcn,St.lit_eq hc] at h
            have hv:VE A P ops o { av:=.tup [],n:=S.n } S:=VE.skip ⟨g.1,g.2,d,hg,hd,.inl ⟨c,hc,fun e=>hcb e.symm⟩⟩
            exact ⟨_,hv,vcOps_sound hΓ hΦ r _ _ (hS.app hv.ids) h⟩
theorem Wf.lit {S:St}:True:=trivial
structure Env (A:Frm→Prop) (P:Program) (Γ:Tys) (Φ:Ctr):Prop where
  tys:TysOK P Γ
  ctr:Ctr.OK A P Φ
  mixed:P.follows .mixedOrders=true
theorem sym_reg {Γ:Tys} {Φ:Ctr} (hE:Env A P Γ Φ) {id:Nat} {ops:Array Oper} {draw:Bool} {S:St} {K:Exit→St→Prop} (h:∀ Q:St→Prop,(∀ S',K .normal S'→Q S')→vcOps Γ Φ ops draw Q ops.toList S []):Sym A P (.region id ops draw) S K:=fun F hF hd a w hg=>by
  have hr:=vcOps_sound (A:=A) (P:=P) hE.tys hE.ctr ops.toList S [] hg.wf (h (fun S'=>K .normal S') fun _ h=>h)
  cases draw with
  |false=>exact sym_region (run_mono (fun _ _ h=>h.2) _ _ _ hr) F hF hd a w hg
  |true=>exact sym_region_draw hE.mixed (run_mono (fun _ _ h=>⟨h.1 rfl,h.2⟩) _ _ _ hr) F hF hd a w hg
def leT (S:St) (hf:Nat→Option AObj) (σ:Nat→Option Nat):List (Nat × AV)→Prop
  |[]=>True
  |p :: r=>AV.le hf σ (S.t p.1) p.2∧leT S hf σ r
def leO (hf:Nat→Option AObj) (σ:Nat→Option Nat) (o:Option AObj) (o':AObj):Prop:=match o with
  |some o=>AObj.le hf σ o o'
  |none=>False
def leH (S:St) (hf:Nat→Option AObj) (σ:Nat→Option Nat):List (Nat × AObj)→Prop
  |[]=>True
  |p :: r=>(match σ p.1 with|some i=>leO hf σ (S.h i) p.2|none=>match p.2 with|.row _ k xs=>xs=[]∧0 < k|.rows _ cs=>cs=[]|_=>False)∧leH S hf σ r
def idsT (n:Nat):List (Nat × AV)→Prop
  |[]=>True
  |p :: r=>(∀ id ∈ p.2.ids,id < n)∧idsT n r
def idsH (n:Nat):List (Nat × AObj)→Prop
  |[]=>True
  |p :: r=>p.1 < n∧(∀ id ∈ p.2.ids,id < n)∧idsH n r
def imgs (σ:Nat→Option Nat) (H:List (Nat × AObj)):List Nat:=H.filterMap fun p=>σ p.1
structure LeOK (S:St) (L:List (Nat × AV)) (H:List (Nat × AObj)) (n:Nat) (d:List ADf) (σ:Nat→Option Nat) (fz:List Nat):Prop where
  t:leT S (fun i=>if i ∈ fz then S.h i else none) σ L
  h:leH S (fun i=>if i ∈ fz then S.h i else none) σ H
  df:ADf.leL (fun i=>if i ∈ fz then S.h i else none) σ S.d d
  img:(imgs σ H).Nodup
  keys:(H.map (·.1)).Nodup
  frz:∀ i ∈ fz,i ∉ imgs σ H
  pin:∀ i,i < S.m→σ i=some i
  idt:idsT n L
  idh:idsH n H
  idd:∀ id ∈ d.flatMap ADf.ids,id < n
  m:S.m≤n
theorem leT_mem {S:St} {hf:Nat→Option AObj} {σ:Nat→Option Nat}:∀ {L:List (Nat × AV)},leT S hf σ L→∀ p ∈ L,AV.le hf σ (S.t p.1) p.2
  |q :: r,h,p,hp=>by
    rcases List.mem_cons.1 hp with rfl|hp
    · exact h.1
    · exact leT_mem h.2 p hp
theorem leH_mem {S:St} {hf:Nat→Option AObj} {σ:Nat→Option Nat}:∀ {H:List (Nat × AObj)},leH S hf σ H→∀ p ∈ H,(∃ i o,σ p.1=some i∧S.h i=some o∧AObj.le hf σ o p.2)∨(σ p.1=none∧emptyO p.2)
  |q :: r,h,p,hp=>by
    rcases List.mem_cons.1 hp with rfl|hp
    · have h1:=h.1
      split at h1
      · rename_i i hi
        unfold leO at h1
        split at h1
        · rename_i o ho;exact .inl ⟨i,o,hi,ho,h1⟩
        · exact h1.elim
      · rename_i hi
        split at h1
        · rename_i e k xs hx;obtain ⟨rfl,hk⟩:=h1;exact .inr ⟨hi,.inl ⟨e,k,hx,hk⟩⟩
        · rename_i e cs hx;subst h1;exact .inr ⟨hi,.inr ⟨e,hx⟩⟩
        · exact h1.elim
    · exact leH_mem h.2 p hp
theorem idsT_mem {n:Nat}:∀ {L:List (Nat × AV)},idsT n L→∀ p ∈ L,∀ id ∈ p.2.ids,id < n
  |q :: r,h,p,hp=>by
    rcases List.mem_cons.1 hp with rfl|hp
    · exact h.1
    · exact idsT_mem h.2 p hp
theorem idsH_mem {n:Nat}:∀ {H:List (Nat × AObj)},idsH n H→∀ p ∈ H,p.1 < n∧∀ id ∈ p.2.ids,id < n
  |q :: r,h,p,hp=>by
    rcases List.mem_cons.1 hp with rfl|hp
    · exact ⟨h.1,h.2.1⟩
    · exact idsH_mem h.2.2 p hp
theorem imgs_inj {σ:Nat→Option Nat}:∀ {H:List (Nat × AObj)},(imgs σ H).Nodup→∀ p ∈ H,∀ q ∈ H,∀ i,σ p.1=some i→σ q.1=some i→p=q∨p.1=q.1∨False
  |[],_,p,hp,_,_,_,_,_=>by simp at hp
  |r :: H,hn,p,hp,q,hq,i,h1,h2=>by
    have mem:∀ x ∈ H,σ x.1=some i→i ∈ imgs σ H:=fun x hx hs=>List.mem_filterMap.2 ⟨x,hx,hs⟩
    have hn':(imgs σ H).Nodup:=by
      simp only [imgs,List.filterMap_cons] at hn ⊢
      split at hn
      · exact hn
      · exact (List.nodup_cons.1 hn).2
    have hni:∀ j,σ r.1=some j→j ∉ imgs σ H:=fun j hj=>by
      simp only [imgs,List.filterMap_cons,hj] at hn
      exact (List.nodup_cons.1 hn).1
    rcases List.mem_cons.1 hp with e1|hp'
    · rcases List.mem_cons.1 hq with e2|hq'
      · exact .inl (e1.trans e2.symm)
      · exact absurd (mem q hq' h2) (hni i (e1 ▸ h1))
    · rcases List.mem_cons.1 hq with e2|hq'
      · exact absurd (mem p hp' h1) (hni i (e2 ▸ h2))
      · exact imgs_inj hn' p hp' q hq' i h1 h2
theorem Le.ok {S:St} {L:List (Nat × AV)} {H:List (Nat × AObj)} {n:Nat} {d:List ADf} (σ:Nat→Option Nat) (fz:List Nat) (h:LeOK S L H n d σ fz):Le S { t:=asg L,h:=hasg H,n,j:=S.j,d,m:=S.m }:=by
  refine Le.of σ (fun i=>if i ∈ fz then S.h i else none) (leT_mem h.t) (leH_mem h.h) h.df (fun p hp q hq i h1 h2=>?_) (fun i o hi=>?_) h.pin (idsT_mem h.idt) (idsH_mem h.idh) h.idd h.m
  · rcases imgs_inj h.img p hp q hq i h1 h2 with rfl|h|h
    · rfl
    · exact h
    · exact h.elim
  · by_cases hm:i ∈ fz
    · rw [if_pos hm] at hi
      exact ⟨hi,fun p hp hs=>h.frz i hm (List.mem_filterMap.2 ⟨p,hp,hs⟩)⟩
    · rw [if_neg hm] at hi;cases hi
def noB:Ctx→Prop:=fun _=>True
def noH:Nat→Option AObj:=fun _=>none
def FnV (P:Program) (f:FuncId) (az:List AV) (v:AV):Prop:=Fn noB P f az noH v noH 0
mutual
def AV.view (h:Nat→Option AObj):AV→AV
  |.v x=>.v x
  |.nil=>.sl []
  |.emp=>.sl []
  |.sl xs=>.sl xs
  |.agg cs=>.agg (AV.viewL h cs)
  |.tup cs=>.tup (AV.viewL h cs)
  |.ep cs o=>.ep cs o
  |.ptr i o=>.ptr i o
  |.row i=>match h i with
    |some (.row _ _ xs)=>.sl xs
    |_=>.junk
  |.rp i k m o=>.rp i k m o
  |.csl i n=>.csl i n
  |.psl i o n c=>.psl i o n c
  |.rsl i k l n=>.rsl i k l n
  |.mp i=>.mp i
  |.clo f cs=>.clo f (AV.viewL h cs)
  |.cb=>.cb
  |.junk=>.junk
  |.any=>.any
  |.bnd f cs=>.bnd f (AV.viewL h cs)
def AV.viewL (h:Nat→Option AObj):List AV→List AV
  |[]=>[]
  |c :: cs=>c.view h :: AV.viewL h cs
end
mutual
def AV.rows:AV→List Nat
  |.v _=>[]
  |.nil=>[]
  |.emp=>[]
  |.sl _=>[]
  |.agg cs=>AV.rowsL cs
  |.tup cs=>AV.rowsL cs
  |.ep _ _=>[]
  |.ptr _ _=>[]
  |.row i=>[i]
  |.rp _ _ _ _=>[]
  |.csl _ _=>[]
  |.psl _ _ _ _=>[]
  |.rsl _ _ _ _=>[]
  |.mp _=>[]
  |.clo _ cs=>AV.rowsL cs
  |.cb=>[]
  |.junk=>[]
  |.any=>[]
  |.bnd _ cs=>AV.rowsL cs
def AV.rowsL:List AV→List Nat
  |[]=>[]
  |c :: cs=>c.rows++AV.rowsL cs
end
mutual
def AV.plain:AV→Prop
  |.v _=>True
  |.nil=>False
  |.emp=>False
  |.sl _=>True
  |.agg cs=>AV.plainL cs
  |.tup cs=>AV.plainL cs
  |.ep _ _=>True
  |.ptr _ _=>False
  |.row _=>False
  |.rp _ _ _ _=>False
  |.csl _ _=>False
  |.psl _ _ _ _=>False
  |.rsl _ _ _ _=>False
  |.mp _=>False
  |.clo _ cs=>AV.plainL cs
  |.cb=>True
  |.junk=>False
  |.any=>False
  |.bnd _ cs=>AV.plainL cs
def AV.plainL:List AV→Prop
  |[]=>True
  |c :: cs=>c.plain∧AV.plainL cs
end
theorem AV.plain_row (h:Nat→Option AObj) (i:Nat) (hp:(AV.view h (.row i)).plain):∃ e k xs,h i=some (.row e k xs)∧AV.view h (.row i)=.sl xs:=by
  simp only [AV.view] at hp
  split at hp
  · rename_i e k xs hi;exact ⟨e,k,xs,hi,by simp only [AV.view,hi]⟩
  · exact hp.elim
theorem AV.view_row (h hf:Nat→Option AObj) (σ:Nat→Option Nat) (i:Nat) (hp:(AV.view h (.row i)).plain) (hr:hf i=h i):AV.le hf σ (.row i) (AV.view h (.row i)):=by
  obtain ⟨e,k,xs,hi,hv⟩:=AV.plain_row h i hp
  rw [hv]
  simp only [AV.le]
  exact ⟨e,k,by unfold rowAt;rw [hr.trans hi]⟩
mutual
theorem AV.view_le (h hf:Nat→Option AObj) (σ:Nat→Option Nat):∀ c:AV,(c.view h).plain→(∀ i ∈ c.rows,hf i=h i)→AV.le hf σ c (c.view h)
  |.v _,_,_=>by simp [AV.view,AV.le]
  |.nil,_,_=>by simp [AV.view,AV.le]
  |.emp,_,_=>by simp [AV.view,AV.le]
  |.sl _,_,_=>by simp [AV.view,AV.le]
  |.agg cs,hp,hr=>by simp only [AV.view,AV.plain,AV.rows,AV.le] at hp hr ⊢;exact AV.viewL_le h hf σ cs hp hr
  |.tup cs,hp,hr=>by simp only [AV.view,AV.plain,AV.rows,AV.le] at hp hr ⊢;exact AV.viewL_le h hf σ cs hp hr
  |.ep _ _,_,_=>by simp [AV.view,AV.le]
  |.ptr _ _,hp,_=>by simp [AV.view,AV.plain] at hp
  |.row i,hp,hr=>AV.view_row h hf σ i hp (hr i (by simp [AV.rows]))
  |.rp _ _ _ _,hp,_=>by simp [AV.view,AV.plain] at hp
  |.csl _ _,hp,_=>by simp [AV.view,AV.plain] at hp
  |.psl _ _ _ _,hp,_=>by simp [AV.view,AV.plain] at hp
  |.rsl _ _ _ _,hp,_=>by simp [AV.view,AV.plain] at hp
  |.mp _,hp,_=>by simp [AV.view,AV.plain] at hp
  |.clo f cs,hp,hr=>by simp only [AV.view,AV.plain,AV.rows,AV.le] at hp hr ⊢;exact ⟨trivial,AV.viewL_le h hf σ cs hp hr⟩
  |.cb,_,_=>by simp [AV.view,AV.le]
  |.junk,hp,_=>by simp [AV.view,AV.plain] at hp
  |.any,hp,_=>by simp [AV.view,AV.plain] at hp
  |.bnd f cs,hp,hr=>by simp only [AV.view,AV.plain,AV.rows,AV.le] at hp hr ⊢;exact ⟨trivial,AV.viewL_le h hf σ cs hp hr⟩
theorem AV.viewL_le (h hf:Nat→Option AObj) (σ:Nat→Option Nat):∀ cs:List AV,AV.plainL (AV.viewL h cs)→(∀ i ∈ AV.rowsL cs,hf i=h i)→AV.leL hf σ cs (AV.viewL h cs)
  |[],_,_=>trivial
  |c :: cs,hp,hr=>by
    simp only [AV.viewL,AV.plainL,AV.rowsL,List.mem_append] at hp hr ⊢
    exact ⟨AV.view_le h hf σ c hp.1 fun i hi=>hr i (.inl hi),AV.viewL_le h hf σ cs hp.2 fun i hi=>hr i (.inr hi)⟩
end
mutual
theorem AV.plain_rows (h:Nat→Option AObj):∀ c:AV,(c.view h).plain→∀ i ∈ c.rows,∃ e k xs,h i=some (.row e k xs)
  |.agg cs,hp=>by simp only [AV.view,AV.plain,AV.rows] at hp ⊢;exact AV.plainL_rows h cs hp
  |.tup cs,hp=>by simp only [AV.view,AV.plain,AV.rows] at hp ⊢;exact AV.plainL_rows h cs hp
  |.row i,hp=>by
    intro j hj
    simp only [AV.rows,List.mem_singleton] at hj
    subst hj
    obtain ⟨e,k,xs,hi,_⟩:=AV.plain_row h j hp
    exact ⟨e,k,xs,hi⟩
  |.clo f cs,hp=>by simp only [AV.view,AV.plain,AV.rows] at hp ⊢;exact AV.plainL_rows h cs hp
  |.v _,_=>by simp [AV.rows]
  |.nil,_=>by simp [AV.rows]
  |.emp,_=>by simp [AV.rows]
  |.sl _,_=>by simp [AV.rows]
  |.ep _ _,_=>by simp [AV.rows]
  |.ptr _ _,_=>by simp [AV.rows]
  |.rp _ _ _ _,_=>by simp [AV.rows]
  |.csl _ _,_=>by simp [AV.rows]
  |.psl _ _ _ _,_=>by simp [AV.rows]
  |.rsl _ _ _ _,_=>by simp [AV.rows]
  |.mp _,_=>by simp [AV.rows]
  |.cb,_=>by simp [AV.rows]
  |.junk,_=>by simp [AV.rows]
  |.any,_=>by simp [AV.rows]
  |.bnd f cs,hp=>by simp only [AV.view,AV.plain,AV.rows] at hp ⊢;exact AV.plainL_rows h cs hp
theorem AV.plainL_rows (h:Nat→Option AObj):∀ cs:List AV,AV.plainL (AV.viewL h cs)→∀ i ∈ AV.rowsL cs,∃ e k xs,h i=some (.row e k xs)
  |[],_=>by simp [AV.rowsL]
  |c :: cs,hp=>by
    simp only [AV.viewL,AV.plainL] at hp
    intro i hi
    simp only [AV.rowsL,List.mem_append] at hi
    rcases hi with hi|hi
    · exact AV.plain_rows h c hp.1 i hi
    · exact AV.plainL_rows h cs hp.2 i hi
end
mutual
theorem AV.plain_ids:∀ c:AV,c.plain→c.ids=[]
  |.v _,_=>rfl
  |.nil,_=>rfl
  |.emp,_=>rfl
  |.sl _,_=>rfl
  |.agg cs,h=>by simp only [AV.plain,AV.ids] at h ⊢;exact AV.plainL_ids cs h
  |.tup cs,h=>by simp only [AV.plain,AV.ids] at h ⊢;exact AV.plainL_ids cs h
  |.ep _ _,_=>rfl
  |.ptr _ _,h=>h.elim
  |.row _,h=>h.elim
  |.rp _ _ _ _,h=>h.elim
  |.csl _ _,h=>h.elim
  |.psl _ _ _ _,h=>h.elim
  |.rsl _ _ _ _,h=>h.elim
  |.mp _,h=>h.elim
  |.clo _ cs,h=>by simp only [AV.plain,AV.ids] at h ⊢;exact AV.plainL_ids cs h
  |.cb,_=>rfl
  |.junk,_=>rfl
  |.any,h=>h.elim
  |.bnd _ cs,h=>by simp only [AV.plain,AV.ids] at h ⊢;exact AV.plainL_ids cs h
theorem AV.plainL_ids:∀ cs:List AV,AV.plainL cs→AV.idsL cs=[]
  |[],_=>rfl
  |c :: cs,h=>by simp only [AV.plainL,AV.idsL] at h ⊢;rw [AV.plain_ids c h.1,AV.plainL_ids cs h.2];rfl
end
mutual
theorem AV.plain_ren (τ:Nat→Nat):∀ c:AV,c.plain→c.ren τ=c
  |.v _,_=>rfl
  |.nil,_=>rfl
  |.emp,_=>rfl
  |.sl _,_=>rfl
  |.agg cs,h=>by simp only [AV.plain,AV.ren] at h ⊢;rw [AV.plainL_ren τ cs h]
  |.tup cs,h=>by simp only [AV.plain,AV.ren] at h ⊢;rw [AV.plainL_ren τ cs h]
  |.ep _ _,_=>rfl
  |.ptr _ _,h=>h.elim
  |.row _,h=>h.elim
  |.rp _ _ _ _,h=>h.elim
  |.csl _ _,h=>h.elim
  |.psl _ _ _ _,h=>h.elim
  |.rsl _ _ _ _,h=>h.elim
  |.mp _,h=>h.elim
  |.clo f cs,h=>by simp only [AV.plain,AV.ren] at h ⊢;rw [AV.plainL_ren τ cs h]
  |.cb,_=>rfl
  |.junk,_=>rfl
  |.any,h=>h.elim
  |.bnd f cs,h=>by simp only [AV.plain,AV.ren] at h ⊢;rw [AV.plainL_ren τ cs h]
theorem AV.plainL_ren (τ:Nat→Nat):∀ cs:List AV,AV.plainL cs→AV.renL τ cs=cs
  |[],_=>rfl
  |c :: cs,h=>by simp only [AV.plainL,AV.renL] at h ⊢;rw [AV.plain_ren τ c h.1,AV.plainL_ren τ cs h.2]
end
def valE (fl:Bool) (spec:List AV→Prop × AV) (S:St) (bs:List AV):Ans :=
  (AV.plainL (AV.viewL S.h bs)∧(spec (AV.viewL S.h bs)).1,{ av:=(spec (AV.viewL S.h bs)).2,hw:=bif fl then [] else dropW (AV.rowsL bs),hr:=AV.rowsL bs,n:=S.n })
theorem valE_sound {f:FuncId} {fl:Bool} {spec:List AV→Prop × AV} (hf:∀ az,AV.plainL az→(spec az).1→(spec az).2.plain∧(fl=true→(spec az).2.flat)∧FnV P f az (spec az).2)
    {S:St} {bs:List AV} (h:(valE fl spec S bs).1) (hS:Wf S) {ops:Array Oper} {o:Oper} {g:Operand} {args:Array Operand} {tys:Array TypeId} {caps:List AV} (hw:Want ops o S)
    (ho:o.op=.call { callee:=.value g,args:=args,argTypes:=tys }) (hg:calleeOf (ev S g)=some (some f,caps)) (hb:preOf (ev S g)++(args.toList.map (ev S)++caps)=bs):VE A P ops o (valE fl spec S bs).2 S:=by
  obtain ⟨hp,hs⟩:=h
  obtain ⟨hvp,hfl,hfn⟩:=hf _ hp hs
  have hg':=callee_cases hg
  have hrows:=AV.plainL_rows S.h bs hp
  have hids:=AV.plain_ids _ hvp
  have:=ve_call (A:=A) (hs:=[]) (bo:=AV.rowsL bs) (dr:=bif fl then [] else AV.rowsL bs) (hf:=fun i=>if i ∈ AV.rowsL bs then S.h i else none) (nn:=0) hS hw ho hg' hfn (fun h=>absurd rfl h) (fun _ _ _ _ _ _ _ _ _ _=>trivial)
    (by rw [hb];exact AV.viewL_le S.h _ _ bs hp fun i hi=>by simp [hi]) (fun i o0 hi=>by cases hi) (fun j hj=>by simp at hj) List.nodup_nil
    (fun i ob hi=>by
      by_cases hm:i ∈ AV.rowsL bs
      · rw [if_pos hm] at hi;exact ⟨hi,by simp,hm⟩
      · rw [if_neg hm] at hi;cases hi) (fun i hi=>by obtain ⟨e,k,xs,h⟩:=hrows i hi;exact ⟨⟨_,h⟩,by simp⟩)
    (by
      cases fl with
      |true=>exact .inr ⟨rfl,hfl rfl,fun i ob hi=>by cases hi⟩
      |false=>exact .inl rfl)
    (by rw [hids];simp) (fun i ob hi=>by cases hi)
  have e:callEff S [] (AV.rowsL bs) (bif fl then [] else AV.rowsL bs) (spec (AV.viewL S.h bs)).2 noH 0 0=(valE fl spec S bs).2:=by
    simp only [callEff,valE,AV.plain_ren _ _ hvp]
    cases fl <;> simp [dropW]
  rw [e] at this
  exact this
end Go.Sym
namespace Go.Sym
open Go
theorem run_eqF {P : Program} {d : Nat} {w : World} {xs ys : Array Value} {f : Field} {fs : List Field} {r r' : Bool} {a b : Value} (hn : f.name ≠ "_") (ha : (part f.type xs f.offset).run P w = .ok a w) (hb : (part f.type ys f.offset).run P w = .ok b w)
    (he:(Op.equalIn d f.type a b).run P w=.ok r w) (hr:(Op.eqFields d xs ys fs).run P w=.ok r' w):(Op.eqFields d xs ys (f :: fs)).run P w=.ok (r && r') w:=by
  simp only [Op.eqFields,if_pos hn,Sem.run_bind,ha,hb,Result.andThen_ok,he]
  cases r
  · simp
  · simpa using hr
theorem run_eqF_nil {P:Program} {d:Nat} {w:World} {xs ys:Array Value}:(Op.eqFields d xs ys []).run P w=.ok true w:=by simp [Op.eqFields]
theorem run_part1 {P:Program} {t:TypeId} {xs:Array Value} {off:Nat} {v:Value} {w:World} (ht:∀ w,(isAgg t).run P w=.ok false w) (h:xs[off]?=some v):(part t xs off).run P w=.ok v w:=by
  simp [part,ht,h]
theorem run_partA {P:Program} {t:TypeId} {xs cs:Array Value} {off n:Nat} {w:World} (ht:∀ w,(isAgg t).run P w=.ok true w) (hs:∀ w,(sizeOf t).run P w=.ok n w) (h:xs.extract off (off+n)=cs):(part t xs off).run P w=.ok (.agg cs) w:=by
  simp [part,ht,hs,h]
theorem Fin.val {S:St} {rv v:AV} (hj:S.j=0) (h:AV.le S.h some rv v):Fin S rv v 0 noH 0:=by
  refine ⟨some,S.h,h,fun i o hi=>?_,fun i o k o' c hi=>?_,fun i o hi=>⟨hi,fun j o1 hj=>?_⟩,fun i hi=>?_,hj⟩
  · cases hi
  · cases hi
  · cases hj
  · omega
theorem ite_and {p:Prop} [Decidable p] {A B:Prop}:(if p then A else B)=((p→A)∧(¬ p→B)):=by
  by_cases h:p <;> simp [h]
section
variable {A : Frm → Prop} {P : Program} {N : St → Prop} {K : Exit → St → Prop} {S : St} {id id' : Nat}
theorem sym_cd {c:Operand} {x y:Code} {b:Bool} (hc:boolA (ev S c)=some b) (h1:b=true→Sym A P x S K) (h2:b=false→Sym A P y S K):Sym A P (.cond c x y) S K:=sym_cond (boolA_spec hc) h1 h2
theorem thenK_n (h:N S):thenK N K .normal S:=h
theorem thenK_x (h:K (.exit id) S):thenK N K (.exit id) S:=h
theorem thenK_r (h:K .ret S):thenK N K .ret S:=h
theorem blockK_n (h:K .normal S):blockK id K .normal S:=h
theorem blockK_r (h:K .ret S):blockK id K .ret S:=h
theorem blockK_hit (h:K .normal S):blockK id K (.exit id) S:=by simp only [blockK,if_true];exact h
theorem blockK_miss (hn:id' ≠ id) (h:K (.exit id') S):blockK id K (.exit id') S:=by simp only [blockK,if_neg hn];exact h
end
theorem getD_mapD {α β:Type} (f:α→β) (l:List α) (n:Nat) (d:α):(l.map f).getD n (f d)=f (l.getD n d):=by simp [List.getD_eq_getElem?_getD,List.getElem?_map]
theorem wrap64 {n:Int} (h:-9223372036854775808≤n) (h':n < 9223372036854775808):IntKind.wrap .i64 n=n:=by
  unfold IntKind.wrap
  simp only [IntKind.bits,IntKind.signed]
  simp
  split <;> omega
theorem maxLen_lt:maxLen < 9223372036854775808:=by decide
theorem wrap_succ {k n:Nat} (h:k < n) (hn:n≤maxLen):IntKind.wrap .i64 ((k:Int)+1)=((k+1:Nat):Int):=by
  have:=maxLen_lt
  rw [wrap64 (by omega) (by omega)];rfl
abbrev Entry:=St→List AV→Ans
def EntryOK (A:Frm→Prop) (P:Program) (f:FuncId) (e:Entry):Prop:=∀ S bs,(e S bs).1→Wf S→∀ ops o g args tys caps,Want ops o S→o.op=.call { callee:=.value g,args:=args,argTypes:=tys }→calleeOf (ev S g)=some (some f,caps)→preOf (ev S g)++(args.toList.map (ev S)++caps)=bs→VE A P ops o (e S bs).2 S
def tabF (S:St) (f:FuncId) (bs:List AV):List (FuncId × Entry)→Ans
  |[]=>bad
  |p :: r=>if f=p.1 then p.2 S bs else tabF S f bs r
def tab (L:List (FuncId × Entry)):Ctr:=fun S f bs=>match f with
  |some f=>tabF S f bs L
  |none=>bad
def allOK (A:Frm→Prop) (P:Program):List (FuncId × Entry)→Prop
  |[]=>True
  |p :: r=>EntryOK A P p.1 p.2∧allOK A P r
theorem tab_ok {A:Frm→Prop} {P:Program} {L:List (FuncId × Entry)} (h:allOK A P L):Ctr.OK A P (tab L):=by
  intro S f bs hp hS ops o g args tys caps hw ho hg hb
  cases f with
  |none=>exact hp.elim
  |some f =>
    simp only [tab] at hp ⊢
    induction L with
    |nil=>exact hp.elim
    |cons p r ih =>
      simp only [tabF] at hp ⊢
      by_cases hf:f=p.1
      · rw [if_pos hf] at hp ⊢;subst hf;exact h.1 S bs hp hS ops o g args tys caps hw ho hg hb
      · rw [if_neg hf] at hp ⊢;exact ih h.2 hp
theorem valE_ok {A:Frm→Prop} {P:Program} {f:FuncId} {fl:Bool} {spec:List AV→Prop × AV} (hf:∀ az,AV.plainL az→(spec az).1→(spec az).2.plain∧(fl=true→(spec az).2.flat)∧FnV P f az (spec az).2):EntryOK A P f (valE fl spec) :=
  fun S bs h hS ops o g args tys caps hw ho hg hb=>valE_sound hf h hS hw ho hg hb
end Go.Sym
namespace Go.Sym
open Go
variable {A : Frm → Prop} {P : Program}
def Answers (P:Program) (y:Value) (vs:Array Value) (w:World) (R:Ending→World→Prop):Prop :=
  ∃ l fr tmps asg body,y=.func (.yield l) #[] #[]∧(Instr.yield l vs).run P w=.ok (.round l fr tmps asg body) w∧RoundIn (W none) 0 P l fr tmps asg body w R
theorem Answers.mono {y:Value} {vs:Array Value} {w:World} {R R':Ending→World→Prop} (h:Answers P y vs w R) (hr:∀ e w',R e w'→R' e w'):Answers P y vs w R':=by
  obtain ⟨l,fr,tmps,asg,body,e1,e2,e3⟩:=h
  exact ⟨l,fr,tmps,asg,body,e1,e2,RoundIn.mono e3 hr⟩
structure Rounds (ans:Nat→Bool) (R N:Nat):Prop where
  le:R≤N
  yes:∀ j,j+1 < R→ans j=true
  stop:R < N→0 < R∧ans (R - 1)=false
theorem Rounds.lt {ans:Nat→Bool} {R N k:Nat} (h:Rounds ans R N) (hk:k < N) (hy:∀ j,j < k→ans j=true):k < R:=by
  refine Classical.byContradiction fun hn=>?_
  have h1:R < N:=by omega
  obtain ⟨h2,h3⟩:=h.stop h1
  have:=hy (R - 1) (by omega)
  rw [h3] at this;cases this
theorem Rounds.last {ans:Nat→Bool} {R N k:Nat} (h:Rounds ans R N) (hk:k < R) (hn:ans k=false):k+1=R:=by
  refine Classical.byContradiction fun he=>?_
  have:=h.yes k (by omega)
  rw [hn] at this;cases this
theorem Rounds.all {ans:Nat→Bool} {R N k:Nat} (h:Rounds ans R N) (hk:N≤k) (hy:∀ j,j < k→ans j=true):R=N:=by
  refine Classical.byContradiction fun he=>?_
  have h1:R < N:=by have:=h.le;omega
  obtain ⟨h2,h3⟩:=h.stop h1
  have:=hy (R - 1) (by omega)
  rw [h3] at this;cases this
theorem Jc.shift {J:JJ} {j k:Nat} {Pr:Nat→Prop} {w0:World} {own:Own} {w:World} (h:Jc J j Pr w0 k own w):Jc J (j+k) Pr w0 0 own w:=by
  obtain ⟨own',h1,h2,h3,h4⟩:=h
  exact ⟨own',by rw [Nat.add_zero];exact h1,h2,h3,h4⟩
end Go.Sym
namespace Go.Sym
open Go
variable {A : Frm → Prop} {P : Program}
mutual
def AV.nocb:AV→Prop
  |.v _=>True
  |.nil=>True
  |.emp=>True
  |.sl _=>True
  |.agg cs=>AV.nocbL cs
  |.tup cs=>AV.nocbL cs
  |.ep _ _=>True
  |.ptr _ _=>True
  |.row _=>True
  |.rp _ _ _ _=>True
  |.csl _ _=>True
  |.psl _ _ _ _=>True
  |.rsl _ _ _ _=>True
  |.mp _=>True
  |.clo _ cs=>AV.nocbL cs
  |.cb=>False
  |.junk=>True
  |.any=>True
  |.bnd _ cs=>AV.nocbL cs
def AV.nocbL:List AV→Prop
  |[]=>True
  |c :: cs=>c.nocb∧AV.nocbL cs
end
def AObj.nocb:AObj→Prop
  |.cells cs=>AV.nocbL cs
  |.row _ _ _=>True
  |.map _=>True
  |.mark=>True
  |.rows _ cs=>AV.nocbL cs
def blksOf (h:Nat→Option AObj) (ρ:Nat→Value) (b:Nat):Prop:=∃ i o,h i=some o∧blk (ρ i)=some b
structure RH (F:Frm) (ws:World) (ρs:Nat→Value) (oks:Nat→Prop) (keep:Nat→Prop) (l:Nat) (rc:Loop) (h:Nat→Option AObj) (j:Nat) (ownr:Own) (w:World) (ρk:Nat→Value) (ownk:Own) (fz:Nat→Prop):Prop where
  jay:F.J j ownk w
  prv:∀ b,ownr.prv b ↔ ownk.prv b∨blksOf h ρk b∨b=l
  all:∀ b,ownr.all b ↔ ownk.all b∨blksOf h ρk b∨b=l∨fz b
  fzok:∀ b,fz b→b < w.heap.size∧¬ ownk.prv b∧¬ blksOf h ρk b∧b ≠ l
  obj:∀ i o,h i=some o→ORel w fz ρk F.y o (ρk i)
  inj:∀ i k o o' b,h i=some o→h k=some o'→blk (ρk i)=some b→blk (ρk k)=some b→i=k
  off:∀ i o b,h i=some o→blk (ρk i)=some b→¬ ownk.all b∧b ≠ l
  lown:¬ ownk.all l
  rcd:w.heap[l]?=some (.loop rc)
  oks:∀ b,oks b→fz b∧w.heap[b]?=ws.heap[b]?
  keep:∀ id,keep id→ρk id=ρs id
  prov:∀ i o b,h i=some o→blk (ρk i)=some b→F.w0.heap.size≤b∨F.owns0 b
  psub:∀ b,ownk.prv b→F.own0.prv b∨F.w0.heap.size≤b
  still:j=0→ownk=F.own0
  big:F.w0.heap.size≤w.heap.size
def RJ (F:Frm) (ws:World) (ρs:Nat→Value) (oks:Nat→Prop) (keep:Nat→Prop) (l:Nat) (rc:Nat→Loop) (hc:Nat→Nat→Option AObj) (jj:Nat→Nat):JJ :=
  fun k ownr w=>∃ ρk ownk fz,RH F ws ρs oks keep l (rc k) (hc k) (jj k) ownr w ρk ownk fz
theorem RJ.stable (F:Frm) (ws:World) (ρs:Nat→Value) (oks:Nat→Prop) (keep:Nat→Prop) (l:Nat) (rc:Nat→Loop) (hc:Nat→Nat→Option AObj) (jj:Nat→Nat):(RJ F ws ρs oks keep l rc hc jj).Stable:=by
  rintro k ownr w ⟨ρk,ownk,fz,H⟩
  have hll:l < w.heap.size:=(Array.getElem?_eq_some_iff.1 H.rcd).1
  have hall:∀ b,ownr.all b→b < w.heap.size:=fun b hb=>by
    rcases (H.all b).1 hb with h|⟨i,o,hi,hbi⟩|rfl|h
    · exact (F.stable _ _ _ H.jay).1 b h
    · exact (H.obj i o hi).lt hbi
    · exact hll
    · exact (H.fzok b h).1
  refine ⟨hall,fun w' hx=>?_⟩
  have same:∀ b,ownr.all b→w'.heap[b]?=w.heap[b]?:=fun b hb=>hx.block b (hall b hb) fun hn=>hn hb
  have hfz:∀ b,fz b→fz b∧w'.heap[b]?=w.heap[b]?:=fun b hb=>⟨hb,same b ((H.all b).2 (.inr (.inr (.inr hb))))⟩
  refine ⟨ρk,ownk,fz,(F.stable _ _ _ H.jay).2 w' (hx.weaken fun b _ hn ho=>hn ((H.all b).2 (.inl ho))),H.prv,H.all,fun b hb=>⟨Nat.lt_of_lt_of_le (H.fzok b hb).1 hx.size,(H.fzok b hb).2⟩,fun i o hi=>?_,H.inj,H.off,H.lown, ?_,fun b hb=>⟨(H.oks b hb).1, ?_⟩,H.keep,H.prov,H.psub,H.still,Nat.le_trans H.big hx.size⟩
  · exact (H.obj i o hi).mono hfz (fun b hb=>same b ((H.all b).2 (.inr (.inl ⟨i,o,hi,hb⟩)))) fun _ _=>rfl
  · rw [same l ((H.all l).2 (.inr (.inr (.inl rfl))))];exact H.rcd
  · rw [(hfz b (H.oks b hb).1).2];exact (H.oks b hb).2
end Go.Sym
namespace Go.Sym
open Go
variable {A : Frm → Prop} {P : Program}
structure RStat (F:Frm) (T:Nat→AV) (ps hs:List Nat) (n nl:Nat) (ys:List AV) (own:List (Nat × AObj)) (lent:Nat→Option AObj) (keep:Nat→Prop):Prop where
  hsn:∀ c ∈ hs,c < n
  tmp:∀ t,∀ id ∈ (T t).ids,id < n∧keep id
  own:∀ i o,hasg own i=some o→i < n∧∀ id ∈ o.ids,id < n
  lent:∀ m o,lent m=some o→m < hs.length+nl∧o.nocb∧∀ id ∈ o.ids,id < hs.length+nl
  args:∀ c ∈ ys,c.nocb∧∀ id ∈ c.ids,id < hs.length+nl
  plen:ps.length=ys.length
  psn:∀ p ∈ ps,p < F.nt
structure RFin (S:St) (hs:List Nat) (n:Nat) (own:List (Nat × AObj)) (lent:Nat→Option AObj) (keep:Nat→Prop) (σ:Nat→Option Nat) (hf:Nat→Option AObj):Prop where
  fown:∀ i o1,hasg own i=some o1→(∃ c o,σ i=some c∧S.h c=some o∧AObj.le hf σ o o1)∨(σ i=none∧emptyO o1)
  flent:∀ m o0,lent m=some o0→∃ ob,S.h (callRen hs n m)=some ob∧AObj.le hf (fun j=>some (callRen hs n j)) ob o0
  inj:∀ i o k o' c,hasg own i=some o→hasg own k=some o'→σ i=some c→σ k=some c→i=k
  apart:∀ i o m o0,hasg own i=some o→lent m=some o0→σ i ≠ some (callRen hs n m)
  frz:∀ i o,hf i=some o→S.h i=some o∧(∀ j o1,hasg own j=some o1→σ j ≠ some i)∧∀ m o0,lent m=some o0→callRen hs n m ≠ i
  fkeep:∀ id,keep id→σ id=some id
end Go.Sym
namespace Go.Sym
open Go
variable {A : Frm → Prop} {P : Program}
end Go.Sym
namespace Go.Sym
open Go
variable {A : Frm → Prop} {P : Program}
end Go.Sym
namespace Go.Sym
open Go
variable {A : Frm → Prop} {P : Program}
def tabC (cb:Entry) (L:List (FuncId × Entry)):Ctr:=fun S f bs=>match f with
  |some f=>tabF S f bs L
  |none=>cb S bs
end Go.Sym
namespace Go.Sym
open Go
variable {A : Frm → Prop} {P : Program}
theorem run_eqNil {t e:TypeId} (ht:P.underlying t=some (.slice e)) (a:Option Addr) (n c:Nat) (w:World):(Op.equal t (.slice a n c) (.slice none 0 0)).run P w=.ok a.isNone w:=by
  have key:∀ d,(Op.equalIn (d+1) t (.slice a n c) (.slice none 0 0)).run P w=.ok a.isNone w:=fun d=>by
    cases a <;> simp [Op.equalIn,run_underlying ht]
  exact key 9999
theorem nil_op {ops:Array Oper} {o:Oper} {F:Frm} {S:St} {a:Act} {w:World} (hg:Gam F S a w) {d t c:Nat} {x:Operand} {e:TypeId} (hd:o.dst=some d) (hgd:o.guard=none) (ho:o.op=.binOp .eql t x (.const (.slice none 0 0)) c) (hdn:d < F.nt) {xs:List (List DV)} (hx:ev S x=.sl xs)
    (ht:P.underlying t=some (.slice e)) {K:Act→World→Prop} {Q:Exit→Act→World→Prop} (hK:∀ b,(b=true→xs=[])→∀ a',Gam F (S.app (some d) { av:=.v (.bool b),n:=S.n }) a' w→K a' w):o.wpIn (W F.r) 0 P a w K Q:=by
  obtain ⟨ρ,own,H⟩:=hg
  have h1:=ev_rel H x
  rw [hx] at h1
  generalize hv:a.eval x=v at h1
  cases h1 with
  |sl hdr =>
    have hshape:∃ A n c,v=.slice A n c∧(A.isNone=true→xs=[]):=by
      cases hdr with
      |sl0 hc=>exact ⟨_,_,_,rfl,fun _=>rfl⟩
      |sl f h1 h2=>exact ⟨_,_,_,rfl,fun h=>by simp at h⟩
    obtain ⟨A0,n0,c0,rfl,hnil⟩:=hshape
    have hcv:a.eval (.const (.slice none 0 0))=.slice none 0 0:=rfl
    refine wpIn_value (w':=w) (v:=.bool A0.isNone) (by simp [ho]) ?_ ?_
    · have hgu:(eqGuard .eql t x (.const (.slice none 0 0)) (.slice A0 n0 c0) (.slice none 0 0)).run P w=.ok () w:=by simp [eqGuard]
      simp [execOp,ho,hv,hcv,hgu,binOp,run_eqNil ht]
    · rw [hd]
      refine hK _ hnil _ ⟨ρ,own, ?_⟩
      have:=H.app (dst:=some d) (e:={ av:=.v (.bool A0.isNone),n:=S.n }) (v':=.bool A0.isNone) (w':=w) (ρ':=ρ) (own':=own) (ds:=[]) (fun q hq=>by cases hq;exact hdn) H.jay (Ext.refl _ _) (.inl rfl) (by simp) (fun _ _=>rfl) (by simp) (.v rfl)
        (by simp [Eff.keys]) (by simp [Eff.keys]) (by simp [Eff.ids,AV.ids,hwIds]) .nil
      simpa [Act.put] using this
theorem move_op {o:Oper} {F:Frm} {S:St} {a:Act} {w:World} (hg:Gam F S a w) {d:Nat} {x:Operand} (hd:o.dst=some d) (ho:o.op=.move x) (hdn:d < F.nt) {K:Act→World→Prop} {Q:Exit→Act→World→Prop}
    (hK:∀ a',Gam F (S.app (some d) { av:=ev S x,n:=S.n }) a' w→K a' w):o.wpIn (W F.r) 0 P a w K Q:=by
  have hwf:=hg.wf
  obtain ⟨ρ,own,H⟩:=hg
  refine wpIn_value (w':=w) (v:=a.eval x) (by simp [ho]) (by simp [execOp,ho]) ?_
  rw [hd]
  refine hK _ ⟨ρ,own, ?_⟩
  have:=H.app (dst:=some d) (e:={ av:=ev S x,n:=S.n }) (v':=a.eval x) (w':=w) (ρ':=ρ) (own':=own) (ds:=[]) (fun q hq=>by cases hq;exact hdn) H.jay (Ext.refl _ _) (.inl rfl) (by simp) (fun _ _=>rfl) (by simp) (ev_rel H x)
    (by simp [Eff.keys]) (by simp [Eff.keys]) (fun id hid=>by
      have:=ev_ids hwf x id (by simpa [Eff.ids,hwIds] using hid)
      exact Nat.lt_of_lt_of_le this (Nat.le_max_left _ _)) .nil
  simpa [Act.put] using this
theorem sym_niltest {id d1 d2 t c:Nat} {o1 o2:Oper} {x:Operand} {S:St} {K:Exit→St→Prop} {e:TypeId} {xs:List (List DV)} (hd1:o1.dst=some d1) (hg1:o1.guard=none) (ho1:o1.op=.move x) (hd2:o2.dst=some d2) (hg2:o2.guard=none) (ho2:o2.op=.binOp .eql t (.tmp d1) (.const (.slice none 0 0)) c)
    (ht:P.underlying t=some (.slice e)) (hx:ev S x=.sl xs) (h:∀ b,(b=true→xs=[])→K .normal ((S.app (some d1) { av:=.sl xs,n:=S.n }).app (some d2) { av:=.v (.bool b),n:=(S.app (some d1) { av:=.sl xs,n:=S.n }).n })):Sym A P (.region id #[o1,o2] false) S K:=by
  intro F hF hd a w hg
  simp only [dstOK,List.all_cons,List.all_nil,Bool.and_true,Bool.and_eq_true,dstB,hd1,hd2,decide_eq_true_eq] at hd
  refine wpIn_region ?_
  show wpOpsIn (W F.r) 0 P #[o1,o2] _ [0,1] a w
  have w1:∀ y,Region.wanted o1 y=true:=fun y=>by simp [Region.wanted,hg1]
  have w2:∀ y,Region.wanted o2 y=true:=fun y=>by simp [Region.wanted,hg2]
  simp only [wpOpsIn,List.getElem?_toArray,List.getElem?_cons_zero,List.getElem?_cons_succ,w1,w2,if_true]
  refine move_op hg hd1 ho1 hd.1 fun a' hg'=>?_
  rw [hx] at hg'
  refine nil_op (ops:=#[]) hg' hd2 hg2 ho2 hd.2 (x:=.tmp d1) (xs:=xs) (by simp [ev,St.app,put,upd_same]) ht fun b hb a'' hg''=>?_
  exact ⟨_,h b hb,hg''⟩
end Go.Sym
namespace Go.Sym
open Go
theorem Fin.ok {S:St} {rv v:AV} {n0:Nat} {H:List (Nat × AObj)} {dj:Nat} (σ:Nat→Option Nat) (fz:List Nat) (hv:AV.le (fun i=>if i ∈ fz then S.h i else none) σ rv v) (hh:leH S (fun i=>if i ∈ fz then S.h i else none) σ H)
    (hi:(imgs σ H).Nodup) (hz:∀ i ∈ fz,i ∉ imgs σ H) (hp:∀ i,i < n0→σ i=some i) (hj:S.j=dj):Fin S rv v n0 (hasg H) dj:=by
  refine ⟨σ,_,hv,fun i o1 h=>leH_mem hh _ (hasg_mem h),fun i o k o' c h h' e e'=>?_,fun i o h=>?_,hp,hj⟩
  · rcases imgs_inj hi _ (hasg_mem h) _ (hasg_mem h') c e e' with h|h|h
    · exact congrArg (·.1) h
    · exact h
    · exact h.elim
  · by_cases hm:i ∈ fz
    · rw [if_pos hm] at h
      exact ⟨h,fun j o1 hj hs=>hz i hm (List.mem_filterMap.2 ⟨_,hasg_mem hj,hs⟩)⟩
    · rw [if_neg hm] at h;cases h
end Go.Sym
namespace Go.Sym
open Go
variable {A : Frm → Prop} {P : Program}
def enumA:Nat→List AObj→List (Nat × AObj)
  |_,[]=>[]
  |k,o :: os=>(k,o) :: enumA (k+1) os
def enumO:Nat→List (Option AObj)→List (Nat × AObj)
  |_,[]=>[]
  |k,some o :: os=>(k,o) :: enumO (k+1) os
  |k,none :: os=>enumO (k+1) os
theorem enumA_get:∀ (L:List AObj) (k i:Nat),hasg (enumA k L) i=if i < k then none else L[i - k]?
  |[],k,i=>by simp [enumA,hasg]
  |o :: os,k,i=>by
    simp only [enumA,hasg]
    by_cases h:i=k
    · subst h;simp
    · rw [if_neg h,enumA_get os (k+1) i]
      by_cases h1:i < k
      · rw [if_pos h1,if_pos (by omega)]
      · rw [if_neg h1,if_neg (by omega),show i - k=(i - (k+1))+1 by omega,List.getElem?_cons_succ]
theorem enumO_get:∀ (L:List (Option AObj)) (k i:Nat),hasg (enumO k L) i=if i < k then none else (L[i - k]?).join
  |[],k,i=>by simp [enumO,hasg]
  |o :: os,k,i=>by
    have key:hasg (enumO k (o :: os)) i=if i=k then o else hasg (enumO (k+1) os) i:=by
      cases o with
      |none =>
        simp only [enumO]
        by_cases h:i=k
        · subst h;rw [if_pos rfl,enumO_get os,if_pos (by omega)]
        · rw [if_neg h]
      |some o=>simp only [enumO,hasg]
    rw [key]
    by_cases h:i=k
    · subst h;simp
    · rw [if_neg h,enumO_get os (k+1) i]
      by_cases h1:i < k
      · rw [if_pos h1,if_pos (by omega)]
      · rw [if_neg h1,if_neg (by omega),show i - k=(i - (k+1))+1 by omega,List.getElem?_cons_succ]
structure Pk where
  pre:Prop:=True
  hs:List Nat:=[]
  bo:List Nat:=[]
  ar:List AV
  L0:List AObj:=[]
  v:AV
  L1:List (Option AObj):=[]
  fl:Bool:=false
def lentB (S:St) (hf:Nat→Option AObj) (hs:List Nat):List Nat→List AObj→Prop
  |c :: cs,o :: os=>(match S.h c with|some ob=>AObj.le hf (fun j=>hs[j]?) ob o|none=>False)∧lentB S hf hs cs os
  |[],[]=>True
  |_,_=>False
theorem lentB_get {S:St} {hf:Nat→Option AObj} {hs:List Nat}:∀ {cs:List Nat} {os:List AObj},lentB S hf hs cs os→cs.length=os.length∧∀ (i:Nat) (o:AObj),os[i]?=some o→∃ c ob,cs[i]?=some c∧S.h c=some ob∧AObj.le hf (fun j=>hs[j]?) ob o
  |[],[],_=>by simp
  |c :: cs,o :: os,h=>by
    obtain ⟨h1,h2⟩:=h
    obtain ⟨g1,g2⟩:=lentB_get h2
    refine ⟨by simp [g1],fun i o' ho=>?_⟩
    cases i with
    |zero =>
      simp only [List.getElem?_cons_zero,Option.some.injEq] at ho
      subst ho
      split at h1
      · rename_i ob hob;exact ⟨c,ob,rfl,hob,h1⟩
      · exact h1.elim
    |succ i=>simpa using g2 i o' (by simpa using ho)
  |[],_ :: _,h=>h.elim
  |_ :: _,[],h=>h.elim
def idsO (n:Nat):List (Option AObj)→Prop
  |[]=>True
  |some o :: r=>(∀ id ∈ o.ids,id < n)∧idsO n r
  |none :: r=>idsO n r
theorem idsO_get {n:Nat}:∀ {L:List (Option AObj)},idsO n L→∀ (i:Nat) (o:AObj),L[i]?=some (some o)→∀ id ∈ o.ids,id < n
  |some o :: r,h,0,o',ho=>by simp only [List.getElem?_cons_zero,Option.some.injEq] at ho;subst ho;exact h.1
  |none :: r,h,0,o',ho=>by simp at ho
  |some o :: r,h,i+1,o',ho=>idsO_get h.2 i o' (by simpa using ho)
  |none :: r,h,i+1,o',ho=>idsO_get (L:=r) h i o' (by simpa using ho)
def flatO:List (Option AObj)→Prop
  |[]=>True
  |some o :: r=>o.flat∧flatO r
  |none :: r=>flatO r
theorem flatO_get:∀ {L:List (Option AObj)},flatO L→∀ (i:Nat) (o:AObj),L[i]?=some (some o)→o.flat
  |some o :: r,h,0,o',ho=>by simp only [List.getElem?_cons_zero,Option.some.injEq] at ho;subst ho;exact h.1
  |none :: r,h,0,o',ho=>by simp at ho
  |some o :: r,h,i+1,o',ho=>flatO_get h.2 i o' (by simpa using ho)
  |none :: r,h,i+1,o',ho=>flatO_get (L:=r) h i o' (by simpa using ho)
def boIn (S:St) (hs:List Nat):List Nat→Prop
  |[]=>True
  |c :: cs=>((S.h c).isSome=true∧c ∉ hs)∧boIn S hs cs
theorem boIn_get {S:St} {hs:List Nat}:∀ {bo:List Nat},boIn S hs bo→∀ i ∈ bo,(∃ ob,S.h i=some ob)∧i ∉ hs
  |c :: cs,h,i,hi=>by
    rcases List.mem_cons.1 hi with rfl|hi
    · exact ⟨Option.isSome_iff_exists.1 h.1.1,h.1.2⟩
    · exact boIn_get h.2 i hi
def hwL (τ:Nat→Nat):Nat→List (Option AObj)→List (Nat × Option AObj)
  |_,[]=>[]
  |j,o :: os=>(τ j,o.map (AObj.ren τ)) :: hwL τ (j+1) os
theorem hwL_eq (τ:Nat→Nat):∀ (L:List (Option AObj)) (k:Nat),hwL τ k L=(List.range L.length).map fun j=>(τ (k+j),((L[j]?).join).map (AObj.ren τ))
  |[],k=>rfl
  |o :: os,k=>by
    rw [hwL,hwL_eq τ os (k+1),List.length_cons,List.range_succ_eq_map,List.map_cons,List.map_map]
    congr 1
    refine List.map_congr_left fun j _=>?_
    simp only [Function.comp_apply,List.getElem?_cons_succ,Nat.succ_eq_add_one]
    rw [show k+1+j=k+(j+1) by omega]
def newsL:Nat→Nat→List Nat
  |_,0=>[]
  |n,k+1=>n :: newsL (n+1) k
theorem newsL_eq:∀ (k n:Nat),newsL n k=(List.range k).map (n+·)
  |0,n=>rfl
  |k+1,n=>by
    rw [newsL,newsL_eq k,List.range_succ_eq_map,List.map_cons,List.map_map]
    congr 1
    refine List.map_congr_left fun j _=>?_
    simp only [Function.comp_apply,Nat.succ_eq_add_one]
    omega
def Pk.hf (q:Pk) (S:St):Nat→Option AObj:=fun i=>if i ∈ q.bo then S.h i else none
def Pk.ok (q:Pk) (S:St) (bs:List AV):Prop :=
  q.pre∧AV.leL (q.hf S) (fun j=>q.hs[j]?) bs q.ar∧lentB S (q.hf S) q.hs q.hs q.L0∧q.hs.Nodup∧boIn S q.hs q.bo∧q.hs.length≤q.L1.length∧(∀ id ∈ q.v.ids,id < q.L1.length)∧idsO q.L1.length q.L1∧(q.fl=true→q.v.flat∧flatO q.L1)
def Pk.eff (q:Pk) (S:St):Eff :=
  { av:=q.v.ren (callRen q.hs S.n),hw:=hwL (callRen q.hs S.n) 0 q.L1++dropW (bif q.fl then [] else q.bo),hr:=q.hs++q.bo,news:=newsL S.n (q.L1.length - q.hs.length),n:=S.n+(q.L1.length - q.hs.length) }
def fnE (spec:St→List AV→Option Pk) (S:St) (bs:List AV):Ans:=match spec S bs with
  |none=>bad
  |some q=>(q.ok S bs,q.eff S)
theorem Pk.eff_eq (q:Pk) (S:St) (hl:q.hs.length≤q.L1.length):q.eff S=callEff S q.hs q.bo (bif q.fl then [] else q.bo) q.v (hasg (enumO 0 q.L1)) (q.L1.length - q.hs.length) 0:=by
  simp only [Pk.eff,callEff,hwL_eq,newsL_eq,enumO_get,Nat.not_lt_zero,if_false,Nat.sub_zero,Nat.zero_add]
  rw [show q.hs.length+(q.L1.length - q.hs.length)=q.L1.length by omega]
theorem fnE_sound {f:FuncId} {spec:St→List AV→Option Pk} (hf:∀ S bs q,spec S bs=some q→q.pre→Fn noB P f q.ar (hasg (enumA 0 q.L0)) q.v (hasg (enumO 0 q.L1)) 0)
    {S:St} {bs:List AV} (h:(fnE spec S bs).1) (hS:Wf S) {ops:Array Oper} {o:Oper} {g:Operand} {args:Array Operand} {tys:Array TypeId} {caps:List AV} (hw:Want ops o S)
    (ho:o.op=.call { callee:=.value g,args:=args,argTypes:=tys }) (hg:calleeOf (ev S g)=some (some f,caps)) (hb:preOf (ev S g)++(args.toList.map (ev S)++caps)=bs):VE A P ops o (fnE spec S bs).2 S:=by
  unfold fnE at h ⊢
  cases hq:spec S bs with
  |none=>rw [hq] at h;exact h.elim
  |some q =>
    rw [hq] at h
    simp only at h ⊢
    obtain ⟨h1,h2,h3,h4,h5,h6,h7,h8,h9⟩:=h
    rw [q.eff_eq S h6]
    have hgc:=callee_cases hg
    obtain ⟨g1,g2⟩:=lentB_get h3
    have hlen:q.hs.length+(q.L1.length - q.hs.length)=q.L1.length:=by omega
    have get1:∀ i o,hasg (enumO 0 q.L1) i=some o→q.L1[i]?=some (some o):=fun i o hi=>by
      rw [enumO_get,if_neg (by omega),Nat.sub_zero] at hi
      cases hh:q.L1[i]? with
      |none=>rw [hh] at hi;cases hi
      |some x=>rw [hh] at hi;simp only [Option.join_some] at hi;rw [hi]
    refine ve_call hS hw ho hgc (hf S bs q hq h1) (fun h=>absurd rfl h) (fun _ _ _ _ _ _ _ _ _ _=>trivial) (hf:=q.hf S) (by rw [hb];exact h2) (fun i o0 hi=>?_) (fun j hj=>?_) h4 (fun i ob hi=>?_) (boIn_get h5) ?_ (by rw [hlen];exact h7) (fun i ob hi=>?_)
    · rw [enumA_get,if_neg (by omega),Nat.sub_zero] at hi
      exact g2 i o0 hi
    · rw [enumA_get,if_neg (by omega),Nat.sub_zero]
      exact ⟨_,List.getElem?_eq_getElem (by omega)⟩
    · unfold Pk.hf at hi
      by_cases hm:i ∈ q.bo
      · rw [if_pos hm] at hi;exact ⟨hi,(boIn_get h5 i hm).2,hm⟩
      · rw [if_neg hm] at hi;cases hi
    · cases hfl:q.fl with
      |false=>exact .inl rfl
      |true =>
        obtain ⟨e1,e2⟩:=h9 hfl
        exact .inr ⟨rfl,e1,fun i ob hi=>flatO_get e2 i ob (get1 i ob hi)⟩
    · rw [hlen]
      have:=get1 i ob hi
      exact ⟨(List.getElem?_eq_some_iff.1 this).1,idsO_get h8 i ob this⟩
theorem fnE_ok {f:FuncId} {spec:St→List AV→Option Pk} (hf:∀ S bs q,spec S bs=some q→q.pre→Fn noB P f q.ar (hasg (enumA 0 q.L0)) q.v (hasg (enumO 0 q.L1)) 0):EntryOK A P f (fnE spec) :=
  fun _ _ h hS _ _ _ _ _ _ hw ho hg hb=>fnE_sound hf h hS hw ho hg hb
end Go.Sym
namespace Go.Sym
def z1:=@not_false_eq_true
def z2:=@not_true_eq_false
def z3:=@Nat.max_self
def z4:=@Nat.max_def
def z5:=@List.toList_toArray
def z6:=@Bool.not_true
def z7:=@Bool.not_false
def z8:=@beq_self_eq_true
def z9:=@Bool.or_true
def z10:=@Bool.true_or
def z11:=@Bool.or_self
def z12:=@Bool.false_or
def z13:=@Bool.or_false
def z14:=@List.getElem?_toArray
def z15:=@List.getElem?_cons_succ
def z16:=@List.getElem?_cons_zero
def z17:=@List.getElem?_nil
def z18:=@Option.bind_some
def z19:=@List.nil_append
def z20:=@decide_eq_true_eq
def z21:=@decide_eq_false_iff_not
def z22:=@Bool.not_eq_true'
def z23:=@Bool.not_eq_false'
def z24:=@List.all_cons
def z25:=@List.all_nil
def z26:=@Bool.and_self
def z27:=@Bool.and_true
def z28:=@Bool.true_and
def z29:=@List.length_cons
def z30:=@List.length_nil
def z31:=@List.drop_succ_cons
def z32:=@List.drop_zero
def z33:=@List.take_succ_cons
def z34:=@List.take_zero
def z35:=@List.take_nil
def z36:=@List.drop_nil
def z37:=@List.map_cons
def z38:=@List.map_nil
def z39:=@List.cons_append
def z40:=@List.append_nil
def z41:=@List.headD_cons
def z42:=@Option.getD_some
def z43:=@Nat.zero_add
def z44:=@Nat.add_zero
def z45:=@Nat.zero_mul
def z46:=@Int.toNat_natCast
def z47:=@Int.natCast_nonneg
def z48:=@Nat.le_refl
def z49:=@Option.isSome_some
def z50:=@Option.map_some
def z51:=@Option.map_none
def z52:=@List.length_map
def z53:=@List.mem_singleton
def z54:=@List.mem_cons
def z55:=@List.not_mem_nil
def z56:=@List.nodup_cons
def z57:=@List.nodup_nil
def z58:=@false_implies
def z59:=@implies_true
def z60:=@forall_eq_or_imp
def z61:=@forall_const
def z62:=@Option.some.injEq
def z63:=@Int.toNat_zero
def z64:=@Int.le_refl
def z65:=@Nat.lt_add_one
def z66:=@Nat.zero_lt_succ
def z67:=@Nat.zero_le
end Go.Sym
namespace Go.Sym
open Go
def vk0:=And.intro @vcOps.eq_1 (And.intro @vcOps.eq_2 (And.intro @vcEnd.eq_1 (And.intro @vcEnd.eq_2 (And.intro @vcOp.eq_1 (And.intro @asPick.eq_1 (And.intro @asPick.eq_2 (And.intro @opE.eq_1 (And.intro @opE.eq_2 (And.intro @opE.eq_3 (And.intro @opE.eq_4 (And.intro @opE.eq_5 (And.intro @opE.eq_6 (And.intro @opE.eq_7 (And.intro @opE.eq_8 (And.intro @opE.eq_9 (And.intro @opE.eq_10 (And.intro @opE.eq_11 (And.intro @opE.eq_12 (And.intro @opE.eq_13 (And.intro @opE.eq_14 (And.intro @opE.eq_15 (And.intro @opE.eq_16 (And.intro @opE.eq_17 (And.intro @opE.eq_18 (And.intro @opE.eq_19 (And.intro @opE.eq_20 (And.intro @loadE.eq_1 (And.intro @loadE.eq_2 (And.intro @rdE.eq_1 (And.intro @rdE.eq_2 (And.intro @rdE.eq_3 (And.intro @rdE.eq_4 (And.intro @fieldE.eq_1 (And.intro @fieldE.eq_2 (And.intro @addE.eq_1 (And.intro @addE.eq_2 (And.intro @addE.eq_3 (And.intro @addE.eq_4 (@isAddr.eq_1)))))))))))))))))))))))))))))))))))))))
def vk1:=And.intro @isAddr.eq_2 (And.intro @isAddr.eq_3 (And.intro @isAddr.eq_4 (And.intro @idxE.eq_1 (And.intro @idxE.eq_2 (And.intro @idxE.eq_3 (And.intro @idxE.eq_4 (And.intro @idxE.eq_5 (And.intro @idxE.eq_6 (And.intro @idxE.eq_7 (And.intro @allocE.eq_1 (And.intro @allocE.eq_2 (And.intro @boxE.eq_1 (And.intro @storeE.eq_1 (And.intro @storeE.eq_2 (And.intro @storeE.eq_3 (And.intro @storeE.eq_4 (And.intro @intE.eq_1 (And.intro @intE.eq_2 (And.intro @intE.eq_3 (And.intro @intE.eq_4 (And.intro @intE.eq_5 (And.intro @intE.eq_6 (And.intro @intE.eq_7 (And.intro @intE.eq_8 (And.intro @intE.eq_9 (And.intro @intE.eq_10 (And.intro @intE.eq_11 (And.intro @intE.eq_12 (And.intro @intE.eq_13 (And.intro @intE.eq_14 (And.intro @intE.eq_15 (And.intro @intE.eq_16 (And.intro @intE.eq_17 (And.intro @binE.eq_1 (And.intro @binE.eq_2 (And.intro @binE.eq_3 (And.intro @binE.eq_4 (And.intro @cmpE.eq_1 (@cmpE.eq_2)))))))))))))))))))))))))))))))))))))))
def vk2:=And.intro @cmpE.eq_3 (And.intro @eqE.eq_1 (And.intro @eqE.eq_2 (And.intro @eqE.eq_3 (And.intro @unE.eq_1 (And.intro @unE.eq_2 (And.intro @unE.eq_3 (And.intro @convE.eq_1 (And.intro @convE.eq_2 (And.intro @extE.eq_1 (And.intro @extE.eq_2 (And.intro @lenE.eq_1 (And.intro @lenE.eq_2 (And.intro @lenE.eq_3 (And.intro @lenE.eq_4 (And.intro @lenE.eq_5 (And.intro @lenE.eq_6 (And.intro @lenE.eq_7 (And.intro @lenE.eq_8 (And.intro @lenE.eq_9 (And.intro @elemsE.eq_1 (And.intro @elemsE.eq_2 (And.intro @elemsE.eq_3 (And.intro @elemsE.eq_4 (And.intro @elemsE.eq_5 (And.intro @dstE.eq_1 (And.intro @dstE.eq_2 (And.intro @dstE.eq_3 (And.intro @dstE.eq_4 (And.intro @appE.eq_1 (And.intro @appE.eq_2 (And.intro @rowsOK_nil (And.intro @rowsOK_cons (And.intro @rowsOK_append (And.intro @notIn.eq_1 (And.intro @notIn.eq_2 (And.intro @isSlice.eq_1 (And.intro @isSlice.eq_2 (And.intro @minE.eq_1 (@minE.eq_2)))))))))))))))))))))))))))))))))))))))
def vk3:=And.intro @maxE.eq_1 (And.intro @maxE.eq_2 (And.intro @boundE.eq_1 (And.intro @boundE.eq_2 (And.intro @boundE.eq_3 (And.intro @slE.eq_1 (And.intro @slE.eq_2 (And.intro @slE.eq_3 (And.intro @slE.eq_4 (And.intro @sliceE.eq_1 (And.intro @sliceE.eq_2 (And.intro @sliceE.eq_3 (And.intro @sliceX.eq_1 (And.intro @sliceR.eq_1 (And.intro @sliceR.eq_2 (And.intro @rslA.eq_1 (And.intro @rslA.eq_2 (And.intro @rowId.eq_1 (And.intro @rowId.eq_2 (And.intro @makeE.eq_1 (And.intro @makeE.eq_2 (And.intro @isNil.eq_1 (And.intro @isNil.eq_2 (And.intro @copyE.eq_def (And.intro @copyE.eq_2 (And.intro @srcE.eq_1 (And.intro @srcE.eq_2 (And.intro @srcE.eq_3 (And.intro @srcE.eq_4 (And.intro @dstI.eq_1 (And.intro @dstI.eq_2 (And.intro @dstI.eq_3 (And.intro @fillE.eq_1 (And.intro @fillE.eq_2 (And.intro @buildE.eq_1 (And.intro @buildE.eq_2 (And.intro @dvE.eq_1 (And.intro @dvE.eq_2 (And.intro @dvE.eq_3 (And.intro @dvE.eq_4 (And.intro @dvE.eq_5 (@dvE.eq_6)))))))))))))))))))))))))))))))))))))))))
def vk4:=And.intro @dvsE.eq_1 (And.intro @dvsE.eq_2 (And.intro @bsE.eq_1 (And.intro @bsE.eq_2 (And.intro @callE.eq_1 (And.intro @calleeOf.eq_1 (And.intro @calleeOf.eq_2 (And.intro @calleeOf.eq_3 (And.intro @elemI.eq_1 (And.intro @elemI.eq_2 (And.intro @TD.elem.eq_1 (And.intro @TD.elem.eq_2 (And.intro @TD.elem.eq_3 (And.intro @TD.agg.eq_1 (And.intro @TD.agg.eq_2 (And.intro @TD.agg.eq_3 (And.intro @TD.agg.eq_4 (And.intro @TD.agg.eq_5 (And.intro @TD.agg.eq_6 (And.intro @TD.agg.eq_7 (And.intro @TD.agg.eq_8 (And.intro @TD.agg.eq_9 (And.intro @TD.agg.eq_10 (And.intro @TD.agg.eq_11 (And.intro @loadAV.eq_1 (And.intro @cellsOf.eq_1 (And.intro @cellsOf.eq_2 (And.intro @cellsOf.eq_3 (And.intro @cellsOf.eq_4 (And.intro @cellsOf.eq_5 (And.intro @cellsOf.eq_6 (And.intro @cellsOf.eq_7 (And.intro @cellsOf.eq_8 (And.intro @cellsOf.eq_9 (And.intro @cellsOf.eq_10 (And.intro @cellsOf.eq_11 (And.intro @cellsOf.eq_12 (And.intro @cellsOf.eq_13 (And.intro @cellsOf.eq_14 (@cellsOf.eq_15)))))))))))))))))))))))))))))))))))))))
def vk5:=And.intro @cellsOf.eq_16 (And.intro @oneB.eq_1 (And.intro @oneB.eq_2 (And.intro @oneB.eq_3 (And.intro @oneB.eq_4 (And.intro @oneB.eq_5 (And.intro @oneB.eq_6 (And.intro @oneB.eq_7 (And.intro @oneB.eq_8 (And.intro @oneB.eq_9 (And.intro @oneB.eq_10 (And.intro @oneB.eq_11 (And.intro @oneB.eq_12 (And.intro @oneB.eq_13 (And.intro @oneB.eq_14 (And.intro @oneB.eq_15 (And.intro @oneB.eq_16 (And.intro @dvZ.eq_1 (And.intro @dvL.eq_1 (And.intro @dvL.eq_2 (And.intro @AV.dv.eq_1 (And.intro @AV.dv.eq_2 (And.intro @AV.dv.eq_3 (And.intro @AV.dv.eq_4 (And.intro @AV.dv.eq_5 (And.intro @AV.dv.eq_6 (And.intro @AV.dv.eq_7 (And.intro @AV.dv.eq_8 (And.intro @AV.dv.eq_9 (And.intro @AV.dv.eq_10 (And.intro @AV.dv.eq_11 (And.intro @AV.dv.eq_12 (And.intro @AV.dv.eq_13 (And.intro @AV.dv.eq_14 (And.intro @AV.dv.eq_15 (And.intro @AV.dv.eq_16 (And.intro @DV.av.eq_1 (And.intro @DV.av.eq_2 (And.intro @ev.eq_1 (@ev.eq_2)))))))))))))))))))))))))))))))))))))))
def vk6:=And.intro @ev.eq_3 (And.intro @ev.eq_4 (And.intro @cAV.eq_1 (And.intro @cAV.eq_2 (And.intro @cAV1.eq_1 (And.intro @cAV1.eq_2 (And.intro @cAV1.eq_3 (And.intro @cAV1.eq_4 (And.intro @cAV1.eq_5 (And.intro @cAV1.eq_6 (And.intro @cAV1.eq_7 (And.intro @cAV1.eq_8 (And.intro @cAV1.eq_9 (And.intro @cAV1.eq_10 (And.intro @cAV1.eq_11 (And.intro @cAV1.eq_12 (And.intro @cAV1.eq_13 (And.intro @cAV1.eq_14 (And.intro @cAV1.eq_15 (And.intro @cAV1.eq_16 (And.intro @cAV1.eq_17 (And.intro @cAV1.eq_18 (And.intro @boolA.eq_1 (And.intro @boolA.eq_2 (And.intro @guardA.eq_1 (And.intro @guardA.eq_2 (And.intro @guardA.eq_3 (And.intro @St.lit.eq_1 (And.intro @St.app.eq_1 (And.intro @put.eq_1 (And.intro @put.eq_2 (And.intro @upd_same (And.intro @upd_ne (And.intro @hupd.eq_1 (And.intro @hupd.eq_2 (And.intro @asg_same (And.intro @asg_ne (And.intro @asg_nil (And.intro @argL.eq_1 (@argL.eq_2)))))))))))))))))))))))))))))))))))))))
def vk7:=And.intro @startS.eq_1 (And.intro @placeL.eq_1 (And.intro @placeN.eq_1 (And.intro @zeros.eq_1 (And.intro @zeros.eq_2 (And.intro @chunk.eq_1 (And.intro @chunk.eq_2 (And.intro @deadW.eq_1 (And.intro @deadW.eq_2 (And.intro @deadR.eq_1 (And.intro @deadR.eq_2 (And.intro @dropW.eq_1 (And.intro @isShift.eq_1 (And.intro @isShift.eq_2 (And.intro @isShift.eq_3 (And.intro @bad.eq_1 (And.intro @noH.eq_1 (And.intro @hasg_same (And.intro @hasg_ne (And.intro @hasg_nil (And.intro @fnE.eq_1 (And.intro @Pk.ok.eq_1 (And.intro @Pk.eff.eq_1 (And.intro @Pk.hf.eq_1 (And.intro @lentB.eq_1 (And.intro @lentB.eq_2 (And.intro @lentB.eq_3 (And.intro @boIn.eq_1 (And.intro @boIn.eq_2 (And.intro @idsO.eq_1 (And.intro @idsO.eq_2 (And.intro @idsO.eq_3 (And.intro @flatO.eq_1 (And.intro @flatO.eq_2 (And.intro @flatO.eq_3 (And.intro @hwL.eq_1 (And.intro @hwL.eq_2 (And.intro @newsL.eq_1 (And.intro @newsL.eq_2 (@callRen.eq_1)))))))))))))))))))))))))))))))))))))))
end Go.Sym
