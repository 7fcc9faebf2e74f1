/- Walks and what they compute, joined: part 3. -/
import Derived.ControlIn
import Derived.CallsIn
import Derived.OrdersIn
import Derived.RangeFuncRecord
import Derived.Maps.AppendAt
import Derived.OwnWalk
import Derived.Below
import Derived.Laws.StructEq
import Derived.Laws.Cells
import Derived.Laws.CopyRow
import Derived.Laws.Slices
import Derived.Laws.MakeOwn
import Derived.RangeFuncLeaves
import Derived.Maps.Keyed
import Derived.Laws.Strings
import Derived.Scope
import Derived.Test.YtoapndlmbpphfaaGreatDoorAS2
set_option linter.all false
namespace Go.Sym
open Go
variable {A : Frm → Prop} {P : Program}
theorem UD {F:Frm} {ws:World} {ρs:Nat→Value} {oks keep:Nat→Prop} {l:Nat} {rc:Loop} {jj:Nat} {ownr:Own} {w:World} {ρk:Nat→Value} {ownk:Own} {fz:Nat→Prop} {T:Nat→AV} {a0:Act} {ps hs:List Nat} {n nl:Nat} {ys:List AV} {own:List (Nat × AObj)} {lent:Nat→Option AObj}
    (hs1:RStat F T ps hs n nl ys own lent keep) (hR:RH F ws ρs oks keep l rc (qc own) jj ownr w ρk ownk fz) {Pr:Nat→Prop} (hPr:∀ b,Pr b→¬ ownr.all b∧b < w.heap.size) {ownx:Own} (hxa:∀ b,ownx.all b ↔ ownr.all b∨Pr b) (hxp:∀ b,ownx.prv b ↔ ownr.prv b∨Pr b)
    {ρx:Nat→Value} {yv:Value} (lobj:∀ m o,lent m=some o→ORel w (okB w ownx ρx lent) ρx yv o (ρx m)) (linj:∀ i k o o' b,lent i=some o→lent k=some o'→blk (ρx i)=some b→blk (ρx k)=some b→i=k) (loff:∀ m o b,lent m=some o→blk (ρx m)=some b→¬ ownx.all b)
    (hpin:∀ m c,hs[m]?=some c→ρx m=ρk c) {vs:Array Value} (hvs:vs.size=ys.length) (hrel:∀ i c,ys[i]?=some c→ARel w (okB w ownx ρx lent) ρx yv c (vs.getD i undef))
    (hT:∀ t,ARel ws oks ρs F.y (T t) (a0.tmps.getD t undef)) (hsz:a0.tmps.size=F.nt) :
    Holds (KY F l jj (fun b=>Pr b∨b=l) w (.inr rfl) ⟨rc,hR.rcd⟩ w (wB hs n nl ρk ρx) (qc (own++zZ hs n nl lent)) (Qu ownk fun b=>Pr b∨b=l) (n+nl) (WQ hs1.hsn hs1.own))
      (JX T ps hs n nl ys own lent) { tmps:=(ps.zip vs.toList).foldl (fun (tmps:Array Value) p=>tmps.setIfInBounds p.1 p.2) a0.tmps,defers:=[] } w (wB hs n nl ρk ρx) (Qu ownk fun b=>Pr b∨b=l):=by
  have hll:l < w.heap.size:=(Array.getElem?_eq_some_iff.1 hR.rcd).1
  have hren:∀ m,m < hs.length+nl→wB hs n nl ρk ρx (qj hs n m)=ρx m:=fun m hm=>Jy hs1.hsn hpin hm
  have hlook:∀ {i o},qc (own++zZ hs n nl lent) i=some o→qc own i=some o∨∃ m o0,m < hs.length+nl∧lent m=some o0∧i=qj hs n m∧o=o0.ren (qj hs n):=fun {i o} hi=>by
    rw [vD] at hi
    cases ho:qc own i with
    |some o1=>rw [ho] at hi;exact .inl hi
    |none=>rw [ho] at hi;exact .inr (QE hi)
  have hobjblk:∀ i o b,qc (own++zZ hs n nl lent) i=some o→blk (wB hs n nl ρk ρx i)=some b→vY (qc own) ρk b∨∃ m o0,lent m=some o0∧blk (ρx m)=some b:=fun i o b hi hb=>by
    rcases hlook hi with h|⟨m,o0,hm,h0,rfl,_⟩
    · rw [wY (hs1.own i o h).1] at hb;exact .inl ⟨i,o,h,hb⟩
    · rw [hren m hm] at hb;exact .inr ⟨m,o0,h0,hb⟩
  have hfz:∀ b,fz b→okB w (Qu ownk fun b=>Pr b∨b=l) (wB hs n nl ρk ρx) (qc (own++zZ hs n nl lent)) b:=fun b hb=>by
    obtain ⟨g1,g2,g3,g4⟩:=hR.fzok b hb
    have ha:ownr.all b:=(hR.all b).2 (.inr (.inr (.inr hb)))
    refine ⟨g1, ?_,fun i o hi hbi=>?_⟩
    · rintro (h|h|h)
      · exact g2 h
      · exact (hPr b h).1 ha
      · exact g4 h
    · rcases hobjblk i o b hi hbi with h|⟨m,o0,h0,hm⟩
      · exact g3 h
      · exact loff m o0 b h0 hm ((hxa b).2 (.inl ha))
  have hlx:∀ b,okB w ownx ρx lent b→okB w (Qu ownk fun b=>Pr b∨b=l) (wB hs n nl ρk ρx) (qc (own++zZ hs n nl lent)) b:=fun b ⟨g1,g2,g3⟩=>by
    refine ⟨g1, ?_,fun i o hi hbi=>?_⟩
    · rintro (h|h|h)
      · exact g2 ((hxp b).2 (.inl ((hR.prv b).2 (.inl h))))
      · exact g2 ((hxp b).2 (.inr h))
      · exact g2 ((hxp b).2 (.inl ((hR.prv b).2 (.inr (.inr h)))))
    · rcases hobjblk i o b hi hbi with h|⟨m,o0,h0,hm⟩
      · exact g2 ((hxp b).2 (.inl ((hR.prv b).2 (.inr (.inl h)))))
      · exact g3 m o0 h0 hm
  have hTw:∀ t,ARel w (okB w (Qu ownk fun b=>Pr b∨b=l) (wB hs n nl ρk ρx) (qc (own++zZ hs n nl lent))) (wB hs n nl ρk ρx) F.y (T t) (a0.tmps.getD t undef):=fun t =>
    (hT t).mono (fun b hb=>⟨hfz b (hR.oks b hb).1,(hR.oks b hb).2⟩) fun id hid=>by
      obtain ⟨g1,g2⟩:=hs1.tmp t id hid
      rw [wY g1,hR.keep id g2]
  have hputs:=XH (w:=w) (ok:=okB w (Qu ownk fun b=>Pr b∨b=l) (wB hs n nl ρk ρx) (qc (own++zZ hs n nl lent))) (ρ:=wB hs n nl ρk ρx) (y:=F.y) (L:=ps.zip (ys.map (AV.ren (qj hs n)))) (vs:=ps.zip vs.toList) (T:=T) (tmps:=a0.tmps)
    (by simp [hvs]) (fun i p v hp hv=>by
      rw [List.getElem?_zip_eq_some] at hp hv
      obtain ⟨p1,p2⟩:=hp
      obtain ⟨v1,v2⟩:=hv
      rw [p1] at v1
      refine ⟨by simpa using v1, ?_⟩
      rw [List.getElem?_map] at p2
      obtain ⟨c,hc,e⟩:=Option.map_eq_some_iff.1 p2
      have h1:=hrel i c hc
      have h2:vs.getD i undef=v.2:=by
        have h3:vs[i]?=some v.2:=by simpa using v2
        simp [h3]
      rw [h2] at h1
      rw [← e]
      exact ((h1.chy (hs1.args c (List.mem_of_getElem? hc)).1).mono (fun b hb=>⟨hlx b hb,rfl⟩) fun _ _=>rfl).ren fun id hid=>hren id ((hs1.args c (List.mem_of_getElem? hc)).2 id hid))
    (fun p hp=>by rw [hsz];exact hs1.psn p.1 (List.of_mem_zip hp).1) hTw
  refine ⟨⟨ownk,hR.jay,fun b=>Iff.rfl,fun b=>Iff.rfl,fun b hb=>⟨?_, ?_,rfl⟩⟩,hputs.1,fun i o hi=>?_,fun i k o o' b hi hk hbi hbk=>?_,fun i o b hi hb=>⟨?_,.inr ⟨i,o,hi,hb⟩⟩,fun id hid=>?_,Nat.le_refl _,rfl,hputs.2.trans hsz,fun _ _ _=>rfl,Ext.refl _ _,fun b hb=>.inl hb,fun _=>rfl,.nil⟩
  · rcases hb with h|rfl
    · exact fun ho=>(hPr b h).1 ((hR.all b).2 (.inl ho))
    · exact hR.lown
  · rcases hb with h|rfl
    · exact (hPr b h).2
    · exact hll
  · rcases hlook hi with h|⟨m,o0,hm,h0,rfl,rfl⟩
    · have hin:=hs1.own i o h
      rw [wY hin.1]
      exact (hR.obj i o h).mono (fun b hb=>⟨hfz b hb,rfl⟩) (fun _ _=>rfl) fun id hid=>wY (hin.2 id hid)
    · rw [hren m hm]
      exact AObj.ren_rel ((lobj m o0 h0).chy (hs1.lent m o0 h0).2.1) (.inr hlx) fun id hid=>hren id ((hs1.lent m o0 h0).2.2 id hid)
  · have cross:∀ {i o m o0},qc own i=some o→lent m=some o0→blk (ρk i)=some b→blk (ρx m)=some b→False:=fun {i o m o0} h h0 hb hb' =>
      loff m o0 b h0 hb' ((hxa b).2 (.inl ((hR.all b).2 (.inr (.inl ⟨i,o,h,hb⟩)))))
    rcases hlook hi with h|⟨m,o0,hm,h0,rfl,rfl⟩
    · rw [wY (hs1.own i o h).1] at hbi
      rcases hlook hk with h'|⟨m',o0',hm',h0',rfl,rfl⟩
      · rw [wY (hs1.own k o' h').1] at hbk
        exact hR.inj i k o o' b h h' hbi hbk
      · rw [hren m' hm'] at hbk
        exact (cross h h0' hbi hbk).elim
    · rw [hren m hm] at hbi
      rcases hlook hk with h'|⟨m',o0',hm',h0',rfl,rfl⟩
      · rw [wY (hs1.own k o' h').1] at hbk
        exact (cross h' h0 hbk hbi).elim
      · rw [hren m' hm'] at hbk
        rw [linj m m' o0 o0' b h0 h0' hbi hbk]
  · rcases hlook hi with h|⟨m,o0,hm,h0,rfl,rfl⟩
    · rw [wY (hs1.own i o h).1] at hb
      rintro (ho|ho|ho)
      · exact (hR.off i o b h hb).1 ho
      · exact (hPr b ho).1 ((hR.all b).2 (.inr (.inl ⟨i,o,h,hb⟩)))
      · exact (hR.off i o b h hb).2 ho
    · rw [hren m hm] at hb
      have h1:=loff m o0 b h0 hb
      rintro (ho|ho|ho)
      · exact h1 ((hxa b).2 (.inl ((hR.all b).2 (.inl ho))))
      · exact h1 ((hxa b).2 (.inr ho))
      · exact h1 ((hxa b).2 (.inl ((hR.all b).2 (.inr (.inr (.inl ho))))))
  · have hid:n+nl≤id:=hid
    refine ⟨?_,fun t hm=>?_,fun i o hi hm=>?_,by simp [JX]⟩
    · show qc (own++zZ hs n nl lent) id=none
      cases ho:qc (own++zZ hs n nl lent) id with
      |none=>rfl
      |some o=>have:=WQ hs1.hsn hs1.own id o ho;omega
    · rcases QbZ T (ps.zip (ys.map (AV.ren (qj hs n)))) t with h|⟨p,hp,h⟩
      · simp only [JX] at hm;rw [h] at hm;have:=(hs1.tmp t id hm).1;omega
      · simp only [JX] at hm
        rw [h] at hm
        have hp2:=(List.of_mem_zip hp).2
        obtain ⟨c,hc,e⟩:=List.mem_map.1 hp2
        rw [← e,AV.ren_ids] at hm
        obtain ⟨q,hq,rfl⟩:=List.mem_map.1 hm
        have:=kT hs1.hsn ((hs1.args c hc).2 q hq);omega
    · rcases hlook hi with h|⟨m,o0,hm0,h0,rfl,rfl⟩
      · have:=(hs1.own i o h).2 id hm;omega
      · rw [AObj.ren_ids] at hm
        obtain ⟨q,hq,rfl⟩:=List.mem_map.1 hm
        have:=kT hs1.hsn ((hs1.lent m o0 h0).2.2 q hq);omega
theorem RG {F:Frm} {l jj n0:Nat} {Pr:Nat→Prop} {wj w0:World} {hl:Pr l} {hrec:∃ rc,wj.heap[l]?=some (.loop rc)} {ρ0:Nat→Value} {H0:Nat→Option AObj} {own0:Own} {pinn:∀ i o,H0 i=some o→i < n0}
    {S:St} {a:Act} {w1:World} {ρ:Nat→Value} {own:Own} (H:Holds (KY F l jj Pr wj hl hrec w0 ρ0 H0 own0 n0 pinn) S a w1 ρ own) (hp0:own0.prv l) {rc:Loop} (hl1:l < w1.heap.size) :
    Holds (KY F l jj Pr (w1.putObj l (.loop rc)) hl ⟨rc,by rw [xN,if_pos ⟨rfl,hl1⟩]⟩ w0 ρ0 H0 own0 n0 pinn) S a (w1.putObj l (.loop rc)) ρ own:=by
  obtain ⟨own',hj,ha,hp,hpr⟩:=H.jay
  have hx:Ext (fun k=>k=l) w1 (w1.putObj l (.loop rc)):=Ext.putObj _ _ _ rfl
  have hla:own.all l:=(ha l).2 (.inr hl)
  have hlp:own.prv l:=(hp l).2 (.inr hl)
  have hok:∀ b,okB w1 own ρ S.h b→okB (w1.putObj l (.loop rc)) own ρ S.h b∧(w1.putObj l (.loop rc)).heap[b]?=w1.heap[b]?:=fun b hb=>⟨⟨Nat.lt_of_lt_of_le hb.1 hx.size,hb.2⟩,hx.block b hb.1 fun e=>hb.2.1 (e ▸ hlp)⟩
  refine ⟨⟨own',(F.stable _ _ _ hj).2 _ (hx.weaken fun b _ e ho=>(hpr l hl).1 (e ▸ ho)),ha,hp,fun b hb=>⟨(hpr b hb).1,Nat.lt_of_lt_of_le (hpr b hb).2.1 hx.size,rfl⟩⟩,fun t=>(H.temps t).mono hok fun _ _=>rfl,fun i o hi=>(H.obj i o hi).mono hok (fun b hb=>hx.block b ((H.obj i o hi).lt hb) fun e=>(H.blkOK i o b hi hb).1 (e ▸ hla)) fun _ _=>rfl,
    H.inj,H.blkOK,H.fresh,H.nle,H.meq,H.tsz,H.pins,H.ext.trans hx fun b _ e=>.inl (e ▸ hp0),H.ownsub,H.still,H.defs.mono hok fun _ _=>rfl⟩
structure RFin (S:St) (hs:List Nat) (n:Nat) (own:List (Nat × AObj)) (lent:Nat→Option AObj) (keep:Nat→Prop) (σ:Nat→Option Nat) (hf:Nat→Option AObj):Prop where
  fown:∀ i o1,qc own i=some o1→(∃ c o,σ i=some c∧S.h c=some o∧AObj.le hf σ o o1)∨(σ i=none∧Vg o1)
  flent:∀ m o0,lent m=some o0→∃ ob,S.h (qj hs n m)=some ob∧AObj.le hf (fun j=>some (qj hs n j)) ob o0
  inj:∀ i o k o' c,qc own i=some o→qc own k=some o'→σ i=some c→σ k=some c→i=k
  apart:∀ i o m o0,qc own i=some o→lent m=some o0→σ i ≠ some (qj hs n m)
  frz:∀ i o,hf i=some o→S.h i=some o∧(∀ j o1,qc own j=some o1→σ j ≠ some i)∧∀ m o0,lent m=some o0→qj hs n m ≠ i
  fkeep:∀ id,keep id→σ id=some id
def vS (σ:Nat→Option Nat) (ρ:Nat→Value) (i:Nat):Value:=match σ i with|some c=>ρ c|none=>.slice none 0 0
theorem Qcb {F:Frm} {ws:World} {ρs:Nat→Value} {oks keep:Nat→Prop} {l:Nat} {rc rc':Loop} {jj:Nat} {ownr:Own} {w:World} {ρk:Nat→Value} {ownk:Own} {fz:Nat→Prop} {T:Nat→AV} {ps hs:List Nat} {n nl:Nat} {ys:List AV} {own own2:List (Nat × AObj)} {lent:Nat→Option AObj}
    (hs1:RStat F T ps hs n nl ys own lent keep) (hR:RH F ws ρs oks keep l rc (qc own) jj ownr w ρk ownk fz) {Pr:Nat→Prop} (hPr:∀ b,Pr b→¬ ownr.all b∧b < w.heap.size) {ownx:Own} (hxa:∀ b,ownx.all b ↔ ownr.all b∨Pr b) (hxp:∀ b,ownx.prv b ↔ ownr.prv b∨Pr b)
    {ρx:Nat→Value} {yv:Value} (lbl:∀ m o,lent m=some o→∀ b,blk (ρx m)=some b→b < w.heap.size) (linj:∀ i k o o' b,lent i=some o→lent k=some o'→blk (ρx i)=some b→blk (ρx k)=some b→i=k) (loff:∀ m o b,lent m=some o→blk (ρx m)=some b→¬ ownx.all b)
    (lids:∀ m o,lent m=some o→∀ id ∈ o.ids,∃ o',lent id=some o') (hpin:∀ m c,hs[m]?=some c→ρx m=ρk c)
    (hkeep:∀ id,keep id→id < n∧∃ o,qc (own++zZ hs n nl lent) id=some o) (hlast:∀ m o0,lent m=some o0→∃ o,qc (own++zZ hs n nl lent) (qj hs n m)=some o)
    {w2:World} {hrec:∃ rc,w2.heap[l]?=some (.loop rc)} (hw2:∀ b,Pr b→w2.heap[b]?=w.heap[b]?) {S:St} {a:Act} {w3:World} {ρ3:Nat→Value} {own3:Own}
    (H:Holds (KY F l jj (fun b=>Pr b∨b=l) w2 (.inr rfl) hrec w (wB hs n nl ρk ρx) (qc (own++zZ hs n nl lent)) (Qu ownk fun b=>Pr b∨b=l) (n+nl) (WQ hs1.hsn hs1.own)) S a w3 ρ3 own3)
    {σ:Nat→Option Nat} {hf:Nat→Option AObj} (hF:RFin S hs n own2 lent keep σ hf) :
    ∃ ownk' fz' ownr' ownx',RH F ws ρs oks keep l rc' (qc own2) (jj+S.j) ownr' (w3.putObj l (.loop rc')) (vS σ ρ3) ownk' fz'∧(∀ b,ownx'.all b ↔ ownr'.all b∨Pr b)∧(∀ b,ownx'.prv b ↔ ownr'.prv b∨Pr b) ∧
      (∀ b,Pr b→¬ ownr'.all b∧b < (w3.putObj l (.loop rc')).heap.size∧(w3.putObj l (.loop rc')).heap[b]?=w.heap[b]?) ∧
      (∀ m o,lent m=some o→ORel (w3.putObj l (.loop rc')) (okB (w3.putObj l (.loop rc')) ownx' ρx lent) ρx F.y o (ρx m))∧(∀ m o b,lent m=some o→blk (ρx m)=some b→¬ ownx'.all b) ∧
      Ext (fun b=>ownx.prv b∨∃ i o,lent i=some o∧blk (ρx i)=some b) w (w3.putObj l (.loop rc'))∧∀ b,ownx'.prv b→ownx.prv b∨w.heap.size≤b:=by
  obtain ⟨ownk',hj,ha,hp,hpr⟩:=H.jay
  have hll:l < w.heap.size:=(Array.getElem?_eq_some_iff.1 hR.rcd).1
  have hl3:l < w3.heap.size:=Nat.lt_of_lt_of_le hll H.ext.size
  have hla:own3.all l:=(ha l).2 (.inr (.inr rfl))
  have hlp:own3.prv l:=(hp l).2 (.inr (.inr rfl))
  have hx4:Ext (fun k=>k=l) w3 (w3.putObj l (.loop rc')):=Ext.putObj _ _ _ rfl
  have hren:∀ m o,lent m=some o→wB hs n nl ρk ρx (qj hs n m)=ρx m:=fun m o h=>Jy hs1.hsn hpin (hs1.lent m o h).1
  have hlρ:∀ m o,lent m=some o→ρ3 (qj hs n m)=ρx m:=fun m o h=>by
    obtain ⟨o',ho'⟩:=hlast m o h
    exact (H.pins _ o' ho').trans (hren m o h)
  have hσ:∀ j i,σ j=some i→vS σ ρ3 j=ρ3 i:=fun j i h=>by simp only [vS,h]
  have hσ0:∀ j,σ j=none→vS σ ρ3 j=.slice none 0 0:=fun j h=>by simp only [vS,h]
  have hlook:∀ {i o},qc (own++zZ hs n nl lent) i=some o→qc own i=some o∨∃ m o0,lent m=some o0∧i=qj hs n m:=fun {i o} hi=>by
    rw [vD] at hi
    cases ho:qc own i with
    |some o1=>rw [ho] at hi;exact .inl hi
    |none=>rw [ho] at hi;obtain ⟨m,o0,_,h0,e,_⟩:=QE hi;exact .inr ⟨m,o0,h0,e⟩
  have howns:∀ b,(∃ i o,qc (own++zZ hs n nl lent) i=some o∧blk (wB hs n nl ρk ρx i)=some b)→vY (qc own) ρk b∨∃ m o0,lent m=some o0∧blk (ρx m)=some b:=by
    rintro b ⟨i,o,hi,hb⟩
    rcases hlook hi with h|⟨m,o0,h0,rfl⟩
    · rw [wY (hs1.own i o h).1] at hb;exact .inl ⟨i,o,h,hb⟩
    · rw [hren m o0 h0] at hb;exact .inr ⟨m,o0,h0,hb⟩
  have hb2:∀ b,vY (qc own2) (vS σ ρ3) b→∃ i o c ob,qc own2 i=some o∧σ i=some c∧S.h c=some ob∧blk (ρ3 c)=some b:=by
    rintro b ⟨i,o,hi,hb⟩
    rcases hF.fown i o hi with ⟨c,ob,hc,hob,_⟩|⟨hn,_⟩
    · rw [hσ i c hc] at hb;exact ⟨i,o,c,ob,hi,hc,hob,hb⟩
    · rw [hσ0 i hn] at hb;simp [blk] at hb
  have hbl:∀ m o b,lent m=some o→blk (ρx m)=some b→∃ ob,S.h (qj hs n m)=some ob∧blk (ρ3 (qj hs n m))=some b:=fun m o b h hb=>by
    obtain ⟨ob,hob,_⟩:=hF.flent m o h
    exact ⟨ob,hob,by rw [hlρ m o h];exact hb⟩
  have hcross:∀ b m o,lent m=some o→blk (ρx m)=some b→¬ vY (qc own2) (vS σ ρ3) b:=fun b m o h hb hk=>by
    obtain ⟨i,o1,c,ob,hi,hc,hob,hcb⟩:=hb2 b hk
    obtain ⟨ob',hob',hb'⟩:=hbl m o b h hb
    have:=H.inj c _ ob ob' b hob hob' hcb hb'
    subst this
    exact hF.apart i o1 m o hi h hc
  let fz':Nat→Prop:=fun b=>b < w3.heap.size∧¬ own3.prv b∧¬ vY (qc own2) (vS σ ρ3) b∧∀ m o,lent m=some o→blk (ρx m) ≠ some b
  have hok3:∀ b,okB w3 own3 ρ3 S.h b→fz' b:=fun b ⟨g1,g2,g3⟩=>⟨g1,g2,fun hk=>by obtain ⟨_,_,c,ob,_,_,hob,hcb⟩:=hb2 b hk;exact g3 c ob hob hcb,fun m o h hb=>by obtain ⟨ob,hob,hb'⟩:=hbl m o b h hb;exact g3 _ ob hob hb'⟩
  have hfzl:∀ b,fz' b→b ≠ l:=fun b hb e=>hb.2.1 (e ▸ hlp)
  have hrow:∀ i ox b,hf i=some ox→blk (ρ3 i)=some b→fz' b:=by
    intro i ox b hi hb
    obtain ⟨g1,g2,g3⟩:=hF.frz i _ hi
    refine ⟨(H.obj i _ g1).lt hb,fun hp=>(H.blkOK i _ b g1 hb).1 (own3.sub _ hp),fun hk=>?_,fun m o h hbm=>?_⟩
    · obtain ⟨q,oq,c,ob,hq,hc,hob,hcb⟩:=hb2 b hk
      have:=H.inj i c _ ob b g1 hob hb hcb
      subst this
      exact g2 q oq hq hc
    · obtain ⟨ob,hob,hb'⟩:=hbl m o b h hbm
      exact g3 m o h (H.inj i _ _ ob b g1 hob hb hb').symm
  have hobjf:∀ i o,hf i=some o→ORel w3 (okB w3 own3 ρ3 S.h) ρ3 F.y o (ρ3 i):=fun i o hi=>H.obj i o (hF.frz i o hi).1
  have hfz4:∀ b,fz' b→fz' b∧(w3.putObj l (.loop rc')).heap[b]?=w3.heap[b]?:=fun b hb=>⟨hb,hx4.block b hb.1 (hfzl b hb)⟩
  have hPl:∀ b,Pr b→b ≠ l:=fun b hb e=>(hPr b hb).1 (e ▸ (hR.all l).2 (.inr (.inr (.inl rfl))))
  have hfz0:∀ b,fz b→fz' b∧(w3.putObj l (.loop rc')).heap[b]?=w.heap[b]?:=fun b hb=>by
    obtain ⟨g1,g2,g3,g4⟩:=hR.fzok b hb
    have hal:ownr.all b:=(hR.all b).2 (.inr (.inr (.inr hb)))
    have hn0:¬ ((Qu ownk fun b=>Pr b∨b=l).prv b):=by
      rintro (h|h|h)
      · exact g2 h
      · exact (hPr b h).1 hal
      · exact g4 h
    have hno:¬ ∃ i o,qc (own++zZ hs n nl lent) i=some o∧blk (wB hs n nl ρk ρx i)=some b:=fun h=>by
      rcases howns b h with h|⟨m,o0,h0,hm⟩
      · exact g3 h
      · exact loff m o0 b h0 hm ((hxa b).2 (.inl hal))
    have hs3:∀ c ob,S.h c=some ob→blk (ρ3 c) ≠ some b:=fun c ob hc hb'=>by
      rcases (H.blkOK c ob b hc hb').2 with h|h
      · have h:w.heap.size≤b:=h;omega
      · exact hno h
    refine ⟨⟨Nat.lt_of_lt_of_le g1 H.ext.size,fun h=>?_,fun hk=>?_,fun m o h hbm=>?_⟩, ?_⟩
    · rcases H.ownsub b h with h|h
      · exact hn0 h
      · have h:w.heap.size≤b:=h;omega
    · obtain ⟨_,_,c,ob,_,_,hob,hcb⟩:=hb2 b hk;exact hs3 c ob hob hcb
    · obtain ⟨ob,hob,hb'⟩:=hbl m o b h hbm;exact hs3 _ ob hob hb'
    · rw [hx4.block b (Nat.lt_of_lt_of_le g1 H.ext.size) g4]
      exact H.ext.block b g1 fun h=>h.elim hn0 hno
  let ownr':Own:=⟨fun b=>ownk'.all b∨vY (qc own2) (vS σ ρ3) b∨b=l∨fz' b,fun b=>ownk'.prv b∨vY (qc own2) (vS σ ρ3) b∨b=l,fun b h=>h.imp (ownk'.sub b) fun h=>h.imp id .inl⟩
  have hall2:∀ b,vY (qc own2) (vS σ ρ3) b→¬ own3.all b:=fun b hk=>by obtain ⟨_,_,c,ob,_,_,hob,hcb⟩:=hb2 b hk;exact (H.blkOK c ob b hob hcb).1
  have hPn:∀ b,Pr b→¬ ownr'.all b:=fun b hb h=>by
    rcases h with h|h|h|h
    · exact (hpr b (.inl hb)).1 h
    · exact hall2 b h ((ha b).2 (.inr (.inl hb)))
    · exact hPl b hb h
    · exact h.2.1 ((hp b).2 (.inr (.inl hb)))
  have hok5:∀ b,fz' b→okB (w3.putObj l (.loop rc')) (Qu ownr' Pr) ρx lent b:=fun b hb=>by
    refine ⟨Nat.lt_of_lt_of_le hb.1 hx4.size, ?_,hb.2.2.2⟩
    rintro ((h|h|h)|h)
    · exact hb.2.1 ((hp b).2 (.inl h))
    · exact hb.2.2.1 h
    · exact hfzl b hb h
    · exact hb.2.1 ((hp b).2 (.inr (.inl h)))
  have hM:∀ b,((Qu ownk fun b=>Pr b∨b=l).prv b∨∃ i o,qc (own++zZ hs n nl lent) i=some o∧blk (wB hs n nl ρk ρx i)=some b)→ownx.prv b∨∃ i o,lent i=some o∧blk (ρx i)=some b:=by
    rintro b ((h|h|h)|h)
    · exact .inl ((hxp b).2 (.inl ((hR.prv b).2 (.inl h))))
    · exact .inl ((hxp b).2 (.inr h))
    · exact .inl ((hxp b).2 (.inl ((hR.prv b).2 (.inr (.inr h)))))
    · rcases howns b h with h|h
      · exact .inl ((hxp b).2 (.inl ((hR.prv b).2 (.inr (.inl h)))))
      · exact .inr h
  refine ⟨ownk',fz',ownr',Qu ownr' Pr, ?_,fun b=>Iff.rfl,fun b=>Iff.rfl,fun b hb=>⟨hPn b hb,Nat.lt_of_lt_of_le (hpr b (.inl hb)).2.1 hx4.size, ?_⟩,fun m o h=>?_,fun m o b h hb=>?_, ?_,fun b hb=>?_⟩
  · refine ⟨(F.stable _ _ _ hj).2 _ (hx4.weaken fun b _ e ho=>(hpr l (.inr rfl)).1 (e ▸ ho)),fun b=>Iff.rfl,fun b=>Iff.rfl,fun b hb=>⟨Nat.lt_of_lt_of_le hb.1 hx4.size,fun h=>hb.2.1 ((hp b).2 (.inl h)),hb.2.2.1,hfzl b hb⟩,fun i o hi=>?_,fun i k o o' b hi hk hbi hbk=>?_,fun i o b hi hb=>?_,(hpr l (.inr rfl)).1, ?_,fun b hb=>?_,fun id hid=>?_,fun i o b hi hb=>?_,fun b hb=>?_,fun hj0=>?_,Nat.le_trans hR.big (Nat.le_trans H.ext.size hx4.size)⟩
    · rcases hF.fown i o hi with ⟨c,ob,hc,hob,hle⟩|⟨hn,he⟩
      · rw [hσ i c hc]
        refine (AObj.le_rel hobjf hok3 hrow hσ hσ0 (H.obj c ob hob) hle).mono hfz4 (fun b hb=>hx4.block b ((H.obj c ob hob).lt hb) fun e=>(H.blkOK c ob b hob hb).1 (e ▸ hla)) fun _ _=>rfl
      · rw [hσ0 i hn];exact Yb he
    · rcases hF.fown i o hi with ⟨c,ob,hc,hob,_⟩|⟨hn,_⟩
      · rcases hF.fown k o' hk with ⟨c',ob',hc',hob',_⟩|⟨hn,_⟩
        · rw [hσ i c hc] at hbi
          rw [hσ k c' hc'] at hbk
          have:=H.inj c c' ob ob' b hob hob' hbi hbk
          subst this
          exact hF.inj i o k o' c hi hk hc hc'
        · rw [hσ0 k hn] at hbk;simp [blk] at hbk
      · rw [hσ0 i hn] at hbi;simp [blk] at hbi
    · have:=hall2 b ⟨i,o,hi,hb⟩
      exact ⟨fun h=>this ((ha b).2 (.inl h)),fun e=>this (e ▸ hla)⟩
    · rw [xN,if_pos ⟨rfl,hl3⟩]
    · obtain ⟨g1,g2⟩:=hR.oks b hb
      exact ⟨(hfz0 b g1).1,(hfz0 b g1).2.trans g2⟩
    · obtain ⟨hlt,o,ho⟩:=hkeep id hid
      rw [hσ id id (hF.fkeep id hid),H.pins id o ho]
      show wB hs n nl ρk ρx id=_
      rw [wY hlt];exact hR.keep id hid
    · obtain ⟨_,_,c,ob,_,_,hob,hcb⟩:=hb2 b ⟨i,o,hi,hb⟩
      rcases (H.blkOK c ob b hob hcb).2 with h'|h'
      · exact .inl (Nat.le_trans hR.big h')
      · rcases howns b h' with ⟨q,oq,hq,hqb⟩|⟨m,o0,h0,hm⟩
        · exact hR.prov q oq b hq hqb
        · exact absurd ⟨i,o,hi,hb⟩ (hcross b m o0 h0 hm)
    · rcases H.ownsub b ((hp b).2 (.inl hb)) with h|h
      · rcases h with h|h|h
        · exact hR.psub b h
        · exact absurd (ownk'.sub b hb) (hpr b (.inl h)).1
        · exact absurd (ownk'.sub b hb) (hpr b (.inr h)).1
      · exact .inr (Nat.le_trans hR.big h)
    · have hS0:S.j=0:=by omega
      have he:=H.still hS0
      have hk:ownk=F.own0:=hR.still (by omega)
      have hnk:∀ b,ownk.all b→¬ (Pr b∨b=l):=fun b hb h=>by
        rcases h with h|rfl
        · exact (hPr b h).1 ((hR.all b).2 (.inl hb))
        · exact hR.lown hb
      have he':own3=Qu ownk fun b=>Pr b∨b=l:=he
      rw [← hk]
      refine Own.eq (fun b=>⟨fun hb=>?_,fun hb=>?_⟩) (fun b=>⟨fun hb=>?_,fun hb=>?_⟩)
      · have:=(ha b).2 (.inl hb);rw [he'] at this;exact this.resolve_right fun h=>(hpr b h).1 hb
      · have:own3.all b:=by rw [he'];exact .inl hb
        exact ((ha b).1 this).resolve_right (hnk b hb)
      · have:=(hp b).2 (.inl hb);rw [he'] at this;exact this.resolve_right fun h=>(hpr b h).1 (ownk'.sub b hb)
      · have:own3.prv b:=by rw [he'];exact .inl hb
        exact ((hp b).1 this).resolve_right (hnk b (ownk.sub b hb))
  · rw [hx4.block b (hpr b (.inl hb)).2.1 (hPl b hb)]
    exact ((hpr b (.inl hb)).2.2).trans (hw2 b hb)
  · obtain ⟨ob,hob,hle⟩:=hF.flent m o h
    have h1:=AObj.le_rel (ok':=okB (w3.putObj l (.loop rc')) (Qu ownr' Pr) ρx lent) (ρ':=fun j=>ρ3 (qj hs n j)) hobjf (fun b hb=>hok5 b (hok3 b hb)) (fun i ox b hi hb=>hok5 b (hrow i ox b hi hb)) (fun j i e=>by cases e;rfl) (fun j e=>by cases e) (H.obj _ ob hob) hle
    rw [hlρ m o h] at h1
    refine h1.mono (fun b hb=>⟨hb,hx4.block b (by have:=hb.1;simpa [World.putObj] using this) fun e=>hb.2.1 (.inl (.inr (.inr e)))⟩) (fun b hb=>?_) fun id hid=>?_
    · obtain ⟨ob',hob',hb'⟩:=hbl m o b h hb
      exact hx4.block b ((H.obj _ ob' hob').lt hb') fun e=>(H.blkOK _ ob' b hob' hb').1 (e ▸ hla)
    · obtain ⟨o',ho'⟩:=lids m o h id hid
      exact (hlρ id o' ho').symm
  · rintro ((h'|h'|h'|h')|h')
    · obtain ⟨ob,hob,hb'⟩:=hbl m o b h hb;exact (H.blkOK _ ob b hob hb').1 ((ha b).2 (.inl h'))
    · exact hcross b m o h hb h'
    · obtain ⟨ob,hob,hb'⟩:=hbl m o b h hb;exact (H.blkOK _ ob b hob hb').1 (h' ▸ hla)
    · exact h'.2.2.2 m o h hb
    · obtain ⟨ob,hob,hb'⟩:=hbl m o b h hb;exact (H.blkOK _ ob b hob hb').1 ((ha b).2 (.inr (.inl h')))
  · have e1:Ext (fun b=>(Qu ownk fun b=>Pr b∨b=l).prv b∨∃ i o,qc (own++zZ hs n nl lent) i=some o∧blk (wB hs n nl ρk ρx i)=some b) w w3:=H.ext
    exact (e1.trans hx4 fun b _ e=>.inl (.inr (.inr e))).weaken fun b _ h=>hM b h
  · rcases hb with (h|h|h)|h
    · rcases H.ownsub b ((hp b).2 (.inl h)) with h|h
      · rcases h with h|h|h
        · exact .inl ((hxp b).2 (.inl ((hR.prv b).2 (.inl h))))
        · exact .inl ((hxp b).2 (.inr h))
        · exact .inl ((hxp b).2 (.inl ((hR.prv b).2 (.inr (.inr h)))))
      · exact .inr h
    · obtain ⟨_,_,c,ob,_,_,hob,hcb⟩:=hb2 b h
      rcases (H.blkOK c ob b hob hcb).2 with h'|h'
      · exact .inr h'
      · rcases howns b h' with h'|⟨m,o0,h0,hm⟩
        · exact .inl ((hxp b).2 (.inl ((hR.prv b).2 (.inr (.inl h')))))
        · exact absurd h (hcross b m o0 h0 hm)
    · exact .inl ((hxp b).2 (.inl ((hR.prv b).2 (.inr (.inr h)))))
    · exact .inl ((hxp b).2 (.inr h))
end Go.Sym
namespace Go.Sym
open Go
variable {A : Frm → Prop} {P : Program}
def Qae:Exit→Option Code
  |.normal=>none
  |.ret=>some .ret
  |.exit id=>some (.exit id)
  |.goto l=>some (.goto l)
  |.panic _=>none
  |.outgrown=>none
def recAt (rec0:Loop) (ans:Nat→Bool) (ex:Exit) (k:Nat):Loop:=if 0 < k∧ans (k - 1)=false then { rec0 with state:=.done,pending:=Qae ex } else rec0
def endK (ans:Nat→Bool) (ex:Exit) (jj:Nat→Nat) (hs:List Nat) (n:Nat) (hc:Nat→List (Nat × AObj)) (lent:Nat→Nat→Option AObj) (keep:Nat→Prop) (j:Nat):Exit→St→Prop :=
  fun e S=>(e=if ans j=true then .normal else ex)∧jj (j+1)=jj j+S.j∧∃ σ hf,RFin S hs n (hc (j+1)) (lent j) keep σ hf
theorem QbS (ps:Array Nat) (vs tmps:Array Value):(ps.zip vs).foldl (fun tmps (t,a)=>tmps.setIfInBounds t a) tmps=(ps.toList.zip vs.toList).foldl (fun (tmps:Array Value) p=>tmps.setIfInBounds p.1 p.2) tmps:=by
  rw [← Array.foldl_toList];simp
theorem QbW {F:Frm} {ws:World} {ρs:Nat→Value} {oks keep:Nat→Prop} {l:Nat} {rec0:Loop} {ans:Nat→Bool} {ex:Exit} {R N:Nat} {T:Nat→AV} {a0:Act} {hs:List Nat} {n nl:Nat} {ys:Nat→List AV} {hc:Nat→List (Nat × AObj)} {hl:Nat→Nat→Option AObj} {h0:Nat→Option AObj} {jj:Nat→Nat} {A':Frm→Prop}
    (hRo:Rounds ans R N) (hex:ex=.ret∨(∃ id,ex=.exit id)∨∃ g,ex=.goto g) (hrec0:rec0.state=.ready∧rec0.pending=none∧rec0.tmps=a0.tmps)
    (hst:∀ j,j < R→RStat F T rec0.params.toList hs n nl (ys j) (hc j) (hl j) keep) (hT:∀ t,ARel ws oks ρs F.y (T t) (a0.tmps.getD t undef)) (hsz:a0.tmps.size=F.nt)
    (hlids:∀ j,j < R→∀ m o,hl j m=some o→∀ id ∈ o.ids,∃ o',hl j id=some o') (hkeep:∀ j,j < R→∀ id,keep id→id < n∧∃ o,qc (hc j++zZ hs n nl (hl j)) id=some o)
    (hlast:∀ j,j < R→∀ m o0,hl j m=some o0→∃ o,qc (hc j++zZ hs n nl (hl j)) (qj hs n m)=some o)
    (hdom:∀ m,m < hs.length→∃ o,h0 m=some o) (hhs:∀ (m c:Nat),hs[m]?=some c→keep c)
    (hd1:vQ F.nt rec0.assign=true) (hd2:vQ F.nt rec0.body=true) (hA':∀ F',(∃ l,F'.r=some l)→A' F')
    (hround:∀ j,j < R→Sym A' P rec0.assign (JX T rec0.params.toList hs n nl (ys j) (hc j) (hl j)) (QH (fun S1=>Sym A' P rec0.body S1 (endK ans ex jj hs n hc hl keep j)) fun _ _=>False))
    {yv:Value} (hyv:yv=.func (.yield l) #[] #[]) {own0:Own} :
    Bcb P h0 ys hl ans R ⟨yv,RJ F ws ρs oks keep l (recAt rec0 ans ex) (fun k=>qc (hc k)) jj,own0,ws,zg hs ρs⟩:=by
  intro j hj Pr own w ρ vs hp hpins hext hlb hprv hvs hargs
  simp only at hp hpins hext hlb hprv hargs ⊢
  obtain ⟨ownr,⟨ρk,ownk,fz,hR⟩,hxa,hxp,hPr⟩:=hp.jay
  simp only [Nat.add_zero] at hR
  have hrj:recAt rec0 ans ex j=rec0:=by
    unfold recAt
    rw [if_neg]
    rintro ⟨h1,h2⟩
    have:=hRo.yes (j - 1) (by omega)
    rw [h2] at this;cases this
  rw [hrj] at hR
  have hs1:=hst j hj
  have hpin:∀ (m c:Nat),hs[m]?=some c→ρ m=ρk c:=fun m c hc=>by
    obtain ⟨o,ho⟩:=hdom m (List.getElem?_eq_some_iff.1 hc).1
    rw [hpins m o ho]
    simp only [zg,hc]
    exact (hR.keep c (hhs m c hc)).symm
  have hPr':∀ b,Pr b→¬ ownr.all b∧b < w.heap.size:=fun b hb=>⟨(hPr b hb).1,(hPr b hb).2.1⟩
  have H0:=UD (yv:=yv) hs1 hR hPr' hxa hxp hp.obj hp.inj hp.off hpin hvs hargs hT hsz
  have hll:l < w.heap.size:=(Array.getElem?_eq_some_iff.1 hR.rcd).1
  refine ⟨l,rec0.fn,_,rec0.assign,rec0.body,hyv,run_yield hR.rcd (by rw [hvs,← hs1.plen];simp), ?_⟩
  rw [QbS,hrec0.2.2]
  refine roundIn_of_wpIn trivial ?_
  have hw0:=fun h1 h2=>hround j hj _ h1 h2 _ w ⟨_,_,H0⟩
  have hw1:=hw0 (hA' _ ⟨l,rfl⟩) hd1
  refine wpIn_mono hw1 ?_
  rintro e a1 w1 ⟨S1,hk,ρ1,own1,H1⟩
  cases e with
  |normal =>
    obtain ⟨ownk1,_,_,_,hpr1⟩:=H1.jay
    have hrc1:w1.heap[l]?=some (.loop rec0):=(hpr1 l (.inr rfl)).2.2.trans hR.rcd
    have hl1:l < w1.heap.size:=(hpr1 l (.inr rfl)).2.1
    refine ⟨_,run_beginRound hrc1 hrec0.1, ?_⟩
    have H2:=RG (rc:={ rec0 with state:=.busy }) H1 (.inr (.inr rfl)) hl1
    have hw3:=fun h1 h2=>hk _ h1 h2 a1 _ ⟨_,_,H2⟩
    have hw2:=hw3 (hA' _ ⟨l,rfl⟩) hd2
    refine wpIn_mono hw2 ?_
    rintro e a2 w3 ⟨S2,⟨he,hjj,σ,hf,hF⟩,ρ3,own3,H3⟩
    obtain ⟨ownk3,_,_,_,hpr3⟩:=H3.jay
    have hPl:∀ b,Pr b→b ≠ l:=fun b hb e=>(hPr b hb).1 (e ▸ (hR.all l).2 (.inr (.inr (.inl rfl))))
    have hw2c:∀ b,Pr b→(w1.putObj l (.loop { rec0 with state:=.busy })).heap[b]?=w.heap[b]?:=fun b hb=>by
      rw [xN,if_neg (fun e=>hPl b hb e.1)]
      exact (hpr1 b (.inl hb)).2.2
    have hrc3:w3.heap[l]?=some (.loop { rec0 with state:=.busy }):=by
      rw [(hpr3 l (.inr rfl)).2.2,xN,if_pos ⟨rfl,hl1⟩]
    have fin:∀ (jump:Option Code),({ ({ rec0 with state:=.busy }:Loop) with state:=if jump.isNone then .ready else .done,pending:=jump }:Loop)=recAt rec0 ans ex (j+1)→jump.isNone=ans j →
        ∃ v w',(Instr.endRound l jump).run P w3=.ok v w'∧(Ending.returned v=.returned (.bool (ans j))∧∃ own',Hp (Jc (RJ F ws ρs oks keep l (recAt rec0 ans ex) (fun k=>qc (hc k)) jj) j Pr w) yv (hl j) 1 own' w' ρ∧Ext (fun b=>own.prv b∨∃ i o,hl j i=some o∧blk (ρ i)=some b) w w'∧∀ b,own'.prv b→own.prv b∨w.heap.size≤b):=by
      intro jump hjr hja
      refine ⟨_,_,run_endRound jump hrc3,by rw [hja], ?_⟩
      obtain ⟨ownk',fz',ownr',ownx',q1,q2,q3,q4,q5,q6,q7,q8⟩:=Qcb (rc':=recAt rec0 ans ex (j+1)) (yv:=yv) hs1 hR hPr' hxa hxp (fun m o h b hb=>(hp.obj m o h).lt hb) hp.inj hp.off (hlids j hj) hpin (hkeep j hj) (hlast j hj) hw2c H3 hF
      rw [hjr]
      rw [← hjj] at q1
      exact ⟨ownx',⟨⟨ownr',⟨_,ownk',fz',q1⟩,q2,q3,q4⟩,fun m o h=>(q5 m o h).chy (hs1.lent m o h).2.1,hp.inj,q6⟩,q7,q8⟩
    by_cases hans:ans j=true
    · rw [if_pos hans] at he
      subst he
      refine fin none ?_ (by rw [hans];rfl)
      unfold recAt
      have hc2:¬ (0 < j+1∧ans (j+1 - 1)=false):=by simp [hans]
      rw [if_neg hc2]
      obtain ⟨h1,h2,_⟩:=hrec0
      cases rec0
      simp only at h1 h2
      subst h1 h2
      rfl
    · rw [if_neg hans] at he
      have hans:ans j=false:=by simpa using hans
      have hra:∀ c,Qae ex=some c→({ ({ rec0 with state:=.busy }:Loop) with state:=if (some c:Option Code).isNone then .ready else .done,pending:=some c }:Loop)=recAt rec0 ans ex (j+1):=fun c hc=>by
        unfold recAt
        have hc2:0 < j+1∧ans (j+1 - 1)=false:=⟨by omega,by simpa using hans⟩
        rw [if_pos hc2,hc]
        rfl
      rcases hex with rfl|⟨id,rfl⟩|⟨g,rfl⟩ <;> subst he
      · exact fin (some .ret) (hra _ rfl) (by rw [hans];rfl)
      · exact fin (some (.exit id)) (hra _ rfl) (by rw [hans];rfl)
      · exact fin (some (.goto g)) (hra _ rfl) (by rw [hans];rfl)
  |exit id=>exact hk.elim
  |goto g=>exact hk.elim
  |ret=>exact hk.elim
  |panic c=>exact hk.elim
  |outgrown=>exact hk.elim
end Go.Sym
namespace Go.Sym
open Go
variable {A : Frm → Prop} {P : Program}
def QaT (T:Nat→AV) (hs:List Nat) (n:Nat) (hm:Nat→List (Nat × AObj)) (h0:Nat→Option AObj) (jj:Nat→Nat) (d:List ADf) (m k:Nat):St :=
  { t:=T,h:=qc (hm k++zZ hs (n+1) 0 h0),n:=n+1,j:=jj k,d:=.mark n :: d,m:=m }
theorem Qcv {F:Frm} {ws:World} {ρs:Nat→Value} {oks keep:Nat→Prop} {l:Nat} {rc rc':Loop} {ownr own':Own} {w:World} {ρk:Nat→Value} {ownk:Own} {fz:Nat→Prop} {T:Nat→AV} {a1:Act} {hs:List Nat} {n m:Nat} {hm:Nat→List (Nat × AObj)} {h0:Nat→Option AObj} {jj:Nat→Nat} {k:Nat} {d:List ADf} {ρx:Nat→Value} {yv:Value}
    (hR:RH F ws ρs oks keep l rc (qc (hm k)) (jj k) ownr w ρk ownk fz) (hown:own'=ownr)
    (lobj:∀ m o,h0 m=some o→ORel w (okB w own' ρx h0) ρx yv o (ρx m)) (linj:∀ i k o o' b,h0 i=some o→h0 k=some o'→blk (ρx i)=some b→blk (ρx k)=some b→i=k) (loff:∀ m o b,h0 m=some o→blk (ρx m)=some b→¬ own'.all b)
    (lprov:∀ m o b,h0 m=some o→blk (ρx m)=some b→F.w0.heap.size≤b∨F.owns0 b) (hpin:∀ (m c:Nat),hs[m]?=some c→ρx m=ρk c)
    (hnc:∀ m o,h0 m=some o→o.nocb∧m < hs.length∧∀ id ∈ o.ids,id < hs.length) (hsn:∀ c ∈ hs,c < n+1) (hmn:∀ i o,qc (hm k) i=some o→i < n+1∧∀ id ∈ o.ids,id < n+1)
    (hTn:∀ t,∀ id ∈ (T t).ids,id < n+1∧keep id) (hdn:∀ id ∈ (ADf.mark n :: d).flatMap ADf.ids,id < n+1∧keep id)
    (hT:∀ t,ARel ws oks ρs F.y (T t) (a1.tmps.getD t undef)) (hD:DfsRel ws oks ρs F.y (.mark n :: d) a1.defers) (hsz:a1.tmps.size=F.nt)
    (hmm:F.n0=m) (hmk:∀ id,id < m→keep id) (hpins:∀ i o,F.H0 i=some o→ρs i=F.ρ0 i) (hmn1:m≤n+1)
    (hlnew:F.w0.heap.size≤l) (hext:Ext (fun b=>F.own0.prv b∨F.owns0 b) F.w0 w) :
    Gam F (QaT T hs n hm h0 jj d m k) a1 (w.putObj l (.loop rc')):=by
  subst hown
  have hx:Ext (fun k=>k=l) w (w.putObj l (.loop rc')):=Ext.putObj _ _ _ rfl
  have hren:∀ q o,h0 q=some o→ρk (qj hs (n+1) q)=ρx q:=fun q o h=>by
    obtain ⟨c,hc⟩:∃ c,hs[q]?=some c:=⟨hs[q]'(hnc q o h).2.1,List.getElem?_eq_getElem (hnc q o h).2.1⟩
    simp only [qj,hc]
    exact (hpin q c hc).symm
  have hlook:∀ {i o},qc (hm k++zZ hs (n+1) 0 h0) i=some o→qc (hm k) i=some o∨∃ q o0,h0 q=some o0∧i=qj hs (n+1) q∧o=o0.ren (qj hs (n+1)):=fun {i o} hi=>by
    rw [vD] at hi
    cases ho:qc (hm k) i with
    |some o1=>rw [ho] at hi;exact .inl hi
    |none=>rw [ho] at hi;obtain ⟨q,o0,_,h1,e1,e2⟩:=QE hi;exact .inr ⟨q,o0,h1,e1,e2⟩
  have hfzok:∀ b,fz b→okB (w.putObj l (.loop rc')) ownk ρk (qc (hm k++zZ hs (n+1) 0 h0)) b∧(w.putObj l (.loop rc')).heap[b]?=w.heap[b]?:=fun b hb=>by
    obtain ⟨g1,g2,g3,g4⟩:=hR.fzok b hb
    refine ⟨⟨Nat.lt_of_lt_of_le g1 hx.size,g2,fun i o hi hbi=>?_⟩,hx.block b g1 g4⟩
    rcases hlook hi with h|⟨q,o0,h1,rfl,_⟩
    · exact g3 ⟨i,o,h,hbi⟩
    · rw [hren q o0 h1] at hbi;exact loff q o0 b h1 hbi ((hR.all b).2 (.inr (.inr (.inr hb))))
  have hlok:∀ b,okB w own' ρx h0 b→okB (w.putObj l (.loop rc')) ownk ρk (qc (hm k++zZ hs (n+1) 0 h0)) b∧(w.putObj l (.loop rc')).heap[b]?=w.heap[b]?:=fun b ⟨g1,g2,g3⟩=>by
    refine ⟨⟨Nat.lt_of_lt_of_le g1 hx.size,fun h=>g2 ((hR.prv b).2 (.inl h)),fun i o hi hbi=>?_⟩,hx.block b g1 fun e=>g2 ((hR.prv b).2 (.inr (.inr e)))⟩
    rcases hlook hi with h|⟨q,o0,h1,rfl,_⟩
    · exact g2 ((hR.prv b).2 (.inr (.inl ⟨i,o,h,hbi⟩)))
    · rw [hren q o0 h1] at hbi;exact g3 q o0 h1 hbi
  have hoks:∀ b,oks b→okB (w.putObj l (.loop rc')) ownk ρk (qc (hm k++zZ hs (n+1) 0 h0)) b∧(w.putObj l (.loop rc')).heap[b]?=ws.heap[b]?:=fun b hb=>by
    obtain ⟨g1,g2⟩:=hR.oks b hb
    exact ⟨(hfzok b g1).1,(hfzok b g1).2.trans g2⟩
  refine ⟨ρk,ownk,(F.stable _ _ _ hR.jay).2 _ (hx.weaken fun b _ e ho=>hR.lown (e ▸ ho)),fun t=>(hT t).mono hoks fun id hid=>hR.keep id (hTn t id hid).2,fun i o hi=>?_,fun i q o o' b hi hq hbi hbq=>?_,fun i o b hi hb=>?_,fun id hid=>?_, ?_,hmm,hsz,fun i o hi=>?_, ?_,hR.psub,hR.still,hD.mono hoks fun id hid=>hR.keep id (hdn id hid).2⟩
  · rcases hlook hi with h|⟨q,o0,h1,rfl,rfl⟩
    · exact (hR.obj i o h).mono hfzok (fun b hb=>hx.block b ((hR.obj i o h).lt hb) (hR.off i o b h hb).2) fun _ _=>rfl
    · rw [hren q o0 h1]
      have h2:=((lobj q o0 h1).chy (y':=F.y) (hnc q o0 h1).1).mono (ρ':=ρx) hlok (fun b hb=>hx.block b ((lobj q o0 h1).lt hb) fun e=>loff q o0 b h1 hb ((hR.all b).2 (.inr (.inr (.inl e))))) fun _ _=>rfl
      exact AObj.ren_rel h2 (.inr fun b hb=>hb) fun id hid=>by
        obtain ⟨c,hc⟩:∃ c,hs[id]?=some c:=⟨_,List.getElem?_eq_getElem ((hnc q o0 h1).2.2 id hid)⟩
        simp only [qj,hc]
        exact (hpin id c hc).symm
  · have cross:∀ {i o q o0},qc (hm k) i=some o→h0 q=some o0→blk (ρk i)=some b→blk (ρx q)=some b→False:=fun {i o q o0} h h1 hb hb' =>
      loff q o0 b h1 hb' ((hR.all b).2 (.inr (.inl ⟨i,o,h,hb⟩)))
    rcases hlook hi with h|⟨q1,o1,h1,rfl,rfl⟩
    · rcases hlook hq with h'|⟨q2,o2,h2,rfl,rfl⟩
      · exact hR.inj i q o o' b h h' hbi hbq
      · rw [hren q2 o2 h2] at hbq;exact (cross h h2 hbi hbq).elim
    · rw [hren q1 o1 h1] at hbi
      rcases hlook hq with h'|⟨q2,o2,h2,rfl,rfl⟩
      · exact (cross h' h1 hbq hbi).elim
      · rw [hren q2 o2 h2] at hbq;rw [linj q1 q2 o1 o2 b h1 h2 hbi hbq]
  · rcases hlook hi with h|⟨q,o0,h1,rfl,rfl⟩
    · exact ⟨(hR.off i o b h hb).1,hR.prov i o b h hb⟩
    · rw [hren q o0 h1] at hb;exact ⟨fun ho=>loff q o0 b h1 hb ((hR.all b).2 (.inl ho)),lprov q o0 b h1 hb⟩
  · have hid:n+1≤id:=hid
    refine ⟨?_,fun t hm'=>?_,fun i o hi hm'=>?_,fun hm'=>?_⟩
    · show qc (hm k++zZ hs (n+1) 0 h0) id=none
      cases ho:qc (hm k++zZ hs (n+1) 0 h0) id with
      |none=>rfl
      |some o =>
        rcases hlook ho with h|⟨q,o0,h1,e,_⟩
        · have:=(hmn id o h).1;omega
        · have:=kT (nl:=0) hsn (show q < hs.length+0 from (hnc q o0 h1).2.1);omega
    · have:=(hTn t id hm').1;omega
    · rcases hlook hi with h|⟨q,o0,h1,rfl,rfl⟩
      · have:=(hmn i o h).2 id hm';omega
      · rw [AObj.ren_ids] at hm'
        obtain ⟨z,hz,rfl⟩:=List.mem_map.1 hm'
        have:=kT (nl:=0) hsn (show z < hs.length+0 from (hnc q o0 h1).2.2 z hz);omega
    · have:=(hdn id hm').1;omega
  · show F.n0≤n+1;omega
  · rw [hR.keep i (hmk i (by rw [← hmm];exact F.pinn i o hi))];exact hpins i o hi
  · refine hext.trans hx fun b hb e=>?_
    exfalso;omega
theorem K5 {L:List (Nat × AObj)} {k:Nat} {o:AObj} (h:(k,o) ∈ L):∃ o',qc L k=some o':=by
  induction L with
  |nil=>simp at h
  |cons p r ih =>
    simp only [qc]
    split
    · exact ⟨_,rfl⟩
    · rename_i hk
      rcases List.mem_cons.1 h with e|h
      · exact absurd (by rw [← e]) hk
      · exact ih h
theorem Ld {hs:List Nat} {n q:Nat} {h0:Nat→Option AObj} {o0:AObj} (hnd:hs.Nodup) (hq:h0 q=some o0) (hlt:q < hs.length):qc (zZ hs n 0 h0) (qj hs n q)=some (o0.ren (qj hs n)):=by
  obtain ⟨o',ho'⟩:=K5 (L:=zZ hs n 0 h0) (k:=qj hs n q) (o:=o0.ren (qj hs n)) (List.mem_filterMap.2 ⟨q,List.mem_range.2 (by omega),by simp [hq]⟩)
  obtain ⟨q',o1,hlt',hq',e,rfl⟩:=QE ho'
  have hqq:q=q':=by
    simp only [qj,List.getElem?_eq_getElem hlt,List.getElem?_eq_getElem (show q' < hs.length by omega)] at e
    exact (List.getElem_inj (h₀:=hlt) (h₁:=by omega) hnd).1 e
  subst hqq
  rw [hq] at hq';cases hq'
  exact ho'
def Qs (T:Nat→AV) (hs:List Nat) (n m:Nat) (d:List ADf) (id:Nat):Prop:=id < m∨id ∈ hs∨(∃ t,id ∈ (T t).ids)∨id ∈ (ADf.mark n :: d).flatMap ADf.ids
theorem Qcq (hAr:∀ F,A F→F.r=none) {A':Frm→Prop} (hA':∀ F',(∃ l,F'.r=some l)→A' F') {g:Operand} {ps:Array Tmp} {assign body:Code} {T:Nat→AV} {hs:List Nat} {n m nl:Nat} {hc:Nat→List (Nat × AObj)} {h0:Nat→Option AObj} {jj:Nat→Nat} {d:List ADf} {K:Exit→St→Prop}
    {f:FuncId} {caps caps0:List AV} {ys:Nat→List AV} {N R:Nat} {hl:Nat→Nat→Option AObj} {vv:Nat→(Nat→Bool)→AV} {ans:Nat→Bool} {ex:Exit}
    (hg:ev { t:=T,h:=qc (hc 0++zZ hs (n+1) 0 h0),n:=n,j:=jj 0,d:=d,m:=m } g=.clo f caps) (hit:Iter P f (.cb :: caps0) h0 ys N hl vv) (hRo:Rounds ans R N) (hex:ex=.ret∨(∃ id,ex=.exit id)∨∃ g,ex=.goto g)
    (hcaps:AV.leL (fun _=>none) (fun j=>hs[j]?) caps caps0) (hcn:AV.nocbL caps0)
    (hobj:∀ q o0,h0 q=some o0→q < hs.length∧o0.nocb∧(∀ id ∈ o0.ids,id < hs.length)∧AObj.le (fun _=>none) (fun j=>hs[j]?) (o0.ren (qj hs (n+1))) o0)
    (hdom:∀ q,q < hs.length→∃ o,h0 q=some o) (hnd:hs.Nodup) (hsn:∀ c ∈ hs,qc (hc 0) c=none)
    (hst:∀ F,A F→∀ j,j < R→RStat F T ps.toList hs (n+1) nl (ys j) ((n,.mark) :: hc j) (hl j) (Qs T hs n m d))
    (hlids:∀ j,j < R→∀ m o,hl j m=some o→∀ id ∈ o.ids,∃ o',hl j id=some o') (hkeep:∀ j,j < R→∀ id,Qs T hs n m d id→id < n+1∧∃ o,qc (((n,.mark) :: hc j)++zZ hs (n+1) nl (hl j)) id=some o)
    (hlast:∀ j,j < R→∀ m o0,hl j m=some o0→∃ o,qc (((n,.mark) :: hc j)++zZ hs (n+1) nl (hl j)) (qj hs (n+1) m)=some o)
    (hend:∀ i o,qc ((n,.mark) :: hc R) i=some o→i < n+1∧∀ id ∈ o.ids,id < n+1)
    (hround:∀ j,j < R→Sym A' P assign (JX T ps.toList hs (n+1) nl (ys j) ((n,.mark) :: hc j) (hl j)) (QH (fun S1=>Sym A' P body S1 (endK ans ex jj hs (n+1) (fun k=>(n,.mark) :: hc k) hl (Qs T hs n m d) j)) fun _ _=>False))
    (hKn:(∀ k,k < R→ans k=true)→K .normal (QaT T hs n (fun k=>(n,.mark) :: hc k) h0 jj d m R)) (hKx:0 < R→ans (R - 1)=false→K ex (QaT T hs n (fun k=>(n,.mark) :: hc k) h0 jj d m R)) :
    Sym A P (.rangeFunc g ps assign body) { t:=T,h:=qc (hc 0++zZ hs (n+1) 0 h0),n:=n,j:=jj 0,d:=d,m:=m } K:=by
  intro F hF hd a w ⟨ρ,own,H⟩
  have hFr:=hAr F hF
  simp only [vQ,Bool.and_eq_true] at hd
  have hgv:=qD H g
  rw [hg] at hgv
  generalize hgv':a.eval g=gv at hgv
  cases hgv with
  |@clo _ _ cvs hcs hcr =>
  refine wpIn_rangeFunc fun fn _=>?_
  let l:=w.heap.size+1
  let rec0:Loop:={ state:=.ready,pending:=none,fn,tmps:=a.tmps,params:=ps,assign,body,defers:=w.heap.size }
  let w1:=(w.alloc (.deferred (some []))).alloc (.loop rec0)
  let yv:Value:=.func (.yield l) #[] #[]
  have hFn:=hit ans R hRo
  have hent:(Instr.enterLoop fn a.tmps ps assign body (W F.r).round).run P w=.ok (l,[{ target:=.collected w.heap.size,args:=#[] }]) w1:=by
    show (Instr.enterLoop fn a.tmps ps assign body F.r).run P w=_
    rw [hFr];exact run_enterLoop_outer ..
  refine ⟨l,[{ target:=.collected w.heap.size,args:=#[] }],w1,{ target:=.fn (.func f) cvs,args:=#[yv] },w1,f,#[yv]++cvs,w1,hent, ?_,fun _ _=>trivial, ?_,fun h=>by simp [W] at h, ?_⟩
  · have hcv:a.eval (.const (.func (.yield l) #[] #[]))=yv:=rfl
    simp [resolve,rangeCall,Deferred.ofValue,hgv',hcv]
  · simp [invoke,hFn.enter]
  have hwf:Wf { t:=T,h:=qc (hc 0++zZ hs (n+1) 0 h0),n:=n,j:=jj 0,d:=d,m:=m }:=H.fresh
  have hnone:qc (hc 0++zZ hs (n+1) 0 h0) n=none:=(hwf n (Nat.le_refl _)).1
  have hTlt:∀ t,∀ id ∈ (T t).ids,id < n:=fun t id hid=>Nat.lt_of_not_le fun hn=>(hwf id hn).2.1 t hid
  have hdlt:∀ id ∈ d.flatMap ADf.ids,id < n:=fun id hid=>Nat.lt_of_not_le fun hn=>(hwf id hn).2.2.2 hid
  have hclt:∀ i o,qc (hc 0) i=some o→qc (hc 0++zZ hs (n+1) 0 h0) i=some o∧i < n∧∀ id ∈ o.ids,id < n:=fun i o hi=>by
    have hi':qc (hc 0++zZ hs (n+1) 0 h0) i=some o:=by rw [vD,hi]
    exact ⟨hi',Nat.lt_of_not_le fun hn=>(by
      have h2:qc (hc 0++zZ hs (n+1) 0 h0) i=none:=(hwf i hn).1
      rw [h2] at hi';cases hi'),fun id hid=>Nat.lt_of_not_le fun hn=>(hwf id hn).2.2.1 i o hi' hid⟩
  have hlen:∀ q o0,h0 q=some o0→∃ c,hs[q]?=some c∧qc (hc 0++zZ hs (n+1) 0 h0) c=some (o0.ren (qj hs (n+1))):=fun q o0 hq=>by
    obtain ⟨g1,_⟩:=hobj q o0 hq
    refine ⟨hs[q],List.getElem?_eq_getElem g1, ?_⟩
    rw [vD,hsn _ (List.getElem_mem g1)]
    have:=Ld (n:=n+1) hnd hq g1
    simpa [qj,List.getElem?_eq_getElem g1] using this
  have hx1:Ext (fun _=>False) w w1:=(Ext.alloc _ _ _).trans (Ext.alloc _ _ _) fun _ _ h=>h
  have hsz1:w1.heap.size=w.heap.size+2:=by simp [w1]
  have hmb:w1.heap[w.heap.size]?=some (.deferred (some [])):=by
    have:=(Ext.alloc (fun _=>False) (w.alloc (.deferred (some []))) (.loop rec0)).block w.heap.size (by simp) (by simp)
    rw [show w1.heap[w.heap.size]?=_ from this];exact xD _ _
  have hlb:w1.heap[l]?=some (.loop rec0):=by
    have:=xD (w.alloc (.deferred (some []))) (.loop rec0)
    simpa [w1,l] using this
  let ρ1:Nat→Value:=upd ρ n (.chan (some w.heap.size))
  have hρ1:∀ id,id < n→ρ1 id=ρ id:=fun id h=>upd_ne _ _ _ _ (by omega)
  let fz0:Nat→Prop:=okB w own ρ (qc (hc 0++zZ hs (n+1) 0 h0))
  have hfz1:∀ b,fz0 b→fz0 b∧w1.heap[b]?=w.heap[b]?:=fun b hb=>⟨hb,hx1.block b hb.1 (by simp)⟩
  have hm0:∀ {i o},qc ((n,AObj.mark) :: hc 0) i=some o→(i=n∧o=.mark)∨(i < n∧qc (hc 0) i=some o):=fun {i o} hi=>by
    simp only [qc] at hi
    split at hi
    · rename_i h;cases hi;exact .inl ⟨h,rfl⟩
    · exact .inr ⟨(hclt i o hi).2.1,hi⟩
  have hb0:∀ b,vY (qc ((n,AObj.mark) :: hc 0)) ρ1 b→b=w.heap.size∨∃ i o,qc (hc 0) i=some o∧blk (ρ i)=some b:=by
    rintro b ⟨i,o,hi,hb⟩
    rcases hm0 hi with ⟨rfl,_⟩|⟨h1,h2⟩
    · simp only [ρ1,upd_same,blk,Option.some.injEq] at hb;exact .inl hb.symm
    · rw [hρ1 i h1] at hb;exact .inr ⟨i,o,h2,hb⟩
  let ownr0:Own:=⟨fun b=>own.all b∨vY (qc ((n,AObj.mark) :: hc 0)) ρ1 b∨b=l∨fz0 b,fun b=>own.prv b∨vY (qc ((n,AObj.mark) :: hc 0)) ρ1 b∨b=l,fun b h=>h.imp (own.sub b) fun h=>h.imp id .inl⟩
  have hownlt:∀ b,own.all b→b < w.heap.size:=(F.stable _ _ _ H.jay).1
  have hRH:RH F w1 ρ1 fz0 (Qs T hs n m d) l rec0 (qc ((n,AObj.mark) :: hc 0)) (jj 0) ownr0 w1 ρ1 own fz0:=by
    refine ⟨(F.stable _ _ _ H.jay).2 w1 (hx1.weaken fun _ _ h=>h.elim),fun b=>Iff.rfl,fun b=>Iff.rfl,fun b hb=>⟨Nat.lt_of_lt_of_le hb.1 hx1.size,hb.2.1,fun h=>?_,by have:=hb.1;simp only [l];omega⟩,fun i o hi=>?_,fun i k o o' b hi hk hbi hbk=>?_,fun i o b hi hb=>?_,fun h=>by have:=hownlt l h;simp only [l] at this;omega,hlb,fun b hb=>⟨hb,rfl⟩,fun _ _=>rfl,fun i o b hi hb=>?_,H.ownsub,H.still,Nat.le_trans H.ext.size hx1.size⟩
    · rcases hb0 b h with h|⟨i,o,h1,h2⟩
      · have:=hb.1;omega
      · exact hb.2.2 i o (hclt i o h1).1 h2
    · rcases hm0 hi with ⟨rfl,rfl⟩|⟨h1,h2⟩
      · simp only [ρ1,upd_same];exact .mark hmb
      · rw [hρ1 i h1]
        obtain ⟨g1,_,g3⟩:=hclt i o h2
        exact (H.obj i o g1).mono hfz1 (fun b hb=>hx1.block b ((H.obj i o g1).lt hb) (by simp)) fun id hid=>hρ1 id (g3 id hid)
    · rcases hm0 hi with ⟨rfl,rfl⟩|⟨h1,h2⟩
      · rcases hm0 hk with ⟨rfl,rfl⟩|⟨h3,h4⟩
        · rfl
        · simp only [ρ1,upd_same,blk,Option.some.injEq] at hbi
          rw [hρ1 k h3] at hbk
          have:=(H.obj k o' (hclt k o' h4).1).lt hbk;omega
      · rw [hρ1 i h1] at hbi
        rcases hm0 hk with ⟨rfl,rfl⟩|⟨h3,h4⟩
        · simp only [ρ1,upd_same,blk,Option.some.injEq] at hbk
          have:=(H.obj i o (hclt i o h2).1).lt hbi;omega
        · rw [hρ1 k h3] at hbk
          exact H.inj i k o o' b (hclt i o h2).1 (hclt k o' h4).1 hbi hbk
    · rcases hb0 b ⟨i,o,hi,hb⟩ with h|⟨q,oq,h1,h2⟩
      · exact ⟨fun ho=>by have:=hownlt b ho;omega,by simp only [l];omega⟩
      · exact ⟨(H.blkOK q oq b (hclt q oq h1).1 h2).1,by have:=(H.obj q oq (hclt q oq h1).1).lt h2;simp only [l];omega⟩
    · rcases hb0 b ⟨i,o,hi,hb⟩ with h|⟨q,oq,h1,h2⟩
      · exact .inl (by rw [h];exact H.ext.size)
      · exact (H.blkOK q oq b (hclt q oq h1).1 h2).2
  have hr0:recAt rec0 ans ex 0=rec0:=by simp [recAt]
  have hcn':∀ (q c:Nat),hs[q]?=some c→c < n:=fun q c hq=>by
    obtain ⟨o,ho⟩:=hdom q (List.getElem?_eq_some_iff.1 hq).1
    obtain ⟨c',hc',hob⟩:=hlen q o ho
    rw [hq] at hc';cases hc'
    refine Nat.lt_of_not_le fun hn=>?_
    have h2:qc (hc 0++zZ hs (n+1) 0 h0) c=none:=(hwf c hn).1
    rw [h2] at hob;cases hob
  have hrho:∀ (q c:Nat),hs[q]?=some c→zg hs ρ1 q=ρ c:=fun q c hq=>by simp only [zg,hq];exact hρ1 c (hcn' q c hq)
  have hlb0:∀ q o0 b,h0 q=some o0→blk (zg hs ρ1 q)=some b→∃ c,hs[q]?=some c∧qc (hc 0++zZ hs (n+1) 0 h0) c=some (o0.ren (qj hs (n+1)))∧blk (ρ c)=some b:=fun q o0 b hq hb=>by
    obtain ⟨c,h1,h2⟩:=hlen q o0 hq
    rw [hrho q c h1] at hb
    exact ⟨c,h1,h2,hb⟩
  have hfzx:∀ b,fz0 b→okB w1 ownr0 (zg hs ρ1) h0 b∧w1.heap[b]?=w.heap[b]?:=fun b hb=>by
    refine ⟨⟨Nat.lt_of_lt_of_le hb.1 hx1.size, ?_,fun q o0 hq hbq=>?_⟩,(hfz1 b hb).2⟩
    · rintro (h|h|h)
      · exact hb.2.1 h
      · exact (hRH.fzok b hb).2.2.1 h
      · exact (hRH.fzok b hb).2.2.2 h
    · obtain ⟨c,_,h2,h3⟩:=hlb0 q o0 b hq hbq
      exact hb.2.2 c _ h2 h3
  have hσ:∀ (j i:Nat),hs[j]?=some i→zg hs ρ1 j=ρ i:=hrho
  have hσ0:∀ j,hs[j]?=none→zg hs ρ1 j=.slice none 0 0:=fun j h=>by simp only [zg,h]
  have hHp:Hp (RJ F w1 ρ1 fz0 (Qs T hs n m d) l (recAt rec0 ans ex) (fun k=>qc ((n,AObj.mark) :: hc k)) jj) yv h0 0 ownr0 w1 (zg hs ρ1):=by
    refine ⟨⟨ρ1,own,fz0,by rw [hr0];exact hRH⟩,fun q o0 hq=>?_,fun i k o o' b hi hk hbi hbk=>?_,fun q o0 b hq hb=>?_⟩
    · obtain ⟨c,h1,h2⟩:=hlen q o0 hq
      obtain ⟨g1,g2,g3,g4⟩:=hobj q o0 hq
      have:=AObj.le_rel (ok':=fz0) (h:=fun _=>none) (σ:=fun j=>hs[j]?) (ρ':=zg hs ρ1) (fun i o h=>by cases h) (fun b hb=>hb) (fun i ox b h=>by cases h) hσ hσ0 (H.obj c _ h2) g4
      rw [hrho q c h1]
      exact (this.chy g2).mono hfzx (fun b hb=>hx1.block b ((H.obj c _ h2).lt hb) (by simp)) fun _ _=>rfl
    · obtain ⟨c,h1,h2,h3⟩:=hlb0 i o b hi hbi
      obtain ⟨c',h1',h2',h3'⟩:=hlb0 k o' b hk hbk
      have:=H.inj c c' _ _ b h2 h2' h3 h3'
      subst this
      obtain ⟨hi1,hi2⟩:=List.getElem?_eq_some_iff.1 h1
      obtain ⟨hk1,hk2⟩:=List.getElem?_eq_some_iff.1 h1'
      exact (List.getElem_inj (h₀:=hi1) (h₁:=hk1) hnd).1 (hi2.trans hk2.symm)
    · obtain ⟨c,h1,h2,h3⟩:=hlb0 q o0 b hq hb
      have hlt:=(H.obj c _ h2).lt h3
      rintro (h|h|h|h)
      · exact (H.blkOK c _ b h2 h3).1 h
      · rcases hb0 b h with h|⟨i,o,h4,h5⟩
        · omega
        · have:=H.inj i c o _ b (hclt i o h4).1 h2 h5 h3
          subst this
          rw [hsn _ (List.mem_of_getElem? h1)] at h4;cases h4
      · simp only [l] at h;omega
      · exact h.2.2 c _ h2 h3
  have hmkeep:∀ id,Qs T hs n m d id→id < n+1:=fun id hid=>by
    rcases hid with h|h|⟨t,h⟩|h
    · have h1:F.n0=m:=H.meq
      have h2:F.n0≤n:=H.nle
      omega
    · obtain ⟨q,hq⟩:=List.getElem?_of_mem h
      have:=hcn' q id hq;omega
    · have:=hTlt t id h;omega
    · rw [List.flatMap_cons,List.mem_append] at h
      rcases h with h|h
      · simp [ADf.ids] at h;omega
      · have:=hdlt id h;omega
  have hT1:∀ t,ARel w1 fz0 ρ1 F.y (T t) (a.tmps.getD t undef):=fun t=>(H.temps t).mono hfz1 fun id hid=>hρ1 id (hTlt t id hid)
  have hB:=QbW (P:=P) (F:=F) (ws:=w1) (ρs:=ρ1) (oks:=fz0) (keep:=Qs T hs n m d) (l:=l) (rec0:=rec0) (ans:=ans) (ex:=ex) (T:=T) (a0:=a) (hs:=hs) (n:=n+1) (nl:=nl) (ys:=ys) (hc:=fun k=>(n,AObj.mark) :: hc k) (hl:=hl) (h0:=h0) (jj:=jj) (A':=A') hRo hex ⟨rfl,rfl,rfl⟩
    (hst F hF) hT1 H.tsz hlids hkeep hlast hdom (fun q c hq=>.inr (.inl (List.mem_of_getElem? hq))) hd.1.2 hd.2 hA' hround (yv:=yv) rfl (own0:=ownr0)
  refine Xh (vg (hFn.calls yv _ (RJ.stable _ _ _ _ _ _ _ _ _) ownr0 w1 (zg hs ρ1) (#[yv]++cvs) hB hHp ?_ ?_) ?_)
  · have:=AV.leL_length hcaps
    simp;omega
  · intro i c hi
    cases i with
    |zero =>
      simp only [List.getElem?_cons_zero,Option.some.injEq] at hi
      subst hi
      have:(#[yv]++cvs).getD 0 undef=yv:=by simp [Array.getElem?_append]
      rw [this];exact .cb rfl rfl
    |succ i =>
      simp only [List.getElem?_cons_succ] at hi
      obtain ⟨b,hb,hle⟩:=AV.leL_get hcaps i c hi
      have h1:=hcr i b hb
      have h2:=AV.le_rel (ok':=fz0) (h:=fun _=>none) (σ:=fun j=>hs[j]?) (ρ':=zg hs ρ1) (fun i o h=>by cases h) (fun b hb=>hb) (fun i ox b h=>by cases h) hσ hσ0 h1 c hle
      have h3:(#[yv]++cvs).getD (i+1) undef=cvs.getD i undef:=by simp [Array.getElem?_append]
      rw [h3]
      exact (h2.chy (AV.nocbL_mem hcn c (List.mem_of_getElem? hi))).mono hfzx fun _ _=>rfl
  rintro e w' ⟨v',own',ρ',rfl,q1,q2,q3,q4,q5,q6,q7⟩
  obtain ⟨ρk,ownk,fz,hR⟩:=q1.jay
  have hnb:(recAt rec0 ans ex R).state ≠ .busy:=by
    unfold recAt
    split
    · simp
    · simp [rec0]
  have hpinR:∀ (q c:Nat),hs[q]?=some c→ρ' q=ρk c:=fun q c hq=>by
    obtain ⟨o,ho⟩:=hdom q (List.getElem?_eq_some_iff.1 hq).1
    rw [q6 q o ho]
    simp only [zg,hq]
    exact (hR.keep c (.inr (.inl (List.mem_of_getElem? hq)))).symm
  have hlprov:∀ q o b,h0 q=some o→blk (ρ' q)=some b→F.w0.heap.size≤b∨F.owns0 b:=fun q o b hq hb=>by
    rw [q6 q o hq] at hb
    obtain ⟨c,_,h2,h3⟩:=hlb0 q o b hq hb
    exact (H.blkOK c _ b h2 h3).2
  have hsz0:F.w0.heap.size≤w.heap.size:=H.ext.size
  have hextR:Ext (fun b=>F.own0.prv b∨F.owns0 b) F.w0 w':=by
    refine ((H.ext.trans hx1 fun _ _ h=>h.elim).trans q3 fun b hb h=>?_)
    rcases h with (h|h|h)|⟨q,o,hq,hbq⟩
    · rcases H.ownsub b h with h|h
      · exact .inl h
      · omega
    · rcases hb0 b h with h|⟨i,o,h4,h5⟩
      · omega
      · rcases (H.blkOK i o b (hclt i o h4).1 h5).2 with h|h
        · omega
        · exact .inr h
    · simp only [l] at h;omega
    · obtain ⟨c,_,h2,h3⟩:=hlb0 q o b hq hbq
      rcases (H.blkOK c _ b h2 h3).2 with h|h
      · omega
      · exact .inr h
  have hGam:=Qcv (T:=T) (a1:={ a with defers:=[{ target:=.collected w.heap.size,args:=#[] }]++a.defers }) (hs:=hs) (n:=n) (m:=m) (hm:=fun k=>(n,AObj.mark) :: hc k) (h0:=h0) (jj:=jj) (k:=R) (d:=d) (rc':={ recAt rec0 ans ex R with state:=.exhausted }) hR rfl q1.obj q1.inj q1.off hlprov hpinR
    (fun q o hq=>let ⟨g1,g2,g3,_⟩:=hobj q o hq;⟨g2,g1,g3⟩) (fun c hc'=>by obtain ⟨q,hq⟩:=List.getElem?_of_mem hc';have:=hcn' q c hq;omega) hend (fun t id hid=>⟨by have:=hTlt t id hid;omega,.inr (.inr (.inl ⟨t,hid⟩))⟩) (fun id hid=>⟨hmkeep id (.inr (.inr (.inr hid))),.inr (.inr (.inr hid))⟩)
    hT1 (.cons (.mark (upd_same _ _ _)) (H.defs.mono hfz1 fun id hid=>hρ1 id (hdlt id hid))) H.tsz H.meq (fun id hid=>.inl hid) (fun i o hi=>by
      have h1:F.n0=m:=H.meq
      have h2:F.n0≤n:=H.nle
      have h3:=F.pinn i o hi
      rw [hρ1 i (by omega)];exact H.pins i o hi) (by have h1:F.n0=m:=H.meq;have h2:F.n0≤n:=H.nle;omega) (by simp only [l];omega) hextR
  refine ⟨_,_,run_endLoop hR.rcd hnb, ?_⟩
  by_cases hstop:0 < R∧ans (R - 1)=false
  · have hpd:(recAt rec0 ans ex R).pending=Qae ex:=by unfold recAt;rw [if_pos hstop]
    rw [hpd]
    have hk:=hKx hstop.1 hstop.2
    rcases hex with rfl|⟨id,rfl⟩|⟨g,rfl⟩
    · exact wpIn_ret ⟨_,hk,by simpa only [hpd] using hGam⟩
    · exact wpIn_exit ⟨_,hk,by simpa only [hpd] using hGam⟩
    · exact wpIn_goto ⟨_,hk,by simpa only [hpd] using hGam⟩
  · have hpd:(recAt rec0 ans ex R).pending=none:=by unfold recAt;rw [if_neg hstop]
    rw [hpd]
    refine ⟨_,hKn (fun k hk=>?_),by simpa only [hpd] using hGam⟩
    by_cases hl:k+1 < R
    · exact hRo.yes k hl
    · have:k=R - 1:=by omega
      subst this
      cases h:ans (R - 1) with
      |true=>rfl
      |false=>exact absurd ⟨by omega,h⟩ hstop
end Go.Sym
namespace Go.Sym
open Go
variable {A : Frm → Prop} {P : Program}
def nth (L:List AObj) (i:Nat):Option AObj:=L[i]?
def jT (S:St) (hs:List Nat):List Nat→List AObj→Prop
  |c :: cs,o :: os=>(match S.h c with|some ob=>AObj.le (fun _=>none) (fun j=>hs[j]?) ob o|none=>False)∧jT S hs cs os
  |[],[]=>True
  |_,_=>False
theorem WP {S:St} {hs:List Nat}:∀ {cs:List Nat} {os:List AObj},jT S hs cs os→cs.length=os.length∧∀ (i:Nat) (o:AObj),os[i]?=some o→∃ c ob,cs[i]?=some c∧S.h c=some ob∧AObj.le (fun _=>none) (fun j=>hs[j]?) ob o
  |[],[],_=>by simp
  |c :: cs,o :: os,h=>by
    obtain ⟨h1,h2⟩:=h
    obtain ⟨g1,g2⟩:=WP h2
    refine ⟨by simp [g1],fun i o' ho=>?_⟩
    cases i with
    |zero =>
      simp only [List.getElem?_cons_zero,Option.some.injEq] at ho
      subst ho
      split at h1
      · rename_i ob hob;exact ⟨c,ob,rfl,hob,h1⟩
      · exact h1.elim
    |succ i=>simpa using g2 i o' (by simpa using ho)
  |[],_ :: _,h=>h.elim
  |_ :: _,[],h=>h.elim
def cbE (hs:List Nat) (ys:Nat→List AV) (hl:Nat→List AObj) (ans:Nat→Bool) (R:Nat) (S:St) (bs:List AV):Ans :=
  (S.j < R∧AV.leL (fun _=>none) (fun j=>hs[j]?) bs (ys S.j)∧jT S hs hs (hl S.j)∧∀ o ∈ hl S.j,∀ id ∈ o.ids,id < hs.length,zl S hs [] [] (.v (.bool (ans S.j))) (nth (hl S.j)) 0 1)
theorem QcV {hp hp0:Nat→Option AObj} {ys:Nat→List AV} {hl:Nat→List AObj} {ans:Nat→Bool} {R:Nat} {hs:List Nat} (hA:∀ F,A F→Acb P hp hp0 ys (fun j=>nth (hl j)) ans R F) (hpin:∀ i o,hp i=some o→hs[i]?=some i) (hnd:hs.Nodup)
    {S:St} {bs:List AV} (h:(cbE hs ys hl ans R S bs).1) (hS:Wf S) {ops:Array Oper} {o:Oper} {g:Operand} {args:Array Operand} {tys:Array TypeId} {caps:List AV} (hw:Want ops o S)
    (ho:o.op=.call { callee:=.value g,args:=args,argTypes:=tys }) (hg:wO (ev S g)=some (none,caps)) (hb:args.toList.map (ev S)++caps=bs):VE A P ops o (cbE hs ys hl ans R S bs).2 S:=by
  obtain ⟨h1,h2,h3,h4⟩:=h
  have hg':ev S g=.cb∧caps=[]:=by
    unfold wO at hg
    split at hg
    · simp at hg
    · rename_i he;simp only [Option.some.injEq,Prod.mk.injEq,true_and] at hg;exact ⟨he,hg.symm⟩
    · simp at hg
    · cases hg
  obtain ⟨hg',rfl⟩:=hg'
  rw [List.append_nil] at hb
  obtain ⟨g1,g2⟩:=WP h3
  exact ve_cb hS hw ho hg' hA h1 (hs:=hs) (bo:=[]) (hf:=fun _=>none) hpin (by rw [hb];exact h2) (fun i o0 hi=>g2 i o0 hi) (fun j hj=>⟨_,List.getElem?_eq_getElem (by omega)⟩) hnd (fun i ob hi=>by cases hi) (by simp)
    (fun i ob hi=>⟨by have:=(List.getElem?_eq_some_iff.1 hi).1;omega,fun id hid=>by have:=h4 ob (List.mem_of_getElem? hi) id hid;omega⟩)
def tabC (cb:Entry) (L:List (FuncId × Entry)):Ctr:=fun S f bs=>match f with
  |some f=>Qcg S f bs L
  |none=>cb S bs
theorem QbF {cb:Entry} {L:List (FuncId × Entry)} (hcb:∀ S bs,(cb S bs).1→Wf S→∀ ops o g args tys caps,Want ops o S→o.op=.call { callee:=.value g,args:=args,argTypes:=tys }→wO (ev S g)=some (none,caps)→args.toList.map (ev S)++caps=bs→VE A P ops o (cb S bs).2 S)
    (h:Qbf A P L):Ctr.OK A P (tabC cb L):=by
  intro S f bs hp hS ops o g args tys caps hw ho hg hb
  cases f with
  |none=>exact hcb S bs hp hS ops o g args tys caps hw ho hg (by rw [QcI hg] at hb;exact hb)
  |some f=>exact QdM h S (some f) bs hp hS ops o g args tys caps hw ho hg hb
end Go.Sym
namespace Go.Sym
open Go
variable {A : Frm → Prop} {P : Program}
theorem QcM {t e:TypeId} (ht:P.underlying t=some (.slice e)) (a:Option Addr) (n c:Nat) (w:World):(Op.equal t (.slice a n c) (.slice none 0 0)).run P w=.ok a.isNone w:=by
  have key:∀ d,(Op.equalIn (d+1) t (.slice a n c) (.slice none 0 0)).run P w=.ok a.isNone w:=fun d=>by
    cases a <;> simp [Op.equalIn,run_underlying ht]
  exact key 9999
theorem Qhm {ops:Array Oper} {o:Oper} {F:Frm} {S:St} {a:Act} {w:World} (hg:Gam F S a w) {d t c:Nat} {x:Operand} {e:TypeId} (hd:o.dst=some d) (hgd:o.guard=none) (ho:o.op=.binOp .eql t x (.const (.slice none 0 0)) c) (hdn:d < F.nt) {xs:List (List DV)} (hx:ev S x=.sl xs)
    (ht:P.underlying t=some (.slice e)) {K:Act→World→Prop} {Q:Exit→Act→World→Prop} (hK:∀ b,(b=true→xs=[])→∀ a',Gam F (S.app (some d) { av:=.v (.bool b),n:=S.n }) a' w→K a' w):o.wpIn (W F.r) 0 P a w K Q:=by
  obtain ⟨ρ,own,H⟩:=hg
  have h1:=qD H x
  rw [hx] at h1
  generalize hv:a.eval x=v at h1
  cases h1 with
  |sl hdr =>
    have hshape:∃ A n c,v=.slice A n c∧(A.isNone=true→xs=[]):=by
      cases hdr with
      |sl0 hc=>exact ⟨_,_,_,rfl,fun _=>rfl⟩
      |sl f h1 h2=>exact ⟨_,_,_,rfl,fun h=>by simp at h⟩
    obtain ⟨A0,n0,c0,rfl,hnil⟩:=hshape
    have hcv:a.eval (.const (.slice none 0 0))=.slice none 0 0:=rfl
    refine jA (w':=w) (v:=.bool A0.isNone) (by simp [ho]) ?_ ?_
    · have hgu:(eqGuard .eql t x (.const (.slice none 0 0)) (.slice A0 n0 c0) (.slice none 0 0)).run P w=.ok () w:=by simp [eqGuard]
      simp [execOp,ho,hv,hcv,hgu,binOp,QcM ht]
    · rw [hd]
      refine hK _ hnil _ ⟨ρ,own, ?_⟩
      have:=H.app (dst:=some d) (e:={ av:=.v (.bool A0.isNone),n:=S.n }) (v':=.bool A0.isNone) (w':=w) (ρ':=ρ) (own':=own) (ds:=[]) (fun q hq=>by cases hq;exact hdn) H.jay (Ext.refl _ _) (.inl rfl) (by simp) (fun _ _=>rfl) (by simp) (.v rfl)
        (by simp [Eff.keys]) (by simp [Eff.keys]) (by simp [Eff.ids,AV.ids,wL]) .nil
      simpa [Act.put] using this
theorem Qgz {o:Oper} {F:Frm} {S:St} {a:Act} {w:World} (hg:Gam F S a w) {d:Nat} {x:Operand} (hd:o.dst=some d) (ho:o.op=.move x) (hdn:d < F.nt) {K:Act→World→Prop} {Q:Exit→Act→World→Prop}
    (hK:∀ a',Gam F (S.app (some d) { av:=ev S x,n:=S.n }) a' w→K a' w):o.wpIn (W F.r) 0 P a w K Q:=by
  have hwf:=hg.wf
  obtain ⟨ρ,own,H⟩:=hg
  refine jA (w':=w) (v:=a.eval x) (by simp [ho]) (by simp [execOp,ho]) ?_
  rw [hd]
  refine hK _ ⟨ρ,own, ?_⟩
  have:=H.app (dst:=some d) (e:={ av:=ev S x,n:=S.n }) (v':=a.eval x) (w':=w) (ρ':=ρ) (own':=own) (ds:=[]) (fun q hq=>by cases hq;exact hdn) H.jay (Ext.refl _ _) (.inl rfl) (by simp) (fun _ _=>rfl) (by simp) (qD H x)
    (by simp [Eff.keys]) (by simp [Eff.keys]) (fun id hid=>by
      have:=yh hwf x id (by simpa [Eff.ids,wL] using hid)
      exact Nat.lt_of_lt_of_le this (Nat.le_max_left _ _)) .nil
  simpa [Act.put] using this
theorem Yu {id d1 d2 t c:Nat} {o1 o2:Oper} {x:Operand} {S:St} {K:Exit→St→Prop} {e:TypeId} {xs:List (List DV)} (hd1:o1.dst=some d1) (hg1:o1.guard=none) (ho1:o1.op=.move x) (hd2:o2.dst=some d2) (hg2:o2.guard=none) (ho2:o2.op=.binOp .eql t (.tmp d1) (.const (.slice none 0 0)) c)
    (ht:P.underlying t=some (.slice e)) (hx:ev S x=.sl xs) (h:∀ b,(b=true→xs=[])→K .normal ((S.app (some d1) { av:=.sl xs,n:=S.n }).app (some d2) { av:=.v (.bool b),n:=(S.app (some d1) { av:=.sl xs,n:=S.n }).n })):Sym A P (.region id #[o1,o2] false) S K:=by
  intro F hF hd a w hg
  simp only [vQ,List.all_cons,List.all_nil,Bool.and_true,Bool.and_eq_true,Qag,hd1,hd2,decide_eq_true_eq] at hd
  refine wpIn_region ?_
  show wpOpsIn (W F.r) 0 P #[o1,o2] _ [0,1] a w
  have w1:∀ y,Region.wanted o1 y=true:=fun y=>by simp [Region.wanted,hg1]
  have w2:∀ y,Region.wanted o2 y=true:=fun y=>by simp [Region.wanted,hg2]
  simp only [wpOpsIn,List.getElem?_toArray,List.getElem?_cons_zero,List.getElem?_cons_succ,w1,w2,if_true]
  refine Qgz hg hd1 ho1 hd.1 fun a' hg'=>?_
  rw [hx] at hg'
  refine Qhm (ops:=#[]) hg' hd2 hg2 ho2 hd.2 (x:=.tmp d1) (xs:=xs) (by simp [ev,St.app,put,upd_same]) ht fun b hb a'' hg''=>?_
  exact ⟨_,h b hb,hg''⟩
end Go.Sym
namespace Go.Sym
open Go
theorem Fin.ok {S:St} {rv v:AV} {n0:Nat} {H:List (Nat × AObj)} {dj:Nat} (σ:Nat→Option Nat) (fz:List Nat) (hv:AV.le (fun i=>if i ∈ fz then S.h i else none) σ rv v) (hh:leH S (fun i=>if i ∈ fz then S.h i else none) σ H)
    (hi:(Jl σ H).Nodup) (hz:∀ i ∈ fz,i ∉ Jl σ H) (hp:∀ i,i < n0→σ i=some i) (hj:S.j=dj):Fin S rv v n0 (qc H) dj:=by
  refine ⟨σ,_,hv,fun i o1 h=>YC hh _ (qV h),fun i o k o' c h h' e e'=>?_,fun i o h=>?_,hp,hj⟩
  · rcases Jq hi _ (qV h) _ (qV h') c e e' with h|h|h
    · exact congrArg (·.1) h
    · exact h
    · exact h.elim
  · by_cases hm:i ∈ fz
    · rw [if_pos hm] at h
      exact ⟨h,fun j o1 hj hs=>hz i hm (List.mem_filterMap.2 ⟨_,qV hj,hs⟩)⟩
    · rw [if_neg hm] at h;cases h
end Go.Sym
namespace Go.Sym
open Go
variable {A : Frm → Prop} {P : Program}
def wM:Nat→List AObj→List (Nat × AObj)
  |_,[]=>[]
  |k,o :: os=>(k,o) :: wM (k+1) os
def yX:Nat→List (Option AObj)→List (Nat × AObj)
  |_,[]=>[]
  |k,some o :: os=>(k,o) :: yX (k+1) os
  |k,none :: os=>yX (k+1) os
theorem yF:∀ (L:List AObj) (k i:Nat),qc (wM k L) i=if i < k then none else L[i - k]?
  |[],k,i=>by simp [wM,qc]
  |o :: os,k,i=>by
    simp only [wM,qc]
    by_cases h:i=k
    · subst h;simp
    · rw [if_neg h,yF os (k+1) i]
      by_cases h1:i < k
      · rw [if_pos h1,if_pos (by omega)]
      · rw [if_neg h1,if_neg (by omega),show i - k=(i - (k+1))+1 by omega,List.getElem?_cons_succ]
theorem QF:∀ (L:List (Option AObj)) (k i:Nat),qc (yX k L) i=if i < k then none else (L[i - k]?).join
  |[],k,i=>by simp [yX,qc]
  |o :: os,k,i=>by
    have key:qc (yX k (o :: os)) i=if i=k then o else qc (yX (k+1) os) i:=by
      cases o with
      |none =>
        simp only [yX]
        by_cases h:i=k
        · subst h;rw [if_pos rfl,QF os,if_pos (by omega)]
        · rw [if_neg h]
      |some o=>simp only [yX,qc]
    rw [key]
    by_cases h:i=k
    · subst h;simp
    · rw [if_neg h,QF os (k+1) i]
      by_cases h1:i < k
      · rw [if_pos h1,if_pos (by omega)]
      · rw [if_neg h1,if_neg (by omega),show i - k=(i - (k+1))+1 by omega,List.getElem?_cons_succ]
structure Pk where
  pre:Prop:=True
  hs:List Nat:=[]
  bo:List Nat:=[]
  ar:List AV
  L0:List AObj:=[]
  v:AV
  L1:List (Option AObj):=[]
  fl:Bool:=false
def XQ (S:St) (hf:Nat→Option AObj) (hs:List Nat):List Nat→List AObj→Prop
  |c :: cs,o :: os=>(match S.h c with|some ob=>AObj.le hf (fun j=>hs[j]?) ob o|none=>False)∧XQ S hf hs cs os
  |[],[]=>True
  |_,_=>False
theorem JF {S:St} {hf:Nat→Option AObj} {hs:List Nat}:∀ {cs:List Nat} {os:List AObj},XQ S hf hs cs os→cs.length=os.length∧∀ (i:Nat) (o:AObj),os[i]?=some o→∃ c ob,cs[i]?=some c∧S.h c=some ob∧AObj.le hf (fun j=>hs[j]?) ob o
  |[],[],_=>by simp
  |c :: cs,o :: os,h=>by
    obtain ⟨h1,h2⟩:=h
    obtain ⟨g1,g2⟩:=JF h2
    refine ⟨by simp [g1],fun i o' ho=>?_⟩
    cases i with
    |zero =>
      simp only [List.getElem?_cons_zero,Option.some.injEq] at ho
      subst ho
      split at h1
      · rename_i ob hob;exact ⟨c,ob,rfl,hob,h1⟩
      · exact h1.elim
    |succ i=>simpa using g2 i o' (by simpa using ho)
  |[],_ :: _,h=>h.elim
  |_ :: _,[],h=>h.elim
def QaB (n:Nat):List (Option AObj)→Prop
  |[]=>True
  |some o :: r=>(∀ id ∈ o.ids,id < n)∧QaB n r
  |none :: r=>QaB n r
theorem JA {n:Nat}:∀ {L:List (Option AObj)},QaB n L→∀ (i:Nat) (o:AObj),L[i]?=some (some o)→∀ id ∈ o.ids,id < n
  |some o :: r,h,0,o',ho=>by simp only [List.getElem?_cons_zero,Option.some.injEq] at ho;subst ho;exact h.1
  |none :: r,h,0,o',ho=>by simp at ho
  |some o :: r,h,i+1,o',ho=>JA h.2 i o' (by simpa using ho)
  |none :: r,h,i+1,o',ho=>JA (L:=r) h i o' (by simpa using ho)
def VS:List (Option AObj)→Prop
  |[]=>True
  |some o :: r=>o.flat∧VS r
  |none :: r=>VS r
theorem JO:∀ {L:List (Option AObj)},VS L→∀ (i:Nat) (o:AObj),L[i]?=some (some o)→o.flat
  |some o :: r,h,0,o',ho=>by simp only [List.getElem?_cons_zero,Option.some.injEq] at ho;subst ho;exact h.1
  |none :: r,h,0,o',ho=>by simp at ho
  |some o :: r,h,i+1,o',ho=>JO h.2 i o' (by simpa using ho)
  |none :: r,h,i+1,o',ho=>JO (L:=r) h i o' (by simpa using ho)
def Qen (S:St) (hs:List Nat):List Nat→Prop
  |[]=>True
  |c :: cs=>((S.h c).isSome=true∧c ∉ hs)∧Qen S hs cs
theorem Zy {S:St} {hs:List Nat}:∀ {bo:List Nat},Qen S hs bo→∀ i ∈ bo,(∃ ob,S.h i=some ob)∧i ∉ hs
  |c :: cs,h,i,hi=>by
    rcases List.mem_cons.1 hi with rfl|hi
    · exact ⟨Option.isSome_iff_exists.1 h.1.1,h.1.2⟩
    · exact Zy h.2 i hi
def hwL (τ:Nat→Nat):Nat→List (Option AObj)→List (Nat × Option AObj)
  |_,[]=>[]
  |j,o :: os=>(τ j,o.map (AObj.ren τ)) :: hwL τ (j+1) os
theorem Qak (τ:Nat→Nat):∀ (L:List (Option AObj)) (k:Nat),hwL τ k L=(List.range L.length).map fun j=>(τ (k+j),((L[j]?).join).map (AObj.ren τ))
  |[],k=>rfl
  |o :: os,k=>by
    rw [hwL,Qak τ os (k+1),List.length_cons,List.range_succ_eq_map,List.map_cons,List.map_map]
    congr 1
    refine List.map_congr_left fun j _=>?_
    simp only [Function.comp_apply,List.getElem?_cons_succ,Nat.succ_eq_add_one]
    rw [show k+1+j=k+(j+1) by omega]
def XE:Nat→Nat→List Nat
  |_,0=>[]
  |n,k+1=>n :: XE (n+1) k
theorem UT:∀ (k n:Nat),XE n k=(List.range k).map (n+·)
  |0,n=>rfl
  |k+1,n=>by
    rw [XE,UT k,List.range_succ_eq_map,List.map_cons,List.map_map]
    congr 1
    refine List.map_congr_left fun j _=>?_
    simp only [Function.comp_apply,Nat.succ_eq_add_one]
    omega
def Pk.hf (q:Pk) (S:St):Nat→Option AObj:=fun i=>if i ∈ q.bo then S.h i else none
def Pk.ok (q:Pk) (S:St) (bs:List AV):Prop :=
  q.pre∧AV.leL (q.hf S) (fun j=>q.hs[j]?) bs q.ar∧XQ S (q.hf S) q.hs q.hs q.L0∧q.hs.Nodup∧Qen S q.hs q.bo∧q.hs.length≤q.L1.length∧(∀ id ∈ q.v.ids,id < q.L1.length)∧QaB q.L1.length q.L1∧(q.fl=true→q.v.flat∧VS q.L1)
def Pk.eff (q:Pk) (S:St):Eff :=
  { av:=q.v.ren (qj q.hs S.n),hw:=hwL (qj q.hs S.n) 0 q.L1++zA (bif q.fl then [] else q.bo),hr:=q.hs++q.bo,news:=XE S.n (q.L1.length - q.hs.length),n:=S.n+(q.L1.length - q.hs.length) }
def fnE (spec:St→List AV→Option Pk) (S:St) (bs:List AV):Ans:=match spec S bs with
  |none=>bad
  |some q=>(q.ok S bs,q.eff S)
theorem Pk.eff_eq (q:Pk) (S:St) (hl:q.hs.length≤q.L1.length):q.eff S=zl S q.hs q.bo (bif q.fl then [] else q.bo) q.v (qc (yX 0 q.L1)) (q.L1.length - q.hs.length) 0:=by
  simp only [Pk.eff,zl,Qak,UT,QF,Nat.not_lt_zero,if_false,Nat.sub_zero,Nat.zero_add]
  rw [show q.hs.length+(q.L1.length - q.hs.length)=q.L1.length by omega]
theorem QcO {B:Ctx→Prop} (hB:∀ F S hs bo ρ own w,A F→B (Q3 F S hs bo ρ own w)) {f:FuncId} {spec:St→List AV→Option Pk} (hf:∀ S bs q,spec S bs=some q→q.pre→Fn B P f q.ar (qc (wM 0 q.L0)) q.v (qc (yX 0 q.L1)) 0)
    {S:St} {bs:List AV} (h:(fnE spec S bs).1) (hS:Wf S) {ops:Array Oper} {o:Oper} {g:Operand} {args:Array Operand} {tys:Array TypeId} {caps:List AV} (hw:Want ops o S)
    (ho:o.op=.call { callee:=.value g,args:=args,argTypes:=tys }) (hg:wO (ev S g)=some (some f,caps)) (hb:ZA (ev S g)++(args.toList.map (ev S)++caps)=bs):VE A P ops o (fnE spec S bs).2 S:=by
  unfold fnE at h ⊢
  cases hq:spec S bs with
  |none=>rw [hq] at h;exact h.elim
  |some q =>
    rw [hq] at h
    simp only at h ⊢
    obtain ⟨h1,h2,h3,h4,h5,h6,h7,h8,h9⟩:=h
    rw [q.eff_eq S h6]
    have hgc:=QR hg
    obtain ⟨g1,g2⟩:=JF h3
    have hlen:q.hs.length+(q.L1.length - q.hs.length)=q.L1.length:=by omega
    have get1:∀ i o,qc (yX 0 q.L1) i=some o→q.L1[i]?=some (some o):=fun i o hi=>by
      rw [QF,if_neg (by omega),Nat.sub_zero] at hi
      cases hh:q.L1[i]? with
      |none=>rw [hh] at hi;cases hi
      |some x=>rw [hh] at hi;simp only [Option.join_some] at hi;rw [hi]
    refine KE hS hw ho hgc (hf S bs q hq h1) (fun h=>absurd rfl h) (fun F S2 _ w ρ own h _ _ _=>hB F S2 _ _ ρ own w h) (hf:=q.hf S) (by rw [hb];exact h2) (fun i o0 hi=>?_) (fun j hj=>?_) h4 (fun i ob hi=>?_) (Zy h5) ?_ (by rw [hlen];exact h7) (fun i ob hi=>?_)
    · rw [yF,if_neg (by omega),Nat.sub_zero] at hi
      exact g2 i o0 hi
    · rw [yF,if_neg (by omega),Nat.sub_zero]
      exact ⟨_,List.getElem?_eq_getElem (by omega)⟩
    · unfold Pk.hf at hi
      by_cases hm:i ∈ q.bo
      · rw [if_pos hm] at hi;exact ⟨hi,(Zy h5 i hm).2,hm⟩
      · rw [if_neg hm] at hi;cases hi
    · cases hfl:q.fl with
      |false=>exact .inl rfl
      |true =>
        obtain ⟨e1,e2⟩:=h9 hfl
        exact .inr ⟨rfl,e1,fun i ob hi=>JO e2 i ob (get1 i ob hi)⟩
    · rw [hlen]
      have:=get1 i ob hi
      exact ⟨(List.getElem?_eq_some_iff.1 this).1,JA h8 i ob this⟩
theorem jC {f:FuncId} {spec:St→List AV→Option Pk} (hf:∀ S bs q,spec S bs=some q→q.pre→Fn noB P f q.ar (qc (wM 0 q.L0)) q.v (qc (yX 0 q.L1)) 0):qh A P f (fnE spec) :=
  fun _ _ h hS _ _ _ _ _ _ hw ho hg hb=>QcO (B:=noB) (fun _ _ _ _ _ _ _ _=>trivial) hf h hS hw ho hg hb
end Go.Sym
namespace Go.Sym
def z1:=@not_false_eq_true
def z2:=@not_true_eq_false
def z3:=@Nat.max_self
def z4:=@Nat.max_def
def z5:=@List.toList_toArray
def z6:=@Bool.not_true
def z7:=@Bool.not_false
def z8:=@beq_self_eq_true
def z9:=@Bool.or_true
def z10:=@Bool.true_or
def z11:=@Bool.or_self
def z12:=@Bool.false_or
def z13:=@Bool.or_false
def z14:=@List.getElem?_toArray
def z15:=@List.getElem?_cons_succ
def z16:=@List.getElem?_cons_zero
def z17:=@List.getElem?_nil
def z18:=@Option.bind_some
def z19:=@List.nil_append
def z20:=@decide_eq_true_eq
def z21:=@decide_eq_false_iff_not
def z22:=@Bool.not_eq_true'
def z23:=@Bool.not_eq_false'
def z24:=@List.all_cons
def z25:=@List.all_nil
def z26:=@Bool.and_self
def z27:=@Bool.and_true
def z28:=@Bool.true_and
def z29:=@List.length_cons
def z30:=@List.length_nil
def z31:=@List.drop_succ_cons
def z32:=@List.drop_zero
def z33:=@List.take_succ_cons
def z34:=@List.take_zero
def z35:=@List.take_nil
def z36:=@List.drop_nil
def z37:=@List.map_cons
def z38:=@List.map_nil
def z39:=@List.cons_append
def z40:=@List.append_nil
def z41:=@List.headD_cons
def z42:=@Option.getD_some
def z43:=@Nat.zero_add
def z44:=@Nat.add_zero
def z45:=@Nat.zero_mul
def z46:=@Int.toNat_natCast
def z47:=@Int.natCast_nonneg
def z48:=@Nat.le_refl
def z49:=@Option.isSome_some
def z50:=@Option.map_some
def z51:=@Option.map_none
def z52:=@List.length_map
def z53:=@List.mem_singleton
def z54:=@List.mem_cons
def z55:=@List.not_mem_nil
def z56:=@List.nodup_cons
def z57:=@List.nodup_nil
def z58:=@false_implies
def z59:=@implies_true
def z60:=@forall_eq_or_imp
def z61:=@forall_const
def z62:=@Option.some.injEq
def z63:=@Int.toNat_zero
def z64:=@Int.le_refl
def z65:=@Nat.lt_add_one
def z66:=@Nat.zero_lt_succ
def z67:=@Nat.zero_le
end Go.Sym
namespace Go.Sym
open Go
def vk0:=And.intro @WB.eq_1 (And.intro @WB.eq_2 (And.intro @QbG.eq_1 (And.intro @QbG.eq_2 (And.intro @QcZ.eq_1 (And.intro @Vj.eq_1 (And.intro @Vj.eq_2 (And.intro @opE.eq_1 (And.intro @opE.eq_2 (And.intro @opE.eq_3 (And.intro @opE.eq_4 (And.intro @opE.eq_5 (And.intro @opE.eq_6 (And.intro @opE.eq_7 (And.intro @opE.eq_8 (And.intro @opE.eq_9 (And.intro @opE.eq_10 (And.intro @opE.eq_11 (And.intro @opE.eq_12 (And.intro @opE.eq_13 (And.intro @opE.eq_14 (And.intro @opE.eq_15 (And.intro @opE.eq_16 (And.intro @opE.eq_17 (And.intro @opE.eq_18 (And.intro @opE.eq_19 (And.intro @opE.eq_20 (And.intro @UO.eq_1 (And.intro @UO.eq_2 (And.intro @rdE.eq_1 (And.intro @rdE.eq_2 (And.intro @rdE.eq_3 (And.intro @rdE.eq_4 (And.intro @JZ.eq_1 (And.intro @JZ.eq_2 (And.intro @QcQ.eq_1 (And.intro @QcQ.eq_2 (And.intro @QcQ.eq_3 (And.intro @QcQ.eq_4 (@ZX.eq_1)))))))))))))))))))))))))))))))))))))))
def vk1:=And.intro @ZX.eq_2 (And.intro @ZX.eq_3 (And.intro @ZX.eq_4 (And.intro @Zq.eq_1 (And.intro @Zq.eq_2 (And.intro @Zq.eq_3 (And.intro @Zq.eq_4 (And.intro @Zq.eq_5 (And.intro @Zq.eq_6 (And.intro @Zq.eq_7 (And.intro @L6.eq_1 (And.intro @L6.eq_2 (And.intro @boxE.eq_1 (And.intro @Q7.eq_1 (And.intro @Q7.eq_2 (And.intro @Q7.eq_3 (And.intro @Q7.eq_4 (And.intro @kQ.eq_1 (And.intro @kQ.eq_2 (And.intro @kQ.eq_3 (And.intro @kQ.eq_4 (And.intro @kQ.eq_5 (And.intro @kQ.eq_6 (And.intro @kQ.eq_7 (And.intro @kQ.eq_8 (And.intro @kQ.eq_9 (And.intro @kQ.eq_10 (And.intro @kQ.eq_11 (And.intro @kQ.eq_12 (And.intro @kQ.eq_13 (And.intro @kQ.eq_14 (And.intro @kQ.eq_15 (And.intro @kQ.eq_16 (And.intro @kQ.eq_17 (And.intro @Vy.eq_1 (And.intro @Vy.eq_2 (And.intro @Vy.eq_3 (And.intro @Vy.eq_4 (And.intro @Qdc.eq_1 (@Qdc.eq_2)))))))))))))))))))))))))))))))))))))))
def vk2:=And.intro @Qdc.eq_3 (And.intro @eqE.eq_1 (And.intro @eqE.eq_2 (And.intro @eqE.eq_3 (And.intro @unE.eq_1 (And.intro @unE.eq_2 (And.intro @unE.eq_3 (And.intro @YZ.eq_1 (And.intro @YZ.eq_2 (And.intro @Qaa.eq_1 (And.intro @Qaa.eq_2 (And.intro @JM.eq_1 (And.intro @JM.eq_2 (And.intro @JM.eq_3 (And.intro @JM.eq_4 (And.intro @JM.eq_5 (And.intro @JM.eq_6 (And.intro @JM.eq_7 (And.intro @JM.eq_8 (And.intro @JM.eq_9 (And.intro @xq.eq_1 (And.intro @xq.eq_2 (And.intro @xq.eq_3 (And.intro @xq.eq_4 (And.intro @xq.eq_5 (And.intro @dstE.eq_1 (And.intro @dstE.eq_2 (And.intro @dstE.eq_3 (And.intro @dstE.eq_4 (And.intro @QfA.eq_1 (And.intro @QfA.eq_2 (And.intro @Qac (And.intro @Rq (And.intro @V9 (And.intro @Qbc.eq_1 (And.intro @Qbc.eq_2 (And.intro @isSlice.eq_1 (And.intro @isSlice.eq_2 (And.intro @minE.eq_1 (@minE.eq_2)))))))))))))))))))))))))))))))))))))))
def vk3:=And.intro @maxE.eq_1 (And.intro @maxE.eq_2 (And.intro @zW.eq_1 (And.intro @zW.eq_2 (And.intro @zW.eq_3 (And.intro @slE.eq_1 (And.intro @slE.eq_2 (And.intro @slE.eq_3 (And.intro @slE.eq_4 (And.intro @Zx.eq_1 (And.intro @Zx.eq_2 (And.intro @Zx.eq_3 (And.intro @Vl.eq_1 (And.intro @Kr.eq_1 (And.intro @Kr.eq_2 (And.intro @Qfv.eq_1 (And.intro @Qfv.eq_2 (And.intro @Qbt.eq_1 (And.intro @Qbt.eq_2 (And.intro @XG.eq_1 (And.intro @XG.eq_2 (And.intro @isNil.eq_1 (And.intro @isNil.eq_2 (And.intro @Xi.eq_def (And.intro @Xi.eq_2 (And.intro @vC.eq_1 (And.intro @vC.eq_2 (And.intro @vC.eq_3 (And.intro @vC.eq_4 (And.intro @Qew.eq_1 (And.intro @Qew.eq_2 (And.intro @Qew.eq_3 (And.intro @yJ.eq_1 (And.intro @yJ.eq_2 (And.intro @KC.eq_1 (And.intro @KC.eq_2 (And.intro @dvE.eq_1 (And.intro @dvE.eq_2 (And.intro @dvE.eq_3 (And.intro @dvE.eq_4 (And.intro @dvE.eq_5 (@dvE.eq_6)))))))))))))))))))))))))))))))))))))))))
def vk4:=And.intro @xn.eq_1 (And.intro @xn.eq_2 (And.intro @bsE.eq_1 (And.intro @bsE.eq_2 (And.intro @ZO.eq_1 (And.intro @wO.eq_1 (And.intro @wO.eq_2 (And.intro @wO.eq_3 (And.intro @wo.eq_1 (And.intro @wo.eq_2 (And.intro @TD.elem.eq_1 (And.intro @TD.elem.eq_2 (And.intro @TD.elem.eq_3 (And.intro @TD.agg.eq_1 (And.intro @TD.agg.eq_2 (And.intro @TD.agg.eq_3 (And.intro @TD.agg.eq_4 (And.intro @TD.agg.eq_5 (And.intro @TD.agg.eq_6 (And.intro @TD.agg.eq_7 (And.intro @TD.agg.eq_8 (And.intro @TD.agg.eq_9 (And.intro @TD.agg.eq_10 (And.intro @TD.agg.eq_11 (And.intro @vw.eq_1 (And.intro @cellsOf.eq_1 (And.intro @cellsOf.eq_2 (And.intro @cellsOf.eq_3 (And.intro @cellsOf.eq_4 (And.intro @cellsOf.eq_5 (And.intro @cellsOf.eq_6 (And.intro @cellsOf.eq_7 (And.intro @cellsOf.eq_8 (And.intro @cellsOf.eq_9 (And.intro @cellsOf.eq_10 (And.intro @cellsOf.eq_11 (And.intro @cellsOf.eq_12 (And.intro @cellsOf.eq_13 (And.intro @cellsOf.eq_14 (@cellsOf.eq_15)))))))))))))))))))))))))))))))))))))))
def vk5:=And.intro @cellsOf.eq_16 (And.intro @jQ.eq_1 (And.intro @jQ.eq_2 (And.intro @jQ.eq_3 (And.intro @jQ.eq_4 (And.intro @jQ.eq_5 (And.intro @jQ.eq_6 (And.intro @jQ.eq_7 (And.intro @jQ.eq_8 (And.intro @jQ.eq_9 (And.intro @jQ.eq_10 (And.intro @jQ.eq_11 (And.intro @jQ.eq_12 (And.intro @jQ.eq_13 (And.intro @jQ.eq_14 (And.intro @jQ.eq_15 (And.intro @jQ.eq_16 (And.intro @dvZ.eq_1 (And.intro @dvL.eq_1 (And.intro @dvL.eq_2 (And.intro @AV.dv.eq_1 (And.intro @AV.dv.eq_2 (And.intro @AV.dv.eq_3 (And.intro @AV.dv.eq_4 (And.intro @AV.dv.eq_5 (And.intro @AV.dv.eq_6 (And.intro @AV.dv.eq_7 (And.intro @AV.dv.eq_8 (And.intro @AV.dv.eq_9 (And.intro @AV.dv.eq_10 (And.intro @AV.dv.eq_11 (And.intro @AV.dv.eq_12 (And.intro @AV.dv.eq_13 (And.intro @AV.dv.eq_14 (And.intro @AV.dv.eq_15 (And.intro @AV.dv.eq_16 (And.intro @DV.av.eq_1 (And.intro @DV.av.eq_2 (And.intro @ev.eq_1 (@ev.eq_2)))))))))))))))))))))))))))))))))))))))
def vk6:=And.intro @ev.eq_3 (And.intro @ev.eq_4 (And.intro @cAV.eq_1 (And.intro @cAV.eq_2 (And.intro @vI.eq_1 (And.intro @vI.eq_2 (And.intro @vI.eq_3 (And.intro @vI.eq_4 (And.intro @vI.eq_5 (And.intro @vI.eq_6 (And.intro @vI.eq_7 (And.intro @vI.eq_8 (And.intro @vI.eq_9 (And.intro @vI.eq_10 (And.intro @vI.eq_11 (And.intro @vI.eq_12 (And.intro @vI.eq_13 (And.intro @vI.eq_14 (And.intro @vI.eq_15 (And.intro @vI.eq_16 (And.intro @vI.eq_17 (And.intro @vI.eq_18 (And.intro @WU.eq_1 (And.intro @WU.eq_2 (And.intro @ZN.eq_1 (And.intro @ZN.eq_2 (And.intro @ZN.eq_3 (And.intro @St.lit.eq_1 (And.intro @St.app.eq_1 (And.intro @put.eq_1 (And.intro @put.eq_2 (And.intro @upd_same (And.intro @upd_ne (And.intro @zP.eq_1 (And.intro @zP.eq_2 (And.intro @QdS (And.intro @Qd8 (And.intro @QfG (And.intro @RF.eq_1 (@RF.eq_2)))))))))))))))))))))))))))))))))))))))
def vk7:=And.intro @JS.eq_1 (And.intro @WI.eq_1 (And.intro @j4.eq_1 (And.intro @zeros.eq_1 (And.intro @zeros.eq_2 (And.intro @chunk.eq_1 (And.intro @chunk.eq_2 (And.intro @wR.eq_1 (And.intro @wR.eq_2 (And.intro @xG.eq_1 (And.intro @xG.eq_2 (And.intro @zA.eq_1 (And.intro @We.eq_1 (And.intro @We.eq_2 (And.intro @We.eq_3 (And.intro @bad.eq_1 (And.intro @noH.eq_1 (And.intro @QcP (And.intro @Qgh (And.intro @Qd3 (And.intro @fnE.eq_1 (And.intro @Pk.ok.eq_1 (And.intro @Pk.eff.eq_1 (And.intro @Pk.hf.eq_1 (And.intro @XQ.eq_1 (And.intro @XQ.eq_2 (And.intro @XQ.eq_3 (And.intro @Qen.eq_1 (And.intro @Qen.eq_2 (And.intro @QaB.eq_1 (And.intro @QaB.eq_2 (And.intro @QaB.eq_3 (And.intro @VS.eq_1 (And.intro @VS.eq_2 (And.intro @VS.eq_3 (And.intro @hwL.eq_1 (And.intro @hwL.eq_2 (And.intro @XE.eq_1 (And.intro @XE.eq_2 (@qj.eq_1)))))))))))))))))))))))))))))))))))))))
def vk8:=And.intro @AV.ren.eq_1 (And.intro @AV.ren.eq_2 (And.intro @AV.ren.eq_3 (And.intro @AV.ren.eq_4 (And.intro @AV.ren.eq_5 (And.intro @AV.ren.eq_6 (And.intro @AV.ren.eq_7 (And.intro @AV.ren.eq_8 (And.intro @AV.ren.eq_9 (And.intro @AV.ren.eq_10 (And.intro @AV.ren.eq_11 (And.intro @AV.ren.eq_12 (And.intro @AV.ren.eq_13 (And.intro @AV.ren.eq_14 (And.intro @AV.ren.eq_15 (And.intro @AV.ren.eq_16 (And.intro @AV.renL.eq_1 (And.intro @AV.renL.eq_2 (And.intro @AObj.ren.eq_1 (And.intro @AObj.ren.eq_2 (And.intro @AObj.ren.eq_3 (And.intro @AObj.ren.eq_4 (And.intro @AV.le.eq_1 (And.intro @AV.le.eq_2 (And.intro @AV.le.eq_3 (And.intro @AV.le.eq_4 (And.intro @AV.le.eq_5 (And.intro @AV.le.eq_6 (And.intro @AV.le.eq_7 (And.intro @AV.le.eq_8 (And.intro @AV.le.eq_9 (And.intro @AV.le.eq_10 (And.intro @AV.le.eq_11 (And.intro @AV.le.eq_12 (And.intro @AV.le.eq_13 (And.intro @AV.le.eq_14 (And.intro @AV.le.eq_15 (And.intro @AV.le.eq_16 (And.intro @AV.le.eq_17 (@AV.le.eq_18)))))))))))))))))))))))))))))))))))))))
def vk9:=And.intro @AV.le.eq_19 (And.intro @AV.le.eq_20 (And.intro @AV.le.eq_21 (And.intro @AV.le.eq_22 (And.intro @AV.leL.eq_1 (And.intro @AV.leL.eq_2 (And.intro @AV.leL.eq_3 (And.intro @AObj.le.eq_1 (And.intro @AObj.le.eq_2 (And.intro @AObj.le.eq_3 (And.intro @AObj.le.eq_4 (And.intro @AObj.le.eq_5 (And.intro @AV.ids.eq_1 (And.intro @AV.ids.eq_2 (And.intro @AV.ids.eq_3 (And.intro @AV.ids.eq_4 (And.intro @AV.ids.eq_5 (And.intro @AV.ids.eq_6 (And.intro @AV.ids.eq_7 (And.intro @AV.ids.eq_8 (And.intro @AV.ids.eq_9 (And.intro @AV.ids.eq_10 (And.intro @AV.ids.eq_11 (And.intro @AV.ids.eq_12 (And.intro @AV.ids.eq_13 (And.intro @AV.ids.eq_14 (And.intro @AV.ids.eq_15 (And.intro @AV.ids.eq_16 (And.intro @AV.idsL.eq_1 (And.intro @AV.idsL.eq_2 (And.intro @AObj.ids.eq_1 (And.intro @AObj.ids.eq_2 (And.intro @AObj.ids.eq_3 (And.intro @AObj.ids.eq_4 (And.intro @AV.flat.eq_1 (And.intro @AV.flat.eq_2 (And.intro @AV.flat.eq_3 (And.intro @AV.flat.eq_4 (And.intro @AV.flat.eq_5 (@AV.flat.eq_6)))))))))))))))))))))))))))))))))))))))
def vk10:=And.intro @AV.flat.eq_7 (And.intro @AV.flat.eq_8 (And.intro @AV.flat.eq_9 (And.intro @AV.flat.eq_10 (And.intro @AV.flat.eq_11 (And.intro @AV.flat.eq_12 (And.intro @AV.flat.eq_13 (And.intro @AV.flat.eq_14 (And.intro @AV.flat.eq_15 (And.intro @AV.flat.eq_16 (And.intro @AV.flatL.eq_1 (And.intro @AV.flatL.eq_2 (And.intro @AObj.flat.eq_1 (And.intro @AObj.flat.eq_2 (And.intro @AObj.flat.eq_3 (And.intro @AObj.flat.eq_4 (And.intro @wM.eq_1 (And.intro @wM.eq_2 (And.intro @yX.eq_1 (And.intro @yX.eq_2 (And.intro @yX.eq_3 (And.intro @tab.eq_1 (And.intro @tab.eq_2 (And.intro @Qcg.eq_1 (And.intro @Qcg.eq_2 (And.intro @qo.eq_1 (And.intro @AV.view.eq_1 (And.intro @AV.view.eq_2 (And.intro @AV.view.eq_3 (And.intro @AV.view.eq_4 (And.intro @AV.view.eq_5 (And.intro @AV.view.eq_6 (And.intro @AV.view.eq_7 (And.intro @AV.view.eq_8 (And.intro @AV.view.eq_9 (And.intro @AV.view.eq_10 (And.intro @AV.view.eq_11 (And.intro @AV.view.eq_12 (And.intro @AV.view.eq_13 (@AV.view.eq_14)))))))))))))))))))))))))))))))))))))))
def vk11:=And.intro @AV.view.eq_15 (And.intro @AV.view.eq_16 (And.intro @AV.viewL.eq_1 (And.intro @AV.viewL.eq_2 (And.intro @AV.rows.eq_1 (And.intro @AV.rows.eq_2 (And.intro @AV.rows.eq_3 (And.intro @AV.rows.eq_4 (And.intro @AV.rows.eq_5 (And.intro @AV.rows.eq_6 (And.intro @AV.rows.eq_7 (And.intro @AV.rows.eq_8 (And.intro @AV.rows.eq_9 (And.intro @AV.rows.eq_10 (And.intro @AV.rows.eq_11 (And.intro @AV.rows.eq_12 (And.intro @AV.rows.eq_13 (And.intro @AV.rows.eq_14 (And.intro @AV.rows.eq_15 (And.intro @AV.rows.eq_16 (And.intro @AV.rowsL.eq_1 (And.intro @AV.rowsL.eq_2 (And.intro @AV.plain.eq_1 (And.intro @AV.plain.eq_2 (And.intro @AV.plain.eq_3 (And.intro @AV.plain.eq_4 (And.intro @AV.plain.eq_5 (And.intro @AV.plain.eq_6 (And.intro @AV.plain.eq_7 (And.intro @AV.plain.eq_8 (And.intro @AV.plain.eq_9 (And.intro @AV.plain.eq_10 (And.intro @AV.plain.eq_11 (And.intro @AV.plain.eq_12 (And.intro @AV.plain.eq_13 (And.intro @AV.plain.eq_14 (And.intro @AV.plain.eq_15 (And.intro @AV.plain.eq_16 (And.intro @AV.plainL.eq_1 (@AV.plainL.eq_2)))))))))))))))))))))))))))))))))))))))
def vk12:=And.intro @ne_eq.{1} (And.intro @z1 (And.intro @z2 (And.intro @z3 (And.intro @z4 (And.intro @z5.{0} (And.intro @true_and (And.intro @and_true (And.intro @cond_true.{1} (And.intro @cond_false.{1} (And.intro @z6 (And.intro @z7 (And.intro @z8.{0} (And.intro @z9 (And.intro @z10 (And.intro @z11 (And.intro @z12 (And.intro @z13 (And.intro @z14.{0} (And.intro @z15.{0} (And.intro @z16.{0} (And.intro @z17.{0} (And.intro @z18.{0,0} (And.intro @z19.{0} (And.intro @z20 (And.intro @z21 (And.intro @z22 (And.intro @z23 (And.intro @z24.{0} (And.intro @z25.{0} (And.intro @z26 (And.intro @z27 (And.intro @z28 (And.intro @z29.{0} (And.intro @z30.{0} (And.intro @z31.{0} (And.intro @z32.{0} (And.intro @z33.{0} (And.intro @z34.{0} (@z35.{0})))))))))))))))))))))))))))))))))))))))
def vk13:=And.intro @z36.{0} (And.intro @z37.{0,0} (And.intro @z38.{0,0} (And.intro @z39.{0} (And.intro @z40.{0} (And.intro @z41.{0} (And.intro @z42.{0} (And.intro @z43 (And.intro @z44 (And.intro @z45 (And.intro @z46 (And.intro @z47 (And.intro @z48 (And.intro @z49.{0} (And.intro @z50.{0,0} (And.intro @z51.{0,0} (And.intro @z52.{0,0} (And.intro @z53.{0} (And.intro @z54.{0} (And.intro @z55.{0} (And.intro @z56.{0} (And.intro @z57.{0} (And.intro @or_false (And.intro @false_or (And.intro @z58 (And.intro @z59.{1} (And.intro @z59.{0} (And.intro @z60.{1} (And.intro @forall_eq.{1} (And.intro @z61.{1} (And.intro @if_false.{1} (And.intro @if_true.{1} (And.intro @z62.{0} (And.intro @z63 (And.intro @z64 (And.intro @eq_self.{1} (And.intro @z65 (And.intro @z66 (@z67))))))))))))))))))))))))))))))))))))))
def Vw:=And.intro @Qa6.eq_1 (And.intro @Qa6.eq_2 (And.intro @Qa6.eq_3 (And.intro @Vy.eq_5 (And.intro @Vf.eq_1 (And.intro @Qfq.eq_1 (And.intro @Qbp.eq_1 (And.intro @Qbp.eq_2 (And.intro @appR.eq_1 (And.intro @opE.eq_26 (And.intro @XC.eq_1 (And.intro @XC.eq_2 (And.intro @boolT.eq_1 (And.intro @QdL.eq_1 (And.intro @Qfs.eq_1 (And.intro @LJ (And.intro @R3 (And.intro @QaH (And.intro @vTL (And.intro @YT.eq_1 (And.intro @QaC.eq_1 (And.intro @arrB.eq_1 (And.intro @arrB.eq_2 (And.intro @opE.eq_24 (And.intro @opE.eq_25 (And.intro @VF.eq_1 (And.intro @QI.eq_1 (And.intro @AV.dv.eq_17 (And.intro @AV.ids.eq_17 (And.intro @AV.flat.eq_17 (And.intro @AV.le.eq_23 (And.intro @AV.le.eq_24 (And.intro @AV.le.eq_25 (And.intro @AV.le.eq_26 (And.intro @AV.ids.eq_19 (And.intro @AV.ren.eq_19 (And.intro @AV.flat.eq_19 (And.intro @AV.dv.eq_19 (And.intro @cellsOf.eq_19 (And.intro @jQ.eq_19 (And.intro @wO.eq_4 (And.intro @ZA.eq_1 (And.intro @ZA.eq_2 (And.intro @Qdt.eq_1 (And.intro @Qdt.eq_2 (And.intro @AV.view.eq_17 (And.intro @AV.view.eq_18 (And.intro @AV.view.eq_19 (And.intro @AV.rows.eq_19 (And.intro @AV.plain.eq_19 (And.intro @AV.ids.eq_18 (And.intro @AV.ren.eq_18 (And.intro @AV.flat.eq_18 (And.intro @AV.dv.eq_18 (And.intro @cellsOf.eq_18 (And.intro @jQ.eq_18 (And.intro @AV.ren.eq_17 (And.intro @cellsOf.eq_17 (And.intro @jQ.eq_17 (And.intro @opE.eq_21 (And.intro @opE.eq_22 (And.intro @opE.eq_23 (And.intro @Lm.eq_1 (And.intro @Qbn.eq_1 (And.intro @Qbn.eq_2 (And.intro @Rj.eq_1 (And.intro @QdC.eq_1 (And.intro @Qdl.eq_1 (And.intro @Qdl.eq_2 (And.intro @QbD.eq_1 (And.intro @UG.eq_1 (And.intro @Qdk.eq_1 (And.intro @AV.toV.eq_1 (And.intro @AV.toV.eq_2 (And.intro @Qo.eq_1 (And.intro @Qo.eq_2 (And.intro @yw.eq_1 (And.intro @yw.eq_2 (And.intro @vAV.eq_1 (And.intro @vAV.eq_2 (And.intro @Xc.eq_1 (And.intro @Xc.eq_3 (And.intro @KD.Q.eq_1 (And.intro @KD.Q.eq_2 (And.intro @dvP.eq_1 (@dvP.eq_2)))))))))))))))))))))))))))))))))))))))))))))))))))))))))))))))))))))))))))))))))))))
def vk15:=And.intro @rowAt.eq_1 (And.intro @Qau.eq_1 (And.intro @Qau.eq_2 (And.intro @AObj.ids.eq_5 (And.intro @AObj.ren.eq_5 (And.intro @AObj.flat.eq_5 (And.intro @AObj.le.eq_6 (And.intro @AObj.le.eq_7 (And.intro @Zb.eq_1 (And.intro @Zb.eq_2 (And.intro @yO.eq_1 (And.intro @yO.eq_2 (And.intro @yO.eq_3 (And.intro @Qcf.eq_1 (And.intro @Qcf.eq_2 (And.intro @notW.eq_1 (And.intro @notW.eq_2 (And.intro @appW.eq_1 (And.intro @appW.eq_2 (@bsW.eq_1)))))))))))))))))))
def vks:=And.intro (And.intro vk15 Vw) (And.intro vk0 (And.intro vk1 (And.intro vk2 (And.intro vk3 (And.intro vk4 (And.intro vk5 (And.intro vk6 (And.intro vk7 (And.intro vk8 (And.intro vk9 (And.intro vk10 (And.intro vk11 (And.intro vk12 (vk13))))))))))))))
end Go.Sym
namespace Go.Sym
open Go
def Xf (acc:List Nat):List Nat→Nat
  |[]=>0
  |d :: ds=>2 ^ d ||| acc.getD d 0 ||| Xf acc ds
def U1:List Oper→List Nat→List Nat
  |[],acc=>acc
  |o :: r,acc=>U1 r (acc++[Xf acc (deps o)])
def Qfh (acc:List (List Nat)) (b:List Nat):Prop:=acc.length=b.length∧∀ j i,(acc.getD j []).contains i=(b.getD j 0).testBit i
theorem Xu {acc:List (List Nat)} {b:List Nat} (h:Qfh acc b) (i:Nat):∀ ds:List Nat,(ds.flatMap fun d=>d :: acc.getD d []).contains i=(Xf b ds).testBit i
  |[]=>by simp [Xf]
  |d :: ds=>by
    rw [List.flatMap_cons,Xf,Nat.testBit_or,Nat.testBit_or,← Xu h i ds,← h.2 d i,Nat.testBit_two_pow]
    rw [Bool.eq_iff_iff]
    simp only [List.contains_iff_mem,Bool.or_eq_true,decide_eq_true_eq,List.mem_append,List.mem_cons]
    constructor
    · rintro ((rfl|h)|h)
      · exact .inl (.inl rfl)
      · exact .inl (.inr h)
      · exact .inr h
    · rintro ((rfl|h)|h)
      · exact .inl (.inl rfl)
      · exact .inl (.inr h)
      · exact .inr h
theorem XR:∀ (l:List Oper) {acc:List (List Nat)} {b:List Nat},Qfh acc b→Qfh (WN l acc) (U1 l b)
  |[],_,_,h=>h
  |o :: r,acc,b,h=>by
    rw [WN,U1]
    refine XR r ⟨by simp [h.1],fun j i=>?_⟩
    rcases Nat.lt_trichotomy j acc.length with hj|hj|hj
    · have:=h.2 j i
      have hb:j < b.length:=by rw [← h.1];exact hj
      simp only [List.getD_eq_getElem?_getD,List.getElem?_append_left hj,List.getElem?_append_left hb] at this ⊢
      exact this
    · have hb:j=b.length:=by rw [← h.1];exact hj
      have:=Xu h i (deps o)
      simp only [List.getD_eq_getElem?_getD] at this ⊢
      rw [List.getElem?_append_right (by omega),List.getElem?_append_right (by omega),show j - acc.length=0 by omega,show j - b.length=0 by omega]
      exact this
    · rw [show (acc ++ [(deps o).flatMap fun d => d :: acc.getD d []]).getD j [] = [] by
          rw [List.getD_eq_getElem?_getD,List.getElem?_eq_none (by simp;omega)];rfl,
        show (b++[Xf b (deps o)]).getD j 0=0 by
          have:=h.1
          rw [List.getD_eq_getElem?_getD,List.getElem?_eq_none (by simp;omega)];rfl]
      simp
def Qex (ops:Array Oper) (es:List Eff):Bool :=
  let an:=U1 ops.toList []
  (List.range ops.size).all fun j =>
    match ops[j]? with
    |none=>true
    |some oj=>(deps oj).all (· < j) && (List.range j).all fun i =>
        (an.getD j 0).testBit i ||
        match ops[i]? with
        |none=>true
        |some oi=>oi.apart ops oj && XX (es.getD i { av:=.junk }) (es.getD j { av:=.junk })
theorem Vb {ops:Array Oper} {es:List Eff} (h:Qex ops es=true):kI ops es=true:=by
  have hs:=(XR ops.toList (acc:=[]) (b:=[]) ⟨rfl,fun j i=>by simp⟩).2
  unfold Qex at h
  unfold kI
  simp only [hs]
  exact h
structure DrwS where
  ids:List Nat
  hr:List Nat
  keys:List Nat
  news:List Nat
  dj:Nat
  dd:Bool
def Eff.sm (e:Eff):DrwS:=⟨e.ids,e.hr,e.keys,e.news,e.dj,e.dd.isEmpty⟩
def Qhr (e f:DrwS):Bool :=
  e.keys.all (fun k=>!f.hr.contains k && !f.keys.contains k) && f.keys.all (fun k=>!e.hr.contains k) && e.news.all (fun k=>!f.ids.contains k) && f.news.all (fun k=>!e.ids.contains k) &&
  (e.dj == 0 || f.dj == 0) && e.dd && f.dd
def QgS (ops:Array Oper) (es:List DrwS):Bool :=
  let an:=U1 ops.toList []
  (List.range ops.size).all fun j =>
    match ops[j]? with
    |none=>true
    |some oj=>(deps oj).all (· < j) && (List.range j).all fun i =>
        (an.getD j 0).testBit i ||
        match ops[i]? with
        |none=>true
        |some oi=>oi.apart ops oj && Qhr (es.getD i ⟨[],[],[],[],0,true⟩) (es.getD j ⟨[],[],[],[],0,true⟩)
theorem QfZ (es:List Eff) (i:Nat):(es.map Eff.sm).getD i ⟨[],[],[],[],0,true⟩=(es.getD i { av:=.junk }).sm:=by
  simp only [List.getD_eq_getElem?_getD,List.getElem?_map]
  cases es[i]? <;> rfl
theorem yQ {ops:Array Oper} {es:List Eff} {ss:List DrwS} (hs:es.map Eff.sm=ss) (h:QgS ops ss.reverse=true):kI ops es.reverse=true:=by
  refine Vb ?_
  subst hs
  rw [← List.map_reverse] at h
  unfold QgS at h
  unfold Qex
  simp only [QfZ] at h
  exact h
end Go.Sym
namespace Go.Sym
open Go
variable {A : Frm → Prop} {P : Program}
def Qdu (Q:Bool→Prop):Option Bool→Prop
  |some b=>Q b
  |none=>False
theorem Qd9 {c:Operand} {x y:Code} {S:St} {K:Exit→St→Prop} (h:∀ Q:Bool→Prop,(∀ b,(b=true→Sym A P x S K)→(b=false→Sym A P y S K)→Q b)→Qdu Q (WU (ev S c))):Sym A P (.cond c x y) S K:=by
  have h1:=h (fun b=>WU (ev S c)=some b→Sym A P (.cond c x y) S K) fun b h1 h2 hb=>wh hb h1 h2
  cases ho:WU (ev S c) with
  |none=>rw [ho] at h1;exact h1.elim
  |some b=>rw [ho] at h1;exact h1 rfl
def vkt:=And.intro vks (And.intro @Qdu.eq_1 @Qdu.eq_2)
def vki:=And.intro @decide_eq_true_eq (And.intro @decide_eq_false_iff_not (And.intro @Bool.not_eq_true' (And.intro @Bool.not_eq_false' (And.intro @Bool.and_eq_true (And.intro @Bool.or_eq_false_iff (And.intro @Bool.and_eq_false_iff (And.intro @Bool.or_eq_true (And.intro @not_true_eq_false @not_false_eq_true))))))))
theorem zq0 {x y:Code} {S:St} {K:Exit→St→Prop} (h:Sym A P x S (QH (fun S'=>Sym A P y S' K) K)):Sym A P (.seq x y) S K:=QfV h
theorem zq1 {id:Nat} {c:Code} {S:St} {K:Exit→St→Prop} (h:Sym A P c S (xc id K)):Sym A P (.block id c) S K:=QcY h
theorem zq2 {S:St} {K:Exit→St→Prop} (h:K .normal S):Sym A P .skip S K:=Qfa h
theorem zq3 {l:Nat} {S:St} {K:Exit→St→Prop} (h:K .normal S):Sym A P (.label l) S K:=Qc1 h
theorem zq4 {id:Nat} {S:St} {K:Exit→St→Prop} (h:K (.exit id) S):Sym A P (.exit id) S K:=QeH h
theorem zq5 {S:St} {K:Exit→St→Prop} (h:K .ret S):Sym A P .ret S K:=QgJ h
def vle:=And.intro @leT.eq_1 (And.intro @leT.eq_2 (And.intro @leH.eq_1 (And.intro @leH.eq_2 (And.intro @leO.eq_1 (And.intro @leO.eq_2 (And.intro @ADf.leL.eq_1 (And.intro @ADf.leL.eq_2 (And.intro @ADf.leL.eq_3 (And.intro @Jl.eq_1 (And.intro @UV.eq_1 (And.intro @UV.eq_2 (And.intro @YV.eq_1 (And.intro @YV.eq_2 (And.intro (@List.filterMap_cons (Nat × AObj) Nat) (And.intro (@List.filterMap_nil (Nat × AObj) Nat) (And.intro (@List.flatMap_nil ADf Nat) (And.intro @Nat.lt_irrefl (@Nat.not_lt_zero))))))))))))))))))
def vrt:=And.intro @U7.eq_1 (And.intro @U7.eq_2 (And.intro @U7.eq_3 (And.intro @QS.eq_1 (And.intro @QS.eq_2 (And.intro @QS.eq_3 (And.intro @VN.eq_1 (And.intro @VN.eq_2 (And.intro @VN.eq_3 (And.intro @KJ.eq_1 (And.intro @KJ.eq_2 (And.intro @KJ.eq_3 (And.intro @rd.eq_1 (And.intro @rd.eq_2 (And.intro @rd.eq_3 (And.intro @rd.eq_4 (And.intro @UN (@Qcu)))))))))))))))))
end Go.Sym
namespace Go.Sym
open Go
inductive Nx:Prop→Prop
  |s0 {A:Frm→Prop} {P:Program} {x y:Code} {S:St} {K:Exit→St→Prop} (h:Sym A P x S (QH (fun S'=>Sym A P y S' K) K)):Nx (Sym A P (.seq x y) S K)
  |s1 {A:Frm→Prop} {P:Program} {id:Nat} {c:Code} {S:St} {K:Exit→St→Prop} (h:Sym A P c S (xc id K)):Nx (Sym A P (.block id c) S K)
  |s2 {A:Frm→Prop} {P:Program} {S:St} {K:Exit→St→Prop} (h:K .normal S):Nx (Sym A P .skip S K)
  |s3 {A:Frm→Prop} {P:Program} {l:Nat} {S:St} {K:Exit→St→Prop} (h:K .normal S):Nx (Sym A P (.label l) S K)
  |s4 {A:Frm→Prop} {P:Program} {id:Nat} {S:St} {K:Exit→St→Prop} (h:K (.exit id) S):Nx (Sym A P (.exit id) S K)
  |s5 {A:Frm→Prop} {P:Program} {S:St} {K:Exit→St→Prop} (h:K .ret S):Nx (Sym A P .ret S K)
  |tn {N:St→Prop} {K:Exit→St→Prop} {S:St} (h:N S):Nx (QH N K .normal S)
  |tx {N:St→Prop} {K:Exit→St→Prop} {S:St} {id:Nat} (h:K (.exit id) S):Nx (QH N K (.exit id) S)
  |tr {N:St→Prop} {K:Exit→St→Prop} {S:St} (h:K .ret S):Nx (QH N K .ret S)
  |bn {K:Exit→St→Prop} {S:St} {id:Nat} (h:K .normal S):Nx (xc id K .normal S)
  |br {K:Exit→St→Prop} {S:St} {id:Nat} (h:K .ret S):Nx (xc id K .ret S)
  |bh {K:Exit→St→Prop} {S:St} {id:Nat} (h:K .normal S):Nx (xc id K (.exit id) S)
theorem nx {p:Prop} (h:Nx p):p:=by
  cases h with
  |s0 h=>exact zq0 h
  |s1 h=>exact zq1 h
  |s2 h=>exact zq2 h
  |s3 h=>exact zq3 h
  |s4 h=>exact zq4 h
  |s5 h=>exact zq5 h
  |tn h=>exact K8 h
  |tx h=>exact Ku h
  |tr h=>exact X0 h
  |bn h=>exact Y9 h
  |br h=>exact YP h
  |bh h=>exact WR h
end Go.Sym
namespace Go.Sym
open Go Go.RowKit
variable {P : Program}
def own0:Own:=⟨fun _=>False,fun _=>False,fun _ h=>h⟩
def rho0:Nat→Value:=fun _=>undef
def okW (w:World):Nat→Prop:=okB w own0 rho0 noH
def ownG (n:Nat):Own:=⟨fun b=>b < n,fun _=>False,fun _ h=>h.elim⟩
theorem law_callsT {T:World→Prop} {f:FuncId} {az:List AV} (hf:Fn (VX T) P f az noH (.v (.bool true)) noH 0) (w:World) (hT:∀ w':World,Below w.heap.size w w'→T w') (vs:Array Value) (hs:vs.size=az.length)
    (ha:∀ i c,az[i]?=some c→ARel w (okW w) rho0 undef c (vs.getD i undef)):Calls P f vs w fun e w'=>e=.returned (.bool true)∧Below w.heap.size w w':=by
  refine vg (hf.calls undef (fun _ own w'=>(∀ b,own.all b ↔ b < w.heap.size)∧Below w.heap.size w w') (fun j own w1 h=>⟨fun b hb=>Nat.lt_of_lt_of_le ((h.1 b).1 hb) h.2.size,fun w2 hx=>⟨h.1,hx.os.trans h.2.os,hx.tape.trans h.2.tape,hx.output.trans h.2.output,Nat.le_trans h.2.size hx.size,fun b hb=>(hx.block b (Nat.lt_of_lt_of_le hb h.2.size) fun hn=>hn ((h.1 b).2 hb)).trans (h.2.block b hb)⟩⟩) (ownG w.heap.size) w rho0 vs (fun j own w1 h=>hT w1 h.2) ⟨⟨fun b=>Iff.rfl,Below.refl _ _⟩,fun i o h=>(by cases h),fun i k o o' b h=>(by cases h),fun i o b h=>(by cases h)⟩ hs ha) ?_
  rintro e w' ⟨v',own',ρ',rfl,_,hr,hx,_,_,_,_⟩
  refine ⟨?_,hx.os,hx.tape,hx.output,hx.size,fun k hk=>hx.block k hk ?_⟩
  · cases hr with
    |v _=>rfl
  · rintro (h|⟨i,o,h,_⟩)
    · exact h
    · cases h
end Go.Sym
namespace Go.Sym
open Go
variable {P : Program}
end Go.Sym
namespace Go.Sym
open Go
variable {A : Frm → Prop} {P : Program}
section
variable {b : Frame} {a : Act} {k : List Item} {cs : List Frame} {w : World} {F : Fence} {n : Nat} {Q : Exit → Act → World → Prop}
theorem yE {c:Code}:step P (lone (b.atR a (.code (.scope c) :: k)) cs w)=.next (lone (b.atR a (.code c :: .inScope c :: k)) cs w) :=
  step_lone_go (by simp [stepG,stepG.exec,Frame.atR])
theorem VU {c:Code}:step P (lone (b.atR a (.inScope c :: k)) cs w)=.next (lone (b.atR a k) cs w) :=
  step_lone_go (by simp [stepG,stepG.exec,Frame.atR])
theorem QaX {c:Code} (h:c.wpIn F n P (Exit.noGoto Q) a w):(Code.scope c).wpIn F n P Q a w:=by
  intro b k cs hro hb hr
  have h0:(lone (b.atR a (.code (.scope c) :: k)) cs w).fenced P F:=fenced_calm hb hr rfl
  obtain ⟨e,a₁,w₁,hq,harr⟩:=h b (.inScope c :: k) cs hro hb hr
  cases e with
  |normal=>exact ⟨.normal,a₁,w₁,hq,.head h0 yE (StepsIn.trans harr (.one (fenced_calm hb hr rfl) VU))⟩
  |exit id =>
    have hx:exitTo id (.inScope c :: k)=exitTo id k:=by simp [exitTo]
    exact ⟨_,a₁,w₁,hq,fun k' hk=>.head h0 yE (harr.1 k' (by rw [hx];exact hk)),
      fun hr' hk=>let ⟨k₁,h1,h2⟩:=harr.2 hr' (by rw [hx];exact hk);⟨k₁,h1,.head h0 yE h2⟩⟩
  |goto l=>exact hq.elim
  |ret=>exact ⟨_,a₁,w₁,hq,.of_steps (.one h0 yE) harr⟩
  |panic ch=>exact ⟨_,a₁,w₁,hq,.of_steps (.one h0 yE) harr⟩
  |outgrown=>exact ⟨_,a₁,w₁,hq,.of_steps (.one h0 yE) harr⟩
end
def KA (K:Exit→St→Prop):Exit→St→Prop
  |.goto _,_=>False
  |.normal,S=>K .normal S
  |.exit id,S=>K (.exit id) S
  |.ret,S=>K .ret S
  |.panic c,S=>K (.panic c) S
  |.outgrown,S=>K .outgrown S
theorem zY {c:Code} {S:St} {K:Exit→St→Prop} (h:Sym A P c S (KA K)):Sym A P (.scope c) S K:=fun F hF hd a w hg=>by
  refine QaX (wpIn_mono (h F hF hd a w hg) ?_)
  rintro e a' w' ⟨S',hk,hg'⟩
  cases e with
  |goto l=>exact hk.elim
  |_=>exact ⟨S',hk,hg'⟩
theorem wI {K:Exit→St→Prop} {S:St} (h:K .normal S):KA K .normal S:=h
theorem wH {K:Exit→St→Prop} {S:St} {id:Nat} (h:K (.exit id) S):KA K (.exit id) S:=h
theorem wF {K:Exit→St→Prop} {S:St} (h:K .ret S):KA K .ret S:=h
end Go.Sym
namespace Go.Sym
open Go
variable {A : Frm → Prop} {P : Program}
theorem Jc_in {J:JJ} {s j k:Nat} {Pr Pr':Nat→Prop} {w0 w1 w2:World} {own:Own} (hh:∀ b,Pr b→w1.heap[b]?=w0.heap[b]?) (h:Jc (Jc J s Pr w0) j Pr' w1 k own w2) :
    Jc J (s+j) (fun b=>Pr' b∨Pr b) w1 k own w2:=by
  obtain ⟨o1,⟨o2,hj,a1,a2,a3⟩,b1,b2,b3⟩:=h
  refine ⟨o2,by rw [Nat.add_assoc];exact hj,fun b=>?_,fun b=>?_, ?_⟩
  · rw [b1,a1];constructor
    · rintro ((h|h)|h)
      · exact .inl h
      · exact .inr (.inr h)
      · exact .inr (.inl h)
    · rintro (h|h|h)
      · exact .inl (.inl h)
      · exact .inr h
      · exact .inl (.inr h)
  · rw [b2,a2];constructor
    · rintro ((h|h)|h)
      · exact .inl h
      · exact .inr (.inr h)
      · exact .inr (.inl h)
    · rintro (h|h|h)
      · exact .inl (.inl h)
      · exact .inr h
      · exact .inl (.inr h)
  · rintro b (h|h)
    · obtain ⟨c1,c2,c3⟩:=b3 b h
      exact ⟨fun hn=>c1 ((a1 b).2 (.inl hn)),c2,c3⟩
    · obtain ⟨c1,c2,c3⟩:=a3 b h
      exact ⟨c1,c2,c3.trans (hh b h).symm⟩
theorem Qhx {J:JJ} {s j k:Nat} {Pr Pr':Nat→Prop} {w0 w1 w2:World} {own:Own} (hh:∀ b,Pr b→w1.heap[b]?=w0.heap[b]?) (hd:∀ b,Pr' b→¬ Pr b) (h:Jc J (s+j) (fun b=>Pr' b∨Pr b) w1 k own w2) :
    Jc (Jc J s Pr w0) j Pr' w1 k own w2:=by
  obtain ⟨o2,hj,b1,b2,b3⟩:=h
  refine ⟨Qu o2 Pr,⟨o2,by rw [← Nat.add_assoc];exact hj,fun b=>Iff.rfl,fun b=>Iff.rfl,fun b hb=>?_⟩,fun b=>?_,fun b=>?_,fun b hb=>?_⟩
  · obtain ⟨c1,c2,c3⟩:=b3 b (.inr hb)
    exact ⟨c1,c2,c3.trans (hh b hb)⟩
  · rw [b1];show _ ↔ (o2.all b∨Pr b)∨Pr' b;constructor
    · rintro (h|h|h)
      · exact .inl (.inl h)
      · exact .inr h
      · exact .inl (.inr h)
    · rintro ((h|h)|h)
      · exact .inl h
      · exact .inr (.inr h)
      · exact .inr (.inl h)
  · rw [b2];show _ ↔ (o2.prv b∨Pr b)∨Pr' b;constructor
    · rintro (h|h|h)
      · exact .inl (.inl h)
      · exact .inr h
      · exact .inl (.inr h)
    · rintro ((h|h)|h)
      · exact .inl h
      · exact .inr (.inr h)
      · exact .inr (.inl h)
  · obtain ⟨c1,c2,c3⟩:=b3 b (.inl hb)
    exact ⟨fun hn=>hn.elim c1 (hd b hb),c2,c3⟩
theorem Bcb.pass {F:Frm} {S:St} {a:Act} {w:World} {ρ:Nat→Value} {own:Own} (H:Holds F S a w ρ own) {hp h0 h0':Nat→Option AObj} {ys:Nat→List AV} {hl:Nat→Nat→Option AObj} {ans:Nat→Bool} {R R':Nat}
    (hA:Acb P hp h0 ys hl ans R F) {hs bo:List Nat} (hpin:∀ i o,hp i=some o→hs[i]?=some i)
    (hob:∀ i o,h0' i=some o→∃ c ob,hs[i]?=some c∧S.h c=some ob) (hR:S.j+R'≤R) :
    Bcc P hp h0' (fun j=>ys (S.j+j)) (fun j=>hl (S.j+j)) (fun j=>ans (S.j+j)) R' (Q3 F S hs bo ρ own w):=by
  obtain ⟨hH0,hsub,hB⟩:=hA
  have hown0:∀ b,F.owns0 b ↔ ∃ i o,h0 i=some o∧blk (F.ρ0 i)=some b:=fun b=>by simp only [Frm.owns0,hH0]
  have hPr:∀ b,xM S hs bo ρ b→F.w0.heap.size≤b∨∃ i o,h0 i=some o∧blk (F.ρ0 i)=some b:=by
    rintro b ⟨i,ob,hi,_,_,hb⟩
    exact ((H.blkOK i ob b hi hb).2).imp id fun h=>(hown0 b).1 h
  have h0p:∀ i o b,h0' i=some o→blk (zg hs ρ i)=some b→F.w0.heap.size≤b∨∃ i o,h0 i=some o∧blk (F.ρ0 i)=some b:=by
    intro i o b hi hb
    obtain ⟨c,ob,e1,e2⟩:=hob i o hi
    simp only [zg,e1] at hb
    exact ((H.blkOK c ob b e2 hb).2).imp id fun h=>(hown0 b).1 h
  intro j hj Pr' own1 w1 ρ1 vs hHp hpins hext hnew hprv hsz hrel
  simp only [Q3] at hHp hpins hext hnew hprv hrel ⊢
  have hjay:=hHp.1
  have hh:∀ b,xM S hs bo ρ b→w1.heap[b]?=w.heap[b]?:=fun b hb=>by
    obtain ⟨_,⟨_,_,_,_,a3⟩,_⟩:=hjay
    exact (a3 b hb).2.2
  have hd:∀ b,Pr' b→¬ xM S hs bo ρ b:=fun b hb hn=>by
    obtain ⟨o1,⟨o2,_,a1,_,_⟩,_,_,b3⟩:=hjay
    exact (b3 b hb).1 ((a1 b).2 (.inr hn))
  have hans:=hB (S.j+j) (by omega) (fun b=>Pr' b∨xM S hs bo ρ b) own1 w1 ρ1 vs ⟨Jc_in hh hHp.1,hHp.2,hHp.3,hHp.4⟩
    (fun i o hi=>by
      obtain ⟨o',ho'⟩:=hsub i o hi
      rw [hpins i o hi]
      simp only [zg,hpin i o hi]
      exact H.pins i o' (by rw [hH0];exact ho'))
    ((H.ext.weaken fun b _ h=>h.imp id fun h=>(hown0 b).1 h).trans hext fun b hlt hb=>by
      rcases hb with (hb|hb)|⟨i,o,hi,hb⟩
      · rcases H.ownsub b hb with h|h
        · exact .inl h
        · omega
      · rcases hPr b hb with h|h
        · omega
        · exact .inr h
      · rcases h0p i o b hi hb with h|h
        · omega
        · exact .inr h)
    (fun i o b hi hb=>by
      rcases hnew i o b hi hb with h|⟨k,o',hk,hb'⟩
      · exact .inl (Nat.le_trans H.ext.size h)
      · exact h0p k o' b hk hb')
    (fun b hb=>by
      rcases hprv b hb with (h|h)|h|⟨k,o',hk,hb'⟩
      · rcases H.ownsub b h with h|h
        · exact .inl h
        · exact .inr (.inl h)
      · exact .inr (hPr b h)
      · exact .inr (.inl (Nat.le_trans H.ext.size h))
      · exact .inr (h0p k o' b hk hb')) hsz hrel
  refine Jh.mono hans ?_
  rintro e w' ⟨he,own',hp',hx',hpv'⟩
  exact ⟨he,own',⟨Qhx hh hd hp'.1,hp'.2,hp'.3,hp'.4⟩,hx',hpv'⟩
end Go.Sym
namespace Go.Sym
open Go
variable {A : Frm → Prop} {P : Program}
structure PkI where
  q:Pk
  dj:Nat
def Q8:Nat→List Nat→List AObj→Prop
  |_,_,[]=>True
  |k,c :: cs,_ :: os=>c=k∧Q8 (k+1) cs os
  |_,[],_ :: _=>False
theorem UW:∀ {os:List AObj} {k:Nat} {cs:List Nat},Q8 k cs os→∀ i o,os[i]?=some o→cs[i]?=some (k+i)
  |[],_,_,_,i,o,h=>by simp at h
  |_ :: os,k,c :: cs,h,i,o,hi=>by
    obtain ⟨rfl,h⟩:=h
    cases i with
    |zero=>simp
    |succ i =>
      have:=UW h i o (by simpa using hi)
      rw [List.getElem?_cons_succ,this]
      congr 1
      omega
  |_ :: _,_,[],h,_,_,_=>h.elim
def fnI (Lp:List AObj) (R:Nat) (spec:St→List AV→Option PkI) (S:St) (bs:List AV):Ans:=match spec S bs with
  |none=>bad
  |some q=>(q.q.ok S bs∧q.q.fl=false∧Q8 0 q.q.hs Lp∧S.j+q.dj≤R,{ q.q.eff S with dj:=q.dj })
theorem Qc5 {f:FuncId} {Lp:List AObj} {ys:Nat→List AV} {hl:Nat→Nat→Option AObj} {ans:Nat→Bool} {R:Nat} {spec:St→List AV→Option PkI} {h0:Nat→Option AObj} (hA:∀ F,A F→Acb P (qc (wM 0 Lp)) h0 ys hl ans R F)
    (hf:∀ S bs q,spec S bs=some q→q.q.pre→Fn (Bcc P (qc (wM 0 Lp)) (qc (wM 0 q.q.L0)) (fun j=>ys (S.j+j)) (fun j=>hl (S.j+j)) (fun j=>ans (S.j+j)) q.dj) P f q.q.ar (qc (wM 0 q.q.L0)) q.q.v (qc (yX 0 q.q.L1)) q.dj)
    {S:St} {bs:List AV} (h:(fnI Lp R spec S bs).1) (hS:Wf S) {ops:Array Oper} {o:Oper} {g:Operand} {args:Array Operand} {tys:Array TypeId} {caps:List AV} (hw:Want ops o S)
    (ho:o.op=.call { callee:=.value g,args:=args,argTypes:=tys }) (hg:wO (ev S g)=some (some f,caps)) (hb:ZA (ev S g)++(args.toList.map (ev S)++caps)=bs):VE A P ops o (fnI Lp R spec S bs).2 S:=by
  unfold fnI at h ⊢
  cases hq:spec S bs with
  |none=>rw [hq] at h;exact h.elim
  |some qi =>
    obtain ⟨q,dj⟩:=qi
    rw [hq] at h
    simp only at h ⊢
    obtain ⟨⟨h1,h2,h3,h4,h5,h6,h7,h8,h9⟩,hfl,hpin,hR⟩:=h
    have heff:{ q.eff S with dj:=dj }=zl S q.hs q.bo q.bo q.v (qc (yX 0 q.L1)) (q.L1.length - q.hs.length) dj:=by
      rw [q.eff_eq S h6,hfl];rfl
    rw [heff]
    have hgc:=QR hg
    obtain ⟨g1,g2⟩:=JF h3
    have hlen:q.hs.length+(q.L1.length - q.hs.length)=q.L1.length:=by omega
    have get1:∀ i o,qc (yX 0 q.L1) i=some o→q.L1[i]?=some (some o):=fun i o hi=>by
      rw [QF,if_neg (by omega),Nat.sub_zero] at hi
      cases hh:q.L1[i]? with
      |none=>rw [hh] at hi;cases hi
      |some x=>rw [hh] at hi;simp only [Option.join_some] at hi;rw [hi]
    have get0:∀ i o,qc (wM 0 q.L0) i=some o→q.L0[i]?=some o:=fun i o hi=>by
      rwa [yF,if_neg (by omega),Nat.sub_zero] at hi
    have hfn:=hf S bs _ hq h1
    refine KE hS hw ho hgc hfn (fun _=>rfl) (fun F S2 a w ρ own hF hjj hS2 H=>?_) (hf:=q.hf S) (by rw [hb];exact h2) (fun i o0 hi=>g2 i o0 (get0 i o0 hi)) (fun j hj=>?_) h4 (fun i ob hi=>?_) (Zy h5) (.inl rfl) (by rw [hlen];exact h7) (fun i ob hi=>?_)
    · by_cases hd0:dj=0
      · subst hd0
        intro j hj
        exact absurd hj (Nat.not_lt_zero _)
      · have hjs:=hjj hd0
        have hB:=Bcb.pass (S:=S2) (hs:=q.hs) (bo:=q.bo) (h0':=qc (wM 0 q.L0)) (R':=dj) H (hA F hF) (fun i o hi=>?_) (fun i o hi=>?_) (by rw [hjs];exact hR)
        · rw [hjs] at hB;exact hB
        · have hi':Lp[i]?=some o:=by rwa [yF,if_neg (by omega),Nat.sub_zero] at hi
          have hc:=UW hpin i o hi'
          rw [Nat.zero_add] at hc
          exact hc
        · obtain ⟨c,ob,e1,e2,_⟩:=g2 i o (get0 i o hi)
          exact ⟨c,ob,e1,(hS2 c (.inl (List.mem_of_getElem? e1))).trans e2⟩
    · rw [yF,if_neg (by omega),Nat.sub_zero]
      exact ⟨_,List.getElem?_eq_getElem (l:=q.L0) (by omega)⟩
    · unfold Pk.hf at hi
      by_cases hm:i ∈ q.bo
      · rw [if_pos hm] at hi;exact ⟨hi,(Zy h5 i hm).2,hm⟩
      · rw [if_neg hm] at hi;cases hi
    · rw [hlen]
      have:=get1 i ob hi
      exact ⟨(List.getElem?_eq_some_iff.1 this).1,JA h8 i ob this⟩
theorem QhU {f:FuncId} {Lp:List AObj} {ys:Nat→List AV} {hl:Nat→Nat→Option AObj} {ans:Nat→Bool} {R:Nat} {spec:St→List AV→Option PkI} {h0:Nat→Option AObj} (hA:∀ F,A F→Acb P (qc (wM 0 Lp)) h0 ys hl ans R F)
    (hf:∀ S bs q,spec S bs=some q→q.q.pre→Fn (Bcc P (qc (wM 0 Lp)) (qc (wM 0 q.q.L0)) (fun j=>ys (S.j+j)) (fun j=>hl (S.j+j)) (fun j=>ans (S.j+j)) q.dj) P f q.q.ar (qc (wM 0 q.q.L0)) q.q.v (qc (yX 0 q.q.L1)) q.dj):qh A P f (fnI Lp R spec) :=
  fun _ _ h hS _ _ _ _ _ _ hw ho hg hb=>Qc5 hA hf h hS hw ho hg hb
def cbX (hs:List Nat) (ys:Nat→List AV) (hl:Nat→List AObj) (ans:Nat→Bool) (R:Nat) (S:St) (bs:List AV):Ans :=
  (S.j < R∧AV.leL (fun _=>none) (fun j=>hs[j]?) bs (ys S.j)∧jT S hs hs (hl S.j)∧(∀ o ∈ hl S.j,∀ id ∈ o.ids,id < hs.length),
    { av:=.v (.bool (ans S.j)),hw:=hwL (qj hs S.n) 0 ((hl S.j).map some),hr:=hs,n:=S.n,dj:=1 })
theorem QcS {hp hp0:Nat→Option AObj} {ys:Nat→List AV} {hl:Nat→List AObj} {ans:Nat→Bool} {R:Nat} {hs:List Nat} (hA:∀ F,A F→Acb P hp hp0 ys (fun j=>nth (hl j)) ans R F) (hpin:∀ i o,hp i=some o→hs[i]?=some i) (hnd:hs.Nodup)
    {S:St} {bs:List AV} (h:(cbX hs ys hl ans R S bs).1) (hS:Wf S) {ops:Array Oper} {o:Oper} {g:Operand} {args:Array Operand} {tys:Array TypeId} {caps:List AV} (hw:Want ops o S)
    (ho:o.op=.call { callee:=.value g,args:=args,argTypes:=tys }) (hg:wO (ev S g)=some (none,caps)) (hb:args.toList.map (ev S)++caps=bs):VE A P ops o (cbX hs ys hl ans R S bs).2 S:=by
  have hv:=QcV (hs:=hs) (hl:=hl) hA hpin hnd (S:=S) (bs:=bs) h hS hw ho hg hb
  have hlen:=(WP h.2.2.1).1
  have e:(cbE hs ys hl ans R S bs).2=(cbX hs ys hl ans R S bs).2:=by
    simp only [cbE,cbX,zl,Qak,List.length_map,Nat.add_zero,Nat.zero_add,hlen,List.range_zero,List.map_nil,List.append_nil,AV.ren,nth,zA]
    congr 1
    refine List.map_congr_left fun j hj=>?_
    rw [List.getElem?_map]
    cases (hl S.j)[j]? <;> rfl
  rw [← e];exact hv
end Go.Sym
namespace Go.Sym
open Go
variable {A : Frm → Prop} {P : Program}
def kN (hs:List Nat) (n:Nat):Nat→List AObj→List (Nat × AObj)
  |_,[]=>[]
  |k,o :: os=>(qj hs n k,o.ren (qj hs n)) :: kN hs n (k+1) os
theorem UJ (hs:List Nat) (n:Nat):∀ (L:List AObj) (k:Nat) (f:Nat→Option AObj),(∀ i,f (k+i)=L[i]?)→(List.range L.length).filterMap (fun i=>(f (k+i)).map fun o=>(qj hs n (k+i),o.ren (qj hs n)))=kN hs n k L
  |[],k,f,_=>rfl
  |o :: os,k,f,h=>by
    rw [List.length_cons,List.range_succ_eq_map,List.filterMap_cons]
    have h0:=h 0
    simp only [Nat.add_zero,List.getElem?_cons_zero] at h0
    simp only [Nat.add_zero,h0,Option.map_some,kN]
    congr 1
    rw [List.filterMap_map]
    have:=UJ hs n os (k+1) f fun i=>by
      have:=h (i+1)
      rw [List.getElem?_cons_succ] at this
      rw [← this];congr 1;omega
    rw [← this]
    congr 1
    funext i
    simp only [Function.comp_apply,Nat.succ_eq_add_one]
    rw [show k+(i+1)=k+1+i by omega]
theorem Ja {hs:List Nat} {n nl:Nat} {L:List AObj} (h:L.length=hs.length+nl):zZ hs n nl (nth L)=kN hs n 0 L:=by
  rw [← UJ hs n L 0 (nth L) (fun i=>by simp [nth])]
  simp only [zZ,← h,Nat.zero_add]
theorem Y6 {hs:List Nat} {n:Nat}:∀ {L:List AObj} {k m:Nat},m < L.length→∃ o,(qj hs n (k+m),o) ∈ kN hs n k L
  |o :: os,k,0,_=>⟨_,List.mem_cons_self⟩
  |o :: os,k,m+1,h=>by
    obtain ⟨o',ho⟩:=Y6 (hs:=hs) (n:=n) (L:=os) (k:=k+1) (m:=m) (by simpa using h)
    rw [show k+1+m=k+(m+1) by omega] at ho
    exact ⟨o',List.mem_cons_of_mem _ ho⟩
def UU (hs:List Nat) (n:Nat):List AObj→Prop
  |[]=>True
  |o :: os=>(o.nocb∧(∀ id ∈ o.ids,id < hs.length)∧AObj.le (fun _=>none) (fun j=>hs[j]?) (o.ren (qj hs n)) o)∧UU hs n os
theorem Xd {hs:List Nat} {n:Nat}:∀ {L:List AObj},UU hs n L→∀ (q:Nat) (o:AObj),L[q]?=some o→o.nocb∧(∀ id ∈ o.ids,id < hs.length)∧AObj.le (fun _=>none) (fun j=>hs[j]?) (o.ren (qj hs n)) o
  |o :: os,h,0,o',ho=>by simp only [List.getElem?_cons_zero,Option.some.injEq] at ho;subst ho;exact h.1
  |o :: os,h,q+1,o',ho=>Xd h.2 q o' (by simpa using ho)
def Ud (N:Nat):List AObj→Prop
  |[]=>True
  |o :: os=>(o.nocb∧∀ id ∈ o.ids,id < N)∧Ud N os
theorem Yh {N:Nat}:∀ {L:List AObj},Ud N L→∀ (q:Nat) (o:AObj),L[q]?=some o→o.nocb∧∀ id ∈ o.ids,id < N
  |o :: os,h,0,o',ho=>by simp only [List.getElem?_cons_zero,Option.some.injEq] at ho;subst ho;exact h.1
  |o :: os,h,q+1,o',ho=>Yh h.2 q o' (by simpa using ho)
def Qdh (N:Nat):List AV→Prop
  |[]=>True
  |c :: cs=>(c.nocb∧∀ id ∈ c.ids,id < N)∧Qdh N cs
theorem Ue {N:Nat}:∀ {L:List AV},Qdh N L→∀ c ∈ L,c.nocb∧∀ id ∈ c.ids,id < N
  |a :: cs,h,c,hc=>by
    rcases List.mem_cons.1 hc with rfl|hc
    · exact h.1
    · exact Ue h.2 c hc
def UA (n:Nat) (H:List (Nat × AObj)) (id:Nat):Prop:=id < n∧id ∈ H.map (·.1)
def Vr (n:Nat) (H:List (Nat × AObj)):List Nat→Prop
  |[]=>True
  |i :: r=>UA n H i∧Vr n H r
theorem VK {n:Nat} {H:List (Nat × AObj)}:∀ {l:List Nat},Vr n H l→∀ i ∈ l,UA n H i
  |j :: r,h,i,hi=>by
    rcases List.mem_cons.1 hi with rfl|hi
    · exact h.1
    · exact VK h.2 i hi
def XM:List (Nat × AV)→List Nat
  |[]=>[]
  |p :: r=>p.2.ids++XM r
theorem JY {id:Nat}:∀ {L:List (Nat × AV)} {p:Nat × AV},p ∈ L→id ∈ p.2.ids→id ∈ XM L
  |q :: r,p,hp,hid=>by
    rcases List.mem_cons.1 hp with rfl|hp
    · exact List.mem_append_left _ hid
    · exact List.mem_append_right _ (JY hp hid)
theorem Qcp {H:List (Nat × AObj)} {i:Nat} (h:i ∈ H.map (·.1)):∃ o,qc H i=some o:=by
  obtain ⟨p,hp,rfl⟩:=List.mem_map.1 h
  exact K5 (o:=p.2) hp
structure RangeJ (L:List (Nat × AV)) (ps hs:List Nat) (n m nl:Nat) (d:List ADf) (H:List (Nat × AObj)) (Lt:List AObj) (y:List AV):Prop where
  own:YV (n+1) ((n,.mark) :: H)
  len:Lt.length=hs.length+nl
  lent:Ud (hs.length+nl) Lt
  args:Qdh (hs.length+nl) y
  plen:ps.length=y.length
  keys:Vr (n+1) ((n,.mark) :: H++kN hs (n+1) 0 Lt) (List.range m++(hs++(XM L++(ADf.mark n :: d).flatMap ADf.ids)))
def wD (L:List (Nat × AV)) (ps hs:List Nat) (n nl:Nat) (y:List AV) (H:List (Nat × AObj)) (Lt:List AObj):St :=
  { t:=Yt (asg L) (ps.zip (y.map (AV.ren (qj hs (n+1))))),h:=qc ((n,.mark) :: H++kN hs (n+1) 0 Lt),n:=n+1+nl,m:=n+1+nl }
theorem Vi (hAr:∀ F,A F→F.r=none) {A':Frm→Prop} (hA':∀ F',(∃ l,F'.r=some l)→A' F') {tg:Tmp} {ps:Array Tmp} {assign body:Code} {L:List (Nat × AV)} {hs:List Nat} {n m nl:Nat} {hc:Nat→List (Nat × AObj)} {Lp:List AObj} {jj:Nat→Nat} {d:List ADf} {K:Exit→St→Prop}
    {f:FuncId} {caps caps0:List AV} {ys:Nat→List AV} {N R:Nat} {hl:Nat→List AObj} {vv:Nat→(Nat→Bool)→AV} {ans:Nat→Bool} {ex:Exit}
    (hg:asg L tg=.clo f caps) (hit:Iter P f (.cb :: caps0) (nth Lp) ys N (fun j=>nth (hl j)) vv) (hRo:Rounds ans R N) (hex:ex=.ret∨(∃ id,ex=.exit id)∨∃ g,ex=.goto g)
    (hcaps:AV.leL (fun _=>none) (fun j=>hs[j]?) caps caps0) (hcn:AV.nocbL caps0) (hobj:UU hs (n+1) Lp) (hlen:Lp.length=hs.length) (hnd:hs.Nodup) (hsn:∀ c ∈ hs,qc (hc 0) c=none) (hsl:∀ c ∈ hs,c < n+1)
    (hidt:UV (n+1) L) (hst:∀ j,j < R→RangeJ L ps.toList hs n m nl d (hc j) (hl j) (ys j)) (hend:YV (n+1) ((n,.mark) :: hc R))
    (hround:∀ j,j < R→Sym A' P assign (wD L ps.toList hs n nl (ys j) (hc j) (hl j)) (QH (fun S1=>Sym A' P body S1 (endK ans ex jj hs (n+1) (fun k=>(n,.mark) :: hc k) (fun j=>nth (hl j)) (Qs (asg L) hs n m d) j)) fun _ _=>False))
    (hKn:(∀ k,k < R→ans k=true)→K .normal { t:=asg L,h:=qc ((n,.mark) :: hc R++kN hs (n+1) 0 Lp),n:=n+1,j:=jj R,d:=.mark n :: d,m:=m })
    (hKx:0 < R→ans (R - 1)=false→K ex { t:=asg L,h:=qc ((n,.mark) :: hc R++kN hs (n+1) 0 Lp),n:=n+1,j:=jj R,d:=.mark n :: d,m:=m }) :
    Sym A P (.rangeFunc (.tmp tg) ps assign body) { t:=asg L,h:=qc (hc 0++kN hs (n+1) 0 Lp),n:=n,j:=jj 0,d:=d,m:=m } K:=by
  have e0:=Ja (n:=n+1) (nl:=0) (L:=Lp) (hs:=hs) hlen
  rw [← e0] at hKn hKx ⊢
  have hkeepT:∀ j,j < R→∀ id,Qs (asg L) hs n m d id→UA (n+1) ((n,.mark) :: hc j++kN hs (n+1) 0 (hl j)) id:=fun j hj id hid=>by
    refine VK (hst j hj).keys id ?_
    simp only [List.mem_append,List.mem_range]
    rcases hid with h|h|⟨t,h⟩|h
    · exact .inl h
    · exact .inr (.inl h)
    · refine .inr (.inr (.inl ?_))
      rcases Jm L t with e|⟨p,hp,_,e⟩
      · rw [e] at h;simp [AV.ids] at h
      · rw [e] at h;exact JY hp h
    · exact .inr (.inr (.inr h))
  intro F0 hF0 hd0
  have hps:∀ p ∈ ps.toList,p < F0.nt:=fun p hp=>by
    simp only [vQ,Bool.and_eq_true] at hd0
    have:=List.all_eq_true.1 hd0.1.1 p hp
    simpa using this
  refine Qcq (A:=fun F=>F=F0) (fun F hF=>hF ▸ hAr F0 hF0) hA' (h0:=nth Lp) (hl:=fun j=>nth (hl j)) (nl:=nl) (vv:=vv) (N:=N) (by simpa [ev] using hg) hit hRo hex hcaps hcn (fun q o0 ho=>?_) (fun q hq=>⟨_,List.getElem?_eq_getElem (by omega)⟩) hnd hsn (fun F hF j hj=>?_) (fun j hj mm o ho id hid=>?_) (fun j hj id hid=>?_) (fun j hj mm o0 ho=>?_) (fun i o ho=>?_) (fun j hj=>?_) hKn hKx F0 rfl hd0
  · obtain ⟨g1,g2,g3⟩:=Xd hobj q o0 ho
    exact ⟨by have:=(List.getElem?_eq_some_iff.1 ho).1;omega,g1,g2,g3⟩
  · have h:=hst j hj
    refine ⟨hsl,fun t id hid=>?_,fun i o ho=>Ju h.own _ (qV ho),fun mm o ho=>?_,Ue h.args,h.plen,fun p hp=>by rw [hF];exact hps p hp⟩
    · rcases Jm L t with e|⟨p,hp,_,e⟩
      · rw [e] at hid;simp [AV.ids] at hid
      · have:id ∈ p.2.ids:=by rw [e] at hid;exact hid
        exact ⟨Vs hidt p hp id this,.inr (.inr (.inl ⟨t,hid⟩))⟩
    · obtain ⟨g1,g2⟩:=Yh h.lent mm o ho
      exact ⟨by have:=(List.getElem?_eq_some_iff.1 ho).1;have:=h.len;omega,g1,g2⟩
  · obtain ⟨_,g2⟩:=Yh (hst j hj).lent mm o ho
    have:=g2 id hid
    exact ⟨_,List.getElem?_eq_getElem (by have:=(hst j hj).len;omega)⟩
  · obtain ⟨g1,g2⟩:=hkeepT j hj id hid
    rw [Ja (hst j hj).len]
    exact ⟨g1,Qcp g2⟩
  · rw [Ja (hst j hj).len]
    obtain ⟨o',ho'⟩:=Y6 (hs:=hs) (n:=n+1) (L:=hl j) (k:=0) (m:=mm) (List.getElem?_eq_some_iff.1 ho).1
    rw [Nat.zero_add] at ho'
    exact K5 (List.mem_append_right _ ho')
  · exact Ju hend _ (qV ho)
  · have:=hround j hj
    simp only [wD,← Ja (hst j hj).len] at this
    exact this
def Yk (S:St) (hf:Nat→Option AObj) (hs:List Nat) (n:Nat):Nat→List AObj→Prop
  |_,[]=>True
  |k,o :: os=>(match S.h (qj hs n k) with|some ob=>AObj.le hf (fun j=>some (qj hs n j)) ob o|none=>False)∧Yk S hf hs n (k+1) os
theorem XI {S:St} {hf:Nat→Option AObj} {hs:List Nat} {n:Nat}:∀ {L:List AObj} {k:Nat},Yk S hf hs n k L→∀ (q:Nat) (o:AObj),L[q]?=some o→∃ ob,S.h (qj hs n (k+q))=some ob∧AObj.le hf (fun j=>some (qj hs n j)) ob o
  |o :: os,k,h,0,o',ho=>by
    simp only [List.getElem?_cons_zero,Option.some.injEq] at ho
    subst ho
    have h1:=h.1
    split at h1
    · rename_i ob hob;exact ⟨ob,hob,h1⟩
    · exact h1.elim
  |o :: os,k,h,q+1,o',ho=>by
    have:=XI h.2 q o' (by simpa using ho)
    rwa [show k+1+q=k+(q+1) by omega] at this
def Jd (hs:List Nat) (n:Nat):Nat→List AObj→List Nat
  |_,[]=>[]
  |k,_ :: os=>qj hs n k :: Jd hs n (k+1) os
theorem JL {hs:List Nat} {n:Nat}:∀ {L:List AObj} {k q:Nat},q < L.length→qj hs n (k+q) ∈ Jd hs n k L
  |o :: os,k,0,_=>List.mem_cons_self
  |o :: os,k,q+1,h=>by
    have:=JL (hs:=hs) (n:=n) (L:=os) (k:=k+1) (q:=q) (by simpa using h)
    rw [show k+1+q=k+(q+1) by omega] at this
    exact List.mem_cons_of_mem _ this
structure RFinOK (S:St) (hs:List Nat) (n:Nat) (own:List (Nat × AObj)) (Lt:List AObj) (kp:List Nat) (σ:Nat→Option Nat) (fz:List Nat):Prop where
  h:leH S (fun i=>if i ∈ fz then S.h i else none) σ own
  l:Yk S (fun i=>if i ∈ fz then S.h i else none) hs n 0 Lt
  img:(Jl σ own).Nodup
  apart:∀ i ∈ Jl σ own,i ∉ Jd hs n 0 Lt
  frz:∀ i ∈ fz,i ∉ Jl σ own∧i ∉ Jd hs n 0 Lt
  pin:∀ i ∈ kp,σ i=some i
theorem RFin.ok {S:St} {L:List (Nat × AV)} {hs:List Nat} {n m:Nat} {d:List ADf} {own:List (Nat × AObj)} {Lt:List AObj} (σ:Nat→Option Nat) (fz:List Nat) (h:RFinOK S hs (n+1) own Lt (List.range m++(hs++(XM L++(ADf.mark n :: d).flatMap ADf.ids))) σ fz) :
    RFin S hs (n+1) own (nth Lt) (Qs (asg L) hs n m d) σ (fun i=>if i ∈ fz then S.h i else none):=by
  refine ⟨fun i o1 ho=>YC h.h _ (qV ho),fun q o0 ho=>?_,fun i o k o' c h1 h2 e1 e2=>?_,fun i o q o0 h1 h2 e=>?_,fun i o hi=>?_,fun id hid=>?_⟩
  · have:=XI h.l q o0 ho
    rwa [Nat.zero_add] at this
  · rcases Jq h.img _ (qV h1) _ (qV h2) c e1 e2 with h|h|h
    · exact congrArg (·.1) h
    · exact h
    · exact h.elim
  · have hm:=JL (hs:=hs) (n:=n+1) (L:=Lt) (k:=0) (q:=q) (List.getElem?_eq_some_iff.1 h2).1
    rw [Nat.zero_add] at hm
    exact h.apart _ (List.mem_filterMap.2 ⟨_,qV h1,e⟩) hm
  · by_cases hm:i ∈ fz
    · rw [if_pos hm] at hi
      refine ⟨hi,fun j o1 hj hs=>(h.frz i hm).1 (List.mem_filterMap.2 ⟨_,qV hj,hs⟩),fun q o0 hq e=>?_⟩
      have hm':=JL (hs:=hs) (n:=n+1) (L:=Lt) (k:=0) (q:=q) (List.getElem?_eq_some_iff.1 hq).1
      rw [Nat.zero_add,e] at hm'
      exact (h.frz i hm).2 hm'
    · rw [if_neg hm] at hi;cases hi
  · refine h.pin id ?_
    simp only [List.mem_append,List.mem_range]
    rcases hid with h|h|⟨t,h⟩|h
    · exact .inl h
    · exact .inr (.inl h)
    · refine .inr (.inr (.inl ?_))
      rcases Jm L t with e|⟨p,hp,_,e⟩
      · rw [e] at h;simp [AV.ids] at h
      · rw [e] at h;exact JY hp h
    · exact .inr (.inr (.inr h))
end Go.Sym
namespace Go.Sym
open Go
def vdt:=And.intro @Eff.sm.eq_1 (And.intro @Eff.ids.eq_1 (And.intro @Eff.keys.eq_1 (And.intro @wL.eq_1 (And.intro @wL.eq_2 (And.intro @AObj.ids.eq_1 (And.intro @AObj.ids.eq_2 (And.intro @AObj.ids.eq_3 (And.intro @AObj.ids.eq_4 (And.intro @AV.idsL.eq_1 @AV.idsL.eq_2)))))))))
end Go.Sym
namespace Go.Sym
open Go Go.RowKit
variable {P : Program}
theorem Fn.of_callsB {B:Ctx→Prop} {T:World→Prop} (hT:∀ y J own w ρ,B ⟨y,J,own,w,ρ⟩→J 0 own w→T w) {f:FuncId} {az:List AV} {h0:Nat→Option AObj} {x:Value} (en:∀ vs w,(callFunc f vs).run P w=.ok (.enter f vs) w) (hx:x.oneCell'=true)
    (h:∀ (w:World) (ok:Nat→Prop) (ρ:Nat→Value) (y:Value) (vs:Array Value),T w→(∀ i o,h0 i=some o→ORel w ok ρ y o (ρ i))→vs.size=az.length→(∀ i c,az[i]?=some c→ARel w ok ρ y c (vs.getD i undef)) →
      Calls P f vs w fun e w'=>e=.returned x∧Below w.heap.size w w'):Fn B P f az h0 (.v x) h0 0 where
  enter:=en
  calls:=fun y J hJ own w ρ vs hB H hs ha=>vg (h w _ ρ y vs (hT _ _ _ _ _ hB H.jay) H.obj hs ha) fun e w' ⟨he,hw⟩=>by
    have ex:∀ mod:Nat→Prop,Ext mod w w':=fun mod=>⟨hw.os,hw.tape,hw.output,hw.size,fun k hk _=>hw.block k hk⟩
    have ok:∀ b,okB w own ρ h0 b→okB w' own ρ h0 b∧w'.heap[b]?=w.heap[b]?:=fun b ⟨h1,h2,h3⟩=>⟨⟨Nat.lt_of_lt_of_le h1 hw.size,h2,h3⟩,hw.block b h1⟩
    exact ⟨x,own,ρ,he,⟨(hJ _ _ _ H.jay).2 w' (ex _),fun i o hi=>(H.obj i o hi).mono ok (fun b hb=>hw.block b ((H.obj i o hi).lt hb)) (fun _ _=>rfl),H.inj,H.off⟩,.v hx,ex _,fun b h=>.inl h,fun _=>rfl,fun _ _ _=>rfl,fun i o b hi hb=>.inr ⟨i,o,hi,hb⟩⟩
theorem Fn.of_calls {f:FuncId} {az:List AV} {h0:Nat→Option AObj} {x:Value} (en:∀ vs w,(callFunc f vs).run P w=.ok (.enter f vs) w) (hx:x.oneCell'=true)
    (h:∀ (w:World) (ok:Nat→Prop) (ρ:Nat→Value) (y:Value) (vs:Array Value),(∀ i o,h0 i=some o→ORel w ok ρ y o (ρ i))→vs.size=az.length→(∀ i c,az[i]?=some c→ARel w ok ρ y c (vs.getD i undef)) →
      Calls P f vs w fun e w'=>e=.returned x∧Below w.heap.size w w'):Fn noB P f az h0 (.v x) h0 0:=Fn.of_callsB (T:=fun _=>True) (fun _ _ _ _ _ _ _=>trivial) en hx fun w ok ρ y vs _=>h w ok ρ y vs
theorem Fn.of_callsT {T:World→Prop} {f:FuncId} {az:List AV} {h0:Nat→Option AObj} {x:Value} (en:∀ vs w,(callFunc f vs).run P w=.ok (.enter f vs) w) (hx:x.oneCell'=true)
    (h:∀ (w:World) (ok:Nat→Prop) (ρ:Nat→Value) (y:Value) (vs:Array Value),T w→(∀ i o,h0 i=some o→ORel w ok ρ y o (ρ i))→vs.size=az.length→(∀ i c,az[i]?=some c→ARel w ok ρ y c (vs.getD i undef)) →
      Calls P f vs w fun e w'=>e=.returned x∧Below w.heap.size w w'):Fn (VX T) P f az h0 (.v x) h0 0:=Fn.of_callsB (B:=VX T) (fun _ _ own w _ hB hj=>hB 0 own w hj) en hx h
def wT (s:List UInt8):List DV:=[.v (.string ⟨⟨s⟩⟩)]
theorem QgQ {w:World} {ok:Nat→Prop} {ρ:Nat→Value} {y:Value} {l:List (List UInt8)} {v:Value} (h:ARel w ok ρ y (.sl (l.map wT)) v) :
    (l=[]∧∃ a c,v=.slice a 0 c)∨∃ b o c,v=.slice (some ⟨b,o,none⟩) l.length c∧0 < l.length∧l.length≤c∧c≤maxLen∧b < w.heap.size∧∀ (j:Nat) s,l[j]?=some s→w.cell? ⟨b,o+j,none⟩=some (.string ⟨⟨s⟩⟩):=by
  cases h with
  |sl h =>
    generalize hx:DV.sl (l.map wT)=x at h
    cases h with
    |v _=>cases hx
    |sl0 hc=>injection hx with hx;exact .inl ⟨by simpa using hx,_,_,rfl⟩
    |@sl xs k a n c f h1 h2 h3 h4 h5 h6 h7 h8 h9 =>
      injection hx with hx
      subst hx
      have hl:l.length=n:=by simpa using h1
      have get:∀ (j:Nat) s,l[j]?=some s→(l.map wT)[j]?=some [DV.v (.string ⟨⟨s⟩⟩)]:=fun j s h=>by rw [List.getElem?_map,h];rfl
      have hk:k=1:=by
        obtain ⟨s,hs⟩:∃ s,l[0]?=some s:=⟨l[0],List.getElem?_eq_getElem (by omega)⟩
        exact (h6 0 _ (get 0 s hs)).symm
      subst hk
      have cell:∀ (j:Nat) s,l[j]?=some s→w.cell? (a.add j)=some (.string ⟨⟨s⟩⟩):=fun j s hs=>by
        have h10:=h7 j _ 0 _ (get j s hs) rfl
        have h11:=h8 j _ 0 _ (get j s hs) rfl
        rw [show j * 1+0=j by omega] at h10
        rw [h10]
        generalize f j 0=u at h11 ⊢
        cases h11 with
        |v _=>rfl
      obtain ⟨s0,hs0⟩:∃ s,l[0]?=some s:=⟨l[0],List.getElem?_eq_getElem (by omega)⟩
      have c0:=cell 0 s0 hs0
      have hsp:(a.add 0).spot=none:=Jv c0
      rw [show a.add 0=a by unfold Addr.add;simp] at hsp c0
      have hb:a.block < w.heap.size:=by
        rcases Nat.lt_or_ge a.block w.heap.size with h6|h6
        · exact h6
        · simp [World.cell?,Array.getElem?_eq_none h6] at c0
      obtain ⟨b,o,sp⟩:=a
      dsimp only at hsp hb
      subst hsp
      rw [← hl] at h3 ⊢
      exact .inr ⟨b,o,c,rfl,by omega,h3,h4,hb,fun j s hs=>by rw [← jR];exact cell j s hs⟩
end Go.Sym
namespace Go.Sym
open Go
set_option linter.all false
end Go.Sym
namespace Go.Sym
open Go
set_option linter.all false
theorem Qd5 {S:St} {c0 p id k n:Nat} {e:TypeId} {cs:List AV} {xs:List (List DV)} (hc0:S.h c0=some (.cells cs)) (hp:cs[p]?=some (.rsl id k 0 n)) (hid:S.h id=some (.row e k xs)) (hn:n≤xs.length) :
    Le S { S with h:=upd (upd (upd S.h id none) c0 (some (.cells (cs.set p (.row S.n))))) S.n (some (.row e k (xs.take n))),n:=S.n+1 }:=by
  rintro F a w ⟨ρ,own,H⟩
  have hfr:=H.fresh S.n (Nat.le_refl _)
  have hne:id ≠ S.n:=fun h=>by rw [h,hfr.1] at hid;cases hid
  have hnc:c0 ≠ S.n:=fun h=>by rw [h,hfr.1] at hc0;cases hc0
  have hci:c0 ≠ id:=fun h=>by rw [h,hid] at hc0;cases hc0
  have hcell:=H.obj c0 _ hc0
  generalize hrc:ρ c0=rc at hcell
  cases hcell with
  |@cells _ b1 ty vs z1 z2 z3 =>
  have h1:=(z3 p _ hp).1
  have hob:=H.obj id _ hid
  generalize hv:vs.getD p undef=v at h1
  cases h1 with
  |@rsl _ _ _ _ b c n0 e1 hlc =>
    have hb0:blk (ρ id)=some b:=by rw [e1];simp only [blk];rw [if_neg (by omega)]
    rw [e1] at hob
    have hrow:=Ru (n:=n) hob hlc hn
    rw [Nat.zero_mul] at hv
    rw [Nat.sub_zero] at hv
    obtain ⟨v,hve⟩:∃ v,Value.slice (some ⟨b,0,none⟩) n c=v:=⟨_,rfl⟩
    have hbv:blk v=some b:=by rw [← hve];simp only [blk];rw [if_neg (by omega)]
    rw [hve] at hrow hv
    have hone:v.oneCell'=true:=by rw [← hve];rfl
    have hρ:∀ i,i ≠ S.n→upd ρ S.n v i=ρ i:=fun i hi=>upd_ne _ _ _ _ hi
    have hρn:upd ρ S.n v S.n=v:=upd_same _ _ _
    have hh:∀ i o,upd (upd (upd S.h id none) c0 (some (.cells (cs.set p (.row S.n))))) S.n (some (.row e k (xs.take n))) i=some o→(i=S.n∧o=.row e k (xs.take n))∨(i=c0∧o=.cells (cs.set p (.row S.n)))∨(i ≠ S.n∧i ≠ c0∧i ≠ id∧S.h i=some o):=fun i o hi=>by
      unfold upd at hi
      split at hi
      · rename_i h;cases hi;exact .inl ⟨h,rfl⟩
      · rename_i h
        split at hi
        · rename_i h';cases hi;exact .inr (.inl ⟨h',rfl⟩)
        · rename_i h'
          split at hi
          · cases hi
          · rename_i h'';exact .inr (.inr ⟨h,h',h'',hi⟩)
    have hlt:∀ i o,S.h i=some o→i ≠ S.n:=fun i o hi h=>by rw [h,hfr.1] at hi;cases hi
    have hblk:∀ i o q,upd (upd (upd S.h id none) c0 (some (.cells (cs.set p (.row S.n))))) S.n (some (.row e k (xs.take n))) i=some o→blk (upd ρ S.n v i)=some q→∃ j o',S.h j=some o'∧blk (ρ j)=some q∧(i=S.n∧j=id∨i ≠ S.n∧i ≠ id∧i=j):=fun i o q hi hb=>by
      rcases hh i o hi with ⟨rfl,_⟩|⟨rfl,_⟩|⟨h2,h3,h4,h5⟩
      · rw [hρn,hbv,← hb0] at hb
        exact ⟨id,_,hid,hb,.inl ⟨rfl,rfl⟩⟩
      · rw [hρ _ hnc] at hb
        exact ⟨_,_,hc0,hb,.inr ⟨hnc,hci,rfl⟩⟩
      · rw [hρ i h2] at hb
        exact ⟨i,o,h5,hb,.inr ⟨h2,h4,rfl⟩⟩
    have hok:∀ q,okB w own ρ S.h q→okB w own (upd ρ S.n v) (upd (upd (upd S.h id none) c0 (some (.cells (cs.set p (.row S.n))))) S.n (some (.row e k (xs.take n)))) q∧w.heap[q]?=w.heap[q]?:=fun q hq=>by
      refine ⟨⟨hq.1,hq.2.1,fun i o hi hb=>?_⟩,rfl⟩
      obtain ⟨j,o',a1,a2,_⟩:=hblk i o q hi hb
      exact hq.2.2 j o' a1 a2
    refine ⟨upd ρ S.n v,own, ?_⟩
    constructor
    · exact H.jay
    · intro t
      exact (H.temps t).mono hok fun i hi=>hρ i fun h=>hfr.2.1 t (h ▸ hi)
    · intro i o hi
      rcases hh i o hi with ⟨rfl,rfl⟩|⟨rfl,rfl⟩|⟨h2,h3,h4,h5⟩
      · rw [hρn]
        exact hrow.mono hok (fun _ _=>rfl) fun j hj=>by simp [AObj.ids] at hj
      · rw [hρ _ hnc,hrc]
        refine .cells z1 (by rw [List.length_set];exact z2) fun j d hd=>?_
        rw [List.getElem?_set] at hd
        split at hd
        · rename_i hj
          subst hj
          split at hd
          · cases hd
            rw [hv]
            exact ⟨.row hρn hone,hone⟩
          · cases hd
        · exact ⟨(z3 j d hd).1.mono hok fun i' hi'=>hρ i' fun h=>hfr.2.2.1 _ _ hc0 (by rw [← h];simp only [AObj.ids];exact AV.mem_idsL.2 ⟨d,List.mem_of_getElem? hd,hi'⟩),(z3 j d hd).2⟩
      · rw [hρ i h2]
        exact (H.obj i o h5).mono hok (fun _ _=>rfl) fun j hj=>hρ j fun h=>hfr.2.2.1 i o h5 (h ▸ hj)
    · intro i j o o' q hi hj hbi hbj
      obtain ⟨i',oi,a1,a2,a3⟩:=hblk i o q hi hbi
      obtain ⟨j',oj,b1,b2,b3⟩:=hblk j o' q hj hbj
      have:=H.inj i' j' oi oj q a1 b1 a2 b2
      rcases a3 with ⟨e3,e4⟩|⟨e3,e4,e5⟩ <;> rcases b3 with ⟨f3,f4⟩|⟨f3,f4,f5⟩ <;> first|omega|(exfalso;omega)
    · intro i o q hi hb
      obtain ⟨j,o',a1,a2,_⟩:=hblk i o q hi hb
      exact H.blkOK j o' q a1 a2
    · intro i hi
      have hi:S.n+1≤i:=hi
      obtain ⟨u1,u2,u3,u4⟩:=H.fresh i (by omega)
      refine ⟨?_,fun t=>u2 t,fun j o hj=>?_,u4⟩
      · show upd (upd (upd S.h id none) c0 _) S.n _ i=none
        rw [upd_ne _ _ _ _ (by omega),upd_ne _ _ _ _ (fun h=>by rw [← h,u1] at hc0;cases hc0)]
        unfold upd
        split
        · rfl
        · exact u1
      · rcases hh j o hj with ⟨rfl,rfl⟩|⟨rfl,rfl⟩|⟨h2,h3,h4,h5⟩
        · simp [AObj.ids]
        · simp only [AObj.ids]
          intro hm
          obtain ⟨d,hd,hi'⟩:=AV.mem_idsL.1 hm
          rcases List.mem_or_eq_of_mem_set hd with hd|rfl
          · exact u3 _ _ hc0 (by simp only [AObj.ids];exact AV.mem_idsL.2 ⟨d,hd,hi'⟩)
          · simp [AV.ids] at hi';omega
        · exact u3 j o h5
    · have:=H.nle;show F.n0≤S.n+1;omega
    · exact H.meq
    · exact H.tsz
    · intro i o hi
      have:=F.pinn i o hi
      have h2:=H.nle
      rw [hρ i (by omega)]
      exact H.pins i o hi
    · exact H.ext
    · exact H.ownsub
    · exact H.still
    · exact H.defs.mono hok fun i hi=>hρ i fun h=>hfr.2.2.2 (h ▸ hi)
end Go.Sym
