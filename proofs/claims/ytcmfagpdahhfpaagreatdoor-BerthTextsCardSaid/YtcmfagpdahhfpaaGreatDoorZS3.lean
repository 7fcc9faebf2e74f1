/- Walks and what they compute, joined: part 3. -/
import Derived.ControlIn
import Derived.CallsIn
import Derived.OrdersIn
import Derived.RangeFuncRecord
import Derived.Maps.AppendAt
import Derived.OwnWalk
import Derived.Below
import Derived.Laws.StructEq
import Derived.Laws.Cells
import Derived.Laws.CopyRow
import Derived.Laws.Slices
import Derived.Laws.MakeOwn
import Derived.RangeFuncLeaves
import Derived.Maps.Keyed
import Derived.Laws.Strings
import Derived.Laws.BytesString
import Derived.RecoverIn
import Derived.WalkSmall
import Derived.Laws.IdiomRangeMap
import Derived.Scope
import Derived.ChangeSlices
import Derived.WideShapes
import Derived.DataReads
import Derived.Test.YtcmfagpdahhfpaaGreatDoorZS2
set_option linter.all false
set_option maxHeartbeats 40000000
namespace Go.Sym
open Go
variable {A : Frm -> Prop} {P : Program}
def Wh (P:Program) (y:Value) (vs:Array Value) (w:World) (R:Ending->World->Prop):Prop :=
 ∃ l fr tmps asg body,y=.func (.yield l) #[] #[]/\(Instr.yield l vs).run P w=.ok (.round l fr tmps asg body) w/\RoundIn (W none) 0 P l fr tmps asg body w R
def Wh.mono {y:Value} {vs:Array Value} {w:World} {R R':Ending->World->Prop} (h:Wh P y vs w R) (hr:∀ e w',R e w'->R' e w'):Wh P y vs w R':=by
 obtain ⟨l,fr,tmps,asg,body,e1,e2,e3⟩:=h
 exact ⟨l,fr,tmps,asg,body,e1,e2,RoundIn.mono e3 hr⟩
def Bcc (P:Program) (hp h0:Nat->Option AObj) (ys:Nat->List AV) (hl:Nat->Nat->Option AObj) (ans:Nat->Bool) (R:Nat) (c:Ctx):Prop :=
 ∀ j,j < R->∀ (Pr:Nat->Prop) (own:Own) (w:World) (ρ:Nat->Value) (vs:Array Value),Hp (Jc c.J j Pr w) c.y (hl j) 0 own w ρ->(∀ i o,hp i=some o->ρ i=c.ρ i) ->
  Ext (fun b=>c.own.prv b\/∃ i o,h0 i=some o/\blk (c.ρ i)=some b) c.w w ->
  (∀ i o b,hl j i=some o->blk (ρ i)=some b->c.w.heap.size<=b\/∃ k o',h0 k=some o'/\blk (c.ρ k)=some b) ->
  (∀ b,own.prv b->c.own.prv b\/c.w.heap.size<=b\/∃ k o',h0 k=some o'/\blk (c.ρ k)=some b) ->
  vs.size=(ys j).length->(∀ i a,(ys j)[i]?=some a->ARel w (okB w own ρ (hl j)) ρ c.y a (vs.getD i undef)) ->
  Wh P c.y vs w fun e w'=>e=.returned (.bool (ans j))/\∃ own',Hp (Jc c.J j Pr w) c.y (hl j) 1 own' w' ρ/\Ext (fun b=>own.prv b\/∃ i o,hl j i=some o/\blk (ρ i)=some b) w w'/\∀ b,own'.prv b->own.prv b\/w.heap.size<=b
abbrev Bcb (P:Program) (h0:Nat->Option AObj):=Bcc P h0 h0
structure Rounds (ans:Nat->Bool) (R N:Nat):Prop where
 le:R<=N
 yes:∀ j,j+1 < R->ans j=true
 stop:R < N->0 < R/\ans (R - 1)=false
def Rounds.lt {ans:Nat->Bool} {R N k:Nat} (h:Rounds ans R N) (hk:k < N) (hy:∀ j,j < k->ans j=true):k < R:=by
 refine Classical.byContradiction fun hn=>?_
 have h1:R < N:=by omega
 obtain ⟨h2,h3⟩:=h.stop h1
 have:=hy (R - 1) (by omega)
 rw [h3] at this;cases this
def Rounds.last {ans:Nat->Bool} {R N k:Nat} (h:Rounds ans R N) (hk:k < R) (hn:ans k=false):k+1=R:=by
 refine Classical.byContradiction fun he=>?_
 have:=h.yes k (by omega)
 rw [hn] at this;cases this
def Rounds.all {ans:Nat->Bool} {R N k:Nat} (h:Rounds ans R N) (hk:N<=k) (hy:∀ j,j < k->ans j=true):R=N:=by
 refine Classical.byContradiction fun he=>?_
 have h1:R < N:=by have:=h.le;omega
 obtain ⟨h2,h3⟩:=h.stop h1
 have:=hy (R - 1) (by omega)
 rw [h3] at this;cases this
def Iter (P:Program) (f:FuncId) (az:List AV) (h0:Nat->Option AObj) (ys:Nat->List AV) (N:Nat) (hl:Nat->Nat->Option AObj) (v:Nat->(Nat->Bool)->AV):Prop :=
 ∀ ans R,Rounds ans R N->Fn (Bcb P h0 ys hl ans R) P f az h0 (v R ans) h0 R
def Acb (P:Program) (hp h0:Nat->Option AObj) (ys:Nat->List AV) (hl:Nat->Nat->Option AObj) (ans:Nat->Bool) (R:Nat) (F:Frm):Prop:=F.H0=h0/\(∀ i o,hp i=some o->∃ o',h0 i=some o')/\Bcc P hp h0 ys hl ans R ⟨F.y,F.J,F.own0,F.w0,F.ρ0⟩
def Jc.shift {J:JJ} {j k:Nat} {Pr:Nat->Prop} {w0:World} {own:Own} {w:World} (h:Jc J j Pr w0 k own w):Jc J (j+k) Pr w0 0 own w:=by
 obtain ⟨own',h1,h2,h3,h4⟩:=h
 exact ⟨own',by rw [bj];exact h1,h2,h3,h4⟩
def ve_cb {ops:Array Oper} {o:Oper} {S:St} (hS:Wf S) (hw:Want ops o S) {g:Operand} {args:Array Operand} {tys:Array TypeId} (ho:o.op=.call { callee:=.value g,args:=args,argTypes:=tys }) (hg:ev S g=.cb)
  {hp hp0:Nat->Option AObj} {ys:Nat->List AV} {hl:Nat->Nat->Option AObj} {ans:Nat->Bool} {R:Nat} (hA:∀ F,A F->Acb P hp hp0 ys hl ans R F) (hj:S.j < R)
  {hs bo:List Nat} {hf:Nat->Option AObj}
  (hpin:∀ i o,hp i=some o->hs[i]?=some i)
  (hargs:AV.leL hf (fun j=>hs[j]?) (args.toList.map (ev S)) (ys S.j))
  (hobj:∀ i o0,hl S.j i=some o0->∃ c ob,hs[i]?=some c/\S.h c=some ob/\AObj.le hf (fun j=>hs[j]?) ob o0)
  (hdom:∀ j,j < hs.length->∃ o0,hl S.j j=some o0) (hnd:hs.Nodup)
  (hfr:∀ i ob,hf i=some ob->S.h i=some ob/\i ∉ hs/\i ∈ bo) (hbo:∀ i ∈ bo,(∃ ob,S.h i=some ob)/\i ∉ hs)
  (hh1:∀ i ob,hl S.j i=some ob->i < hs.length+0/\∀ id ∈ ob.ids,id < hs.length+0) :
  VE A P ops o (za S hs bo bo (.v (.bool (ans S.j))) (hl S.j) 0 1) S:=by
 obtain ⟨hall,hslt,hI,hN⟩:=Jy (v:=.v (.bool (ans S.j))) (dj:=1) hS hargs hobj hdom hnd hfr hbo (.inl rfl) (by simp [AV.ids]) hh1
 refine ⟨fun F hF hds S2 a w hag hfr2 ⟨ρ,own,H⟩=>?_,hI,hN⟩
 rw [wK hw hag H,if_pos rfl]
 have hS2:∀ c,c ∈ hs\/c ∈ bo->S2.h c=S.h c:=fun c hc=>hag.2.1 c (by simpa [za] using hc)
 have hjj:S2.j=S.j:=hag.2.2 (by simp [za])
 have hgv:=qD H g
 rw [hag.ev (x:=g) (by simp [ho,Op.operands,Call.operands]),hg] at hgv
 generalize hgv':a.eval g=gv at hgv
 cases hgv with
 |cb e _ =>
  obtain ⟨hsz,hrel⟩:=Yq ho hag H (caps:=[]) (cvs:=#[]) rfl (by simp)
  simp only [be,Array.append_empty] at hsz hrel
  obtain ⟨c1,c2,c3,c4⟩:=YI (v:=.v (.bool (ans S.j))) (dj:=1) hS hargs hobj hdom hnd hfr hbo (.inl rfl) (by simp [AV.ids]) hh1 H (fun _=>rfl) hS2 hfr2 hsz hrel (yS hds)
  obtain ⟨hH0,hsub,hB⟩:=hA F hF
  have hrho:∀ i o,hp i=some o->qR hs ρ i=F.ρ0 i:=fun i o hi=>by
   obtain ⟨o',ho'⟩:=hsub i o hi
   simp only [qR,hpin i o hi]
   exact H.pins i o' (by rw [hH0];exact ho')
  have hown0:∀ b,F.owns0 b ↔ ∃ i o,hp0 i=some o/\blk (F.ρ0 i)=some b:=fun b=>by simp only [Frm.owns0,hH0]
  rw [hjj] at c1
  have hans:=hB S.j hj (vV S2 hs bo ρ) (Qb own (vV S2 hs bo ρ)) w (qR hs ρ) (args.map a.eval) c1 hrho (H.ext.weaken fun b _ h=>h.imp id fun h=>(hown0 b).1 h)
   (fun i o b hi hb=>by
    obtain ⟨c,ob,e1,e2,_⟩:=hobj i o hi
    have:qR hs ρ i=ρ c:=by simp only [qR,e1]
    rw [this] at hb
    exact ((H.blkOK c ob b ((hS2 c (.inl (af e1))).trans e2) hb).2).imp id fun h=>(hown0 b).1 h)
   (fun b hb=>by
    rcases hb with hb|⟨i,ob,hi,_,_,hb⟩
    ·rcases H.ownsub b hb with h|h
     ·exact .inl h
     ·exact .inr (.inl h)
    ·rcases (H.blkOK i ob b hi hb).2 with h|h
     ·exact .inr (.inl h)
     ·exact .inr (.inr ((hown0 b).1 h))) c2 c3
  obtain ⟨l,fr,tmps,asg,body,ey,hy,hrd⟩:=hans
  simp only at ey
  have hexec:(execOp a.eval o).run P w=.ok (.round l fr tmps asg body) w:=by
   rw [e] at ey
   simp [execOp,ho,resolve,Deferred.ofValue,hgv',ey,invoke,hy]
  refine ⟨vo o a w F.r, ?_⟩
  rw [Oper.semAt_eq _ _ _ (by simp [ho]),hexec]
  simp only [Oper.uponIn]
  refine ⟨fun h=>by simp [W] at h, ?_⟩
  have hrd':RoundIn (W F.r) 0 P l fr tmps asg body w _:=show RoundIn (W none) 0 P l fr tmps asg body w _ from hrd
  refine RoundIn.mono hrd' ?_
  rintro e w' ⟨rfl,own',q1,q2,q3⟩
  obtain ⟨ρ',own'',HH⟩:=c4 (.bool (ans S.j)) w' own' (qR hs ρ) (by rw [hjj];exact q1) (.v rfl) q2 q3 (fun h=>by cases h) (fun _ _ _=>rfl) (fun i o b hi hb=>.inr ⟨i,o,hi,hb⟩)
  exact wS HH
mutual
def AV.nocb:AV->Prop
 |.v _=>True
 |.nil=>True
 |.emp=>True
 |.sl _=>True
 |.agg cs=>AV.nocbL cs
 |.tup cs=>AV.nocbL cs
 |.ep _ _=>True
 |.ptr _ _=>True
 |.row _=>True
 |.rp _ _ _ _=>True
 |.csl _ _=>True
 |.psl _ _ _ _=>True
 |.rsl _ _ _ _=>True
 |.mp _=>True
 |.clo _ cs=>AV.nocbL cs
 |.cb=>False
 |.junk=>True
 |.any=>True
 |.bnd _ cs=>AV.nocbL cs
def AV.nocbL:List AV->Prop
 |[]=>True
 |c :: cs=>c.nocb/\AV.nocbL cs
end
def AV.nocbL_mem:∀ {cs:List AV},AV.nocbL cs->∀ c ∈ cs,c.nocb
 |[],_,c,hc=>by simp at hc
 |d :: cs,h,c,hc=>by
  simp only [AV.nocbL] at h
  rcases ah.1 hc with rfl|hc
  ·exact h.1
  ·exact AV.nocbL_mem h.2 c hc
def AObj.nocb:AObj->Prop
 |.cells cs=>AV.nocbL cs
 |.row _ _ _=>True
 |.map _=>True
 |.mark=>True
 |.rows _ cs=>AV.nocbL cs
 |.it _ _ _=>True
 |.fm es=>AV.nocbL (es.map (·.2))
def ARel.chy {w:World} {ok:Nat->Prop} {ρ:Nat->Value} {y y':Value} {c:AV} {x:Value} (hr:ARel w ok ρ y c x):c.nocb->ARel w ok ρ y' c x:=by
 induction hr with
 |v hx=>exact fun _=>.v hx
 |nil=>exact fun _=>.nil
 |emp=>exact fun _=>.emp
 |sl hd=>exact fun _=>.sl hd
 |agg hs _ ih=>exact fun h=>.agg hs fun i c hc=>ih i c hc (AV.nocbL_mem h c (af hc))
 |tup hs _ ih=>exact fun h=>.tup hs fun i c hc=>ih i c hc (AV.nocbL_mem h c (af hc))
 |ep f h1 h2 h3 h4=>exact fun _=>.ep f h1 h2 h3 h4
 |ptr e=>exact fun _=>.ptr e
 |row e e'=>exact fun _=>.row e e'
 |rp e=>exact fun _=>.rp e
 |csl e h1=>exact fun _=>.csl e h1
 |psl e h1 h2=>exact fun _=>.psl e h1 h2
 |rsl e h1=>exact fun _=>.rsl e h1
 |mp e e'=>exact fun _=>.mp e e'
 |clo hs _ ih=>exact fun h=>.clo hs fun i c hc=>ih i c hc (AV.nocbL_mem h c (af hc))
 |cb e e'=>exact fun h=>h.elim
 |junk=>exact fun _=>.junk
 |any e=>exact fun _=>.any e
 |bnd hs _ ih=>exact fun h=>.bnd hs fun i c hc=>ih i c hc (AV.nocbL_mem h c (af hc))
def ORel.chy {w:World} {ok:Nat->Prop} {ρ:Nat->Value} {y y':Value} {o:AObj} {x:Value} (hr:ORel w ok ρ y o x) (hn:o.nocb):ORel w ok ρ y' o x:=by
 cases hr with
 |cells h1 h2 h3=>exact .cells h1 h2 fun i c hc=>⟨(h3 i c hc).1.chy (AV.nocbL_mem hn c (af hc)),(h3 i c hc).2⟩
 |row h1 h2 h3 h4=>exact .row h1 h2 h3 h4
 |map h1 h2 h3 h4 h5=>exact .map h1 h2 h3 h4 h5
 |mark h1=>exact .mark h1
 |it h1 h2 h3=>exact .it h1 h2 h3
 |fm h1 h2 h3 h4 h5=>exact .fm h1 h2 (fun i e p he hp=>let ⟨g1,g2,g3⟩:=h3 i e p he hp;⟨g1,g2,g3.chy (AV.nocbL_mem hn p.2 (ap.2 ⟨p,af hp,rfl⟩))⟩) h4 h5
 |rows h3 h4=>exact .rows h3 fun i c hc=>let ⟨u,hu,hr,h1⟩:=h4 i c hc;⟨u,hu,hr.chy (AV.nocbL_mem hn c (af hc)),h1⟩
def vK (h:Nat->Option AObj) (ρ:Nat->Value) (b:Nat):Prop:=∃ i o,h i=some o/\blk (ρ i)=some b
structure RH (F:Frm) (ws:World) (ρs:Nat->Value) (oks:Nat->Prop) (keep:Nat->Prop) (l:Nat) (rc:Loop) (h:Nat->Option AObj) (j:Nat) (ownr:Own) (w:World) (ρk:Nat->Value) (ownk:Own) (fz:Nat->Prop):Prop where
 jay:F.J j ownk w
 prv:∀ b,ownr.prv b ↔ ownk.prv b\/vK h ρk b\/b=l
 all:∀ b,ownr.all b ↔ ownk.all b\/vK h ρk b\/b=l\/fz b
 fzok:∀ b,fz b->b < w.heap.size/\¬ ownk.prv b/\¬ vK h ρk b/\b ≠ l
 obj:∀ i o,h i=some o->ORel w fz ρk F.y o (ρk i)
 inj:∀ i k o o' b,h i=some o->h k=some o'->blk (ρk i)=some b->blk (ρk k)=some b->i=k
 off:∀ i o b,h i=some o->blk (ρk i)=some b->¬ ownk.all b/\b ≠ l
 lown:¬ ownk.all l
 rcd:w.heap[l]?=some (.loop rc)
 oks:∀ b,oks b->fz b/\w.heap[b]?=ws.heap[b]?
 keep:∀ id,keep id->ρk id=ρs id
 prov:∀ i o b,h i=some o->blk (ρk i)=some b->F.w0.heap.size<=b\/F.owns0 b
 psub:∀ b,ownk.prv b->F.own0.prv b\/F.w0.heap.size<=b
 still:j=0->ownk=F.own0
 big:F.w0.heap.size<=w.heap.size
def RJ (F:Frm) (ws:World) (ρs:Nat->Value) (oks:Nat->Prop) (keep:Nat->Prop) (l:Nat) (rc:Nat->Loop) (hc:Nat->Nat->Option AObj) (jj:Nat->Nat):JJ :=
 fun k ownr w=>∃ ρk ownk fz,RH F ws ρs oks keep l (rc k) (hc k) (jj k) ownr w ρk ownk fz
def RJ.stable (F:Frm) (ws:World) (ρs:Nat->Value) (oks:Nat->Prop) (keep:Nat->Prop) (l:Nat) (rc:Nat->Loop) (hc:Nat->Nat->Option AObj) (jj:Nat->Nat):(RJ F ws ρs oks keep l rc hc jj).Stable:=by
 rintro k ownr w ⟨ρk,ownk,fz,H⟩
 have hll:l < w.heap.size:=(aV.1 H.rcd).1
 have hall:∀ b,ownr.all b->b < w.heap.size:=fun b hb=>by
  rcases (H.all b).1 hb with h|⟨i,o,hi,hbi⟩|rfl|h
  ·exact (F.stable _ _ _ H.jay).1 b h
  ·exact (H.obj i o hi).lt hbi
  ·exact hll
  ·exact (H.fzok b h).1
 refine ⟨hall,fun w' hx=>?_⟩
 have same:∀ b,ownr.all b->w'.heap[b]?=w.heap[b]?:=fun b hb=>hx.block b (hall b hb) fun hn=>hn hb
 have hfz:∀ b,fz b->fz b/\w'.heap[b]?=w.heap[b]?:=fun b hb=>⟨hb,same b ((H.all b).2 (.inr (.inr (.inr hb))))⟩
 refine ⟨ρk,ownk,fz,(F.stable _ _ _ H.jay).2 w' (hx.weaken fun b _ hn ho=>hn ((H.all b).2 (.inl ho))),H.prv,H.all,fun b hb=>⟨aE (H.fzok b hb).1 hx.size,(H.fzok b hb).2⟩,fun i o hi=>?_,H.inj,H.off,H.lown, ?_,fun b hb=>⟨(H.oks b hb).1, ?_⟩,H.keep,H.prov,H.psub,H.still,aN H.big hx.size⟩
 ·exact (H.obj i o hi).mono hfz (fun b hb=>same b ((H.all b).2 (.inr (.inl ⟨i,o,hi,hb⟩)))) fun _ _=>rfl
 ·rw [same l ((H.all l).2 (.inr (.inr (.inl rfl))))];exact H.rcd
 ·rw [(hfz b (H.oks b hb).1).2];exact (H.oks b hb).2
def QE (T:Nat->AV):List (Nat × AV)->(Nat->AV)
 |[]=>T
 |p :: r=>QE (upd T p.1 p.2) r
def zk (hs:List Nat) (n nl:Nat) (h:Nat->Option AObj):List (Nat × AObj):=(List.range (hs.length+nl)).filterMap fun m=>(h m).map fun o=>(qj hs n m,o.ren (qj hs n))
def yj {L M:List (Nat × AObj)} {i:Nat}:qb (L++M) i=match qb L i with|some o=>some o|none=>qb M i:=by
 induction L with
 |nil=>rfl
 |cons p r ih =>
  simp only [aQ,qb]
  split
  ·rfl
  ·exact ih
def ku {hs:List Nat} {n nl:Nat} {h:Nat->Option AObj} {i:Nat} {o:AObj} (hi:qb (zk hs n nl h) i=some o):∃ m o0,m < hs.length+nl/\h m=some o0/\i=qj hs n m/\o=o0.ren (qj hs n):=by
 have:=qG hi
 simp only [zk,bS,aY] at this
 obtain ⟨m,hm,e⟩:=this
 obtain ⟨o0,h0,e⟩:=aG.1 e
 simp only [Prod.mk.injEq] at e
 exact ⟨m,o0,hm,h0,e.1.symm,e.2.symm⟩
def Vu (F:Frm) (l j:Nat) (Pr:Nat->Prop) (wj:World) (hl:Pr l) (hrec:∃ rc,wj.heap[l]?=some (.loop rc)) (w0:World) (ρ0:Nat->Value) (H0:Nat->Option AObj) (own0:Own) (n0:Nat) (pinn:∀ i o,H0 i=some o->i < n0):Frm :=
 {r:=some l,y:=F.y,J:=Jc F.J j Pr wj,stable:=Jc.stable F.stable j Pr wj,w0,ρ0,H0,own0,n0,nt:=F.nt,pinn,
  recs:=fun l' h k own w hJ=>by
   cases h
   obtain ⟨own',_,_,_,hp⟩:=hJ
   obtain ⟨rc,hrc⟩:=hrec
   exact ⟨rc,(hp l hl).2.2.trans hrc⟩ }
def XV {w:World} {ok:Nat->Prop} {ρ:Nat->Value} {y:Value}:∀ {L:List (Nat × AV)} {vs:List (Nat × Value)} {T:Nat->AV} {tmps:Array Value},L.length=vs.length->(∀ (i:Nat) (p:Nat × AV) (v:Nat × Value),L[i]?=some p->vs[i]?=some v->p.1=v.1/\ARel w ok ρ y p.2 v.2) ->
  (∀ p ∈ L,p.1 < tmps.size)->(∀ t,ARel w ok ρ y (T t) (tmps.getD t undef)) ->
  (∀ t,ARel w ok ρ y (QE T L t) ((vs.foldl (fun (tmps:Array Value) p=>tmps.setIfInBounds p.1 p.2) tmps).getD t undef))/\(vs.foldl (fun (tmps:Array Value) p=>tmps.setIfInBounds p.1 p.2) tmps).size=tmps.size
 |[],[],T,tmps,_,_,_,h=>⟨h,rfl⟩
 |p :: L,v :: vs,T,tmps,hl,hp,hb,h=>by
  obtain ⟨e,hr⟩:=hp 0 p v rfl rfl
  have h1:=XV (L:=L) (vs:=vs) (T:=upd T p.1 p.2) (tmps:=tmps.setIfInBounds v.1 v.2) (by simpa using hl) (fun i p v h h'=>hp (i+1) p v (by simpa using h) (by simpa using h'))
   (fun q hq=>by simpa using hb q (aZ _ hq)) fun t=>by
    by_cases ht:t=p.1
    ·subst ht
     have hlt:p.1 < tmps.size:=hb p ba
     rw [upd_same]
     have:(tmps.setIfInBounds v.1 v.2).getD p.1 undef=v.2:=by rw [<- e];simp [hlt]
     rw [this];exact hr
    ·rw [upd_ne _ _ _ _ ht]
     have:(tmps.setIfInBounds v.1 v.2).getD t undef=tmps.getD t undef:=by
      rw [<- e];simp [dA (Ne.symm ht)]
     rw [this];exact h t
  exact ⟨h1.1,by simpa using h1.2⟩
 |[],_ :: _,_,_,hl,_,_,_=>by simp at hl
 |_ :: _,[],_,_,hl,_,_,_=>by simp at hl
def Qeo (T:Nat->AV):∀ (L:List (Nat × AV)) (t:Nat),QE T L t=T t\/∃ p ∈ L,QE T L t=p.2:=by
 intro L
 induction L generalizing T with
 |nil=>intro t;exact .inl rfl
 |cons p r ih =>
  intro t
  rcases ih (upd T p.1 p.2) t with h|⟨q,hq,h⟩
  ·by_cases ht:t=p.1
   ·subst ht;rw [upd_same] at h;exact .inr ⟨p,ba,h⟩
   ·rw [upd_ne _ _ _ _ ht] at h;exact .inl h
  ·exact .inr ⟨q,aZ _ hq,h⟩
def Yg (T:Nat->AV) (ps:List Nat) (hs:List Nat) (n nl:Nat) (ys:List AV) (own:List (Nat × AObj)) (lent:Nat->Option AObj):St :=
 {t:=QE T (ps.zip (ys.map (AV.ren (qj hs n)))),h:=qb (own++zk hs n nl lent),n:=n+nl,m:=n+nl }
def zA (hs:List Nat) (n nl:Nat) (ρk ρx:Nat->Value) (id:Nat):Value:=if n<=id/\id < n+nl then ρx (hs.length+(id - n)) else ρk id
structure RStat (F:Frm) (T:Nat->AV) (ps hs:List Nat) (n nl:Nat) (ys:List AV) (own:List (Nat × AObj)) (lent:Nat->Option AObj) (keep:Nat->Prop):Prop where
 hsn:∀ c ∈ hs,c < n
 tmp:∀ t,∀ id ∈ (T t).ids,id < n/\keep id
 own:∀ i o,qb own i=some o->i < n/\∀ id ∈ o.ids,id < n
 lent:∀ m o,lent m=some o->m < hs.length+nl/\o.nocb/\∀ id ∈ o.ids,id < hs.length+nl
 args:∀ c ∈ ys,c.nocb/\∀ id ∈ c.ids,id < hs.length+nl
 plen:ps.length=ys.length
 psn:∀ p ∈ ps,p < F.nt
def kF {hs:List Nat} {n nl m:Nat} (h:∀ c ∈ hs,c < n) (hm:m < hs.length+nl):qj hs n m < n+nl:=by
 unfold qj
 cases hc:hs[m]? with
 |some c=>have:=h c (af hc);simp only;omega
 |none=>have:hs.length<=m:=cT.1 hc;simp only;omega
def Zp {hs:List Nat} {n nl:Nat} {ρk ρx:Nat->Value} (hn:∀ c ∈ hs,c < n) (hpin:∀ m c,hs[m]?=some c->ρx m=ρk c) {m:Nat} (hm:m < hs.length+nl):zA hs n nl ρk ρx (qj hs n m)=ρx m:=by
 unfold zA qj
 cases hc:hs[m]? with
 |some c =>
  have:=hn c (af hc)
  simp only
  rw [if_neg (by omega),hpin m c hc]
 |none =>
  have:hs.length<=m:=cT.1 hc
  simp only
  rw [if_pos (by omega)]
  congr 1;omega
def zN {hs:List Nat} {n nl:Nat} {ρk ρx:Nat->Value} {id:Nat} (h:id < n):zA hs n nl ρk ρx id=ρk id:=by
 unfold zA;rw [if_neg (by omega)]
def Zh {hs:List Nat} {n nl:Nat} {own:List (Nat × AObj)} {lent:Nat->Option AObj} (hsn:∀ c ∈ hs,c < n) (hown:∀ i o,qb own i=some o->i < n/\∀ id ∈ o.ids,id < n):∀ i o,qb (own++zk hs n nl lent) i=some o->i < n+nl:=by
 intro i o hi
 rw [yj] at hi
 cases ho:qb own i with
 |some o1=>have:=(hown i o1 ho).1;omega
 |none =>
  rw [ho] at hi
  obtain ⟨m,o0,hm,_,rfl,_⟩:=ku hi
  exact kF hsn hm
def Lj {F:Frm} {ws:World} {ρs:Nat->Value} {oks keep:Nat->Prop} {l:Nat} {rc:Loop} {jj:Nat} {ownr:Own} {w:World} {ρk:Nat->Value} {ownk:Own} {fz:Nat->Prop} {T:Nat->AV} {a0:Act} {ps hs:List Nat} {n nl:Nat} {ys:List AV} {own:List (Nat × AObj)} {lent:Nat->Option AObj}
  (hs1:RStat F T ps hs n nl ys own lent keep) (hR:RH F ws ρs oks keep l rc (qb own) jj ownr w ρk ownk fz) {Pr:Nat->Prop} (hPr:∀ b,Pr b->¬ ownr.all b/\b < w.heap.size) {ownx:Own} (hxa:∀ b,ownx.all b ↔ ownr.all b\/Pr b) (hxp:∀ b,ownx.prv b ↔ ownr.prv b\/Pr b)
  {ρx:Nat->Value} {yv:Value} (lobj:∀ m o,lent m=some o->ORel w (okB w ownx ρx lent) ρx yv o (ρx m)) (linj:∀ i k o o' b,lent i=some o->lent k=some o'->blk (ρx i)=some b->blk (ρx k)=some b->i=k) (loff:∀ m o b,lent m=some o->blk (ρx m)=some b->¬ ownx.all b)
  (hpin:∀ m c,hs[m]?=some c->ρx m=ρk c) {vs:Array Value} (hvs:vs.size=ys.length) (hrel:∀ i c,ys[i]?=some c->ARel w (okB w ownx ρx lent) ρx yv c (vs.getD i undef))
  (hT:∀ t,ARel ws oks ρs F.y (T t) (a0.tmps.getD t undef)) (hsz:a0.tmps.size=F.nt) :
  Holds (Vu F l jj (fun b=>Pr b\/b=l) w (.inr rfl) ⟨rc,hR.rcd⟩ w (zA hs n nl ρk ρx) (qb (own++zk hs n nl lent)) (Qb ownk fun b=>Pr b\/b=l) (n+nl) (Zh hs1.hsn hs1.own))
   (Yg T ps hs n nl ys own lent) { tmps:=(ps.zip vs.toList).foldl (fun (tmps:Array Value) p=>tmps.setIfInBounds p.1 p.2) a0.tmps,defers:=[] } w (zA hs n nl ρk ρx) (Qb ownk fun b=>Pr b\/b=l):=by
 have hll:l < w.heap.size:=(aV.1 hR.rcd).1
 have hren:∀ m,m < hs.length+nl->zA hs n nl ρk ρx (qj hs n m)=ρx m:=fun m hm=>Zp hs1.hsn hpin hm
 have hlook:∀ {i o},qb (own++zk hs n nl lent) i=some o->qb own i=some o\/∃ m o0,m < hs.length+nl/\lent m=some o0/\i=qj hs n m/\o=o0.ren (qj hs n):=fun {i o} hi=>by
  rw [yj] at hi
  cases ho:qb own i with
  |some o1=>rw [ho] at hi;exact .inl hi
  |none=>rw [ho] at hi;exact .inr (ku hi)
 have hobjblk:∀ i o b,qb (own++zk hs n nl lent) i=some o->blk (zA hs n nl ρk ρx i)=some b->vK (qb own) ρk b\/∃ m o0,lent m=some o0/\blk (ρx m)=some b:=fun i o b hi hb=>by
  rcases hlook hi with h|⟨m,o0,hm,h0,rfl,_⟩
  ·rw [zN (hs1.own i o h).1] at hb;exact .inl ⟨i,o,h,hb⟩
  ·rw [hren m hm] at hb;exact .inr ⟨m,o0,h0,hb⟩
 have hfz:∀ b,fz b->okB w (Qb ownk fun b=>Pr b\/b=l) (zA hs n nl ρk ρx) (qb (own++zk hs n nl lent)) b:=fun b hb=>by
  obtain ⟨g1,g2,g3,g4⟩:=hR.fzok b hb
  have ha:ownr.all b:=(hR.all b).2 (.inr (.inr (.inr hb)))
  refine ⟨g1, ?_,fun i o hi hbi=>?_⟩
  ·rintro (h|h|h)
   ·exact g2 h
   ·exact (hPr b h).1 ha
   ·exact g4 h
  ·rcases hobjblk i o b hi hbi with h|⟨m,o0,h0,hm⟩
   ·exact g3 h
   ·exact loff m o0 b h0 hm ((hxa b).2 (.inl ha))
 have hlx:∀ b,okB w ownx ρx lent b->okB w (Qb ownk fun b=>Pr b\/b=l) (zA hs n nl ρk ρx) (qb (own++zk hs n nl lent)) b:=fun b ⟨g1,g2,g3⟩=>by
  refine ⟨g1, ?_,fun i o hi hbi=>?_⟩
  ·rintro (h|h|h)
   ·exact g2 ((hxp b).2 (.inl ((hR.prv b).2 (.inl h))))
   ·exact g2 ((hxp b).2 (.inr h))
   ·exact g2 ((hxp b).2 (.inl ((hR.prv b).2 (.inr (.inr h)))))
  ·rcases hobjblk i o b hi hbi with h|⟨m,o0,h0,hm⟩
   ·exact g2 ((hxp b).2 (.inl ((hR.prv b).2 (.inr (.inl h)))))
   ·exact g3 m o0 h0 hm
 have hTw:∀ t,ARel w (okB w (Qb ownk fun b=>Pr b\/b=l) (zA hs n nl ρk ρx) (qb (own++zk hs n nl lent))) (zA hs n nl ρk ρx) F.y (T t) (a0.tmps.getD t undef):=fun t =>
  (hT t).mono (fun b hb=>⟨hfz b (hR.oks b hb).1,(hR.oks b hb).2⟩) fun id hid=>by
   obtain ⟨g1,g2⟩:=hs1.tmp t id hid
   rw [zN g1,hR.keep id g2]
 have hputs:=XV (w:=w) (ok:=okB w (Qb ownk fun b=>Pr b\/b=l) (zA hs n nl ρk ρx) (qb (own++zk hs n nl lent))) (ρ:=zA hs n nl ρk ρx) (y:=F.y) (L:=ps.zip (ys.map (AV.ren (qj hs n)))) (vs:=ps.zip vs.toList) (T:=T) (tmps:=a0.tmps)
  (by simp [hvs]) (fun i p v hp hv=>by
   rw [List.getElem?_zip_eq_some] at hp hv
   obtain ⟨p1,p2⟩:=hp
   obtain ⟨v1,v2⟩:=hv
   rw [p1] at v1
   refine ⟨by simpa using v1, ?_⟩
   rw [aC] at p2
   obtain ⟨c,hc,e⟩:=aG.1 p2
   have h1:=hrel i c hc
   have h2:vs.getD i undef=v.2:=by
    have h3:vs[i]?=some v.2:=by simpa using v2
    simp [h3]
   rw [h2] at h1
   rw [<- e]
   exact ((h1.chy (hs1.args c (af hc)).1).mono (fun b hb=>⟨hlx b hb,rfl⟩) fun _ _=>rfl).ren fun id hid=>hren id ((hs1.args c (af hc)).2 id hid))
  (fun p hp=>by rw [hsz];exact hs1.psn p.1 (List.of_mem_zip hp).1) hTw
 refine ⟨⟨ownk,hR.jay,fun b=>Iff.rfl,fun b=>Iff.rfl,fun b hb=>⟨?_, ?_,rfl⟩⟩,hputs.1,fun i o hi=>?_,fun i k o o' b hi hk hbi hbk=>?_,fun i o b hi hb=>⟨?_,.inr ⟨i,o,hi,hb⟩⟩,fun id hid=>?_,aw _,rfl,hputs.2.trans hsz,fun _ _ _=>rfl,Ext.refl _ _,fun b hb=>.inl hb,fun _=>rfl,.nil⟩
 ·rcases hb with h|rfl
  ·exact fun ho=>(hPr b h).1 ((hR.all b).2 (.inl ho))
  ·exact hR.lown
 ·rcases hb with h|rfl
  ·exact (hPr b h).2
  ·exact hll
 ·rcases hlook hi with h|⟨m,o0,hm,h0,rfl,rfl⟩
  ·have hin:=hs1.own i o h
   rw [zN hin.1]
   exact (hR.obj i o h).mono (fun b hb=>⟨hfz b hb,rfl⟩) (fun _ _=>rfl) fun id hid=>zN (hin.2 id hid)
  ·rw [hren m hm]
   exact AObj.ren_rel ((lobj m o0 h0).chy (hs1.lent m o0 h0).2.1) (.inr hlx) fun id hid=>hren id ((hs1.lent m o0 h0).2.2 id hid)
 ·have cross:∀ {i o m o0},qb own i=some o->lent m=some o0->blk (ρk i)=some b->blk (ρx m)=some b->False:=fun {i o m o0} h h0 hb hb' =>
   loff m o0 b h0 hb' ((hxa b).2 (.inl ((hR.all b).2 (.inr (.inl ⟨i,o,h,hb⟩)))))
  rcases hlook hi with h|⟨m,o0,hm,h0,rfl,rfl⟩
  ·rw [zN (hs1.own i o h).1] at hbi
   rcases hlook hk with h'|⟨m',o0',hm',h0',rfl,rfl⟩
   ·rw [zN (hs1.own k o' h').1] at hbk
    exact hR.inj i k o o' b h h' hbi hbk
   ·rw [hren m' hm'] at hbk
    exact (cross h h0' hbi hbk).elim
  ·rw [hren m hm] at hbi
   rcases hlook hk with h'|⟨m',o0',hm',h0',rfl,rfl⟩
   ·rw [zN (hs1.own k o' h').1] at hbk
    exact (cross h' h0 hbk hbi).elim
   ·rw [hren m' hm'] at hbk
    rw [linj m m' o0 o0' b h0 h0' hbi hbk]
 ·rcases hlook hi with h|⟨m,o0,hm,h0,rfl,rfl⟩
  ·rw [zN (hs1.own i o h).1] at hb
   rintro (ho|ho|ho)
   ·exact (hR.off i o b h hb).1 ho
   ·exact (hPr b ho).1 ((hR.all b).2 (.inr (.inl ⟨i,o,h,hb⟩)))
   ·exact (hR.off i o b h hb).2 ho
  ·rw [hren m hm] at hb
   have h1:=loff m o0 b h0 hb
   rintro (ho|ho|ho)
   ·exact h1 ((hxa b).2 (.inl ((hR.all b).2 (.inl ho))))
   ·exact h1 ((hxa b).2 (.inr ho))
   ·exact h1 ((hxa b).2 (.inl ((hR.all b).2 (.inr (.inr (.inl ho))))))
 ·have hid:n+nl<=id:=hid
  refine ⟨?_,fun t hm=>?_,fun i o hi hm=>?_,by simp [Yg]⟩
  ·show qb (own++zk hs n nl lent) id=none
   cases ho:qb (own++zk hs n nl lent) id with
   |none=>rfl
   |some o=>have:=Zh hs1.hsn hs1.own id o ho;omega
  ·rcases Qeo T (ps.zip (ys.map (AV.ren (qj hs n)))) t with h|⟨p,hp,h⟩
   ·simp only [Yg] at hm;rw [h] at hm;have:=(hs1.tmp t id hm).1;omega
   ·simp only [Yg] at hm
    rw [h] at hm
    have hp2:=(List.of_mem_zip hp).2
    obtain ⟨c,hc,e⟩:=ap.1 hp2
    rw [<- e,AV.ren_ids] at hm
    obtain ⟨q,hq,rfl⟩:=ap.1 hm
    have:=kF hs1.hsn ((hs1.args c hc).2 q hq);omega
  ·rcases hlook hi with h|⟨m,o0,hm0,h0,rfl,rfl⟩
   ·have:=(hs1.own i o h).2 id hm;omega
   ·rw [AObj.ren_ids] at hm
    obtain ⟨q,hq,rfl⟩:=ap.1 hm
    have:=kF hs1.hsn ((hs1.lent m o0 h0).2.2 q hq);omega
def Qaj {F:Frm} {l jj n0:Nat} {Pr:Nat->Prop} {wj w0:World} {hl:Pr l} {hrec:∃ rc,wj.heap[l]?=some (.loop rc)} {ρ0:Nat->Value} {H0:Nat->Option AObj} {own0:Own} {pinn:∀ i o,H0 i=some o->i < n0}
  {S:St} {a:Act} {w1:World} {ρ:Nat->Value} {own:Own} (H:Holds (Vu F l jj Pr wj hl hrec w0 ρ0 H0 own0 n0 pinn) S a w1 ρ own) (hp0:own0.prv l) {rc:Loop} (hl1:l < w1.heap.size) :
  Holds (Vu F l jj Pr (w1.putObj l (.loop rc)) hl ⟨rc,by rw [xN,if_pos ⟨rfl,hl1⟩]⟩ w0 ρ0 H0 own0 n0 pinn) S a (w1.putObj l (.loop rc)) ρ own:=by
 obtain ⟨own',hj,ha,hp,hpr⟩:=H.jay
 have hx:Ext (fun k=>k=l) w1 (w1.putObj l (.loop rc)):=Ext.putObj _ _ _ rfl
 have hla:own.all l:=(ha l).2 (.inr hl)
 have hlp:own.prv l:=(hp l).2 (.inr hl)
 have hok:∀ b,okB w1 own ρ S.h b->okB (w1.putObj l (.loop rc)) own ρ S.h b/\(w1.putObj l (.loop rc)).heap[b]?=w1.heap[b]?:=fun b hb=>⟨⟨aE hb.1 hx.size,hb.2⟩,hx.block b hb.1 fun e=>hb.2.1 (e ▸ hlp)⟩
 refine ⟨⟨own',(F.stable _ _ _ hj).2 _ (hx.weaken fun b _ e ho=>(hpr l hl).1 (e ▸ ho)),ha,hp,fun b hb=>⟨(hpr b hb).1,aE (hpr b hb).2.1 hx.size,rfl⟩⟩,fun t=>(H.temps t).mono hok fun _ _=>rfl,fun i o hi=>(H.obj i o hi).mono hok (fun b hb=>hx.block b ((H.obj i o hi).lt hb) fun e=>(H.blkOK i o b hi hb).1 (e ▸ hla)) fun _ _=>rfl,
  H.inj,H.blkOK,H.fresh,H.nle,H.meq,H.tsz,H.pins,H.ext.trans hx fun b _ e=>.inl (e ▸ hp0),H.ownsub,H.still,H.defs.mono hok fun _ _=>rfl⟩
structure RFin (S:St) (hs:List Nat) (n:Nat) (own:List (Nat × AObj)) (lent:Nat->Option AObj) (keep:Nat->Prop) (σ:Nat->Option Nat) (hf:Nat->Option AObj):Prop where
 fown:∀ i o1,qb own i=some o1->(∃ c o,σ i=some c/\S.h c=some o/\AObj.le hf σ o o1)\/(σ i=none/\V4 o1)
 flent:∀ m o0,lent m=some o0->∃ ob,S.h (qj hs n m)=some ob/\AObj.le hf (fun j=>some (qj hs n j)) ob o0
 inj:∀ i o k o' c,qb own i=some o->qb own k=some o'->σ i=some c->σ k=some c->i=k
 apart:∀ i o m o0,qb own i=some o->lent m=some o0->σ i ≠ some (qj hs n m)
 frz:∀ i o,hf i=some o->S.h i=some o/\(∀ j o1,qb own j=some o1->σ j ≠ some i)/\∀ m o0,lent m=some o0->qj hs n m ≠ i
 fkeep:∀ id,keep id->σ id=some id
def vM (σ:Nat->Option Nat) (ρ:Nat->Value) (i:Nat):Value:=match σ i with|some c=>ρ c|none=>.slice none 0 0
def Qeq {F:Frm} {ws:World} {ρs:Nat->Value} {oks keep:Nat->Prop} {l:Nat} {rc rc':Loop} {jj:Nat} {ownr:Own} {w:World} {ρk:Nat->Value} {ownk:Own} {fz:Nat->Prop} {T:Nat->AV} {ps hs:List Nat} {n nl:Nat} {ys:List AV} {own own2:List (Nat × AObj)} {lent:Nat->Option AObj}
  (hs1:RStat F T ps hs n nl ys own lent keep) (hR:RH F ws ρs oks keep l rc (qb own) jj ownr w ρk ownk fz) {Pr:Nat->Prop} (hPr:∀ b,Pr b->¬ ownr.all b/\b < w.heap.size) {ownx:Own} (hxa:∀ b,ownx.all b ↔ ownr.all b\/Pr b) (hxp:∀ b,ownx.prv b ↔ ownr.prv b\/Pr b)
  {ρx:Nat->Value} {yv:Value} (lbl:∀ m o,lent m=some o->∀ b,blk (ρx m)=some b->b < w.heap.size) (linj:∀ i k o o' b,lent i=some o->lent k=some o'->blk (ρx i)=some b->blk (ρx k)=some b->i=k) (loff:∀ m o b,lent m=some o->blk (ρx m)=some b->¬ ownx.all b)
  (lids:∀ m o,lent m=some o->∀ id ∈ o.ids,∃ o',lent id=some o') (hpin:∀ m c,hs[m]?=some c->ρx m=ρk c)
  (hkeep:∀ id,keep id->id < n/\∃ o,qb (own++zk hs n nl lent) id=some o) (hlast:∀ m o0,lent m=some o0->∃ o,qb (own++zk hs n nl lent) (qj hs n m)=some o)
  {w2:World} {hrec:∃ rc,w2.heap[l]?=some (.loop rc)} (hw2:∀ b,Pr b->w2.heap[b]?=w.heap[b]?) {S:St} {a:Act} {w3:World} {ρ3:Nat->Value} {own3:Own}
  (H:Holds (Vu F l jj (fun b=>Pr b\/b=l) w2 (.inr rfl) hrec w (zA hs n nl ρk ρx) (qb (own++zk hs n nl lent)) (Qb ownk fun b=>Pr b\/b=l) (n+nl) (Zh hs1.hsn hs1.own)) S a w3 ρ3 own3)
  {σ:Nat->Option Nat} {hf:Nat->Option AObj} (hF:RFin S hs n own2 lent keep σ hf) :
  ∃ ownk' fz' ownr' ownx',RH F ws ρs oks keep l rc' (qb own2) (jj+S.j) ownr' (w3.putObj l (.loop rc')) (vM σ ρ3) ownk' fz'/\(∀ b,ownx'.all b ↔ ownr'.all b\/Pr b)/\(∀ b,ownx'.prv b ↔ ownr'.prv b\/Pr b) /\
   (∀ b,Pr b->¬ ownr'.all b/\b < (w3.putObj l (.loop rc')).heap.size/\(w3.putObj l (.loop rc')).heap[b]?=w.heap[b]?) /\
   (∀ m o,lent m=some o->ORel (w3.putObj l (.loop rc')) (okB (w3.putObj l (.loop rc')) ownx' ρx lent) ρx F.y o (ρx m))/\(∀ m o b,lent m=some o->blk (ρx m)=some b->¬ ownx'.all b) /\
   Ext (fun b=>ownx.prv b\/∃ i o,lent i=some o/\blk (ρx i)=some b) w (w3.putObj l (.loop rc'))/\∀ b,ownx'.prv b->ownx.prv b\/w.heap.size<=b:=by
 obtain ⟨ownk',hj,ha,hp,hpr⟩:=H.jay
 have hll:l < w.heap.size:=(aV.1 hR.rcd).1
 have hl3:l < w3.heap.size:=aE hll H.ext.size
 have hla:own3.all l:=(ha l).2 (.inr (.inr rfl))
 have hlp:own3.prv l:=(hp l).2 (.inr (.inr rfl))
 have hx4:Ext (fun k=>k=l) w3 (w3.putObj l (.loop rc')):=Ext.putObj _ _ _ rfl
 have hren:∀ m o,lent m=some o->zA hs n nl ρk ρx (qj hs n m)=ρx m:=fun m o h=>Zp hs1.hsn hpin (hs1.lent m o h).1
 have hlρ:∀ m o,lent m=some o->ρ3 (qj hs n m)=ρx m:=fun m o h=>by
  obtain ⟨o',ho'⟩:=hlast m o h
  exact (H.pins _ o' ho').trans (hren m o h)
 have hσ:∀ j i,σ j=some i->vM σ ρ3 j=ρ3 i:=fun j i h=>by simp only [vM,h]
 have hσ0:∀ j,σ j=none->vM σ ρ3 j=.slice none 0 0:=fun j h=>by simp only [vM,h]
 have hlook:∀ {i o},qb (own++zk hs n nl lent) i=some o->qb own i=some o\/∃ m o0,lent m=some o0/\i=qj hs n m:=fun {i o} hi=>by
  rw [yj] at hi
  cases ho:qb own i with
  |some o1=>rw [ho] at hi;exact .inl hi
  |none=>rw [ho] at hi;obtain ⟨m,o0,_,h0,e,_⟩:=ku hi;exact .inr ⟨m,o0,h0,e⟩
 have howns:∀ b,(∃ i o,qb (own++zk hs n nl lent) i=some o/\blk (zA hs n nl ρk ρx i)=some b)->vK (qb own) ρk b\/∃ m o0,lent m=some o0/\blk (ρx m)=some b:=by
  rintro b ⟨i,o,hi,hb⟩
  rcases hlook hi with h|⟨m,o0,h0,rfl⟩
  ·rw [zN (hs1.own i o h).1] at hb;exact .inl ⟨i,o,h,hb⟩
  ·rw [hren m o0 h0] at hb;exact .inr ⟨m,o0,h0,hb⟩
 have hb2:∀ b,vK (qb own2) (vM σ ρ3) b->∃ i o c ob,qb own2 i=some o/\σ i=some c/\S.h c=some ob/\blk (ρ3 c)=some b:=by
  rintro b ⟨i,o,hi,hb⟩
  rcases hF.fown i o hi with ⟨c,ob,hc,hob,_⟩|⟨hn,_⟩
  ·rw [hσ i c hc] at hb;exact ⟨i,o,c,ob,hi,hc,hob,hb⟩
  ·rw [hσ0 i hn] at hb;simp [blk] at hb
 have hbl:∀ m o b,lent m=some o->blk (ρx m)=some b->∃ ob,S.h (qj hs n m)=some ob/\blk (ρ3 (qj hs n m))=some b:=fun m o b h hb=>by
  obtain ⟨ob,hob,_⟩:=hF.flent m o h
  exact ⟨ob,hob,by rw [hlρ m o h];exact hb⟩
 have hcross:∀ b m o,lent m=some o->blk (ρx m)=some b->¬ vK (qb own2) (vM σ ρ3) b:=fun b m o h hb hk=>by
  obtain ⟨i,o1,c,ob,hi,hc,hob,hcb⟩:=hb2 b hk
  obtain ⟨ob',hob',hb'⟩:=hbl m o b h hb
  have:=H.inj c _ ob ob' b hob hob' hcb hb'
  subst this
  exact hF.apart i o1 m o hi h hc
 let fz':Nat->Prop:=fun b=>b < w3.heap.size/\¬ own3.prv b/\¬ vK (qb own2) (vM σ ρ3) b/\∀ m o,lent m=some o->blk (ρx m) ≠ some b
 have hok3:∀ b,okB w3 own3 ρ3 S.h b->fz' b:=fun b ⟨g1,g2,g3⟩=>⟨g1,g2,fun hk=>by obtain ⟨_,_,c,ob,_,_,hob,hcb⟩:=hb2 b hk;exact g3 c ob hob hcb,fun m o h hb=>by obtain ⟨ob,hob,hb'⟩:=hbl m o b h hb;exact g3 _ ob hob hb'⟩
 have hfzl:∀ b,fz' b->b ≠ l:=fun b hb e=>hb.2.1 (e ▸ hlp)
 have hrow:∀ i ox b,hf i=some ox->blk (ρ3 i)=some b->fz' b:=by
  intro i ox b hi hb
  obtain ⟨g1,g2,g3⟩:=hF.frz i _ hi
  refine ⟨(H.obj i _ g1).lt hb,fun hp=>(H.blkOK i _ b g1 hb).1 (own3.sub _ hp),fun hk=>?_,fun m o h hbm=>?_⟩
  ·obtain ⟨q,oq,c,ob,hq,hc,hob,hcb⟩:=hb2 b hk
   have:=H.inj i c _ ob b g1 hob hb hcb
   subst this
   exact g2 q oq hq hc
  ·obtain ⟨ob,hob,hb'⟩:=hbl m o b h hbm
   exact g3 m o h (H.inj i _ _ ob b g1 hob hb hb').symm
 have hobjf:∀ i o,hf i=some o->ORel w3 (okB w3 own3 ρ3 S.h) ρ3 F.y o (ρ3 i):=fun i o hi=>H.obj i o (hF.frz i o hi).1
 have hfz4:∀ b,fz' b->fz' b/\(w3.putObj l (.loop rc')).heap[b]?=w3.heap[b]?:=fun b hb=>⟨hb,hx4.block b hb.1 (hfzl b hb)⟩
 have hPl:∀ b,Pr b->b ≠ l:=fun b hb e=>(hPr b hb).1 (e ▸ (hR.all l).2 (.inr (.inr (.inl rfl))))
 have hfz0:∀ b,fz b->fz' b/\(w3.putObj l (.loop rc')).heap[b]?=w.heap[b]?:=fun b hb=>by
  obtain ⟨g1,g2,g3,g4⟩:=hR.fzok b hb
  have hal:ownr.all b:=(hR.all b).2 (.inr (.inr (.inr hb)))
  have hn0:¬ ((Qb ownk fun b=>Pr b\/b=l).prv b):=by
   rintro (h|h|h)
   ·exact g2 h
   ·exact (hPr b h).1 hal
   ·exact g4 h
  have hno:¬ ∃ i o,qb (own++zk hs n nl lent) i=some o/\blk (zA hs n nl ρk ρx i)=some b:=fun h=>by
   rcases howns b h with h|⟨m,o0,h0,hm⟩
   ·exact g3 h
   ·exact loff m o0 b h0 hm ((hxa b).2 (.inl hal))
  have hs3:∀ c ob,S.h c=some ob->blk (ρ3 c) ≠ some b:=fun c ob hc hb'=>by
   rcases (H.blkOK c ob b hc hb').2 with h|h
   ·have h:w.heap.size<=b:=h;omega
   ·exact hno h
  refine ⟨⟨aE g1 H.ext.size,fun h=>?_,fun hk=>?_,fun m o h hbm=>?_⟩, ?_⟩
  ·rcases H.ownsub b h with h|h
   ·exact hn0 h
   ·have h:w.heap.size<=b:=h;omega
  ·obtain ⟨_,_,c,ob,_,_,hob,hcb⟩:=hb2 b hk;exact hs3 c ob hob hcb
  ·obtain ⟨ob,hob,hb'⟩:=hbl m o b h hbm;exact hs3 _ ob hob hb'
  ·rw [hx4.block b (aE g1 H.ext.size) g4]
   exact H.ext.block b g1 fun h=>h.elim hn0 hno
 let ownr':Own:=⟨fun b=>ownk'.all b\/vK (qb own2) (vM σ ρ3) b\/b=l\/fz' b,fun b=>ownk'.prv b\/vK (qb own2) (vM σ ρ3) b\/b=l,fun b h=>h.imp (ownk'.sub b) fun h=>h.imp id .inl⟩
 have hall2:∀ b,vK (qb own2) (vM σ ρ3) b->¬ own3.all b:=fun b hk=>by obtain ⟨_,_,c,ob,_,_,hob,hcb⟩:=hb2 b hk;exact (H.blkOK c ob b hob hcb).1
 have hPn:∀ b,Pr b->¬ ownr'.all b:=fun b hb h=>by
  rcases h with h|h|h|h
  ·exact (hpr b (.inl hb)).1 h
  ·exact hall2 b h ((ha b).2 (.inr (.inl hb)))
  ·exact hPl b hb h
  ·exact h.2.1 ((hp b).2 (.inr (.inl hb)))
 have hok5:∀ b,fz' b->okB (w3.putObj l (.loop rc')) (Qb ownr' Pr) ρx lent b:=fun b hb=>by
  refine ⟨aE hb.1 hx4.size, ?_,hb.2.2.2⟩
  rintro ((h|h|h)|h)
  ·exact hb.2.1 ((hp b).2 (.inl h))
  ·exact hb.2.2.1 h
  ·exact hfzl b hb h
  ·exact hb.2.1 ((hp b).2 (.inr (.inl h)))
 have hM:∀ b,((Qb ownk fun b=>Pr b\/b=l).prv b\/∃ i o,qb (own++zk hs n nl lent) i=some o/\blk (zA hs n nl ρk ρx i)=some b)->ownx.prv b\/∃ i o,lent i=some o/\blk (ρx i)=some b:=by
  rintro b ((h|h|h)|h)
  ·exact .inl ((hxp b).2 (.inl ((hR.prv b).2 (.inl h))))
  ·exact .inl ((hxp b).2 (.inr h))
  ·exact .inl ((hxp b).2 (.inl ((hR.prv b).2 (.inr (.inr h)))))
  ·rcases howns b h with h|h
   ·exact .inl ((hxp b).2 (.inl ((hR.prv b).2 (.inr (.inl h)))))
   ·exact .inr h
 refine ⟨ownk',fz',ownr',Qb ownr' Pr, ?_,fun b=>Iff.rfl,fun b=>Iff.rfl,fun b hb=>⟨hPn b hb,aE (hpr b (.inl hb)).2.1 hx4.size, ?_⟩,fun m o h=>?_,fun m o b h hb=>?_, ?_,fun b hb=>?_⟩
 ·refine ⟨(F.stable _ _ _ hj).2 _ (hx4.weaken fun b _ e ho=>(hpr l (.inr rfl)).1 (e ▸ ho)),fun b=>Iff.rfl,fun b=>Iff.rfl,fun b hb=>⟨aE hb.1 hx4.size,fun h=>hb.2.1 ((hp b).2 (.inl h)),hb.2.2.1,hfzl b hb⟩,fun i o hi=>?_,fun i k o o' b hi hk hbi hbk=>?_,fun i o b hi hb=>?_,(hpr l (.inr rfl)).1, ?_,fun b hb=>?_,fun id hid=>?_,fun i o b hi hb=>?_,fun b hb=>?_,fun hj0=>?_,aN hR.big (aN H.ext.size hx4.size)⟩
  ·rcases hF.fown i o hi with ⟨c,ob,hc,hob,hle⟩|⟨hn,he⟩
   ·rw [hσ i c hc]
    refine (AObj.le_rel hobjf hok3 hrow hσ hσ0 (H.obj c ob hob) hle).mono hfz4 (fun b hb=>hx4.block b ((H.obj c ob hob).lt hb) fun e=>(H.blkOK c ob b hob hb).1 (e ▸ hla)) fun _ _=>rfl
   ·rw [hσ0 i hn];exact Ye he
  ·rcases hF.fown i o hi with ⟨c,ob,hc,hob,_⟩|⟨hn,_⟩
   ·rcases hF.fown k o' hk with ⟨c',ob',hc',hob',_⟩|⟨hn,_⟩
    ·rw [hσ i c hc] at hbi
     rw [hσ k c' hc'] at hbk
     have:=H.inj c c' ob ob' b hob hob' hbi hbk
     subst this
     exact hF.inj i o k o' c hi hk hc hc'
    ·rw [hσ0 k hn] at hbk;simp [blk] at hbk
   ·rw [hσ0 i hn] at hbi;simp [blk] at hbi
  ·have:=hall2 b ⟨i,o,hi,hb⟩
   exact ⟨fun h=>this ((ha b).2 (.inl h)),fun e=>this (e ▸ hla)⟩
  ·rw [xN,if_pos ⟨rfl,hl3⟩]
  ·obtain ⟨g1,g2⟩:=hR.oks b hb
   exact ⟨(hfz0 b g1).1,(hfz0 b g1).2.trans g2⟩
  ·obtain ⟨hlt,o,ho⟩:=hkeep id hid
   rw [hσ id id (hF.fkeep id hid),H.pins id o ho]
   show zA hs n nl ρk ρx id=_
   rw [zN hlt];exact hR.keep id hid
  ·obtain ⟨_,_,c,ob,_,_,hob,hcb⟩:=hb2 b ⟨i,o,hi,hb⟩
   rcases (H.blkOK c ob b hob hcb).2 with h'|h'
   ·exact .inl (aN hR.big h')
   ·rcases howns b h' with ⟨q,oq,hq,hqb⟩|⟨m,o0,h0,hm⟩
    ·exact hR.prov q oq b hq hqb
    ·exact absurd ⟨i,o,hi,hb⟩ (hcross b m o0 h0 hm)
  ·rcases H.ownsub b ((hp b).2 (.inl hb)) with h|h
   ·rcases h with h|h|h
    ·exact hR.psub b h
    ·exact absurd (ownk'.sub b hb) (hpr b (.inl h)).1
    ·exact absurd (ownk'.sub b hb) (hpr b (.inr h)).1
   ·exact .inr (aN hR.big h)
  ·have hS0:S.j=0:=by omega
   have he:=H.still hS0
   have hk:ownk=F.own0:=hR.still (by omega)
   have hnk:∀ b,ownk.all b->¬ (Pr b\/b=l):=fun b hb h=>by
    rcases h with h|rfl
    ·exact (hPr b h).1 ((hR.all b).2 (.inl hb))
    ·exact hR.lown hb
   have he':own3=Qb ownk fun b=>Pr b\/b=l:=he
   rw [<- hk]
   refine Own.eq (fun b=>⟨fun hb=>?_,fun hb=>?_⟩) (fun b=>⟨fun hb=>?_,fun hb=>?_⟩)
   ·have:=(ha b).2 (.inl hb);rw [he'] at this;exact this.resolve_right fun h=>(hpr b h).1 hb
   ·have:own3.all b:=by rw [he'];exact .inl hb
    exact ((ha b).1 this).resolve_right (hnk b hb)
   ·have:=(hp b).2 (.inl hb);rw [he'] at this;exact this.resolve_right fun h=>(hpr b h).1 (ownk'.sub b hb)
   ·have:own3.prv b:=by rw [he'];exact .inl hb
    exact ((hp b).1 this).resolve_right (hnk b (ownk.sub b hb))
 ·rw [hx4.block b (hpr b (.inl hb)).2.1 (hPl b hb)]
  exact ((hpr b (.inl hb)).2.2).trans (hw2 b hb)
 ·obtain ⟨ob,hob,hle⟩:=hF.flent m o h
  have h1:=AObj.le_rel (ok':=okB (w3.putObj l (.loop rc')) (Qb ownr' Pr) ρx lent) (ρ':=fun j=>ρ3 (qj hs n j)) hobjf (fun b hb=>hok5 b (hok3 b hb)) (fun i ox b hi hb=>hok5 b (hrow i ox b hi hb)) (fun j i e=>by cases e;rfl) (fun j e=>by cases e) (H.obj _ ob hob) hle
  rw [hlρ m o h] at h1
  refine h1.mono (fun b hb=>⟨hb,hx4.block b (by have:=hb.1;simpa [World.putObj] using this) fun e=>hb.2.1 (.inl (.inr (.inr e)))⟩) (fun b hb=>?_) fun id hid=>?_
  ·obtain ⟨ob',hob',hb'⟩:=hbl m o b h hb
   exact hx4.block b ((H.obj _ ob' hob').lt hb') fun e=>(H.blkOK _ ob' b hob' hb').1 (e ▸ hla)
  ·obtain ⟨o',ho'⟩:=lids m o h id hid
   exact (hlρ id o' ho').symm
 ·rintro ((h'|h'|h'|h')|h')
  ·obtain ⟨ob,hob,hb'⟩:=hbl m o b h hb;exact (H.blkOK _ ob b hob hb').1 ((ha b).2 (.inl h'))
  ·exact hcross b m o h hb h'
  ·obtain ⟨ob,hob,hb'⟩:=hbl m o b h hb;exact (H.blkOK _ ob b hob hb').1 (h' ▸ hla)
  ·exact h'.2.2.2 m o h hb
  ·obtain ⟨ob,hob,hb'⟩:=hbl m o b h hb;exact (H.blkOK _ ob b hob hb').1 ((ha b).2 (.inr (.inl h')))
 ·have e1:Ext (fun b=>(Qb ownk fun b=>Pr b\/b=l).prv b\/∃ i o,qb (own++zk hs n nl lent) i=some o/\blk (zA hs n nl ρk ρx i)=some b) w w3:=H.ext
  exact (e1.trans hx4 fun b _ e=>.inl (.inr (.inr e))).weaken fun b _ h=>hM b h
 ·rcases hb with (h|h|h)|h
  ·rcases H.ownsub b ((hp b).2 (.inl h)) with h|h
   ·rcases h with h|h|h
    ·exact .inl ((hxp b).2 (.inl ((hR.prv b).2 (.inl h))))
    ·exact .inl ((hxp b).2 (.inr h))
    ·exact .inl ((hxp b).2 (.inl ((hR.prv b).2 (.inr (.inr h)))))
   ·exact .inr h
  ·obtain ⟨_,_,c,ob,_,_,hob,hcb⟩:=hb2 b h
   rcases (H.blkOK c ob b hob hcb).2 with h'|h'
   ·exact .inr h'
   ·rcases howns b h' with h'|⟨m,o0,h0,hm⟩
    ·exact .inl ((hxp b).2 (.inl ((hR.prv b).2 (.inr (.inl h')))))
    ·exact absurd h (hcross b m o0 h0 hm)
  ·exact .inl ((hxp b).2 (.inl ((hR.prv b).2 (.inr (.inr h)))))
  ·exact .inl ((hxp b).2 (.inr h))
def Qcu:Exit->Option Code
 |.normal=>none
 |.ret=>some .ret
 |.exit id=>some (.exit id)
 |.goto l=>some (.goto l)
 |.panic _=>none
 |.outgrown=>none
def recAt (rec0:Loop) (ans:Nat->Bool) (ex:Exit) (k:Nat):Loop:=if 0 < k/\ans (k - 1)=false then { rec0 with state:=.done,pending:=Qcu ex } else rec0
def endK (ans:Nat->Bool) (ex:Exit) (jj:Nat->Nat) (hs:List Nat) (n:Nat) (hc:Nat->List (Nat × AObj)) (lent:Nat->Nat->Option AObj) (keep:Nat->Prop) (j:Nat):Exit->St->Prop :=
 fun e S=>(e=if ans j=true then .normal else ex)/\jj (j+1)=jj j+S.j/\∃ σ hf,RFin S hs n (hc (j+1)) (lent j) keep σ hf
def Qfd (ps:Array Nat) (vs tmps:Array Value):(ps.zip vs).foldl (fun tmps (t,a)=>tmps.setIfInBounds t a) tmps=(ps.toList.zip vs.toList).foldl (fun (tmps:Array Value) p=>tmps.setIfInBounds p.1 p.2) tmps:=by
 rw [<- Array.foldl_toList];simp
def QcC (T:Nat->AV) (hs:List Nat) (n:Nat) (hm:Nat->List (Nat × AObj)) (h0:Nat->Option AObj) (jj:Nat->Nat) (d:List ADf) (m k:Nat):St :=
 {t:=T,h:=qb (hm k++zk hs (n+1) 0 h0),n:=n+1,j:=jj k,d:=.mark n :: d,m:=m }
def K5 {L:List (Nat × AObj)} {k:Nat} {o:AObj} (h:(k,o) ∈ L):∃ o',qb L k=some o':=by
 induction L with
 |nil=>simp at h
 |cons p r ih =>
  simp only [qb]
  split
  ·exact ⟨_,rfl⟩
  ·rename_i hk
   rcases ah.1 h with e|h
   ·exact absurd (by rw [<- e]) hk
   ·exact ih h
def Qbm {hs:List Nat} {n q:Nat} {h0:Nat->Option AObj} {o0:AObj} (hnd:hs.Nodup) (hq:h0 q=some o0) (hlt:q < hs.length):qb (zk hs n 0 h0) (qj hs n q)=some (o0.ren (qj hs n)):=by
 obtain ⟨o',ho'⟩:=K5 (L:=zk hs n 0 h0) (k:=qj hs n q) (o:=o0.ren (qj hs n)) (bS.2 ⟨q,aY.2 (by omega),by simp [hq]⟩)
 obtain ⟨q',o1,hlt',hq',e,rfl⟩:=ku ho'
 have hqq:q=q':=by
  simp only [qj,ak hlt,ak (show q' < hs.length by omega)] at e
  exact (List.getElem_inj (h₀:=hlt) (h₁:=by omega) hnd).1 e
 subst hqq
 rw [hq] at hq';cases hq'
 exact ho'
def Ql7 (T:Nat->AV) (hs:List Nat) (n m:Nat) (d:List ADf) (id:Nat):Prop:=id < m\/id ∈ hs\/(∃ t,id ∈ (T t).ids)\/id ∈ (ADf.mark n :: d).flatMap ADf.ids
def nth (L:List AObj) (i:Nat):Option AObj:=L[i]?
def xc (S:St) (hs:List Nat):List Nat->List AObj->Prop
 |c :: cs,o :: os=>(match S.h c with|some ob=>AObj.le (fun _=>none) (fun j=>hs[j]?) ob o|none=>False)/\xc S hs cs os
 |[],[]=>True
 |_,_=>False
def Jf {S:St} {hs:List Nat}:∀ {cs:List Nat} {os:List AObj},xc S hs cs os->cs.length=os.length/\∀ (i:Nat) (o:AObj),os[i]?=some o->∃ c ob,cs[i]?=some c/\S.h c=some ob/\AObj.le (fun _=>none) (fun j=>hs[j]?) ob o
 |[],[],_=>by simp
 |c :: cs,o :: os,h=>by
  obtain ⟨h1,h2⟩:=h
  obtain ⟨g1,g2⟩:=Jf h2
  refine ⟨by simp [g1],fun i o' ho=>?_⟩
  cases i with
  |zero =>
   simp only [aJ,al] at ho
   subst ho
   split at h1
   ·rename_i ob hob;exact ⟨c,ob,rfl,hob,h1⟩
   ·exact h1.elim
  |succ i=>simpa using g2 i o' (by simpa using ho)
 |[],_ :: _,h=>h.elim
 |_ :: _,[],h=>h.elim
def cbE (hs:List Nat) (ys:Nat->List AV) (hl:Nat->List AObj) (ans:Nat->Bool) (R:Nat) (S:St) (bs:List AV):Ans :=
 (S.j < R/\AV.leL (fun _=>none) (fun j=>hs[j]?) bs (ys S.j)/\xc S hs hs (hl S.j)/\∀ o ∈ hl S.j,∀ id ∈ o.ids,id < hs.length,za S hs [] [] (.v (.bool (ans S.j))) (nth (hl S.j)) 0 1)
def QfN {hp hp0:Nat->Option AObj} {ys:Nat->List AV} {hl:Nat->List AObj} {ans:Nat->Bool} {R:Nat} {hs:List Nat} (hA:∀ F,A F->Acb P hp hp0 ys (fun j=>nth (hl j)) ans R F) (hpin:∀ i o,hp i=some o->hs[i]?=some i) (hnd:hs.Nodup)
  {S:St} {bs:List AV} (h:(cbE hs ys hl ans R S bs).1) (hS:Wf S) {ops:Array Oper} {o:Oper} {g:Operand} {args:Array Operand} {tys:Array TypeId} {caps:List AV} (hw:Want ops o S)
  (ho:o.op=.call { callee:=.value g,args:=args,argTypes:=tys }) (hg:zT (ev S g)=some (none,caps)) (hb:args.toList.map (ev S)++caps=bs):VE A P ops o (cbE hs ys hl ans R S bs).2 S:=by
 obtain ⟨h1,h2,h3,h4⟩:=h
 have hg':ev S g=.cb/\caps=[]:=by
  unfold zT at hg
  split at hg
  ·simp at hg
  ·rename_i he;simp only [al,Prod.mk.injEq,true_and] at hg;exact ⟨he,hg.symm⟩
  ·simp at hg
  ·cases hg
 obtain ⟨hg',rfl⟩:=hg'
 rw [be] at hb
 obtain ⟨g1,g2⟩:=Jf h3
 exact ve_cb hS hw ho hg' hA h1 (hs:=hs) (bo:=[]) (hf:=fun _=>none) hpin (by rw [hb];exact h2) (fun i o0 hi=>g2 i o0 hi) (fun j hj=>⟨_,ak (by omega)⟩) hnd (fun i ob hi=>by cases hi) (by simp)
  (fun i ob hi=>⟨by have:=(am.1 hi).1;omega,fun id hid=>by have:=h4 ob (af hi) id hid;omega⟩)
def tabC (cb:Entry) (L:List (FuncId × Entry)):Ctr:=fun S f bs=>match f with
 |some f=>Qej S f bs L
 |none=>cb S bs
def RN {cb:Entry} {L:List (FuncId × Entry)} (hcb:∀ S bs,(cb S bs).1->Wf S->∀ ops o g args tys caps,Want ops o S->o.op=.call { callee:=.value g,args:=args,argTypes:=tys }->zT (ev S g)=some (none,caps)->args.toList.map (ev S)++caps=bs->VE A P ops o (cb S bs).2 S)
  (h:VZ A P L):Ctr.OK A P (tabC cb L):=by
 intro S f bs hp hS ops o g args tys caps hw ho hg hb
 cases f with
 |none=>exact hcb S bs hp hS ops o g args tys caps hw ho hg (by rw [Qei hg] at hb;exact hb)
 |some f=>exact QiA h S (some f) bs hp hS ops o g args tys caps hw ho hg hb
def Qd4 {t e:TypeId} (ht:P.underlying t=some (.slice e)) (a:Option Addr) (n c:Nat) (w:World):(Op.equal t (.slice a n c) (.slice none 0 0)).run P w=.ok a.isNone w:=by
 have key:∀ d,(Op.equalIn (d+1) t (.slice a n c) (.slice none 0 0)).run P w=.ok a.isNone w:=fun d=>by
  cases a <;> simp [Op.equalIn,run_underlying ht]
 exact key 9999
def QmI {ops:Array Oper} {o:Oper} {F:Frm} {S:St} {a:Act} {w:World} (hg:Gam F S a w) {d t c:Nat} {x:Operand} {e:TypeId} (hd:o.dst=some d) (hgd:o.guard=none) (ho:o.op=.binOp .eql t x (.const (.slice none 0 0)) c) (hdn:d < F.nt) {xs:List (List DV)} (hx:ev S x=.sl xs)
  (ht:P.underlying t=some (.slice e)) {K:Act->World->Prop} {Q:Exit->Act->World->Prop} (hK:∀ b,(b=true->xs=[])->∀ a',Gam F (S.app (some d) { av:=.v (.bool b),n:=S.n }) a' w->K a' w):o.wpIn (W F.r) 0 P a w K Q:=by
 obtain ⟨ρ,own,H⟩:=hg
 have h1:=qD H x
 rw [hx] at h1
 generalize hv:a.eval x=v at h1
 cases h1 with
 |sl hdr =>
  have hshape:∃ A n c,v=.slice A n c/\(A.isNone=true->xs=[]):=by
   cases hdr with
   |sl0 hc=>exact ⟨_,_,_,rfl,fun _=>rfl⟩
   |sl f h1 h2=>exact ⟨_,_,_,rfl,fun h=>by simp at h⟩
  obtain ⟨A0,n0,c0,rfl,hnil⟩:=hshape
  have hcv:a.eval (.const (.slice none 0 0))=.slice none 0 0:=rfl
  refine wU (w':=w) (v:=.bool A0.isNone) (by simp [ho]) ?_ ?_
  ·have hgu:(eqGuard .eql t x (.const (.slice none 0 0)) (.slice A0 n0 c0) (.slice none 0 0)).run P w=.ok () w:=by simp [eqGuard]
   simp [execOp,ho,hv,hcv,hgu,binOp,Qd4 ht]
  ·rw [hd]
   refine hK _ hnil _ ⟨ρ,own, ?_⟩
   have:=H.app (dst:=some d) (e:={ av:=.v (.bool A0.isNone),n:=S.n }) (v':=.bool A0.isNone) (w':=w) (ρ':=ρ) (own':=own) (ds:=[]) (fun q hq=>by cases hq;exact hdn) H.jay (Ext.refl _ _) (.inl rfl) (by simp) (fun _ _=>rfl) (by simp) (.v rfl)
    (by simp [Eff.keys]) (by simp [Eff.keys]) (by simp [Eff.ids,AV.ids,zP]) .nil
   simpa [Act.put] using this
def QjG {o:Oper} {F:Frm} {S:St} {a:Act} {w:World} (hg:Gam F S a w) {d:Nat} {x:Operand} (hd:o.dst=some d) (ho:o.op=.move x) (hdn:d < F.nt) {K:Act->World->Prop} {Q:Exit->Act->World->Prop}
  (hK:∀ a',Gam F (S.app (some d) { av:=ev S x,n:=S.n }) a' w->K a' w):o.wpIn (W F.r) 0 P a w K Q:=by
 have hwf:=hg.wf
 obtain ⟨ρ,own,H⟩:=hg
 refine wU (w':=w) (v:=a.eval x) (by simp [ho]) (by simp [execOp,ho]) ?_
 rw [hd]
 refine hK _ ⟨ρ,own, ?_⟩
 have:=H.app (dst:=some d) (e:={ av:=ev S x,n:=S.n }) (v':=a.eval x) (w':=w) (ρ':=ρ) (own':=own) (ds:=[]) (fun q hq=>by cases hq;exact hdn) H.jay (Ext.refl _ _) (.inl rfl) (by simp) (fun _ _=>rfl) (by simp) (qD H x)
  (by simp [Eff.keys]) (by simp [Eff.keys]) (fun id hid=>by
   have:=jS hwf x id (by simpa [Eff.ids,zP] using hid)
   exact aE this (cC _ _)) .nil
 simpa [Act.put] using this
def Qj {id d1 d2 t c:Nat} {o1 o2:Oper} {x:Operand} {S:St} {K:Exit->St->Prop} {e:TypeId} {xs:List (List DV)} (hd1:o1.dst=some d1) (hg1:o1.guard=none) (ho1:o1.op=.move x) (hd2:o2.dst=some d2) (hg2:o2.guard=none) (ho2:o2.op=.binOp .eql t (.tmp d1) (.const (.slice none 0 0)) c)
  (ht:P.underlying t=some (.slice e)) (hx:ev S x=.sl xs) (h:∀ b,(b=true->xs=[])->K .normal ((S.app (some d1) { av:=.sl xs,n:=S.n }).app (some d2) { av:=.v (.bool b),n:=(S.app (some d1) { av:=.sl xs,n:=S.n }).n })):Sym A P (.region id #[o1,o2] false) S K:=by
 intro F hF hd a w hg
 simp only [vN,dp,List.all_nil,cH,bz,QaL,hd1,hd2,decide_eq_true_eq] at hd
 refine wpIn_region ?_
 show wpOpsIn (W F.r) 0 P #[o1,o2] _ [0,1] a w
 have w1:∀ y,Region.wanted o1 y=true:=fun y=>by simp [Region.wanted,hg1]
 have w2:∀ y,Region.wanted o2 y=true:=fun y=>by simp [Region.wanted,hg2]
 simp only [wpOpsIn,cq,aJ,bw,w1,w2,if_true]
 refine QjG hg hd1 ho1 hd.1 fun a' hg'=>?_
 rw [hx] at hg'
 refine QmI (ops:=#[]) hg' hd2 hg2 ho2 hd.2 (x:=.tmp d1) (xs:=xs) (by simp [ev,St.app,put,upd_same]) ht fun b hb a'' hg''=>?_
 exact ⟨_,h b hb,hg''⟩
end Go.Sym
namespace Go.Sym
open Go
def Fin.ok {S:St} {rv v:AV} {n0:Nat} {H:List (Nat × AObj)} {dj:Nat} (σ:Nat->Option Nat) (fz:List Nat) (hv:AV.le (fun i=>if i ∈ fz then S.h i else none) σ rv v) (hh:leH S (fun i=>if i ∈ fz then S.h i else none) σ H)
  (hi:(JG σ H).Nodup) (hz:∀ i ∈ fz,i ∉ JG σ H) (hp:∀ i,i < n0->σ i=some i) (hj:S.j=dj):Fin S rv v n0 (qb H) dj:=by
 refine ⟨σ,_,hv,fun i o1 h=>Vb hh _ (qG h),fun i o k o' c h h' e e'=>?_,fun i o h=>?_,hp,hj⟩
 ·rcases JU hi _ (qG h) _ (qG h') c e e' with h|h|h
  ·exact congrArg (·.1) h
  ·exact h
  ·exact h.elim
 ·by_cases hm:i ∈ fz
  ·rw [if_pos hm] at h
   exact ⟨h,fun j o1 hj hs=>hz i hm (bS.2 ⟨_,qG hj,hs⟩)⟩
  ·rw [if_neg hm] at h;cases h
variable {A : Frm -> Prop} {P : Program}
def qB:Nat->List AObj->List (Nat × AObj)
 |_,[]=>[]
 |k,o :: os=>(k,o) :: qB (k+1) os
def ze:Nat->List (Option AObj)->List (Nat × AObj)
 |_,[]=>[]
 |k,some o :: os=>(k,o) :: ze (k+1) os
 |k,none :: os=>ze (k+1) os
def zZ:∀ (L:List AObj) (k i:Nat),qb (qB k L) i=if i < k then none else L[i - k]?
 |[],k,i=>by simp [qB,qb]
 |o :: os,k,i=>by
  simp only [qB,qb]
  by_cases h:i=k
  ·subst h;simp
  ·rw [if_neg h,zZ os (k+1) i]
   by_cases h1:i < k
   ·rw [if_pos h1,if_pos (by omega)]
   ·rw [if_neg h1,if_neg (by omega),show i - k=(i - (k+1))+1 by omega,bw]
def xm:∀ (L:List (Option AObj)) (k i:Nat),qb (ze k L) i=if i < k then none else (L[i - k]?).join
 |[],k,i=>by simp [ze,qb]
 |o :: os,k,i=>by
  have key:qb (ze k (o :: os)) i=if i=k then o else qb (ze (k+1) os) i:=by
   cases o with
   |none =>
    simp only [ze]
    by_cases h:i=k
    ·subst h;rw [if_pos rfl,xm os,if_pos (by omega)]
    ·rw [if_neg h]
   |some o=>simp only [ze,qb]
  rw [key]
  by_cases h:i=k
  ·subst h;simp
  ·rw [if_neg h,xm os (k+1) i]
   by_cases h1:i < k
   ·rw [if_pos h1,if_pos (by omega)]
   ·rw [if_neg h1,if_neg (by omega),show i - k=(i - (k+1))+1 by omega,bw]
structure Pk where
 pre:Prop:=True
 hs:List Nat:=[]
 bo:List Nat:=[]
 ar:List AV
 L0:List AObj:=[]
 v:AV
 L1:List (Option AObj):=[]
 fl:Bool:=false
def Ku (S:St) (hf:Nat->Option AObj) (hs:List Nat):List Nat->List AObj->Prop
 |c :: cs,o :: os=>(match S.h c with|some ob=>AObj.le hf (fun j=>hs[j]?) ob o|none=>False)/\Ku S hf hs cs os
 |[],[]=>True
 |_,_=>False
def QB {S:St} {hf:Nat->Option AObj} {hs:List Nat}:∀ {cs:List Nat} {os:List AObj},Ku S hf hs cs os->cs.length=os.length/\∀ (i:Nat) (o:AObj),os[i]?=some o->∃ c ob,cs[i]?=some c/\S.h c=some ob/\AObj.le hf (fun j=>hs[j]?) ob o
 |[],[],_=>by simp
 |c :: cs,o :: os,h=>by
  obtain ⟨h1,h2⟩:=h
  obtain ⟨g1,g2⟩:=QB h2
  refine ⟨by simp [g1],fun i o' ho=>?_⟩
  cases i with
  |zero =>
   simp only [aJ,al] at ho
   subst ho
   split at h1
   ·rename_i ob hob;exact ⟨c,ob,rfl,hob,h1⟩
   ·exact h1.elim
  |succ i=>simpa using g2 i o' (by simpa using ho)
 |[],_ :: _,h=>h.elim
 |_ :: _,[],h=>h.elim
def Qa0 (n:Nat):List (Option AObj)->Prop
 |[]=>True
 |some o :: r=>(∀ id ∈ o.ids,id < n)/\Qa0 n r
 |none :: r=>Qa0 n r
def QJ {n:Nat}:∀ {L:List (Option AObj)},Qa0 n L->∀ (i:Nat) (o:AObj),L[i]?=some (some o)->∀ id ∈ o.ids,id < n
 |some o :: r,h,0,o',ho=>by simp only [aJ,al] at ho;subst ho;exact h.1
 |none :: r,h,0,o',ho=>by simp at ho
 |some o :: r,h,i+1,o',ho=>QJ h.2 i o' (by simpa using ho)
 |none :: r,h,i+1,o',ho=>QJ (L:=r) h i o' (by simpa using ho)
def Xi:List (Option AObj)->Prop
 |[]=>True
 |some o :: r=>o.flat/\Xi r
 |none :: r=>Xi r
def QD:∀ {L:List (Option AObj)},Xi L->∀ (i:Nat) (o:AObj),L[i]?=some (some o)->o.flat
 |some o :: r,h,0,o',ho=>by simp only [aJ,al] at ho;subst ho;exact h.1
 |none :: r,h,0,o',ho=>by simp at ho
 |some o :: r,h,i+1,o',ho=>QD h.2 i o' (by simpa using ho)
 |none :: r,h,i+1,o',ho=>QD (L:=r) h i o' (by simpa using ho)
def QiI (S:St) (hs:List Nat):List Nat->Prop
 |[]=>True
 |c :: cs=>((S.h c).isSome=true/\c ∉ hs)/\QiI S hs cs
def yL {S:St} {hs:List Nat}:∀ {bo:List Nat},QiI S hs bo->∀ i ∈ bo,(∃ ob,S.h i=some ob)/\i ∉ hs
 |c :: cs,h,i,hi=>by
  rcases ah.1 hi with rfl|hi
  ·exact ⟨cU.1 h.1.1,h.1.2⟩
  ·exact yL h.2 i hi
def hwL (τ:Nat->Nat):Nat->List (Option AObj)->List (Nat × Option AObj)
 |_,[]=>[]
 |j,o :: os=>(τ j,o.map (AObj.ren τ)) :: hwL τ (j+1) os
def Rb (τ:Nat->Nat):∀ (L:List (Option AObj)) (k:Nat),hwL τ k L=(List.range L.length).map fun j=>(τ (k+j),((L[j]?).join).map (AObj.ren τ))
 |[],k=>rfl
 |o :: os,k=>by
  rw [hwL,Rb τ os (k+1),bi,dq,aj,bT]
  congr 1
  refine cV fun j _=>?_
  simp only [Function.comp_apply,bw,dM]
  rw [show k+1+j=k+(j+1) by omega]
def VT:Nat->Nat->List Nat
 |_,0=>[]
 |n,k+1=>n :: VT (n+1) k
def Qaw:∀ (k n:Nat),VT n k=(List.range k).map (n+·)
 |0,n=>rfl
 |k+1,n=>by
  rw [VT,Qaw k,dq,aj,bT]
  congr 1
  refine cV fun j _=>?_
  simp only [Function.comp_apply,dM]
  omega
def Pk.hf (q:Pk) (S:St):Nat->Option AObj:=fun i=>if i ∈ q.bo then S.h i else none
def Pk.ok (q:Pk) (S:St) (bs:List AV):Prop :=
 q.pre/\AV.leL (q.hf S) (fun j=>q.hs[j]?) bs q.ar/\Ku S (q.hf S) q.hs q.hs q.L0/\q.hs.Nodup/\QiI S q.hs q.bo/\q.hs.length<=q.L1.length/\(∀ id ∈ q.v.ids,id < q.L1.length)/\Qa0 q.L1.length q.L1/\(q.fl=true->q.v.flat/\Xi q.L1)
def Pk.eff (q:Pk) (S:St):Eff :=
 {av:=q.v.ren (qj q.hs S.n),hw:=hwL (qj q.hs S.n) 0 q.L1++zf (bif q.fl then [] else q.bo),hr:=q.hs++q.bo,news:=VT S.n (q.L1.length - q.hs.length),n:=S.n+(q.L1.length - q.hs.length) }
def fnE (spec:St->List AV->Option Pk) (S:St) (bs:List AV):Ans:=match spec S bs with
 |none=>bad
 |some q=>(q.ok S bs,q.eff S)
def Pk.eff_eq (q:Pk) (S:St) (hl:q.hs.length<=q.L1.length):q.eff S=za S q.hs q.bo (bif q.fl then [] else q.bo) q.v (qb (ze 0 q.L1)) (q.L1.length - q.hs.length) 0:=by
 simp only [Pk.eff,za,Rb,Qaw,xm,bp,if_false,aO,bf]
 rw [show q.hs.length+(q.L1.length - q.hs.length)=q.L1.length by omega]
def Yu {B:Ctx->Prop} (hB:∀ F S hs bo ρ own w,A F->B (xZ F S hs bo ρ own w)) {f:FuncId} {spec:St->List AV->Option Pk} (hf:∀ S bs q,spec S bs=some q->q.pre->Fn B P f q.ar (qb (qB 0 q.L0)) q.v (qb (ze 0 q.L1)) 0)
  {S:St} {bs:List AV} (h:(fnE spec S bs).1) (hS:Wf S) {ops:Array Oper} {o:Oper} {g:Operand} {args:Array Operand} {tys:Array TypeId} {caps:List AV} (hw:Want ops o S)
  (ho:o.op=.call { callee:=.value g,args:=args,argTypes:=tys }) (hg:zT (ev S g)=some (some f,caps)) (hb:Qk (ev S g)++(args.toList.map (ev S)++caps)=bs):VE A P ops o (fnE spec S bs).2 S:=by
 unfold fnE at h ⊢
 cases hq:spec S bs with
 |none=>rw [hq] at h;exact h.elim
 |some q =>
  rw [hq] at h
  simp only at h ⊢
  obtain ⟨h1,h2,h3,h4,h5,h6,h7,h8,h9⟩:=h
  rw [q.eff_eq S h6]
  have hgc:=xY hg
  obtain ⟨g1,g2⟩:=QB h3
  have hlen:q.hs.length+(q.L1.length - q.hs.length)=q.L1.length:=by omega
  have get1:∀ i o,qb (ze 0 q.L1) i=some o->q.L1[i]?=some (some o):=fun i o hi=>by
   rw [xm,if_neg (by omega),aO] at hi
   cases hh:q.L1[i]? with
   |none=>rw [hh] at hi;cases hi
   |some x=>rw [hh] at hi;simp only [cW] at hi;rw [hi]
  refine Rf hS hw ho hgc (hf S bs q hq h1) (fun h=>absurd rfl h) (fun F S2 _ w ρ own h _ _ _=>hB F S2 _ _ ρ own w h) (hf:=q.hf S) (by rw [hb];exact h2) (fun i o0 hi=>?_) (fun j hj=>?_) h4 (fun i ob hi=>?_) (yL h5) ?_ (by rw [hlen];exact h7) (fun i ob hi=>?_)
  ·rw [zZ,if_neg (by omega),aO] at hi
   exact g2 i o0 hi
  ·rw [zZ,if_neg (by omega),aO]
   exact ⟨_,ak (by omega)⟩
  ·unfold Pk.hf at hi
   by_cases hm:i ∈ q.bo
   ·rw [if_pos hm] at hi;exact ⟨hi,(yL h5 i hm).2,hm⟩
   ·rw [if_neg hm] at hi;cases hi
  ·cases hfl:q.fl with
   |false=>exact .inl rfl
   |true =>
    obtain ⟨e1,e2⟩:=h9 hfl
    exact .inr ⟨rfl,e1,fun i ob hi=>QD e2 i ob (get1 i ob hi)⟩
  ·rw [hlen]
   have:=get1 i ob hi
   exact ⟨(am.1 this).1,QJ h8 i ob this⟩
def zJ {f:FuncId} {spec:St->List AV->Option Pk} (hf:∀ S bs q,spec S bs=some q->q.pre->Fn noB P f q.ar (qb (qB 0 q.L0)) q.v (qb (ze 0 q.L1)) 0):qm A P f (fnE spec) :=
 fun _ _ h hS _ _ _ _ _ _ hw ho hg hb=>Yu (B:=noB) (fun _ _ _ _ _ _ _ _=>trivial) hf h hS hw ho hg hb
def Qbp {T:World->Prop} {f:FuncId} {spec:St->List AV->Option Pk} (hf:∀ S bs q,spec S bs=some q->q.pre->Fn (jd T) P f q.ar (qb (qB 0 q.L0)) q.v (qb (ze 0 q.L1)) 0):qm (zW T) P f (fnE spec) :=
 fun _ _ h hS _ _ _ _ _ _ hw ho hg hb=>Yu (B:=jd T) (fun _ _ _ _ _ _ _ h=>WA h) hf h hS hw ho hg hb
end Go.Sym
namespace Go.Sym
def z1:=@not_false_eq_true
def z2:=@not_true_eq_false
def z3:=@Nat.max_self
def z4:=@Nat.max_def
def z5:=@List.toList_toArray
def z6:=@cY
def z7:=@Bool.not_false
def z8:=@beq_self_eq_true
def z9:=@Bool.or_true
def z10:=@Bool.true_or
def z11:=@Bool.or_self
def z12:=@Bool.false_or
def z13:=@Bool.or_false
def z14:=@cq
def z15:=@bw
def z16:=@aJ
def z17:=@List.getElem?_nil
def z18:=@Option.bind_some
def z19:=@aF
def z20:=@decide_eq_true_eq
def z21:=@decide_eq_false_iff_not
def z22:=@dC
def z23:=@Bool.not_eq_false'
def z24:=@dp
def z25:=@List.all_nil
def z26:=@Bool.and_self
def z27:=@cH
def z28:=@bm
def z29:=@bi
def z30:=@bH
def z31:=@List.drop_succ_cons
def z32:=@List.drop_zero
def z33:=@cI
def z34:=@dt
def z35:=@List.take_nil
def z36:=@List.drop_nil
def z37:=@aj
def z38:=@au
def z39:=@aQ
def z40:=@be
def z41:=@bJ
def z42:=@c8
def z43:=@bf
def z44:=@bj
def z45:=@cL
def z46:=@cA
def z47:=@cJ
def z48:=@aw
def z49:=@Option.isSome_some
def z50:=@bP
def z51:=@bX
def z52:=@ao
def z53:=@aW
def z54:=@ah
def z55:=@aX
def z56:=@cr
def z57:=@List.nodup_nil
def z58:=@false_implies
def z59:=@implies_true
def z60:=@forall_eq_or_imp
def z61:=@forall_const
def z62:=@al
def z63:=@Int.toNat_zero
def z64:=@cS
def z65:=@Nat.lt_add_one
def z66:=@Nat.zero_lt_succ
def z67:=@ag
end Go.Sym
namespace Go.Sym
open Go
def vk0:=dT @kL.eq_1 (dT @kL.eq_2 (dT @Qc4.eq_1 (dT @Qc4.eq_2 (dT @QdV.eq_1 (dT @Xo.eq_1 (dT @Xo.eq_2 (dT @opE.eq_1 (dT @opE.eq_2 (dT @opE.eq_3 (dT @opE.eq_4 (dT @opE.eq_5 (dT @opE.eq_6 (dT @opE.eq_7 (dT @opE.eq_8 (dT @opE.eq_9 (dT @opE.eq_10 (dT @opE.eq_11 (dT @opE.eq_12 (dT @opE.eq_13 (dT @opE.eq_14 (dT @opE.eq_15 (dT @opE.eq_16 (dT @opE.eq_17 (dT @opE.eq_18 (dT @opE.eq_19 (dT @opE.eq_20 (dT @Lm.eq_1 (dT @Lm.eq_2 (dT @rdE.eq_1 (dT @rdE.eq_2 (dT @rdE.eq_3 (dT @rdE.eq_4 (dT @YC.eq_1 (dT @YC.eq_2 (dT @Qer.eq_1 (dT @Qer.eq_2 (dT @Qer.eq_3 (dT @Qer.eq_4 (@ZN.eq_1)))))))))))))))))))))))))))))))))))))))
def vk1:=dT @ZN.eq_2 (dT @ZN.eq_3 (dT @ZN.eq_4 (dT @ZB.eq_1 (dT @ZB.eq_2 (dT @ZB.eq_3 (dT @ZB.eq_4 (dT @ZB.eq_5 (dT @ZB.eq_6 (dT @ZB.eq_7 (dT @Qcg.eq_1 (dT @Qcg.eq_2 (dT @boxE.eq_1 (dT @Zn.eq_1 (dT @Zn.eq_2 (dT @Zn.eq_3 (dT @Zn.eq_4 (dT @kU.eq_1 (dT @kU.eq_2 (dT @kU.eq_3 (dT @kU.eq_4 (dT @kU.eq_5 (dT @kU.eq_6 (dT @kU.eq_7 (dT @kU.eq_8 (dT @kU.eq_9 (dT @kU.eq_10 (dT @kU.eq_11 (dT @kU.eq_12 (dT @kU.eq_13 (dT @kU.eq_14 (dT @kU.eq_15 (dT @kU.eq_16 (dT @kU.eq_17 (dT @VD.eq_1 (dT @VD.eq_2 (dT @VD.eq_3 (dT @VD.eq_4 (dT @Qfu.eq_1 (@Qfu.eq_2)))))))))))))))))))))))))))))))))))))))
def vk2:=dT @Qfu.eq_3 (dT @eqE.eq_1 (dT @eqE.eq_2 (dT @eqE.eq_3 (dT @unE.eq_1 (dT @unE.eq_2 (dT @unE.eq_3 (dT @V5.eq_1 (dT @V5.eq_2 (dT @QcA.eq_1 (dT @QcA.eq_2 (dT @YN.eq_1 (dT @YN.eq_2 (dT @YN.eq_3 (dT @YN.eq_4 (dT @YN.eq_5 (dT @YN.eq_6 (dT @YN.eq_7 (dT @YN.eq_8 (dT @YN.eq_9 (dT @xh.eq_1 (dT @xh.eq_2 (dT @xh.eq_3 (dT @xh.eq_4 (dT @xh.eq_5 (dT @dstE.eq_1 (dT @dstE.eq_2 (dT @dstE.eq_3 (dT @dstE.eq_4 (dT @Qgs.eq_1 (dT @Qgs.eq_2 (dT @Qbs (dT @Lc (dT @XF (dT @QdI.eq_1 (dT @QdI.eq_2 (dT @isSlice.eq_1 (dT @isSlice.eq_2 (dT @minE.eq_1 (@minE.eq_2)))))))))))))))))))))))))))))))))))))))
def vk3:=dT @maxE.eq_1 (dT @maxE.eq_2 (dT @zb.eq_1 (dT @zb.eq_2 (dT @zb.eq_3 (dT @slE.eq_1 (dT @slE.eq_2 (dT @slE.eq_3 (dT @slE.eq_4 (dT @Z4.eq_1 (dT @Z4.eq_2 (dT @Z4.eq_3 (dT @Xy.eq_1 (dT @Uu.eq_1 (dT @Uu.eq_2 (dT @Qiw.eq_1 (dT @Qiw.eq_2 (dT @Qdi.eq_1 (dT @Qdi.eq_2 (dT @Ky.eq_1 (dT @Ky.eq_2 (dT @isNil.eq_1 (dT @isNil.eq_2 (dT @X7.eq_def (dT @X7.eq_2 (dT @vg.eq_1 (dT @vg.eq_2 (dT @vg.eq_3 (dT @vg.eq_4 (dT @Qh8.eq_1 (dT @Qh8.eq_2 (dT @Qh8.eq_3 (dT @yD.eq_1 (dT @yD.eq_2 (dT @Ry.eq_1 (dT @Ry.eq_2 (dT @dvE.eq_1 (dT @dvE.eq_2 (dT @dvE.eq_3 (dT @dvE.eq_4 (dT @dvE.eq_5 (@dvE.eq_6)))))))))))))))))))))))))))))))))))))))))
def vk4:=dT @xe.eq_1 (dT @xe.eq_2 (dT @bsE.eq_1 (dT @bsE.eq_2 (dT @ZY.eq_1 (dT @zT.eq_1 (dT @zT.eq_2 (dT @zT.eq_3 (dT @zo.eq_1 (dT @zo.eq_2 (dT @TD.elem.eq_1 (dT @TD.elem.eq_2 (dT @TD.elem.eq_3 (dT @TD.agg.eq_1 (dT @TD.agg.eq_2 (dT @TD.agg.eq_3 (dT @TD.agg.eq_4 (dT @TD.agg.eq_5 (dT @TD.agg.eq_6 (dT @TD.agg.eq_7 (dT @TD.agg.eq_8 (dT @TD.agg.eq_9 (dT @TD.agg.eq_10 (dT @TD.agg.eq_11 (dT @yY.eq_1 (dT @cellsOf.eq_1 (dT @cellsOf.eq_2 (dT @cellsOf.eq_3 (dT @cellsOf.eq_4 (dT @cellsOf.eq_5 (dT @cellsOf.eq_6 (dT @cellsOf.eq_7 (dT @cellsOf.eq_8 (dT @cellsOf.eq_9 (dT @cellsOf.eq_10 (dT @cellsOf.eq_11 (dT @cellsOf.eq_12 (dT @cellsOf.eq_13 (dT @cellsOf.eq_14 (@cellsOf.eq_15)))))))))))))))))))))))))))))))))))))))
def vk5:=dT @cellsOf.eq_16 (dT @jh.eq_1 (dT @jh.eq_2 (dT @jh.eq_3 (dT @jh.eq_4 (dT @jh.eq_5 (dT @jh.eq_6 (dT @jh.eq_7 (dT @jh.eq_8 (dT @jh.eq_9 (dT @jh.eq_10 (dT @jh.eq_11 (dT @jh.eq_12 (dT @jh.eq_13 (dT @jh.eq_14 (dT @jh.eq_15 (dT @jh.eq_16 (dT @dvZ.eq_1 (dT @dvL.eq_1 (dT @dvL.eq_2 (dT @AV.dv.eq_1 (dT @AV.dv.eq_2 (dT @AV.dv.eq_3 (dT @AV.dv.eq_4 (dT @AV.dv.eq_5 (dT @AV.dv.eq_6 (dT @AV.dv.eq_7 (dT @AV.dv.eq_8 (dT @AV.dv.eq_9 (dT @AV.dv.eq_10 (dT @AV.dv.eq_11 (dT @AV.dv.eq_12 (dT @AV.dv.eq_13 (dT @AV.dv.eq_14 (dT @AV.dv.eq_15 (dT @AV.dv.eq_16 (dT @DV.av.eq_1 (dT @DV.av.eq_2 (dT @ev.eq_1 (@ev.eq_2)))))))))))))))))))))))))))))))))))))))
def vk6:=dT @ev.eq_3 (dT @ev.eq_4 (dT @cAV.eq_1 (dT @cAV.eq_2 (dT @vF.eq_1 (dT @vF.eq_2 (dT @vF.eq_3 (dT @vF.eq_4 (dT @vF.eq_5 (dT @vF.eq_6 (dT @vF.eq_7 (dT @vF.eq_8 (dT @vF.eq_9 (dT @vF.eq_10 (dT @vF.eq_11 (dT @vF.eq_12 (dT @vF.eq_13 (dT @vF.eq_14 (dT @vF.eq_15 (dT @vF.eq_16 (dT @vF.eq_17 (dT @vF.eq_18 (dT @WR.eq_1 (dT @WR.eq_2 (dT @ZH.eq_1 (dT @ZH.eq_2 (dT @ZH.eq_3 (dT @St.lit.eq_1 (dT @St.app.eq_1 (dT @put.eq_1 (dT @put.eq_2 (dT @upd_same (dT @upd_ne (dT @zq.eq_1 (dT @zq.eq_2 (dT @Qhq (dT @QiU (dT @QkP (dT @Un.eq_1 (@Un.eq_2)))))))))))))))))))))))))))))))))))))))
def vk7:=dT @qV.eq_1 (dT @Jn.eq_1 (dT @jO.eq_1 (dT @zeros.eq_1 (dT @zeros.eq_2 (dT @chunk.eq_1 (dT @chunk.eq_2 (dT @wu.eq_1 (dT @wu.eq_2 (dT @xG.eq_1 (dT @xG.eq_2 (dT @zf.eq_1 (dT @Wu.eq_1 (dT @Wu.eq_2 (dT @Wu.eq_3 (dT @bad.eq_1 (dT @noH.eq_1 (dT @QeV (dT @Qkp (dT @Qge (dT @fnE.eq_1 (dT @Pk.ok.eq_1 (dT @Pk.eff.eq_1 (dT @Pk.hf.eq_1 (dT @Ku.eq_1 (dT @Ku.eq_2 (dT @Ku.eq_3 (dT @QiI.eq_1 (dT @QiI.eq_2 (dT @Qa0.eq_1 (dT @Qa0.eq_2 (dT @Qa0.eq_3 (dT @Xi.eq_1 (dT @Xi.eq_2 (dT @Xi.eq_3 (dT @hwL.eq_1 (dT @hwL.eq_2 (dT @VT.eq_1 (dT @VT.eq_2 (@qj.eq_1)))))))))))))))))))))))))))))))))))))))
def vk8:=dT @AV.ren.eq_1 (dT @AV.ren.eq_2 (dT @AV.ren.eq_3 (dT @AV.ren.eq_4 (dT @AV.ren.eq_5 (dT @AV.ren.eq_6 (dT @AV.ren.eq_7 (dT @AV.ren.eq_8 (dT @AV.ren.eq_9 (dT @AV.ren.eq_10 (dT @AV.ren.eq_11 (dT @AV.ren.eq_12 (dT @AV.ren.eq_13 (dT @AV.ren.eq_14 (dT @AV.ren.eq_15 (dT @AV.ren.eq_16 (dT @AV.renL.eq_1 (dT @AV.renL.eq_2 (dT @AObj.ren.eq_1 (dT @AObj.ren.eq_2 (dT @AObj.ren.eq_3 (dT @AObj.ren.eq_4 (dT @AV.le.eq_1 (dT @AV.le.eq_2 (dT @AV.le.eq_3 (dT @AV.le.eq_4 (dT @AV.le.eq_5 (dT @AV.le.eq_6 (dT @AV.le.eq_7 (dT @AV.le.eq_8 (dT @AV.le.eq_9 (dT @AV.le.eq_10 (dT @AV.le.eq_11 (dT @AV.le.eq_12 (dT @AV.le.eq_13 (dT @AV.le.eq_14 (dT @AV.le.eq_15 (dT @AV.le.eq_16 (dT @AV.le.eq_17 (@AV.le.eq_18)))))))))))))))))))))))))))))))))))))))
def vk9:=dT @AV.le.eq_19 (dT @AV.le.eq_20 (dT @AV.le.eq_21 (dT @AV.le.eq_22 (dT @AV.leL.eq_1 (dT @AV.leL.eq_2 (dT @AV.leL.eq_3 (dT @AObj.le.eq_1 (dT @AObj.le.eq_2 (dT @AObj.le.eq_3 (dT @AObj.le.eq_4 (dT @AObj.le.eq_5 (dT @AV.ids.eq_1 (dT @AV.ids.eq_2 (dT @AV.ids.eq_3 (dT @AV.ids.eq_4 (dT @AV.ids.eq_5 (dT @AV.ids.eq_6 (dT @AV.ids.eq_7 (dT @AV.ids.eq_8 (dT @AV.ids.eq_9 (dT @AV.ids.eq_10 (dT @AV.ids.eq_11 (dT @AV.ids.eq_12 (dT @AV.ids.eq_13 (dT @AV.ids.eq_14 (dT @AV.ids.eq_15 (dT @AV.ids.eq_16 (dT @AV.idsL.eq_1 (dT @AV.idsL.eq_2 (dT @AObj.ids.eq_1 (dT @AObj.ids.eq_2 (dT @AObj.ids.eq_3 (dT @AObj.ids.eq_4 (dT @AV.flat.eq_1 (dT @AV.flat.eq_2 (dT @AV.flat.eq_3 (dT @AV.flat.eq_4 (dT @AV.flat.eq_5 (@AV.flat.eq_6)))))))))))))))))))))))))))))))))))))))
def vk10:=dT @AV.flat.eq_7 (dT @AV.flat.eq_8 (dT @AV.flat.eq_9 (dT @AV.flat.eq_10 (dT @AV.flat.eq_11 (dT @AV.flat.eq_12 (dT @AV.flat.eq_13 (dT @AV.flat.eq_14 (dT @AV.flat.eq_15 (dT @AV.flat.eq_16 (dT @AV.flatL.eq_1 (dT @AV.flatL.eq_2 (dT @AObj.flat.eq_1 (dT @AObj.flat.eq_2 (dT @AObj.flat.eq_3 (dT @AObj.flat.eq_4 (dT @qB.eq_1 (dT @qB.eq_2 (dT @ze.eq_1 (dT @ze.eq_2 (dT @ze.eq_3 (dT @tab.eq_1 (dT @tab.eq_2 (dT @Qej.eq_1 (dT @Qej.eq_2 (dT @zw.eq_1 (dT @AV.view.eq_1 (dT @AV.view.eq_2 (dT @AV.view.eq_3 (dT @AV.view.eq_4 (dT @AV.view.eq_5 (dT @AV.view.eq_6 (dT @AV.view.eq_7 (dT @AV.view.eq_8 (dT @AV.view.eq_9 (dT @AV.view.eq_10 (dT @AV.view.eq_11 (dT @AV.view.eq_12 (dT @AV.view.eq_13 (@AV.view.eq_14)))))))))))))))))))))))))))))))))))))))
def vk11:=dT @AV.view.eq_15 (dT @AV.view.eq_16 (dT @AV.viewL.eq_1 (dT @AV.viewL.eq_2 (dT @AV.rows.eq_1 (dT @AV.rows.eq_2 (dT @AV.rows.eq_3 (dT @AV.rows.eq_4 (dT @AV.rows.eq_5 (dT @AV.rows.eq_6 (dT @AV.rows.eq_7 (dT @AV.rows.eq_8 (dT @AV.rows.eq_9 (dT @AV.rows.eq_10 (dT @AV.rows.eq_11 (dT @AV.rows.eq_12 (dT @AV.rows.eq_13 (dT @AV.rows.eq_14 (dT @AV.rows.eq_15 (dT @AV.rows.eq_16 (dT @AV.rowsL.eq_1 (dT @AV.rowsL.eq_2 (dT @AV.plain.eq_1 (dT @AV.plain.eq_2 (dT @AV.plain.eq_3 (dT @AV.plain.eq_4 (dT @AV.plain.eq_5 (dT @AV.plain.eq_6 (dT @AV.plain.eq_7 (dT @AV.plain.eq_8 (dT @AV.plain.eq_9 (dT @AV.plain.eq_10 (dT @AV.plain.eq_11 (dT @AV.plain.eq_12 (dT @AV.plain.eq_13 (dT @AV.plain.eq_14 (dT @AV.plain.eq_15 (dT @AV.plain.eq_16 (dT @AV.plainL.eq_1 (@AV.plainL.eq_2)))))))))))))))))))))))))))))))))))))))
def vk12:=dT @ne_eq.{1} (dT @z1 (dT @z2 (dT @z3 (dT @z4 (dT @z5.{0} (dT @true_and (dT @and_true (dT @cond_true.{1} (dT @cond_false.{1} (dT @z6 (dT @z7 (dT @z8.{0} (dT @z9 (dT @z10 (dT @z11 (dT @z12 (dT @z13 (dT @z14.{0} (dT @z15.{0} (dT @z16.{0} (dT @z17.{0} (dT @z18.{0,0} (dT @z19.{0} (dT @z20 (dT @z21 (dT @z22 (dT @z23 (dT @z24.{0} (dT @z25.{0} (dT @z26 (dT @z27 (dT @z28 (dT @z29.{0} (dT @z30.{0} (dT @z31.{0} (dT @z32.{0} (dT @z33.{0} (dT @z34.{0} (@z35.{0})))))))))))))))))))))))))))))))))))))))
def vk13:=dT @z36.{0} (dT @z37.{0,0} (dT @z38.{0,0} (dT @z39.{0} (dT @z40.{0} (dT @z41.{0} (dT @z42.{0} (dT @z43 (dT @z44 (dT @z45 (dT @z46 (dT @z47 (dT @z48 (dT @z49.{0} (dT @z50.{0,0} (dT @z51.{0,0} (dT @z52.{0,0} (dT @z53.{0} (dT @z54.{0} (dT @z55.{0} (dT @z56.{0} (dT @z57.{0} (dT @or_false (dT @false_or (dT @z58 (dT @z59.{1} (dT @z59.{0} (dT @z60.{1} (dT @forall_eq.{1} (dT @z61.{1} (dT @if_false.{1} (dT @if_true.{1} (dT @z62.{0} (dT @z63 (dT @z64 (dT @eq_self.{1} (dT @z65 (dT @z66 (@z67))))))))))))))))))))))))))))))))))))))
def vk14:=dT @Qbe.eq_1 (dT @Qbe.eq_2 (dT @Qbe.eq_3 (dT @VD.eq_5 (dT @Vt.eq_1 (dT @Qh5.eq_1 (dT @QdN.eq_1 (dT @QdN.eq_2 (dT @appR.eq_1 (dT @opE.eq_26 (dT @X4.eq_1 (dT @X4.eq_2 (dT @boolT.eq_1 (dT @QhQ.eq_1 (dT @Qg0.eq_1 (dT @Qcs (dT @UK (dT @Qb8 (dT @vTL (dT @Xd.eq_1 (dT @Qbl.eq_1 (dT @arrB.eq_1 (dT @arrB.eq_2 (dT @opE.eq_24 (dT @opE.eq_25 (dT @VQ.eq_1 (dT @U0.eq_1 (dT @AV.dv.eq_17 (dT @AV.ids.eq_17 (dT @AV.flat.eq_17 (dT @AV.le.eq_23 (dT @AV.le.eq_24 (dT @AV.le.eq_25 (dT @AV.le.eq_26 (dT @AV.ids.eq_19 (dT @AV.ren.eq_19 (dT @AV.flat.eq_19 (dT @AV.dv.eq_19 (dT @cellsOf.eq_19 (dT @jh.eq_19 (dT @zT.eq_4 (dT @Qk.eq_1 (dT @Qk.eq_2 (dT @Qil.eq_1 (dT @Qil.eq_2 (dT @AV.view.eq_17 (dT @AV.view.eq_18 (dT @AV.view.eq_19 (dT @AV.rows.eq_19 (dT @AV.plain.eq_19 (dT @AV.ids.eq_18 (dT @AV.ren.eq_18 (dT @AV.flat.eq_18 (dT @AV.dv.eq_18 (dT @cellsOf.eq_18 (dT @jh.eq_18 (dT @AV.ren.eq_17 (dT @cellsOf.eq_17 (dT @jh.eq_17 (dT @opE.eq_21 (dT @opE.eq_22 (dT @opE.eq_23 (dT @QbK.eq_1 (dT @Qde.eq_1 (dT @Qde.eq_2 (dT @QaP.eq_1 (dT @Qf6.eq_1 (dT @Qgj.eq_1 (dT @Qgj.eq_2 (dT @QcO.eq_1 (dT @QaD.eq_1 (dT @Qhy.eq_1 (dT @AV.toV.eq_1 (dT @AV.toV.eq_2 (dT @WY.eq_1 (dT @WY.eq_2 (dT @jV.eq_1 (dT @jV.eq_2 (dT @vAV.eq_1 (dT @vAV.eq_2 (dT @XP.eq_1 (dT @XP.eq_3 (dT @KD.Q.eq_1 (dT @KD.Q.eq_2 (dT @dvP.eq_1 (@dvP.eq_2)))))))))))))))))))))))))))))))))))))))))))))))))))))))))))))))))))))))))))))))))))))
def vk15:=dT @rowAt.eq_1 (dT @QbD.eq_1 (dT @QbD.eq_2 (dT @AObj.ids.eq_5 (dT @AObj.ren.eq_5 (dT @AObj.flat.eq_5 (dT @AObj.le.eq_6 (dT @AObj.le.eq_7 (dT @Zm.eq_1 (dT @Zm.eq_2 (dT @yN.eq_1 (dT @yN.eq_2 (dT @yN.eq_3 (dT @QfD.eq_1 (dT @QfD.eq_2 (dT @notW.eq_1 (dT @notW.eq_2 (dT @appW.eq_1 (dT @appW.eq_2 (@bsW.eq_1)))))))))))))))))))
def vk16:=dT @opE.eq_27 (dT @UU.eq_1 (dT @UU.eq_2 (dT @QfC.eq_1 (dT @idxS.eq_1 (dT @Xh.eq_1 (dT @Qf1.eq_1 (dT @Xp.eq_1 (dT @u8T.eq_1 (dT @bytesOf.eq_1 (dT @bytesOf.eq_2 (dT @QhI.eq_1 (dT @QeI.eq_1 (dT @QeI.eq_2 (dT @LY.eq_1 (dT @QiH.eq_1 (dT @QfF.eq_1 (@QfF.eq_2)))))))))))))))))
def vks:=dT (dT vk16 (dT vk15 vk14)) (dT vk0 (dT vk1 (dT vk2 (dT vk3 (dT vk4 (dT vk5 (dT vk6 (dT vk7 (dT vk8 (dT vk9 (dT vk10 (dT vk11 (dT vk12 (vk13))))))))))))))
def X8 (acc:List Nat):List Nat->Nat
 |[]=>0
 |d :: ds=>2 ^ d ||| acc.getD d 0 ||| X8 acc ds
def QdF:List Oper->List Nat->List Nat
 |[],acc=>acc
 |o :: r,acc=>QdF r (acc++[X8 acc (deps o)])
def Qf2 (acc:List (List Nat)) (b:List Nat):Prop:=acc.length=b.length/\∀ j i,(acc.getD j []).contains i=(b.getD j 0).testBit i
def Ko {acc:List (List Nat)} {b:List Nat} (h:Qf2 acc b) (i:Nat):∀ ds:List Nat,(ds.flatMap fun d=>d :: acc.getD d []).contains i=(X8 b ds).testBit i
 |[]=>by simp [X8]
 |d :: ds=>by
  rw [ca,X8,Nat.testBit_or,Nat.testBit_or,<- Ko h i ds,<- h.2 d i,Nat.testBit_two_pow]
  rw [cv]
  simp only [List.contains_iff_mem,cM,decide_eq_true_eq,aD,ah]
  constructor
  ·rintro ((rfl|h)|h)
   ·exact .inl (.inl rfl)
   ·exact .inl (.inr h)
   ·exact .inr h
  ·rintro ((rfl|h)|h)
   ·exact .inl (.inl rfl)
   ·exact .inl (.inr h)
   ·exact .inr h
def KE:∀ (l:List Oper) {acc:List (List Nat)} {b:List Nat},Qf2 acc b->Qf2 (Jo l acc) (QdF l b)
 |[],_,_,h=>h
 |o :: r,acc,b,h=>by
  rw [Jo,QdF]
  refine KE r ⟨by simp [h.1],fun j i=>?_⟩
  rcases Nat.lt_trichotomy j acc.length with hj|hj|hj
  ·have:=h.2 j i
   have hb:j < b.length:=by rw [<- h.1];exact hj
   simp only [ai,bv hj,bv hb] at this ⊢
   exact this
  ·have hb:j=b.length:=by rw [<- h.1];exact hj
   have:=Ko h i (deps o)
   simp only [ai] at this ⊢
   rw [bA (by omega),bA (by omega),show j - acc.length=0 by omega,show j - b.length=0 by omega]
   exact this
  ·rw [show (acc ++ [(deps o).flatMap fun d => d :: acc.getD d []]).getD j [] = [] by
     rw [ai,cO (by simp;omega)];rfl,
    show (b++[X8 b (deps o)]).getD j 0=0 by
     have:=h.1
     rw [ai,cO (by simp;omega)];rfl]
   simp
def Qlv (ops:Array Oper) (es:List Eff):Bool :=
 let an:=QdF ops.toList []
 (List.range ops.size).all fun j =>
  match ops[j]? with
  |none=>true
  |some oj=>(deps oj).all (· < j) && (List.range j).all fun i =>
    (an.getD j 0).testBit i ||
    match ops[i]? with
    |none=>true
    |some oi=>oi.apart ops oj && Re (es.getD i { av:=.junk }) (es.getD j { av:=.junk })
def LG {ops:Array Oper} {es:List Eff} (h:Qlv ops es=true):kQ ops es=true:=by
 have hs:=(KE ops.toList (acc:=[]) (b:=[]) ⟨rfl,fun j i=>by simp⟩).2
 unfold Qlv at h
 unfold kQ
 simp only [hs]
 exact h
structure DrwS where
 ids:List Nat
 hr:List Nat
 keys:List Nat
 news:List Nat
 dj:Nat
 dd:Bool
variable {A : Frm -> Prop} {P : Program}
def Qdr (Q:Bool->Prop):Option Bool->Prop
 |some b=>Q b
 |none=>False
def Qhr {c:Operand} {x y:Code} {S:St} {K:Exit->St->Prop} (h:∀ Q:Bool->Prop,(∀ b,(b=true->Sym A P x S K)->(b=false->Sym A P y S K)->Q b)->Qdr Q (WR (ev S c))):Sym A P (.cond c x y) S K:=by
 have h1:=h (fun b=>WR (ev S c)=some b->Sym A P (.cond c x y) S K) fun b h1 h2 hb=>jE hb h1 h2
 cases ho:WR (ev S c) with
 |none=>rw [ho] at h1;exact h1.elim
 |some b=>rw [ho] at h1;exact h1 rfl
def Br (b:Bool) (X Y:Prop):Prop:=(b=true->X)/\(b=false->Y)
def Qhi {c:Operand} {x y:Code} {S:St} {K:Exit->St->Prop} (h:∀ Q:Bool->Prop,(∀ b,Br b (Sym A P x S K) (Sym A P y S K)->Q b)->Qdr Q (WR (ev S c))):Sym A P (.cond c x y) S K:=Qhr fun Q hQ=>h Q fun b hb=>hQ b hb.1 hb.2
def br_t {X Y:Prop} (h:X):Br true X Y:=⟨fun _=>h,fun e=>by cases e⟩
def br_f {X Y:Prop} (h:Y):Br false X Y:=⟨fun e=>(by cases e),fun _=>h⟩
def vkt:=dT vks (dT @Qdr.eq_1 (dT @Qdr.eq_2 (dT @decide_true @decide_false)))
def vki:=dT @decide_eq_true_eq (dT @decide_eq_false_iff_not (dT @dC (dT @Bool.not_eq_false' (dT @bz (dT @Bool.or_eq_false_iff (dT @Bool.and_eq_false_iff (dT @cM (dT @not_true_eq_false @not_false_eq_true))))))))
def zq0 {x y:Code} {S:St} {K:Exit->St->Prop} (h:Sym A P x S (Qo (fun S'=>Sym A P y S' K) K)):Sym A P (.seq x y) S K:=Qjy h
def zq1 {id:Nat} {c:Code} {S:St} {K:Exit->St->Prop} (h:Sym A P c S (yX id K)):Sym A P (.block id c) S K:=QeM h
def zq2 {S:St} {K:Exit->St->Prop} (h:K .normal S):Sym A P .skip S K:=Qhv h
def zq3 {l:Nat} {S:St} {K:Exit->St->Prop} (h:K .normal S):Sym A P (.label l) S K:=QfU h
def zq4 {id:Nat} {S:St} {K:Exit->St->Prop} (h:K (.exit id) S):Sym A P (.exit id) S K:=QgE h
def zq5 {S:St} {K:Exit->St->Prop} (h:K .ret S):Sym A P .ret S K:=Qj2 h
def vle:=dT @leT.eq_1 (dT @leT.eq_2 (dT @leH.eq_1 (dT @leH.eq_2 (dT @leO.eq_1 (dT @leO.eq_2 (dT @ADf.leL.eq_1 (dT @ADf.leL.eq_2 (dT @ADf.leL.eq_3 (dT @JG.eq_1 (dT @Yw.eq_1 (dT @Yw.eq_2 (dT @kZ.eq_1 (dT @kZ.eq_2 (dT (@cG (Nat × AObj) Nat) (dT (@dR (Nat × AObj) Nat) (dT (@bW ADf Nat) (dT @du (@bp))))))))))))))))))
def vrt:=dT @yc.eq_1 (dT @yc.eq_2 (dT @yc.eq_3 (dT @kP.eq_1 (dT @kP.eq_2 (dT @kP.eq_3 (dT @Z5.eq_1 (dT @Z5.eq_2 (dT @Z5.eq_3 (dT @WZ.eq_1 (dT @WZ.eq_2 (dT @WZ.eq_3 (dT @rd.eq_1 (dT @rd.eq_2 (dT @rd.eq_3 (dT @rd.eq_4 (dT @Qal (@QeP)))))))))))))))))
end Go.Sym
namespace Go.Sym
open Go
inductive Nx:Prop->Prop
 |s0 {A:Frm->Prop} {P:Program} {x y:Code} {S:St} {K:Exit->St->Prop} (h:Sym A P x S (Qo (fun S'=>Sym A P y S' K) K)):Nx (Sym A P (.seq x y) S K)
 |s1 {A:Frm->Prop} {P:Program} {id:Nat} {c:Code} {S:St} {K:Exit->St->Prop} (h:Sym A P c S (yX id K)):Nx (Sym A P (.block id c) S K)
 |s2 {A:Frm->Prop} {P:Program} {S:St} {K:Exit->St->Prop} (h:K .normal S):Nx (Sym A P .skip S K)
 |s3 {A:Frm->Prop} {P:Program} {l:Nat} {S:St} {K:Exit->St->Prop} (h:K .normal S):Nx (Sym A P (.label l) S K)
 |s4 {A:Frm->Prop} {P:Program} {id:Nat} {S:St} {K:Exit->St->Prop} (h:K (.exit id) S):Nx (Sym A P (.exit id) S K)
 |s5 {A:Frm->Prop} {P:Program} {S:St} {K:Exit->St->Prop} (h:K .ret S):Nx (Sym A P .ret S K)
 |tn {N:St->Prop} {K:Exit->St->Prop} {S:St} (h:N S):Nx (Qo N K .normal S)
 |tx {N:St->Prop} {K:Exit->St->Prop} {S:St} {id:Nat} (h:K (.exit id) S):Nx (Qo N K (.exit id) S)
 |tr {N:St->Prop} {K:Exit->St->Prop} {S:St} (h:K .ret S):Nx (Qo N K .ret S)
 |bn {K:Exit->St->Prop} {S:St} {id:Nat} (h:K .normal S):Nx (yX id K .normal S)
 |br {K:Exit->St->Prop} {S:St} {id:Nat} (h:K .ret S):Nx (yX id K .ret S)
 |bh {K:Exit->St->Prop} {S:St} {id:Nat} (h:K .normal S):Nx (yX id K (.exit id) S)
 |ct {X Y:Prop} (h:X):Nx (Br true X Y)
 |cf {X Y:Prop} (h:Y):Nx (Br false X Y)
def nx {p:Prop} (h:Nx p):p:=by
 cases h with
 |s0 h=>exact zq0 h
 |s1 h=>exact zq1 h
 |s2 h=>exact zq2 h
 |s3 h=>exact zq3 h
 |s4 h=>exact zq4 h
 |s5 h=>exact zq5 h
 |tn h=>exact Qkh h
 |tx h=>exact QjY h
 |tr h=>exact QjE h
 |bn h=>exact Qhp h
 |br h=>exact Qh2 h
 |bh h=>exact Qcf h
 |ct h=>exact br_t h
 |cf h=>exact br_f h
end Go.Sym
namespace Go.Sym
open Go Go.RowKit
variable {P : Program}
def own0:Own:=⟨fun _=>False,fun _=>False,fun _ h=>h⟩
def QbU:Nat->Value:=fun _=>undef
def okW (w:World):Nat->Prop:=okB w own0 QbU noH
def Qnd {w:World} {b:Nat} (h:b < w.heap.size):okW w b:=⟨h,fun h=>h,fun i o h=>by cases h⟩
def ownG (n:Nat):Own:=⟨fun b=>b < n,fun _=>False,fun _ h=>h.elim⟩
def law_callsT {T:World->Prop} {f:FuncId} {az:List AV} (hf:Fn (jd T) P f az noH (.v (.bool true)) noH 0) (w:World) (hT:∀ w':World,Below w.heap.size w w'->T w') (vs:Array Value) (hs:vs.size=az.length)
  (ha:∀ i c,az[i]?=some c->ARel w (okW w) QbU undef c (vs.getD i undef)):Calls P f vs w fun e w'=>e=.returned (.bool true)/\Below w.heap.size w w':=by
 refine zY (hf.calls undef (fun _ own w'=>(∀ b,own.all b ↔ b < w.heap.size)/\Below w.heap.size w w') (fun j own w1 h=>⟨fun b hb=>aE ((h.1 b).1 hb) h.2.size,fun w2 hx=>⟨h.1,hx.os.trans h.2.os,hx.tape.trans h.2.tape,hx.output.trans h.2.output,aN h.2.size hx.size,fun b hb=>(hx.block b (aE hb h.2.size) fun hn=>hn ((h.1 b).2 hb)).trans (h.2.block b hb)⟩⟩) (ownG w.heap.size) w QbU vs (fun j own w1 h=>hT w1 h.2) ⟨⟨fun b=>Iff.rfl,Below.refl _ _⟩,fun i o h=>(by cases h),fun i k o o' b h=>(by cases h),fun i o b h=>(by cases h)⟩ hs ha) ?_
 rintro e w' ⟨v',own',ρ',rfl,_,hr,hx,_,_,_,_⟩
 refine ⟨?_,hx.os,hx.tape,hx.output,hx.size,fun k hk=>hx.block k hk ?_⟩
 ·cases hr with
  |v _=>rfl
 ·rintro (h|⟨i,o,h,_⟩)
  ·exact h
  ·cases h
end Go.Sym
namespace Go.Sym
open Go
variable {P : Program}
def Jg:∀ {ks:List (Option IntKind)} {xs:List Value},qp ks xs->∀ x ∈ xs,(∃ k n,x=.int k n)\/∃ b,x=.bool b
 |[],[],_,x,hx=>by simp at hx
 |[],_ :: _,h,_,_=>h.elim
 |some k :: ks,[],h,_,_=>h.elim
 |none :: ks,[],h,_,_=>h.elim
 |some k :: ks,y :: xs,h,x,hx=>by
  obtain ⟨⟨n,rfl⟩,h⟩:=h
  rcases ah.1 hx with rfl|hx
  ·exact .inl ⟨k,n,rfl⟩
  ·exact Jg h x hx
 |none :: ks,y :: xs,h,x,hx=>by
  obtain ⟨⟨n,rfl⟩,h⟩:=h
  rcases ah.1 hx with rfl|hx
  ·exact .inr ⟨n,rfl⟩
  ·exact Jg h x hx
def Qeb {n:Nat} {x:Value} (h:(∃ k n,x=.int k n)\/∃ b,x=.bool b):Instr.sameBits n x x=true:=by
 rcases h with ⟨k,m,rfl⟩|⟨b,rfl⟩ <;> cases n <;> simp [Instr.sameBits]
def L6 {n:Nat}:∀ {xs:List Value},(∀ x ∈ xs,(∃ k n,x=.int k n)\/∃ b,x=.bool b)->((xs.zip xs).all fun (x,y)=>Instr.sameBits n x y)=true
 |[],_=>rfl
 |x :: xs,h=>by
  rw [cn,dp,bz]
  exact ⟨Qeb (h x ba),L6 fun y hy=>h y (aZ _ hy)⟩
def Ja:∀ {ks:List (Option IntKind)} {xs ys:List Value},qp ks xs->qp ks ys->(jF xs ys=true ↔ ys=xs)
 |[],[],[],_,_=>by simp [jF]
 |[],[],_ :: _,_,h=>h.elim
 |[],_ :: _,_,h,_=>h.elim
 |some _ :: _,[],_,h,_=>h.elim
 |none :: _,[],_,h,_=>h.elim
 |some _ :: _,_ :: _,[],_,h=>h.elim
 |none :: _,_ :: _,[],_,h=>h.elim
 |some k :: ks,x :: xs,y :: ys,h1,h2=>by
  obtain ⟨⟨n,rfl⟩,h1⟩:=h1
  obtain ⟨⟨m,rfl⟩,h2⟩:=h2
  rw [jF,bz,Ja h1 h2]
  simp only [veq,beq_iff_eq,List.cons.injEq,Value.int.injEq,true_and]
  constructor
  ·rintro ⟨rfl,rfl⟩;exact ⟨rfl,rfl⟩
  ·rintro ⟨rfl,rfl⟩;exact ⟨rfl,rfl⟩
 |none :: ks,x :: xs,y :: ys,h1,h2=>by
  obtain ⟨⟨n,rfl⟩,h1⟩:=h1
  obtain ⟨⟨m,rfl⟩,h2⟩:=h2
  rw [jF,bz,Ja h1 h2]
  simp only [veq,beq_iff_eq,List.cons.injEq,Value.bool.injEq]
  constructor
  ·rintro ⟨rfl,rfl⟩;exact ⟨rfl,rfl⟩
  ·rintro ⟨rfl,rfl⟩;exact ⟨rfl,rfl⟩
def Vm {k:TypeId} {x:Value} {w:World}:∀ (es:List MapEntry) (i:Nat),(∀ e ∈ es,∃ r,(Op.equal k x e.key).run P w=.ok r w/\(r=true ↔ e.key=x)) ->
  ((Instr.findAsking k x es i).run P w=.ok none w/\∀ e ∈ es,e.key ≠ x)\/∃ j e,(Instr.findAsking k x es i).run P w=.ok (some (i+j,e.val)) w/\es[j]?=some e/\e.key=x
 |[],_,_=>.inl ⟨by simp [Instr.findAsking],by simp⟩
 |e :: es,i,h=>by
  obtain ⟨r,hr,hrx⟩:=h e ba
  cases r with
  |true =>
   refine .inr ⟨0,e, ?_,rfl,hrx.1 rfl⟩
   simp [Instr.findAsking,hr,Result.andThen]
  |false =>
   have hne:e.key ≠ x:=fun hh=>by simpa using hrx.2 hh
   rcases Vm es (i+1) (fun e he=>h e (aZ _ he)) with ⟨h1,h2⟩|⟨j,e',h1,h2,h3⟩
   ·refine .inl ⟨by simp [Instr.findAsking,hr,Result.andThen,h1],fun y hy=>?_⟩
    rcases ah.1 hy with rfl|hy
    ·exact hne
    ·exact h2 y hy
   ·refine .inr ⟨j+1,e', ?_,by simpa using h2,h3⟩
    simp [Instr.findAsking,hr,Result.andThen,h1]
    omega
def QaU {d:TypeDesc} {cs:Array Value} {v:Value}:Instr.sameNow d (.agg cs) v=none:=by
 cases d <;> rfl
def Qh7 {k:TypeId} {ks:List (Option IntKind)} {d:TypeDesc} (hu:P.underlying k=some d)
  (he:∀ (w:World) (xs ys:List Value),qp ks xs->qp ks ys->(Op.equalIn 10000 k (.agg xs.toArray) (.agg ys.toArray)).run P w=.ok (jF xs ys) w)
  (hc:∀ (w:World) (em:Bool) (xs:List Value),qp ks xs->(Instr.checkKey em 10000 k (.agg xs.toArray)).run P w=.ok () w):MKey P k (KD.Q (.agg ks)) where
 check w em v h:=by
  cases v <;> first|exact h.elim|skip
  rename_i cs
  exact hc w em cs.toList h
 find w x hx es hes:=by
  cases x <;> first|exact hx.elim|skip
  rename_i cs
  cases es with
  |nil=>exact .inl ⟨by simp [Instr.findKey,run_underlying hu,Instr.findNow,Result.andThen],by simp⟩
  |cons e es =>
   have hfn:Instr.findNow d (.agg cs) (e :: es) 0=none:=by simp [Instr.findNow,QaU]
   have hk:(Instr.findKey k (.agg cs) (e :: es)).run P w=(Instr.findAsking k (.agg cs) (e :: es)).run P w:=by
    simp [Instr.findKey,run_underlying hu,hfn,Result.andThen]
   rw [hk]
   have:=Vm (P:=P) (k:=k) (x:=.agg cs) (w:=w) (e :: es) 0 fun e' he'=>by
    have hq:=hes e' he'
    generalize e'.key=v at hq
    cases v <;> first|exact hq.elim|skip
    rename_i cs'
    have hx':qp ks cs.toList:=hx
    have hq':qp ks cs'.toList:=hq
    refine ⟨_,he w cs.toList cs'.toList hx' hq', ?_⟩
    rw [Ja hx' hq']
    constructor
    ·intro h;rw [Array.toList_inj.1 h]
    ·intro h;injection h with h;rw [h]
   simpa using this
 stays w v h:=by
  cases v <;> first|exact h.elim|skip
  rename_i cs
  have h':qp ks cs.toList:=h
  have:Instr.sameBits 10000 (.agg cs) (.agg cs)=true:=by
   show (cs.size == cs.size && (cs.toList.zip cs.toList).all fun (x,y)=>Instr.sameBits 9999 x y)=true
   rw [L6 (Jg h')];simp
  simp [Instr.keyThatStays,this]
end Go.Sym
namespace Go.Sym
open Go
variable {A : Frm -> Prop} {P : Program}
def QlH {J:JJ} {s j k:Nat} {Pr Pr':Nat->Prop} {w0 w1 w2:World} {own:Own} (hh:∀ b,Pr b->w1.heap[b]?=w0.heap[b]?) (h:Jc (Jc J s Pr w0) j Pr' w1 k own w2) :
  Jc J (s+j) (fun b=>Pr' b\/Pr b) w1 k own w2:=by
 obtain ⟨o1,⟨o2,hj,a1,a2,a3⟩,b1,b2,b3⟩:=h
 refine ⟨o2,by rw [bZ];exact hj,fun b=>?_,fun b=>?_, ?_⟩
 ·rw [b1,a1];constructor
  ·rintro ((h|h)|h)
   ·exact .inl h
   ·exact .inr (.inr h)
   ·exact .inr (.inl h)
  ·rintro (h|h|h)
   ·exact .inl (.inl h)
   ·exact .inr h
   ·exact .inl (.inr h)
 ·rw [b2,a2];constructor
  ·rintro ((h|h)|h)
   ·exact .inl h
   ·exact .inr (.inr h)
   ·exact .inr (.inl h)
  ·rintro (h|h|h)
   ·exact .inl (.inl h)
   ·exact .inr h
   ·exact .inl (.inr h)
 ·rintro b (h|h)
  ·obtain ⟨c1,c2,c3⟩:=b3 b h
   exact ⟨fun hn=>c1 ((a1 b).2 (.inl hn)),c2,c3⟩
  ·obtain ⟨c1,c2,c3⟩:=a3 b h
   exact ⟨c1,c2,c3.trans (hh b h).symm⟩
def QgJ {J:JJ} {s j k:Nat} {Pr Pr':Nat->Prop} {w0 w1 w2:World} {own:Own} (hh:∀ b,Pr b->w1.heap[b]?=w0.heap[b]?) (hd:∀ b,Pr' b->¬ Pr b) (h:Jc J (s+j) (fun b=>Pr' b\/Pr b) w1 k own w2) :
  Jc (Jc J s Pr w0) j Pr' w1 k own w2:=by
 obtain ⟨o2,hj,b1,b2,b3⟩:=h
 refine ⟨Qb o2 Pr,⟨o2,by rw [<- bZ];exact hj,fun b=>Iff.rfl,fun b=>Iff.rfl,fun b hb=>?_⟩,fun b=>?_,fun b=>?_,fun b hb=>?_⟩
 ·obtain ⟨c1,c2,c3⟩:=b3 b (.inr hb)
  exact ⟨c1,c2,c3.trans (hh b hb)⟩
 ·rw [b1];show _ ↔ (o2.all b\/Pr b)\/Pr' b;constructor
  ·rintro (h|h|h)
   ·exact .inl (.inl h)
   ·exact .inr h
   ·exact .inl (.inr h)
  ·rintro ((h|h)|h)
   ·exact .inl h
   ·exact .inr (.inr h)
   ·exact .inr (.inl h)
 ·rw [b2];show _ ↔ (o2.prv b\/Pr b)\/Pr' b;constructor
  ·rintro (h|h|h)
   ·exact .inl (.inl h)
   ·exact .inr h
   ·exact .inl (.inr h)
  ·rintro ((h|h)|h)
   ·exact .inl h
   ·exact .inr (.inr h)
   ·exact .inr (.inl h)
 ·obtain ⟨c1,c2,c3⟩:=b3 b (.inl hb)
  exact ⟨fun hn=>hn.elim c1 (hd b hb),c2,c3⟩
def Bcb.pass {F:Frm} {S:St} {a:Act} {w:World} {ρ:Nat->Value} {own:Own} (H:Holds F S a w ρ own) {hp h0 h0':Nat->Option AObj} {ys:Nat->List AV} {hl:Nat->Nat->Option AObj} {ans:Nat->Bool} {R R':Nat}
  (hA:Acb P hp h0 ys hl ans R F) {hs bo:List Nat} (hpin:∀ i o,hp i=some o->hs[i]?=some i)
  (hob:∀ i o,h0' i=some o->∃ c ob,hs[i]?=some c/\S.h c=some ob) (hR:S.j+R'<=R) :
  Bcc P hp h0' (fun j=>ys (S.j+j)) (fun j=>hl (S.j+j)) (fun j=>ans (S.j+j)) R' (xZ F S hs bo ρ own w):=by
 obtain ⟨hH0,hsub,hB⟩:=hA
 have hown0:∀ b,F.owns0 b ↔ ∃ i o,h0 i=some o/\blk (F.ρ0 i)=some b:=fun b=>by simp only [Frm.owns0,hH0]
 have hPr:∀ b,vV S hs bo ρ b->F.w0.heap.size<=b\/∃ i o,h0 i=some o/\blk (F.ρ0 i)=some b:=by
  rintro b ⟨i,ob,hi,_,_,hb⟩
  exact ((H.blkOK i ob b hi hb).2).imp id fun h=>(hown0 b).1 h
 have h0p:∀ i o b,h0' i=some o->blk (qR hs ρ i)=some b->F.w0.heap.size<=b\/∃ i o,h0 i=some o/\blk (F.ρ0 i)=some b:=by
  intro i o b hi hb
  obtain ⟨c,ob,e1,e2⟩:=hob i o hi
  simp only [qR,e1] at hb
  exact ((H.blkOK c ob b e2 hb).2).imp id fun h=>(hown0 b).1 h
 intro j hj Pr' own1 w1 ρ1 vs hHp hpins hext hnew hprv hsz hrel
 simp only [xZ] at hHp hpins hext hnew hprv hrel ⊢
 have hjay:=hHp.1
 have hh:∀ b,vV S hs bo ρ b->w1.heap[b]?=w.heap[b]?:=fun b hb=>by
  obtain ⟨_,⟨_,_,_,_,a3⟩,_⟩:=hjay
  exact (a3 b hb).2.2
 have hd:∀ b,Pr' b->¬ vV S hs bo ρ b:=fun b hb hn=>by
  obtain ⟨o1,⟨o2,_,a1,_,_⟩,_,_,b3⟩:=hjay
  exact (b3 b hb).1 ((a1 b).2 (.inr hn))
 have hans:=hB (S.j+j) (by omega) (fun b=>Pr' b\/vV S hs bo ρ b) own1 w1 ρ1 vs ⟨QlH hh hHp.1,hHp.2,hHp.3,hHp.4⟩
  (fun i o hi=>by
   obtain ⟨o',ho'⟩:=hsub i o hi
   rw [hpins i o hi]
   simp only [qR,hpin i o hi]
   exact H.pins i o' (by rw [hH0];exact ho'))
  ((H.ext.weaken fun b _ h=>h.imp id fun h=>(hown0 b).1 h).trans hext fun b hlt hb=>by
   rcases hb with (hb|hb)|⟨i,o,hi,hb⟩
   ·rcases H.ownsub b hb with h|h
    ·exact .inl h
    ·omega
   ·rcases hPr b hb with h|h
    ·omega
    ·exact .inr h
   ·rcases h0p i o b hi hb with h|h
    ·omega
    ·exact .inr h)
  (fun i o b hi hb=>by
   rcases hnew i o b hi hb with h|⟨k,o',hk,hb'⟩
   ·exact .inl (aN H.ext.size h)
   ·exact h0p k o' b hk hb')
  (fun b hb=>by
   rcases hprv b hb with (h|h)|h|⟨k,o',hk,hb'⟩
   ·rcases H.ownsub b h with h|h
    ·exact .inl h
    ·exact .inr (.inl h)
   ·exact .inr (hPr b h)
   ·exact .inr (.inl (aN H.ext.size h))
   ·exact .inr (h0p k o' b hk hb')) hsz hrel
 refine Wh.mono hans ?_
 rintro e w' ⟨he,own',hp',hx',hpv'⟩
 exact ⟨he,own',⟨QgJ hh hd hp'.1,hp'.2,hp'.3,hp'.4⟩,hx',hpv'⟩
structure PkI where
 q:Pk
 dj:Nat
def Y0:Nat->List Nat->List AObj->Prop
 |_,_,[]=>True
 |k,c :: cs,_ :: os=>c=k/\Y0 (k+1) cs os
 |_,[],_ :: _=>False
def LX:∀ {os:List AObj} {k:Nat} {cs:List Nat},Y0 k cs os->∀ i o,os[i]?=some o->cs[i]?=some (k+i)
 |[],_,_,_,i,o,h=>by simp at h
 |_ :: os,k,c :: cs,h,i,o,hi=>by
  obtain ⟨rfl,h⟩:=h
  cases i with
  |zero=>simp
  |succ i =>
   have:=LX h i o (by simpa using hi)
   rw [bw,this]
   congr 1
   omega
 |_ :: _,_,[],h,_,_,_=>h.elim
def fnI (Lp:List AObj) (R:Nat) (spec:St->List AV->Option PkI) (S:St) (bs:List AV):Ans:=match spec S bs with
 |none=>bad
 |some q=>(q.q.ok S bs/\q.q.fl=false/\Y0 0 q.q.hs Lp/\S.j+q.dj<=R,{ q.q.eff S with dj:=q.dj })
def Qfq {f:FuncId} {Lp:List AObj} {ys:Nat->List AV} {hl:Nat->Nat->Option AObj} {ans:Nat->Bool} {R:Nat} {spec:St->List AV->Option PkI} {h0:Nat->Option AObj} (hA:∀ F,A F->Acb P (qb (qB 0 Lp)) h0 ys hl ans R F)
  (hf:∀ S bs q,spec S bs=some q->q.q.pre->Fn (Bcc P (qb (qB 0 Lp)) (qb (qB 0 q.q.L0)) (fun j=>ys (S.j+j)) (fun j=>hl (S.j+j)) (fun j=>ans (S.j+j)) q.dj) P f q.q.ar (qb (qB 0 q.q.L0)) q.q.v (qb (ze 0 q.q.L1)) q.dj)
  {S:St} {bs:List AV} (h:(fnI Lp R spec S bs).1) (hS:Wf S) {ops:Array Oper} {o:Oper} {g:Operand} {args:Array Operand} {tys:Array TypeId} {caps:List AV} (hw:Want ops o S)
  (ho:o.op=.call { callee:=.value g,args:=args,argTypes:=tys }) (hg:zT (ev S g)=some (some f,caps)) (hb:Qk (ev S g)++(args.toList.map (ev S)++caps)=bs):VE A P ops o (fnI Lp R spec S bs).2 S:=by
 unfold fnI at h ⊢
 cases hq:spec S bs with
 |none=>rw [hq] at h;exact h.elim
 |some qi =>
  obtain ⟨q,dj⟩:=qi
  rw [hq] at h
  simp only at h ⊢
  obtain ⟨⟨h1,h2,h3,h4,h5,h6,h7,h8,h9⟩,hfl,hpin,hR⟩:=h
  have heff:{ q.eff S with dj:=dj }=za S q.hs q.bo q.bo q.v (qb (ze 0 q.L1)) (q.L1.length - q.hs.length) dj:=by
   rw [q.eff_eq S h6,hfl];rfl
  rw [heff]
  have hgc:=xY hg
  obtain ⟨g1,g2⟩:=QB h3
  have hlen:q.hs.length+(q.L1.length - q.hs.length)=q.L1.length:=by omega
  have get1:∀ i o,qb (ze 0 q.L1) i=some o->q.L1[i]?=some (some o):=fun i o hi=>by
   rw [xm,if_neg (by omega),aO] at hi
   cases hh:q.L1[i]? with
   |none=>rw [hh] at hi;cases hi
   |some x=>rw [hh] at hi;simp only [cW] at hi;rw [hi]
  have get0:∀ i o,qb (qB 0 q.L0) i=some o->q.L0[i]?=some o:=fun i o hi=>by
   rwa [zZ,if_neg (by omega),aO] at hi
  have hfn:=hf S bs _ hq h1
  refine Rf hS hw ho hgc hfn (fun _=>rfl) (fun F S2 a w ρ own hF hjj hS2 H=>?_) (hf:=q.hf S) (by rw [hb];exact h2) (fun i o0 hi=>g2 i o0 (get0 i o0 hi)) (fun j hj=>?_) h4 (fun i ob hi=>?_) (yL h5) (.inl rfl) (by rw [hlen];exact h7) (fun i ob hi=>?_)
  ·by_cases hd0:dj=0
   ·subst hd0
    intro j hj
    exact absurd hj (bp _)
   ·have hjs:=hjj hd0
    have hB:=Bcb.pass (S:=S2) (hs:=q.hs) (bo:=q.bo) (h0':=qb (qB 0 q.L0)) (R':=dj) H (hA F hF) (fun i o hi=>?_) (fun i o hi=>?_) (by rw [hjs];exact hR)
    ·rw [hjs] at hB;exact hB
    ·have hi':Lp[i]?=some o:=by rwa [zZ,if_neg (by omega),aO] at hi
     have hc:=LX hpin i o hi'
     rw [bf] at hc
     exact hc
    ·obtain ⟨c,ob,e1,e2,_⟩:=g2 i o (get0 i o hi)
     exact ⟨c,ob,e1,(hS2 c (.inl (af e1))).trans e2⟩
  ·rw [zZ,if_neg (by omega),aO]
   exact ⟨_,ak (l:=q.L0) (by omega)⟩
  ·unfold Pk.hf at hi
   by_cases hm:i ∈ q.bo
   ·rw [if_pos hm] at hi;exact ⟨hi,(yL h5 i hm).2,hm⟩
   ·rw [if_neg hm] at hi;cases hi
  ·rw [hlen]
   have:=get1 i ob hi
   exact ⟨(am.1 this).1,QJ h8 i ob this⟩
def Rj {f:FuncId} {Lp:List AObj} {ys:Nat->List AV} {hl:Nat->Nat->Option AObj} {ans:Nat->Bool} {R:Nat} {spec:St->List AV->Option PkI} {h0:Nat->Option AObj} (hA:∀ F,A F->Acb P (qb (qB 0 Lp)) h0 ys hl ans R F)
  (hf:∀ S bs q,spec S bs=some q->q.q.pre->Fn (Bcc P (qb (qB 0 Lp)) (qb (qB 0 q.q.L0)) (fun j=>ys (S.j+j)) (fun j=>hl (S.j+j)) (fun j=>ans (S.j+j)) q.dj) P f q.q.ar (qb (qB 0 q.q.L0)) q.q.v (qb (ze 0 q.q.L1)) q.dj):qm A P f (fnI Lp R spec) :=
 fun _ _ h hS _ _ _ _ _ _ hw ho hg hb=>Qfq hA hf h hS hw ho hg hb
def cbX (hs:List Nat) (ys:Nat->List AV) (hl:Nat->List AObj) (ans:Nat->Bool) (R:Nat) (S:St) (bs:List AV):Ans :=
 (S.j < R/\AV.leL (fun _=>none) (fun j=>hs[j]?) bs (ys S.j)/\xc S hs hs (hl S.j)/\(∀ o ∈ hl S.j,∀ id ∈ o.ids,id < hs.length),
  {av:=.v (.bool (ans S.j)),hw:=hwL (qj hs S.n) 0 ((hl S.j).map some),hr:=hs,n:=S.n,dj:=1 })
def Yy {hp hp0:Nat->Option AObj} {ys:Nat->List AV} {hl:Nat->List AObj} {ans:Nat->Bool} {R:Nat} {hs:List Nat} (hA:∀ F,A F->Acb P hp hp0 ys (fun j=>nth (hl j)) ans R F) (hpin:∀ i o,hp i=some o->hs[i]?=some i) (hnd:hs.Nodup)
  {S:St} {bs:List AV} (h:(cbX hs ys hl ans R S bs).1) (hS:Wf S) {ops:Array Oper} {o:Oper} {g:Operand} {args:Array Operand} {tys:Array TypeId} {caps:List AV} (hw:Want ops o S)
  (ho:o.op=.call { callee:=.value g,args:=args,argTypes:=tys }) (hg:zT (ev S g)=some (none,caps)) (hb:args.toList.map (ev S)++caps=bs):VE A P ops o (cbX hs ys hl ans R S bs).2 S:=by
 have hv:=QfN (hs:=hs) (hl:=hl) hA hpin hnd (S:=S) (bs:=bs) h hS hw ho hg hb
 have hlen:=(Jf h.2.2.1).1
 have e:(cbE hs ys hl ans R S bs).2=(cbX hs ys hl ans R S bs).2:=by
  simp only [cbE,cbX,za,Rb,ao,bj,bf,hlen,List.range_zero,au,be,AV.ren,nth,zf]
  congr 1
  refine cV fun j hj=>?_
  rw [aC]
  cases (hl S.j)[j]? <;> rfl
 rw [<- e];exact hv
def qU (hs:List Nat) (n:Nat):Nat->List AObj->List (Nat × AObj)
 |_,[]=>[]
 |k,o :: os=>(qj hs n k,o.ren (qj hs n)) :: qU hs n (k+1) os
def QaH (hs:List Nat) (n:Nat):∀ (L:List AObj) (k:Nat) (f:Nat->Option AObj),(∀ i,f (k+i)=L[i]?)->(List.range L.length).filterMap (fun i=>(f (k+i)).map fun o=>(qj hs n (k+i),o.ren (qj hs n)))=qU hs n k L
 |[],k,f,_=>rfl
 |o :: os,k,f,h=>by
  rw [bi,dq,cG]
  have h0:=h 0
  simp only [bj,aJ] at h0
  simp only [bj,h0,bP,qU]
  congr 1
  rw [List.filterMap_map]
  have:=QaH hs n os (k+1) f fun i=>by
   have:=h (i+1)
   rw [bw] at this
   rw [<- this];congr 1;omega
  rw [<- this]
  congr 1
  funext i
  simp only [Function.comp_apply,dM]
  rw [show k+(i+1)=k+1+i by omega]
def QR {hs:List Nat} {n nl:Nat} {L:List AObj} (h:L.length=hs.length+nl):zk hs n nl (nth L)=qU hs n 0 L:=by
 rw [<- QaH hs n L 0 (nth L) (fun i=>by simp [nth])]
 simp only [zk,<- h,bf]
def Xt {hs:List Nat} {n:Nat}:∀ {L:List AObj} {k m:Nat},m < L.length->∃ o,(qj hs n (k+m),o) ∈ qU hs n k L
 |o :: os,k,0,_=>⟨_,ba⟩
 |o :: os,k,m+1,h=>by
  obtain ⟨o',ho⟩:=Xt (hs:=hs) (n:=n) (L:=os) (k:=k+1) (m:=m) (by simpa using h)
  rw [show k+1+m=k+(m+1) by omega] at ho
  exact ⟨o',aZ _ ho⟩
def WS (hs:List Nat) (n:Nat):List AObj->Prop
 |[]=>True
 |o :: os=>(o.nocb/\(∀ id ∈ o.ids,id < hs.length)/\AObj.le (fun _=>none) (fun j=>hs[j]?) (o.ren (qj hs n)) o)/\WS hs n os
def XW {hs:List Nat} {n:Nat}:∀ {L:List AObj},WS hs n L->∀ (q:Nat) (o:AObj),L[q]?=some o->o.nocb/\(∀ id ∈ o.ids,id < hs.length)/\AObj.le (fun _=>none) (fun j=>hs[j]?) (o.ren (qj hs n)) o
 |o :: os,h,0,o',ho=>by simp only [aJ,al] at ho;subst ho;exact h.1
 |o :: os,h,q+1,o',ho=>XW h.2 q o' (by simpa using ho)
def ZZ (N:Nat):List AObj->Prop
 |[]=>True
 |o :: os=>(o.nocb/\∀ id ∈ o.ids,id < N)/\ZZ N os
def Yo {N:Nat}:∀ {L:List AObj},ZZ N L->∀ (q:Nat) (o:AObj),L[q]?=some o->o.nocb/\∀ id ∈ o.ids,id < N
 |o :: os,h,0,o',ho=>by simp only [aJ,al] at ho;subst ho;exact h.1
 |o :: os,h,q+1,o',ho=>Yo h.2 q o' (by simpa using ho)
def V8 (N:Nat):List AV->Prop
 |[]=>True
 |c :: cs=>(c.nocb/\∀ id ∈ c.ids,id < N)/\V8 N cs
def Qac {N:Nat}:∀ {L:List AV},V8 N L->∀ c ∈ L,c.nocb/\∀ id ∈ c.ids,id < N
 |a :: cs,h,c,hc=>by
  rcases ah.1 hc with rfl|hc
  ·exact h.1
  ·exact Qac h.2 c hc
def WT (n:Nat) (H:List (Nat × AObj)) (id:Nat):Prop:=id < n/\id ∈ H.map (·.1)
def kX (n:Nat) (H:List (Nat × AObj)):List Nat->Prop
 |[]=>True
 |i :: r=>WT n H i/\kX n H r
def Xx {n:Nat} {H:List (Nat × AObj)}:∀ {l:List Nat},kX n H l->∀ i ∈ l,WT n H i
 |j :: r,h,i,hi=>by
  rcases ah.1 hi with rfl|hi
  ·exact h.1
  ·exact Xx h.2 i hi
def vW:List (Nat × AV)->List Nat
 |[]=>[]
 |p :: r=>p.2.ids++vW r
def Yf {id:Nat}:∀ {L:List (Nat × AV)} {p:Nat × AV},p ∈ L->id ∈ p.2.ids->id ∈ vW L
 |q :: r,p,hp,hid=>by
  rcases ah.1 hp with rfl|hp
  ·exact dh _ hid
  ·exact cR _ (Yf hp hid)
def Qfw {H:List (Nat × AObj)} {i:Nat} (h:i ∈ H.map (·.1)):∃ o,qb H i=some o:=by
 obtain ⟨p,hp,rfl⟩:=ap.1 h
 exact K5 (o:=p.2) hp
structure RangeJ (L:List (Nat × AV)) (ps hs:List Nat) (n m nl:Nat) (d:List ADf) (H:List (Nat × AObj)) (Lt:List AObj) (y:List AV):Prop where
 own:kZ (n+1) ((n,.mark) :: H)
 len:Lt.length=hs.length+nl
 lent:ZZ (hs.length+nl) Lt
 args:V8 (hs.length+nl) y
 plen:ps.length=y.length
 keys:kX (n+1) ((n,.mark) :: H++qU hs (n+1) 0 Lt) (List.range m++(hs++(vW L++(ADf.mark n :: d).flatMap ADf.ids)))
def wV (L:List (Nat × AV)) (ps hs:List Nat) (n nl:Nat) (y:List AV) (H:List (Nat × AObj)) (Lt:List AObj):St :=
 {t:=QE (asg L) (ps.zip (y.map (AV.ren (qj hs (n+1))))),h:=qb ((n,.mark) :: H++qU hs (n+1) 0 Lt),n:=n+1+nl,m:=n+1+nl }
def vO (S:St) (hf:Nat->Option AObj) (hs:List Nat) (n:Nat):Nat->List AObj->Prop
 |_,[]=>True
 |k,o :: os=>(match S.h (qj hs n k) with|some ob=>AObj.le hf (fun j=>some (qj hs n j)) ob o|none=>False)/\vO S hf hs n (k+1) os
def X0 {S:St} {hf:Nat->Option AObj} {hs:List Nat} {n:Nat}:∀ {L:List AObj} {k:Nat},vO S hf hs n k L->∀ (q:Nat) (o:AObj),L[q]?=some o->∃ ob,S.h (qj hs n (k+q))=some ob/\AObj.le hf (fun j=>some (qj hs n j)) ob o
 |o :: os,k,h,0,o',ho=>by
  simp only [aJ,al] at ho
  subst ho
  have h1:=h.1
  split at h1
  ·rename_i ob hob;exact ⟨ob,hob,h1⟩
  ·exact h1.elim
 |o :: os,k,h,q+1,o',ho=>by
  have:=X0 h.2 q o' (by simpa using ho)
  rwa [show k+1+q=k+(q+1) by omega] at this
def vC (hs:List Nat) (n:Nat):Nat->List AObj->List Nat
 |_,[]=>[]
 |k,_ :: os=>qj hs n k :: vC hs n (k+1) os
def YJ {hs:List Nat} {n:Nat}:∀ {L:List AObj} {k q:Nat},q < L.length->qj hs n (k+q) ∈ vC hs n k L
 |o :: os,k,0,_=>ba
 |o :: os,k,q+1,h=>by
  have:=YJ (hs:=hs) (n:=n) (L:=os) (k:=k+1) (q:=q) (by simpa using h)
  rw [show k+1+q=k+(q+1) by omega] at this
  exact aZ _ this
structure RFinOK (S:St) (hs:List Nat) (n:Nat) (own:List (Nat × AObj)) (Lt:List AObj) (kp:List Nat) (σ:Nat->Option Nat) (fz:List Nat):Prop where
 h:leH S (fun i=>if i ∈ fz then S.h i else none) σ own
 l:vO S (fun i=>if i ∈ fz then S.h i else none) hs n 0 Lt
 img:(JG σ own).Nodup
 apart:∀ i ∈ JG σ own,i ∉ vC hs n 0 Lt
 frz:∀ i ∈ fz,i ∉ JG σ own/\i ∉ vC hs n 0 Lt
 pin:∀ i ∈ kp,σ i=some i
def RFin.ok {S:St} {L:List (Nat × AV)} {hs:List Nat} {n m:Nat} {d:List ADf} {own:List (Nat × AObj)} {Lt:List AObj} (σ:Nat->Option Nat) (fz:List Nat) (h:RFinOK S hs (n+1) own Lt (List.range m++(hs++(vW L++(ADf.mark n :: d).flatMap ADf.ids))) σ fz) :
  RFin S hs (n+1) own (nth Lt) (Ql7 (asg L) hs n m d) σ (fun i=>if i ∈ fz then S.h i else none):=by
 refine ⟨fun i o1 ho=>Vb h.h _ (qG ho),fun q o0 ho=>?_,fun i o k o' c h1 h2 e1 e2=>?_,fun i o q o0 h1 h2 e=>?_,fun i o hi=>?_,fun id hid=>?_⟩
 ·have:=X0 h.l q o0 ho
  rwa [bf] at this
 ·rcases JU h.img _ (qG h1) _ (qG h2) c e1 e2 with h|h|h
  ·exact congrArg (·.1) h
  ·exact h
  ·exact h.elim
 ·have hm:=YJ (hs:=hs) (n:=n+1) (L:=Lt) (k:=0) (q:=q) (am.1 h2).1
  rw [bf] at hm
  exact h.apart _ (bS.2 ⟨_,qG h1,e⟩) hm
 ·by_cases hm:i ∈ fz
  ·rw [if_pos hm] at hi
   refine ⟨hi,fun j o1 hj hs=>(h.frz i hm).1 (bS.2 ⟨_,qG hj,hs⟩),fun q o0 hq e=>?_⟩
   have hm':=YJ (hs:=hs) (n:=n+1) (L:=Lt) (k:=0) (q:=q) (am.1 hq).1
   rw [bf,e] at hm'
   exact (h.frz i hm).2 hm'
  ·rw [if_neg hm] at hi;cases hi
 ·refine h.pin id ?_
  simp only [aD,aY]
  rcases hid with h|h|⟨t,h⟩|h
  ·exact .inl h
  ·exact .inr (.inl h)
  ·refine .inr (.inr (.inl ?_))
   rcases Wp L t with e|⟨p,hp,_,e⟩
   ·rw [e] at h;simp [AV.ids] at h
   ·rw [e] at h;exact Yf hp h
  ·exact .inr (.inr (.inr h))
def QcN (P:Program) (f:FuncId) (az:List AV) (hp h0:Nat->Option AObj) (ys:Nat->List AV) (N:Nat) (hl:Nat->Nat->Option AObj) (v:Nat->(Nat->Bool)->AV):Prop :=
 ∀ ans R,Rounds ans R N->Fn (Bcc P hp h0 ys hl ans R) P f az h0 (v R ans) h0 R
structure RoundOf (F:Frm) (j:Nat) (H:Nat->Option AObj) (F':Frm):Prop where
 y:F'.y=F.y
 r:∃ l,F'.r=some l
 H0:F'.H0=H
 jay:∃ Pr wj,F'.J=Jc F.J j Pr wj
 rho:∀ i o,F.H0 i=some o->(∃ o',H i=some o')->F'.ρ0 i=F.ρ0 i
 ext:Ext (fun b=>F.own0.prv b\/F.owns0 b) F.w0 F'.w0
 prv:∀ b,F'.own0.prv b->F.own0.prv b\/F.w0.heap.size<=b\/F.owns0 b
 owns:∀ b,F'.owns0 b->F.w0.heap.size<=b\/F.owns0 b
def XU {F F':Frm} {hp h0:Nat->Option AObj} {ys:Nat->List AV} {hl:Nat->Nat->Option AObj} {ans:Nat->Bool} {R j:Nat} {H:Nat->Option AObj} (hA:Acb P hp h0 ys hl ans R F) (hR:RoundOf F j H F') (hsub':∀ i o,hp i=some o->∃ o',H i=some o') :
  Acb P hp H (fun k=>ys (j+k)) (fun k=>hl (j+k)) (fun k=>ans (j+k)) (R - j) F':=by
 obtain ⟨hH0,hsub,hB⟩:=hA
 refine ⟨hR.H0,hsub', ?_⟩
 have hown0:∀ b,F.owns0 b ↔ ∃ i o,h0 i=some o/\blk (F.ρ0 i)=some b:=fun b=>by simp only [Frm.owns0,hH0]
 have hown1:∀ b,F'.owns0 b ↔ ∃ i o,H i=some o/\blk (F'.ρ0 i)=some b:=fun b=>by simp only [Frm.owns0,hR.H0]
 obtain ⟨Pr,wj,hJ⟩:=hR.jay
 intro k hk Pr' own1 w1 ρ1 vs hHp hpins hext hnew hprv hsz hrel
 simp only at hHp hpins hext hnew hprv hrel ⊢
 rw [hR.y] at hHp hrel ⊢
 rw [hJ] at hHp ⊢
 have hjay:=hHp.1
 have hh:∀ b,Pr b->w1.heap[b]?=wj.heap[b]?:=fun b hb=>by
  obtain ⟨_,⟨_,_,_,_,a3⟩,_⟩:=hjay
  exact (a3 b hb).2.2
 have hd:∀ b,Pr' b->¬ Pr b:=fun b hb hn=>by
  obtain ⟨o1,⟨o2,_,a1,_,_⟩,_,_,b3⟩:=hjay
  exact (b3 b hb).1 ((a1 b).2 (.inr hn))
 have hans:=hB (j+k) (by omega) (fun b=>Pr' b\/Pr b) own1 w1 ρ1 vs ⟨QlH hh hHp.1,hHp.2,hHp.3,hHp.4⟩
  (fun i o hi=>by
   obtain ⟨o',ho'⟩:=hsub i o hi
   rw [hpins i o hi]
   exact hR.rho i o' (by rw [hH0];exact ho') (hsub' i o hi))
  ((hR.ext.weaken fun b _ h=>h.imp id (hown0 b).1).trans hext fun b hlt hb=>by
   rcases hb with hb|hb
   ·rcases hR.prv b hb with h|h|h
    ·exact .inl h
    ·omega
    ·exact .inr ((hown0 b).1 h)
   ·rcases hR.owns b ((hown1 b).2 hb) with h|h
    ·omega
    ·exact .inr ((hown0 b).1 h))
  (fun i o b hi hb=>by
   rcases hnew i o b hi hb with h|h
   ·exact .inl (aN hR.ext.size h)
   ·exact (hR.owns b ((hown1 b).2 h)).imp id (hown0 b).1)
  (fun b hb=>by
   rcases hprv b hb with h|h|h
   ·rcases hR.prv b h with h|h|h
    ·exact .inl h
    ·exact .inr (.inl h)
    ·exact .inr (.inr ((hown0 b).1 h))
   ·exact .inr (.inl (aN hR.ext.size h))
   ·exact .inr ((hR.owns b ((hown1 b).2 h)).imp id (hown0 b).1)) hsz hrel
 refine Wh.mono hans ?_
 rintro e w' ⟨he,own',hp',hx',hpv'⟩
 exact ⟨he,own',⟨QgJ hh hd hp'.1,hp'.2,hp'.3,hp'.4⟩,hx',hpv'⟩
def Qcl {F:Frm} {ws:World} {ρs:Nat->Value} {oks keep:Nat->Prop} {l:Nat} {rec0:Loop} {ans:Nat->Bool} {ex:Exit} {R N:Nat} {T:Nat->AV} {a0:Act} {hs hq:List Nat} {n nl:Nat} {ys:Nat->List AV} {hc:Nat->List (Nat × AObj)} {hl:Nat->Nat->Option AObj} {hp h0:Nat->Option AObj} {jj:Nat->Nat} {A':Nat->Frm->Prop} {own0:Own}
  (hRo:Rounds ans R N) (hex:ex=.ret\/(∃ id,ex=.exit id)\/∃ g,ex=.goto g) (hrec0:rec0.state=.ready/\rec0.pending=none/\rec0.tmps=a0.tmps)
  (hst:∀ j,j < R->RStat F T rec0.params.toList hq n nl (ys j) (hc j) (hl j) keep) (hT:∀ t,ARel ws oks ρs F.y (T t) (a0.tmps.getD t undef)) (hsz:a0.tmps.size=F.nt)
  (hlids:∀ j,j < R->∀ m o,hl j m=some o->∀ id ∈ o.ids,∃ o',hl j id=some o') (hkeep:∀ j,j < R->∀ id,keep id->id < n/\∃ o,qb (hc j++zk hq n nl (hl j)) id=some o)
  (hlast:∀ j,j < R->∀ m o0,hl j m=some o0->∃ o,qb (hc j++zk hq n nl (hl j)) (qj hq n m)=some o)
  (hdom:∀ m,m < hq.length->∃ o,hp m=some o) (hpre:∀ (m c:Nat),hq[m]?=some c->hs[m]?=some c) (hhs:∀ (m c:Nat),hq[m]?=some c->keep c)
  (hd1:vN F.nt rec0.assign=true) (hd2:vN F.nt rec0.body=true) (hA':∀ j,j < R->∀ F',RoundOf F (jj j) (qb (hc j++zk hq n nl (hl j))) F'->A' j F')
  (hpin0:∀ i o,F.H0 i=some o->ρs i=F.ρ0 i/\(keep i\/∀ j,j < R->qb (hc j++zk hq n nl (hl j)) i=none)) (hx0:Ext (fun b=>F.own0.prv b\/F.owns0 b) F.w0 ws) (hl0:F.w0.heap.size<=l)
  (hb0:∀ i o b,h0 i=some o->blk (qR hs ρs i)=some b->F.w0.heap.size<=b\/F.owns0 b) (ho0:∀ b,own0.prv b->F.own0.prv b\/F.w0.heap.size<=b\/F.owns0 b)
  (hround:∀ j,j < R->Sym (A' j) P rec0.assign (Yg T rec0.params.toList hq n nl (ys j) (hc j) (hl j)) (Qo (fun S1=>Sym (A' j) P rec0.body S1 (endK ans ex jj hq n hc hl keep j)) fun _ _=>False))
  {yv:Value} (hyv:yv=.func (.yield l) #[] #[]) :
  Bcc P hp h0 ys hl ans R ⟨yv,RJ F ws ρs oks keep l (recAt rec0 ans ex) (fun k=>qb (hc k)) jj,own0,ws,qR hs ρs⟩:=by
 intro j hj Pr own w ρ vs hHp hpins hext hlb hprv hvs hargs
 simp only at hHp hpins hext hlb hprv hargs ⊢
 obtain ⟨ownr,⟨ρk,ownk,fz,hR⟩,hxa,hxp,hPr⟩:=hHp.jay
 simp only [bj] at hR
 have hrj:recAt rec0 ans ex j=rec0:=by
  unfold recAt
  rw [if_neg]
  rintro ⟨h1,h2⟩
  have:=hRo.yes (j - 1) (by omega)
  rw [h2] at this;cases this
 rw [hrj] at hR
 have hs1:=hst j hj
 have hpin:∀ (m c:Nat),hq[m]?=some c->ρ m=ρk c:=fun m c hc=>by
  obtain ⟨o,ho⟩:=hdom m (am.1 hc).1
  rw [hpins m o ho]
  simp only [qR,hpre m c hc]
  exact (hR.keep c (hhs m c hc)).symm
 have hb1:∀ b,(∃ k o',h0 k=some o'/\blk (qR hs ρs k)=some b)->F.w0.heap.size<=b\/F.owns0 b:=fun b ⟨k,o',h1,h2⟩=>hb0 k o' b h1 h2
 have hRO:∀ (wj:World) (hrec:∃ rc,wj.heap[l]?=some (.loop rc)),RoundOf F (jj j) (qb (hc j++zk hq n nl (hl j))) (Vu F l (jj j) (fun b=>Pr b\/b=l) wj (.inr rfl) hrec w (zA hq n nl ρk ρ) (qb (hc j++zk hq n nl (hl j))) (Qb ownk fun b=>Pr b\/b=l) (n+nl) (Zh hs1.hsn hs1.own)):=fun wj hrec=>by
  refine ⟨rfl,⟨l,rfl⟩,rfl,⟨_,_,rfl⟩,fun i o hi hex'=>?_,hx0.trans hext fun b hlt hb=>?_,fun b hb=>?_, ?_⟩
  ·obtain ⟨h2,h1⟩:=hpin0 i o hi
   obtain ⟨o',hex'⟩:=hex'
   have h1:=h1.resolve_right fun h=>by rw [h j hj] at hex';cases hex'
   show zA hq n nl ρk ρ i=F.ρ0 i
   rw [zN (hkeep j hj i h1).1,hR.keep i h1,h2]
  ·rcases hb with hb|hb
   ·rcases ho0 b hb with h|h|h
    ·exact .inl h
    ·omega
    ·exact .inr h
   ·rcases hb1 b hb with h|h
    ·omega
    ·exact .inr h
  ·rcases hb with hb|hb|rfl
   ·rcases hR.psub b hb with h|h
    ·exact .inl h
    ·exact .inr (.inl h)
   ·rcases hprv b ((hxp b).2 (.inr hb)) with h|h|h
    ·exact ho0 b h
    ·exact .inr (.inl (aN hx0.size h))
    ·exact .inr (hb1 b h)
   ·exact .inr (.inl hl0)
  ·rintro b ⟨i,o,hi,hb⟩
   have hi:qb (hc j++zk hq n nl (hl j)) i=some o:=hi
   have hb:blk (zA hq n nl ρk ρ i)=some b:=hb
   rw [yj] at hi
   cases ho:qb (hc j) i with
   |some o1 =>
    rw [zN (hs1.own i o1 ho).1] at hb
    exact hR.prov i o1 b ho hb
   |none =>
    rw [ho] at hi
    obtain ⟨m,o0,hm,h0',rfl,_⟩:=ku hi
    rw [Zp hs1.hsn hpin hm] at hb
    rcases hlb m o0 b h0' hb with h|h
    ·exact .inl (aN hx0.size h)
    ·exact hb1 b h
 have hPr':∀ b,Pr b->¬ ownr.all b/\b < w.heap.size:=fun b hb=>⟨(hPr b hb).1,(hPr b hb).2.1⟩
 have H0:=Lj (yv:=yv) hs1 hR hPr' hxa hxp hHp.obj hHp.inj hHp.off hpin hvs hargs hT hsz
 have hll:l < w.heap.size:=(aV.1 hR.rcd).1
 refine ⟨l,rec0.fn,_,rec0.assign,rec0.body,hyv,run_yield hR.rcd (by rw [hvs,<- hs1.plen];simp), ?_⟩
 rw [Qfd,hrec0.2.2]
 refine roundIn_of_wpIn trivial ?_
 have hw0:=fun h1 h2=>hround j hj _ h1 h2 _ w ⟨_,_,H0⟩
 have hw1:=hw0 (hA' j hj _ (hRO _ _)) hd1
 refine wpIn_mono hw1 ?_
 rintro e a1 w1 ⟨S1,hk,ρ1,own1,H1⟩
 cases e with
 |normal =>
  obtain ⟨ownk1,_,_,_,hpr1⟩:=H1.jay
  have hrc1:w1.heap[l]?=some (.loop rec0):=(hpr1 l (.inr rfl)).2.2.trans hR.rcd
  have hl1:l < w1.heap.size:=(hpr1 l (.inr rfl)).2.1
  refine ⟨_,run_beginRound hrc1 hrec0.1, ?_⟩
  have H2:=Qaj (rc:={ rec0 with state:=.busy }) H1 (.inr (.inr rfl)) hl1
  have hw3:=fun h1 h2=>hk _ h1 h2 a1 _ ⟨_,_,H2⟩
  have hw2:=hw3 (hA' j hj _ (hRO _ _)) hd2
  refine wpIn_mono hw2 ?_
  rintro e a2 w3 ⟨S2,⟨he,hjj,σ,hf,hF⟩,ρ3,own3,H3⟩
  obtain ⟨ownk3,_,_,_,hpr3⟩:=H3.jay
  have hPl:∀ b,Pr b->b ≠ l:=fun b hb e=>(hPr b hb).1 (e ▸ (hR.all l).2 (.inr (.inr (.inl rfl))))
  have hw2c:∀ b,Pr b->(w1.putObj l (.loop { rec0 with state:=.busy })).heap[b]?=w.heap[b]?:=fun b hb=>by
   rw [xN,if_neg (fun e=>hPl b hb e.1)]
   exact (hpr1 b (.inl hb)).2.2
  have hrc3:w3.heap[l]?=some (.loop { rec0 with state:=.busy }):=by
   rw [(hpr3 l (.inr rfl)).2.2,xN,if_pos ⟨rfl,hl1⟩]
  have fin:∀ (jump:Option Code),({ ({ rec0 with state:=.busy }:Loop) with state:=if jump.isNone then .ready else .done,pending:=jump }:Loop)=recAt rec0 ans ex (j+1)->jump.isNone=ans j ->
    ∃ v w',(Instr.endRound l jump).run P w3=.ok v w'/\(Ending.returned v=.returned (.bool (ans j))/\∃ own',Hp (Jc (RJ F ws ρs oks keep l (recAt rec0 ans ex) (fun k=>qb (hc k)) jj) j Pr w) yv (hl j) 1 own' w' ρ/\Ext (fun b=>own.prv b\/∃ i o,hl j i=some o/\blk (ρ i)=some b) w w'/\∀ b,own'.prv b->own.prv b\/w.heap.size<=b):=by
   intro jump hjr hja
   refine ⟨_,_,run_endRound jump hrc3,by rw [hja], ?_⟩
   obtain ⟨ownk',fz',ownr',ownx',q1,q2,q3,q4,q5,q6,q7,q8⟩:=Qeq (rc':=recAt rec0 ans ex (j+1)) (yv:=yv) hs1 hR hPr' hxa hxp (fun m o h b hb=>(hHp.obj m o h).lt hb) hHp.inj hHp.off (hlids j hj) hpin (hkeep j hj) (hlast j hj) hw2c H3 hF
   rw [hjr]
   rw [<- hjj] at q1
   exact ⟨ownx',⟨⟨ownr',⟨_,ownk',fz',q1⟩,q2,q3,q4⟩,fun m o h=>(q5 m o h).chy (hs1.lent m o h).2.1,hHp.inj,q6⟩,q7,q8⟩
  by_cases hans:ans j=true
  ·rw [if_pos hans] at he
   subst he
   refine fin none ?_ (by rw [hans];rfl)
   unfold recAt
   have hc2:¬ (0 < j+1/\ans (j+1 - 1)=false):=by simp [hans]
   rw [if_neg hc2]
   obtain ⟨h1,h2,_⟩:=hrec0
   cases rec0
   simp only at h1 h2
   subst h1 h2
   rfl
  ·rw [if_neg hans] at he
   have hans:ans j=false:=by simpa using hans
   have hra:∀ c,Qcu ex=some c->({ ({ rec0 with state:=.busy }:Loop) with state:=if (some c:Option Code).isNone then .ready else .done,pending:=some c }:Loop)=recAt rec0 ans ex (j+1):=fun c hc=>by
    unfold recAt
    have hc2:0 < j+1/\ans (j+1 - 1)=false:=⟨by omega,by simpa using hans⟩
    rw [if_pos hc2,hc]
    rfl
   rcases hex with rfl|⟨id,rfl⟩|⟨g,rfl⟩ <;> subst he
   ·exact fin (some .ret) (hra _ rfl) (by rw [hans];rfl)
   ·exact fin (some (.exit id)) (hra _ rfl) (by rw [hans];rfl)
   ·exact fin (some (.goto g)) (hra _ rfl) (by rw [hans];rfl)
 |exit id=>exact hk.elim
 |goto g=>exact hk.elim
 |ret=>exact hk.elim
 |panic c=>exact hk.elim
 |outgrown=>exact hk.elim
def QbQ {F:Frm} {ws:World} {ρs:Nat->Value} {oks keep:Nat->Prop} {l:Nat} {rc rc':Loop} {ownr own':Own} {w:World} {ρk:Nat->Value} {ownk:Own} {fz:Nat->Prop} {T:Nat->AV} {a1:Act} {hs:List Nat} {n m:Nat} {hm:Nat->List (Nat × AObj)} {h0:Nat->Option AObj} {jj:Nat->Nat} {k:Nat} {d:List ADf} {ρx:Nat->Value} {yv:Value}
  (hR:RH F ws ρs oks keep l rc (qb (hm k)) (jj k) ownr w ρk ownk fz) (hown:own'=ownr)
  (lobj:∀ m o,h0 m=some o->ORel w (okB w own' ρx h0) ρx yv o (ρx m)) (linj:∀ i k o o' b,h0 i=some o->h0 k=some o'->blk (ρx i)=some b->blk (ρx k)=some b->i=k) (loff:∀ m o b,h0 m=some o->blk (ρx m)=some b->¬ own'.all b)
  (lprov:∀ m o b,h0 m=some o->blk (ρx m)=some b->F.w0.heap.size<=b\/F.owns0 b) (hpin:∀ (m c:Nat),hs[m]?=some c->ρx m=ρs c) (hsR:∀ c ∈ hs,qb (hm k) c=none) (hoR:∀ i o,qb (hm k) i=some o->∀ id ∈ o.ids,id ∈ hs->keep id)
  (hnc:∀ m o,h0 m=some o->o.nocb/\m < hs.length/\∀ id ∈ o.ids,id < hs.length) (hsn:∀ c ∈ hs,c < n+1) (hmn:∀ i o,qb (hm k) i=some o->i < n+1/\∀ id ∈ o.ids,id < n+1)
  (hTn:∀ t,∀ id ∈ (T t).ids,id < n+1/\keep id) (hdn:∀ id ∈ (ADf.mark n :: d).flatMap ADf.ids,id < n+1/\keep id)
  (hT:∀ t,ARel ws oks ρs F.y (T t) (a1.tmps.getD t undef)) (hD:DfsRel ws oks ρs F.y (.mark n :: d) a1.defers) (hsz:a1.tmps.size=F.nt)
  (hmm:F.n0=m) (hmk:∀ id,id < m->keep id\/id ∈ hs) (hpins:∀ i o,F.H0 i=some o->ρs i=F.ρ0 i) (hmn1:m<=n+1)
  (hlnew:F.w0.heap.size<=l) (hext:Ext (fun b=>F.own0.prv b\/F.owns0 b) F.w0 w) :
  Gam F (QcC T hs n hm h0 jj d m k) a1 (w.putObj l (.loop rc')):=by
 subst hown
 have hx:Ext (fun k=>k=l) w (w.putObj l (.loop rc')):=Ext.putObj _ _ _ rfl
 let ρf:Nat->Value:=fun id=>if id ∈ hs then ρs id else ρk id
 have hfs:∀ id,keep id->ρf id=ρs id:=fun id h=>by
  by_cases hm:id ∈ hs
  ·exact if_pos hm
  ·exact (if_neg hm).trans (hR.keep id h)
 have hkey:∀ i o,qb (hm k) i=some o->ρf i=ρk i:=fun i o h=>if_neg fun hn=>by rw [hsR i hn] at h;cases h
 have hoid:∀ i o,qb (hm k) i=some o->∀ id ∈ o.ids,ρf id=ρk id:=fun i o h id hid=>by
  by_cases hn:id ∈ hs
  ·have hk:=hoR i o h id hid hn
   exact (hfs id hk).trans (hR.keep id hk).symm
  ·exact if_neg hn
 have hren:∀ q o,h0 q=some o->ρf (qj hs (n+1) q)=ρx q:=fun q o h=>by
  obtain ⟨c,hc⟩:∃ c,hs[q]?=some c:=⟨hs[q]'(hnc q o h).2.1,ak (hnc q o h).2.1⟩
  simp only [qj,hc]
  exact (if_pos (af hc)).trans (hpin q c hc).symm
 have hlook:∀ {i o},qb (hm k++zk hs (n+1) 0 h0) i=some o->qb (hm k) i=some o\/∃ q o0,h0 q=some o0/\i=qj hs (n+1) q/\o=o0.ren (qj hs (n+1)):=fun {i o} hi=>by
  rw [yj] at hi
  cases ho:qb (hm k) i with
  |some o1=>rw [ho] at hi;exact .inl hi
  |none=>rw [ho] at hi;obtain ⟨q,o0,_,h1,e1,e2⟩:=ku hi;exact .inr ⟨q,o0,h1,e1,e2⟩
 have hfzok:∀ b,fz b->okB (w.putObj l (.loop rc')) ownk ρf (qb (hm k++zk hs (n+1) 0 h0)) b/\(w.putObj l (.loop rc')).heap[b]?=w.heap[b]?:=fun b hb=>by
  obtain ⟨g1,g2,g3,g4⟩:=hR.fzok b hb
  refine ⟨⟨aE g1 hx.size,g2,fun i o hi hbi=>?_⟩,hx.block b g1 g4⟩
  rcases hlook hi with h|⟨q,o0,h1,rfl,_⟩
  ·rw [hkey i o h] at hbi;exact g3 ⟨i,o,h,hbi⟩
  ·rw [hren q o0 h1] at hbi;exact loff q o0 b h1 hbi ((hR.all b).2 (.inr (.inr (.inr hb))))
 have hlok:∀ b,okB w own' ρx h0 b->okB (w.putObj l (.loop rc')) ownk ρf (qb (hm k++zk hs (n+1) 0 h0)) b/\(w.putObj l (.loop rc')).heap[b]?=w.heap[b]?:=fun b ⟨g1,g2,g3⟩=>by
  refine ⟨⟨aE g1 hx.size,fun h=>g2 ((hR.prv b).2 (.inl h)),fun i o hi hbi=>?_⟩,hx.block b g1 fun e=>g2 ((hR.prv b).2 (.inr (.inr e)))⟩
  rcases hlook hi with h|⟨q,o0,h1,rfl,_⟩
  ·rw [hkey i o h] at hbi;exact g2 ((hR.prv b).2 (.inr (.inl ⟨i,o,h,hbi⟩)))
  ·rw [hren q o0 h1] at hbi;exact g3 q o0 h1 hbi
 have hoks:∀ b,oks b->okB (w.putObj l (.loop rc')) ownk ρf (qb (hm k++zk hs (n+1) 0 h0)) b/\(w.putObj l (.loop rc')).heap[b]?=ws.heap[b]?:=fun b hb=>by
  obtain ⟨g1,g2⟩:=hR.oks b hb
  exact ⟨(hfzok b g1).1,(hfzok b g1).2.trans g2⟩
 refine ⟨ρf,ownk,(F.stable _ _ _ hR.jay).2 _ (hx.weaken fun b _ e ho=>hR.lown (e ▸ ho)),fun t=>(hT t).mono hoks fun id hid=>hfs id (hTn t id hid).2,fun i o hi=>?_,fun i q o o' b hi hq hbi hbq=>?_,fun i o b hi hb=>?_,fun id hid=>?_, ?_,hmm,hsz,fun i o hi=>?_, ?_,hR.psub,hR.still,hD.mono hoks fun id hid=>hfs id (hdn id hid).2⟩
 ·rcases hlook hi with h|⟨q,o0,h1,rfl,rfl⟩
  ·rw [hkey i o h]
   exact (hR.obj i o h).mono hfzok (fun b hb=>hx.block b ((hR.obj i o h).lt hb) (hR.off i o b h hb).2) fun id hid=>hoid i o h id hid
  ·rw [hren q o0 h1]
   have h2:=((lobj q o0 h1).chy (y':=F.y) (hnc q o0 h1).1).mono (ρ':=ρx) hlok (fun b hb=>hx.block b ((lobj q o0 h1).lt hb) fun e=>loff q o0 b h1 hb ((hR.all b).2 (.inr (.inr (.inl e))))) fun _ _=>rfl
   exact AObj.ren_rel h2 (.inr fun b hb=>hb) fun id hid=>by
    obtain ⟨c,hc⟩:∃ c,hs[id]?=some c:=⟨_,ak ((hnc q o0 h1).2.2 id hid)⟩
    simp only [qj,hc]
    exact (if_pos (af hc)).trans (hpin id c hc).symm
 ·have cross:∀ {i o q o0},qb (hm k) i=some o->h0 q=some o0->blk (ρk i)=some b->blk (ρx q)=some b->False:=fun {i o q o0} h h1 hb hb' =>
   loff q o0 b h1 hb' ((hR.all b).2 (.inr (.inl ⟨i,o,h,hb⟩)))
  rcases hlook hi with h|⟨q1,o1,h1,rfl,rfl⟩
  ·rcases hlook hq with h'|⟨q2,o2,h2,rfl,rfl⟩
   ·rw [hkey i o h] at hbi
    rw [hkey q o' h'] at hbq
    exact hR.inj i q o o' b h h' hbi hbq
   ·rw [hren q2 o2 h2] at hbq;rw [hkey i o h] at hbi;exact (cross h h2 hbi hbq).elim
  ·rw [hren q1 o1 h1] at hbi
   rcases hlook hq with h'|⟨q2,o2,h2,rfl,rfl⟩
   ·rw [hkey q o' h'] at hbq;exact (cross h' h1 hbq hbi).elim
   ·rw [hren q2 o2 h2] at hbq;rw [linj q1 q2 o1 o2 b h1 h2 hbi hbq]
 ·rcases hlook hi with h|⟨q,o0,h1,rfl,rfl⟩
  ·rw [hkey i o h] at hb;exact ⟨(hR.off i o b h hb).1,hR.prov i o b h hb⟩
  ·rw [hren q o0 h1] at hb;exact ⟨fun ho=>loff q o0 b h1 hb ((hR.all b).2 (.inl ho)),lprov q o0 b h1 hb⟩
 ·have hid:n+1<=id:=hid
  refine ⟨?_,fun t hm'=>?_,fun i o hi hm'=>?_,fun hm'=>?_⟩
  ·show qb (hm k++zk hs (n+1) 0 h0) id=none
   cases ho:qb (hm k++zk hs (n+1) 0 h0) id with
   |none=>rfl
   |some o =>
    rcases hlook ho with h|⟨q,o0,h1,e,_⟩
    ·have:=(hmn id o h).1;omega
    ·have:=kF (nl:=0) hsn (show q < hs.length+0 from (hnc q o0 h1).2.1);omega
  ·have:=(hTn t id hm').1;omega
  ·rcases hlook hi with h|⟨q,o0,h1,rfl,rfl⟩
   ·have:=(hmn i o h).2 id hm';omega
   ·rw [AObj.ren_ids] at hm'
    obtain ⟨z,hz,rfl⟩:=ap.1 hm'
    have:=kF (nl:=0) hsn (show z < hs.length+0 from (hnc q o0 h1).2.2 z hz);omega
  ·have:=(hdn id hm').1;omega
 ·show F.n0<=n+1;omega
 ·have e:ρf i=ρs i:=(hmk i (by rw [<- hmm];exact F.pinn i o hi)).elim (hfs i) fun h=>if_pos h
  rw [e];exact hpins i o hi
 ·refine hext.trans hx fun b hb e=>?_
  exfalso;omega
def ZQ (T:Nat->AV) (hs xs:List Nat) (n m:Nat) (d:List ADf) (id:Nat):Prop:=(id < m/\id ∉ xs)\/id ∈ hs\/(∃ t,id ∈ (T t).ids)\/id ∈ (ADf.mark n :: d).flatMap ADf.ids
def Qce (hAr:∀ F,A F->F.r=none) {A':Nat->Frm->Prop} {g:Operand} {ps:Array Tmp} {assign body:Code} {T T':Nat->AV} {hs hq xs:List Nat} {n m nl:Nat} {hc:Nat->List (Nat × AObj)} {hp h0:Nat->Option AObj} {jj:Nat->Nat} {d:List ADf} {K:Exit->St->Prop}
  {f:FuncId} {caps caps0:List AV} {ys:Nat->List AV} {N R:Nat} {hl:Nat->Nat->Option AObj} {vv:Nat->(Nat->Bool)->AV} {ans:Nat->Bool} {ex:Exit}
  (hg:ev { t:=T,h:=qb (hc 0++zk hs (n+1) 0 h0),n:=n,j:=jj 0,d:=d,m:=m } g=.clo f caps) (hit:QcN P f (.cb :: caps0) hp h0 ys N hl vv)
  (hA':∀ F,A F->∀ j,j < R->∀ F',RoundOf F (jj j) (qb (((n,.mark) :: hc j)++zk hq (n+1) nl (hl j))) F'->A' j F') (hTT:∀ t,T' t=T t\/T' t=.junk) (hxs:∀ x ∈ xs,x ∈ hs/\∀ j,j < R->qb (((n,.mark) :: hc j)++zk hq (n+1) nl (hl j)) x=none) (hpre:∀ (m c:Nat),hq[m]?=some c->hs[m]?=some c) (hpd:∀ m,m < hq.length->∃ o,hp m=some o) (hRo:Rounds ans R N) (hex:ex=.ret\/(∃ id,ex=.exit id)\/∃ g,ex=.goto g)
  (hcaps:AV.leL (fun _=>none) (fun j=>hs[j]?) caps caps0) (hcn:AV.nocbL caps0)
  (hobj:∀ q o0,h0 q=some o0->q < hs.length/\o0.nocb/\(∀ id ∈ o0.ids,id < hs.length)/\AObj.le (fun _=>none) (fun j=>hs[j]?) (o0.ren (qj hs (n+1))) o0)
  (hdom:∀ q,q < hs.length->∃ o,h0 q=some o) (hnd:hs.Nodup) (hsn:∀ c ∈ hs,qb (hc 0) c=none)
  (hst:∀ F,A F->∀ j,j < R->RStat F T' ps.toList hq (n+1) nl (ys j) ((n,.mark) :: hc j) (hl j) (ZQ T' hq xs n m d))
  (hlids:∀ j,j < R->∀ m o,hl j m=some o->∀ id ∈ o.ids,∃ o',hl j id=some o') (hkeep:∀ j,j < R->∀ id,ZQ T' hq xs n m d id->id < n+1/\∃ o,qb (((n,.mark) :: hc j)++zk hq (n+1) nl (hl j)) id=some o)
  (hlast:∀ j,j < R->∀ m o0,hl j m=some o0->∃ o,qb (((n,.mark) :: hc j)++zk hq (n+1) nl (hl j)) (qj hq (n+1) m)=some o)
  (hend:∀ i o,qb ((n,.mark) :: hc R) i=some o->i < n+1/\∀ id ∈ o.ids,id < n+1)
  (hsR:∀ c ∈ hs,qb ((n,.mark) :: hc R) c=none) (hoR:∀ i o,qb ((n,.mark) :: hc R) i=some o->∀ id ∈ o.ids,id ∈ hs->id ∈ hq)
  (hround:∀ j,j < R->Sym (A' j) P assign (Yg T' ps.toList hq (n+1) nl (ys j) ((n,.mark) :: hc j) (hl j)) (Qo (fun S1=>Sym (A' j) P body S1 (endK ans ex jj hq (n+1) (fun k=>(n,.mark) :: hc k) hl (ZQ T' hq xs n m d) j)) fun _ _=>False))
  (hKn:(∀ k,k < R->ans k=true)->K .normal (QcC T' hs n (fun k=>(n,.mark) :: hc k) h0 jj d m R)) (hKx:0 < R->ans (R - 1)=false->K ex (QcC T' hs n (fun k=>(n,.mark) :: hc k) h0 jj d m R)) :
  Sym A P (.rangeFunc g ps assign body) { t:=T,h:=qb (hc 0++zk hs (n+1) 0 h0),n:=n,j:=jj 0,d:=d,m:=m } K:=by
 intro F hF hd a w ⟨ρ,own,H⟩
 have hFr:=hAr F hF
 simp only [vN,bz] at hd
 have hgv:=qD H g
 rw [hg] at hgv
 generalize hgv':a.eval g=gv at hgv
 cases hgv with
 |@clo _ _ cvs hcs hcr =>
 refine wpIn_rangeFunc fun fn _=>?_
 let l:=w.heap.size+1
 let rec0:Loop:={ state:=.ready,pending:=none,fn,tmps:=a.tmps,params:=ps,assign,body,defers:=w.heap.size }
 let w1:=(w.alloc (.deferred (some []))).alloc (.loop rec0)
 let yv:Value:=.func (.yield l) #[] #[]
 have hFn:=hit ans R hRo
 have hent:(Instr.enterLoop fn a.tmps ps assign body (W F.r).round).run P w=.ok (l,[{ target:=.collected w.heap.size,args:=#[] }]) w1:=by
  show (Instr.enterLoop fn a.tmps ps assign body F.r).run P w=_
  rw [hFr];exact run_enterLoop_outer ..
 refine ⟨l,[{ target:=.collected w.heap.size,args:=#[] }],w1,{ target:=.fn (.func f) cvs,args:=#[yv] },w1,f,#[yv]++cvs,w1,hent, ?_,fun _ _=>trivial, ?_,fun h=>by simp [W] at h, ?_⟩
 ·have hcv:a.eval (.const (.func (.yield l) #[] #[]))=yv:=rfl
  simp [resolve,rangeCall,Deferred.ofValue,hgv',hcv]
 ·simp [invoke,hFn.enter]
 have hwf:Wf { t:=T,h:=qb (hc 0++zk hs (n+1) 0 h0),n:=n,j:=jj 0,d:=d,m:=m }:=H.fresh
 have hnone:qb (hc 0++zk hs (n+1) 0 h0) n=none:=(hwf n (aw _)).1
 have hTlt0:∀ t,∀ id ∈ (T t).ids,id < n:=fun t id hid=>bg fun hn=>(hwf id hn).2.1 t hid
 have hTlt:∀ t,∀ id ∈ (T' t).ids,id < n:=fun t id hid=>(hTT t).elim (fun e=>hTlt0 t id (e ▸ hid)) fun e=>by rw [e] at hid;simp [AV.ids] at hid
 have hdlt:∀ id ∈ d.flatMap ADf.ids,id < n:=fun id hid=>bg fun hn=>(hwf id hn).2.2.2 hid
 have hclt:∀ i o,qb (hc 0) i=some o->qb (hc 0++zk hs (n+1) 0 h0) i=some o/\i < n/\∀ id ∈ o.ids,id < n:=fun i o hi=>by
  have hi':qb (hc 0++zk hs (n+1) 0 h0) i=some o:=by rw [yj,hi]
  exact ⟨hi',bg fun hn=>(by
   have h2:qb (hc 0++zk hs (n+1) 0 h0) i=none:=(hwf i hn).1
   rw [h2] at hi';cases hi'),fun id hid=>bg fun hn=>(hwf id hn).2.2.1 i o hi' hid⟩
 have hlen:∀ q o0,h0 q=some o0->∃ c,hs[q]?=some c/\qb (hc 0++zk hs (n+1) 0 h0) c=some (o0.ren (qj hs (n+1))):=fun q o0 hq=>by
  obtain ⟨g1,_⟩:=hobj q o0 hq
  refine ⟨hs[q],ak g1, ?_⟩
  rw [yj,hsn _ (bE g1)]
  have:=Qbm (n:=n+1) hnd hq g1
  simpa [qj,ak g1] using this
 have hx1:Ext (fun _=>False) w w1:=(Ext.alloc _ _ _).trans (Ext.alloc _ _ _) fun _ _ h=>h
 have hsz1:w1.heap.size=w.heap.size+2:=by simp [w1]
 have hmb:w1.heap[w.heap.size]?=some (.deferred (some [])):=by
  have:=(Ext.alloc (fun _=>False) (w.alloc (.deferred (some []))) (.loop rec0)).block w.heap.size (by simp) (by simp)
  rw [show w1.heap[w.heap.size]?=_ from this];exact xE _ _
 have hlb:w1.heap[l]?=some (.loop rec0):=by
  have:=xE (w.alloc (.deferred (some []))) (.loop rec0)
  simpa [w1,l] using this
 let ρ1:Nat->Value:=upd ρ n (.chan (some w.heap.size))
 have hρ1:∀ id,id < n->ρ1 id=ρ id:=fun id h=>upd_ne _ _ _ _ (by omega)
 let fz0:Nat->Prop:=okB w own ρ (qb (hc 0++zk hs (n+1) 0 h0))
 have hfz1:∀ b,fz0 b->fz0 b/\w1.heap[b]?=w.heap[b]?:=fun b hb=>⟨hb,hx1.block b hb.1 (by simp)⟩
 have hm0:∀ {i o},qb ((n,AObj.mark) :: hc 0) i=some o->(i=n/\o=.mark)\/(i < n/\qb (hc 0) i=some o):=fun {i o} hi=>by
  simp only [qb] at hi
  split at hi
  ·rename_i h;cases hi;exact .inl ⟨h,rfl⟩
  ·exact .inr ⟨(hclt i o hi).2.1,hi⟩
 have hb0:∀ b,vK (qb ((n,AObj.mark) :: hc 0)) ρ1 b->b=w.heap.size\/∃ i o,qb (hc 0) i=some o/\blk (ρ i)=some b:=by
  rintro b ⟨i,o,hi,hb⟩
  rcases hm0 hi with ⟨rfl,_⟩|⟨h1,h2⟩
  ·simp only [ρ1,upd_same,blk,al] at hb;exact .inl hb.symm
  ·rw [hρ1 i h1] at hb;exact .inr ⟨i,o,h2,hb⟩
 let ownr0:Own:=⟨fun b=>own.all b\/vK (qb ((n,AObj.mark) :: hc 0)) ρ1 b\/b=l\/fz0 b,fun b=>own.prv b\/vK (qb ((n,AObj.mark) :: hc 0)) ρ1 b\/b=l,fun b h=>h.imp (own.sub b) fun h=>h.imp id .inl⟩
 have hownlt:∀ b,own.all b->b < w.heap.size:=(F.stable _ _ _ H.jay).1
 have hRH:RH F w1 ρ1 fz0 (ZQ T' hq xs n m d) l rec0 (qb ((n,AObj.mark) :: hc 0)) (jj 0) ownr0 w1 ρ1 own fz0:=by
  refine ⟨(F.stable _ _ _ H.jay).2 w1 (hx1.weaken fun _ _ h=>h.elim),fun b=>Iff.rfl,fun b=>Iff.rfl,fun b hb=>⟨aE hb.1 hx1.size,hb.2.1,fun h=>?_,by have:=hb.1;simp only [l];omega⟩,fun i o hi=>?_,fun i k o o' b hi hk hbi hbk=>?_,fun i o b hi hb=>?_,fun h=>by have:=hownlt l h;simp only [l] at this;omega,hlb,fun b hb=>⟨hb,rfl⟩,fun _ _=>rfl,fun i o b hi hb=>?_,H.ownsub,H.still,aN H.ext.size hx1.size⟩
  ·rcases hb0 b h with h|⟨i,o,h1,h2⟩
   ·have:=hb.1;omega
   ·exact hb.2.2 i o (hclt i o h1).1 h2
  ·rcases hm0 hi with ⟨rfl,rfl⟩|⟨h1,h2⟩
   ·simp only [ρ1,upd_same];exact .mark hmb
   ·rw [hρ1 i h1]
    obtain ⟨g1,_,g3⟩:=hclt i o h2
    exact (H.obj i o g1).mono hfz1 (fun b hb=>hx1.block b ((H.obj i o g1).lt hb) (by simp)) fun id hid=>hρ1 id (g3 id hid)
  ·rcases hm0 hi with ⟨rfl,rfl⟩|⟨h1,h2⟩
   ·rcases hm0 hk with ⟨rfl,rfl⟩|⟨h3,h4⟩
    ·rfl
    ·simp only [ρ1,upd_same,blk,al] at hbi
     rw [hρ1 k h3] at hbk
     have:=(H.obj k o' (hclt k o' h4).1).lt hbk;omega
   ·rw [hρ1 i h1] at hbi
    rcases hm0 hk with ⟨rfl,rfl⟩|⟨h3,h4⟩
    ·simp only [ρ1,upd_same,blk,al] at hbk
     have:=(H.obj i o (hclt i o h2).1).lt hbi;omega
    ·rw [hρ1 k h3] at hbk
     exact H.inj i k o o' b (hclt i o h2).1 (hclt k o' h4).1 hbi hbk
  ·rcases hb0 b ⟨i,o,hi,hb⟩ with h|⟨q,oq,h1,h2⟩
   ·exact ⟨fun ho=>by have:=hownlt b ho;omega,by simp only [l];omega⟩
   ·exact ⟨(H.blkOK q oq b (hclt q oq h1).1 h2).1,by have:=(H.obj q oq (hclt q oq h1).1).lt h2;simp only [l];omega⟩
  ·rcases hb0 b ⟨i,o,hi,hb⟩ with h|⟨q,oq,h1,h2⟩
   ·exact .inl (by rw [h];exact H.ext.size)
   ·exact (H.blkOK q oq b (hclt q oq h1).1 h2).2
 have hr0:recAt rec0 ans ex 0=rec0:=by simp [recAt]
 have hcn':∀ (q c:Nat),hs[q]?=some c->c < n:=fun q c hq=>by
  obtain ⟨o,ho⟩:=hdom q (am.1 hq).1
  obtain ⟨c',hc',hob⟩:=hlen q o ho
  rw [hq] at hc';cases hc'
  refine bg fun hn=>?_
  have h2:qb (hc 0++zk hs (n+1) 0 h0) c=none:=(hwf c hn).1
  rw [h2] at hob;cases hob
 have hrho:∀ (q c:Nat),hs[q]?=some c->qR hs ρ1 q=ρ c:=fun q c hq=>by simp only [qR,hq];exact hρ1 c (hcn' q c hq)
 have hlb0:∀ q o0 b,h0 q=some o0->blk (qR hs ρ1 q)=some b->∃ c,hs[q]?=some c/\qb (hc 0++zk hs (n+1) 0 h0) c=some (o0.ren (qj hs (n+1)))/\blk (ρ c)=some b:=fun q o0 b hq hb=>by
  obtain ⟨c,h1,h2⟩:=hlen q o0 hq
  rw [hrho q c h1] at hb
  exact ⟨c,h1,h2,hb⟩
 have hfzx:∀ b,fz0 b->okB w1 ownr0 (qR hs ρ1) h0 b/\w1.heap[b]?=w.heap[b]?:=fun b hb=>by
  refine ⟨⟨aE hb.1 hx1.size, ?_,fun q o0 hq hbq=>?_⟩,(hfz1 b hb).2⟩
  ·rintro (h|h|h)
   ·exact hb.2.1 h
   ·exact (hRH.fzok b hb).2.2.1 h
   ·exact (hRH.fzok b hb).2.2.2 h
  ·obtain ⟨c,_,h2,h3⟩:=hlb0 q o0 b hq hbq
   exact hb.2.2 c _ h2 h3
 have hσ:∀ (j i:Nat),hs[j]?=some i->qR hs ρ1 j=ρ i:=hrho
 have hσ0:∀ j,hs[j]?=none->qR hs ρ1 j=.slice none 0 0:=fun j h=>by simp only [qR,h]
 have hHp:Hp (RJ F w1 ρ1 fz0 (ZQ T' hq xs n m d) l (recAt rec0 ans ex) (fun k=>qb ((n,AObj.mark) :: hc k)) jj) yv h0 0 ownr0 w1 (qR hs ρ1):=by
  refine ⟨⟨ρ1,own,fz0,by rw [hr0];exact hRH⟩,fun q o0 hq=>?_,fun i k o o' b hi hk hbi hbk=>?_,fun q o0 b hq hb=>?_⟩
  ·obtain ⟨c,h1,h2⟩:=hlen q o0 hq
   obtain ⟨g1,g2,g3,g4⟩:=hobj q o0 hq
   have:=AObj.le_rel (ok':=fz0) (h:=fun _=>none) (σ:=fun j=>hs[j]?) (ρ':=qR hs ρ1) (fun i o h=>by cases h) (fun b hb=>hb) (fun i ox b h=>by cases h) hσ hσ0 (H.obj c _ h2) g4
   rw [hrho q c h1]
   exact (this.chy g2).mono hfzx (fun b hb=>hx1.block b ((H.obj c _ h2).lt hb) (by simp)) fun _ _=>rfl
  ·obtain ⟨c,h1,h2,h3⟩:=hlb0 i o b hi hbi
   obtain ⟨c',h1',h2',h3'⟩:=hlb0 k o' b hk hbk
   have:=H.inj c c' _ _ b h2 h2' h3 h3'
   subst this
   obtain ⟨hi1,hi2⟩:=am.1 h1
   obtain ⟨hk1,hk2⟩:=am.1 h1'
   exact (List.getElem_inj (h₀:=hi1) (h₁:=hk1) hnd).1 (hi2.trans hk2.symm)
  ·obtain ⟨c,h1,h2,h3⟩:=hlb0 q o0 b hq hb
   have hlt:=(H.obj c _ h2).lt h3
   rintro (h|h|h|h)
   ·exact (H.blkOK c _ b h2 h3).1 h
   ·rcases hb0 b h with h|⟨i,o,h4,h5⟩
    ·omega
    ·have:=H.inj i c o _ b (hclt i o h4).1 h2 h5 h3
     subst this
     rw [hsn _ (af h1)] at h4;cases h4
   ·simp only [l] at h;omega
   ·exact h.2.2 c _ h2 h3
 have hmkeep:∀ id,ZQ T' hq xs n m d id->id < n+1:=fun id hid=>by
  rcases hid with ⟨h,_⟩|h|⟨t,h⟩|h
  ·have h1:F.n0=m:=H.meq
   have h2:F.n0<=n:=H.nle
   omega
  ·obtain ⟨q,hq'⟩:=bN h
   have:=hcn' q id (hpre q id hq');omega
  ·have:=hTlt t id h;omega
  ·rw [ca,aD] at h
   rcases h with h|h
   ·simp [ADf.ids] at h;omega
   ·have:=hdlt id h;omega
 have hT1:∀ t,ARel w1 fz0 ρ1 F.y (T' t) (a.tmps.getD t undef):=fun t=>by
  rcases hTT t with e|e
  ·rw [e];exact (H.temps t).mono hfz1 fun id hid=>hρ1 id (hTlt0 t id hid)
  ·rw [e];exact .junk
 have hx0:Ext (fun b=>F.own0.prv b\/F.owns0 b) F.w0 w1:=H.ext.trans hx1 fun _ _ h=>h.elim
 have hsz00:F.w0.heap.size<=w.heap.size:=H.ext.size
 have hpin0:∀ i o,F.H0 i=some o->ρ1 i=F.ρ0 i/\(ZQ T' hq xs n m d i\/∀ j,j < R->qb (((n,.mark) :: hc j)++zk hq (n+1) nl (hl j)) i=none):=fun i o hi=>by
  have h1:F.n0=m:=H.meq
  have h2:F.n0<=n:=H.nle
  have h3:=F.pinn i o hi
  exact ⟨by rw [hρ1 i (by omega)];exact H.pins i o hi,(Classical.em (i ∈ xs)).elim (fun h=>.inr (hxs i h).2) fun h=>.inl (.inl ⟨by omega,h⟩)⟩
 have hb0':∀ i o b,h0 i=some o->blk (qR hs ρ1 i)=some b->F.w0.heap.size<=b\/F.owns0 b:=fun i o b hi hb=>by
  obtain ⟨c,_,h2,h3⟩:=hlb0 i o b hi hb
  exact (H.blkOK c _ b h2 h3).2
 have ho0:∀ b,ownr0.prv b->F.own0.prv b\/F.w0.heap.size<=b\/F.owns0 b:=fun b hb=>by
  rcases hb with h|h|h
  ·rcases H.ownsub b h with h|h
   ·exact .inl h
   ·exact .inr (.inl h)
  ·rcases hb0 b h with h|⟨i,o,h4,h5⟩
   ·exact .inr (.inl (by omega))
   ·exact .inr (H.blkOK i o b (hclt i o h4).1 h5).2
  ·exact .inr (.inl (by simp only [l] at h;omega))
 have hB:=Qcl (P:=P) (hp:=hp) (hq:=hq) (F:=F) (ws:=w1) (ρs:=ρ1) (oks:=fz0) (keep:=ZQ T' hq xs n m d) (l:=l) (rec0:=rec0) (ans:=ans) (ex:=ex) (T:=T') (a0:=a) (hs:=hs) (n:=n+1) (nl:=nl) (ys:=ys) (hc:=fun k=>(n,AObj.mark) :: hc k) (hl:=hl) (h0:=h0) (jj:=jj) (A':=A') (own0:=ownr0) hRo hex ⟨rfl,rfl,rfl⟩
  (hst F hF) hT1 H.tsz hlids hkeep hlast hpd hpre (fun q c hq'=>.inr (.inl (af hq'))) hd.1.2 hd.2 (hA' F hF) hpin0 hx0 (by simp only [l];have:F.w0.heap.size<=w.heap.size:=H.ext.size;omega) hb0' ho0 hround (yv:=yv) rfl
 refine Yc (zY (hFn.calls yv _ (RJ.stable _ _ _ _ _ _ _ _ _) ownr0 w1 (qR hs ρ1) (#[yv]++cvs) hB hHp ?_ ?_) ?_)
 ·have:=AV.leL_length hcaps
  simp;omega
 ·intro i c hi
  cases i with
  |zero =>
   simp only [aJ,al] at hi
   subst hi
   have:(#[yv]++cvs).getD 0 undef=yv:=by simp [ck]
   rw [this];exact .cb rfl rfl
  |succ i =>
   simp only [bw] at hi
   obtain ⟨b,hb,hle⟩:=AV.leL_get hcaps i c hi
   have h1:=hcr i b hb
   have h2:=AV.le_rel (ok':=fz0) (h:=fun _=>none) (σ:=fun j=>hs[j]?) (ρ':=qR hs ρ1) (fun i o h=>by cases h) (fun b hb=>hb) (fun i ox b h=>by cases h) hσ hσ0 h1 c hle
   have h3:(#[yv]++cvs).getD (i+1) undef=cvs.getD i undef:=by simp [ck]
   rw [h3]
   exact (h2.chy (AV.nocbL_mem hcn c (af hi))).mono hfzx fun _ _=>rfl
 rintro e w' ⟨v',own',ρ',rfl,q1,q2,q3,q4,q5,q6,q7⟩
 obtain ⟨ρk,ownk,fz,hR⟩:=q1.jay
 have hnb:(recAt rec0 ans ex R).state ≠ .busy:=by
  unfold recAt
  split
  ·simp
  ·simp [rec0]
 have hpinR:∀ (q c:Nat),hs[q]?=some c->ρ' q=ρ1 c:=fun q c hq'=>by
  obtain ⟨o,ho⟩:=hdom q (am.1 hq').1
  rw [q6 q o ho]
  simp only [qR,hq']
 have hlprov:∀ q o b,h0 q=some o->blk (ρ' q)=some b->F.w0.heap.size<=b\/F.owns0 b:=fun q o b hq hb=>by
  rw [q6 q o hq] at hb
  obtain ⟨c,_,h2,h3⟩:=hlb0 q o b hq hb
  exact (H.blkOK c _ b h2 h3).2
 have hsz0:F.w0.heap.size<=w.heap.size:=H.ext.size
 have hextR:Ext (fun b=>F.own0.prv b\/F.owns0 b) F.w0 w':=by
  refine ((H.ext.trans hx1 fun _ _ h=>h.elim).trans q3 fun b hb h=>?_)
  rcases h with (h|h|h)|⟨q,o,hq,hbq⟩
  ·rcases H.ownsub b h with h|h
   ·exact .inl h
   ·omega
  ·rcases hb0 b h with h|⟨i,o,h4,h5⟩
   ·omega
   ·rcases (H.blkOK i o b (hclt i o h4).1 h5).2 with h|h
    ·omega
    ·exact .inr h
  ·simp only [l] at h;omega
  ·obtain ⟨c,_,h2,h3⟩:=hlb0 q o b hq hbq
   rcases (H.blkOK c _ b h2 h3).2 with h|h
   ·omega
   ·exact .inr h
 have hGam:=QbQ (T:=T') (a1:={ a with defers:=[{ target:=.collected w.heap.size,args:=#[] }]++a.defers }) (hs:=hs) (n:=n) (m:=m) (hm:=fun k=>(n,AObj.mark) :: hc k) (h0:=h0) (jj:=jj) (k:=R) (d:=d) (rc':={ recAt rec0 ans ex R with state:=.exhausted }) hR rfl q1.obj q1.inj q1.off hlprov hpinR hsR (fun i o hi id hid hm'=>.inr (.inl (hoR i o hi id hid hm')))
  (fun q o hq=>let ⟨g1,g2,g3,_⟩:=hobj q o hq;⟨g2,g1,g3⟩) (fun c hc'=>by obtain ⟨q,hq⟩:=bN hc';have:=hcn' q c hq;omega) hend (fun t id hid=>⟨by have:=hTlt t id hid;omega,.inr (.inr (.inl ⟨t,hid⟩))⟩) (fun id hid=>⟨hmkeep id (.inr (.inr (.inr hid))),.inr (.inr (.inr hid))⟩)
  hT1 (.cons (.mark (upd_same _ _ _)) (H.defs.mono hfz1 fun id hid=>hρ1 id (hdlt id hid))) H.tsz H.meq (fun id hid=>(Classical.em (id ∈ xs)).elim (fun h=>.inr (hxs id h).1) fun h=>.inl (.inl ⟨hid,h⟩)) (fun i o hi=>by
   have h1:F.n0=m:=H.meq
   have h2:F.n0<=n:=H.nle
   have h3:=F.pinn i o hi
   rw [hρ1 i (by omega)];exact H.pins i o hi) (by have h1:F.n0=m:=H.meq;have h2:F.n0<=n:=H.nle;omega) (by simp only [l];omega) hextR
 refine ⟨_,_,run_endLoop hR.rcd hnb, ?_⟩
 by_cases hstop:0 < R/\ans (R - 1)=false
 ·have hpd:(recAt rec0 ans ex R).pending=Qcu ex:=by unfold recAt;rw [if_pos hstop]
  rw [hpd]
  have hk:=hKx hstop.1 hstop.2
  rcases hex with rfl|⟨id,rfl⟩|⟨g,rfl⟩
  ·exact wpIn_ret ⟨_,hk,by simpa only [hpd] using hGam⟩
  ·exact wpIn_exit ⟨_,hk,by simpa only [hpd] using hGam⟩
  ·exact wpIn_goto ⟨_,hk,by simpa only [hpd] using hGam⟩
 ·have hpd:(recAt rec0 ans ex R).pending=none:=by unfold recAt;rw [if_neg hstop]
  rw [hpd]
  refine ⟨_,hKn (fun k hk=>?_),by simpa only [hpd] using hGam⟩
  by_cases hl:k+1 < R
  ·exact hRo.yes k hl
  ·have:k=R - 1:=by omega
   subst this
   cases h:ans (R - 1) with
   |true=>rfl
   |false=>exact absurd ⟨by omega,h⟩ hstop
structure RangeQ (L:List (Nat × AV)) (xs ps hs:List Nat) (n m nl:Nat) (d:List ADf) (H:List (Nat × AObj)) (Lt:List AObj) (y:List AV):Prop where
 own:kZ (n+1) ((n,.mark) :: H)
 len:Lt.length=hs.length+nl
 lent:ZZ (hs.length+nl) Lt
 args:V8 (hs.length+nl) y
 plen:ps.length=y.length
 keys:kX (n+1) ((n,.mark) :: H++qU hs (n+1) 0 Lt) ((List.range m).filter (fun i=>!xs.contains i)++(hs++(vW L++(ADf.mark n :: d).flatMap ADf.ids)))
def QaA (L L':List (Nat × AV)):Prop:=∀ p ∈ L',asg L p.1=asg L' p.1
def Qgk {L L':List (Nat × AV)} (h:QaA L L') (t:Nat):asg L' t=asg L t\/asg L' t=.junk:=by
 rcases Wp L' t with e|⟨p,hp,rfl,e⟩
 ·exact .inr e
 ·exact .inl (h p hp).symm
def QbF (hs xs:List Nat):Prop:=∀ x ∈ xs,x ∈ hs
def absent (xs:List Nat) (H:List (Nat × AObj)):Prop:=∀ p ∈ H,p.1 ∉ xs
def Qbb {xs:List Nat} {H:List (Nat × AObj)} (h:absent xs H) (x:Nat) (hx:x ∈ xs):qb H x=none:=by
 cases ho:qb H x with
 |none=>rfl
 |some o=>exact absurd hx (h _ (qG ho))
def RFin.okQ {S:St} {L:List (Nat × AV)} {hs xs:List Nat} {n m:Nat} {d:List ADf} {own:List (Nat × AObj)} {Lt:List AObj} (σ:Nat->Option Nat) (fz:List Nat) (h:RFinOK S hs (n+1) own Lt ((List.range m).filter (fun i=>!xs.contains i)++(hs++(vW L++(ADf.mark n :: d).flatMap ADf.ids))) σ fz) :
  RFin S hs (n+1) own (nth Lt) (ZQ (asg L) hs xs n m d) σ (fun i=>if i ∈ fz then S.h i else none):=by
 have h0:=RFin.ok (m:=0) (L:=L) (d:=d) σ fz (n:=n) ⟨h.h,h.l,h.img,h.apart,h.frz,fun i hi=>h.pin i (cR _ (by simpa using hi))⟩
 refine ⟨h0.fown,h0.flent,h0.inj,h0.apart,h0.frz,fun id hid=>?_⟩
 rcases hid with ⟨g1,g2⟩|g
 ·exact h.pin id (dh _ (List.mem_filter.2 ⟨aY.2 g1,by simpa using g2⟩))
 ·exact h0.fkeep id (.inr g)
def vw (hAr:∀ F,A F->F.r=none) {A':Nat->Frm->Prop} (p:Nat) {tg:Tmp} {ps:Array Tmp} {assign body:Code} {L L':List (Nat × AV)} {hs xs:List Nat} {n m nl:Nat} {hc:Nat->List (Nat × AObj)} {Lp:List AObj} {jj:Nat->Nat} {d:List ADf} {K:Exit->St->Prop}
  {f:FuncId} {caps caps0:List AV} {ys:Nat->List AV} {N R:Nat} {hl:Nat->List AObj} {vv:Nat->(Nat->Bool)->AV} {ans:Nat->Bool} {ex:Exit}
  (hg:asg L tg=.clo f caps) (hit:QcN P f (.cb :: caps0) (nth (Lp.take p)) (nth Lp) ys N (fun j=>nth (hl j)) vv) (hRo:Rounds ans R N) (hex:ex=.ret\/(∃ id,ex=.exit id)\/∃ g,ex=.goto g)
  (hcaps:AV.leL (fun _=>none) (fun j=>hs[j]?) caps caps0) (hcn:AV.nocbL caps0) (hobj:WS hs (n+1) Lp) (hlen:Lp.length=hs.length) (hnd:hs.Nodup) (hsn:∀ c ∈ hs,qb (hc 0) c=none) (hsl:∀ c ∈ hs,c < n+1)
  (hA':∀ F,A F->∀ j,j < R->∀ F',RoundOf F (jj j) (qb ((n,.mark) :: hc j++qU (hs.take p) (n+1) 0 (hl j))) F'->A' j F')
  (hsR:∀ c ∈ hs,qb ((n,.mark) :: hc R) c=none) (hoR:∀ q ∈ (n,AObj.mark) :: hc R,∀ id ∈ q.2.ids,id ∈ hs->id ∈ hs.take p)
  (hLL:QaA L L') (hxs:QbF hs xs) (hxn:∀ j,j < R->absent xs ((n,.mark) :: hc j++qU (hs.take p) (n+1) 0 (hl j))) (hidt:Yw (n+1) L') (hst:∀ j,j < R->RangeQ L' xs ps.toList (hs.take p) n m nl d (hc j) (hl j) (ys j)) (hend:kZ (n+1) ((n,.mark) :: hc R))
  (hround:∀ j,j < R->Sym (A' j) P assign (wV L' ps.toList (hs.take p) n nl (ys j) (hc j) (hl j)) (Qo (fun S1=>Sym (A' j) P body S1 (endK ans ex jj (hs.take p) (n+1) (fun k=>(n,.mark) :: hc k) (fun j=>nth (hl j)) (ZQ (asg L') (hs.take p) xs n m d) j)) fun _ _=>False))
  (hKn:(∀ k,k < R->ans k=true)->K .normal { t:=asg L',h:=qb ((n,.mark) :: hc R++qU hs (n+1) 0 Lp),n:=n+1,j:=jj R,d:=.mark n :: d,m:=m })
  (hKx:0 < R->ans (R - 1)=false->K ex { t:=asg L',h:=qb ((n,.mark) :: hc R++qU hs (n+1) 0 Lp),n:=n+1,j:=jj R,d:=.mark n :: d,m:=m }) :
  Sym A P (.rangeFunc (.tmp tg) ps assign body) { t:=asg L,h:=qb (hc 0++qU hs (n+1) 0 Lp),n:=n,j:=jj 0,d:=d,m:=m } K:=by
 have e0:=QR (n:=n+1) (nl:=0) (L:=Lp) (hs:=hs) hlen
 rw [<- e0] at hKn hKx ⊢
 have hkeepT:∀ j,j < R->∀ id,ZQ (asg L') (hs.take p) xs n m d id->WT (n+1) ((n,.mark) :: hc j++qU (hs.take p) (n+1) 0 (hl j)) id:=fun j hj id hid=>by
  refine Xx (hst j hj).keys id ?_
  simp only [aD,List.mem_filter,aY]
  rcases hid with ⟨h,h'⟩|h|⟨t,h⟩|h
  ·exact .inl ⟨h,by simpa using h'⟩
  ·exact .inr (.inl h)
  ·refine .inr (.inr (.inl ?_))
   rcases Wp L' t with e|⟨p,hp,_,e⟩
   ·rw [e] at h;simp [AV.ids] at h
   ·rw [e] at h;exact Yf hp h
  ·exact .inr (.inr (.inr h))
 intro F0 hF0 hd0
 have hps:∀ p ∈ ps.toList,p < F0.nt:=fun p hp=>by
  simp only [vN,bz] at hd0
  have:=bB.1 hd0.1.1 p hp
  simpa using this
 refine Qce (A:=fun F=>F=F0) (A':=A') (hq:=hs.take p) (hp:=nth (Lp.take p)) (fun F hF=>hF ▸ hAr F0 hF0) (h0:=nth Lp) (hl:=fun j=>nth (hl j)) (nl:=nl) (vv:=vv) (N:=N) (by simpa [ev] using hg) hit (fun F hF j hj F' hF'=>hA' F0 hF0 j hj F' (by rw [<- QR (hst j hj).len];rw [hF] at hF';exact hF')) (Qgk hLL) (fun x hx=>⟨hxs x hx,fun j hj=>?_⟩) (fun m c hm=>?_) (fun m hm=>?_) hRo hex hcaps hcn (fun q o0 ho=>?_) (fun q hq=>⟨_,ak (by omega)⟩) hnd hsn (fun F hF j hj=>?_) (fun j hj mm o ho id hid=>?_) (fun j hj id hid=>?_) (fun j hj mm o0 ho=>?_) (fun i o ho=>?_) hsR (fun i o ho id hid hm=>hoR _ (qG ho) id hid hm) (fun j hj=>?_) hKn hKx F0 rfl hd0
 ·rw [QR (hst j hj).len]
  exact Qbb (hxn j hj) x hx
 ·rw [bc] at hm
  split at hm
  ·exact hm
  ·cases hm
 ·rw [aR] at hm
  exact ⟨_,ak (l:=Lp.take p) (by rw [aR];omega)⟩
 ·obtain ⟨g1,g2,g3⟩:=XW hobj q o0 ho
  exact ⟨by have:=(am.1 ho).1;omega,g1,g2,g3⟩
 ·have h:=hst j hj
  refine ⟨fun c hc=>hsl c (bx hc),fun t id hid=>?_,fun i o ho=>JL h.own _ (qG ho),fun mm o ho=>?_,Qac h.args,h.plen,fun p hp=>by rw [hF];exact hps p hp⟩
  ·rcases Wp L' t with e|⟨p,hp,_,e⟩
   ·rw [e] at hid;simp [AV.ids] at hid
   ·have:id ∈ p.2.ids:=by rw [e] at hid;exact hid
    exact ⟨Vx hidt p hp id this,.inr (.inr (.inl ⟨t,hid⟩))⟩
  ·obtain ⟨g1,g2⟩:=Yo h.lent mm o ho
   exact ⟨by have:=(am.1 ho).1;have:=h.len;omega,g1,g2⟩
 ·obtain ⟨_,g2⟩:=Yo (hst j hj).lent mm o ho
  have:=g2 id hid
  exact ⟨_,ak (by have:=(hst j hj).len;omega)⟩
 ·obtain ⟨g1,g2⟩:=hkeepT j hj id hid
  rw [QR (hst j hj).len]
  exact ⟨g1,Qfw g2⟩
 ·rw [QR (hst j hj).len]
  obtain ⟨o',ho'⟩:=Xt (hs:=hs.take p) (n:=n+1) (L:=hl j) (k:=0) (m:=mm) (am.1 ho).1
  rw [bf] at ho'
  exact K5 (cR _ ho')
 ·exact JL hend _ (qG ho)
 ·have:=hround j hj
  simp only [wV,<- QR (hst j hj).len] at this
  exact this
structure FnD (P:Program) (f:FuncId) (az:List AV) (h0:Nat->Option AObj) (v:AV) (h1:Nat->Option AObj):Prop where
 enter:∀ vs w,(callFunc f vs).run P w=.ok (.enter f vs) w
 calls:∀ (y:Value) (J:JJ),J.Stable->∀ (own:Own) (w:World) (ρ:Nat->Value) (vs:Array Value),Hp J y h0 0 own w ρ->vs.size=az.length ->
  (∀ i c,az[i]?=some c->ARel w (okB w own ρ h0) ρ y c (vs.getD i undef)) ->
  CallsDIn (W none) 0 P f vs .returning w fun e u w'=>u=.returning/\∃ v' own' ρ',e=.returned v'/\Hp J y h1 0 own' w' ρ'/\ARel w' (okB w' own' ρ' h1) ρ' y v v'/\Ext (fun b=>own.prv b\/∃ i o,h0 i=some o/\blk (ρ i)=some b) w w' /\
   (∀ b,own'.prv b->own.prv b\/w.heap.size<=b)/\own'=own/\(∀ i o,h0 i=some o->ρ' i=ρ i)/\(∀ i o b,h1 i=some o->blk (ρ' i)=some b->w.heap.size<=b\/∃ k o',h0 k=some o'/\blk (ρ k)=some b)
def Qg9 (V:Tys) (fn:Func) (Q:St->AV->Prop):Exit->St->Prop
 |.normal,S=>S.d=[]/\Z5 V S fn.results.toList fun vs=>Q S (WZ vs)
 |.ret,S=>S.d=[]/\Z5 V S fn.results.toList fun vs=>Q S (WZ vs)
 |_,_=>False
def FnD.of {V:Tys} {f:FuncId} {fn:Func} {c:Code} (hd:FnData P V f fn c) {az:List AV} {n0:Nat} {h0:Nat->Option AObj} {v:AV} {h1:Nat->Option AObj}
  (has:az.length<=fn.ntmps) (hids:∀ a ∈ az,∀ id ∈ a.ids,id < n0) (hh0:∀ i o,h0 i=some o->i < n0/\∀ id ∈ o.ids,id < n0)
  (hs:Sym (fun F=>F.r=none) P c (qV az n0 h0) (Qg9 V fn fun S rv=>Fin S rv v n0 h1 0)):FnD P f az h0 v h1:=by
 refine ⟨hd.enter,fun y J hJ own w ρ vs hp hsz hrel=>?_⟩
 let F:Frm:={ r:=none,y,J,stable:=hJ,w0:=w,ρ0:=ρ,H0:=h0,own0:=own,n0,nt:=fn.ntmps,pinn:=fun i o h=>(hh0 i o h).1,recs:=fun _ h=>by cases h }
 have hlen:vs.size<=fn.ntmps:=by omega
 let a:Act:={ tmps:=vs++Array.replicate (fn.ntmps - vs.size) undef,defers:=[] }
 have hg:Gam F (qV az n0 h0) a w:=by
  refine ⟨ρ,own,hp.jay,fun t=>?_,hp.obj,hp.inj,fun i o b hi hb=>⟨hp.off i o b hi hb,.inr ⟨i,o,hi,hb⟩⟩,fun id hid=>⟨?_,fun t hm=>?_,fun i o hi hm=>?_,by simp [qV]⟩,aw _,rfl,by simp [a,F];omega,fun _ _ _=>rfl,Ext.refl _ _,fun b hb=>.inl hb,fun _=>rfl,.nil⟩
  ·show ARel w _ ρ y (asg (Un 0 az) t) _
   rw [ZU 0 az 0 t (ag _),aO]
   cases hc:az[t]? with
   |none=>exact .junk
   |some c =>
    have ht:t < vs.size:=by rw [hsz];exact (am.1 hc).1
    have e:a.tmps.getD t undef=vs.getD t undef:=by simp [a,ck,ht]
    rw [e];exact hrel t c hc
  ·show h0 id=none
   cases ho:h0 id with
   |none=>rfl
   |some o=>have:=(hh0 id o ho).1;have:n0<=id:=hid;omega
  ·simp only [qV] at hm
   rw [ZU 0 az 0 t (ag _),aO] at hm
   cases hc:az[t]? with
   |none=>rw [hc] at hm;simp [AV.ids] at hm
   |some c=>rw [hc] at hm;have:=hids c (af hc) id hm;have:n0<=id:=hid;omega
  ·have:=(hh0 i o hi).2 id hm;have:n0<=id:=hid;omega
 have hbody:=hs F rfl hd.dst a w hg
 have hlv:∀ S' (a':Act) w',Gam F S' a' w'->(S'.d=[]/\Z5 V S' fn.results.toList fun vs=>Fin S' (WZ vs) v n0 h1 0)->a'.defers=[]/\∃ v',(results fn a'.tmps).run P w'=.ok v' w'/\∃ v'' own' ρ',Ending.returned v'=.returned v''/\Hp J y h1 0 own' w' ρ'/\ARel w' (okB w' own' ρ' h1) ρ' y v v''/\Ext (fun b=>own.prv b\/∃ i o,h0 i=some o/\blk (ρ i)=some b) w w' /\
   (∀ b,own'.prv b->own.prv b\/w.heap.size<=b)/\own'=own/\(∀ i o,h0 i=some o->ρ' i=ρ i)/\(∀ i o b,h1 i=some o->blk (ρ' i)=some b->w.heap.size<=b\/∃ k o',h0 k=some o'/\blk (ρ k)=some b):=by
  rintro S' a' w' ⟨ρ2,own2,H2⟩ ⟨hd0,hres⟩
  have hdf:=H2.defs
  rw [hd0] at hdf
  have hnil:a'.defers=[]:=by
   generalize a'.defers=l at hdf
   cases hdf;rfl
  obtain ⟨avs,v',hQ,hrun,hrv⟩:=ZM hd.ok H2 hres
  obtain ⟨ρ3,hp3,hv3,hpin3,hbl3⟩:=Qga H2 hQ fun i o hi=>(hh0 i o hi).1
  obtain ⟨_,_,_,_,_,_,_,hj3⟩:=hQ
  exact ⟨hnil,v',hrun,v',own2,ρ3,rfl,hp3,hv3 _ hrv,H2.ext,H2.ownsub,H2.still hj3,hpin3,hbl3⟩
 refine callsDIn_of_wp hd.func hd.body trivial (wpIn_mono hbody ?_)
 rintro e a' w' ⟨S',hk,hg'⟩
 cases e with
 |normal=>exact hlv S' a' w' hg' hk
 |ret=>exact hlv S' a' w' hg' hk
 |_=>exact hk.elim
def dfE (f0:FuncId) (spec:St->List AV->Option Pk):yP:=fun f caps S K=>f=f0/\match spec S caps with
 |none=>False
 |some q=>q.ok S caps/\K (S.app none (q.eff S))
def QgI {f0:FuncId} {spec:St->List AV->Option Pk} (hf:∀ S bs q,spec S bs=some q->q.pre->FnD P f0 q.ar (qb (qB 0 q.L0)) q.v (qb (ze 0 q.L1))):yP.OK A P (dfE f0 spec):=by
 rintro f caps S K ⟨rfl,h⟩
 cases hq:spec S caps with
 |none=>rw [hq] at h;exact h.elim
 |some q =>
  rw [hq] at h
  simp only at h
  obtain ⟨⟨h1,h2,h3,h4,h5,h6,h7,h8,h9⟩,hK⟩:=h
  have hfn:=hf S caps q hq h1
  refine ⟨hfn.enter,fun F hF a w ρ own H vs hsz hrel=>?_⟩
  have hS:Wf S:=H.fresh
  rw [q.eff_eq S h6] at hK
  obtain ⟨g1,g2⟩:=QB h3
  have hlen:q.hs.length+(q.L1.length - q.hs.length)=q.L1.length:=by omega
  have get1:∀ i o,qb (ze 0 q.L1) i=some o->q.L1[i]?=some (some o):=fun i o hi=>by
   rw [xm,if_neg (by omega),aO] at hi
   cases hh:q.L1[i]? with
   |none=>rw [hh] at hi;cases hi
   |some x=>rw [hh] at hi;simp only [cW] at hi;rw [hi]
  have hobj:∀ i o0,qb (qB 0 q.L0) i=some o0->∃ c ob,q.hs[i]?=some c/\S.h c=some ob/\AObj.le (q.hf S) (fun j=>q.hs[j]?) ob o0:=fun i o0 hi=>by
   rw [zZ,if_neg (by omega),aO] at hi
   exact g2 i o0 hi
  have hdom:∀ j,j < q.hs.length->∃ o0,qb (qB 0 q.L0) j=some o0:=fun j hj=>by
   rw [zZ,if_neg (by omega),aO]
   exact ⟨_,ak (by omega)⟩
  have hfr:∀ i ob,q.hf S i=some ob->S.h i=some ob/\i ∉ q.hs/\i ∈ q.bo:=fun i ob hi=>by
   unfold Pk.hf at hi
   by_cases hm:i ∈ q.bo
   ·rw [if_pos hm] at hi;exact ⟨hi,(yL h5 i hm).2,hm⟩
   ·rw [if_neg hm] at hi;cases hi
  have hdr:(bif q.fl then [] else q.bo)=q.bo\/((bif q.fl then [] else q.bo)=[]/\q.v.flat/\∀ i ob,qb (ze 0 q.L1) i=some ob->ob.flat):=by
   cases hfl:q.fl with
   |false=>exact .inl rfl
   |true =>
    obtain ⟨e1,e2⟩:=h9 hfl
    exact .inr ⟨rfl,e1,fun i ob hi=>QD e2 i ob (get1 i ob hi)⟩
  have hh1:∀ i ob,qb (ze 0 q.L1) i=some ob->i < q.hs.length+(q.L1.length - q.hs.length)/\∀ id ∈ ob.ids,id < q.hs.length+(q.L1.length - q.hs.length):=fun i ob hi=>by
   rw [hlen]
   have:=get1 i ob hi
   exact ⟨(am.1 this).1,QJ h8 i ob this⟩
  obtain ⟨_,_,_,hN⟩:=Jy (dj:=0) hS h2 hobj hdom h4 hfr (yL h5) hdr (by rw [hlen];exact h7) hh1
  obtain ⟨c1,c2,c3,c4⟩:=YI (dj:=0) hS h2 hobj hdom h4 hfr (yL h5) hdr (by rw [hlen];exact h7) hh1 H (fun h=>absurd rfl h) (fun _ _=>rfl) (fun id hid=>⟨hS id (hN id hid),aN H.nle (hN id hid)⟩) hsz hrel (dst:=none) (fun _ h=>by cases h)
  have hcalls:=hfn.calls F.y (Jc F.J S.j (vV S q.hs q.bo ρ) w) (Jc.stable F.stable _ _ _) _ w (qR q.hs ρ) vs c1 c2 c3
  refine CallsDIn.mono hcalls ?_
  rintro e u w' ⟨rfl,v',ownc',ρc',rfl,q1,q2,q3,q4,q7,q5,q6⟩
  obtain ⟨ρ',own',HH⟩:=c4 v' w' ownc' ρc' q1 q2 q3 q4 (fun _=>q7) q5 q6
  refine ⟨v',_,rfl,rfl,hK,ρ',own', ?_⟩
  simpa [Act.put] using HH
def QiY (hAr:∀ F,A F->F.r=none) {ops:Array Oper} {o:Oper} {S:St} (hS:Wf S) (hw:Want ops o S) {g:Operand} {tys:Array TypeId} (ho:o.op=.defer { callee:=.value g,args:=#[],argTypes:=tys }) {f:FuncId} {caps:List AV} (hg:ev S g=.clo f caps) :
  VE A P ops o { av:=.junk,n:=S.n,dd:=[.call f caps] } S:=by
 have hids:∀ id ∈ AV.idsL caps,id < S.n:=fun id hid=>jS hS g id (by rw [hg];exact hid)
 refine ⟨fun F hF hds S2 a w hag hfr2 ⟨ρ,own,H⟩=>?_,fun id hid=>hids id (by simpa [Eff.ids,AV.ids,zP,ADf.ids] using hid),by simp⟩
 rw [wK hw hag H,if_pos rfl]
 have hgv:=qD H g
 rw [hag.ev (x:=g) (by simp [ho,Op.operands,Call.operands]),hg] at hgv
 generalize hgv':a.eval g=gv at hgv
 cases hgv with
 |@clo _ _ cvs hcs hcr =>
  have hexec:(execOp a.eval o).run P w=.ok (.defer ⟨.fn (.func f) cvs,#[]⟩) w:=by
   simp [execOp,ho,resolve,Deferred.ofValue,hgv']
  refine ⟨vo o a w F.r, ?_⟩
  rw [hAr F hF]
  show o.uponIn _ _ _ _ _ _ ((execOp a.eval o).run P w)
  rw [hexec,Oper.uponIn_defer]
  have:=H.app (dst:=o.dst) (e:={ av:=.junk,n:=S.n,dd:=[.call f caps] }) (w':=w) (ρ':=ρ) (own':=own) (v':=undef) (ds:=[⟨.fn (.func f) cvs,#[]⟩]) (yS hds) H.jay (Ext.refl _ _) (.inl rfl) (by simp) (fun _ _=>rfl) (by simp) .junk
   (fun i o hi _=>by simp [Eff.keys] at hi) (fun i k o o' b hi=>by simp [Eff.keys] at hi)
   (fun id hid=>aE (hids id (by simpa [Eff.ids,AV.ids,zP,ADf.ids] using hid)) (bI _ _)) (.cons (.call hcs hcr) .nil)
  refine ⟨ρ,own, ?_⟩
  have e:({ a with defers:=({ target:=.fn (.func f) cvs,args:=#[] }:Deferred) :: a.defers }:Act).put o.dst undef={ (a.put o.dst undef) with defers:=[⟨.fn (.func f) cvs,#[]⟩]++a.defers }:=by
   cases o.dst <;> rfl
  rw [e]
  exact this
def LH {ops:Array Oper} {K:St->List Eff->Prop} {o:Oper}:∀ (l:List Oper) (S:St) (es:List Eff),Run A P ops l S es (fun S' es'=>∃ e,VE A P ops o e S'/\K (S'.app o.dst e) (e :: es'))->Run A P ops (l++[o]) S es K
 |[],_,_,h=>h
 |_ :: l,_,_,⟨e,hv,hr⟩=>⟨e,hv,LH l _ _ hr⟩
def VK (hAr:∀ F,A F->F.r=none) {V:Tys} {Φ:Ctr} (hE:Env A P V Φ) {id:Nat} {ops:Array Oper} {S:St} {K:Exit->St->Prop} {o:Oper} {g:Operand} {tys:Array TypeId} (hl:ops.toList=ops.toList.dropLast++[o])
  (ho:o.op=.defer { callee:=.value g,args:=#[],argTypes:=tys }) (hgd:o.guard=none)
  (h:∀ Q:St->Prop,(∀ S' f caps,ev S' g=.clo f caps->K .normal { t:=put S'.t o.dst .junk,h:=S'.h,n:=S'.n,j:=S'.j,d:=.call f caps :: S'.d,m:=S'.m }->Q S')->kL V Φ ops false Q ops.toList.dropLast S []):Sym A P (.region id ops false) S K:=fun F hF hd a w hg=>by
 refine Xn (A:=A) ?_ F hF hd a w hg
 rw [hl]
 have hr:=yt (A:=A) (P:=P) hE.tys hE.ctr ops.toList.dropLast S [] hg.wf (h (fun S'=>∃ f caps,ev S' g=.clo f caps/\K .normal { t:=put S'.t o.dst .junk,h:=S'.h,n:=S'.n,j:=S'.j,d:=.call f caps :: S'.d,m:=S'.m }) fun S' f caps h1 h2=>⟨f,caps,h1,h2⟩)
 have hwf:Run A P ops ops.toList.dropLast S [] fun S' _=>Wf S'/\∃ f caps,ev S' g=.clo f caps/\K .normal { t:=put S'.t o.dst .junk,h:=S'.h,n:=S'.n,j:=S'.j,d:=.call f caps :: S'.d,m:=S'.m }:=by
  have key:∀ (l:List Oper) (S:St) (es:List Eff),Wf S->Run A P ops l S es (fun S' es'=>(false=true->kQ ops es'.reverse=true)/\∃ f caps,ev S' g=.clo f caps/\K .normal { t:=put S'.t o.dst .junk,h:=S'.h,n:=S'.n,j:=S'.j,d:=.call f caps :: S'.d,m:=S'.m }) ->
    Run A P ops l S es fun S' _=>Wf S'/\∃ f caps,ev S' g=.clo f caps/\K .normal { t:=put S'.t o.dst .junk,h:=S'.h,n:=S'.n,j:=S'.j,d:=.call f caps :: S'.d,m:=S'.m }:=by
   intro l
   induction l with
   |nil=>intro S es hS h;exact ⟨hS,h.2⟩
   |cons o1 l ih=>rintro S es hS ⟨e,hv,hr⟩;exact ⟨e,hv,ih _ _ (hS.app hv.ids) hr⟩
  exact key _ _ _ hg.wf hr
 refine LH _ _ _ (QN (fun S' es' h=>?_) _ _ _ hwf)
 obtain ⟨hS',f,caps,h1,h2⟩:=h
 refine ⟨_,QiY hAr hS' (.inl hgd) ho h1, ?_⟩
 have e:S'.app o.dst { av:=.junk,n:=S'.n,dd:=[.call f caps] }={ t:=put S'.t o.dst .junk,h:=S'.h,n:=S'.n,j:=S'.j,d:=.call f caps :: S'.d,m:=S'.m }:=by
  simp [St.app,zq]
 rw [e]
 exact h2
end Go.Sym
namespace Go.Sym
open Go Go.RowKit
variable {P : Program}
def Fn.of_callsB {B:Ctx->Prop} {T:World->Prop} (hT:∀ y J own w ρ,B ⟨y,J,own,w,ρ⟩->J 0 own w->T w) {f:FuncId} {az:List AV} {h0:Nat->Option AObj} {x:Value} (en:∀ vs w,(callFunc f vs).run P w=.ok (.enter f vs) w) (hx:x.oneCell'=true)
  (h:∀ (w:World) (ok:Nat->Prop) (ρ:Nat->Value) (y:Value) (vs:Array Value),T w->(∀ i o,h0 i=some o->ORel w ok ρ y o (ρ i))->vs.size=az.length->(∀ i c,az[i]?=some c->ARel w ok ρ y c (vs.getD i undef)) ->
   Calls P f vs w fun e w'=>e=.returned x/\Below w.heap.size w w'):Fn B P f az h0 (.v x) h0 0 where
 enter:=en
 calls:=fun y J hJ own w ρ vs hB H hs ha=>zY (h w _ ρ y vs (hT _ _ _ _ _ hB H.jay) H.obj hs ha) fun e w' ⟨he,hw⟩=>by
  have ex:∀ mod:Nat->Prop,Ext mod w w':=fun mod=>⟨hw.os,hw.tape,hw.output,hw.size,fun k hk _=>hw.block k hk⟩
  have ok:∀ b,okB w own ρ h0 b->okB w' own ρ h0 b/\w'.heap[b]?=w.heap[b]?:=fun b ⟨h1,h2,h3⟩=>⟨⟨aE h1 hw.size,h2,h3⟩,hw.block b h1⟩
  exact ⟨x,own,ρ,he,⟨(hJ _ _ _ H.jay).2 w' (ex _),fun i o hi=>(H.obj i o hi).mono ok (fun b hb=>hw.block b ((H.obj i o hi).lt hb)) (fun _ _=>rfl),H.inj,H.off⟩,.v hx,ex _,fun b h=>.inl h,fun _=>rfl,fun _ _ _=>rfl,fun i o b hi hb=>.inr ⟨i,o,hi,hb⟩⟩
def Fn.of_calls {f:FuncId} {az:List AV} {h0:Nat->Option AObj} {x:Value} (en:∀ vs w,(callFunc f vs).run P w=.ok (.enter f vs) w) (hx:x.oneCell'=true)
  (h:∀ (w:World) (ok:Nat->Prop) (ρ:Nat->Value) (y:Value) (vs:Array Value),(∀ i o,h0 i=some o->ORel w ok ρ y o (ρ i))->vs.size=az.length->(∀ i c,az[i]?=some c->ARel w ok ρ y c (vs.getD i undef)) ->
   Calls P f vs w fun e w'=>e=.returned x/\Below w.heap.size w w'):Fn noB P f az h0 (.v x) h0 0:=Fn.of_callsB (T:=fun _=>True) (fun _ _ _ _ _ _ _=>trivial) en hx fun w ok ρ y vs _=>h w ok ρ y vs
def Fn.of_callsT {T:World->Prop} {f:FuncId} {az:List AV} {h0:Nat->Option AObj} {x:Value} (en:∀ vs w,(callFunc f vs).run P w=.ok (.enter f vs) w) (hx:x.oneCell'=true)
  (h:∀ (w:World) (ok:Nat->Prop) (ρ:Nat->Value) (y:Value) (vs:Array Value),T w->(∀ i o,h0 i=some o->ORel w ok ρ y o (ρ i))->vs.size=az.length->(∀ i c,az[i]?=some c->ARel w ok ρ y c (vs.getD i undef)) ->
   Calls P f vs w fun e w'=>e=.returned x/\Below w.heap.size w w'):Fn (jd T) P f az h0 (.v x) h0 0:=Fn.of_callsB (B:=jd T) (fun _ _ own w _ hB hj=>hB 0 own w hj) en hx h
def qF (s:List UInt8):List DV:=[.v (.string ⟨⟨s⟩⟩)]
def QjP {w:World} {ok:Nat->Prop} {ρ:Nat->Value} {y:Value} {l:List (List UInt8)} {v:Value} (h:ARel w ok ρ y (.sl (l.map qF)) v) :
  (l=[]/\∃ a c,v=.slice a 0 c)\/∃ b o c,v=.slice (some ⟨b,o,none⟩) l.length c/\0 < l.length/\l.length<=c/\c<=maxLen/\b < w.heap.size/\∀ (j:Nat) s,l[j]?=some s->w.cell? ⟨b,o+j,none⟩=some (.string ⟨⟨s⟩⟩):=by
 cases h with
 |sl h =>
  generalize hx:DV.sl (l.map qF)=x at h
  cases h with
  |v _=>cases hx
  |sl0 hc=>injection hx with hx;exact .inl ⟨by simpa using hx,_,_,rfl⟩
  |@sl xs k a n c f h1 h2 h3 h4 h5 h6 h7 h8 h9 =>
   injection hx with hx
   subst hx
   have hl:l.length=n:=by simpa using h1
   have get:∀ (j:Nat) s,l[j]?=some s->(l.map qF)[j]?=some [DV.v (.string ⟨⟨s⟩⟩)]:=fun j s h=>by rw [aC,h];rfl
   have hk:k=1:=by
    obtain ⟨s,hs⟩:∃ s,l[0]?=some s:=⟨l[0],ak (by omega)⟩
    exact (h6 0 _ (get 0 s hs)).symm
   subst hk
   have cell:∀ (j:Nat) s,l[j]?=some s->w.cell? (a.add j)=some (.string ⟨⟨s⟩⟩):=fun j s hs=>by
    have h10:=h7 j _ 0 _ (get j s hs) rfl
    have h11:=h8 j _ 0 _ (get j s hs) rfl
    rw [show j * 1+0=j by omega] at h10
    rw [h10]
    generalize f j 0=u at h11 ⊢
    cases h11 with
    |v _=>rfl
   obtain ⟨s0,hs0⟩:∃ s,l[0]?=some s:=⟨l[0],ak (by omega)⟩
   have c0:=cell 0 s0 hs0
   have hsp:(a.add 0).spot=none:=Jz c0
   rw [show a.add 0=a by unfold Addr.add;simp] at hsp c0
   have hb:a.block < w.heap.size:=by
    rcases bR a.block w.heap.size with h6|h6
    ·exact h6
    ·simp [World.cell?,cp h6] at c0
   obtain ⟨b,o,sp⟩:=a
   dsimp only at hsp hb
   subst hsp
   rw [<- hl] at h3 ⊢
   exact .inr ⟨b,o,c,rfl,by omega,h3,h4,hb,fun j s hs=>by rw [<- jo];exact cell j s hs⟩
end Go.Sym
namespace Go.Sym
open Go
variable {A : Frm -> Prop} {P : Program}
def QaV {o:Oper} {r:Option Nat} {a:Act} {w:World} {next next':Act->World->Prop} {Q':Exit->Act->World->Prop} (h:o.wpIn (W r) 0 P a w next (fun _ _ _=>False)) (hn:∀ a w,next a w->next' a w):o.wpIn (W r) 0 P a w next' Q':=by
 refine ⟨h.1, ?_⟩
 have h3:=h.2
 generalize (o.semAt (W r).round a.eval).run P w=x at h3 ⊢
 cases x with
 |ok x w' =>
  cases x <;> simp only [Oper.uponIn] at h3 ⊢ <;> first
   |exact hn _ _ h3
   |exact ⟨h3.1,CallsIn.mono h3.2 (fun e w'' he=>by
     cases e with
     |returned v=>exact hn _ _ he
     |panicked c=>exact he.elim
     |outgrown=>obtain ⟨_,_,h⟩:=he;exact h.elim)⟩
   |exact ⟨h3.1,RowsIn.mono h3.2 (fun _ _ he=>hn _ _ he)⟩
   |exact ⟨h3.1,RoundIn.mono h3.2 (fun e w'' he=>by
     cases e with
     |returned v=>exact hn _ _ he
     |panicked c=>exact he.elim
     |outgrown=>obtain ⟨_,_,h⟩:=he;exact h.elim)⟩
 |halt x w'=>cases x <;> simp only [Oper.uponIn] at h3 ⊢
def QgO {o:Oper} {r:Option Nat} {a:Act} {w:World} {ch:List PanicEntry} {R:Act->World->Prop} {next':Act->World->Prop} {Q':Exit->Act->World->Prop} (h:o.wpIn (W r) 0 P a w (fun _ _=>False) (fun e a' w'=>e=.panic ch/\R a' w')) (hq:∀ a' w',R a' w'->Q' (.panic ch) a' w'):o.wpIn (W r) 0 P a w next' Q':=by
 refine ⟨h.1, ?_⟩
 have h3:=h.2
 generalize (o.semAt (W r).round a.eval).run P w=x at h3 ⊢
 have key:∀ {c:List PanicEntry} {a':Act} {w':World},Exit.panic c=.panic ch/\R a' w'->Q' (.panic c) a' w':=fun he=>by obtain ⟨e1,e2⟩:=he;cases e1;exact hq _ _ e2
 cases x with
 |ok x w' =>
  cases x <;> simp only [Oper.uponIn] at h3 ⊢ <;> first
   |exact h3.elim
   |exact ⟨h3.1,CallsIn.mono h3.2 (fun e w'' he=>by
     cases e with
     |returned v=>exact he.elim
     |panicked c=>exact key he
     |outgrown=>obtain ⟨_,_,h,_⟩:=he;cases h)⟩
   |exact ⟨h3.1,RowsIn.mono h3.2 (fun _ _ he=>he.elim)⟩
   |exact ⟨h3.1,RoundIn.mono h3.2 (fun e w'' he=>by
     cases e with
     |returned v=>exact he.elim
     |panicked c=>exact key he
     |outgrown=>obtain ⟨_,_,h,_⟩:=he;cases h)⟩
 |halt x w'=>cases x <;> simp only [Oper.uponIn] at h3 ⊢;exact key h3
def VW {ops:Array Oper} {K:St->List Eff->Prop} {F:Frm} (hF:A F) (hdst:∀ o ∈ ops.toList,QaL F.nt o=true) {Q:Exit->Act->World->Prop} {tail:List Nat} (ht:∀ S' es' a' w',K S' es'->Gam F S' a' w'->wpOpsIn (W F.r) 0 P ops Q tail a' w') :
  ∀ (l:List Oper) (k:Nat) (S:St) (es:List Eff) (a:Act) (w:World),(∀ j,j < l.length->l[j]?=ops[k+j]?)->Run A P ops l S es K->Gam F S a w->wpOpsIn (W F.r) 0 P ops Q (List.range' k l.length++tail) a w
 |[],_,S,es,a,w,_,h,hg=>ht S es a w h hg
 |o :: l,k,S,es,a,w,hl,h,hg=>by
  obtain ⟨e,hv,hr⟩:=h
  have h0:ops[k]?=some o:=by simpa using (hl 0 (by simp)).symm
  have hl':∀ j,j < l.length->l[j]?=ops[k+1+j]?:=fun j hj=>by have:=hl (j+1) (by simpa using hj);simpa [bZ,cD 1 j] using this
  simp only [bi,List.range'_succ,aQ,wpOpsIn,h0]
  have hval:=hv.valid F hF (hdst o (af (by simpa using h0))) S a w ⟨fun _ _=>rfl,fun _ _=>rfl,fun _=>rfl⟩ (fun id hid=>hg.freshIn (hv.news id hid)) hg
  split
  ·rename_i hw
   rw [if_pos hw] at hval
   exact QaV hval fun a' w' hg'=>VW hF hdst ht l (k+1) _ _ a' w' hl' hr hg'
  ·rename_i hw
   rw [if_neg hw] at hval
   exact ⟨fun _ _=>trivial,VW hF hdst ht l (k+1) _ _ _ w hl' hr hval⟩
def Qia {ops:Array Oper} {K:St->List Eff->Prop}:∀ (l:List Oper) (S:St) (es:List Eff),Wf S->Run A P ops l S es K->Run A P ops l S es fun S' es'=>Wf S'/\K S' es'
 |[],_,_,hS,h=>⟨hS,h⟩
 |_ :: l,_,_,hS,⟨e,hv,hr⟩=>⟨e,hv,Qia l _ _ (hS.app hv.ids) hr⟩
def QaJ {V:Tys} {Φ:Ctr} (hE:Env A P V Φ) {id:Nat} {ops:Array Oper} {S:St} {K:Exit->St->Prop} (k:Nat) {o:Oper} (ho:ops[k]?=some o) (hgd:o.guard=none)
  {C:St->Prop} (hC:∀ S,Wf S->C S->∃ e ch,VX A P ops o e ch S/\K (.panic ch) (S.app none e)) (h:kL V Φ ops false C (ops.toList.take k) S []):Sym A P (.region id ops false) S K:=fun F hF hd a w hg=>by
 have hr:=Qia _ _ _ hg.wf (yt (A:=A) (P:=P) hE.tys hE.ctr (ops.toList.take k) S [] hg.wf h)
 refine wpIn_region ?_
 have hk:k < ops.size:=(aV.1 ho).1
 have hlen:(ops.toList.take k).length=k:=by simp;omega
 have e:List.range ops.size=List.range' 0 (ops.toList.take k).length++k :: List.range' (k+1) (ops.size - k - 1):=by
  rw [hlen,List.range_eq_range',show ops.size=k+((ops.size - k - 1)+1) by omega,<- List.range'_append_1,List.range'_succ]
  simp
 rw [e]
 refine VW hF (bB.1 hd) (fun S' es' a' w' hk' hg'=>?_) _ 0 S [] a w (fun j hj=>?_) hr hg
 ·obtain ⟨hwf,_,hc⟩:=hk'
  obtain ⟨e,ch,hx,hk2⟩:=hC S' hwf hc
  simp only [wpOpsIn,ho]
  rw [if_pos (show Region.wanted o (yielded ops a'.tmps)=true by simp [Region.wanted,hgd])]
  exact QgO (hx.valid F hF S' a' w' QbT (fun id hid=>hg'.freshIn (hx.news id hid)) hg') fun a2 w2 hg2=>⟨_,hk2,hg2⟩
 ·rw [bc,if_pos (by omega)];simp
def Qgp {ops:Array Oper} {o:Oper} {S:St} {x:Operand} (ho:o.op=.panic x) {t:TypeId} {u:Value} (hx:ev S x=.v (.iface t u)):VX A P ops o { av:=.junk,n:=S.n } [{ v:=.iface t u,recovered:=false }] S:=⟨fun F hF S2 a w hag _ hg=>by
 obtain ⟨ρ,own,H⟩:=hg
 have hgv:=qD H x
 rw [hag.ev (x:=x) (by simp [ho,Op.operands]),hx] at hgv
 have hv:a.eval x=.iface t u:=(qO hgv).1
 refine ⟨vo o a w F.r, ?_⟩
 rw [Oper.semAt_eq _ _ _ (by simp [ho])]
 have:(execOp a.eval o).run P w=.halt (.panic (.iface t u)) w:=by
  simp [execOp,ho,hv,run_panic_iface]
 rw [this]
 refine ⟨rfl,ρ,own, ?_⟩
 have:=H.app (dst:=none) (e:={ av:=.junk,n:=S.n }) (v':=undef) (w':=w) (ρ':=ρ) (own':=own) (ds:=[]) (fun _ h=>by cases h) H.jay (Ext.refl _ _) (.inl rfl) (by simp) (fun _ _=>rfl) (by simp) .junk
  (by simp [Eff.keys]) (by simp [Eff.keys]) (by simp [Eff.ids,AV.ids,zP]) .nil
 simpa [Act.put] using this,by simp⟩
def Qez {V:Tys} {Φ:Ctr} (hE:Env A P V Φ) {id:Nat} {ops:Array Oper} {S:St} {K:Exit->St->Prop} (k:Nat) {o:Oper} (ho:ops[k]?=some o) (hgd:o.guard=none) {x:Operand} (hx:o.op=.panic x)
  (h:∀ Q:List PanicEntry->St->Prop,(∀ ch S2,K (.panic ch) (S2.app none { av:=.junk,n:=S2.n })->Q ch S2)->kL V Φ ops false (fun S'=>∃ t u,ev S' x=.v (.iface t u)/\Q [{ v:=.iface t u,recovered:=false }] S') (ops.toList.take k) S []):Sym A P (.region id ops false) S K :=
 QaJ hE k ho hgd (fun _ _ ⟨_,_,h1,h2⟩=>⟨_,_,Qgp hx h1,h2⟩) (h (fun ch S2=>K (.panic ch) (S2.app none { av:=.junk,n:=S2.n })) fun _ _ h=>h)
abbrev Zf:=St->List AV->Option (Pk × List PanicEntry)
def XOK (A:Frm->Prop) (P:Program) (f:FuncId) (X:Zf):Prop:=∀ S bs q ch,X S bs=some (q,ch)->q.pre->q.v=.junk/\∃ B:Ctx->Prop,(∀ F S hs bo ρ own w,A F->B (xZ F S hs bo ρ own w))/\FnX ch B P f q.ar (qb (qB 0 q.L0)) (qb (ze 0 q.L1))
def vx_fn {f:FuncId} {X:Zf} (hX:XOK A P f X) {S:St} {bs:List AV} {q:Pk} {ch:List PanicEntry} (hq:X S bs=some (q,ch)) (h:q.ok S bs) (hS:Wf S) {ops:Array Oper} {o:Oper} {g:Operand} {args:Array Operand} {tys:Array TypeId} {caps:List AV}
  (ho:o.op=.call { callee:=.value g,args:=args,argTypes:=tys }) (hg:zT (ev S g)=some (some f,caps)) (hb:Qk (ev S g)++(args.toList.map (ev S)++caps)=bs):VX A P ops o (q.eff S) ch S:=by
 obtain ⟨h1,h2,h3,h4,h5,h6,h7,h8,h9⟩:=h
 obtain ⟨hv,B,hB,hfn⟩:=hX S bs q ch hq h1
 rw [q.eff_eq S h6,hv]
 obtain ⟨g1,g2⟩:=QB h3
 have hlen:q.hs.length+(q.L1.length - q.hs.length)=q.L1.length:=by omega
 have get1:∀ i o,qb (ze 0 q.L1) i=some o->q.L1[i]?=some (some o):=fun i o hi=>by
  rw [xm,if_neg (by omega),aO] at hi
  cases hh:q.L1[i]? with
  |none=>rw [hh] at hi;cases hi
  |some x=>rw [hh] at hi;simp only [cW] at hi;rw [hi]
 refine Qjs hS ho (xY hg) hfn (fun F S2 _ w ρ own h _ _=>hB F S2 _ _ ρ own w h) (hf:=q.hf S) (by rw [hb];exact h2) (fun i o0 hi=>?_) (fun j hj=>?_) h4 (fun i ob hi=>?_) (yL h5) ?_ (fun i ob hi=>?_)
 ·rw [zZ,if_neg (by omega),aO] at hi
  exact g2 i o0 hi
 ·rw [zZ,if_neg (by omega),aO]
  exact ⟨_,ak (by omega)⟩
 ·unfold Pk.hf at hi
  by_cases hm:i ∈ q.bo
  ·rw [if_pos hm] at hi;exact ⟨hi,(yL h5 i hm).2,hm⟩
  ·rw [if_neg hm] at hi;cases hi
 ·cases hfl:q.fl with
  |false=>exact .inl rfl
  |true =>
   obtain ⟨_,e2⟩:=h9 hfl
   exact .inr ⟨rfl,fun i ob hi=>QD e2 i ob (get1 i ob hi)⟩
 ·rw [hlen]
  have:=get1 i ob hi
  exact ⟨(am.1 this).1,QJ h8 i ob this⟩
def yM (f:FuncId) (X:Zf) (o:Oper) (Q:List PanicEntry->Eff->St->Prop) (S:St):Prop:=match o.op with
 |.call c=>match c.callee with
  |.value g=>match zT (ev S g) with
   |some (some f',caps)=>f'=f/\match X S (Qk (ev S g)++(c.args.toList.map (ev S)++caps)) with
    |some (q,ch)=>q.ok S (Qk (ev S g)++(c.args.toList.map (ev S)++caps))/\Q ch (q.eff S) S
    |none=>False
   |_=>False
  |_=>False
 |_=>False
def YT {f:FuncId} {X:Zf} (hX:XOK A P f X) {ops:Array Oper} {o:Oper} {Q:List PanicEntry->Eff->St->Prop} {S:St} (hS:Wf S) (h:yM f X o Q S):∃ e ch,VX A P ops o e ch S/\Q ch e S:=by
 unfold yM at h
 split at h
 ·rename_i c hc
  split at h
  ·rename_i g hg
   split at h
   ·rename_i f' caps hf
    obtain ⟨rfl,h⟩:=h
    split at h
    ·rename_i q ch hq
     exact ⟨_,ch,vx_fn hX hq h.1 hS (g:=g) (args:=c.args) (tys:=c.argTypes) (by rw [hc];cases c;simp_all) hf rfl,h.2⟩
    ·exact h.elim
   ·exact h.elim
  ·exact h.elim
 ·exact h.elim
def Qe8 {V:Tys} {Φ:Ctr} (hE:Env A P V Φ) {f:FuncId} {X:Zf} (hX:XOK A P f X) {id:Nat} {ops:Array Oper} {S:St} {K:Exit->St->Prop} (k:Nat) {o:Oper} (ho:ops[k]?=some o) (hgd:o.guard=none)
  (h:∀ Q:List PanicEntry->Eff->St->Prop,(∀ ch e S2,K (.panic ch) (S2.app none e)->Q ch e S2)->kL V Φ ops false (yM f X o Q) (ops.toList.take k) S []):Sym A P (.region id ops false) S K :=
 QaJ hE k ho hgd (fun _ hS hc=>YT hX hS hc) (h (fun ch e S2=>K (.panic ch) (S2.app none e)) fun _ _ _ h=>h)
end Go.Sym
namespace Go.Sym
open Go Go.RowKit
variable {P : Program}
def FnG.of_callsB {E:Value->Ending} {B:Ctx->Prop} {T:World->Prop} (hT:∀ y J own w ρ,B ⟨y,J,own,w,ρ⟩->J 0 own w->T w) {f:FuncId} {az:List AV} {h0:Nat->Option AObj} {v:AV} (en:∀ vs w,(callFunc f vs).run P w=.ok (.enter f vs) w)
  (h:∀ (w:World) (ok:Nat->Prop) (ρ:Nat->Value) (y:Value) (vs:Array Value),T w->(∀ i o,h0 i=some o->ORel w ok ρ y o (ρ i))->vs.size=az.length->(∀ i c,az[i]?=some c->ARel w ok ρ y c (vs.getD i undef)) ->
   Calls P f vs w fun e w'=>∃ x,e=E x/\Below w.heap.size w w'/\∀ ok':Nat->Prop,(∀ b,ok b->ok' b)->(∀ b,w.heap.size<=b->b < w'.heap.size->ok' b)->ARel w' ok' ρ y v x):FnG E B P f az h0 v h0 0 where
 enter:=en
 calls:=fun y J hJ own w ρ vs hB H hs ha=>zY (h w _ ρ y vs (hT _ _ _ _ _ hB H.jay) H.obj hs ha) fun e w' ⟨x,he,hw,hx⟩=>by
  have ex:∀ mod:Nat->Prop,Ext mod w w':=fun mod=>⟨hw.os,hw.tape,hw.output,hw.size,fun k hk _=>hw.block k hk⟩
  have ok:∀ b,okB w own ρ h0 b->okB w' own ρ h0 b/\w'.heap[b]?=w.heap[b]?:=fun b ⟨h1,h2,h3⟩=>⟨⟨aE h1 hw.size,h2,h3⟩,hw.block b h1⟩
  refine ⟨x,own,ρ,he,⟨(hJ _ _ _ H.jay).2 w' (ex _),fun i o hi=>(H.obj i o hi).mono ok (fun b hb=>hw.block b ((H.obj i o hi).lt hb)) (fun _ _=>rfl),H.inj,H.off⟩,hx _ (fun b hb=>(ok b hb).1) fun b h1 h2=>⟨h2,fun hp=>?_,fun i o hi hb=>?_⟩,ex _,fun b h=>.inl h,fun _=>rfl,fun _ _ _=>rfl,fun i o b hi hb=>.inr ⟨i,o,hi,hb⟩⟩
  ·exact absurd ((hJ _ _ _ H.jay).1 b (own.sub b hp)) (by omega)
  ·exact absurd ((H.obj i o hi).lt hb) (by omega)
def FnG.of_callsT {E:Value->Ending} {T:World->Prop} {f:FuncId} {az:List AV} {h0:Nat->Option AObj} {v:AV} (en:∀ vs w,(callFunc f vs).run P w=.ok (.enter f vs) w)
  (h:∀ (w:World) (ok:Nat->Prop) (ρ:Nat->Value) (y:Value) (vs:Array Value),T w->(∀ i o,h0 i=some o->ORel w ok ρ y o (ρ i))->vs.size=az.length->(∀ i c,az[i]?=some c->ARel w ok ρ y c (vs.getD i undef)) ->
   Calls P f vs w fun e w'=>∃ x,e=E x/\Below w.heap.size w w'/\∀ ok':Nat->Prop,(∀ b,ok b->ok' b)->(∀ b,w.heap.size<=b->b < w'.heap.size->ok' b)->ARel w' ok' ρ y v x):FnG E (jd T) P f az h0 v h0 0:=FnG.of_callsB (B:=jd T) (fun _ _ own w _ hB hj=>hB 0 own w hj) en h
def FnX.of_callsT {ch:List PanicEntry} {T:World->Prop} {f:FuncId} {az:List AV} {h0:Nat->Option AObj} (en:∀ vs w,(callFunc f vs).run P w=.ok (.enter f vs) w)
  (h:∀ (w:World) (ok:Nat->Prop) (ρ:Nat->Value) (y:Value) (vs:Array Value),T w->(∀ i o,h0 i=some o->ORel w ok ρ y o (ρ i))->vs.size=az.length->(∀ i c,az[i]?=some c->ARel w ok ρ y c (vs.getD i undef)) ->
   Calls P f vs w fun e w'=>e=.panicked ch/\Below w.heap.size w w'):FnX ch (jd T) P f az h0 h0 :=
 FnG.of_callsT en fun w ok ρ y vs hT hh hs ha=>zY (h w ok ρ y vs hT hh hs ha) fun _ _ ⟨he,hw⟩=>⟨undef,he,hw,fun _ _ _=>.junk⟩
def Qjz {ch:List PanicEntry} {N:St->Prop} {K:Exit->St->Prop} {S:St} (h:K (.panic ch) S):Qo N K (.panic ch) S:=h
def QhC {ch:List PanicEntry} {id:Nat} {K:Exit->St->Prop} {S:St} (h:K (.panic ch) S):yX id K (.panic ch) S:=h
def Qu (ch:List PanicEntry) (spec:List AV->Prop):Zf:=fun _ bs=>some ({ pre:=spec bs,ar:=bs,v:=.junk },ch)
def K6 {ch:List PanicEntry} {T:World->Prop} {f:FuncId} {spec:List AV->Prop} (h:∀ az,spec az->FnX ch (jd T) P f az noH noH):XOK (zW T) P f (Qu ch spec):=fun S bs q c hq hp=>by
 simp only [Qu,al,Prod.mk.injEq] at hq
 obtain ⟨rfl,rfl⟩:=hq
 exact ⟨rfl,jd T,fun _ _ _ _ _ _ _ h=>WA h,h bs hp⟩
def Qg4 {w w':World} {ok':Nat->Prop} {ρ:Nat->Value} {y:Value} {l:List (List UInt8)} {t:TypeId} (hw:w'=w.alloc (.cells (l.map fun s=>Value.string ⟨⟨s⟩⟩).toArray t)) (h0:0 < l.length) (hm:l.length<=maxLen) (hok:ok' w.heap.size) :
  ARel w' ok' ρ y (.sl (l.map qF)) (.slice (some ⟨w.heap.size,0,none⟩) l.length l.length):=by
 subst hw
 refine .sl (.sl (k:=1) (fun i _=>Value.string ⟨⟨l.getD i []⟩⟩) (by simp) h0 (aw _) hm (by omega) (fun i r hr=>?_) (fun i r j d hr hd=>?_) (fun i r j d hr hd=>?_) hok)
 all_goals
  rw [aC] at hr
  obtain ⟨s,hs,rfl⟩:=aG.1 hr
 ·rfl
 ·have hj:j=0:=by
   cases j with
   |zero=>rfl
   |succ j=>simp [qF] at hd
  subst hj
  rw [jo]
  have hi:i < l.length:=(am.1 hs).1
  have hg:l.getD i []=l[i]:=by simp [hi]
  have hh:(w.alloc (.cells (l.map fun s=>Value.string ⟨⟨s⟩⟩).toArray t)).heap[w.heap.size]?=some (.cells (l.map fun s=>Value.string ⟨⟨s⟩⟩).toArray t):=Array.getElem?_push_size
  have hz:(Array.mk (l.map fun s=>Value.string ⟨⟨s⟩⟩))[0+(i * 1+0)]?=some (.string ⟨⟨l.getD i []⟩⟩):=by simp [hi,hg]
  simp only [World.cell?,hh]
  exact hz
 ·have hj:j=0:=by
   cases j with
   |zero=>rfl
   |succ j=>simp [qF] at hd
  subst hj
  have hg:l.getD i []=s:=by simp [ai,hs]
  simp only [qF,aJ,al] at hd
  subst hd
  rw [hg]
  exact .v rfl
end Go.Sym
namespace Go.Sym
open Go
variable {A : Frm -> Prop} {P : Program}
def St.nil (S:St):St:={ t:=fun _=>.junk,h:=S.h,n:=S.n,j:=S.j,d:=S.d,m:=S.m }
def Gam.nil {F:Frm} {S:St} {a:Act} {w:World} (h:Gam F S a w):Gam F S.nil a w:=by
 obtain ⟨ρ,own,H⟩:=h
 exact ⟨ρ,own,H.jay,fun _=>.junk,H.obj,H.inj,H.blkOK,fun id hid=>let ⟨g1,_,g3,g4⟩:=H.fresh id hid;⟨g1,fun t=>by simp [St.nil,AV.ids],g3,g4⟩,H.nle,H.meq,H.tsz,H.pins,H.ext,H.ownsub,H.still,H.defs⟩
def QgR (V:Tys) (Φ:Ctr) (S:St) (o:Oper):Prop:=o.guard=none/\(opE V Φ S o.op).1/\((opE V Φ S o.op).2.hw=[]/\(opE V Φ S o.op).2.news=[]/\(opE V Φ S o.op).2.dj=0/\(opE V Φ S o.op).2.dd=[]/\(opE V Φ S o.op).2.n<=S.n)/\match o.dst with
 |some d=>(opE V Φ S o.op).2.av=S.t d
 |none=>False
def Qbx (V:Tys) (Φ:Ctr) (S:St):List Oper->Prop
 |[]=>True
 |o :: r=>QgR V Φ S o/\Qbx V Φ S r
def QgF {V:Tys} {Φ:Ctr} {S:St} {l:List Oper} (h:Qbx V Φ S l):∀ o ∈ l,QgR V Φ S o:=by
 induction l with
 |nil=>intro o ho;cases ho
 |cons p r ih =>
  intro o ho
  rw [Qbx] at h
  rcases ah.1 ho with e|ho
  ·rw [e];exact h.1
  ·exact ih h.2 o ho
def ndB (ops:Array Oper) (k:Nat) (nd:List Nat):Bool :=
 decide (nd.length < ops.size) && !nd.contains k && (List.range ops.size).all fun i=>match ops[i]? with
  |none=>true
  |some o=>if i == k || nd.contains i then
    (deps o).all (fun d=>decide (d < i) && nd.contains d) && nd.all fun j=>match ops[j]? with
     |none=>false
     |some oj=>match oj.dst with
      |none=>false
      |some t=>!(o.looksAt ops).contains t || (deps o).contains j
   else (deps o).any fun d=>d == k || !nd.contains d
def Qht {ops:Array Oper} {K:St->List Eff->Prop}:∀ (l:List Oper) (S:St) (es:List Eff),Wf S->Run A P ops l S es K->∃ S' es',K S' es'/\Wf S'/\∀ t,(∀ o ∈ l,o.dst ≠ some t)->S'.t t=S.t t
 |[],S,es,hS,h=>⟨S,es,h,hS,fun _ _=>rfl⟩
 |o :: l,S,es,hS,⟨e,hv,hr⟩=>by
  obtain ⟨S',es',hk,hw,ht⟩:=Qht l _ _ (hS.app hv.ids) hr
  refine ⟨S',es',hk,hw,fun t hd=>?_⟩
  rw [ht t fun o ho=>hd o (aZ _ ho)]
  show put S.t o.dst e.av t=S.t t
  cases hod:o.dst with
  |none=>rfl
  |some d=>exact upd_ne _ _ _ _ fun e=>hd o (by simp) (by rw [hod,e])
def Rn (ops:Array Oper) (nd:List Nat) (S SF:St) (listed:Array Bool):St :=
 {t:=fun t=>if nd.any (fun j=>listed.getD j false && ((ops[j]?).bind (·.dst) == some t))=true then SF.t t else S.t t,h:=S.h,n:=S.n,j:=S.j,d:=S.d,m:=S.m }
def QbI {V:Tys} {Φ:Ctr} (hE:Env A P V Φ) {f:FuncId} {X:Zf} (hX:XOK A P f X) {id:Nat} {ops:Array Oper} {S:St} {K:Exit->St->Prop} (k:Nat) (nd:List Nat) {o:Oper} (ho:ops[k]?=some o) (hgd:o.guard=none) (hnd:ndB ops k nd=true)
  (h:∀ Q:List PanicEntry->Eff->St->Prop,(∀ ch e S2,K (.panic ch) (S2.app none e).nil->Q ch e S2)->kL V Φ ops false (fun SF=>Qbx V Φ SF (nd.filterMap fun i=>ops[i]?)/\(SF.h=S.h/\SF.n=S.n/\SF.j=S.j/\SF.d=S.d/\SF.m=S.m)/\yM f X o Q SF) (nd.filterMap fun i=>ops[i]?) S []):Sym A P (.region id ops true) S K:=fun F hF hd a w hg=>by
 obtain ⟨SF,es,⟨_,hfix,⟨hh,hn,hj,hdd,hm⟩,hcall⟩,hwf,htmp⟩:=Qht _ _ _ hg.wf (yt (A:=A) (P:=P) hE.tys hE.ctr _ S [] hg.wf (h (fun ch e S2=>K (.panic ch) (S2.app none e).nil) fun _ _ _ h=>h))
 obtain ⟨ek,ch,hx,hK⟩:=YT (ops:=ops) hX hwf hcall
 simp only [ndB,bz,decide_eq_true_eq,dC,bB,aY] at hnd
 obtain ⟨⟨hlen,hkn⟩,hB⟩:=hnd
 have hkn:k ∉ nd:=fun hm=>by simp [hm] at hkn
 have hks:k < ops.size:=(aV.1 ho).1
 have hdst:∀ j ∈ nd,∃ oj t,ops[j]?=some oj/\oj.dst=some t:=fun j hj=>by
  have h1:=hB k hks
  simp only [ho,beq_self_eq_true,Bool.true_or,if_true,bz,bB] at h1
  have h2:=h1.2 j hj
  split at h2
  ·cases h2
  ·rename_i oj hoj
   split at h2
   ·cases h2
   ·rename_i t ht;exact ⟨oj,t,hoj,ht⟩
 have hlook:∀ i oi,ops[i]?=some oi->(i=k\/i ∈ nd)->(∀ d ∈ deps oi,d < i/\d ∈ nd)/\∀ j ∈ nd,∀ oj t,ops[j]?=some oj->oj.dst=some t->t ∈ oi.looksAt ops->j ∈ deps oi:=fun i oi hoi hi=>by
  have h1:=hB i (aV.1 hoi).1
  have hc:(i == k || nd.contains i)=true:=by rcases hi with h|h <;> simp [h]
  simp only [hoi,hc,if_true,bz,bB] at h1
  refine ⟨fun d hd=>by have:=h1.1 d hd;simpa using this,fun j hj oj t hoj ht hl=>?_⟩
  have h2:=h1.2 j hj
  simp only [hoj,ht,cM,dC] at h2
  rcases h2 with h2|h2
  ·simp [hl] at h2
  ·simpa using h2
 have hagree:∀ i oi (e:Eff) (listed:Array Bool),ops[i]?=some oi->(i=k\/i ∈ nd)->(∀ d ∈ deps oi,listed.getD d false=true)->Agree ops oi e SF (Rn ops nd S SF listed):=fun i oi e listed hoi hi hl=>by
  refine ⟨fun t ht=>?_,fun id _=>by rw [hh];rfl,fun _=>by rw [hj];rfl⟩
  show (if _ then SF.t t else S.t t)=SF.t t
  split
  ·rfl
  ·rename_i hn
   refine (htmp t fun o' ho' hdt=>hn ?_).symm
   obtain ⟨j,hj,hoj⟩:=bS.1 ho'
   rw [bY]
   refine ⟨j,hj, ?_⟩
   rw [hl j ((hlook i oi hoi hi).2 j hj o' t hoj hdt ht),hoj]
   simp [hdt]
 have main:∀ (fuel:Nat) (listed:Array Bool) (a:Act) (w:World),listed.size=ops.size->(∀ i,listed.getD i false=true->i ∈ nd)->(nd.filter fun i=>!listed.getD i false).length < fuel->Gam F (Rn ops nd S SF listed) a w ->
   wpAnyIn (W F.r) 0 P .any ops (fun e a' w'=>∃ S',K e S'/\Gam F S' a' w') fuel listed a w:=by
  intro fuel
  induction fuel with
  |zero=>intro listed a w _ _ h0;omega
  |succ fuel ih =>
   intro listed a w hsz hin hfu hg
   have unl:∀ i,i < ops.size->listed.getD i true=listed.getD i false:=fun i hi=>by simp [hsz,hi]
   refine ⟨fun h0=>?_,fun i hi=>?_⟩
   ·have all:∀ i oi,ops[i]?=some oi->(i=k\/i ∈ nd)->listed.getD i false=true:=by
     intro i
     induction i using Nat.strongRecOn with
     |_ i ihi =>
      intro oi hoi hi
      cases hl:listed.getD i false with
      |true=>rfl
      |false =>
       have:i ∈ Region.ready .any ops listed:=mem_ready.2 ⟨by rw [unl i (aV.1 hoi).1,hl],oi,hoi,fun e he hb=>by
        obtain ⟨g1,g2⟩:=(hlook i oi hoi hi).1 e.on (J5.2 ⟨e,he,hb,rfl⟩)
        obtain ⟨od,_,hod,_⟩:=hdst _ g2
        exact ihi e.on g1 od hod (.inr g2)⟩
       rw [h0] at this
       cases this
    exact absurd (hin k (all k o ho (.inl rfl))) hkn
   ·obtain ⟨hun,oi,hoi,hrd⟩:=mem_ready.1 hi
    have hdl:∀ d ∈ deps oi,listed.getD d false=true:=fun d hd=>by
     obtain ⟨e,he,hb,rfl⟩:=J5.1 hd
     exact hrd e he hb
    unfold wpOpIn
    simp only [hoi]
    by_cases hik:i=k
    ·subst hik
     rw [ho] at hoi;cases hoi
     rw [if_pos (show Region.wanted o (yielded ops a.tmps)=true by simp [Region.wanted,hgd])]
     refine QgO (hx.valid F hF _ a w (hagree i o ek listed ho (.inl rfl) hdl) (fun id hid=>hg.freshIn (by have:=hx.news id hid;rw [hn] at this;exact this)) hg) fun a' w' hg'=>⟨_,hK, ?_⟩
     have e:(SF.app none ek).nil=((Rn ops nd S SF listed).app none ek).nil:=by
      simp only [St.nil,St.app,Rn,hh,hn,hj,hdd,hm]
     rw [e];exact hg'.nil
    ·by_cases hnd:i ∈ nd
     ·have hfo:=QgF hfix oi (bS.2 ⟨i,hnd,hoi⟩)
      obtain ⟨g1,g2,⟨p1,p2,p3,p4,p5⟩,g3⟩:=hfo
      obtain ⟨_,d,hoi',hdd'⟩:=hdst i hnd
      rw [hoi] at hoi';cases hoi'
      rw [hdd'] at g3
      have hv:=KH (A:=A) (P:=P) (ops:=ops) hE.tys hE.ctr hwf (.inl g1) g2
      generalize opE V Φ SF oi.op=r at *
      obtain ⟨rp,e⟩:=r
      dsimp only at g2 p1 p2 p3 p4 p5 g3 hv
      have hw:Region.wanted oi (yielded ops a.tmps)=true:=by simp [Region.wanted,g1]
      rw [if_pos hw]
      have hval:=hv.valid F hF (bB.1 hd oi (af (by simpa using hoi))) _ a w (hagree i oi e listed hoi (.inr hnd) hdl) (fun id hid=>by rw [p2] at hid;cases hid) hg
      rw [if_pos hw] at hval
      refine QaV hval fun a' w' hg'=>ih (listed.setIfInBounds i true) a' w' (by simpa using hsz) (fun m hm=>?_) ?_ ?_
      ·by_cases hmi:i=m
       ·exact hmi ▸ hnd
       ·rw [getD_set_ne false hmi] at hm;exact hin m hm
      ·have hiu:listed.getD i false=false:=by rw [<- unl i (aV.1 hoi).1];exact hun
       have:=filter_lt (fun i=>!listed.getD i false) (fun m=>!(listed.setIfInBounds i true).getD m false) (fun m hm=>by
        by_cases hmi:i=m
        ·subst hmi;simp [hiu]
        ·rw [getD_set_ne false hmi] at hm;exact hm) i (by simp [hiu]) (by simp [hsz,(aV.1 hoi).1]) nd hnd
       omega
      ·have e2:(Rn ops nd S SF listed).app oi.dst e=Rn ops nd S SF (listed.setIfInBounds i true):=by
        simp only [St.app,Rn,p1,p3,p4,zq,aF,bj]
        congr 1
        ·funext t
         rw [hdd']
         simp only [put]
         by_cases htd:t=d
         ·subst htd
          have hc:(nd.any fun j=>(listed.setIfInBounds i true).getD j false && ((ops[j]?).bind (·.dst) == some t))=true:=by
           rw [bY]
           exact ⟨i,hnd,by rw [show (listed.setIfInBounds i true).getD i false=true by simp [hsz,(aV.1 hoi).1],hoi,Option.bind_some,hdd'];simp⟩
          rw [upd_same,if_pos hc,g3]
         ·rw [upd_ne _ _ _ _ htd]
          have:(nd.any fun j=>listed.getD j false && ((ops[j]?).bind (·.dst) == some t))=nd.any fun j=>(listed.setIfInBounds i true).getD j false && ((ops[j]?).bind (·.dst) == some t):=by
           refine List.any_congr rfl fun j=>?_
           by_cases hji:i=j
           ·subst hji
            have e1:((ops[i]?).bind (·.dst) == some t)=false:=by rw [hoi,Option.bind_some,hdd'];simpa using Ne.symm htd
            rw [e1,cw,cw]
           ·rw [getD_set_ne false hji]
          rw [this]
        ·show max S.n e.n=S.n
         rw [hn] at p5;omega
       rw [<- e2];exact hg'
     ·exfalso
      have h1:=hB i (aV.1 hoi).1
      have hc:(i == k || nd.contains i)=false:=by simp [hik,hnd]
      simp only [hoi,hc,bM,if_false,bY] at h1
      obtain ⟨d,hd1,hd2⟩:=h1
      have h3:=hin d (hdl d hd1)
      rcases cM _ _ ▸ hd2 with h4|h4
      ·exact hkn (by rw [<- beq_iff_eq.1 h4];exact h3)
      ·simp [h3] at h4
 have e0:Rn ops nd S SF (Array.replicate ops.size false)=S:=by
  have:∀ j,(Array.replicate ops.size false).getD j false=false:=fun j=>by
   by_cases hj:j < ops.size <;> simp [hj]
  simp [Rn,this]
 have:=main ops.size (Array.replicate ops.size false) a { w with drawn:=w.drawn+1 } (by simp) (fun i hi=>by
  by_cases hj:i < ops.size <;> simp [hj] at hi) (by have:=dN (fun i=>!(Array.replicate ops.size false).getD i false) nd;omega) (by rw [e0];exact hg.calm (Ext.drew _ w))
 exact wpIn_region_any hE.mixed this
def RecE (P:Program) (f:FuncId) (ch:List PanicEntry):Prop:=(∀ vs w,(callFunc f vs).run P w=.ok (.enter f vs) w)/\∀ w,CallsDIn (W none) 0 P f #[] (.panicking ch) w fun e u w'=>(∃ v,e=.returned v)/\settle u=.returning/\Ext (fun _=>False) w w'
def RetE (P:Program) (f:FuncId):Prop:=(∀ vs w,(callFunc f vs).run P w=.ok (.enter f vs) w)/\∀ w,CallsDIn (W none) 0 P f #[] .returning w fun e u w'=>(∃ v,e=.returned v)/\u=.returning/\Ext (fun _=>False) w w'
def dE (fr:FuncId):yP:=fun f caps S K=>f=fr/\caps=[]/\K S
def dE_ok {fr:FuncId} (h:RetE P fr):yP.OK A P (dE fr):=fun f caps S K ⟨hf,hc,hk⟩=>by
 subst hf hc
 refine ⟨h.1,fun F _ a w ρ own H vs hv _=>?_⟩
 have:vs=#[]:=cP (by simpa using hv)
 subst this
 refine CallsDIn.mono (n:=0) (h.2 w) ?_
 rintro e u w' ⟨⟨v,rfl⟩,rfl,hx⟩
 exact ⟨v,S,rfl,rfl,hk,ρ,own,H.calm hx⟩
def Fn.ofE {B:Ctx->Prop} {V:Tys} {D:yP} {f:FuncId} {fn:Func} {c:Code} (hd:FnData P V f fn c) {az:List AV} {n0:Nat} {h0:Nat->Option AObj} {v:AV} {h1:Nat->Option AObj} {dj:Nat} {fr:FuncId} {ok:List PanicEntry->Prop} (hR:∀ ch,ok ch->RecE P fr ch)
  (has:az.length<=fn.ntmps) (hids:∀ a ∈ az,∀ id ∈ a.ids,id < n0) (hh0:∀ i o,h0 i=some o->i < n0/\∀ id ∈ o.ids,id < n0)
  (hA:∀ F,B ⟨F.y,F.J,F.own0,F.w0,F.ρ0⟩->F.H0=h0->F.r=none->A F) (hD:yP.OK A P D)
  (hs:Sym A P c (qV az n0 h0) (retR V D fn fr ok fun S rv=>Fin S rv v n0 h1 dj)):Fn B P f az h0 v h1 dj:=by
 refine ⟨hd.enter,fun y J hJ own w ρ vs hB hp hsz hrel=>?_⟩
 have hF:A (QgZ y J hJ own w ρ h0 n0 fn.ntmps hh0):=hA _ hB rfl rfl
 have hbody:=hs _ hF hd.dst _ w (VS hJ has hids hh0 hp hsz hrel)
 refine Jr (r:=none) (callsIn_of_wp_marks hd.func hd.body trivial (wpIn_mono hbody ?_))
 rintro e a' w' ⟨S',hk,hg'⟩
 cases e with
 |normal=>exact Wl hd.ok hD hF (fun i o hi=>(hh0 i o hi).1) hg' hk
 |ret=>exact Wl hd.ok hD hF (fun i o hi=>(hh0 i o hi).1) hg' hk
 |panic ch =>
  obtain ⟨hok,hds,hres⟩:=hk
  obtain ⟨hent,hrec⟩:=hR ch hok
  obtain ⟨ρ2,own2,H2⟩:=hg'
  obtain ⟨x,xs,hx,hdr,H3⟩:=H2.pop hds
  have hdf:=H3.defs
  generalize hxs:xs=l at hdf
  cases hdf
  subst hxs
  show LeavesInM (W none) 0 P fn a'.tmps _ a'.defers (.panicking ch) w'
  rw [hx]
  cases hdr with
  |@call _ _ cvs h1 h2 =>
   refine ⟨by simp,.inr ⟨fun h=>by simp [W] at h,.func fr,cvs,fr,#[]++cvs,rfl, ?_,fun g _=>trivial, ?_⟩⟩
   ·simp [invoke,hent]
   ·have:cvs=#[]:=cP (by simpa using h1)
    subst this
    refine CallsDIn.mono (n:=0) (hrec w') ?_
    rintro e u w2 ⟨⟨u0,rfl⟩,hu,hext⟩
    show LeavesInM (W none) 0 P fn a'.tmps _ [] (settle u) w2
    rw [hu]
    have H4:=H3.calm hext
    obtain ⟨avs,v',hQ,hrun,hrv⟩:=ZM hd.ok H4 hres
    exact ⟨v',hrun,Xj H4 hQ (fun i o hi=>(hh0 i o hi).1) hrv⟩
 |_=>exact hk.elim
def VE.anti {A A':Frm->Prop} (h:∀ F,A' F->A F) {ops:Array Oper} {o:Oper} {e:Eff} {S:St} (hv:VE A P ops o e S):VE A' P ops o e S:=⟨fun F hF=>hv.valid F (h F hF),hv.ids,hv.news⟩
def qm.anti {A A':Frm->Prop} (h:∀ F,A' F->A F) {f:FuncId} {E:St->List AV->Ans} (hh:qm A P f E):qm A' P f E:=fun S bs h1 hS ops o g args tys caps hw ho hg hb=>(hh S bs h1 hS ops o g args tys caps hw ho hg hb).anti h
def XOK.anti {A A':Frm->Prop} (h:∀ F,A' F->A F) {f:FuncId} {X:Zf} (hh:XOK A P f X):XOK A' P f X:=fun S bs q ch hq hp=>let ⟨h1,B,hB,hf⟩:=hh S bs q ch hq hp;⟨h1,B,fun F S hs bo ρ own w hF=>hB F S hs bo ρ own w (h F hF),hf⟩
def tabN (T:World->Prop) (F:Frm):Prop:=zW T F/\F.r=none
def Qb3 {T:World->Prop}:∀ F,tabN T F->zW T F:=fun _ h=>h.1
def Ql6 {T:World->Prop}:∀ F,tabN T F->F.r=none:=fun _ h=>h.2
def KM {h:Nat->Option AObj}:∀ {ps:List (Nat × Option AObj)},(∀ p ∈ ps,h p.1=p.2)->zq h ps=h
 |[],_=>rfl
 |p :: ps,hs=>by
  have e:upd h p.1 p.2=h:=by
   funext i
   by_cases hi:i=p.1
   ·subst hi;rw [upd_same];exact (hs p ba).symm
   ·rw [upd_ne _ _ _ _ hi]
  rw [zq,e,KM fun q hq=>hs q (aZ _ hq)]
def VE.thin {ops:Array Oper} {o:Oper} {e:Eff} {S:St} (h:VE A P ops o e S) (hs:∀ p ∈ e.hw,p.1 ∈ e.hr/\S.h p.1=p.2):VE A P ops o { e with hw:=[] } S:=by
 refine ⟨fun F hF hd S2 a w hag hfr hg=>?_,fun id hid=>h.ids id ?_,h.news⟩
 ·have:=h.valid F hF hd S2 a w ⟨hag.1,hag.2.1,hag.2.2⟩ hfr hg
  have e1:S2.app o.dst { e with hw:=[] }=S2.app o.dst e:=by
   simp only [St.app]
   rw [KM (h:=S2.h) (ps:=e.hw) fun p hp=>by rw [hag.2.1 _ (hs p hp).1];exact (hs p hp).2]
   rfl
  rw [e1]
  exact this
 ·simp only [Eff.ids,zP,be,aD] at hid ⊢
  rcases hid with hid|hid
  ·exact .inl (.inl hid)
  ·exact .inr hid
def Qf4 (S:St) (τ:Nat->Nat):List Nat->List (Option AObj)->Prop
 |[],[]=>True
 |c :: cs,some o :: os=>S.h c=some (o.ren τ)/\Qf4 S τ cs os
 |_,_=>False
def Qaa {S:St} {τ:Nat->Nat}:∀ {cs:List Nat} {os:List (Option AObj)},Qf4 S τ cs os->cs.length=os.length/\∀ (i:Nat) (o:Option AObj),os[i]?=some o->∃ c,cs[i]?=some c/\S.h c=o.map (AObj.ren τ)
 |[],[],_=>by simp
 |c :: cs,some o :: os,h=>by
  obtain ⟨h1,h2⟩:=h
  obtain ⟨g1,g2⟩:=Qaa h2
  refine ⟨by simp [g1],fun i o' ho=>?_⟩
  cases i with
  |zero=>cases ho;exact ⟨c,rfl,h1⟩
  |succ i=>simpa using g2 i o' (by simpa using ho)
 |[],_ :: _,h=>h.elim
 |_ :: _,[],h=>h.elim
 |_ :: _,none :: _,h=>h.elim
def fnQ (spec:St->List AV->Option Pk) (S:St) (bs:List AV):Ans:=match spec S bs with
 |none=>bad
 |some q=>(q.ok S bs/\q.bo=[]/\Qf4 S (qj q.hs S.n) q.hs q.L1,{ av:=q.v.ren (qj q.hs S.n),hr:=q.hs,n:=S.n })
def Qmw {f:FuncId} {spec:St->List AV->Option Pk} (hf:∀ S bs q,spec S bs=some q->q.pre->Fn noB P f q.ar (qb (qB 0 q.L0)) q.v (qb (ze 0 q.L1)) 0):qm A P f (fnQ spec):=by
 intro S bs h hS ops o g args tys caps hw ho hg hb
 unfold fnQ at h ⊢
 cases hq:spec S bs with
 |none=>rw [hq] at h;exact h.elim
 |some q =>
  rw [hq] at h
  simp only at h ⊢
  obtain ⟨h1,h2,h3⟩:=h
  obtain ⟨g1,g2⟩:=Qaa h3
  have hv:=Yu (A:=A) (B:=noB) (fun _ _ _ _ _ _ _ _=>trivial) hf (S:=S) (bs:=bs) (by unfold fnE;rw [hq];exact h1) hS hw ho hg hb
  unfold fnE at hv
  rw [hq] at hv
  simp only at hv
  have e:({ q.eff S with hw:=[] }:Eff)={ av:=q.v.ren (qj q.hs S.n),hr:=q.hs,n:=S.n }:=by
   simp only [Pk.eff,h2,be,g1,c7,bj,VT]
  rw [<- e]
  refine hv.thin fun p hp=>?_
  have hd:zf (bif q.fl then [] else q.bo)=[]:=by rw [h2];cases q.fl <;> rfl
  simp only [Pk.eff,hd,be] at hp ⊢
  rw [Rb] at hp
  obtain ⟨j,hj,rfl⟩:=ap.1 hp
  rw [aY] at hj
  obtain ⟨x,hx⟩:∃ x,q.L1[j]?=some x:=⟨_,ak hj⟩
  obtain ⟨c,hc,hSc⟩:=g2 j x hx
  have hr:qj q.hs S.n (0+j)=c:=by rw [bf];simp only [qj,hc]
  simp only [hr,hx,cW]
  exact ⟨dh _ (af hc),hSc⟩
section
variable {b : Frame} {a : Act} {k : List Item} {cs : List Frame} {w : World} {F : Fence} {n : Nat} {Q : Exit -> Act -> World -> Prop}
def yu {c:Code}:step P (lone (b.atR a (.code (.scope c) :: k)) cs w)=.next (lone (b.atR a (.code c :: .inScope c :: k)) cs w) :=
 step_lone_go (by simp [stepG,stepG.exec,Frame.atR])
def Xw {c:Code}:step P (lone (b.atR a (.inScope c :: k)) cs w)=.next (lone (b.atR a k) cs w) :=
 step_lone_go (by simp [stepG,stepG.exec,Frame.atR])
def Qcy {c:Code} (h:c.wpIn F n P (Exit.noGoto Q) a w):(Code.scope c).wpIn F n P Q a w:=by
 intro b k cs hro hb hr
 have h0:(lone (b.atR a (.code (.scope c) :: k)) cs w).fenced P F:=fenced_calm hb hr rfl
 obtain ⟨e,a₁,w₁,hq,harr⟩:=h b (.inScope c :: k) cs hro hb hr
 cases e with
 |normal=>exact ⟨.normal,a₁,w₁,hq,.head h0 yu (StepsIn.trans harr (.one (fenced_calm hb hr rfl) Xw))⟩
 |exit id =>
  have hx:exitTo id (.inScope c :: k)=exitTo id k:=by simp [exitTo]
  exact ⟨_,a₁,w₁,hq,fun k' hk=>.head h0 yu (harr.1 k' (by rw [hx];exact hk)),
   fun hr' hk=>let ⟨k₁,h1,h2⟩:=harr.2 hr' (by rw [hx];exact hk);⟨k₁,h1,.head h0 yu h2⟩⟩
 |goto l=>exact hq.elim
 |ret=>exact ⟨_,a₁,w₁,hq,.of_steps (.one h0 yu) harr⟩
 |panic ch=>exact ⟨_,a₁,w₁,hq,.of_steps (.one h0 yu) harr⟩
 |outgrown=>exact ⟨_,a₁,w₁,hq,.of_steps (.one h0 yu) harr⟩
end
def Rw (K:Exit->St->Prop):Exit->St->Prop
 |.goto _,_=>False
 |.normal,S=>K .normal S
 |.exit id,S=>K (.exit id) S
 |.ret,S=>K .ret S
 |.panic c,S=>K (.panic c) S
 |.outgrown,S=>K .outgrown S
def zR {c:Code} {S:St} {K:Exit->St->Prop} (h:Sym A P c S (Rw K)):Sym A P (.scope c) S K:=fun F hF hd a w hg=>by
 refine Qcy (wpIn_mono (h F hF hd a w hg) ?_)
 rintro e a' w' ⟨S',hk,hg'⟩
 cases e with
 |goto l=>exact hk.elim
 |_=>exact ⟨S',hk,hg'⟩
def wJ {K:Exit->St->Prop} {S:St} (h:K .normal S):Rw K .normal S:=h
def wI {K:Exit->St->Prop} {S:St} {id:Nat} (h:K (.exit id) S):Rw K (.exit id) S:=h
def wH {K:Exit->St->Prop} {S:St} (h:K .ret S):Rw K .ret S:=h
end Go.Sym
namespace Go.Sym
open Go Go.RowKit
variable {P : Program}
inductive Sp where
 |int (k:IntKind)
 |bool
 |sl (es:List Sp)
inductive Fl (P:Program):TypeId->List Sp->Prop
 |int {t:TypeId} {k:IntKind}:P.underlying t=some (.int k)->Fl P t [.int k]
 |bool {t:TypeId}:P.underlying t=some .bool->Fl P t [.bool]
 |sl {t e:TypeId} {es:List Sp}:P.underlying t=some (.slice e)->P.cellsOf e=es.length->0 < es.length->Fl P e es->Fl P t [.sl es]
 |struct {t:TypeId} {fs:Array Field} {L:List (List Sp)}:P.underlying t=some (.struct fs)->P.cellsOf t=L.flatten.length->L.length=fs.size ->
   (∀ (i:Nat) (f:Field) (l:List Sp),fs[i]?=some f->L[i]?=some l->Fl P f.type l) ->
   (∀ (i:Nat) (f:Field) (l:List Sp),fs[i]?=some f->L[i]?=some l->f.offset=(L.take i).flatten.length/\P.cellsOf f.type=l.length)->Fl P t L.flatten
inductive D1:Sp->DV->Prop
 |int {k:IntKind} {n:Int}:(Lit.int k n).wf=true->D1 (.int k) (.v (.int k n))
 |bool {b:Bool}:D1 .bool (.v (.bool b))
 |sl {es:List Sp} {xs:List (List DV)}:(∀ r ∈ xs,r.length=es.length)->(∀ r ∈ xs,∀ (j:Nat) (s:Sp) (d:DV),es[j]?=some s->r[j]?=some d->D1 s d)->xs.length<=maxLen->D1 (.sl es) (.sl xs)
structure DRow (w:World) (sps:List Sp) (ds:List DV) (cs:List Value):Prop where
 len:ds.length=sps.length
 clen:cs.length=sps.length
 shape:∀ (j:Nat) (s:Sp) (d:DV),sps[j]?=some s->ds[j]?=some d->D1 s d
 rel:∀ (j:Nat) (d:DV) (v:Value),ds[j]?=some d->cs[j]?=some v->DRel w (okW w) d v
def DRow.one {w:World} {s:Sp} {d:DV} {v:Value} (h:D1 s d) (hr:DRel w (okW w) d v):DRow w [s] [d] [v] :=
 ⟨rfl,rfl,fun j s' d' hs hd=>by
  cases j with
  |zero=>cases hs;cases hd;exact h
  |succ j=>simp at hs,fun j d' v' hd hv=>by
  cases j with
  |zero=>cases hd;cases hv;exact hr
  |succ j=>simp at hd⟩
def ZX {Z:Type}:∀ {L:List (List Z)} {q:Nat} {a:Z},L.flatten[q]?=some a->∃ i l,L[i]?=some l/\(L.take i).flatten.length<=q/\l[q - (L.take i).flatten.length]?=some a
 |[],q,a,h=>by simp at h
 |x :: L,q,a,h=>by
  rw [cE] at h
  by_cases hq:q < x.length
  ·rw [bv hq] at h
   exact ⟨0,x,rfl,by simp,by simpa using h⟩
  ·rw [bA (by omega)] at h
   obtain ⟨i,l,h1,h2,h3⟩:=ZX h
   refine ⟨i+1,l,by simpa using h1, ?_, ?_⟩
   ·rw [cI,cE,aA];omega
   ·rw [cI,cE,aA,show q - (x.length+(L.take i).flatten.length)=q - x.length - (L.take i).flatten.length by omega];exact h3
def Qa7 {Z:Type} {L:List (List Z)} {i j:Nat} {l:List Z} (h:L[i]?=some l) (hj:j < l.length):L.flatten[(L.take i).flatten.length+j]?=l[j]?:=by
 have hlt:=(am.1 h).1
 have:L.flatten=(L.take i).flatten++(L.drop i).flatten:=by rw [<- dO,dP]
 rw [this,bA (by omega),cm hlt,cE]
 rw [ak hlt] at h
 cases h
 rw [show (L.take i).flatten.length+j - (L.take i).flatten.length=j by omega,bv hj]
def ZT {Z:Type} {p:Nat->Z->Prop}:∀ (n:Nat),(∀ i,i < n->∃ a,p i a)->∃ l:List Z,l.length=n/\∀ (i:Nat) (a:Z),l[i]?=some a->p i a
 |0,_=>⟨[],rfl,by simp⟩
 |n+1,h=>by
  obtain ⟨l,hl,hp⟩:=ZT n fun i hi=>h i (by omega)
  obtain ⟨a,ha⟩:=h n (by omega)
  refine ⟨l++[a],by simp [hl],fun i b hb=>?_⟩
  by_cases hi:i < l.length
  ·rw [bv hi] at hb;exact hp i b hb
  ·rw [bA (by omega)] at hb
   have:i - l.length=0:=by
    have:=(am.1 hb).1
    simp at this;omega
   rw [this] at hb
   simp only [aJ,al] at hb
   subst hb
   rw [show i=n by omega]
   exact ha
def QbH {w:World} {a:Addr} {v:Value} (h:w.cell? a=some v):a.block < w.heap.size:=by
 rcases bR a.block w.heap.size with h6|h6
 ·exact h6
 ·simp [World.cell?,cp h6] at h
def UH {H:Type} {enc:TypeId × Value->H} {w:World} {base:Nat} {spare:Nat->Bool} {held:Bool} {t:TypeId} {sps:List Sp} (hf:Fl P t sps) :
  ∀ {fuel:Nat} {cs:List Value} {x:DataW H × List MemPlace},DataW.trod enc P w base spare held fuel t cs=some x->∃ ds,DRow w sps ds cs:=by
 induction hf with
 |@int t k ht =>
  intro fuel cs x h
  cases fuel with
  |zero=>simp [DataW.trod] at h
  |succ n =>
   unfold DataW.trod at h
   rw [ht] at h
   split at h <;> simp_all
   exact ⟨_,.one (.int h.1.2) (.v rfl)⟩
 |@bool t ht =>
  intro fuel cs x h
  cases fuel with
  |zero=>simp [DataW.trod] at h
  |succ n =>
   unfold DataW.trod at h
   rw [ht] at h
   split at h <;> simp_all
   exact ⟨_,.one .bool (.v rfl)⟩
 |@sl t e es ht hce hpos hfe ih =>
  intro fuel cs x h
  rcases DataW.trod_slice ht h with ⟨rfl,_⟩|⟨a,len,cap,elems,rest,n,_,rfl,_,hb,hl,hm,hlen,hel,_,_⟩
  ·exact ⟨_,.one (.sl (xs:=[]) (by simp) (by simp) (ag _)) (.sl0 (ag _))⟩
  ·obtain ⟨rows,hrl,hrow⟩:=ZT (p:=fun i (r:List DV × List Value)=>DRow w es r.1 r.2/\∀ j,j < es.length->w.cell? (a.add (i * es.length+j))=r.2[j]?) len fun i hi=>by
    have h1:=hel i hi
    rw [ak (by omega)] at h1
    obtain ⟨cs',hc,ht'⟩:=Option.bind_eq_some_iff.1 h1
    obtain ⟨ds,hd⟩:=ih ht'
    refine ⟨(ds,cs'),hd,fun j hj=>?_⟩
    rw [hce] at hc
    have:=(World.cells?_some hc).2.2 j hj
    rwa [add_add'] at this
   have get:∀ (i:Nat) (r:List DV),(rows.map (·.1))[i]?=some r->∃ q,rows[i]?=some q/\q.1=r:=fun i r hr=>by
    rw [aC] at hr
    exact aG.1 hr
   have hrowl:∀ r ∈ rows.map (·.1),r.length=es.length:=fun r hr=>by
    obtain ⟨i,hi⟩:=bN hr
    obtain ⟨q,hq,rfl⟩:=get i r hi
    exact (hrow i q hq).1.len
   refine ⟨[.sl (rows.map (·.1))],.one (.sl hrowl (fun r hr j s d hs hd=>?_) (by simp [hrl];omega)) ?_⟩
   ·obtain ⟨i,hi⟩:=bN hr
    obtain ⟨q,hq,rfl⟩:=get i r hi
    exact (hrow i q hq).1.shape j s d hs hd
   ·rcases Nat.eq_zero_or_pos len with rfl|hp
    ·have:rows=[]:=List.length_eq_zero_iff.1 hrl
     subst this
     exact .sl0 hm
    ·have cell:∀ (i:Nat) (r:List DV) (j:Nat) (d:DV),(rows.map (·.1))[i]?=some r->r[j]?=some d->∃ v,w.cell? (a.add (i * es.length+j))=some v/\DRel w (okW w) d v:=fun i r j d hr hd=>by
      obtain ⟨q,hq,rfl⟩:=get i r hr
      obtain ⟨hR,hc⟩:=hrow i q hq
      have hj:j < es.length:=by rw [<- hR.len];exact (am.1 hd).1
      have h1:=hc j hj
      have hj2:j < q.2.length:=by rw [hR.clen];exact hj
      exact ⟨q.2[j],by rw [h1,ak hj2],hR.rel j d _ hd (ak hj2)⟩
     have hblk:a.block < w.heap.size:=by
      have h0:0 < rows.length:=by omega
      obtain ⟨hR,hc⟩:=hrow 0 _ (ak h0)
      have h1:=hc 0 hpos
      have hj2:0 < rows[0].2.length:=by rw [hR.clen];exact hpos
      rw [ak hj2] at h1
      have:=QbH h1
      rwa [block_add] at this
     refine .sl (k:=es.length) (fun i j=>(w.cell? (a.add (i * es.length+j))).getD undef) (by simp [hrl]) hp hl hm hpos (fun i r hr=>hrowl r (af hr)) (fun i r j d hr hd=>?_) (fun i r j d hr hd=>?_) (Qnd hblk)
     ·obtain ⟨v,hv,_⟩:=cell i r j d hr hd
      rw [hv];rfl
     ·obtain ⟨v,hv,hd⟩:=cell i r j d hr hd
      rw [hv];exact hd
 |@struct t fs L ht hct hL _ hoff ih =>
  intro fuel cs x h
  obtain ⟨xs,n,_,_,hcl,hxl,hx⟩:=DataW.trod_struct ht h
  have hlen:cs.length=L.flatten.length:=by rw [hcl,hct]
  obtain ⟨dss,hdl,hds⟩:=ZT (p:=fun i (d:List DV)=>∀ l,L[i]?=some l->DRow w l d ((cs.drop (L.take i).flatten.length).take l.length)) L.length fun i hi=>by
   have hfi:i < fs.size:=by omega
   obtain ⟨h1,h2⟩:=hoff i _ _ (co hfi) (ak hi)
   have h3:=hx i _ (co hfi)
   rw [ak (by omega),h1,h2] at h3
   obtain ⟨ds,hd⟩:=ih i _ _ (co hfi) (ak hi) h3
   refine ⟨ds,fun l hl=>?_⟩
   rw [ak hi] at hl
   cases hl
   exact hd
  have hlens:∀ (i:Nat) (d:List DV) (l:List Sp),dss[i]?=some d->L[i]?=some l->d.length=l.length:=fun i d l hd hl=>(hds i d hd l hl).len
  have htake:∀ i,i<=L.length->(dss.take i).flatten.length=(L.take i).flatten.length:=by
   intro i
   induction i with
   |zero=>intro _;rfl
   |succ i ihi =>
    intro hi
    have h1:i < dss.length:=by omega
    have h2:i < L.length:=by omega
    rw [bQ h1,bQ h2,dO,dO,aA,aA,ihi (by omega)]
    simp only [cE,List.flatten_nil,be]
    rw [hlens i _ _ (ak h1) (ak h2)]
  have hfl:dss.flatten.length=L.flatten.length:=by
   have:=htake L.length (aw _)
   rwa [bF (by omega),bF (aw _)] at this
  refine ⟨dss.flatten,hfl,hlen,fun q s d hs hd=>?_,fun q d v hd hv=>?_⟩
  ·obtain ⟨i,l,h1,h2,h3⟩:=ZX hs
   have hi:=(am.1 h1).1
   have hdi:i < dss.length:=by omega
   have hR:=hds i _ (ak hdi) l h1
   have hj:q - (L.take i).flatten.length < l.length:=(am.1 h3).1
   have h4:=Qa7 (L:=dss) (ak hdi) (j:=q - (L.take i).flatten.length) (by rw [hR.len];exact hj)
   rw [htake i (by omega),show (L.take i).flatten.length+(q - (L.take i).flatten.length)=q by omega,hd] at h4
   exact hR.shape _ s d h3 h4.symm
  ·obtain ⟨i,dl,h1,h2,h3⟩:=ZX hd
   have hi:=(am.1 h1).1
   have hLi:i < L.length:=by omega
   rw [htake i (by omega)] at h2 h3
   have hR:=hds i dl h1 _ (ak hLi)
   have hj:q - (L.take i).flatten.length < L[i].length:=by rw [<- hR.len];exact (am.1 h3).1
   refine hR.rel _ d v h3 ?_
   rw [bc,if_pos hj,bU,show (L.take i).flatten.length+(q - (L.take i).flatten.length)=q by omega]
   exact hv
def Qdz {Z:Type} {e:Z->List DV} {p:List DV->Prop}:∀ {xs:List (List DV)},(∀ r ∈ xs,∃ a,r=e a)->∃ l:List Z,xs=l.map e
 |[],_=>⟨[],rfl⟩
 |r :: xs,h=>by
  obtain ⟨a,rfl⟩:=h r (by simp)
  obtain ⟨l,rfl⟩:=Qdz (p:=p) fun r hr=>h r (aZ _ hr)
  exact ⟨a :: l,rfl⟩
def flB (P:Program):Nat->TypeId->Option (List Sp)
 |0,_=>none
 |n+1,t=>match P.underlying t with
  |some (.int k)=>some [.int k]
  |some .bool=>some [.bool]
  |some (.slice e)=>match flB P n e with
   |some es=>if P.cellsOf e=es.length/\0 < es.length then some [.sl es] else none
   |none=>none
  |some (.struct fs)=>match fs.toList.mapM fun f=>flB P n f.type with
   |some L=>if P.cellsOf t=L.flatten.length/\(List.range fs.size).all (fun i=>match fs[i]?,L[i]? with|some f,some l=>f.offset == (L.take i).flatten.length && P.cellsOf f.type == l.length|_,_=>false)=true then some L.flatten else none
   |none=>none
  |_=>none
def WI:∀ {n:Nat} {t:TypeId} {sps:List Sp},flB P n t=some sps->Fl P t sps
 |0,t,sps,h=>by simp [flB] at h
 |n+1,t,sps,h=>by
  unfold flB at h
  split at h
  ·rename_i k hu;cases h;exact .int hu
  ·rename_i hu;cases h;exact .bool hu
  ·rename_i e hu
   split at h
   ·rename_i es he
    split at h
    ·rename_i hc;cases h;exact .sl hu hc.1 hc.2 (WI he)
    ·cases h
   ·cases h
  ·rename_i fs hu
   split at h
   ·rename_i L hL
    split at h
    ·rename_i hc
     cases h
     have hlen:L.length=fs.size:=by simpa using mapM_some_length hL
     refine .struct hu hc.1 hlen (fun i f l hf hl=>?_) fun i f l hf hl=>?_
     ·have:=mapM_some_get hL i f (by simpa using hf)
      rw [hl] at this
      exact WI this
     ·have h1:=bB.1 hc.2 i (aY.2 (aV.1 hf).1)
      rw [hf,hl] at h1
      simpa using h1
    ·cases h
   ·cases h
  ·cases h
def toAV:DV->AV
 |.v x=>.v x
 |.sl xs=>.sl xs
def UV {w:World} {d:DV} {v:Value} {ρ:Nat->Value} {y:Value} (h:DRel w (okW w) d v):ARel w (okW w) ρ y (toAV d) v:=by
 cases h with
 |v h=>exact .v h
 |sl0 h=>exact .sl (.sl0 h)
 |sl f h1 h2 h3 h4 h5 h6 h7 h8 h9=>exact .sl (.sl f h1 h2 h3 h4 h5 h6 h7 h8 h9)
def DRow.agg {w:World} {sps:List Sp} {ds:List DV} {cs:Array Value} {ρ:Nat->Value} {y:Value} (h:DRow w sps ds cs.toList):ARel w (okW w) ρ y (.agg (ds.map toAV)) (.agg cs):=by
 refine .agg (by have:=h.len;have:=h.clen;simp at this ⊢;omega) fun i c hc=>?_
 rw [aC] at hc
 obtain ⟨d,hd,rfl⟩:=aG.1 hc
 have hi:=(am.1 hd).1
 have h2:i < cs.size:=by have:=h.len;have:=h.clen;simp at this;omega
 have:=h.rel i d cs[i] hd (by simp [h2])
 simpa [h2] using UV this
def DRow.one_inv {w:World} {s:Sp} {ds:List DV} {v:Value} (h:DRow w [s] ds [v]):∃ d,ds=[d]/\D1 s d/\DRel w (okW w) d v:=by
 obtain ⟨d,rfl⟩:=List.length_eq_one_iff.1 h.len
 exact ⟨d,rfl,h.shape 0 s d rfl rfl,h.rel 0 d v rfl rfl⟩
def D1.int_inv {k:IntKind} {d:DV} (h:D1 (.int k) d):∃ n,d=.v (.int k n)/\(Lit.int k n).wf=true:=by
 cases h with
 |int h=>exact ⟨_,rfl,h⟩
def D1.bool_inv {d:DV} (h:D1 .bool d):∃ b,d=.v (.bool b):=by
 cases h with
 |bool=>exact ⟨_,rfl⟩
def D1.sl_inv {Z:Type} {es:List Sp} {d:DV} (e:Z->List DV) (h:D1 (.sl es) d) (he:∀ r:List DV,r.length=es.length->(∀ (j:Nat) (s:Sp) (d:DV),es[j]?=some s->r[j]?=some d->D1 s d)->∃ a,r=e a):∃ l:List Z,d=.sl (l.map e)/\l.length<=maxLen:=by
 cases h with
 |@sl _ xs h1 h2 h3 =>
  obtain ⟨l,rfl⟩:=Qdz (p:=fun _=>True) (e:=e) (xs:=xs) fun r hr=>he r (h1 r hr) (h2 r hr)
  exact ⟨l,rfl,by simpa using h3⟩
end Go.Sym
