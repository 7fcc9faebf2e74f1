/- Walks and what they compute, joined: part 3. -/
import Derived.ControlIn
import Derived.CallsIn
import Derived.OrdersIn
import Derived.RangeFuncRecord
import Derived.Maps.AppendAt
import Derived.OwnWalk
import Derived.Below
import Derived.Laws.StructEq
import Derived.Laws.Cells
import Derived.Laws.CopyRow
import Derived.Laws.Slices
import Derived.Laws.MakeOwn
import Derived.RangeFuncLeaves
import Derived.Maps.Keyed
import Derived.Laws.Strings
import Derived.Laws.BytesString
import Derived.RecoverIn
import Derived.WalkSmall
import Derived.Laws.IdiomRangeMap
import Derived.Scope
import Derived.ChangeSlices
import Derived.WideShapes
import Derived.DataReads
import Derived.Test.YtcmfagpdahhfpaaGreatDoorWS2
set_option linter.all false
set_option maxHeartbeats 40000000
namespace Go.Sym
open Go
variable {A : Frm -> Prop} {P : Program}
def Bcc (P:Program) (hp h0:Nat->Option AObj) (ys:Nat->List AV) (hl:Nat->Nat->Option AObj) (ans:Nat->Bool) (R:Nat) (c:Ctx):Prop :=
 ∀ j,j < R->∀ (Pr:Nat->Prop) (own:Own) (w:World) (ρ:Nat->Value) (vs:Array Value),Hp (Jc c.J j Pr w) c.y (hl j) 0 own w ρ->(∀ i o,hp i=some o->ρ i=c.ρ i) ->
  Ext (fun b=>c.own.prv b\/∃ i o,h0 i=some o/\blk (c.ρ i)=some b) c.w w ->
  (∀ i o b,hl j i=some o->blk (ρ i)=some b->c.w.heap.size<=b\/∃ k o',h0 k=some o'/\blk (c.ρ k)=some b) ->
  (∀ b,own.prv b->c.own.prv b\/c.w.heap.size<=b\/∃ k o',h0 k=some o'/\blk (c.ρ k)=some b) ->
  vs.size=(ys j).length->(∀ i a,(ys j)[i]?=some a->ARel w (okB w own ρ (hl j)) ρ c.y a (vs.getD i undef)) ->
  JU P c.y vs w fun e w'=>e=.returned (.bool (ans j))/\∃ own',Hp (Jc c.J j Pr w) c.y (hl j) 1 own' w' ρ/\Ext (fun b=>own.prv b\/∃ i o,hl j i=some o/\blk (ρ i)=some b) w w'/\∀ b,own'.prv b->own.prv b\/w.heap.size<=b
abbrev Bcb (P:Program) (h0:Nat->Option AObj):=Bcc P h0 h0
structure Rounds (ans:Nat->Bool) (R N:Nat):Prop where
 le:R<=N
 yes:∀ j,j+1 < R->ans j=true
 stop:R < N->0 < R/\ans (R - 1)=false
def Rounds.lt {ans:Nat->Bool} {R N k:Nat} (h:Rounds ans R N) (hk:k < N) (hy:∀ j,j < k->ans j=true):k < R:=by
 refine Classical.byContradiction fun hn=>?_
 have h1:R < N:=by omega
 obtain ⟨h2,h3⟩:=h.stop h1;have:=hy (R - 1) (by omega)
 rw [h3] at this;cases this
def Rounds.last {ans:Nat->Bool} {R N k:Nat} (h:Rounds ans R N) (hk:k < R) (hn:ans k=false):k+1=R:=by
 refine Classical.byContradiction fun he=>?_
 have:=h.yes k (by omega)
 rw [hn] at this;cases this
def Rounds.all {ans:Nat->Bool} {R N k:Nat} (h:Rounds ans R N) (hk:N<=k) (hy:∀ j,j < k->ans j=true):R=N:=by
 refine Classical.byContradiction fun he=>?_
 have h1:R < N:=by have:=h.le;omega
 obtain ⟨h2,h3⟩:=h.stop h1;have:=hy (R - 1) (by omega)
 rw [h3] at this;cases this
def Acb (P:Program) (hp h0:Nat->Option AObj) (ys:Nat->List AV) (hl:Nat->Nat->Option AObj) (ans:Nat->Bool) (R:Nat) (F:Frm):Prop:=F.H0=h0/\(∀ i o,hp i=some o->∃ o',h0 i=some o')/\Bcc P hp h0 ys hl ans R ⟨F.y,F.J,F.own0,F.w0,F.ρ0⟩
def Jc.shift {J:JJ} {j k:Nat} {Pr:Nat->Prop} {w0:World} {own:Own} {w:World} (h:Jc J j Pr w0 k own w):Jc J (j+k) Pr w0 0 own w:=by
 obtain ⟨own',h1,h2,h3,h4⟩:=h;exact ⟨own',by rw [bC];exact h1,h2,h3,h4⟩
mutual
def AV.nocb:AV->Prop
 |.v _=>True
 |.nil=>True
 |.emp=>True
 |.sl _=>True
 |.agg cs=>AV.nocbL cs
 |.tup cs=>AV.nocbL cs
 |.ep _ _=>True
 |.ptr _ _=>True
 |.row _=>True
 |.rp _ _ _ _=>True
 |.csl _ _=>True
 |.psl _ _ _ _=>True
 |.rsl _ _ _ _=>True
 |.mp _=>True
 |.clo _ cs=>AV.nocbL cs
 |.cb=>False
 |.junk=>True
 |.any=>True
 |.bnd _ cs=>AV.nocbL cs
def AV.nocbL:List AV->Prop
 |[]=>True
 |c :: cs=>c.nocb/\AV.nocbL cs
end
def AObj.nocb:AObj->Prop
 |.cells cs=>AV.nocbL cs
 |.row _ _ _=>True
 |.map _=>True
 |.mark=>True
 |.rows _ cs=>AV.nocbL cs
 |.it _ _ _=>True
 |.fm es=>AV.nocbL (es.map (·.2))
def QaY (h:Nat->Option AObj) (ρ:Nat->Value) (b:Nat):Prop:=∃ i o,h i=some o/\blk (ρ i)=some b
structure RH (F:Frm) (ws:World) (ρs:Nat->Value) (oks:Nat->Prop) (keep:Nat->Prop) (l:Nat) (rc:Loop) (h:Nat->Option AObj) (j:Nat) (ownr:Own) (w:World) (ρk:Nat->Value) (ownk:Own) (fz:Nat->Prop):Prop where
 jay:F.J j ownk w
 prv:∀ b,ownr.prv b ↔ ownk.prv b\/QaY h ρk b\/b=l
 all:∀ b,ownr.all b ↔ ownk.all b\/QaY h ρk b\/b=l\/fz b
 fzok:∀ b,fz b->b < w.heap.size/\¬ ownk.prv b/\¬ QaY h ρk b/\b ≠ l
 obj:∀ i o,h i=some o->ORel w fz ρk F.y o (ρk i)
 inj:∀ i k o o' b,h i=some o->h k=some o'->blk (ρk i)=some b->blk (ρk k)=some b->i=k
 off:∀ i o b,h i=some o->blk (ρk i)=some b->¬ ownk.all b/\b ≠ l
 lown:¬ ownk.all l
 rcd:w.heap[l]?=some (.loop rc)
 oks:∀ b,oks b->fz b/\w.heap[b]?=ws.heap[b]?
 keep:∀ id,keep id->ρk id=ρs id
 prov:∀ i o b,h i=some o->blk (ρk i)=some b->F.w0.heap.size<=b\/F.owns0 b
 psub:∀ b,ownk.prv b->F.own0.prv b\/F.w0.heap.size<=b
 still:j=0->ownk=F.own0
 big:F.w0.heap.size<=w.heap.size
def RJ (F:Frm) (ws:World) (ρs:Nat->Value) (oks:Nat->Prop) (keep:Nat->Prop) (l:Nat) (rc:Nat->Loop) (hc:Nat->Nat->Option AObj) (jj:Nat->Nat):JJ :=
 fun k ownr w=>∃ ρk ownk fz,RH F ws ρs oks keep l (rc k) (hc k) (jj k) ownr w ρk ownk fz
def RJ.stable (F:Frm) (ws:World) (ρs:Nat->Value) (oks:Nat->Prop) (keep:Nat->Prop) (l:Nat) (rc:Nat->Loop) (hc:Nat->Nat->Option AObj) (jj:Nat->Nat):(RJ F ws ρs oks keep l rc hc jj).Stable:=by
 rintro k ownr w ⟨ρk,ownk,fz,H⟩;have hll:l < w.heap.size:=(aT.1 H.rcd).1
 have hall:∀ b,ownr.all b->b < w.heap.size:=fun b hb=>by
  rcases (H.all b).1 hb with h|⟨i,o,hi,hbi⟩|rfl|h
  ·exact (F.stable _ _ _ H.jay).1 b h
  ·exact (H.obj i o hi).lt hbi
  ·exact hll
  ·exact (H.fzok b h).1
 refine ⟨hall,fun w' hx=>?_⟩
 have same:∀ b,ownr.all b->w'.heap[b]?=w.heap[b]?:=fun b hb=>hx.block b (hall b hb) fun hn=>hn hb
 have hfz:∀ b,fz b->fz b/\w'.heap[b]?=w.heap[b]?:=fun b hb=>⟨hb,same b ((H.all b).2 (.inr (.inr (.inr hb))))⟩
 refine ⟨ρk,ownk,fz,(F.stable _ _ _ H.jay).2 w' (hx.weaken fun b _ hn ho=>hn ((H.all b).2 (.inl ho))),H.prv,H.all,fun b hb=>⟨aN (H.fzok b hb).1 hx.size,(H.fzok b hb).2⟩,fun i o hi=>?_,H.inj,H.off,H.lown, ?_,fun b hb=>⟨(H.oks b hb).1, ?_⟩,H.keep,H.prov,H.psub,H.still,bj H.big hx.size⟩
 ·exact (H.obj i o hi).mono hfz (fun b hb=>same b ((H.all b).2 (.inr (.inl ⟨i,o,hi,hb⟩)))) fun _ _=>rfl
 ·rw [same l ((H.all l).2 (.inr (.inr (.inl rfl))))];exact H.rcd
 ·rw [(hfz b (H.oks b hb).1).2];exact (H.oks b hb).2
structure RStat (F:Frm) (T:Nat->AV) (ps hs:List Nat) (n nl:Nat) (ys:List AV) (own:List (Nat × AObj)) (lent:Nat->Option AObj) (keep:Nat->Prop):Prop where
 hsn:∀ c ∈ hs,c < n
 tmp:∀ t,∀ id ∈ (T t).ids,id < n/\keep id
 own:∀ i o,qf own i=some o->i < n/\∀ id ∈ o.ids,id < n
 lent:∀ m o,lent m=some o->m < hs.length+nl/\o.nocb/\∀ id ∈ o.ids,id < hs.length+nl
 args:∀ c ∈ ys,c.nocb/\∀ id ∈ c.ids,id < hs.length+nl
 plen:ps.length=ys.length
 psn:∀ p ∈ ps,p < F.nt
structure RFin (S:St) (hs:List Nat) (n:Nat) (own:List (Nat × AObj)) (lent:Nat->Option AObj) (keep:Nat->Prop) (Z:Nat->Option Nat) (hf:Nat->Option AObj):Prop where
 fown:∀ i o1,qf own i=some o1->(∃ c o,Z i=some c/\S.h c=some o/\AObj.le hf Z o o1)\/(Z i=none/\VV o1)
 flent:∀ m o0,lent m=some o0->∃ ob,S.h (zb hs n m)=some ob/\AObj.le hf (fun j=>some (zb hs n j)) ob o0
 inj:∀ i o k o' c,qf own i=some o->qf own k=some o'->Z i=some c->Z k=some c->i=k
 apart:∀ i o m o0,qf own i=some o->lent m=some o0->Z i ≠ some (zb hs n m)
 frz:∀ i o,hf i=some o->S.h i=some o/\(∀ j o1,qf own j=some o1->Z j ≠ some i)/\∀ m o0,lent m=some o0->zb hs n m ≠ i
 fkeep:∀ id,keep id->Z id=some id
def Qkn (T:Nat->AV) (hs:List Nat) (n m:Nat) (d:List ADf) (id:Nat):Prop:=id < m\/id ∈ hs\/(∃ t,id ∈ (T t).ids)\/id ∈ (ADf.mark n :: d).flatMap ADf.ids
def nth (L:List AObj) (i:Nat):Option AObj:=L[i]?
def jJ (cb:Entry) (L:List (FuncId × Entry)):Ctr:=fun S f bs=>match f with
 |some f=>Qdn S f bs L
 |none=>cb S bs
def QdX {t e:TypeId} (ht:P.underlying t=some (.slice e)) (a:Option Addr) (n c:Nat) (w:World):(Op.equal t (.slice a n c) (.slice none 0 0)).run P w=.ok a.isNone w:=by
 have key:∀ d,(Op.equalIn (d+1) t (.slice a n c) (.slice none 0 0)).run P w=.ok a.isNone w:=fun d=>by
  cases a <;> simp [Op.equalIn,run_underlying ht]
 exact key 9999
def Qj1 {ops:Array Oper} {o:Oper} {F:Frm} {S:St} {a:Act} {w:World} (hg:Gam F S a w) {d t c:Nat} {x:Operand} {e:TypeId} (hd:o.dst=some d) (hgd:o.guard=none) (ho:o.op=.binOp .eql t x (.const (.slice none 0 0)) c) (hdn:d < F.nt) {xs:List (List DV)} (hx:ev S x=.sl xs)
  (ht:P.underlying t=some (.slice e)) {K:Act->World->Prop} {Q:Exit->Act->World->Prop} (hK:∀ b,(b=true->xs=[])->∀ a',Gam F (S.app (some d) { av:=.v (.bool b),n:=S.n }) a' w->K a' w):o.wpIn (W F.r) 0 P a w K Q:=by
 obtain ⟨ρ,own,H⟩:=hg;have h1:=qm H x
 rw [hx] at h1;generalize hv:a.eval x=v at h1
 cases h1 with
 |sl hdr =>
  have hshape:∃ A n c,v=.slice A n c/\(A.isNone=true->xs=[]):=by
   cases hdr with
   |sl0 hc=>exact ⟨_,_,_,rfl,fun _=>rfl⟩
   |sl f h1 h2=>exact ⟨_,_,_,rfl,fun h=>by simp at h⟩
  obtain ⟨A0,n0,c0,rfl,hnil⟩:=hshape;have hcv:a.eval (.const (.slice none 0 0))=.slice none 0 0:=rfl
  refine wP (w':=w) (v:=.bool A0.isNone) (by simp [ho]) ?_ ?_
  ·have hgu:(eqGuard .eql t x (.const (.slice none 0 0)) (.slice A0 n0 c0) (.slice none 0 0)).run P w=.ok () w:=by simp [eqGuard]
   simp [execOp,ho,hv,hcv,hgu,binOp,QdX ht]
  ·rw [hd]
   refine hK _ hnil _ ⟨ρ,own, ?_⟩
   have:=H.app (dst:=some d) (e:={ av:=.v (.bool A0.isNone),n:=S.n }) (v':=.bool A0.isNone) (w':=w) (ρ':=ρ) (own':=own) (ds:=[]) (fun q hq=>by cases hq;exact hdn) H.jay (Ext.refl _ _) (.inl rfl) (by simp) (fun _ _=>rfl) (by simp) (.v rfl)
    (by simp [Eff.keys]) (by simp [Eff.keys]) (by simp [Eff.ids,AV.ids,zM]) .nil
   simpa [Act.put] using this
def QiN {o:Oper} {F:Frm} {S:St} {a:Act} {w:World} (hg:Gam F S a w) {d:Nat} {x:Operand} (hd:o.dst=some d) (ho:o.op=.move x) (hdn:d < F.nt) {K:Act->World->Prop} {Q:Exit->Act->World->Prop}
  (hK:∀ a',Gam F (S.app (some d) { av:=ev S x,n:=S.n }) a' w->K a' w):o.wpIn (W F.r) 0 P a w K Q:=by
 have hwf:=hg.wf;obtain ⟨ρ,own,H⟩:=hg
 refine wP (w':=w) (v:=a.eval x) (by simp [ho]) (by simp [execOp,ho]) ?_
 rw [hd];refine hK _ ⟨ρ,own, ?_⟩
 have:=H.app (dst:=some d) (e:={ av:=ev S x,n:=S.n }) (v':=a.eval x) (w':=w) (ρ':=ρ) (own':=own) (ds:=[]) (fun q hq=>by cases hq;exact hdn) H.jay (Ext.refl _ _) (.inl rfl) (by simp) (fun _ _=>rfl) (by simp) (qm H x)
  (by simp [Eff.keys]) (by simp [Eff.keys]) (fun id hid=>by
   have:=jO hwf x id (by simpa [Eff.ids,zM] using hid)
   exact aN this (cK _ _)) .nil
 simpa [Act.put] using this
def YM {id d1 d2 t c:Nat} {o1 o2:Oper} {x:Operand} {S:St} {K:Exit->St->Prop} {e:TypeId} {xs:List (List DV)} (hd1:o1.dst=some d1) (hg1:o1.guard=none) (ho1:o1.op=.move x) (hd2:o2.dst=some d2) (hg2:o2.guard=none) (ho2:o2.op=.binOp .eql t (.tmp d1) (.const (.slice none 0 0)) c)
  (ht:P.underlying t=some (.slice e)) (hx:ev S x=.sl xs) (h:∀ b,(b=true->xs=[])->K .normal ((S.app (some d1) { av:=.sl xs,n:=S.n }).app (some d2) { av:=.v (.bool b),n:=(S.app (some d1) { av:=.sl xs,n:=S.n }).n })):Sym A P (.region id #[o1,o2] false) S K:=by
 intro F hF hd a w hg;simp only [kI,List.all_cons,List.all_nil,Bool.and_true,aZ,LQ,hd1,hd2,decide_eq_true_eq] at hd
 refine wpIn_region ?_
 show wpOpsIn (W F.r) 0 P #[o1,o2] _ [0,1] a w
 have w1:∀ y,Region.wanted o1 y=true:=fun y=>by simp [Region.wanted,hg1]
 have w2:∀ y,Region.wanted o2 y=true:=fun y=>by simp [Region.wanted,hg2]
 simp only [wpOpsIn,cu,aK,bt,w1,w2,if_true];refine QiN hg hd1 ho1 hd.1 fun a' hg'=>?_
 rw [hx] at hg';refine Qj1 (ops:=#[]) hg' hd2 hg2 ho2 hd.2 (x:=.tmp d1) (xs:=xs) (by simp [ev,St.app,put,upd_same]) ht fun b hb a'' hg''=>?_
 exact ⟨_,h b hb,hg''⟩
end Go.Sym
namespace Go.Sym
open Go
def Fin.ok {S:St} {rv v:AV} {n0:Nat} {H:List (Nat × AObj)} {dj:Nat} (Z:Nat->Option Nat) (fz:List Nat) (hv:AV.le (fun i=>if i ∈ fz then S.h i else none) Z rv v) (hh:leH S (fun i=>if i ∈ fz then S.h i else none) Z H)
  (hi:(JW Z H).Nodup) (hz:∀ i ∈ fz,i ∉ JW Z H) (hp:∀ i,i < n0->Z i=some i) (hj:S.j=dj):Fin S rv v n0 (qf H) dj:=by
 refine ⟨Z,_,hv,fun i o1 h=>Y3 hh _ (qB h),fun i o k o' c h h' e e'=>?_,fun i o h=>?_,hp,hj⟩
 ·rcases JN hi _ (qB h) _ (qB h') c e e' with h|h|h
  ·exact congrArg (·.1) h
  ·exact h
  ·exact h.elim
 ·by_cases hm:i ∈ fz
  ·rw [if_pos hm] at h
   exact ⟨h,fun j o1 hj hs=>hz i hm (ca.2 ⟨_,qB hj,hs⟩)⟩
  ·rw [if_neg hm] at h;cases h
variable {A : Frm -> Prop} {P : Program}
def yn:Nat->List AObj->List (Nat × AObj)
 |_,[]=>[]
 |k,o :: os=>(k,o) :: yn (k+1) os
def jc:Nat->List (Option AObj)->List (Nat × AObj)
 |_,[]=>[]
 |k,some o :: os=>(k,o) :: jc (k+1) os
 |k,none :: os=>jc (k+1) os
def QJ:∀ (L:List AObj) (k i:Nat),qf (yn k L) i=if i < k then none else L[i - k]?
 |[],k,i=>by simp [yn,qf]
 |o :: os,k,i=>by
  simp only [yn,qf]
  by_cases h:i=k
  ·subst h;simp
  ·rw [if_neg h,QJ os (k+1) i]
   by_cases h1:i < k
   ·rw [if_pos h1,if_pos (by omega)]
   ·rw [if_neg h1,if_neg (by omega),show i - k=(i - (k+1))+1 by omega,bt]
def QW:∀ (L:List (Option AObj)) (k i:Nat),qf (jc k L) i=if i < k then none else (L[i - k]?).join
 |[],k,i=>by simp [jc,qf]
 |o :: os,k,i=>by
  have key:qf (jc k (o :: os)) i=if i=k then o else qf (jc (k+1) os) i:=by
   cases o with
   |none =>
    simp only [jc]
    by_cases h:i=k
    ·subst h;rw [if_pos rfl,QW os,if_pos (by omega)]
    ·rw [if_neg h]
   |some o=>simp only [jc,qf]
  rw [key]
  by_cases h:i=k
  ·subst h;simp
  ·rw [if_neg h,QW os (k+1) i]
   by_cases h1:i < k
   ·rw [if_pos h1,if_pos (by omega)]
   ·rw [if_neg h1,if_neg (by omega),show i - k=(i - (k+1))+1 by omega,bt]
structure Pk where
 pre:Prop:=True
 hs:List Nat:=[]
 bo:List Nat:=[]
 ar:List AV
 L0:List AObj:=[]
 v:AV
 L1:List (Option AObj):=[]
 fl:Bool:=false
def Kt (S:St) (hf:Nat->Option AObj) (hs:List Nat):List Nat->List AObj->Prop
 |c :: cs,o :: os=>(match S.h c with|some ob=>AObj.le hf (fun j=>hs[j]?) ob o|none=>False)/\Kt S hf hs cs os
 |[],[]=>True
 |_,_=>False
def Yb {S:St} {hf:Nat->Option AObj} {hs:List Nat}:∀ {cs:List Nat} {os:List AObj},Kt S hf hs cs os->cs.length=os.length/\∀ (i:Nat) (o:AObj),os[i]?=some o->∃ c ob,cs[i]?=some c/\S.h c=some ob/\AObj.le hf (fun j=>hs[j]?) ob o
 |[],[],_=>by simp
 |c :: cs,o :: os,h=>by
  obtain ⟨h1,h2⟩:=h;obtain ⟨g1,g2⟩:=Yb h2
  refine ⟨by simp [g1],fun i o' ho=>?_⟩
  cases i with
  |zero =>
   simp only [aK,ak] at ho;subst ho
   split at h1
   ·rename_i ob hob;exact ⟨c,ob,rfl,hob,h1⟩
   ·exact h1.elim
  |succ i=>simpa using g2 i o' (by simpa using ho)
 |[],_ :: _,h=>h.elim
 |_ :: _,[],h=>h.elim
def Qb7 (n:Nat):List (Option AObj)->Prop
 |[]=>True
 |some o :: r=>(∀ id ∈ o.ids,id < n)/\Qb7 n r
 |none :: r=>Qb7 n r
def JD {n:Nat}:∀ {L:List (Option AObj)},Qb7 n L->∀ (i:Nat) (o:AObj),L[i]?=some (some o)->∀ id ∈ o.ids,id < n
 |some o :: r,h,0,o',ho=>by simp only [aK,ak] at ho;subst ho;exact h.1
 |none :: r,h,0,o',ho=>by simp at ho
 |some o :: r,h,i+1,o',ho=>JD h.2 i o' (by simpa using ho)
 |none :: r,h,i+1,o',ho=>JD (L:=r) h i o' (by simpa using ho)
def Xd:List (Option AObj)->Prop
 |[]=>True
 |some o :: r=>o.flat/\Xd r
 |none :: r=>Xd r
def Wu:∀ {L:List (Option AObj)},Xd L->∀ (i:Nat) (o:AObj),L[i]?=some (some o)->o.flat
 |some o :: r,h,0,o',ho=>by simp only [aK,ak] at ho;subst ho;exact h.1
 |none :: r,h,0,o',ho=>by simp at ho
 |some o :: r,h,i+1,o',ho=>Wu h.2 i o' (by simpa using ho)
 |none :: r,h,i+1,o',ho=>Wu (L:=r) h i o' (by simpa using ho)
def QgK (S:St) (hs:List Nat):List Nat->Prop
 |[]=>True
 |c :: cs=>((S.h c).isSome=true/\c ∉ hs)/\QgK S hs cs
def ZB {S:St} {hs:List Nat}:∀ {bo:List Nat},QgK S hs bo->∀ i ∈ bo,(∃ ob,S.h i=some ob)/\i ∉ hs
 |c :: cs,h,i,hi=>by
  rcases ae.1 hi with rfl|hi
  ·exact ⟨cB.1 h.1.1,h.1.2⟩
  ·exact ZB h.2 i hi
def hwL (τ:Nat->Nat):Nat->List (Option AObj)->List (Nat × Option AObj)
 |_,[]=>[]
 |j,o :: os=>(τ j,o.map (AObj.ren τ)) :: hwL τ (j+1) os
def QgY (τ:Nat->Nat):∀ (L:List (Option AObj)) (k:Nat),hwL τ k L=(List.range L.length).map fun j=>(τ (k+j),((L[j]?).join).map (AObj.ren τ))
 |[],k=>rfl
 |o :: os,k=>by
  rw [hwL,QgY τ os (k+1),bl,List.range_succ_eq_map,aw,bO]
  congr 1
  refine bP fun j _=>?_
  simp only [Function.comp_apply,bt,Nat.succ_eq_add_one];rw [show k+1+j=k+(j+1) by omega]
def KA:Nat->Nat->List Nat
 |_,0=>[]
 |n,k+1=>n :: KA (n+1) k
def LW:∀ (k n:Nat),KA n k=(List.range k).map (n+·)
 |0,n=>rfl
 |k+1,n=>by
  rw [KA,LW k,List.range_succ_eq_map,aw,bO]
  congr 1
  refine bP fun j _=>?_
  simp only [Function.comp_apply,Nat.succ_eq_add_one];omega
def Pk.hf (q:Pk) (S:St):Nat->Option AObj:=fun i=>if i ∈ q.bo then S.h i else none
def Pk.ok (q:Pk) (S:St) (bs:List AV):Prop :=
 q.pre/\AV.leL (q.hf S) (fun j=>q.hs[j]?) bs q.ar/\Kt S (q.hf S) q.hs q.hs q.L0/\q.hs.Nodup/\QgK S q.hs q.bo/\q.hs.length<=q.L1.length/\(∀ id ∈ q.v.ids,id < q.L1.length)/\Qb7 q.L1.length q.L1/\(q.fl=true->q.v.flat/\Xd q.L1)
def Pk.eff (q:Pk) (S:St):Eff :=
 {av:=q.v.ren (zb q.hs S.n),hw:=hwL (zb q.hs S.n) 0 q.L1++qV (bif q.fl then [] else q.bo),hr:=q.hs++q.bo,news:=KA S.n (q.L1.length - q.hs.length),n:=S.n+(q.L1.length - q.hs.length) }
def fnE (spec:St->List AV->Option Pk) (S:St) (bs:List AV):Ans:=match spec S bs with
 |none=>bad
 |some q=>(q.ok S bs,q.eff S)
def Pk.eff_eq (q:Pk) (S:St) (hl:q.hs.length<=q.L1.length):q.eff S=qZ S q.hs q.bo (bif q.fl then [] else q.bo) q.v (qf (jc 0 q.L1)) (q.L1.length - q.hs.length) 0:=by
 simp only [Pk.eff,qZ,QgY,LW,QW,cR,if_false,bw,bE];rw [show q.hs.length+(q.L1.length - q.hs.length)=q.L1.length by omega]
def Kq {B:Ctx->Prop} (hB:∀ F S hs bo ρ own w,A F->B (xZ F S hs bo ρ own w)) {f:FuncId} {spec:St->List AV->Option Pk} (hf:∀ S bs q,spec S bs=some q->q.pre->Fn B P f q.ar (qf (yn 0 q.L0)) q.v (qf (jc 0 q.L1)) 0)
  {S:St} {bs:List AV} (h:(fnE spec S bs).1) (hS:Wf S) {ops:Array Oper} {o:Oper} {g:Operand} {args:Array Operand} {tys:Array TypeId} {caps:List AV} (hw:Want ops o S)
  (ho:o.op=.call { callee:=.value g,args:=args,argTypes:=tys }) (hg:jE (ev S g)=some (some f,caps)) (hb:Zu (ev S g)++(args.toList.map (ev S)++caps)=bs):VE A P ops o (fnE spec S bs).2 S:=by
 unfold fnE at h ⊢;cases hq:spec S bs with
 |none=>rw [hq] at h;exact h.elim
 |some q =>
  rw [hq] at h;simp only at h ⊢
  obtain ⟨h1,h2,h3,h4,h5,h6,h7,h8,h9⟩:=h;rw [q.eff_eq S h6]
  have hgc:=Zj hg;obtain ⟨g1,g2⟩:=Yb h3
  have hlen:q.hs.length+(q.L1.length - q.hs.length)=q.L1.length:=by omega
  have get1:∀ i o,qf (jc 0 q.L1) i=some o->q.L1[i]?=some (some o):=fun i o hi=>by
   rw [QW,if_neg (by omega),bw] at hi
   cases hh:q.L1[i]? with
   |none=>rw [hh] at hi;cases hi
   |some x=>rw [hh] at hi;simp only [Option.join_some] at hi;rw [hi]
  refine QcC hS hw ho hgc (hf S bs q hq h1) (fun h=>absurd rfl h) (fun F S2 _ w ρ own h _ _ _=>hB F S2 _ _ ρ own w h) (hf:=q.hf S) (by rw [hb];exact h2) (fun i o0 hi=>?_) (fun j hj=>?_) h4 (fun i ob hi=>?_) (ZB h5) ?_ (by rw [hlen];exact h7) (fun i ob hi=>?_)
  ·rw [QJ,if_neg (by omega),bw] at hi
   exact g2 i o0 hi
  ·rw [QJ,if_neg (by omega),bw]
   exact ⟨_,al (by omega)⟩
  ·unfold Pk.hf at hi
   by_cases hm:i ∈ q.bo
   ·rw [if_pos hm] at hi;exact ⟨hi,(ZB h5 i hm).2,hm⟩
   ·rw [if_neg hm] at hi;cases hi
  ·cases hfl:q.fl with
   |false=>exact .inl rfl
   |true =>
    obtain ⟨e1,e2⟩:=h9 hfl;exact .inr ⟨rfl,e1,fun i ob hi=>Wu e2 i ob (get1 i ob hi)⟩
  ·rw [hlen]
   have:=get1 i ob hi;exact ⟨(aq.1 this).1,JD h8 i ob this⟩
def wB {f:FuncId} {spec:St->List AV->Option Pk} (hf:∀ S bs q,spec S bs=some q->q.pre->Fn noB P f q.ar (qf (yn 0 q.L0)) q.v (qf (jc 0 q.L1)) 0):qc A P f (fnE spec) :=
 fun _ _ h hS _ _ _ _ _ _ hw ho hg hb=>Kq (B:=noB) (fun _ _ _ _ _ _ _ _=>trivial) hf h hS hw ho hg hb
def QbW {T:World->Prop} {f:FuncId} {spec:St->List AV->Option Pk} (hf:∀ S bs q,spec S bs=some q->q.pre->Fn (jh T) P f q.ar (qf (yn 0 q.L0)) q.v (qf (jc 0 q.L1)) 0):qc (zQ T) P f (fnE spec) :=
 fun _ _ h hS _ _ _ _ _ _ hw ho hg hb=>Kq (B:=jh T) (fun _ _ _ _ _ _ _ h=>WB h) hf h hS hw ho hg hb
end Go.Sym
namespace Go.Sym
def z1:=@not_false_eq_true
def z2:=@not_true_eq_false
def z3:=@Nat.max_self
def z4:=@Nat.max_def
def z5:=@List.toList_toArray
def z6:=@Bool.not_true
def z7:=@Bool.not_false
def z8:=@beq_self_eq_true
def z9:=@Bool.or_true
def z10:=@Bool.true_or
def z11:=@Bool.or_self
def z12:=@Bool.false_or
def z13:=@Bool.or_false
def z14:=@cu
def z15:=@bt
def z16:=@aK
def z17:=@List.getElem?_nil
def z18:=@Option.bind_some
def z19:=@bc
def z20:=@decide_eq_true_eq
def z21:=@decide_eq_false_iff_not
def z22:=@dM
def z23:=@Bool.not_eq_false'
def z24:=@List.all_cons
def z25:=@List.all_nil
def z26:=@Bool.and_self
def z27:=@Bool.and_true
def z28:=@Bool.true_and
def z29:=@bl
def z30:=@cm
def z31:=@List.drop_succ_cons
def z32:=@List.drop_zero
def z33:=@List.take_succ_cons
def z34:=@List.take_zero
def z35:=@List.take_nil
def z36:=@List.drop_nil
def z37:=@aw
def z38:=@aX
def z39:=@cD
def z40:=@bf
def z41:=@bH
def z42:=@Option.getD_some
def z43:=@bE
def z44:=@bC
def z45:=@cW
def z46:=@aR
def z47:=@Int.natCast_nonneg
def z48:=@ag
def z49:=@Option.isSome_some
def z50:=@cj
def z51:=@ci
def z52:=@ab
def z53:=@aM
def z54:=@ae
def z55:=@aO
def z56:=@cz
def z57:=@List.nodup_nil
def z58:=@false_implies
def z59:=@implies_true
def z60:=@forall_eq_or_imp
def z61:=@forall_const
def z62:=@ak
def z63:=@Int.toNat_zero
def z64:=@cw
def z65:=@Nat.lt_add_one
def z66:=@Nat.zero_lt_succ
def z67:=@af
end Go.Sym
namespace Go.Sym
open Go
def vk0:=ea @kY.eq_1 (ea @kY.eq_2 (ea @QcB.eq_1 (ea @QcB.eq_2 (ea @Qdf.eq_1 (ea @Vb.eq_1 (ea @Vb.eq_2 (ea @opE.eq_1 (ea @opE.eq_2 (ea @opE.eq_3 (ea @opE.eq_4 (ea @opE.eq_5 (ea @opE.eq_6 (ea @opE.eq_7 (ea @opE.eq_8 (ea @opE.eq_9 (ea @opE.eq_10 (ea @opE.eq_11 (ea @opE.eq_12 (ea @opE.eq_13 (ea @opE.eq_14 (ea @opE.eq_15 (ea @opE.eq_16 (ea @opE.eq_17 (ea @opE.eq_18 (ea @opE.eq_19 (ea @opE.eq_20 (ea @UM.eq_1 (ea @UM.eq_2 (ea @rdE.eq_1 (ea @rdE.eq_2 (ea @rdE.eq_3 (ea @rdE.eq_4 (ea @Yn.eq_1 (ea @Yn.eq_2 (ea @Qc6.eq_1 (ea @Qc6.eq_2 (ea @Qc6.eq_3 (ea @Qc6.eq_4 (@Zz.eq_1)))))))))))))))))))))))))))))))))))))))
def vk1:=ea @Zz.eq_2 (ea @Zz.eq_3 (ea @Zz.eq_4 (ea @Zx.eq_1 (ea @Zx.eq_2 (ea @Zx.eq_3 (ea @Zx.eq_4 (ea @Zx.eq_5 (ea @Zx.eq_6 (ea @Zx.eq_7 (ea @QbO.eq_1 (ea @QbO.eq_2 (ea @boxE.eq_1 (ea @Zl.eq_1 (ea @Zl.eq_2 (ea @Zl.eq_3 (ea @Zl.eq_4 (ea @kF.eq_1 (ea @kF.eq_2 (ea @kF.eq_3 (ea @kF.eq_4 (ea @kF.eq_5 (ea @kF.eq_6 (ea @kF.eq_7 (ea @kF.eq_8 (ea @kF.eq_9 (ea @kF.eq_10 (ea @kF.eq_11 (ea @kF.eq_12 (ea @kF.eq_13 (ea @kF.eq_14 (ea @kF.eq_15 (ea @kF.eq_16 (ea @kF.eq_17 (ea @Vx.eq_1 (ea @Vx.eq_2 (ea @Vx.eq_3 (ea @Vx.eq_4 (ea @Qdt.eq_1 (@Qdt.eq_2)))))))))))))))))))))))))))))))))))))))
def vk2:=ea @Qdt.eq_3 (ea @eqE.eq_1 (ea @eqE.eq_2 (ea @eqE.eq_3 (ea @unE.eq_1 (ea @unE.eq_2 (ea @unE.eq_3 (ea @VM.eq_1 (ea @VM.eq_2 (ea @QaE.eq_1 (ea @QaE.eq_2 (ea @Yp.eq_1 (ea @Yp.eq_2 (ea @Yp.eq_3 (ea @Yp.eq_4 (ea @Yp.eq_5 (ea @Yp.eq_6 (ea @Yp.eq_7 (ea @Yp.eq_8 (ea @Yp.eq_9 (ea @xc.eq_1 (ea @xc.eq_2 (ea @xc.eq_3 (ea @xc.eq_4 (ea @xc.eq_5 (ea @dstE.eq_1 (ea @dstE.eq_2 (ea @dstE.eq_3 (ea @dstE.eq_4 (ea @QgV.eq_1 (ea @QgV.eq_2 (ea @Qbp (ea @UB (ea @Xp (ea @Qck.eq_1 (ea @Qck.eq_2 (ea @isSlice.eq_1 (ea @isSlice.eq_2 (ea @minE.eq_1 (@minE.eq_2)))))))))))))))))))))))))))))))))))))))
def vk3:=ea @maxE.eq_1 (ea @maxE.eq_2 (ea @qN.eq_1 (ea @qN.eq_2 (ea @qN.eq_3 (ea @slE.eq_1 (ea @slE.eq_2 (ea @slE.eq_3 (ea @slE.eq_4 (ea @ZY.eq_1 (ea @ZY.eq_2 (ea @ZY.eq_3 (ea @Vy.eq_1 (ea @KS.eq_1 (ea @KS.eq_2 (ea @QfP.eq_1 (ea @QfP.eq_2 (ea @QcW.eq_1 (ea @QcW.eq_2 (ea @XO.eq_1 (ea @XO.eq_2 (ea @isNil.eq_1 (ea @isNil.eq_2 (ea @KJ.eq_def (ea @KJ.eq_2 (ea @yT.eq_1 (ea @yT.eq_2 (ea @yT.eq_3 (ea @yT.eq_4 (ea @QfE.eq_1 (ea @QfE.eq_2 (ea @QfE.eq_3 (ea @yE.eq_1 (ea @yE.eq_2 (ea @K5.eq_1 (ea @K5.eq_2 (ea @dvE.eq_1 (ea @dvE.eq_2 (ea @dvE.eq_3 (ea @dvE.eq_4 (ea @dvE.eq_5 (@dvE.eq_6)))))))))))))))))))))))))))))))))))))))))
def vk4:=ea @vS.eq_1 (ea @vS.eq_2 (ea @bsE.eq_1 (ea @bsE.eq_2 (ea @ZP.eq_1 (ea @jE.eq_1 (ea @jE.eq_2 (ea @jE.eq_3 (ea @za.eq_1 (ea @za.eq_2 (ea @TD.elem.eq_1 (ea @TD.elem.eq_2 (ea @TD.elem.eq_3 (ea @TD.agg.eq_1 (ea @TD.agg.eq_2 (ea @TD.agg.eq_3 (ea @TD.agg.eq_4 (ea @TD.agg.eq_5 (ea @TD.agg.eq_6 (ea @TD.agg.eq_7 (ea @TD.agg.eq_8 (ea @TD.agg.eq_9 (ea @TD.agg.eq_10 (ea @TD.agg.eq_11 (ea @yV.eq_1 (ea @cellsOf.eq_1 (ea @cellsOf.eq_2 (ea @cellsOf.eq_3 (ea @cellsOf.eq_4 (ea @cellsOf.eq_5 (ea @cellsOf.eq_6 (ea @cellsOf.eq_7 (ea @cellsOf.eq_8 (ea @cellsOf.eq_9 (ea @cellsOf.eq_10 (ea @cellsOf.eq_11 (ea @cellsOf.eq_12 (ea @cellsOf.eq_13 (ea @cellsOf.eq_14 (@cellsOf.eq_15)))))))))))))))))))))))))))))))))))))))
def vk5:=ea @cellsOf.eq_16 (ea @jI.eq_1 (ea @jI.eq_2 (ea @jI.eq_3 (ea @jI.eq_4 (ea @jI.eq_5 (ea @jI.eq_6 (ea @jI.eq_7 (ea @jI.eq_8 (ea @jI.eq_9 (ea @jI.eq_10 (ea @jI.eq_11 (ea @jI.eq_12 (ea @jI.eq_13 (ea @jI.eq_14 (ea @jI.eq_15 (ea @jI.eq_16 (ea @dvZ.eq_1 (ea @dvL.eq_1 (ea @dvL.eq_2 (ea @AV.dv.eq_1 (ea @AV.dv.eq_2 (ea @AV.dv.eq_3 (ea @AV.dv.eq_4 (ea @AV.dv.eq_5 (ea @AV.dv.eq_6 (ea @AV.dv.eq_7 (ea @AV.dv.eq_8 (ea @AV.dv.eq_9 (ea @AV.dv.eq_10 (ea @AV.dv.eq_11 (ea @AV.dv.eq_12 (ea @AV.dv.eq_13 (ea @AV.dv.eq_14 (ea @AV.dv.eq_15 (ea @AV.dv.eq_16 (ea @DV.av.eq_1 (ea @DV.av.eq_2 (ea @ev.eq_1 (@ev.eq_2)))))))))))))))))))))))))))))))))))))))
def vk6:=ea @ev.eq_3 (ea @ev.eq_4 (ea @cAV.eq_1 (ea @cAV.eq_2 (ea @vw.eq_1 (ea @vw.eq_2 (ea @vw.eq_3 (ea @vw.eq_4 (ea @vw.eq_5 (ea @vw.eq_6 (ea @vw.eq_7 (ea @vw.eq_8 (ea @vw.eq_9 (ea @vw.eq_10 (ea @vw.eq_11 (ea @vw.eq_12 (ea @vw.eq_13 (ea @vw.eq_14 (ea @vw.eq_15 (ea @vw.eq_16 (ea @vw.eq_17 (ea @vw.eq_18 (ea @WP.eq_1 (ea @WP.eq_2 (ea @ZO.eq_1 (ea @ZO.eq_2 (ea @ZO.eq_3 (ea @St.lit.eq_1 (ea @St.app.eq_1 (ea @put.eq_1 (ea @put.eq_2 (ea @upd_same (ea @upd_ne (ea @ze.eq_1 (ea @ze.eq_2 (ea @Qgk (ea @QgO (ea @Qhl (ea @Ub.eq_1 (@Ub.eq_2)))))))))))))))))))))))))))))))))))))))
def vk7:=ea @wW.eq_1 (ea @WW.eq_1 (ea @jS.eq_1 (ea @zeros.eq_1 (ea @zeros.eq_2 (ea @chunk.eq_1 (ea @chunk.eq_2 (ea @zV.eq_1 (ea @zV.eq_2 (ea @xw.eq_1 (ea @xw.eq_2 (ea @qV.eq_1 (ea @Ws.eq_1 (ea @Ws.eq_2 (ea @Ws.eq_3 (ea @bad.eq_1 (ea @noH.eq_1 (ea @Qep (ea @Qh0 (ea @QeW (ea @fnE.eq_1 (ea @Pk.ok.eq_1 (ea @Pk.eff.eq_1 (ea @Pk.hf.eq_1 (ea @Kt.eq_1 (ea @Kt.eq_2 (ea @Kt.eq_3 (ea @QgK.eq_1 (ea @QgK.eq_2 (ea @Qb7.eq_1 (ea @Qb7.eq_2 (ea @Qb7.eq_3 (ea @Xd.eq_1 (ea @Xd.eq_2 (ea @Xd.eq_3 (ea @hwL.eq_1 (ea @hwL.eq_2 (ea @KA.eq_1 (ea @KA.eq_2 (@zb.eq_1)))))))))))))))))))))))))))))))))))))))
def vk8:=ea @AV.ren.eq_1 (ea @AV.ren.eq_2 (ea @AV.ren.eq_3 (ea @AV.ren.eq_4 (ea @AV.ren.eq_5 (ea @AV.ren.eq_6 (ea @AV.ren.eq_7 (ea @AV.ren.eq_8 (ea @AV.ren.eq_9 (ea @AV.ren.eq_10 (ea @AV.ren.eq_11 (ea @AV.ren.eq_12 (ea @AV.ren.eq_13 (ea @AV.ren.eq_14 (ea @AV.ren.eq_15 (ea @AV.ren.eq_16 (ea @AV.renL.eq_1 (ea @AV.renL.eq_2 (ea @AObj.ren.eq_1 (ea @AObj.ren.eq_2 (ea @AObj.ren.eq_3 (ea @AObj.ren.eq_4 (ea @AV.le.eq_1 (ea @AV.le.eq_2 (ea @AV.le.eq_3 (ea @AV.le.eq_4 (ea @AV.le.eq_5 (ea @AV.le.eq_6 (ea @AV.le.eq_7 (ea @AV.le.eq_8 (ea @AV.le.eq_9 (ea @AV.le.eq_10 (ea @AV.le.eq_11 (ea @AV.le.eq_12 (ea @AV.le.eq_13 (ea @AV.le.eq_14 (ea @AV.le.eq_15 (ea @AV.le.eq_16 (ea @AV.le.eq_17 (@AV.le.eq_18)))))))))))))))))))))))))))))))))))))))
def vk9:=ea @AV.le.eq_19 (ea @AV.le.eq_20 (ea @AV.le.eq_21 (ea @AV.le.eq_22 (ea @AV.leL.eq_1 (ea @AV.leL.eq_2 (ea @AV.leL.eq_3 (ea @AObj.le.eq_1 (ea @AObj.le.eq_2 (ea @AObj.le.eq_3 (ea @AObj.le.eq_4 (ea @AObj.le.eq_5 (ea @AV.ids.eq_1 (ea @AV.ids.eq_2 (ea @AV.ids.eq_3 (ea @AV.ids.eq_4 (ea @AV.ids.eq_5 (ea @AV.ids.eq_6 (ea @AV.ids.eq_7 (ea @AV.ids.eq_8 (ea @AV.ids.eq_9 (ea @AV.ids.eq_10 (ea @AV.ids.eq_11 (ea @AV.ids.eq_12 (ea @AV.ids.eq_13 (ea @AV.ids.eq_14 (ea @AV.ids.eq_15 (ea @AV.ids.eq_16 (ea @AV.idsL.eq_1 (ea @AV.idsL.eq_2 (ea @AObj.ids.eq_1 (ea @AObj.ids.eq_2 (ea @AObj.ids.eq_3 (ea @AObj.ids.eq_4 (ea @AV.flat.eq_1 (ea @AV.flat.eq_2 (ea @AV.flat.eq_3 (ea @AV.flat.eq_4 (ea @AV.flat.eq_5 (@AV.flat.eq_6)))))))))))))))))))))))))))))))))))))))
def vk10:=ea @AV.flat.eq_7 (ea @AV.flat.eq_8 (ea @AV.flat.eq_9 (ea @AV.flat.eq_10 (ea @AV.flat.eq_11 (ea @AV.flat.eq_12 (ea @AV.flat.eq_13 (ea @AV.flat.eq_14 (ea @AV.flat.eq_15 (ea @AV.flat.eq_16 (ea @AV.flatL.eq_1 (ea @AV.flatL.eq_2 (ea @AObj.flat.eq_1 (ea @AObj.flat.eq_2 (ea @AObj.flat.eq_3 (ea @AObj.flat.eq_4 (ea @yn.eq_1 (ea @yn.eq_2 (ea @jc.eq_1 (ea @jc.eq_2 (ea @jc.eq_3 (ea @tab.eq_1 (ea @tab.eq_2 (ea @Qdn.eq_1 (ea @Qdn.eq_2 (ea @zD.eq_1 (ea @AV.view.eq_1 (ea @AV.view.eq_2 (ea @AV.view.eq_3 (ea @AV.view.eq_4 (ea @AV.view.eq_5 (ea @AV.view.eq_6 (ea @AV.view.eq_7 (ea @AV.view.eq_8 (ea @AV.view.eq_9 (ea @AV.view.eq_10 (ea @AV.view.eq_11 (ea @AV.view.eq_12 (ea @AV.view.eq_13 (@AV.view.eq_14)))))))))))))))))))))))))))))))))))))))
def vk11:=ea @AV.view.eq_15 (ea @AV.view.eq_16 (ea @AV.viewL.eq_1 (ea @AV.viewL.eq_2 (ea @AV.rows.eq_1 (ea @AV.rows.eq_2 (ea @AV.rows.eq_3 (ea @AV.rows.eq_4 (ea @AV.rows.eq_5 (ea @AV.rows.eq_6 (ea @AV.rows.eq_7 (ea @AV.rows.eq_8 (ea @AV.rows.eq_9 (ea @AV.rows.eq_10 (ea @AV.rows.eq_11 (ea @AV.rows.eq_12 (ea @AV.rows.eq_13 (ea @AV.rows.eq_14 (ea @AV.rows.eq_15 (ea @AV.rows.eq_16 (ea @AV.rowsL.eq_1 (ea @AV.rowsL.eq_2 (ea @AV.plain.eq_1 (ea @AV.plain.eq_2 (ea @AV.plain.eq_3 (ea @AV.plain.eq_4 (ea @AV.plain.eq_5 (ea @AV.plain.eq_6 (ea @AV.plain.eq_7 (ea @AV.plain.eq_8 (ea @AV.plain.eq_9 (ea @AV.plain.eq_10 (ea @AV.plain.eq_11 (ea @AV.plain.eq_12 (ea @AV.plain.eq_13 (ea @AV.plain.eq_14 (ea @AV.plain.eq_15 (ea @AV.plain.eq_16 (ea @AV.plainL.eq_1 (@AV.plainL.eq_2)))))))))))))))))))))))))))))))))))))))
def vk12:=ea @ne_eq.{1} (ea @z1 (ea @z2 (ea @z3 (ea @z4 (ea @z5.{0} (ea @true_and (ea @and_true (ea @cond_true.{1} (ea @cond_false.{1} (ea @z6 (ea @z7 (ea @z8.{0} (ea @z9 (ea @z10 (ea @z11 (ea @z12 (ea @z13 (ea @z14.{0} (ea @z15.{0} (ea @z16.{0} (ea @z17.{0} (ea @z18.{0,0} (ea @z19.{0} (ea @z20 (ea @z21 (ea @z22 (ea @z23 (ea @z24.{0} (ea @z25.{0} (ea @z26 (ea @z27 (ea @z28 (ea @z29.{0} (ea @z30.{0} (ea @z31.{0} (ea @z32.{0} (ea @z33.{0} (ea @z34.{0} (@z35.{0})))))))))))))))))))))))))))))))))))))))
def vk13:=ea @z36.{0} (ea @z37.{0,0} (ea @z38.{0,0} (ea @z39.{0} (ea @z40.{0} (ea @z41.{0} (ea @z42.{0} (ea @z43 (ea @z44 (ea @z45 (ea @z46 (ea @z47 (ea @z48 (ea @z49.{0} (ea @z50.{0,0} (ea @z51.{0,0} (ea @z52.{0,0} (ea @z53.{0} (ea @z54.{0} (ea @z55.{0} (ea @z56.{0} (ea @z57.{0} (ea @or_false (ea @false_or (ea @z58 (ea @z59.{1} (ea @z59.{0} (ea @z60.{1} (ea @forall_eq.{1} (ea @z61.{1} (ea @if_false.{1} (ea @if_true.{1} (ea @z62.{0} (ea @z63 (ea @z64 (ea @eq_self.{1} (ea @z65 (ea @z66 (@z67))))))))))))))))))))))))))))))))))))))
def vk14:=ea @QbG.eq_1 (ea @QbG.eq_2 (ea @QbG.eq_3 (ea @Vx.eq_5 (ea @Xg.eq_1 (ea @Qfl.eq_1 (ea @Qch.eq_1 (ea @Qch.eq_2 (ea @appR.eq_1 (ea @opE.eq_26 (ea @XG.eq_1 (ea @XG.eq_2 (ea @boolT.eq_1 (ea @QfM.eq_1 (ea @Qgj.eq_1 (ea @QaO (ea @UA (ea @Qa1 (ea @vTL (ea @Xb.eq_1 (ea @QaJ.eq_1 (ea @arrB.eq_1 (ea @arrB.eq_2 (ea @opE.eq_24 (ea @opE.eq_25 (ea @V4.eq_1 (ea @QB.eq_1 (ea @AV.dv.eq_17 (ea @AV.ids.eq_17 (ea @AV.flat.eq_17 (ea @AV.le.eq_23 (ea @AV.le.eq_24 (ea @AV.le.eq_25 (ea @AV.le.eq_26 (ea @AV.ids.eq_19 (ea @AV.ren.eq_19 (ea @AV.flat.eq_19 (ea @AV.dv.eq_19 (ea @cellsOf.eq_19 (ea @jI.eq_19 (ea @jE.eq_4 (ea @Zu.eq_1 (ea @Zu.eq_2 (ea @QeU.eq_1 (ea @QeU.eq_2 (ea @AV.view.eq_17 (ea @AV.view.eq_18 (ea @AV.view.eq_19 (ea @AV.rows.eq_19 (ea @AV.plain.eq_19 (ea @AV.ids.eq_18 (ea @AV.ren.eq_18 (ea @AV.flat.eq_18 (ea @AV.dv.eq_18 (ea @cellsOf.eq_18 (ea @jI.eq_18 (ea @AV.ren.eq_17 (ea @cellsOf.eq_17 (ea @jI.eq_17 (ea @opE.eq_21 (ea @opE.eq_22 (ea @opE.eq_23 (ea @QaI.eq_1 (ea @QcL.eq_1 (ea @QcL.eq_2 (ea @Um.eq_1 (ea @Qfm.eq_1 (ea @Qfr.eq_1 (ea @Qfr.eq_2 (ea @Qcl.eq_1 (ea @Lj.eq_1 (ea @Qhd.eq_1 (ea @AV.toV.eq_1 (ea @AV.toV.eq_2 (ea @Jo.eq_1 (ea @Jo.eq_2 (ea @yt.eq_1 (ea @yt.eq_2 (ea @vAV.eq_1 (ea @vAV.eq_2 (ea @LY.eq_1 (ea @LY.eq_3 (ea @KD.Q.eq_1 (ea @KD.Q.eq_2 (ea @dvP.eq_1 (@dvP.eq_2)))))))))))))))))))))))))))))))))))))))))))))))))))))))))))))))))))))))))))))))))))))
def vk15:=ea @rowAt.eq_1 (ea @Qb9.eq_1 (ea @Qb9.eq_2 (ea @AObj.ids.eq_5 (ea @AObj.ren.eq_5 (ea @AObj.flat.eq_5 (ea @AObj.le.eq_6 (ea @AObj.le.eq_7 (ea @Zk.eq_1 (ea @Zk.eq_2 (ea @yL.eq_1 (ea @yL.eq_2 (ea @yL.eq_3 (ea @Qdh.eq_1 (ea @Qdh.eq_2 (ea @notW.eq_1 (ea @notW.eq_2 (ea @appW.eq_1 (ea @appW.eq_2 (@bsW.eq_1)))))))))))))))))))
def vk16:=ea @opE.eq_27 (ea @Qaz.eq_1 (ea @Qaz.eq_2 (ea @Qeq.eq_1 (ea @idxS.eq_1 (ea @VJ.eq_1 (ea @Qgp.eq_1 (ea @VD.eq_1 (ea @u8T.eq_1 (ea @bytesOf.eq_1 (ea @bytesOf.eq_2 (ea @QeG.eq_1 (ea @QdV.eq_1 (ea @QdV.eq_2 (ea @Qak.eq_1 (ea @Qg9.eq_1 (ea @Qdg.eq_1 (@Qdg.eq_2)))))))))))))))))
def vks:=ea (ea vk16 (ea vk15 vk14)) (ea vk0 (ea vk1 (ea vk2 (ea vk3 (ea vk4 (ea vk5 (ea vk6 (ea vk7 (ea vk8 (ea vk9 (ea vk10 (ea vk11 (ea vk12 (vk13))))))))))))))
def XA (acc:List Nat):List Nat->Nat
 |[]=>0
 |d :: ds=>2 ^ d ||| acc.getD d 0 ||| XA acc ds
def QcD:List Oper->List Nat->List Nat
 |[],acc=>acc
 |o :: r,acc=>QcD r (acc++[XA acc (deps o)])
def Qgr (acc:List (List Nat)) (b:List Nat):Prop:=acc.length=b.length/\∀ j i,(acc.getD j []).contains i=(b.getD j 0).testBit i
def XN {acc:List (List Nat)} {b:List Nat} (h:Qgr acc b) (i:Nat):∀ ds:List Nat,(ds.flatMap fun d=>d :: acc.getD d []).contains i=(XA b ds).testBit i
 |[]=>by simp [XA]
 |d :: ds=>by
  rw [cM,XA,Nat.testBit_or,Nat.testBit_or,<- XN h i ds,<- h.2 d i,Nat.testBit_two_pow];rw [Bool.eq_iff_iff]
  simp only [List.contains_iff_mem,cL,decide_eq_true_eq,au,ae]
  constructor
  ·rintro ((rfl|h)|h)
   ·exact .inl (.inl rfl)
   ·exact .inl (.inr h)
   ·exact .inr h
  ·rintro ((rfl|h)|h)
   ·exact .inl (.inl rfl)
   ·exact .inl (.inr h)
   ·exact .inr h
def XL:∀ (l:List Oper) {acc:List (List Nat)} {b:List Nat},Qgr acc b->Qgr (Jk l acc) (QcD l b)
 |[],_,_,h=>h
 |o :: r,acc,b,h=>by
  rw [Jk,QcD];refine XL r ⟨by simp [h.1],fun j i=>?_⟩
  rcases Nat.lt_trichotomy j acc.length with hj|hj|hj
  ·have:=h.2 j i
   have hb:j < b.length:=by rw [<- h.1];exact hj
   simp only [ah,bp hj,bp hb] at this ⊢;exact this
  ·have hb:j=b.length:=by rw [<- h.1];exact hj
   have:=XN h i (deps o);simp only [ah] at this ⊢
   rw [bv (by omega),bv (by omega),show j - acc.length=0 by omega,show j - b.length=0 by omega]
   exact this
  ·rw [show (acc ++ [(deps o).flatMap fun d => d :: acc.getD d []]).getD j [] = [] by
     rw [ah,cr (by simp;omega)];rfl,
    show (b++[XA b (deps o)]).getD j 0=0 by
     have:=h.1;rw [ah,cr (by simp;omega)];rfl]
   simp
def QjF (ops:Array Oper) (es:List Eff):Bool :=
 let an:=QcD ops.toList []
 (List.range ops.size).all fun j =>
  match ops[j]? with
  |none=>true
  |some oj=>(deps oj).all (· < j) && (List.range j).all fun i =>
    (an.getD j 0).testBit i ||
    match ops[i]? with
    |none=>true
    |some oi=>oi.apart ops oj && Rh (es.getD i { av:=.junk }) (es.getD j { av:=.junk })
def UC {ops:Array Oper} {es:List Eff} (h:QjF ops es=true):kS ops es=true:=by
 have hs:=(XL ops.toList (acc:=[]) (b:=[]) ⟨rfl,fun j i=>by simp⟩).2
 unfold QjF at h;unfold kS
 simp only [hs];exact h
structure DrwS where
 ids:List Nat
 hr:List Nat
 keys:List Nat
 news:List Nat
 dj:Nat
 dd:Bool
def Eff.sm (e:Eff):DrwS:=⟨e.ids,e.hr,e.keys,e.news,e.dj,e.dd.isEmpty⟩
variable {A : Frm -> Prop} {P : Program}
def Qcf (Q:Bool->Prop):Option Bool->Prop
 |some b=>Q b
 |none=>False
def QfS {c:Operand} {x y:Code} {S:St} {K:Exit->St->Prop} (h:∀ Q:Bool->Prop,(∀ b,(b=true->Sym A P x S K)->(b=false->Sym A P y S K)->Q b)->Qcf Q (WP (ev S c))):Sym A P (.cond c x y) S K:=by
 have h1:=h (fun b=>WP (ev S c)=some b->Sym A P (.cond c x y) S K) fun b h1 h2 hb=>zg hb h1 h2
 cases ho:WP (ev S c) with
 |none=>rw [ho] at h1;exact h1.elim
 |some b=>rw [ho] at h1;exact h1 rfl
def Br (b:Bool) (X Y:Prop):Prop:=(b=true->X)/\(b=false->Y)
def QgH {c:Operand} {x y:Code} {S:St} {K:Exit->St->Prop} (h:∀ Q:Bool->Prop,(∀ b,Br b (Sym A P x S K) (Sym A P y S K)->Q b)->Qcf Q (WP (ev S c))):Sym A P (.cond c x y) S K:=QfS fun Q hQ=>h Q fun b hb=>hQ b hb.1 hb.2
def br_t {X Y:Prop} (h:X):Br true X Y:=⟨fun _=>h,fun e=>by cases e⟩
def br_f {X Y:Prop} (h:Y):Br false X Y:=⟨fun e=>(by cases e),fun _=>h⟩
def vkt:=ea vks (ea @Qcf.eq_1 (ea @Qcf.eq_2 (ea @decide_true @decide_false)))
def vki:=ea @decide_eq_true_eq (ea @decide_eq_false_iff_not (ea @dM (ea @Bool.not_eq_false' (ea @aZ (ea @Bool.or_eq_false_iff (ea @Bool.and_eq_false_iff (ea @cL (ea @not_true_eq_false @not_false_eq_true))))))))
def zq0 {x y:Code} {S:St} {K:Exit->St->Prop} (h:Sym A P x S (ZU (fun S'=>Sym A P y S' K) K)):Sym A P (.seq x y) S K:=Qhs h
def zq1 {id:Nat} {c:Code} {S:St} {K:Exit->St->Prop} (h:Sym A P c S (yQ id K)):Sym A P (.block id c) S K:=QdD h
def zq2 {S:St} {K:Exit->St->Prop} (h:K .normal S):Sym A P .skip S K:=QfC h
def zq3 {l:Nat} {S:St} {K:Exit->St->Prop} (h:K .normal S):Sym A P (.label l) S K:=QdT h
def zq4 {id:Nat} {S:St} {K:Exit->St->Prop} (h:K (.exit id) S):Sym A P (.exit id) S K:=Qe2 h
def zq5 {S:St} {K:Exit->St->Prop} (h:K .ret S):Sym A P .ret S K:=Qhf h
def vle:=ea @leT.eq_1 (ea @leT.eq_2 (ea @leH.eq_1 (ea @leH.eq_2 (ea @leO.eq_1 (ea @leO.eq_2 (ea @ADf.leL.eq_1 (ea @ADf.leL.eq_2 (ea @ADf.leL.eq_3 (ea @JW.eq_1 (ea @Qff.eq_1 (ea @Qff.eq_2 (ea @Qa5.eq_1 (ea @Qa5.eq_2 (ea (@di (Nat × AObj) Nat) (ea (@d8 (Nat × AObj) Nat) (ea (@bT ADf Nat) (ea @Nat.lt_irrefl (@cR))))))))))))))))))
def vrt:=ea @Vt.eq_1 (ea @Vt.eq_2 (ea @Vt.eq_3 (ea @kR.eq_1 (ea @kR.eq_2 (ea @kR.eq_3 (ea @ZJ.eq_1 (ea @ZJ.eq_2 (ea @ZJ.eq_3 (ea @Jb.eq_1 (ea @Jb.eq_2 (ea @Jb.eq_3 (ea @rd.eq_1 (ea @rd.eq_2 (ea @rd.eq_3 (ea @rd.eq_4 (ea @UD (@Qdk)))))))))))))))))
end Go.Sym
namespace Go.Sym
open Go
inductive Nx:Prop->Prop
 |s0 {A:Frm->Prop} {P:Program} {x y:Code} {S:St} {K:Exit->St->Prop} (h:Sym A P x S (ZU (fun S'=>Sym A P y S' K) K)):Nx (Sym A P (.seq x y) S K)
 |s1 {A:Frm->Prop} {P:Program} {id:Nat} {c:Code} {S:St} {K:Exit->St->Prop} (h:Sym A P c S (yQ id K)):Nx (Sym A P (.block id c) S K)
 |s2 {A:Frm->Prop} {P:Program} {S:St} {K:Exit->St->Prop} (h:K .normal S):Nx (Sym A P .skip S K)
 |s3 {A:Frm->Prop} {P:Program} {l:Nat} {S:St} {K:Exit->St->Prop} (h:K .normal S):Nx (Sym A P (.label l) S K)
 |s4 {A:Frm->Prop} {P:Program} {id:Nat} {S:St} {K:Exit->St->Prop} (h:K (.exit id) S):Nx (Sym A P (.exit id) S K)
 |s5 {A:Frm->Prop} {P:Program} {S:St} {K:Exit->St->Prop} (h:K .ret S):Nx (Sym A P .ret S K)
 |tn {N:St->Prop} {K:Exit->St->Prop} {S:St} (h:N S):Nx (ZU N K .normal S)
 |tx {N:St->Prop} {K:Exit->St->Prop} {S:St} {id:Nat} (h:K (.exit id) S):Nx (ZU N K (.exit id) S)
 |tr {N:St->Prop} {K:Exit->St->Prop} {S:St} (h:K .ret S):Nx (ZU N K .ret S)
 |bn {K:Exit->St->Prop} {S:St} {id:Nat} (h:K .normal S):Nx (yQ id K .normal S)
 |br {K:Exit->St->Prop} {S:St} {id:Nat} (h:K .ret S):Nx (yQ id K .ret S)
 |bh {K:Exit->St->Prop} {S:St} {id:Nat} (h:K .normal S):Nx (yQ id K (.exit id) S)
 |ct {X Y:Prop} (h:X):Nx (Br true X Y)
 |cf {X Y:Prop} (h:Y):Nx (Br false X Y)
def nx {p:Prop} (h:Nx p):p:=by
 cases h with
 |s0 h=>exact zq0 h
 |s1 h=>exact zq1 h
 |s2 h=>exact zq2 h
 |s3 h=>exact zq3 h
 |s4 h=>exact zq4 h
 |s5 h=>exact zq5 h
 |tn h=>exact Qhn h
 |tx h=>exact QiU h
 |tr h=>exact QiO h
 |bn h=>exact Qhb h
 |br h=>exact QgC h
 |bh h=>exact Qa0 h
 |ct h=>exact br_t h
 |cf h=>exact br_f h
end Go.Sym
namespace Go.Sym
open Go Go.RowKit
variable {P : Program}
def own0:Own:=⟨fun _=>False,fun _=>False,fun _ h=>h⟩
def QgM:Nat->Value:=fun _=>undef
def okW (w:World):Nat->Prop:=okB w own0 QgM noH
def QkP {w:World} {b:Nat} (h:b < w.heap.size):okW w b:=⟨h,fun h=>h,fun i o h=>by cases h⟩
def ownG (n:Nat):Own:=⟨fun b=>b < n,fun _=>False,fun _ h=>h.elim⟩
def law_callsT {T:World->Prop} {f:FuncId} {az:List AV} (hf:Fn (jh T) P f az noH (.v (.bool true)) noH 0) (w:World) (hT:∀ w':World,Below w.heap.size w w'->T w') (vs:Array Value) (hs:vs.size=az.length)
  (ha:∀ i c,az[i]?=some c->ARel w (okW w) QgM undef c (vs.getD i undef)):Calls P f vs w fun e w'=>e=.returned (.bool true)/\Below w.heap.size w w':=by
 refine wo (hf.calls undef (fun _ own w'=>(∀ b,own.all b ↔ b < w.heap.size)/\Below w.heap.size w w') (fun j own w1 h=>⟨fun b hb=>aN ((h.1 b).1 hb) h.2.size,fun w2 hx=>⟨h.1,hx.os.trans h.2.os,hx.tape.trans h.2.tape,hx.output.trans h.2.output,bj h.2.size hx.size,fun b hb=>(hx.block b (aN hb h.2.size) fun hn=>hn ((h.1 b).2 hb)).trans (h.2.block b hb)⟩⟩) (ownG w.heap.size) w QgM vs (fun j own w1 h=>hT w1 h.2) ⟨⟨fun b=>Iff.rfl,Below.refl _ _⟩,fun i o h=>(by cases h),fun i k o o' b h=>(by cases h),fun i o b h=>(by cases h)⟩ hs ha) ?_
 rintro e w' ⟨v',own',ρ',rfl,_,hr,hx,_,_,_,_⟩;refine ⟨?_,hx.os,hx.tape,hx.output,hx.size,fun k hk=>hx.block k hk ?_⟩
 ·cases hr with
  |v _=>rfl
 ·rintro (h|⟨i,o,h,_⟩)
  ·exact h
  ·cases h
end Go.Sym
namespace Go.Sym
open Go
variable {P : Program}
def Ja:∀ {ks:List (Option IntKind)} {xs:List Value},qa ks xs->∀ x ∈ xs,(∃ k n,x=.int k n)\/∃ b,x=.bool b
 |[],[],_,x,hx=>by simp at hx
 |[],_ :: _,h,_,_=>h.elim
 |some k :: ks,[],h,_,_=>h.elim
 |none :: ks,[],h,_,_=>h.elim
 |some k :: ks,y :: xs,h,x,hx=>by
  obtain ⟨⟨n,rfl⟩,h⟩:=h
  rcases ae.1 hx with rfl|hx
  ·exact .inl ⟨k,n,rfl⟩
  ·exact Ja h x hx
 |none :: ks,y :: xs,h,x,hx=>by
  obtain ⟨⟨n,rfl⟩,h⟩:=h
  rcases ae.1 hx with rfl|hx
  ·exact .inr ⟨n,rfl⟩
  ·exact Ja h x hx
def QdW {n:Nat} {x:Value} (h:(∃ k n,x=.int k n)\/∃ b,x=.bool b):Instr.sameBits n x x=true:=by
 rcases h with ⟨k,m,rfl⟩|⟨b,rfl⟩ <;> cases n <;> simp [Instr.sameBits]
def Qam {n:Nat}:∀ {xs:List Value},(∀ x ∈ xs,(∃ k n,x=.int k n)\/∃ b,x=.bool b)->((xs.zip xs).all fun (x,y)=>Instr.sameBits n x y)=true
 |[],_=>rfl
 |x :: xs,h=>by
  rw [List.zip_cons_cons,List.all_cons,aZ];exact ⟨QdW (h x aV),Qam fun y hy=>h y (aQ _ hy)⟩
def WY:∀ {ks:List (Option IntKind)} {xs ys:List Value},qa ks xs->qa ks ys->(jG xs ys=true ↔ ys=xs)
 |[],[],[],_,_=>by simp [jG]
 |[],[],_ :: _,_,h=>h.elim
 |[],_ :: _,_,h,_=>h.elim
 |some _ :: _,[],_,h,_=>h.elim
 |none :: _,[],_,h,_=>h.elim
 |some _ :: _,_ :: _,[],_,h=>h.elim
 |none :: _,_ :: _,[],_,h=>h.elim
 |some k :: ks,x :: xs,y :: ys,h1,h2=>by
  obtain ⟨⟨n,rfl⟩,h1⟩:=h1;obtain ⟨⟨m,rfl⟩,h2⟩:=h2
  rw [jG,aZ,WY h1 h2];simp only [veq,beq_iff_eq,List.cons.injEq,Value.int.injEq,true_and]
  constructor
  ·rintro ⟨rfl,rfl⟩;exact ⟨rfl,rfl⟩
  ·rintro ⟨rfl,rfl⟩;exact ⟨rfl,rfl⟩
 |none :: ks,x :: xs,y :: ys,h1,h2=>by
  obtain ⟨⟨n,rfl⟩,h1⟩:=h1;obtain ⟨⟨m,rfl⟩,h2⟩:=h2
  rw [jG,aZ,WY h1 h2];simp only [veq,beq_iff_eq,List.cons.injEq,Value.bool.injEq]
  constructor
  ·rintro ⟨rfl,rfl⟩;exact ⟨rfl,rfl⟩
  ·rintro ⟨rfl,rfl⟩;exact ⟨rfl,rfl⟩
def VZ {k:TypeId} {x:Value} {w:World}:∀ (es:List MapEntry) (i:Nat),(∀ e ∈ es,∃ r,(Op.equal k x e.key).run P w=.ok r w/\(r=true ↔ e.key=x)) ->
  ((Instr.findAsking k x es i).run P w=.ok none w/\∀ e ∈ es,e.key ≠ x)\/∃ j e,(Instr.findAsking k x es i).run P w=.ok (some (i+j,e.val)) w/\es[j]?=some e/\e.key=x
 |[],_,_=>.inl ⟨by simp [Instr.findAsking],by simp⟩
 |e :: es,i,h=>by
  obtain ⟨r,hr,hrx⟩:=h e aV;cases r with
  |true =>
   refine .inr ⟨0,e, ?_,rfl,hrx.1 rfl⟩
   simp [Instr.findAsking,hr,Result.andThen]
  |false =>
   have hne:e.key ≠ x:=fun hh=>by simpa using hrx.2 hh
   rcases VZ es (i+1) (fun e he=>h e (aQ _ he)) with ⟨h1,h2⟩|⟨j,e',h1,h2,h3⟩
   ·refine .inl ⟨by simp [Instr.findAsking,hr,Result.andThen,h1],fun y hy=>?_⟩
    rcases ae.1 hy with rfl|hy
    ·exact hne
    ·exact h2 y hy
   ·refine .inr ⟨j+1,e', ?_,by simpa using h2,h3⟩
    simp [Instr.findAsking,hr,Result.andThen,h1]
    omega
def Ur {d:TypeDesc} {cs:Array Value} {v:Value}:Instr.sameNow d (.agg cs) v=none:=by
 cases d <;> rfl
def Qgc {k:TypeId} {ks:List (Option IntKind)} {d:TypeDesc} (hu:P.underlying k=some d)
  (he:∀ (w:World) (xs ys:List Value),qa ks xs->qa ks ys->(Op.equalIn 10000 k (.agg xs.toArray) (.agg ys.toArray)).run P w=.ok (jG xs ys) w)
  (hc:∀ (w:World) (em:Bool) (xs:List Value),qa ks xs->(Instr.checkKey em 10000 k (.agg xs.toArray)).run P w=.ok () w):MKey P k (KD.Q (.agg ks)) where
 check w em v h:=by
  cases v <;> first|exact h.elim|skip
  rename_i cs;exact hc w em cs.toList h
 find w x hx es hes:=by
  cases x <;> first|exact hx.elim|skip
  rename_i cs;cases es with
  |nil=>exact .inl ⟨by simp [Instr.findKey,run_underlying hu,Instr.findNow,Result.andThen],by simp⟩
  |cons e es =>
   have hfn:Instr.findNow d (.agg cs) (e :: es) 0=none:=by simp [Instr.findNow,Ur]
   have hk:(Instr.findKey k (.agg cs) (e :: es)).run P w=(Instr.findAsking k (.agg cs) (e :: es)).run P w:=by
    simp [Instr.findKey,run_underlying hu,hfn,Result.andThen]
   rw [hk];have:=VZ (P:=P) (k:=k) (x:=.agg cs) (w:=w) (e :: es) 0 fun e' he'=>by
    have hq:=hes e' he';generalize e'.key=v at hq
    cases v <;> first|exact hq.elim|skip
    rename_i cs';have hx':qa ks cs.toList:=hx
    have hq':qa ks cs'.toList:=hq;refine ⟨_,he w cs.toList cs'.toList hx' hq', ?_⟩
    rw [WY hx' hq']
    constructor
    ·intro h;rw [Array.toList_inj.1 h]
    ·intro h;injection h with h;rw [h]
   simpa using this
 stays w v h:=by
  cases v <;> first|exact h.elim|skip
  rename_i cs;have h':qa ks cs.toList:=h
  have:Instr.sameBits 10000 (.agg cs) (.agg cs)=true:=by
   show (cs.size == cs.size && (cs.toList.zip cs.toList).all fun (x,y)=>Instr.sameBits 9999 x y)=true
   rw [Qam (Ja h')];simp
  simp [Instr.keyThatStays,this]
end Go.Sym
namespace Go.Sym
open Go Go.RowKit
variable {P : Program}
def Fn.of_callsB {B:Ctx->Prop} {T:World->Prop} (hT:∀ y J own w ρ,B ⟨y,J,own,w,ρ⟩->J 0 own w->T w) {f:FuncId} {az:List AV} {h0:Nat->Option AObj} {x:Value} (en:∀ vs w,(callFunc f vs).run P w=.ok (.enter f vs) w) (hx:x.oneCell'=true)
  (h:∀ (w:World) (ok:Nat->Prop) (ρ:Nat->Value) (y:Value) (vs:Array Value),T w->(∀ i o,h0 i=some o->ORel w ok ρ y o (ρ i))->vs.size=az.length->(∀ i c,az[i]?=some c->ARel w ok ρ y c (vs.getD i undef)) ->
   Calls P f vs w fun e w'=>e=.returned x/\Below w.heap.size w w'):Fn B P f az h0 (.v x) h0 0 where
 enter:=en
 calls:=fun y J hJ own w ρ vs hB H hs ha=>wo (h w _ ρ y vs (hT _ _ _ _ _ hB H.jay) H.obj hs ha) fun e w' ⟨he,hw⟩=>by
  have ex:∀ mod:Nat->Prop,Ext mod w w':=fun mod=>⟨hw.os,hw.tape,hw.output,hw.size,fun k hk _=>hw.block k hk⟩
  have ok:∀ b,okB w own ρ h0 b->okB w' own ρ h0 b/\w'.heap[b]?=w.heap[b]?:=fun b ⟨h1,h2,h3⟩=>⟨⟨aN h1 hw.size,h2,h3⟩,hw.block b h1⟩
  exact ⟨x,own,ρ,he,⟨(hJ _ _ _ H.jay).2 w' (ex _),fun i o hi=>(H.obj i o hi).mono ok (fun b hb=>hw.block b ((H.obj i o hi).lt hb)) (fun _ _=>rfl),H.inj,H.off⟩,.v hx,ex _,fun b h=>.inl h,fun _=>rfl,fun _ _ _=>rfl,fun i o b hi hb=>.inr ⟨i,o,hi,hb⟩⟩
def Fn.of_calls {f:FuncId} {az:List AV} {h0:Nat->Option AObj} {x:Value} (en:∀ vs w,(callFunc f vs).run P w=.ok (.enter f vs) w) (hx:x.oneCell'=true)
  (h:∀ (w:World) (ok:Nat->Prop) (ρ:Nat->Value) (y:Value) (vs:Array Value),(∀ i o,h0 i=some o->ORel w ok ρ y o (ρ i))->vs.size=az.length->(∀ i c,az[i]?=some c->ARel w ok ρ y c (vs.getD i undef)) ->
   Calls P f vs w fun e w'=>e=.returned x/\Below w.heap.size w w'):Fn noB P f az h0 (.v x) h0 0:=Fn.of_callsB (T:=fun _=>True) (fun _ _ _ _ _ _ _=>trivial) en hx fun w ok ρ y vs _=>h w ok ρ y vs
def Fn.of_callsT {T:World->Prop} {f:FuncId} {az:List AV} {h0:Nat->Option AObj} {x:Value} (en:∀ vs w,(callFunc f vs).run P w=.ok (.enter f vs) w) (hx:x.oneCell'=true)
  (h:∀ (w:World) (ok:Nat->Prop) (ρ:Nat->Value) (y:Value) (vs:Array Value),T w->(∀ i o,h0 i=some o->ORel w ok ρ y o (ρ i))->vs.size=az.length->(∀ i c,az[i]?=some c->ARel w ok ρ y c (vs.getD i undef)) ->
   Calls P f vs w fun e w'=>e=.returned x/\Below w.heap.size w w'):Fn (jh T) P f az h0 (.v x) h0 0:=Fn.of_callsB (B:=jh T) (fun _ _ own w _ hB hj=>hB 0 own w hj) en hx h
def qp (s:List UInt8):List DV:=[.v (.string ⟨⟨s⟩⟩)]
def Qio {w:World} {ok:Nat->Prop} {ρ:Nat->Value} {y:Value} {l:List (List UInt8)} {v:Value} (h:ARel w ok ρ y (.sl (l.map qp)) v) :
  (l=[]/\∃ a c,v=.slice a 0 c)\/∃ b o c,v=.slice (some ⟨b,o,none⟩) l.length c/\0 < l.length/\l.length<=c/\c<=maxLen/\b < w.heap.size/\∀ (j:Nat) s,l[j]?=some s->w.cell? ⟨b,o+j,none⟩=some (.string ⟨⟨s⟩⟩):=by
 cases h with
 |sl h =>
  generalize hx:DV.sl (l.map qp)=x at h;cases h with
  |v _=>cases hx
  |sl0 hc=>injection hx with hx;exact .inl ⟨by simpa using hx,_,_,rfl⟩
  |@sl xs k a n c f h1 h2 h3 h4 h5 h6 h7 h8 h9 =>
   injection hx with hx
   subst hx;have hl:l.length=n:=by simpa using h1
   have get:∀ (j:Nat) s,l[j]?=some s->(l.map qp)[j]?=some [DV.v (.string ⟨⟨s⟩⟩)]:=fun j s h=>by rw [aC,h];rfl
   have hk:k=1:=by
    obtain ⟨s,hs⟩:∃ s,l[0]?=some s:=⟨l[0],al (by omega)⟩
    exact (h6 0 _ (get 0 s hs)).symm
   subst hk;have cell:∀ (j:Nat) s,l[j]?=some s->w.cell? (a.add j)=some (.string ⟨⟨s⟩⟩):=fun j s hs=>by
    have h10:=h7 j _ 0 _ (get j s hs) rfl;have h11:=h8 j _ 0 _ (get j s hs) rfl
    rw [show j * 1+0=j by omega] at h10
    rw [h10];generalize f j 0=u at h11 ⊢
    cases h11 with
    |v _=>rfl
   obtain ⟨s0,hs0⟩:∃ s,l[0]?=some s:=⟨l[0],al (by omega)⟩
   have c0:=cell 0 s0 hs0;have hsp:(a.add 0).spot=none:=JG c0
   rw [show a.add 0=a by unfold Addr.add;simp] at hsp c0
   have hb:a.block < w.heap.size:=by
    rcases bK a.block w.heap.size with h6|h6
    ·exact h6
    ·simp [World.cell?,cq h6] at c0
   obtain ⟨b,o,sp⟩:=a;dsimp only at hsp hb
   subst hsp;rw [<- hl] at h3 ⊢
   exact .inr ⟨b,o,c,rfl,by omega,h3,h4,hb,fun j s hs=>by rw [<- jm];exact cell j s hs⟩
end Go.Sym
namespace Go.Sym
open Go
variable {A : Frm -> Prop} {P : Program}
def UZ {o:Oper} {r:Option Nat} {a:Act} {w:World} {next next':Act->World->Prop} {Q':Exit->Act->World->Prop} (h:o.wpIn (W r) 0 P a w next (fun _ _ _=>False)) (hn:∀ a w,next a w->next' a w):o.wpIn (W r) 0 P a w next' Q':=by
 refine ⟨h.1, ?_⟩
 have h3:=h.2;generalize (o.semAt (W r).round a.eval).run P w=x at h3 ⊢
 cases x with
 |ok x w' =>
  cases x <;> simp only [Oper.uponIn] at h3 ⊢ <;> first
   |exact hn _ _ h3
   |exact ⟨h3.1,CallsIn.mono h3.2 (fun e w'' he=>by
     cases e with
     |returned v=>exact hn _ _ he
     |panicked c=>exact he.elim
     |outgrown=>obtain ⟨_,_,h⟩:=he;exact h.elim)⟩
   |exact ⟨h3.1,RowsIn.mono h3.2 (fun _ _ he=>hn _ _ he)⟩
   |exact ⟨h3.1,RoundIn.mono h3.2 (fun e w'' he=>by
     cases e with
     |returned v=>exact hn _ _ he
     |panicked c=>exact he.elim
     |outgrown=>obtain ⟨_,_,h⟩:=he;exact h.elim)⟩
 |halt x w'=>cases x <;> simp only [Oper.uponIn] at h3 ⊢
def QgT {o:Oper} {r:Option Nat} {a:Act} {w:World} {ch:List PanicEntry} {R:Act->World->Prop} {next':Act->World->Prop} {Q':Exit->Act->World->Prop} (h:o.wpIn (W r) 0 P a w (fun _ _=>False) (fun e a' w'=>e=.panic ch/\R a' w')) (hq:∀ a' w',R a' w'->Q' (.panic ch) a' w'):o.wpIn (W r) 0 P a w next' Q':=by
 refine ⟨h.1, ?_⟩
 have h3:=h.2;generalize (o.semAt (W r).round a.eval).run P w=x at h3 ⊢
 have key:∀ {c:List PanicEntry} {a':Act} {w':World},Exit.panic c=.panic ch/\R a' w'->Q' (.panic c) a' w':=fun he=>by obtain ⟨e1,e2⟩:=he;cases e1;exact hq _ _ e2
 cases x with
 |ok x w' =>
  cases x <;> simp only [Oper.uponIn] at h3 ⊢ <;> first
   |exact h3.elim
   |exact ⟨h3.1,CallsIn.mono h3.2 (fun e w'' he=>by
     cases e with
     |returned v=>exact he.elim
     |panicked c=>exact key he
     |outgrown=>obtain ⟨_,_,h,_⟩:=he;cases h)⟩
   |exact ⟨h3.1,RowsIn.mono h3.2 (fun _ _ he=>he.elim)⟩
   |exact ⟨h3.1,RoundIn.mono h3.2 (fun e w'' he=>by
     cases e with
     |returned v=>exact he.elim
     |panicked c=>exact key he
     |outgrown=>obtain ⟨_,_,h,_⟩:=he;cases h)⟩
 |halt x w'=>cases x <;> simp only [Oper.uponIn] at h3 ⊢;exact key h3
def V6 {ops:Array Oper} {K:St->List Eff->Prop} {F:Frm} (hF:A F) (hdst:∀ o ∈ ops.toList,LQ F.nt o=true) {Q:Exit->Act->World->Prop} {tail:List Nat} (ht:∀ S' es' a' w',K S' es'->Gam F S' a' w'->wpOpsIn (W F.r) 0 P ops Q tail a' w') :
  ∀ (l:List Oper) (k:Nat) (S:St) (es:List Eff) (a:Act) (w:World),(∀ j,j < l.length->l[j]?=ops[k+j]?)->Run A P ops l S es K->Gam F S a w->wpOpsIn (W F.r) 0 P ops Q (List.range' k l.length++tail) a w
 |[],_,S,es,a,w,_,h,hg=>ht S es a w h hg
 |o :: l,k,S,es,a,w,hl,h,hg=>by
  obtain ⟨e,hv,hr⟩:=h;have h0:ops[k]?=some o:=by simpa using (hl 0 (by simp)).symm
  have hl':∀ j,j < l.length->l[j]?=ops[k+1+j]?:=fun j hj=>by have:=hl (j+1) (by simpa using hj);simpa [ck,bR 1 j] using this
  simp only [bl,List.range'_succ,cD,wpOpsIn,h0];have hval:=hv.valid F hF (hdst o (ao (by simpa using h0))) S a w ⟨fun _ _=>rfl,fun _ _=>rfl,fun _=>rfl⟩ (fun id hid=>hg.freshIn (hv.news id hid)) hg
  split
  ·rename_i hw
   rw [if_pos hw] at hval;exact UZ hval fun a' w' hg'=>V6 hF hdst ht l (k+1) _ _ a' w' hl' hr hg'
  ·rename_i hw
   rw [if_neg hw] at hval;exact ⟨fun _ _=>trivial,V6 hF hdst ht l (k+1) _ _ _ w hl' hr hval⟩
def QeC {ops:Array Oper} {K:St->List Eff->Prop}:∀ (l:List Oper) (S:St) (es:List Eff),Wf S->Run A P ops l S es K->Run A P ops l S es fun S' es'=>Wf S'/\K S' es'
 |[],_,_,hS,h=>⟨hS,h⟩
 |_ :: l,_,_,hS,⟨e,hv,hr⟩=>⟨e,hv,QeC l _ _ (hS.app hv.ids) hr⟩
def Ux {O:Tys} {Φ:Ctr} (hE:Env A P O Φ) {id:Nat} {ops:Array Oper} {S:St} {K:Exit->St->Prop} (k:Nat) {o:Oper} (ho:ops[k]?=some o) (hgd:o.guard=none)
  {C:St->Prop} (hC:∀ S,Wf S->C S->∃ e ch,VX A P ops o e ch S/\K (.panic ch) (S.app none e)) (h:kY O Φ ops false C (ops.toList.take k) S []):Sym A P (.region id ops false) S K:=fun F hF hd a w hg=>by
 have hr:=QeC _ _ _ hg.wf (yu (A:=A) (P:=P) hE.tys hE.ctr (ops.toList.take k) S [] hg.wf h);refine wpIn_region ?_
 have hk:k < ops.size:=(aT.1 ho).1;have hlen:(ops.toList.take k).length=k:=by simp;omega
 have e:List.range ops.size=List.range' 0 (ops.toList.take k).length++k :: List.range' (k+1) (ops.size - k - 1):=by
  rw [hlen,List.range_eq_range',show ops.size=k+((ops.size - k - 1)+1) by omega,<- List.range'_append_1,List.range'_succ]
  simp
 rw [e];refine V6 hF (bq.1 hd) (fun S' es' a' w' hk' hg'=>?_) _ 0 S [] a w (fun j hj=>?_) hr hg
 ·obtain ⟨hwf,_,hc⟩:=hk'
  obtain ⟨e,ch,hx,hk2⟩:=hC S' hwf hc;simp only [wpOpsIn,ho]
  rw [if_pos (show Region.wanted o (yielded ops a'.tmps)=true by simp [Region.wanted,hgd])]
  exact QgT (hx.valid F hF S' a' w' QaS (fun id hid=>hg'.freshIn (hx.news id hid)) hg') fun a2 w2 hg2=>⟨_,hk2,hg2⟩
 ·rw [aP,if_pos (by omega)];simp
def Qew {ops:Array Oper} {o:Oper} {S:St} {x:Operand} (ho:o.op=.panic x) {t:TypeId} {u:Value} (hx:ev S x=.v (.iface t u)):VX A P ops o { av:=.junk,n:=S.n } [{ v:=.iface t u,recovered:=false }] S:=⟨fun F hF S2 a w hag _ hg=>by
 obtain ⟨ρ,own,H⟩:=hg;have hgv:=qm H x
 rw [hag.ev (x:=x) (by simp [ho,Op.operands]),hx] at hgv
 have hv:a.eval x=.iface t u:=(qx hgv).1;refine ⟨vW o a w F.r, ?_⟩
 rw [Oper.semAt_eq _ _ _ (by simp [ho])]
 have:(execOp a.eval o).run P w=.halt (.panic (.iface t u)) w:=by
  simp [execOp,ho,hv,run_panic_iface]
 rw [this];refine ⟨rfl,ρ,own, ?_⟩
 have:=H.app (dst:=none) (e:={ av:=.junk,n:=S.n }) (v':=undef) (w':=w) (ρ':=ρ) (own':=own) (ds:=[]) (fun _ h=>by cases h) H.jay (Ext.refl _ _) (.inl rfl) (by simp) (fun _ _=>rfl) (by simp) .junk
  (by simp [Eff.keys]) (by simp [Eff.keys]) (by simp [Eff.ids,AV.ids,zM]) .nil
 simpa [Act.put] using this,by simp⟩
def Qei {O:Tys} {Φ:Ctr} (hE:Env A P O Φ) {id:Nat} {ops:Array Oper} {S:St} {K:Exit->St->Prop} (k:Nat) {o:Oper} (ho:ops[k]?=some o) (hgd:o.guard=none) {x:Operand} (hx:o.op=.panic x)
  (h:∀ Q:List PanicEntry->St->Prop,(∀ ch S2,K (.panic ch) (S2.app none { av:=.junk,n:=S2.n })->Q ch S2)->kY O Φ ops false (fun S'=>∃ t u,ev S' x=.v (.iface t u)/\Q [{ v:=.iface t u,recovered:=false }] S') (ops.toList.take k) S []):Sym A P (.region id ops false) S K :=
 Ux hE k ho hgd (fun _ _ ⟨_,_,h1,h2⟩=>⟨_,_,Qew hx h1,h2⟩) (h (fun ch S2=>K (.panic ch) (S2.app none { av:=.junk,n:=S2.n })) fun _ _ h=>h)
abbrev Q3:=St->List AV->Option (Pk × List PanicEntry)
def XOK (A:Frm->Prop) (P:Program) (f:FuncId) (X:Q3):Prop:=∀ S bs q ch,X S bs=some (q,ch)->q.pre->q.v=.junk/\∃ B:Ctx->Prop,(∀ F S hs bo ρ own w,A F->B (xZ F S hs bo ρ own w))/\FnX ch B P f q.ar (qf (yn 0 q.L0)) (qf (jc 0 q.L1))
def vx_fn {f:FuncId} {X:Q3} (hX:XOK A P f X) {S:St} {bs:List AV} {q:Pk} {ch:List PanicEntry} (hq:X S bs=some (q,ch)) (h:q.ok S bs) (hS:Wf S) {ops:Array Oper} {o:Oper} {g:Operand} {args:Array Operand} {tys:Array TypeId} {caps:List AV}
  (ho:o.op=.call { callee:=.value g,args:=args,argTypes:=tys }) (hg:jE (ev S g)=some (some f,caps)) (hb:Zu (ev S g)++(args.toList.map (ev S)++caps)=bs):VX A P ops o (q.eff S) ch S:=by
 obtain ⟨h1,h2,h3,h4,h5,h6,h7,h8,h9⟩:=h;obtain ⟨hv,B,hB,hfn⟩:=hX S bs q ch hq h1
 rw [q.eff_eq S h6,hv];obtain ⟨g1,g2⟩:=Yb h3
 have hlen:q.hs.length+(q.L1.length - q.hs.length)=q.L1.length:=by omega
 have get1:∀ i o,qf (jc 0 q.L1) i=some o->q.L1[i]?=some (some o):=fun i o hi=>by
  rw [QW,if_neg (by omega),bw] at hi
  cases hh:q.L1[i]? with
  |none=>rw [hh] at hi;cases hi
  |some x=>rw [hh] at hi;simp only [Option.join_some] at hi;rw [hi]
 refine QhL hS ho (Zj hg) hfn (fun F S2 _ w ρ own h _ _=>hB F S2 _ _ ρ own w h) (hf:=q.hf S) (by rw [hb];exact h2) (fun i o0 hi=>?_) (fun j hj=>?_) h4 (fun i ob hi=>?_) (ZB h5) ?_ (fun i ob hi=>?_)
 ·rw [QJ,if_neg (by omega),bw] at hi
  exact g2 i o0 hi
 ·rw [QJ,if_neg (by omega),bw]
  exact ⟨_,al (by omega)⟩
 ·unfold Pk.hf at hi
  by_cases hm:i ∈ q.bo
  ·rw [if_pos hm] at hi;exact ⟨hi,(ZB h5 i hm).2,hm⟩
  ·rw [if_neg hm] at hi;cases hi
 ·cases hfl:q.fl with
  |false=>exact .inl rfl
  |true =>
   obtain ⟨_,e2⟩:=h9 hfl;exact .inr ⟨rfl,fun i ob hi=>Wu e2 i ob (get1 i ob hi)⟩
 ·rw [hlen]
  have:=get1 i ob hi;exact ⟨(aq.1 this).1,JD h8 i ob this⟩
def Qd (f:FuncId) (X:Q3) (o:Oper) (Q:List PanicEntry->Eff->St->Prop) (S:St):Prop:=match o.op with
 |.call c=>match c.callee with
  |.value g=>match jE (ev S g) with
   |some (some f',caps)=>f'=f/\match X S (Zu (ev S g)++(c.args.toList.map (ev S)++caps)) with
    |some (q,ch)=>q.ok S (Zu (ev S g)++(c.args.toList.map (ev S)++caps))/\Q ch (q.eff S) S
    |none=>False
   |_=>False
  |_=>False
 |_=>False
def YD {f:FuncId} {X:Q3} (hX:XOK A P f X) {ops:Array Oper} {o:Oper} {Q:List PanicEntry->Eff->St->Prop} {S:St} (hS:Wf S) (h:Qd f X o Q S):∃ e ch,VX A P ops o e ch S/\Q ch e S:=by
 unfold Qd at h;split at h
 ·rename_i c hc
  split at h
  ·rename_i g hg
   split at h
   ·rename_i f' caps hf
    obtain ⟨rfl,h⟩:=h;split at h
    ·rename_i q ch hq
     exact ⟨_,ch,vx_fn hX hq h.1 hS (g:=g) (args:=c.args) (tys:=c.argTypes) (by rw [hc];cases c;simp_all) hf rfl,h.2⟩
    ·exact h.elim
   ·exact h.elim
  ·exact h.elim
 ·exact h.elim
def QdH {O:Tys} {Φ:Ctr} (hE:Env A P O Φ) {f:FuncId} {X:Q3} (hX:XOK A P f X) {id:Nat} {ops:Array Oper} {S:St} {K:Exit->St->Prop} (k:Nat) {o:Oper} (ho:ops[k]?=some o) (hgd:o.guard=none)
  (h:∀ Q:List PanicEntry->Eff->St->Prop,(∀ ch e S2,K (.panic ch) (S2.app none e)->Q ch e S2)->kY O Φ ops false (Qd f X o Q) (ops.toList.take k) S []):Sym A P (.region id ops false) S K :=
 Ux hE k ho hgd (fun _ hS hc=>YD hX hS hc) (h (fun ch e S2=>K (.panic ch) (S2.app none e)) fun _ _ _ h=>h)
def St.nil (S:St):St:={ t:=fun _=>.junk,h:=S.h,n:=S.n,j:=S.j,d:=S.d,m:=S.m }
def Gam.nil {F:Frm} {S:St} {a:Act} {w:World} (h:Gam F S a w):Gam F S.nil a w:=by
 obtain ⟨ρ,own,H⟩:=h;exact ⟨ρ,own,H.jay,fun _=>.junk,H.obj,H.inj,H.blkOK,fun id hid=>let ⟨g1,_,g3,g4⟩:=H.fresh id hid;⟨g1,fun t=>by simp [St.nil,AV.ids],g3,g4⟩,H.nle,H.meq,H.tsz,H.pins,H.ext,H.ownsub,H.still,H.defs⟩
def QfX (O:Tys) (Φ:Ctr) (S:St) (o:Oper):Prop:=o.guard=none/\(opE O Φ S o.op).1/\((opE O Φ S o.op).2.hw=[]/\(opE O Φ S o.op).2.news=[]/\(opE O Φ S o.op).2.dj=0/\(opE O Φ S o.op).2.dd=[]/\(opE O Φ S o.op).2.n<=S.n)/\match o.dst with
 |some d=>(opE O Φ S o.op).2.av=S.t d
 |none=>False
def Qby (O:Tys) (Φ:Ctr) (S:St):List Oper->Prop
 |[]=>True
 |o :: r=>QfX O Φ S o/\Qby O Φ S r
def Qge {O:Tys} {Φ:Ctr} {S:St} {l:List Oper} (h:Qby O Φ S l):∀ o ∈ l,QfX O Φ S o:=by
 induction l with
 |nil=>intro o ho;cases ho
 |cons p r ih =>
  intro o ho;rw [Qby] at h
  rcases ae.1 ho with e|ho
  ·rw [e];exact h.1
  ·exact ih h.2 o ho
def ndB (ops:Array Oper) (k:Nat) (nd:List Nat):Bool :=
 decide (nd.length < ops.size) && !nd.contains k && (List.range ops.size).all fun i=>match ops[i]? with
  |none=>true
  |some o=>if i == k || nd.contains i then
    (deps o).all (fun d=>decide (d < i) && nd.contains d) && nd.all fun j=>match ops[j]? with
     |none=>false
     |some oj=>match oj.dst with
      |none=>false
      |some t=>!(o.looksAt ops).contains t || (deps o).contains j
   else (deps o).any fun d=>d == k || !nd.contains d
def QfI {ops:Array Oper} {K:St->List Eff->Prop}:∀ (l:List Oper) (S:St) (es:List Eff),Wf S->Run A P ops l S es K->∃ S' es',K S' es'/\Wf S'/\∀ t,(∀ o ∈ l,o.dst ≠ some t)->S'.t t=S.t t
 |[],S,es,hS,h=>⟨S,es,h,hS,fun _ _=>rfl⟩
 |o :: l,S,es,hS,⟨e,hv,hr⟩=>by
  obtain ⟨S',es',hk,hw,ht⟩:=QfI l _ _ (hS.app hv.ids) hr;refine ⟨S',es',hk,hw,fun t hd=>?_⟩
  rw [ht t fun o ho=>hd o (aQ _ ho)]
  show put S.t o.dst e.av t=S.t t
  cases hod:o.dst with
  |none=>rfl
  |some d=>exact upd_ne _ _ _ _ fun e=>hd o (by simp) (by rw [hod,e])
def KT (ops:Array Oper) (nd:List Nat) (S SF:St) (listed:Array Bool):St :=
 {t:=fun t=>if nd.any (fun j=>listed.getD j false && ((ops[j]?).bind (·.dst) == some t))=true then SF.t t else S.t t,h:=S.h,n:=S.n,j:=S.j,d:=S.d,m:=S.m }
def Qbd {O:Tys} {Φ:Ctr} (hE:Env A P O Φ) {f:FuncId} {X:Q3} (hX:XOK A P f X) {id:Nat} {ops:Array Oper} {S:St} {K:Exit->St->Prop} (k:Nat) (nd:List Nat) {o:Oper} (ho:ops[k]?=some o) (hgd:o.guard=none) (hnd:ndB ops k nd=true)
  (h:∀ Q:List PanicEntry->Eff->St->Prop,(∀ ch e S2,K (.panic ch) (S2.app none e).nil->Q ch e S2)->kY O Φ ops false (fun SF=>Qby O Φ SF (nd.filterMap fun i=>ops[i]?)/\(SF.h=S.h/\SF.n=S.n/\SF.j=S.j/\SF.d=S.d/\SF.m=S.m)/\Qd f X o Q SF) (nd.filterMap fun i=>ops[i]?) S []):Sym A P (.region id ops true) S K:=fun F hF hd a w hg=>by
 obtain ⟨SF,es,⟨_,hfix,⟨hh,hn,hj,hdd,hm⟩,hcall⟩,hwf,htmp⟩:=QfI _ _ _ hg.wf (yu (A:=A) (P:=P) hE.tys hE.ctr _ S [] hg.wf (h (fun ch e S2=>K (.panic ch) (S2.app none e).nil) fun _ _ _ h=>h))
 obtain ⟨ek,ch,hx,hK⟩:=YD (ops:=ops) hX hwf hcall;simp only [ndB,aZ,decide_eq_true_eq,dM,bq,aF] at hnd
 obtain ⟨⟨hlen,hkn⟩,hB⟩:=hnd;have hkn:k ∉ nd:=fun hm=>by simp [hm] at hkn
 have hks:k < ops.size:=(aT.1 ho).1;have hdst:∀ j ∈ nd,∃ oj t,ops[j]?=some oj/\oj.dst=some t:=fun j hj=>by
  have h1:=hB k hks;simp only [ho,beq_self_eq_true,Bool.true_or,if_true,aZ,bq] at h1
  have h2:=h1.2 j hj;split at h2
  ·cases h2
  ·rename_i oj hoj
   split at h2
   ·cases h2
   ·rename_i t ht;exact ⟨oj,t,hoj,ht⟩
 have hlook:∀ i oi,ops[i]?=some oi->(i=k\/i ∈ nd)->(∀ d ∈ deps oi,d < i/\d ∈ nd)/\∀ j ∈ nd,∀ oj t,ops[j]?=some oj->oj.dst=some t->t ∈ oi.looksAt ops->j ∈ deps oi:=fun i oi hoi hi=>by
  have h1:=hB i (aT.1 hoi).1;have hc:(i == k || nd.contains i)=true:=by rcases hi with h|h <;> simp [h]
  simp only [hoi,hc,if_true,aZ,bq] at h1;refine ⟨fun d hd=>by have:=h1.1 d hd;simpa using this,fun j hj oj t hoj ht hl=>?_⟩
  have h2:=h1.2 j hj;simp only [hoj,ht,cL,dM] at h2
  rcases h2 with h2|h2
  ·simp [hl] at h2
  ·simpa using h2
 have hagree:∀ i oi (e:Eff) (listed:Array Bool),ops[i]?=some oi->(i=k\/i ∈ nd)->(∀ d ∈ deps oi,listed.getD d false=true)->Agree ops oi e SF (KT ops nd S SF listed):=fun i oi e listed hoi hi hl=>by
  refine ⟨fun t ht=>?_,fun id _=>by rw [hh];rfl,fun _=>by rw [hj];rfl⟩
  show (if _ then SF.t t else S.t t)=SF.t t
  split
  ·rfl
  ·rename_i hn
   refine (htmp t fun o' ho' hdt=>hn ?_).symm
   obtain ⟨j,hj,hoj⟩:=ca.1 ho';rw [dk]
   refine ⟨j,hj, ?_⟩
   rw [hl j ((hlook i oi hoi hi).2 j hj o' t hoj hdt ht),hoj]
   simp [hdt]
 have main:∀ (fuel:Nat) (listed:Array Bool) (a:Act) (w:World),listed.size=ops.size->(∀ i,listed.getD i false=true->i ∈ nd)->(nd.filter fun i=>!listed.getD i false).length < fuel->Gam F (KT ops nd S SF listed) a w ->
   wpAnyIn (W F.r) 0 P .any ops (fun e a' w'=>∃ S',K e S'/\Gam F S' a' w') fuel listed a w:=by
  intro fuel
  induction fuel with
  |zero=>intro listed a w _ _ h0;omega
  |succ fuel ih =>
   intro listed a w hsz hin hfu hg;have unl:∀ i,i < ops.size->listed.getD i true=listed.getD i false:=fun i hi=>by simp [hsz,hi]
   refine ⟨fun h0=>?_,fun i hi=>?_⟩
   ·have all:∀ i oi,ops[i]?=some oi->(i=k\/i ∈ nd)->listed.getD i false=true:=by
     intro i
     induction i using Nat.strongRecOn with
     |_ i ihi =>
      intro oi hoi hi;cases hl:listed.getD i false with
      |true=>rfl
      |false =>
       have:i ∈ Region.ready .any ops listed:=mem_ready.2 ⟨by rw [unl i (aT.1 hoi).1,hl],oi,hoi,fun e he hb=>by
        obtain ⟨g1,g2⟩:=(hlook i oi hoi hi).1 e.on (JX.2 ⟨e,he,hb,rfl⟩);obtain ⟨od,_,hod,_⟩:=hdst _ g2
        exact ihi e.on g1 od hod (.inr g2)⟩
       rw [h0] at this;cases this
    exact absurd (hin k (all k o ho (.inl rfl))) hkn
   ·obtain ⟨hun,oi,hoi,hrd⟩:=mem_ready.1 hi
    have hdl:∀ d ∈ deps oi,listed.getD d false=true:=fun d hd=>by
     obtain ⟨e,he,hb,rfl⟩:=JX.1 hd;exact hrd e he hb
    unfold wpOpIn;simp only [hoi]
    by_cases hik:i=k
    ·subst hik
     rw [ho] at hoi;cases hoi
     rw [if_pos (show Region.wanted o (yielded ops a.tmps)=true by simp [Region.wanted,hgd])]
     refine QgT (hx.valid F hF _ a w (hagree i o ek listed ho (.inl rfl) hdl) (fun id hid=>hg.freshIn (by have:=hx.news id hid;rw [hn] at this;exact this)) hg) fun a' w' hg'=>⟨_,hK, ?_⟩
     have e:(SF.app none ek).nil=((KT ops nd S SF listed).app none ek).nil:=by
      simp only [St.nil,St.app,KT,hh,hn,hj,hdd,hm]
     rw [e];exact hg'.nil
    ·by_cases hnd:i ∈ nd
     ·have hfo:=Qge hfix oi (ca.2 ⟨i,hnd,hoi⟩)
      obtain ⟨g1,g2,⟨p1,p2,p3,p4,p5⟩,g3⟩:=hfo;obtain ⟨_,d,hoi',hdd'⟩:=hdst i hnd
      rw [hoi] at hoi';cases hoi'
      rw [hdd'] at g3;have hv:=XD (A:=A) (P:=P) (ops:=ops) hE.tys hE.ctr hwf (.inl g1) g2
      generalize opE O Φ SF oi.op=r at *;obtain ⟨rp,e⟩:=r
      dsimp only at g2 p1 p2 p3 p4 p5 g3 hv;have hw:Region.wanted oi (yielded ops a.tmps)=true:=by simp [Region.wanted,g1]
      rw [if_pos hw];have hval:=hv.valid F hF (bq.1 hd oi (ao (by simpa using hoi))) _ a w (hagree i oi e listed hoi (.inr hnd) hdl) (fun id hid=>by rw [p2] at hid;cases hid) hg
      rw [if_pos hw] at hval;refine UZ hval fun a' w' hg'=>ih (listed.setIfInBounds i true) a' w' (by simpa using hsz) (fun m hm=>?_) ?_ ?_
      ·by_cases hmi:i=m
       ·exact hmi ▸ hnd
       ·rw [getD_set_ne false hmi] at hm;exact hin m hm
      ·have hiu:listed.getD i false=false:=by rw [<- unl i (aT.1 hoi).1];exact hun
       have:=filter_lt (fun i=>!listed.getD i false) (fun m=>!(listed.setIfInBounds i true).getD m false) (fun m hm=>by
        by_cases hmi:i=m
        ·subst hmi;simp [hiu]
        ·rw [getD_set_ne false hmi] at hm;exact hm) i (by simp [hiu]) (by simp [hsz,(aT.1 hoi).1]) nd hnd
       omega
      ·have e2:(KT ops nd S SF listed).app oi.dst e=KT ops nd S SF (listed.setIfInBounds i true):=by
        simp only [St.app,KT,p1,p3,p4,ze,bc,bC]
        congr 1
        ·funext t
         rw [hdd'];simp only [put]
         by_cases htd:t=d
         ·subst htd
          have hc:(nd.any fun j=>(listed.setIfInBounds i true).getD j false && ((ops[j]?).bind (·.dst) == some t))=true:=by
           rw [dk];exact ⟨i,hnd,by rw [show (listed.setIfInBounds i true).getD i false=true by simp [hsz,(aT.1 hoi).1],hoi,Option.bind_some,hdd'];simp⟩
          rw [upd_same,if_pos hc,g3]
         ·rw [upd_ne _ _ _ _ htd]
          have:(nd.any fun j=>listed.getD j false && ((ops[j]?).bind (·.dst) == some t))=nd.any fun j=>(listed.setIfInBounds i true).getD j false && ((ops[j]?).bind (·.dst) == some t):=by
           refine List.any_congr rfl fun j=>?_
           by_cases hji:i=j
           ·subst hji
            have e1:((ops[i]?).bind (·.dst) == some t)=false:=by rw [hoi,Option.bind_some,hdd'];simpa using Ne.symm htd
            rw [e1,Bool.and_false,Bool.and_false]
           ·rw [getD_set_ne false hji]
          rw [this]
        ·show max S.n e.n=S.n
         rw [hn] at p5;omega
       rw [<- e2];exact hg'
     ·exfalso
      have h1:=hB i (aT.1 hoi).1;have hc:(i == k || nd.contains i)=false:=by simp [hik,hnd]
      simp only [hoi,hc,cN,if_false,dk] at h1;obtain ⟨d,hd1,hd2⟩:=h1
      have h3:=hin d (hdl d hd1)
      rcases cL _ _ ▸ hd2 with h4|h4
      ·exact hkn (by rw [<- beq_iff_eq.1 h4];exact h3)
      ·simp [h3] at h4
 have e0:KT ops nd S SF (Array.replicate ops.size false)=S:=by
  have:∀ j,(Array.replicate ops.size false).getD j false=false:=fun j=>by
   by_cases hj:j < ops.size <;> simp [hj]
  simp [KT,this]
 have:=main ops.size (Array.replicate ops.size false) a { w with drawn:=w.drawn+1 } (by simp) (fun i hi=>by
  by_cases hj:i < ops.size <;> simp [hj] at hi) (by have:=dY (fun i=>!(Array.replicate ops.size false).getD i false) nd;omega) (by rw [e0];exact hg.calm (Ext.drew _ w))
 exact wpIn_region_any hE.mixed this
end Go.Sym
namespace Go.Sym
open Go Go.RowKit
variable {P : Program}
def FnG.of_callsB {E:Value->Ending} {B:Ctx->Prop} {T:World->Prop} (hT:∀ y J own w ρ,B ⟨y,J,own,w,ρ⟩->J 0 own w->T w) {f:FuncId} {az:List AV} {h0:Nat->Option AObj} {v:AV} (en:∀ vs w,(callFunc f vs).run P w=.ok (.enter f vs) w)
  (h:∀ (w:World) (ok:Nat->Prop) (ρ:Nat->Value) (y:Value) (vs:Array Value),T w->(∀ i o,h0 i=some o->ORel w ok ρ y o (ρ i))->vs.size=az.length->(∀ i c,az[i]?=some c->ARel w ok ρ y c (vs.getD i undef)) ->
   Calls P f vs w fun e w'=>∃ x,e=E x/\Below w.heap.size w w'/\∀ ok':Nat->Prop,(∀ b,ok b->ok' b)->(∀ b,w.heap.size<=b->b < w'.heap.size->ok' b)->ARel w' ok' ρ y v x):FnG E B P f az h0 v h0 0 where
 enter:=en
 calls:=fun y J hJ own w ρ vs hB H hs ha=>wo (h w _ ρ y vs (hT _ _ _ _ _ hB H.jay) H.obj hs ha) fun e w' ⟨x,he,hw,hx⟩=>by
  have ex:∀ mod:Nat->Prop,Ext mod w w':=fun mod=>⟨hw.os,hw.tape,hw.output,hw.size,fun k hk _=>hw.block k hk⟩
  have ok:∀ b,okB w own ρ h0 b->okB w' own ρ h0 b/\w'.heap[b]?=w.heap[b]?:=fun b ⟨h1,h2,h3⟩=>⟨⟨aN h1 hw.size,h2,h3⟩,hw.block b h1⟩
  refine ⟨x,own,ρ,he,⟨(hJ _ _ _ H.jay).2 w' (ex _),fun i o hi=>(H.obj i o hi).mono ok (fun b hb=>hw.block b ((H.obj i o hi).lt hb)) (fun _ _=>rfl),H.inj,H.off⟩,hx _ (fun b hb=>(ok b hb).1) fun b h1 h2=>⟨h2,fun hp=>?_,fun i o hi hb=>?_⟩,ex _,fun b h=>.inl h,fun _=>rfl,fun _ _ _=>rfl,fun i o b hi hb=>.inr ⟨i,o,hi,hb⟩⟩
  ·exact absurd ((hJ _ _ _ H.jay).1 b (own.sub b hp)) (by omega)
  ·exact absurd ((H.obj i o hi).lt hb) (by omega)
def FnG.of_callsT {E:Value->Ending} {T:World->Prop} {f:FuncId} {az:List AV} {h0:Nat->Option AObj} {v:AV} (en:∀ vs w,(callFunc f vs).run P w=.ok (.enter f vs) w)
  (h:∀ (w:World) (ok:Nat->Prop) (ρ:Nat->Value) (y:Value) (vs:Array Value),T w->(∀ i o,h0 i=some o->ORel w ok ρ y o (ρ i))->vs.size=az.length->(∀ i c,az[i]?=some c->ARel w ok ρ y c (vs.getD i undef)) ->
   Calls P f vs w fun e w'=>∃ x,e=E x/\Below w.heap.size w w'/\∀ ok':Nat->Prop,(∀ b,ok b->ok' b)->(∀ b,w.heap.size<=b->b < w'.heap.size->ok' b)->ARel w' ok' ρ y v x):FnG E (jh T) P f az h0 v h0 0:=FnG.of_callsB (B:=jh T) (fun _ _ own w _ hB hj=>hB 0 own w hj) en h
def FnX.of_callsT {ch:List PanicEntry} {T:World->Prop} {f:FuncId} {az:List AV} {h0:Nat->Option AObj} (en:∀ vs w,(callFunc f vs).run P w=.ok (.enter f vs) w)
  (h:∀ (w:World) (ok:Nat->Prop) (ρ:Nat->Value) (y:Value) (vs:Array Value),T w->(∀ i o,h0 i=some o->ORel w ok ρ y o (ρ i))->vs.size=az.length->(∀ i c,az[i]?=some c->ARel w ok ρ y c (vs.getD i undef)) ->
   Calls P f vs w fun e w'=>e=.panicked ch/\Below w.heap.size w w'):FnX ch (jh T) P f az h0 h0 :=
 FnG.of_callsT en fun w ok ρ y vs hT hh hs ha=>wo (h w ok ρ y vs hT hh hs ha) fun _ _ ⟨he,hw⟩=>⟨undef,he,hw,fun _ _ _=>.junk⟩
def Qiz {ch:List PanicEntry} {N:St->Prop} {K:Exit->St->Prop} {S:St} (h:K (.panic ch) S):ZU N K (.panic ch) S:=h
def Qfe {ch:List PanicEntry} {id:Nat} {K:Exit->St->Prop} {S:St} (h:K (.panic ch) S):yQ id K (.panic ch) S:=h
def Jq (ch:List PanicEntry) (spec:List AV->Prop):Q3:=fun _ bs=>some ({ pre:=spec bs,ar:=bs,v:=.junk },ch)
def Y4 {ch:List PanicEntry} {T:World->Prop} {f:FuncId} {spec:List AV->Prop} (h:∀ az,spec az->FnX ch (jh T) P f az noH noH):XOK (zQ T) P f (Jq ch spec):=fun S bs q c hq hp=>by
 simp only [Jq,ak,Prod.mk.injEq] at hq;obtain ⟨rfl,rfl⟩:=hq
 exact ⟨rfl,jh T,fun _ _ _ _ _ _ _ h=>WB h,h bs hp⟩
def Qfy {w w':World} {ok':Nat->Prop} {ρ:Nat->Value} {y:Value} {l:List (List UInt8)} {t:TypeId} (hw:w'=w.alloc (.cells (l.map fun s=>Value.string ⟨⟨s⟩⟩).toArray t)) (h0:0 < l.length) (hm:l.length<=maxLen) (hok:ok' w.heap.size) :
  ARel w' ok' ρ y (.sl (l.map qp)) (.slice (some ⟨w.heap.size,0,none⟩) l.length l.length):=by
 subst hw;refine .sl (.sl (k:=1) (fun i _=>Value.string ⟨⟨l.getD i []⟩⟩) (by simp) h0 (ag _) hm (by omega) (fun i r hr=>?_) (fun i r j d hr hd=>?_) (fun i r j d hr hd=>?_) hok)
 all_goals
  rw [aC] at hr;obtain ⟨s,hs,rfl⟩:=aA.1 hr
 ·rfl
 ·have hj:j=0:=by
   cases j with
   |zero=>rfl
   |succ j=>simp [qp] at hd
  subst hj;rw [jm]
  have hi:i < l.length:=(aq.1 hs).1;have hg:l.getD i []=l[i]:=by simp [hi]
  have hh:(w.alloc (.cells (l.map fun s=>Value.string ⟨⟨s⟩⟩).toArray t)).heap[w.heap.size]?=some (.cells (l.map fun s=>Value.string ⟨⟨s⟩⟩).toArray t):=Array.getElem?_push_size
  have hz:(Array.mk (l.map fun s=>Value.string ⟨⟨s⟩⟩))[0+(i * 1+0)]?=some (.string ⟨⟨l.getD i []⟩⟩):=by simp [hi,hg]
  simp only [World.cell?,hh];exact hz
 ·have hj:j=0:=by
   cases j with
   |zero=>rfl
   |succ j=>simp [qp] at hd
  subst hj;have hg:l.getD i []=s:=by simp [ah,hs]
  simp only [qp,aK,ak] at hd;subst hd
  rw [hg];exact .v rfl
end Go.Sym
namespace Go.Sym
open Go
variable {A : Frm -> Prop} {P : Program}
def RecE (P:Program) (f:FuncId) (ch:List PanicEntry):Prop:=(∀ vs w,(callFunc f vs).run P w=.ok (.enter f vs) w)/\∀ w,CallsDIn (W none) 0 P f #[] (.panicking ch) w fun e u w'=>(∃ v,e=.returned v)/\settle u=.returning/\Ext (fun _=>False) w w'
def RetE (P:Program) (f:FuncId):Prop:=(∀ vs w,(callFunc f vs).run P w=.ok (.enter f vs) w)/\∀ w,CallsDIn (W none) 0 P f #[] .returning w fun e u w'=>(∃ v,e=.returned v)/\u=.returning/\Ext (fun _=>False) w w'
def dE (fr:FuncId):xu:=fun f caps S K=>f=fr/\caps=[]/\K S
def dE_ok {fr:FuncId} (h:RetE P fr):xu.OK A P (dE fr):=fun f caps S K ⟨hf,hc,hk⟩=>by
 subst hf hc;refine ⟨h.1,fun F _ a w ρ own H vs hv _=>?_⟩
 have:vs=#[]:=cY (by simpa using hv)
 subst this;refine CallsDIn.mono (n:=0) (h.2 w) ?_
 rintro e u w' ⟨⟨v,rfl⟩,rfl,hx⟩;exact ⟨v,S,rfl,rfl,hk,ρ,own,H.calm hx⟩
def Fn.ofE {B:Ctx->Prop} {O:Tys} {D:xu} {f:FuncId} {fn:Func} {c:Code} (hd:FnData P O f fn c) {az:List AV} {n0:Nat} {h0:Nat->Option AObj} {v:AV} {h1:Nat->Option AObj} {dj:Nat} {fr:FuncId} {ok:List PanicEntry->Prop} (hR:∀ ch,ok ch->RecE P fr ch)
  (has:az.length<=fn.ntmps) (hids:∀ a ∈ az,∀ id ∈ a.ids,id < n0) (hh0:∀ i o,h0 i=some o->i < n0/\∀ id ∈ o.ids,id < n0)
  (hA:∀ F,B ⟨F.y,F.J,F.own0,F.w0,F.ρ0⟩->F.H0=h0->F.r=none->A F) (hD:xu.OK A P D)
  (hs:Sym A P c (wW az n0 h0) (retR O D fn fr ok fun S rv=>Fin S rv v n0 h1 dj)):Fn B P f az h0 v h1 dj:=by
 refine ⟨hd.enter,fun y J hJ own w ρ vs hB hp hsz hrel=>?_⟩
 have hF:A (Qf0 y J hJ own w ρ h0 n0 fn.ntmps hh0):=hA _ hB rfl rfl;have hbody:=hs _ hF hd.dst _ w (Xe hJ has hids hh0 hp hsz hrel)
 refine Jp (r:=none) (callsIn_of_wp_marks hd.func hd.body trivial (wpIn_mono hbody ?_))
 rintro e a' w' ⟨S',hk,hg'⟩;cases e with
 |normal=>exact Wh hd.ok hD hF (fun i o hi=>(hh0 i o hi).1) hg' hk
 |ret=>exact Wh hd.ok hD hF (fun i o hi=>(hh0 i o hi).1) hg' hk
 |panic ch =>
  obtain ⟨hok,hds,hres⟩:=hk;obtain ⟨hent,hrec⟩:=hR ch hok
  obtain ⟨ρ2,own2,H2⟩:=hg';obtain ⟨x,xs,hx,hdr,H3⟩:=H2.pop hds
  have hdf:=H3.defs;generalize hxs:xs=l at hdf
  cases hdf;subst hxs
  show LeavesInM (W none) 0 P fn a'.tmps _ a'.defers (.panicking ch) w'
  rw [hx];cases hdr with
  |@call _ _ cvs h1 h2 =>
   refine ⟨by simp,.inr ⟨fun h=>by simp [W] at h,.func fr,cvs,fr,#[]++cvs,rfl, ?_,fun g _=>trivial, ?_⟩⟩
   ·simp [invoke,hent]
   ·have:cvs=#[]:=cY (by simpa using h1)
    subst this;refine CallsDIn.mono (n:=0) (hrec w') ?_
    rintro e u w2 ⟨⟨u0,rfl⟩,hu,hext⟩;show LeavesInM (W none) 0 P fn a'.tmps _ [] (settle u) w2
    rw [hu];have H4:=H3.calm hext
    obtain ⟨avs,v',hQ,hrun,hrv⟩:=ZQ hd.ok H4 hres;exact ⟨v',hrun,VS H4 hQ (fun i o hi=>(hh0 i o hi).1) hrv⟩
 |_=>exact hk.elim
def VE.anti {A A':Frm->Prop} (h:∀ F,A' F->A F) {ops:Array Oper} {o:Oper} {e:Eff} {S:St} (hv:VE A P ops o e S):VE A' P ops o e S:=⟨fun F hF=>hv.valid F (h F hF),hv.ids,hv.news⟩
def qc.anti {A A':Frm->Prop} (h:∀ F,A' F->A F) {f:FuncId} {E:St->List AV->Ans} (hh:qc A P f E):qc A' P f E:=fun S bs h1 hS ops o g args tys caps hw ho hg hb=>(hh S bs h1 hS ops o g args tys caps hw ho hg hb).anti h
def XOK.anti {A A':Frm->Prop} (h:∀ F,A' F->A F) {f:FuncId} {X:Q3} (hh:XOK A P f X):XOK A' P f X:=fun S bs q ch hq hp=>let ⟨h1,B,hB,hf⟩:=hh S bs q ch hq hp;⟨h1,B,fun F S hs bo ρ own w hF=>hB F S hs bo ρ own w (h F hF),hf⟩
def tabN (T:World->Prop) (F:Frm):Prop:=zQ T F/\F.r=none
def QaW {T:World->Prop}:∀ F,tabN T F->zQ T F:=fun _ h=>h.1
def QkT {T:World->Prop}:∀ F,tabN T F->F.r=none:=fun _ h=>h.2
def Jc_in {J:JJ} {s j k:Nat} {Pr Pr':Nat->Prop} {w0 w1 w2:World} {own:Own} (hh:∀ b,Pr b->w1.heap[b]?=w0.heap[b]?) (h:Jc (Jc J s Pr w0) j Pr' w1 k own w2) :
  Jc J (s+j) (fun b=>Pr' b\/Pr b) w1 k own w2:=by
 obtain ⟨o1,⟨o2,hj,a1,a2,a3⟩,b1,b2,b3⟩:=h;refine ⟨o2,by rw [ck];exact hj,fun b=>?_,fun b=>?_, ?_⟩
 ·rw [b1,a1];constructor
  ·rintro ((h|h)|h)
   ·exact .inl h
   ·exact .inr (.inr h)
   ·exact .inr (.inl h)
  ·rintro (h|h|h)
   ·exact .inl (.inl h)
   ·exact .inr h
   ·exact .inl (.inr h)
 ·rw [b2,a2];constructor
  ·rintro ((h|h)|h)
   ·exact .inl h
   ·exact .inr (.inr h)
   ·exact .inr (.inl h)
  ·rintro (h|h|h)
   ·exact .inl (.inl h)
   ·exact .inr h
   ·exact .inl (.inr h)
 ·rintro b (h|h)
  ·obtain ⟨c1,c2,c3⟩:=b3 b h
   exact ⟨fun hn=>c1 ((a1 b).2 (.inl hn)),c2,c3⟩
  ·obtain ⟨c1,c2,c3⟩:=a3 b h
   exact ⟨c1,c2,c3.trans (hh b h).symm⟩
def QkS {J:JJ} {s j k:Nat} {Pr Pr':Nat->Prop} {w0 w1 w2:World} {own:Own} (hh:∀ b,Pr b->w1.heap[b]?=w0.heap[b]?) (hd:∀ b,Pr' b->¬ Pr b) (h:Jc J (s+j) (fun b=>Pr' b\/Pr b) w1 k own w2) :
  Jc (Jc J s Pr w0) j Pr' w1 k own w2:=by
 obtain ⟨o2,hj,b1,b2,b3⟩:=h;refine ⟨QdS o2 Pr,⟨o2,by rw [<- ck];exact hj,fun b=>Iff.rfl,fun b=>Iff.rfl,fun b hb=>?_⟩,fun b=>?_,fun b=>?_,fun b hb=>?_⟩
 ·obtain ⟨c1,c2,c3⟩:=b3 b (.inr hb)
  exact ⟨c1,c2,c3.trans (hh b hb)⟩
 ·rw [b1];show _ ↔ (o2.all b\/Pr b)\/Pr' b;constructor
  ·rintro (h|h|h)
   ·exact .inl (.inl h)
   ·exact .inr h
   ·exact .inl (.inr h)
  ·rintro ((h|h)|h)
   ·exact .inl h
   ·exact .inr (.inr h)
   ·exact .inr (.inl h)
 ·rw [b2];show _ ↔ (o2.prv b\/Pr b)\/Pr' b;constructor
  ·rintro (h|h|h)
   ·exact .inl (.inl h)
   ·exact .inr h
   ·exact .inl (.inr h)
  ·rintro ((h|h)|h)
   ·exact .inl h
   ·exact .inr (.inr h)
   ·exact .inr (.inl h)
 ·obtain ⟨c1,c2,c3⟩:=b3 b (.inl hb)
  exact ⟨fun hn=>hn.elim c1 (hd b hb),c2,c3⟩
def Bcb.pass {F:Frm} {S:St} {a:Act} {w:World} {ρ:Nat->Value} {own:Own} (H:Holds F S a w ρ own) {hp h0 h0':Nat->Option AObj} {ys:Nat->List AV} {hl:Nat->Nat->Option AObj} {ans:Nat->Bool} {R R':Nat}
  (hA:Acb P hp h0 ys hl ans R F) {hs bo:List Nat} (hpin:∀ i o,hp i=some o->hs[i]?=some i)
  (hob:∀ i o,h0' i=some o->∃ c ob,hs[i]?=some c/\S.h c=some ob) (hR:S.j+R'<=R) :
  Bcc P hp h0' (fun j=>ys (S.j+j)) (fun j=>hl (S.j+j)) (fun j=>ans (S.j+j)) R' (xZ F S hs bo ρ own w):=by
 obtain ⟨hH0,hsub,hB⟩:=hA;have hown0:∀ b,F.owns0 b ↔ ∃ i o,h0 i=some o/\blk (F.ρ0 i)=some b:=fun b=>by simp only [Frm.owns0,hH0]
 have hPr:∀ b,kZ S hs bo ρ b->F.w0.heap.size<=b\/∃ i o,h0 i=some o/\blk (F.ρ0 i)=some b:=by
  rintro b ⟨i,ob,hi,_,_,hb⟩;exact ((H.blkOK i ob b hi hb).2).imp id fun h=>(hown0 b).1 h
 have h0p:∀ i o b,h0' i=some o->blk (wG hs ρ i)=some b->F.w0.heap.size<=b\/∃ i o,h0 i=some o/\blk (F.ρ0 i)=some b:=by
  intro i o b hi hb;obtain ⟨c,ob,e1,e2⟩:=hob i o hi
  simp only [wG,e1] at hb;exact ((H.blkOK c ob b e2 hb).2).imp id fun h=>(hown0 b).1 h
 intro j hj Pr' own1 w1 ρ1 vs hHp hpins hext hnew hprv hsz hrel;simp only [xZ] at hHp hpins hext hnew hprv hrel ⊢
 have hjay:=hHp.1;have hh:∀ b,kZ S hs bo ρ b->w1.heap[b]?=w.heap[b]?:=fun b hb=>by
  obtain ⟨_,⟨_,_,_,_,a3⟩,_⟩:=hjay;exact (a3 b hb).2.2
 have hd:∀ b,Pr' b->¬ kZ S hs bo ρ b:=fun b hb hn=>by
  obtain ⟨o1,⟨o2,_,a1,_,_⟩,_,_,b3⟩:=hjay;exact (b3 b hb).1 ((a1 b).2 (.inr hn))
 have hans:=hB (S.j+j) (by omega) (fun b=>Pr' b\/kZ S hs bo ρ b) own1 w1 ρ1 vs ⟨Jc_in hh hHp.1,hHp.2,hHp.3,hHp.4⟩
  (fun i o hi=>by
   obtain ⟨o',ho'⟩:=hsub i o hi;rw [hpins i o hi]
   simp only [wG,hpin i o hi];exact H.pins i o' (by rw [hH0];exact ho'))
  ((H.ext.weaken fun b _ h=>h.imp id fun h=>(hown0 b).1 h).trans hext fun b hlt hb=>by
   rcases hb with (hb|hb)|⟨i,o,hi,hb⟩
   ·rcases H.ownsub b hb with h|h
    ·exact .inl h
    ·omega
   ·rcases hPr b hb with h|h
    ·omega
    ·exact .inr h
   ·rcases h0p i o b hi hb with h|h
    ·omega
    ·exact .inr h)
  (fun i o b hi hb=>by
   rcases hnew i o b hi hb with h|⟨k,o',hk,hb'⟩
   ·exact .inl (bj H.ext.size h)
   ·exact h0p k o' b hk hb')
  (fun b hb=>by
   rcases hprv b hb with (h|h)|h|⟨k,o',hk,hb'⟩
   ·rcases H.ownsub b h with h|h
    ·exact .inl h
    ·exact .inr (.inl h)
   ·exact .inr (hPr b h)
   ·exact .inr (.inl (bj H.ext.size h))
   ·exact .inr (h0p k o' b hk hb')) hsz hrel
 refine JU.mono hans ?_
 rintro e w' ⟨he,own',hp',hx',hpv'⟩;exact ⟨he,own',⟨QkS hh hd hp'.1,hp'.2,hp'.3,hp'.4⟩,hx',hpv'⟩
structure PkI where
 q:Pk
 dj:Nat
def Qgh (hs:List Nat) (n:Nat):Nat->List AObj->List (Nat × AObj)
 |_,[]=>[]
 |k,o :: os=>(zb hs n k,o.ren (zb hs n)) :: Qgh hs n (k+1) os
def Qfj (N:Nat):List AObj->Prop
 |[]=>True
 |o :: os=>(o.nocb/\∀ id ∈ o.ids,id < N)/\Qfj N os
def argQ (N:Nat):List AV->Prop
 |[]=>True
 |c :: cs=>(c.nocb/\∀ id ∈ c.ids,id < N)/\argQ N cs
def keyIn (n:Nat) (H:List (Nat × AObj)) (id:Nat):Prop:=id < n/\id ∈ H.map (·.1)
def Qb4 (n:Nat) (H:List (Nat × AObj)):List Nat->Prop
 |[]=>True
 |i :: r=>keyIn n H i/\Qb4 n H r
def Ld:List (Nat × AV)->List Nat
 |[]=>[]
 |p :: r=>p.2.ids++Ld r
def Kv {id:Nat}:∀ {L:List (Nat × AV)} {p:Nat × AV},p ∈ L->id ∈ p.2.ids->id ∈ Ld L
 |q :: r,p,hp,hid=>by
  rcases ae.1 hp with rfl|hp
  ·exact List.mem_append_left _ hid
  ·exact dS _ (Kv hp hid)
structure RangeJ (L:List (Nat × AV)) (ps hs:List Nat) (n m nl:Nat) (d:List ADf) (H:List (Nat × AObj)) (Lt:List AObj) (y:List AV):Prop where
 own:Qa5 (n+1) ((n,.mark) :: H)
 len:Lt.length=hs.length+nl
 lent:Qfj (hs.length+nl) Lt
 args:argQ (hs.length+nl) y
 plen:ps.length=y.length
 keys:Qb4 (n+1) ((n,.mark) :: H++Qgh hs (n+1) 0 Lt) (List.range m++(hs++(Ld L++(ADf.mark n :: d).flatMap ADf.ids)))
def Qg5 (S:St) (hf:Nat->Option AObj) (hs:List Nat) (n:Nat):Nat->List AObj->Prop
 |_,[]=>True
 |k,o :: os=>(match S.h (zb hs n k) with|some ob=>AObj.le hf (fun j=>some (zb hs n j)) ob o|none=>False)/\Qg5 S hf hs n (k+1) os
def X9 {S:St} {hf:Nat->Option AObj} {hs:List Nat} {n:Nat}:∀ {L:List AObj} {k:Nat},Qg5 S hf hs n k L->∀ (q:Nat) (o:AObj),L[q]?=some o->∃ ob,S.h (zb hs n (k+q))=some ob/\AObj.le hf (fun j=>some (zb hs n j)) ob o
 |o :: os,k,h,0,o',ho=>by
  simp only [aK,ak] at ho;subst ho
  have h1:=h.1;split at h1
  ·rename_i ob hob;exact ⟨ob,hob,h1⟩
  ·exact h1.elim
 |o :: os,k,h,q+1,o',ho=>by
  have:=X9 h.2 q o' (by simpa using ho)
  rwa [show k+1+q=k+(q+1) by omega] at this
def Qcu (hs:List Nat) (n:Nat):Nat->List AObj->List Nat
 |_,[]=>[]
 |k,_ :: os=>zb hs n k :: Qcu hs n (k+1) os
def YB {hs:List Nat} {n:Nat}:∀ {L:List AObj} {k q:Nat},q < L.length->zb hs n (k+q) ∈ Qcu hs n k L
 |o :: os,k,0,_=>aV
 |o :: os,k,q+1,h=>by
  have:=YB (hs:=hs) (n:=n) (L:=os) (k:=k+1) (q:=q) (by simpa using h)
  rw [show k+1+q=k+(q+1) by omega] at this
  exact aQ _ this
structure RFinOK (S:St) (hs:List Nat) (n:Nat) (own:List (Nat × AObj)) (Lt:List AObj) (kp:List Nat) (Z:Nat->Option Nat) (fz:List Nat):Prop where
 h:leH S (fun i=>if i ∈ fz then S.h i else none) Z own
 l:Qg5 S (fun i=>if i ∈ fz then S.h i else none) hs n 0 Lt
 img:(JW Z own).Nodup
 apart:∀ i ∈ JW Z own,i ∉ Qcu hs n 0 Lt
 frz:∀ i ∈ fz,i ∉ JW Z own/\i ∉ Qcu hs n 0 Lt
 pin:∀ i ∈ kp,Z i=some i
def RFin.ok {S:St} {L:List (Nat × AV)} {hs:List Nat} {n m:Nat} {d:List ADf} {own:List (Nat × AObj)} {Lt:List AObj} (Z:Nat->Option Nat) (fz:List Nat) (h:RFinOK S hs (n+1) own Lt (List.range m++(hs++(Ld L++(ADf.mark n :: d).flatMap ADf.ids))) Z fz) :
  RFin S hs (n+1) own (nth Lt) (Qkn (asg L) hs n m d) Z (fun i=>if i ∈ fz then S.h i else none):=by
 refine ⟨fun i o1 ho=>Y3 h.h _ (qB ho),fun q o0 ho=>?_,fun i o k o' c h1 h2 e1 e2=>?_,fun i o q o0 h1 h2 e=>?_,fun i o hi=>?_,fun id hid=>?_⟩
 ·have:=X9 h.l q o0 ho
  rwa [bE] at this
 ·rcases JN h.img _ (qB h1) _ (qB h2) c e1 e2 with h|h|h
  ·exact congrArg (·.1) h
  ·exact h
  ·exact h.elim
 ·have hm:=YB (hs:=hs) (n:=n+1) (L:=Lt) (k:=0) (q:=q) (aq.1 h2).1
  rw [bE] at hm;exact h.apart _ (ca.2 ⟨_,qB h1,e⟩) hm
 ·by_cases hm:i ∈ fz
  ·rw [if_pos hm] at hi
   refine ⟨hi,fun j o1 hj hs=>(h.frz i hm).1 (ca.2 ⟨_,qB hj,hs⟩),fun q o0 hq e=>?_⟩
   have hm':=YB (hs:=hs) (n:=n+1) (L:=Lt) (k:=0) (q:=q) (aq.1 hq).1;rw [bE,e] at hm'
   exact (h.frz i hm).2 hm'
  ·rw [if_neg hm] at hi;cases hi
 ·refine h.pin id ?_
  simp only [au,aF]
  rcases hid with h|h|⟨t,h⟩|h
  ·exact .inl h
  ·exact .inr (.inl h)
  ·refine .inr (.inr (.inl ?_))
   rcases Ro L t with e|⟨p,hp,_,e⟩
   ·rw [e] at h;simp [AV.ids] at h
   ·rw [e] at h;exact Kv hp h
  ·exact .inr (.inr (.inr h))
structure RoundOf (F:Frm) (j:Nat) (H:Nat->Option AObj) (F':Frm):Prop where
 y:F'.y=F.y
 r:∃ l,F'.r=some l
 H0:F'.H0=H
 jay:∃ Pr wj,F'.J=Jc F.J j Pr wj
 rho:∀ i o,F.H0 i=some o->(∃ o',H i=some o')->F'.ρ0 i=F.ρ0 i
 ext:Ext (fun b=>F.own0.prv b\/F.owns0 b) F.w0 F'.w0
 prv:∀ b,F'.own0.prv b->F.own0.prv b\/F.w0.heap.size<=b\/F.owns0 b
 owns:∀ b,F'.owns0 b->F.w0.heap.size<=b\/F.owns0 b
structure RangeQ (L:List (Nat × AV)) (xs ps hs:List Nat) (n m nl:Nat) (d:List ADf) (H:List (Nat × AObj)) (Lt:List AObj) (y:List AV):Prop where
 own:Qa5 (n+1) ((n,.mark) :: H)
 len:Lt.length=hs.length+nl
 lent:Qfj (hs.length+nl) Lt
 args:argQ (hs.length+nl) y
 plen:ps.length=y.length
 keys:Qb4 (n+1) ((n,.mark) :: H++Qgh hs (n+1) 0 Lt) ((List.range m).filter (fun i=>!xs.contains i)++(hs++(Ld L++(ADf.mark n :: d).flatMap ADf.ids)))
structure FnD (P:Program) (f:FuncId) (az:List AV) (h0:Nat->Option AObj) (v:AV) (h1:Nat->Option AObj):Prop where
 enter:∀ vs w,(callFunc f vs).run P w=.ok (.enter f vs) w
 calls:∀ (y:Value) (J:JJ),J.Stable->∀ (own:Own) (w:World) (ρ:Nat->Value) (vs:Array Value),Hp J y h0 0 own w ρ->vs.size=az.length ->
  (∀ i c,az[i]?=some c->ARel w (okB w own ρ h0) ρ y c (vs.getD i undef)) ->
  CallsDIn (W none) 0 P f vs .returning w fun e u w'=>u=.returning/\∃ v' own' ρ',e=.returned v'/\Hp J y h1 0 own' w' ρ'/\ARel w' (okB w' own' ρ' h1) ρ' y v v'/\Ext (fun b=>own.prv b\/∃ i o,h0 i=some o/\blk (ρ i)=some b) w w' /\
   (∀ b,own'.prv b->own.prv b\/w.heap.size<=b)/\own'=own/\(∀ i o,h0 i=some o->ρ' i=ρ i)/\(∀ i o b,h1 i=some o->blk (ρ' i)=some b->w.heap.size<=b\/∃ k o',h0 k=some o'/\blk (ρ k)=some b)
def retD (O:Tys) (fn:Func) (Q:St->AV->Prop):Exit->St->Prop
 |.normal,S=>S.d=[]/\ZJ O S fn.results.toList fun vs=>Q S (Jb vs)
 |.ret,S=>S.d=[]/\ZJ O S fn.results.toList fun vs=>Q S (Jb vs)
 |_,_=>False
def FnD.of {O:Tys} {f:FuncId} {fn:Func} {c:Code} (hd:FnData P O f fn c) {az:List AV} {n0:Nat} {h0:Nat->Option AObj} {v:AV} {h1:Nat->Option AObj}
  (has:az.length<=fn.ntmps) (hids:∀ a ∈ az,∀ id ∈ a.ids,id < n0) (hh0:∀ i o,h0 i=some o->i < n0/\∀ id ∈ o.ids,id < n0)
  (hs:Sym (fun F=>F.r=none) P c (wW az n0 h0) (retD O fn fun S rv=>Fin S rv v n0 h1 0)):FnD P f az h0 v h1:=by
 refine ⟨hd.enter,fun y J hJ own w ρ vs hp hsz hrel=>?_⟩
 let F:Frm:={ r:=none,y,J,stable:=hJ,w0:=w,ρ0:=ρ,H0:=h0,own0:=own,n0,nt:=fn.ntmps,pinn:=fun i o h=>(hh0 i o h).1,recs:=fun _ h=>by cases h }
 have hlen:vs.size<=fn.ntmps:=by omega
 let a:Act:={ tmps:=vs++Array.replicate (fn.ntmps - vs.size) undef,defers:=[] }
 have hg:Gam F (wW az n0 h0) a w:=by
  refine ⟨ρ,own,hp.jay,fun t=>?_,hp.obj,hp.inj,fun i o b hi hb=>⟨hp.off i o b hi hb,.inr ⟨i,o,hi,hb⟩⟩,fun id hid=>⟨?_,fun t hm=>?_,fun i o hi hm=>?_,by simp [wW]⟩,ag _,rfl,by simp [a,F];omega,fun _ _ _=>rfl,Ext.refl _ _,fun b hb=>.inl hb,fun _=>rfl,.nil⟩
  ·show ARel w _ ρ y (asg (Ub 0 az) t) _
   rw [Z7 0 az 0 t (af _),bw];cases hc:az[t]? with
   |none=>exact .junk
   |some c =>
    have ht:t < vs.size:=by rw [hsz];exact (aq.1 hc).1
    have e:a.tmps.getD t undef=vs.getD t undef:=by simp [a,cP,ht]
    rw [e];exact hrel t c hc
  ·show h0 id=none
   cases ho:h0 id with
   |none=>rfl
   |some o=>have:=(hh0 id o ho).1;have:n0<=id:=hid;omega
  ·simp only [wW] at hm
   rw [Z7 0 az 0 t (af _),bw] at hm;cases hc:az[t]? with
   |none=>rw [hc] at hm;simp [AV.ids] at hm
   |some c=>rw [hc] at hm;have:=hids c (ao hc) id hm;have:n0<=id:=hid;omega
  ·have:=(hh0 i o hi).2 id hm;have:n0<=id:=hid;omega
 have hbody:=hs F rfl hd.dst a w hg;have hlv:∀ S' (a':Act) w',Gam F S' a' w'->(S'.d=[]/\ZJ O S' fn.results.toList fun vs=>Fin S' (Jb vs) v n0 h1 0)->a'.defers=[]/\∃ v',(results fn a'.tmps).run P w'=.ok v' w'/\∃ v'' own' ρ',Ending.returned v'=.returned v''/\Hp J y h1 0 own' w' ρ'/\ARel w' (okB w' own' ρ' h1) ρ' y v v''/\Ext (fun b=>own.prv b\/∃ i o,h0 i=some o/\blk (ρ i)=some b) w w' /\
   (∀ b,own'.prv b->own.prv b\/w.heap.size<=b)/\own'=own/\(∀ i o,h0 i=some o->ρ' i=ρ i)/\(∀ i o b,h1 i=some o->blk (ρ' i)=some b->w.heap.size<=b\/∃ k o',h0 k=some o'/\blk (ρ k)=some b):=by
  rintro S' a' w' ⟨ρ2,own2,H2⟩ ⟨hd0,hres⟩;have hdf:=H2.defs
  rw [hd0] at hdf;have hnil:a'.defers=[]:=by
   generalize a'.defers=l at hdf;cases hdf;rfl
  obtain ⟨avs,v',hQ,hrun,hrv⟩:=ZQ hd.ok H2 hres;obtain ⟨ρ3,hp3,hv3,hpin3,hbl3⟩:=Qhc H2 hQ fun i o hi=>(hh0 i o hi).1
  obtain ⟨_,_,_,_,_,_,_,hj3⟩:=hQ;exact ⟨hnil,v',hrun,v',own2,ρ3,rfl,hp3,hv3 _ hrv,H2.ext,H2.ownsub,H2.still hj3,hpin3,hbl3⟩
 refine callsDIn_of_wp hd.func hd.body trivial (wpIn_mono hbody ?_)
 rintro e a' w' ⟨S',hk,hg'⟩;cases e with
 |normal=>exact hlv S' a' w' hg' hk
 |ret=>exact hlv S' a' w' hg' hk
 |_=>exact hk.elim
def Qg2 (hAr:∀ F,A F->F.r=none) {ops:Array Oper} {o:Oper} {S:St} (hS:Wf S) (hw:Want ops o S) {g:Operand} {tys:Array TypeId} (ho:o.op=.defer { callee:=.value g,args:=#[],argTypes:=tys }) {f:FuncId} {caps:List AV} (hg:ev S g=.clo f caps) :
  VE A P ops o { av:=.junk,n:=S.n,dd:=[.call f caps] } S:=by
 have hids:∀ id ∈ AV.idsL caps,id < S.n:=fun id hid=>jO hS g id (by rw [hg];exact hid)
 refine ⟨fun F hF hds S2 a w hag hfr2 ⟨ρ,own,H⟩=>?_,fun id hid=>hids id (by simpa [Eff.ids,AV.ids,zM,ADf.ids] using hid),by simp⟩
 rw [wN hw hag H,if_pos rfl];have hgv:=qm H g
 rw [hag.ev (x:=g) (by simp [ho,Op.operands,Call.operands]),hg] at hgv
 generalize hgv':a.eval g=gv at hgv;cases hgv with
 |@clo _ _ cvs hcs hcr =>
  have hexec:(execOp a.eval o).run P w=.ok (.defer ⟨.fn (.func f) cvs,#[]⟩) w:=by
   simp [execOp,ho,resolve,Deferred.ofValue,hgv']
  refine ⟨vW o a w F.r, ?_⟩
  rw [hAr F hF];show o.uponIn _ _ _ _ _ _ ((execOp a.eval o).run P w)
  rw [hexec,Oper.uponIn_defer];have:=H.app (dst:=o.dst) (e:={ av:=.junk,n:=S.n,dd:=[.call f caps] }) (w':=w) (ρ':=ρ) (own':=own) (v':=undef) (ds:=[⟨.fn (.func f) cvs,#[]⟩]) (vI hds) H.jay (Ext.refl _ _) (.inl rfl) (by simp) (fun _ _=>rfl) (by simp) .junk
   (fun i o hi _=>by simp [Eff.keys] at hi) (fun i k o o' b hi=>by simp [Eff.keys] at hi)
   (fun id hid=>aN (hids id (by simpa [Eff.ids,AV.ids,zM,ADf.ids] using hid)) (bD _ _)) (.cons (.call hcs hcr) .nil)
  refine ⟨ρ,own, ?_⟩
  have e:({ a with defers:=({ target:=.fn (.func f) cvs,args:=#[] }:Deferred) :: a.defers }:Act).put o.dst undef={ (a.put o.dst undef) with defers:=[⟨.fn (.func f) cvs,#[]⟩]++a.defers }:=by
   cases o.dst <;> rfl
  rw [e];exact this
def Qac {ops:Array Oper} {K:St->List Eff->Prop} {o:Oper}:∀ (l:List Oper) (S:St) (es:List Eff),Run A P ops l S es (fun S' es'=>∃ e,VE A P ops o e S'/\K (S'.app o.dst e) (e :: es'))->Run A P ops (l++[o]) S es K
 |[],_,_,h=>h
 |_ :: l,_,_,⟨e,hv,hr⟩=>⟨e,hv,Qac l _ _ hr⟩
def QfB (hAr:∀ F,A F->F.r=none) {O:Tys} {Φ:Ctr} (hE:Env A P O Φ) {id:Nat} {ops:Array Oper} {S:St} {K:Exit->St->Prop} {o:Oper} {g:Operand} {tys:Array TypeId} (hl:ops.toList=ops.toList.dropLast++[o])
  (ho:o.op=.defer { callee:=.value g,args:=#[],argTypes:=tys }) (hgd:o.guard=none)
  (h:∀ Q:St->Prop,(∀ S' f caps,ev S' g=.clo f caps->K .normal { t:=put S'.t o.dst .junk,h:=S'.h,n:=S'.n,j:=S'.j,d:=.call f caps :: S'.d,m:=S'.m }->Q S')->kY O Φ ops false Q ops.toList.dropLast S []):Sym A P (.region id ops false) S K:=fun F hF hd a w hg=>by
 refine Vq (A:=A) ?_ F hF hd a w hg
 rw [hl];have hr:=yu (A:=A) (P:=P) hE.tys hE.ctr ops.toList.dropLast S [] hg.wf (h (fun S'=>∃ f caps,ev S' g=.clo f caps/\K .normal { t:=put S'.t o.dst .junk,h:=S'.h,n:=S'.n,j:=S'.j,d:=.call f caps :: S'.d,m:=S'.m }) fun S' f caps h1 h2=>⟨f,caps,h1,h2⟩)
 have hwf:Run A P ops ops.toList.dropLast S [] fun S' _=>Wf S'/\∃ f caps,ev S' g=.clo f caps/\K .normal { t:=put S'.t o.dst .junk,h:=S'.h,n:=S'.n,j:=S'.j,d:=.call f caps :: S'.d,m:=S'.m }:=by
  have key:∀ (l:List Oper) (S:St) (es:List Eff),Wf S->Run A P ops l S es (fun S' es'=>(false=true->kS ops es'.reverse=true)/\∃ f caps,ev S' g=.clo f caps/\K .normal { t:=put S'.t o.dst .junk,h:=S'.h,n:=S'.n,j:=S'.j,d:=.call f caps :: S'.d,m:=S'.m }) ->
    Run A P ops l S es fun S' _=>Wf S'/\∃ f caps,ev S' g=.clo f caps/\K .normal { t:=put S'.t o.dst .junk,h:=S'.h,n:=S'.n,j:=S'.j,d:=.call f caps :: S'.d,m:=S'.m }:=by
   intro l
   induction l with
   |nil=>intro S es hS h;exact ⟨hS,h.2⟩
   |cons o1 l ih=>rintro S es hS ⟨e,hv,hr⟩;exact ⟨e,hv,ih _ _ (hS.app hv.ids) hr⟩
  exact key _ _ _ hg.wf hr
 refine Qac _ _ _ (QR (fun S' es' h=>?_) _ _ _ hwf)
 obtain ⟨hS',f,caps,h1,h2⟩:=h;refine ⟨_,Qg2 hAr hS' (.inl hgd) ho h1, ?_⟩
 have e:S'.app o.dst { av:=.junk,n:=S'.n,dd:=[.call f caps] }={ t:=put S'.t o.dst .junk,h:=S'.h,n:=S'.n,j:=S'.j,d:=.call f caps :: S'.d,m:=S'.m }:=by
  simp [St.app,ze]
 rw [e];exact h2
section
variable {b : Frame} {a : Act} {k : List Item} {cs : List Frame} {w : World} {F : Fence} {n : Nat} {Q : Exit -> Act -> World -> Prop}
def yB {c:Code}:step P (lone (b.atR a (.code (.scope c) :: k)) cs w)=.next (lone (b.atR a (.code c :: .inScope c :: k)) cs w) :=
 step_lone_go (by simp [stepG,stepG.exec,Frame.atR])
def VO {c:Code}:step P (lone (b.atR a (.inScope c :: k)) cs w)=.next (lone (b.atR a k) cs w) :=
 step_lone_go (by simp [stepG,stepG.exec,Frame.atR])
def Qa2 {c:Code} (h:c.wpIn F n P (Exit.noGoto Q) a w):(Code.scope c).wpIn F n P Q a w:=by
 intro b k cs hro hb hr;have h0:(lone (b.atR a (.code (.scope c) :: k)) cs w).fenced P F:=fenced_calm hb hr rfl
 obtain ⟨e,a₁,w₁,hq,harr⟩:=h b (.inScope c :: k) cs hro hb hr;cases e with
 |normal=>exact ⟨.normal,a₁,w₁,hq,.head h0 yB (StepsIn.trans harr (.one (fenced_calm hb hr rfl) VO))⟩
 |exit id =>
  have hx:exitTo id (.inScope c :: k)=exitTo id k:=by simp [exitTo]
  exact ⟨_,a₁,w₁,hq,fun k' hk=>.head h0 yB (harr.1 k' (by rw [hx];exact hk)),
   fun hr' hk=>let ⟨k₁,h1,h2⟩:=harr.2 hr' (by rw [hx];exact hk);⟨k₁,h1,.head h0 yB h2⟩⟩
 |goto l=>exact hq.elim
 |ret=>exact ⟨_,a₁,w₁,hq,.of_steps (.one h0 yB) harr⟩
 |panic ch=>exact ⟨_,a₁,w₁,hq,.of_steps (.one h0 yB) harr⟩
 |outgrown=>exact ⟨_,a₁,w₁,hq,.of_steps (.one h0 yB) harr⟩
end
def Rf (K:Exit->St->Prop):Exit->St->Prop
 |.goto _,_=>False
 |.normal,S=>K .normal S
 |.exit id,S=>K (.exit id) S
 |.ret,S=>K .ret S
 |.panic c,S=>K (.panic c) S
 |.outgrown,S=>K .outgrown S
def zw {c:Code} {S:St} {K:Exit->St->Prop} (h:Sym A P c S (Rf K)):Sym A P (.scope c) S K:=fun F hF hd a w hg=>by
 refine Qa2 (wpIn_mono (h F hF hd a w hg) ?_)
 rintro e a' w' ⟨S',hk,hg'⟩;cases e with
 |goto l=>exact hk.elim
 |_=>exact ⟨S',hk,hg'⟩
def zK {K:Exit->St->Prop} {S:St} (h:K .normal S):Rf K .normal S:=h
def zJ {K:Exit->St->Prop} {S:St} {id:Nat} (h:K (.exit id) S):Rf K (.exit id) S:=h
def zL {K:Exit->St->Prop} {S:St} (h:K .ret S):Rf K .ret S:=h
end Go.Sym
namespace Go.Sym
open Go Go.RowKit
variable {P : Program}
inductive Sp where
 |int (k:IntKind)
 |bool
 |sl (es:List Sp)
inductive Fl (P:Program):TypeId->List Sp->Prop
 |int {t:TypeId} {k:IntKind}:P.underlying t=some (.int k)->Fl P t [.int k]
 |bool {t:TypeId}:P.underlying t=some .bool->Fl P t [.bool]
 |sl {t e:TypeId} {es:List Sp}:P.underlying t=some (.slice e)->P.cellsOf e=es.length->0 < es.length->Fl P e es->Fl P t [.sl es]
 |struct {t:TypeId} {fs:Array Field} {L:List (List Sp)}:P.underlying t=some (.struct fs)->P.cellsOf t=L.flatten.length->L.length=fs.size ->
   (∀ (i:Nat) (f:Field) (l:List Sp),fs[i]?=some f->L[i]?=some l->Fl P f.type l) ->
   (∀ (i:Nat) (f:Field) (l:List Sp),fs[i]?=some f->L[i]?=some l->f.offset=(L.take i).flatten.length/\P.cellsOf f.type=l.length)->Fl P t L.flatten
inductive D1:Sp->DV->Prop
 |int {k:IntKind} {n:Int}:(Lit.int k n).wf=true->D1 (.int k) (.v (.int k n))
 |bool {b:Bool}:D1 .bool (.v (.bool b))
 |sl {es:List Sp} {xs:List (List DV)}:(∀ r ∈ xs,r.length=es.length)->(∀ r ∈ xs,∀ (j:Nat) (s:Sp) (d:DV),es[j]?=some s->r[j]?=some d->D1 s d)->xs.length<=maxLen->D1 (.sl es) (.sl xs)
structure DRow (w:World) (sps:List Sp) (ds:List DV) (cs:List Value):Prop where
 len:ds.length=sps.length
 clen:cs.length=sps.length
 shape:∀ (j:Nat) (s:Sp) (d:DV),sps[j]?=some s->ds[j]?=some d->D1 s d
 rel:∀ (j:Nat) (d:DV) (v:Value),ds[j]?=some d->cs[j]?=some v->DRel w (okW w) d v
def DRow.one {w:World} {s:Sp} {d:DV} {v:Value} (h:D1 s d) (hr:DRel w (okW w) d v):DRow w [s] [d] [v] :=
 ⟨rfl,rfl,fun j s' d' hs hd=>by
  cases j with
  |zero=>cases hs;cases hd;exact h
  |succ j=>simp at hs,fun j d' v' hd hv=>by
  cases j with
  |zero=>cases hd;cases hv;exact hr
  |succ j=>simp at hd⟩
def ZT {α:Type}:∀ {L:List (List α)} {q:Nat} {a:α},L.flatten[q]?=some a->∃ i l,L[i]?=some l/\(L.take i).flatten.length<=q/\l[q - (L.take i).flatten.length]?=some a
 |[],q,a,h=>by simp at h
 |x :: L,q,a,h=>by
  rw [cQ] at h
  by_cases hq:q < x.length
  ·rw [bp hq] at h
   exact ⟨0,x,rfl,by simp,by simpa using h⟩
  ·rw [bv (by omega)] at h
   obtain ⟨i,l,h1,h2,h3⟩:=ZT h;refine ⟨i+1,l,by simpa using h1, ?_, ?_⟩
   ·rw [List.take_succ_cons,cQ,aD];omega
   ·rw [List.take_succ_cons,cQ,aD,show q - (x.length+(L.take i).flatten.length)=q - x.length - (L.take i).flatten.length by omega];exact h3
def Qbz {α:Type} {L:List (List α)} {i j:Nat} {l:List α} (h:L[i]?=some l) (hj:j < l.length):L.flatten[(L.take i).flatten.length+j]?=l[j]?:=by
 have hlt:=(aq.1 h).1;have:L.flatten=(L.take i).flatten++(L.drop i).flatten:=by rw [<- dZ,dt]
 rw [this,bv (by omega),dh hlt,cQ]
 rw [al hlt] at h;cases h
 rw [show (L.take i).flatten.length+j - (L.take i).flatten.length=j by omega,bp hj]
def ZH {α:Type} {p:Nat->α->Prop}:∀ (n:Nat),(∀ i,i < n->∃ a,p i a)->∃ l:List α,l.length=n/\∀ (i:Nat) (a:α),l[i]?=some a->p i a
 |0,_=>⟨[],rfl,by simp⟩
 |n+1,h=>by
  obtain ⟨l,hl,hp⟩:=ZH n fun i hi=>h i (by omega)
  obtain ⟨a,ha⟩:=h n (by omega)
  refine ⟨l++[a],by simp [hl],fun i b hb=>?_⟩
  by_cases hi:i < l.length
  ·rw [bp hi] at hb;exact hp i b hb
  ·rw [bv (by omega)] at hb
   have:i - l.length=0:=by
    have:=(aq.1 hb).1
    simp at this;omega
   rw [this] at hb;simp only [aK,ak] at hb
   subst hb;rw [show i=n by omega]
   exact ha
def Qb2 {w:World} {a:Addr} {v:Value} (h:w.cell? a=some v):a.block < w.heap.size:=by
 rcases bK a.block w.heap.size with h6|h6
 ·exact h6
 ·simp [World.cell?,cq h6] at h
def QiJ {H:Type} {enc:TypeId × Value->H} {w:World} {base:Nat} {spare:Nat->Bool} {held:Bool} {t:TypeId} {sps:List Sp} (hf:Fl P t sps) :
  ∀ {fuel:Nat} {cs:List Value} {x:DataW H × List MemPlace},DataW.trod enc P w base spare held fuel t cs=some x->∃ ds,DRow w sps ds cs:=by
 induction hf with
 |@int t k ht =>
  intro fuel cs x h;cases fuel with
  |zero=>simp [DataW.trod] at h
  |succ n =>
   unfold DataW.trod at h;rw [ht] at h
   split at h <;> simp_all
   exact ⟨_,.one (.int h.1.2) (.v rfl)⟩
 |@bool t ht =>
  intro fuel cs x h;cases fuel with
  |zero=>simp [DataW.trod] at h
  |succ n =>
   unfold DataW.trod at h;rw [ht] at h
   split at h <;> simp_all
   exact ⟨_,.one .bool (.v rfl)⟩
 |@sl t e es ht hce hpos hfe ih =>
  intro fuel cs x h
  rcases DataW.trod_slice ht h with ⟨rfl,_⟩|⟨a,len,cap,elems,rest,n,_,rfl,_,hb,hl,hm,hlen,hel,_,_⟩
  ·exact ⟨_,.one (.sl (xs:=[]) (by simp) (by simp) (af _)) (.sl0 (af _))⟩
  ·obtain ⟨rows,hrl,hrow⟩:=ZH (p:=fun i (r:List DV × List Value)=>DRow w es r.1 r.2/\∀ j,j < es.length->w.cell? (a.add (i * es.length+j))=r.2[j]?) len fun i hi=>by
    have h1:=hel i hi;rw [al (by omega)] at h1
    obtain ⟨cs',hc,ht'⟩:=Option.bind_eq_some_iff.1 h1;obtain ⟨ds,hd⟩:=ih ht'
    refine ⟨(ds,cs'),hd,fun j hj=>?_⟩
    rw [hce] at hc;have:=(World.cells?_some hc).2.2 j hj
    rwa [add_add'] at this
   have get:∀ (i:Nat) (r:List DV),(rows.map (·.1))[i]?=some r->∃ q,rows[i]?=some q/\q.1=r:=fun i r hr=>by
    rw [aC] at hr;exact aA.1 hr
   have hrowl:∀ r ∈ rows.map (·.1),r.length=es.length:=fun r hr=>by
    obtain ⟨i,hi⟩:=bN hr;obtain ⟨q,hq,rfl⟩:=get i r hi
    exact (hrow i q hq).1.len
   refine ⟨[.sl (rows.map (·.1))],.one (.sl hrowl (fun r hr j s d hs hd=>?_) (by simp [hrl];omega)) ?_⟩
   ·obtain ⟨i,hi⟩:=bN hr
    obtain ⟨q,hq,rfl⟩:=get i r hi;exact (hrow i q hq).1.shape j s d hs hd
   ·rcases dT len with rfl|hp
    ·have:rows=[]:=List.length_eq_zero_iff.1 hrl
     subst this;exact .sl0 hm
    ·have cell:∀ (i:Nat) (r:List DV) (j:Nat) (d:DV),(rows.map (·.1))[i]?=some r->r[j]?=some d->∃ v,w.cell? (a.add (i * es.length+j))=some v/\DRel w (okW w) d v:=fun i r j d hr hd=>by
      obtain ⟨q,hq,rfl⟩:=get i r hr;obtain ⟨hR,hc⟩:=hrow i q hq
      have hj:j < es.length:=by rw [<- hR.len];exact (aq.1 hd).1
      have h1:=hc j hj;have hj2:j < q.2.length:=by rw [hR.clen];exact hj
      exact ⟨q.2[j],by rw [h1,al hj2],hR.rel j d _ hd (al hj2)⟩
     have hblk:a.block < w.heap.size:=by
      have h0:0 < rows.length:=by omega
      obtain ⟨hR,hc⟩:=hrow 0 _ (al h0);have h1:=hc 0 hpos
      have hj2:0 < rows[0].2.length:=by rw [hR.clen];exact hpos
      rw [al hj2] at h1;have:=Qb2 h1
      rwa [block_add] at this
     refine .sl (k:=es.length) (fun i j=>(w.cell? (a.add (i * es.length+j))).getD undef) (by simp [hrl]) hp hl hm hpos (fun i r hr=>hrowl r (ao hr)) (fun i r j d hr hd=>?_) (fun i r j d hr hd=>?_) (QkP hblk)
     ·obtain ⟨v,hv,_⟩:=cell i r j d hr hd
      rw [hv];rfl
     ·obtain ⟨v,hv,hd⟩:=cell i r j d hr hd
      rw [hv];exact hd
 |@struct t fs L ht hct hL _ hoff ih =>
  intro fuel cs x h;obtain ⟨xs,n,_,_,hcl,hxl,hx⟩:=DataW.trod_struct ht h
  have hlen:cs.length=L.flatten.length:=by rw [hcl,hct]
  obtain ⟨dss,hdl,hds⟩:=ZH (p:=fun i (d:List DV)=>∀ l,L[i]?=some l->DRow w l d ((cs.drop (L.take i).flatten.length).take l.length)) L.length fun i hi=>by
   have hfi:i < fs.size:=by omega
   obtain ⟨h1,h2⟩:=hoff i _ _ (cp hfi) (al hi);have h3:=hx i _ (cp hfi)
   rw [al (by omega),h1,h2] at h3
   obtain ⟨ds,hd⟩:=ih i _ _ (cp hfi) (al hi) h3;refine ⟨ds,fun l hl=>?_⟩
   rw [al hi] at hl;cases hl
   exact hd
  have hlens:∀ (i:Nat) (d:List DV) (l:List Sp),dss[i]?=some d->L[i]?=some l->d.length=l.length:=fun i d l hd hl=>(hds i d hd l hl).len
  have htake:∀ i,i<=L.length->(dss.take i).flatten.length=(L.take i).flatten.length:=by
   intro i
   induction i with
   |zero=>intro _;rfl
   |succ i ihi =>
    intro hi;have h1:i < dss.length:=by omega
    have h2:i < L.length:=by omega
    rw [cS h1,cS h2,dZ,dZ,aD,aD,ihi (by omega)]
    simp only [cQ,List.flatten_nil,bf];rw [hlens i _ _ (al h1) (al h2)]
  have hfl:dss.flatten.length=L.flatten.length:=by
   have:=htake L.length (ag _)
   rwa [bb (by omega),bb (ag _)] at this
  refine ⟨dss.flatten,hfl,hlen,fun q s d hs hd=>?_,fun q d v hd hv=>?_⟩
  ·obtain ⟨i,l,h1,h2,h3⟩:=ZT hs
   have hi:=(aq.1 h1).1;have hdi:i < dss.length:=by omega
   have hR:=hds i _ (al hdi) l h1;have hj:q - (L.take i).flatten.length < l.length:=(aq.1 h3).1
   have h4:=Qbz (L:=dss) (al hdi) (j:=q - (L.take i).flatten.length) (by rw [hR.len];exact hj)
   rw [htake i (by omega),show (L.take i).flatten.length+(q - (L.take i).flatten.length)=q by omega,hd] at h4
   exact hR.shape _ s d h3 h4.symm
  ·obtain ⟨i,dl,h1,h2,h3⟩:=ZT hd
   have hi:=(aq.1 h1).1;have hLi:i < L.length:=by omega
   rw [htake i (by omega)] at h2 h3
   have hR:=hds i dl h1 _ (al hLi);have hj:q - (L.take i).flatten.length < L[i].length:=by rw [<- hR.len];exact (aq.1 h3).1
   refine hR.rel _ d v h3 ?_
   rw [aP,if_pos hj,bM,show (L.take i).flatten.length+(q - (L.take i).flatten.length)=q by omega]
   exact hv
def Qcs {α:Type} {e:α->List DV} {p:List DV->Prop}:∀ {xs:List (List DV)},(∀ r ∈ xs,∃ a,r=e a)->∃ l:List α,xs=l.map e
 |[],_=>⟨[],rfl⟩
 |r :: xs,h=>by
  obtain ⟨a,rfl⟩:=h r (by simp)
  obtain ⟨l,rfl⟩:=Qcs (p:=p) fun r hr=>h r (aQ _ hr)
  exact ⟨a :: l,rfl⟩
def flB (P:Program):Nat->TypeId->Option (List Sp)
 |0,_=>none
 |n+1,t=>match P.underlying t with
  |some (.int k)=>some [.int k]
  |some .bool=>some [.bool]
  |some (.slice e)=>match flB P n e with
   |some es=>if P.cellsOf e=es.length/\0 < es.length then some [.sl es] else none
   |none=>none
  |some (.struct fs)=>match fs.toList.mapM fun f=>flB P n f.type with
   |some L=>if P.cellsOf t=L.flatten.length/\(List.range fs.size).all (fun i=>match fs[i]?,L[i]? with|some f,some l=>f.offset == (L.take i).flatten.length && P.cellsOf f.type == l.length|_,_=>false)=true then some L.flatten else none
   |none=>none
  |_=>none
def Yt:∀ {n:Nat} {t:TypeId} {sps:List Sp},flB P n t=some sps->Fl P t sps
 |0,t,sps,h=>by simp [flB] at h
 |n+1,t,sps,h=>by
  unfold flB at h;split at h
  ·rename_i k hu;cases h;exact .int hu
  ·rename_i hu;cases h;exact .bool hu
  ·rename_i e hu
   split at h
   ·rename_i es he
    split at h
    ·rename_i hc;cases h;exact .sl hu hc.1 hc.2 (Yt he)
    ·cases h
   ·cases h
  ·rename_i fs hu
   split at h
   ·rename_i L hL
    split at h
    ·rename_i hc
     cases h;have hlen:L.length=fs.size:=by simpa using mapM_some_length hL
     refine .struct hu hc.1 hlen (fun i f l hf hl=>?_) fun i f l hf hl=>?_
     ·have:=mapM_some_get hL i f (by simpa using hf)
      rw [hl] at this;exact Yt this
     ·have h1:=bq.1 hc.2 i (aF.2 (aT.1 hf).1)
      rw [hf,hl] at h1
      simpa using h1
    ·cases h
   ·cases h
  ·cases h
def toAV:DV->AV
 |.v x=>.v x
 |.sl xs=>.sl xs
def LA {w:World} {d:DV} {v:Value} {ρ:Nat->Value} {y:Value} (h:DRel w (okW w) d v):ARel w (okW w) ρ y (toAV d) v:=by
 cases h with
 |v h=>exact .v h
 |sl0 h=>exact .sl (.sl0 h)
 |sl f h1 h2 h3 h4 h5 h6 h7 h8 h9=>exact .sl (.sl f h1 h2 h3 h4 h5 h6 h7 h8 h9)
def DRow.agg {w:World} {sps:List Sp} {ds:List DV} {cs:Array Value} {ρ:Nat->Value} {y:Value} (h:DRow w sps ds cs.toList):ARel w (okW w) ρ y (.agg (ds.map toAV)) (.agg cs):=by
 refine .agg (by have:=h.len;have:=h.clen;simp at this ⊢;omega) fun i c hc=>?_
 rw [aC] at hc;obtain ⟨d,hd,rfl⟩:=aA.1 hc
 have hi:=(aq.1 hd).1;have h2:i < cs.size:=by have:=h.len;have:=h.clen;simp at this;omega
 have:=h.rel i d cs[i] hd (by simp [h2])
 simpa [h2] using LA this
def DRow.one_inv {w:World} {s:Sp} {ds:List DV} {v:Value} (h:DRow w [s] ds [v]):∃ d,ds=[d]/\D1 s d/\DRel w (okW w) d v:=by
 obtain ⟨d,rfl⟩:=List.length_eq_one_iff.1 h.len;exact ⟨d,rfl,h.shape 0 s d rfl rfl,h.rel 0 d v rfl rfl⟩
def D1.int_inv {k:IntKind} {d:DV} (h:D1 (.int k) d):∃ n,d=.v (.int k n)/\(Lit.int k n).wf=true:=by
 cases h with
 |int h=>exact ⟨_,rfl,h⟩
def D1.sl_inv {α:Type} {es:List Sp} {d:DV} (e:α->List DV) (h:D1 (.sl es) d) (he:∀ r:List DV,r.length=es.length->(∀ (j:Nat) (s:Sp) (d:DV),es[j]?=some s->r[j]?=some d->D1 s d)->∃ a,r=e a):∃ l:List α,d=.sl (l.map e)/\l.length<=maxLen:=by
 cases h with
 |@sl _ xs h1 h2 h3 =>
  obtain ⟨l,rfl⟩:=Qcs (p:=fun _=>True) (e:=e) (xs:=xs) fun r hr=>he r (h1 r hr) (h2 r hr)
  exact ⟨l,rfl,by simpa using h3⟩
end Go.Sym
