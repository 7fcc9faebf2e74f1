/- Walks and what they compute, joined: part 2. -/
import Derived.ControlIn
import Derived.CallsIn
import Derived.OrdersIn
import Derived.RangeFuncRecord
import Derived.Maps.AppendAt
import Derived.OwnWalk
import Derived.Below
import Derived.Laws.StructEq
import Derived.Laws.Cells
import Derived.Laws.CopyRow
import Derived.Laws.Slices
import Derived.Laws.MakeOwn
import Derived.RangeFuncLeaves
import Derived.Maps.Keyed
import Derived.ChangeSlices
import Derived.WideShapes
import Derived.DataReads
import Derived.Scope
import Derived.Test.YtfljkbcphmnjkaaGreatMS1
set_option linter.all false
namespace Go.Sym
open Go
variable {A : Frm → Prop} {P : Program}
mutual
theorem AV.ren_ids (τ:Nat→Nat):∀ c:AV,(c.ren τ).ids=c.ids.map τ
 |.v _=>rfl
 |.nil=>rfl
 |.emp=>rfl
 |.sl _=>rfl
 |.agg cs=>by simp only [AV.ren,AV.ids];exact AV.renL_ids τ cs
 |.tup cs=>by simp only [AV.ren,AV.ids];exact AV.renL_ids τ cs
 |.ep _ _=>rfl
 |.ptr _ _=>rfl
 |.row _=>rfl
 |.rp _ _ _ _=>rfl
 |.csl _ _=>rfl
 |.psl _ _ _ _=>rfl
 |.rsl _ _ _ _=>rfl
 |.mp _=>rfl
 |.clo _ cs=>by simp only [AV.ren,AV.ids];exact AV.renL_ids τ cs
 |.cb=>rfl
 |.junk=>rfl
 |.any=>rfl
 |.bnd _ cs=>by simp only [AV.ren,AV.ids];exact AV.renL_ids τ cs
theorem AV.renL_ids (τ:Nat→Nat):∀ cs:List AV,AV.idsL (AV.renL τ cs)=(AV.idsL cs).map τ
 |[]=>rfl
 |c :: cs=>by simp only [AV.renL,AV.idsL,List.map_append,AV.ren_ids τ c,AV.renL_ids τ cs]
end
theorem AObj.ren_ids (τ:Nat→Nat) (o:AObj):(o.ren τ).ids=o.ids.map τ:=by
 cases o <;> simp [AObj.ren,AObj.ids,AV.renL_ids]
theorem AObj.ren_rel {w:World} {ok ok':Nat→Prop} {ρ ρ':Nat→Value} {y:Value} {τ:Nat→Nat} {o:AObj} {x:Value} (hr:ORel w ok ρ y o x) (hok:o.flat∨∀ b,ok b→ok' b) (hi:∀ id ∈ o.ids,ρ' (τ id)=ρ id):ORel w ok' ρ' y (o.ren τ) x:=by
 cases hr with
 |@cells cs b t vs h1 h2 h3 =>
  refine .cells h1 (by rw [h2,AV.renL_map,List.length_map]) fun i d hd=>?_
  rw [AV.renL_map,List.getElem?_map] at hd
  obtain ⟨c,hc,rfl⟩:=Option.map_eq_some_iff.1 hd
  have hm:=List.mem_of_getElem? hc
  have h4:ARel w ok' ρ y c (vs.getD i undef):=by
   rcases hok with hf|hok
   ·exact (h3 i c hc).1.flat (AV.flatL_mem hf c hm)
   ·exact (h3 i c hc).1.mono (fun b hb=>⟨hok b hb,rfl⟩) fun _ _=>rfl
  exact ⟨h4.ren fun id hid=>hi id (by simp only [AObj.ids];exact AV.mem_idsL.2 ⟨c,hm,hid⟩),(h3 i c hc).2⟩
 |row h1 h2 h3 h4 =>
  refine .row h1 h2 h3 fun i r j d hir hj=>?_
  obtain ⟨u,hu,hd⟩:=h4 i r j d hir hj
  refine ⟨u,hu, ?_⟩
  rcases hok with hf|hok
  ·obtain ⟨x,rfl⟩:=hf r (List.mem_of_getElem? hir) d (List.mem_of_getElem? hj)
   cases hd with|v h=>exact .v h
  ·exact hd.mono fun b hb=>⟨hok b hb,rfl⟩
 |map h1 h2 h3 h4 h5=>exact .map h1 h2 h3 h4 h5
 |mark h1=>exact .mark h1
theorem AObj.le_rel {w:World} {ok ok':Nat→Prop} {ρ ρ':Nat→Value} {y:Value} {h:Nat→Option AObj} {σ:Nat→Option Nat} (hobj:∀ i o,h i=some o→ORel w ok ρ y o (ρ i))
  (hok:∀ b,ok b→ok' b) (hrow:∀ i o b,h i=some o→blk (ρ i)=some b→ok' b) (hσ:∀ j i,σ j=some i→ρ' j=ρ i) (hσ0:∀ j,σ j=none→ρ' j=.slice none 0 0) {o o':AObj} {x:Value} (hr:ORel w ok ρ y o x)
  (hle:AObj.le h σ o o'):ORel w ok' ρ' y o' x:=by
 have hAV:∀ {c:AV} {x:Value},ARel w ok ρ y c x→∀ d,AV.le h σ c d→ARel w ok' ρ' y d x:=fun hr d hd=>AV.le_rel hobj hok hrow hσ hσ0 hr d hd
 cases hr with
 |@cells cs b t vs h1 h2 h3 =>
  cases o' <;> simp only [AObj.le] at hle <;> first|exact hle.elim|skip
  refine .cells h1 (h2.trans (AV.leL_length hle)) fun i d hd=>?_
  obtain ⟨c,hc,hcd⟩:=AV.leL_get hle i d hd
  exact ⟨hAV (h3 i c hc).1 d hcd,(h3 i c hc).2⟩
 |row h1 h2 h3 h4 =>
  cases o' <;> simp only [AObj.le] at hle <;> first|exact hle.elim|skip
  obtain ⟨rfl,rfl,rfl⟩:=hle
  exact .row h1 h2 h3 fun i r j d hi hj=>let ⟨u,hu,hd⟩:=h4 i r j d hi hj;⟨u,hu,hd.mono fun b hb=>⟨hok b hb,rfl⟩⟩
 |map h1 h2 h3 h4 h5 =>
  cases o' <;> simp only [AObj.le] at hle <;> first|exact hle.elim|skip
  subst hle
  exact .map h1 h2 h3 h4 h5
 |mark h1 =>
  cases o' <;> simp only [AObj.le] at hle <;> first|exact hle.elim|skip
  exact .mark h1
abbrev JJ:=Nat→Own→World→Prop
def JJ.Stable (J:JJ):Prop:=∀ j own w,J j own w→(∀ b,own.all b→b < w.heap.size)∧∀ w',Ext (fun b=>¬ own.all b) w w'→J j own w'
structure Hp (J:JJ) (y:Value) (h:Nat→Option AObj) (j:Nat) (own:Own) (w:World) (ρ:Nat→Value):Prop where
 jay:J j own w
 obj:∀ i o,h i=some o→ORel w (okB w own ρ h) ρ y o (ρ i)
 inj:∀ i k o o' b,h i=some o→h k=some o'→blk (ρ i)=some b→blk (ρ k)=some b→i=k
 off:∀ i o b,h i=some o→blk (ρ i)=some b→¬ own.all b
theorem Holds.hp {F:Frm} {S:St} {a:Act} {w:World} {ρ:Nat→Value} {own:Own} (H:Holds F S a w ρ own):Hp F.J F.y S.h S.j own w ρ:=⟨H.jay,H.obj,H.inj,fun i o b hi hb=>(H.blkOK i o b hi hb).1⟩
structure Ctx where
 y:Value
 J:JJ
 own:Own
 w:World
 ρ:Nat→Value
structure Fn (B:Ctx→Prop) (P:Program) (f:FuncId) (az:List AV) (h0:Nat→Option AObj) (v:AV) (h1:Nat→Option AObj) (dj:Nat):Prop where
 enter:∀ vs w,(callFunc f vs).run P w=.ok (.enter f vs) w
 calls:∀ (y:Value) (J:JJ),J.Stable→∀ (own:Own) (w:World) (ρ:Nat→Value) (vs:Array Value),B ⟨y,J,own,w,ρ⟩→Hp J y h0 0 own w ρ→vs.size=az.length →
  (∀ i c,az[i]?=some c→ARel w (okB w own ρ h0) ρ y c (vs.getD i undef)) →
  Calls P f vs w fun e w'=>∃ v' own' ρ',e=.returned v'∧Hp J y h1 dj own' w' ρ'∧ARel w' (okB w' own' ρ' h1) ρ' y v v'∧Ext (fun b=>own.prv b∨∃ i o,h0 i=some o∧blk (ρ i)=some b) w w' ∧
   (∀ b,own'.prv b→own.prv b∨w.heap.size≤b)∧(dj=0→own'=own)∧(∀ i o,h0 i=some o→ρ' i=ρ i)∧(∀ i o b,h1 i=some o→blk (ρ' i)=some b→w.heap.size≤b∨∃ k o',h0 k=some o'∧blk (ρ k)=some b)
def Jc (J:JJ) (j0:Nat) (Pr:Nat→Prop) (w0:World):JJ:=fun k own w=>∃ own':Own,J (j0+k) own' w∧(∀ b,own.all b ↔ own'.all b∨Pr b)∧(∀ b,own.prv b ↔ own'.prv b∨Pr b)∧∀ b,Pr b→¬ own'.all b∧b < w.heap.size∧w.heap[b]?=w0.heap[b]?
def kG (own:Own) (Pr:Nat→Prop):Own:=⟨fun b=>own.all b∨Pr b,fun b=>own.prv b∨Pr b,fun b h=>h.imp (own.sub b) id⟩
theorem Jc.stable {J:JJ} (h:J.Stable) (j0:Nat) (Pr:Nat→Prop) (w0:World):(Jc J j0 Pr w0).Stable:=by
 rintro j own w ⟨own',hj,hiff,hiffp,hpr⟩
 refine ⟨fun b hb=>?_,fun w' hx=>⟨own',(h _ _ _ hj).2 w' (hx.weaken fun b _ hn ho=>hn ((hiff b).2 (.inl ho))),hiff,hiffp,fun b hb=>⟨(hpr b hb).1,Nat.lt_of_lt_of_le (hpr b hb).2.1 hx.size, ?_⟩⟩⟩
 ·rcases (hiff b).1 hb with h1|h1
  ·exact (h _ _ _ hj).1 b h1
  ·exact (hpr b h1).2.1
 ·rw [hx.block b (hpr b hb).2.1 fun hn=>hn ((hiff b).2 (.inr hb))];exact (hpr b hb).2.2
theorem WL {f:FuncId} {vs:Array Value} {w:World} {R R':Ending→World→Prop} (h:Calls P f vs w R) (hr:∀ e w',R e w'→R' e w'):Calls P f vs w R' :=
 callsIn_wide.1 (CallsIn.mono (n:=0) (callsIn_wide.2 h) hr)
theorem XI {r:Option Nat} {f:FuncId} {vs:Array Value} {w:World} {R:Ending→World→Prop} (h:Calls P f vs w R):CallsIn (W r) 0 P f vs w R:=by
 have h1:CallsIn (W none) 0 P f vs w R:=callsIn_wide.2 h
 exact h1
theorem Qbo {r:Option Nat} {f:FuncId} {vs:Array Value} {w:World} {R:Ending→World→Prop} (h:CallsIn (W r) 0 P f vs w R):Calls P f vs w R :=
 callsIn_wide.1 (show CallsIn (W none) 0 P f vs w R from h)
def qo (hs:List Nat) (n:Nat) (j:Nat):Nat:=match hs[j]? with|some c=>c|none=>n+(j - hs.length)
def za (S:St) (hs bo:List Nat) (dr:List Nat) (v:AV) (h1:Nat→Option AObj) (nn dj:Nat):Eff :=
 {av:=v.ren (qo hs S.n),hw:=(List.range (hs.length+nn)).map (fun j=>(qo hs S.n j,(h1 j).map (AObj.ren (qo hs S.n))))++q9 dr,hr:=hs++bo,news:=(List.range nn).map (S.n+·),n:=S.n+nn,dj:=dj }
def vk (S:St) (hs bo:List Nat) (ρ:Nat→Value) (b:Nat):Prop:=∃ i ob,S.h i=some ob∧i ∉ hs∧i ∉ bo∧blk (ρ i)=some b
def qP (hs:List Nat) (ρ:Nat→Value) (j:Nat):Value:=match hs[j]? with|some i=>ρ i|none=>.slice none 0 0
def Rq (F:Frm) (S:St) (hs bo:List Nat) (ρ:Nat→Value) (own:Own) (w:World):Ctx:=⟨F.y,Jc F.J S.j (vk S hs bo ρ) w,kG own (vk S hs bo ρ),w,qP hs ρ⟩
theorem Vx {S:St} (hS:Wf S) {az bs:List AV} {hs bo dr:List Nat} {h0:Nat→Option AObj} {v:AV} {h1 hf:Nat→Option AObj} {dj nn:Nat}
  (hargs:AV.leL hf (fun j=>hs[j]?) bs az)
  (hobj:∀ i o0,h0 i=some o0→∃ c ob,hs[i]?=some c∧S.h c=some ob∧AObj.le hf (fun j=>hs[j]?) ob o0)
  (hdom:∀ j,j < hs.length→∃ o0,h0 j=some o0) (hnd:hs.Nodup)
  (hfr:∀ i ob,hf i=some ob→S.h i=some ob∧i ∉ hs∧i ∈ bo) (hbo:∀ i ∈ bo,(∃ ob,S.h i=some ob)∧i ∉ hs)
  (hdr:dr=bo∨(dr=[]∧v.flat∧∀ i ob,h1 i=some ob→ob.flat))
  (hv1:∀ id ∈ v.ids,id < hs.length+nn) (hh1:∀ i ob,h1 i=some ob→i < hs.length+nn∧∀ id ∈ ob.ids,id < hs.length+nn) :
  (∀ c ∈ hs,∃ ob,S.h c=some ob)∧(∀ c ∈ hs,c < S.n)∧(∀ id ∈ (za S hs bo dr v h1 nn dj).ids,id < S.n+nn)∧∀ id ∈ (za S hs bo dr v h1 nn dj).news,S.n≤id:=by
 have hall:∀ c ∈ hs,∃ ob,S.h c=some ob:=fun c hc=>by
  obtain ⟨j,hj⟩:=List.getElem?_of_mem hc
  obtain ⟨o0,ho0⟩:=hdom j (List.getElem?_eq_some_iff.1 hj).1
  obtain ⟨d,ob,e1,e2,_⟩:=hobj j o0 ho0
  rw [hj] at e1;cases e1
  exact ⟨ob,e2⟩
 have hslt:∀ c ∈ hs,c < S.n:=fun c hc=>Nat.lt_of_not_le fun hn=>by obtain ⟨ob,h⟩:=hall c hc;have:=(hS c hn).1;rw [h] at this;cases this
 have hbolt:∀ c ∈ bo,c < S.n:=fun c hc=>Nat.lt_of_not_le fun hn=>by obtain ⟨⟨ob,h⟩,_⟩:=hbo c hc;have:=(hS c hn).1;rw [h] at this;cases this
 have hdrbo:∀ c ∈ dr,c ∈ bo:=fun c hc=>by
  rcases hdr with h|h
  ·rw [← h];exact hc
  ·rw [h.1] at hc;cases hc
 have hτ:∀ j,j < hs.length+nn→qo hs S.n j < S.n+nn:=fun j hj=>by
  unfold qo
  cases hc:hs[j]? with
  |some c=>have:=hslt c (List.mem_of_getElem? hc);simp only;omega
  |none=>have:hs.length≤j:=List.getElem?_eq_none_iff.1 hc;simp only;omega
 have hwi:∀ {l:List (Nat × Option AObj)} {id:Nat},id ∈ zK l→∃ p ∈ l,id=p.1∨∃ ob,p.2=some ob∧id ∈ ob.ids:=by
  intro l
  induction l with
  |nil=>intro id h;simp [zK] at h
  |cons p l ih =>
   intro id h
   simp only [zK,List.mem_cons,List.mem_append] at h
   rcases h with rfl|h|h
   ·exact ⟨p,List.mem_cons_self,.inl rfl⟩
   ·cases hp:p.2 with
    |none=>rw [hp] at h;simp at h
    |some ob=>rw [hp] at h;exact ⟨p,List.mem_cons_self,.inr ⟨ob,hp,h⟩⟩
   ·obtain ⟨q,hq,h'⟩:=ih h;exact ⟨q,List.mem_cons_of_mem _ hq,h'⟩
 have hI:∀ id ∈ (za S hs bo dr v h1 nn dj).ids,id < S.n+nn:=by
  intro id hid
  simp only [Eff.ids,za,List.flatMap_nil,List.append_nil,List.mem_append] at hid
  rcases hid with hid|hid
  ·rw [AV.ren_ids] at hid
   obtain ⟨j,hj,rfl⟩:=List.mem_map.1 hid
   exact hτ j (hv1 j hj)
  ·obtain ⟨p,hp,hid⟩:=hwi hid
   rcases List.mem_append.1 hp with hp|hp
   ·obtain ⟨j,hj,rfl⟩:=List.mem_map.1 hp
    have hj:=List.mem_range.1 hj
    rcases hid with rfl|⟨ob,hob,hid⟩
    ·exact hτ j hj
    ·obtain ⟨o1,ho1,rfl⟩:=Option.map_eq_some_iff.1 hob
     rw [AObj.ren_ids] at hid
     obtain ⟨q,hq,rfl⟩:=List.mem_map.1 hid
     exact hτ q ((hh1 j o1 ho1).2 q hq)
   ·obtain ⟨c,hc,rfl⟩:=List.mem_map.1 hp
    rcases hid with rfl|⟨ob,hob,_⟩
    ·have:=hbolt _ (hdrbo _ hc);omega
    ·cases hob
 refine ⟨hall,hslt,hI,fun id hid=>?_⟩
 simp only [za,List.mem_map,List.mem_range] at hid;obtain ⟨k,_,rfl⟩:=hid;omega
theorem Ye {S:St} (hS:Wf S) {az bs:List AV} {hs bo dr:List Nat} {h0:Nat→Option AObj} {v:AV} {h1 hf:Nat→Option AObj} {dj nn:Nat}
  (hargs:AV.leL hf (fun j=>hs[j]?) bs az)
  (hobj:∀ i o0,h0 i=some o0→∃ c ob,hs[i]?=some c∧S.h c=some ob∧AObj.le hf (fun j=>hs[j]?) ob o0)
  (hdom:∀ j,j < hs.length→∃ o0,h0 j=some o0) (hnd:hs.Nodup)
  (hfr:∀ i ob,hf i=some ob→S.h i=some ob∧i ∉ hs∧i ∈ bo) (hbo:∀ i ∈ bo,(∃ ob,S.h i=some ob)∧i ∉ hs)
  (hdr:dr=bo∨(dr=[]∧v.flat∧∀ i ob,h1 i=some ob→ob.flat))
  (hv1:∀ id ∈ v.ids,id < hs.length+nn) (hh1:∀ i ob,h1 i=some ob→i < hs.length+nn∧∀ id ∈ ob.ids,id < hs.length+nn)
  {F:Frm} {S2:St} {a:Act} {w:World} {ρ:Nat→Value} {own:Own} (H:Holds F S2 a w ρ own) (hdj:dj ≠ 0→dr=bo) (hS2:∀ c,c ∈ hs∨c ∈ bo→S2.h c=S.h c) (hfr2:∀ id ∈ (za S hs bo dr v h1 nn dj).news,Jo F S2 id)
  {vs:Array Value} (hsz:vs.size=bs.length) (hrel:∀ i c,bs[i]?=some c→ARel w (okB w own ρ S2.h) ρ F.y c (vs.getD i undef)) {dst:Option Nat} (hdst:∀ d,dst=some d→d < F.nt) :
  Hp (Jc F.J S2.j (vk S2 hs bo ρ) w) F.y h0 0 (kG own (vk S2 hs bo ρ)) w (qP hs ρ)∧vs.size=az.length∧(∀ i c,az[i]?=some c→ARel w (okB w (kG own (vk S2 hs bo ρ)) (qP hs ρ) h0) (qP hs ρ) F.y c (vs.getD i undef)) ∧
  ∀ v' w' ownc' ρc',Hp (Jc F.J S2.j (vk S2 hs bo ρ) w) F.y h1 dj ownc' w' ρc'→ARel w' (okB w' ownc' ρc' h1) ρc' F.y v v'→Ext (fun b=>(own.prv b∨vk S2 hs bo ρ b)∨∃ i o,h0 i=some o∧blk (qP hs ρ i)=some b) w w' →
   (∀ b,ownc'.prv b→(own.prv b∨vk S2 hs bo ρ b)∨w.heap.size≤b)→(dj=0→ownc'=kG own (vk S2 hs bo ρ))→(∀ i o,h0 i=some o→ρc' i=qP hs ρ i)→(∀ i o b,h1 i=some o→blk (ρc' i)=some b→w.heap.size≤b∨∃ k o',h0 k=some o'∧blk (qP hs ρ k)=some b) →
   ∃ ρ' own',Holds F (S2.app dst (za S hs bo dr v h1 nn dj)) { (a.put dst v') with defers:=[]++a.defers } w' ρ' own':=by
 have hall:∀ c ∈ hs,∃ ob,S.h c=some ob:=fun c hc=>by
  obtain ⟨j,hj⟩:=List.getElem?_of_mem hc
  obtain ⟨o0,ho0⟩:=hdom j (List.getElem?_eq_some_iff.1 hj).1
  obtain ⟨d,ob,e1,e2,_⟩:=hobj j o0 ho0
  rw [hj] at e1;cases e1
  exact ⟨ob,e2⟩
 have hslt:∀ c ∈ hs,c < S.n:=fun c hc=>Nat.lt_of_not_le fun hn=>by obtain ⟨ob,h⟩:=hall c hc;have:=(hS c hn).1;rw [h] at this;cases this
 have hbolt:∀ c ∈ bo,c < S.n:=fun c hc=>Nat.lt_of_not_le fun hn=>by obtain ⟨⟨ob,h⟩,_⟩:=hbo c hc;have:=(hS c hn).1;rw [h] at this;cases this
 have hdrbo:∀ c ∈ dr,c ∈ bo:=fun c hc=>by
  rcases hdr with h|h
  ·rw [← h];exact hc
  ·rw [h.1] at hc;cases hc
 have hτ:∀ j,j < hs.length+nn→qo hs S.n j < S.n+nn:=fun j hj=>by
  unfold qo
  cases hc:hs[j]? with
  |some c=>have:=hslt c (List.mem_of_getElem? hc);simp only;omega
  |none=>have:hs.length≤j:=List.getElem?_eq_none_iff.1 hc;simp only;omega
 have hwi:∀ {l:List (Nat × Option AObj)} {id:Nat},id ∈ zK l→∃ p ∈ l,id=p.1∨∃ ob,p.2=some ob∧id ∈ ob.ids:=by
  intro l
  induction l with
  |nil=>intro id h;simp [zK] at h
  |cons p l ih =>
   intro id h
   simp only [zK,List.mem_cons,List.mem_append] at h
   rcases h with rfl|h|h
   ·exact ⟨p,List.mem_cons_self,.inl rfl⟩
   ·cases hp:p.2 with
    |none=>rw [hp] at h;simp at h
    |some ob=>rw [hp] at h;exact ⟨p,List.mem_cons_self,.inr ⟨ob,hp,h⟩⟩
   ·obtain ⟨q,hq,h'⟩:=ih h;exact ⟨q,List.mem_cons_of_mem _ hq,h'⟩
 have hI:∀ id ∈ (za S hs bo dr v h1 nn dj).ids,id < S.n+nn:=by
  intro id hid
  simp only [Eff.ids,za,List.flatMap_nil,List.append_nil,List.mem_append] at hid
  rcases hid with hid|hid
  ·rw [AV.ren_ids] at hid
   obtain ⟨j,hj,rfl⟩:=List.mem_map.1 hid
   exact hτ j (hv1 j hj)
  ·obtain ⟨p,hp,hid⟩:=hwi hid
   rcases List.mem_append.1 hp with hp|hp
   ·obtain ⟨j,hj,rfl⟩:=List.mem_map.1 hp
    have hj:=List.mem_range.1 hj
    rcases hid with rfl|⟨ob,hob,hid⟩
    ·exact hτ j hj
    ·obtain ⟨o1,ho1,rfl⟩:=Option.map_eq_some_iff.1 hob
     rw [AObj.ren_ids] at hid
     obtain ⟨q,hq,rfl⟩:=List.mem_map.1 hid
     exact hτ q ((hh1 j o1 ho1).2 q hq)
   ·obtain ⟨c,hc,rfl⟩:=List.mem_map.1 hp
    rcases hid with rfl|⟨ob,hob,_⟩
    ·have:=hbolt _ (hdrbo _ hc);omega
    ·cases hob
 have hσ:∀ j i,hs[j]?=some i→(qP hs ρ) j=ρ i:=fun j i h=>by simp only [qP,h]
 have hσ0:∀ j,hs[j]?=none→(qP hs ρ) j=.slice none 0 0:=fun j h=>by simp only [qP,h]
 let Pr:Nat→Prop:=vk S2 hs bo ρ
 let ownc:Own:=kG own Pr
 have hh0:∀ i o0,h0 i=some o0→∃ c ob,hs[i]?=some c∧S2.h c=some ob∧AObj.le hf (fun j=>hs[j]?) ob o0:=fun i o0 hi=>by
  obtain ⟨c,ob,e1,e2,e3⟩:=hobj i o0 hi
  exact ⟨c,ob,e1,(hS2 c (.inl (List.mem_of_getElem? e1))).trans e2,e3⟩
 have hok:∀ b,okB w own ρ S2.h b→okB w ownc (qP hs ρ) h0 b:=by
  rintro b ⟨g1,g2,g3⟩
  refine ⟨g1, ?_,fun i o0 hi hb=>?_⟩
  ·rintro (h|⟨i,ob,hi,_,_,hb⟩)
   ·exact g2 h
   ·exact g3 i ob hi hb
  ·obtain ⟨c,ob,e1,e2,_⟩:=hh0 i o0 hi
   rw [hσ i c e1] at hb
   exact g3 c ob e2 hb
 have hfS2:∀ i ob,hf i=some ob→S2.h i=some ob:=fun i ob hi=>(hS2 i (.inr (hfr i ob hi).2.2)).trans (hfr i ob hi).1
 have hrow:∀ i ox b,hf i=some ox→blk (ρ i)=some b→okB w ownc (qP hs ρ) h0 b:=by
  intro i ox b hi hb
  have hi2:=hfS2 i _ hi
  refine ⟨(H.obj i _ hi2).lt hb, ?_,fun j o0 hj hbj=>?_⟩
  ·rintro (h|⟨q,ob,hq,hqh,hqb,hbq⟩)
   ·exact (H.blkOK i _ b hi2 hb).1 (own.sub _ h)
   ·have:=H.inj i q _ ob b hi2 hq hb hbq
    subst this
    exact hqb (hfr i _ hi).2.2
  ·obtain ⟨c,ob,e1,e2,_⟩:=hh0 j o0 hj
   rw [hσ j c e1] at hbj
   have:=H.inj i c _ ob b hi2 e2 hb hbj
   subst this
   exact (hfr i _ hi).2.1 (List.mem_of_getElem? e1)
 have hobjf:∀ i ob,hf i=some ob→ORel w (okB w own ρ S2.h) ρ F.y ob (ρ i):=fun i ob hi=>H.obj i ob (hfS2 i ob hi)
 have hHp:Hp (Jc F.J S2.j Pr w) F.y h0 0 ownc w (qP hs ρ):=by
  refine ⟨⟨own,H.jay,fun b=>Iff.rfl,fun b=>Iff.rfl,fun b ⟨i,ob,hi,_,_,hb⟩=>⟨(H.blkOK i ob b hi hb).1,(H.obj i ob hi).lt hb,rfl⟩⟩,fun i o0 hi=>?_,fun i k o1 o2 b hi hk hbi hbk=>?_,fun i o0 b hi hb=>?_⟩
  ·obtain ⟨c,ob,e1,e2,e3⟩:=hh0 i o0 hi
   rw [hσ i c e1]
   exact AObj.le_rel hobjf hok hrow hσ hσ0 (H.obj c ob e2) e3
  ·obtain ⟨c,ob,e1,e2,_⟩:=hh0 i o1 hi
   obtain ⟨d,od,e1',e2',_⟩:=hh0 k o2 hk
   rw [hσ i c e1] at hbi
   rw [hσ k d e1'] at hbk
   have:=H.inj c d ob od b e2 e2' hbi hbk
   subst this
   have hi':=(List.getElem?_eq_some_iff.1 e1)
   have hk':=(List.getElem?_eq_some_iff.1 e1')
   obtain ⟨hi1,hi2⟩:=hi'
   obtain ⟨hk1,hk2⟩:=hk'
   exact (List.getElem_inj (h₀:=hi1) (h₁:=hk1) hnd).1 (hi2.trans hk2.symm)
  ·obtain ⟨c,ob,e1,e2,_⟩:=hh0 i o0 hi
   rw [hσ i c e1] at hb
   rintro (h|⟨q,oq,hq,hqh,_,hbq⟩)
   ·exact (H.blkOK c ob b e2 hb).1 h
   ·have:=H.inj c q ob oq b e2 hq hb hbq
    subst this
    exact hqh (List.mem_of_getElem? e1)
 refine ⟨hHp,by rw [← AV.leL_length hargs];exact hsz,fun i c hc=>?_, ?_⟩
 ·obtain ⟨b,hb,hle⟩:=AV.leL_get hargs i c hc
  exact AV.le_rel hobjf hok hrow hσ hσ0 (hrel i b hb) c hle
 ·intro v' w' ownc' ρc' hHp' hv' hx hown' hstill hpin hblk
  obtain ⟨own',hj',hiff,hiffp,hpr⟩:=hHp'.jay
  refine ⟨fun i=>if S.n≤i∧i < S.n+nn then ρc' (hs.length+(i - S.n)) else ρ i,own', ?_⟩
  have hρτ:∀ j,j < hs.length+nn→(fun i=>if S.n≤i∧i < S.n+nn then ρc' (hs.length+(i - S.n)) else ρ i) (qo hs S.n j)=ρc' j:=fun j hj=>by
   unfold qo
   cases hc:hs[j]? with
   |some c =>
    have:=hslt c (List.mem_of_getElem? hc)
    simp only
    obtain ⟨o0,ho0⟩:=hdom j (List.getElem?_eq_some_iff.1 hc).1
    rw [if_neg (by omega),hpin j o0 ho0,show qP hs ρ j=ρ c from hσ j c hc]
   |none =>
    have:hs.length≤j:=List.getElem?_eq_none_iff.1 hc
    simp only
    rw [if_pos (by omega)]
    congr 1;omega
  have hkeyτ:∀ i ob,zo S2.h (za S hs bo dr v h1 nn dj).hw i=some ob→i ∈ (za S hs bo dr v h1 nn dj).keys→∃ j o1,j < hs.length+nn∧i=qo hs S.n j∧h1 j=some o1∧ob=o1.ren (qo hs S.n):=fun i ob hi hk=>by
   have:=Q8 hk hi
   simp only [za,List.mem_append,List.mem_map,List.mem_range] at this
   rcases this with ⟨j,hj,e⟩|h
   ·simp only [Prod.mk.injEq] at e
    obtain ⟨o1,ho1,e2⟩:=Option.map_eq_some_iff.1 e.2
    exact ⟨j,o1,hj,e.1.symm,ho1,e2.symm⟩
   ·simp [q9] at h
  have hkeys:∀ j,j < hs.length+nn→qo hs S.n j ∈ (za S hs bo dr v h1 nn dj).keys:=fun j hj=>by
   simp only [Eff.keys,za,List.map_append,List.map_map,List.mem_append,List.mem_map,List.mem_range]
   exact .inl ⟨j,hj,rfl⟩
  have hskey:∀ c ∈ hs,c ∈ (za S hs bo dr v h1 nn dj).keys:=fun c hc=>by
   obtain ⟨j,hj⟩:=List.getElem?_of_mem hc
   have:=hkeys j (by have:=(List.getElem?_eq_some_iff.1 hj).1;omega)
   simpa [qo,hj] using this
  have hnewkey:∀ i,S.n≤i→i < S.n+nn→i ∈ (za S hs bo dr v h1 nn dj).keys:=fun i h1 h2=>by
   have:=hkeys (hs.length+(i - S.n)) (by omega)
   have e:qo hs S.n (hs.length+(i - S.n))=i:=by
    unfold qo
    rw [List.getElem?_eq_none (by omega)]
    simp only;omega
   rwa [e] at this
  have hxx:Ext (fun b=>own.prv b∨∃ i ob,i ∈ (za S hs bo dr v h1 nn dj).keys∧S2.h i=some ob∧blk (ρ i)=some b) w w':=by
   refine ⟨hx.os,hx.tape,hx.output,hx.size,fun k hk hn=>?_⟩
   by_cases hp:Pr k
   ·exact (hpr k hp).2.2
   ·refine hx.block k hk ?_
    rintro ((h|h)|⟨i,o0,hi,hb⟩)
    ·exact hn (.inl h)
    ·exact hp h
    ·obtain ⟨c,ob,e1,e2,_⟩:=hh0 i o0 hi
     rw [hσ i c e1] at hb
     exact hn (.inr ⟨c,ob,hskey c (List.mem_of_getElem? e1),e2,hb⟩)
  have hokc:dr=bo→∀ b,okB w' ownc' ρc' h1 b→okB w' own' (fun i=>if S.n≤i∧i < S.n+nn then ρc' (hs.length+(i - S.n)) else ρ i) (zo S2.h (za S hs bo dr v h1 nn dj).hw) b:=by
   rintro hdb b ⟨g1,g2,g3⟩
   refine ⟨g1,fun h=>g2 ((hiffp b).2 (.inl h)),fun i ob hi hb=>?_⟩
   by_cases hk:i ∈ (za S hs bo dr v h1 nn dj).keys
   ·obtain ⟨j,o1,hj,rfl,ho1,rfl⟩:=hkeyτ i ob hi hk
    have:=hρτ j hj
    simp only at this hb
    rw [this] at hb
    exact g3 j o1 ho1 hb
   ·rw [zy hk] at hi
    have hin:¬ (S.n≤i∧i < S.n+nn):=fun h=>hk (hnewkey i h.1 h.2)
    simp only [if_neg hin] at hb
    refine g2 ((hiffp b).2 (.inr ⟨i,ob,hi,fun h=>hk (hskey i h),fun h=>hk ?_,hb⟩))
    subst hdb
    simp only [Eff.keys,za,List.map_append,List.mem_append,q9,List.map_map,List.mem_map]
    exact .inr ⟨i,h,rfl⟩
  refine H.app hdst hj' hxx ?_ (fun i hi=>?_) (fun i hi=>?_) hfr2 ?_ (fun i ob hk hi=>?_) (fun i k o1 o2 b hki hkk hi hk hbi hbk=>?_) (fun id hid=>Nat.lt_of_lt_of_le (hI id hid) (Nat.le_max_right _ _)) .nil
  ·by_cases hd0:dj=0
   ·left
    have he:=hstill hd0
    subst he
    have hno:∀ b,own.all b→¬ Pr b:=fun b hb ⟨i,ob,hi,_,_,hbb⟩=>(H.blkOK i ob b hi hbb).1 hb
    exact Own.eq (fun b=>⟨fun hb=>((hiff b).2 (.inl hb)).resolve_right fun hp=>(hpr b hp).1 hb,fun hb=>((hiff b).1 (.inl hb)).resolve_right (hno b hb)⟩)
     (fun b=>⟨fun hb=>((hiffp b).2 (.inl hb)).resolve_right fun hp=>(hpr b hp).1 (own'.sub _ hb),fun hb=>((hiffp b).1 (.inl hb)).resolve_right (hno b (own.sub _ hb))⟩)
   ·refine .inr ⟨hd0,fun b hb=>?_,fun i ob b hi hk hb hall'=>?_⟩
    ·rcases hown' b ((hiffp b).2 (.inl hb)) with (h|h)|h
     ·exact .inl h
     ·exact absurd (own'.sub _ hb) (hpr b h).1
     ·exact .inr h
    ·refine (hpr b ⟨i,ob,hi,fun h=>hk (hskey i h),fun h=>hk ?_,hb⟩).1 hall'
     have:=hdj hd0
     subst this
     simp only [Eff.keys,za,List.map_append,List.mem_append,q9,List.map_map,List.mem_map]
     exact .inr ⟨i,h,rfl⟩
  ·simp only [za,List.mem_map,List.mem_range] at hi
   obtain ⟨k,hk,rfl⟩:=hi
   exact hnewkey _ (by omega) (by omega)
  ·refine if_neg ?_
   rintro ⟨h1,h2⟩
   exact hi (by simp only [za,List.mem_map,List.mem_range];exact ⟨i - S.n,by omega,by omega⟩)
  ·have hv2:=hv'.ren (τ:=qo hs S.n) (ρ':=fun i=>if S.n≤i∧i < S.n+nn then ρc' (hs.length+(i - S.n)) else ρ i) fun id hid=>hρτ id (hv1 id hid)
   rcases hdr with hd|⟨_,hfl,_⟩
   ·exact hv2.mono (fun b hb=>⟨hokc hd b hb,rfl⟩) fun _ _=>rfl
   ·exact (hv'.flat hfl).ren fun id hid=>hρτ id (hv1 id hid)
  ·obtain ⟨j,o1,hj,rfl,ho1,rfl⟩:=hkeyτ i ob hi hk
   have e:=hρτ j hj
   simp only at e ⊢
   rw [e]
   refine ⟨AObj.ren_rel (hHp'.obj j o1 ho1) ?_ fun id hid=>hρτ id ((hh1 j o1 ho1).2 id hid),fun b hb=>⟨fun h=>hHp'.off j o1 b ho1 hb ((hiff b).2 (.inl h)), ?_⟩⟩
   ·rcases hdr with hd|⟨_,_,hfl⟩
    ·exact .inr (hokc hd)
    ·exact .inl (hfl j o1 ho1)
   ·rcases hblk j o1 b ho1 hb with h|⟨q,oq,hq,hbq⟩
    ·exact .inl h
    ·obtain ⟨c,ob,e1,e2,_⟩:=hh0 q oq hq
     rw [show qP hs ρ q=ρ c from hσ q c e1] at hbq
     exact .inr ⟨c,ob,hskey c (List.mem_of_getElem? e1),e2,hbq⟩
  ·obtain ⟨j,o1',hj,rfl,ho1,rfl⟩:=hkeyτ i o1 hi hki
   obtain ⟨j',o2',hj',rfl,ho2,rfl⟩:=hkeyτ k o2 hk hkk
   have e:=hρτ j hj
   have e':=hρτ j' hj'
   simp only at e e' hbi hbk
   rw [e] at hbi
   rw [e'] at hbk
   rw [hHp'.inj j j' o1' o2' b ho1 ho2 hbi hbk]
theorem JK {ops:Array Oper} {o:Oper} {S:St} {g:Operand} {args:Array Operand} {tys:Array TypeId} (ho:o.op=.call { callee:=.value g,args:=args,argTypes:=tys }) {e:Eff} {F:Frm} {S2:St} {a:Act} {w:World} {ρ:Nat→Value} {own:Own}
  (hag:Agree ops o e S S2) (H:Holds F S2 a w ρ own) {caps:List AV} {cvs:Array Value} (hcs:cvs.size=caps.length) (hcr:∀ (i:Nat) (c:AV),caps[i]?=some c→ARel w (okB w own ρ S2.h) ρ F.y c (cvs.getD i undef)) :
  (args.map a.eval++cvs).size=(args.toList.map (ev S)++caps).length∧∀ i c,(args.toList.map (ev S)++caps)[i]?=some c→ARel w (okB w own ρ S2.h) ρ F.y c ((args.map a.eval++cvs).getD i undef):=by
 refine ⟨by simp [hcs],fun i c hc=>?_⟩
 by_cases hi:i < args.size
 ·rw [List.getElem?_append_left (by simpa using hi),List.getElem?_map] at hc
  obtain ⟨x,hx,rfl⟩:=Option.map_eq_some_iff.1 hc
  have hx':args[i]?=some x:=by simpa using hx
  have hm:x ∈ args:=Array.mem_of_getElem? hx'
  rw [← hag.ev (x:=x) (by simp [ho,Op.operands,Call.operands,hm])]
  have hxa:args[i]=x:=(Array.getElem?_eq_some_iff.1 hx').2
  have:(args.map a.eval++cvs).getD i undef=a.eval x:=by
   simp [Array.getElem?_append,hi,hxa]
  rw [this]
  exact qL H x
 ·rw [List.getElem?_append_right (by simpa using hi)] at hc
  simp only [List.length_map,Array.length_toList] at hc
  have:=hcr _ c hc
  have e:(args.map a.eval++cvs).getD i undef=cvs.getD (i - args.size) undef:=by
   simp [Array.getElem?_append,hi]
  rw [e];exact this
def Zg:AV→List AV
 |.bnd _ pre=>pre
 |_=>[]
theorem Us {ops:Array Oper} {o:Oper} {S:St} (hS:Wf S) (hw:Want ops o S) {g:Operand} {args:Array Operand} {tys:Array TypeId} (ho:o.op=.call { callee:=.value g,args:=args,argTypes:=tys })
  {f:FuncId} {caps pre:List AV} (hg:ev S g=.clo f caps∧pre=[]∨ev S g=.bnd f pre∧caps=[]) {B:Ctx→Prop} {az:List AV} {hs bo dr:List Nat} {h0:Nat→Option AObj} {v:AV} {h1 hf:Nat→Option AObj} {dj nn:Nat} (hfn:Fn B P f az h0 v h1 dj)
  (hdj:dj ≠ 0→dr=bo)
  (hB:∀ F S2 a w ρ own,A F→(dj ≠ 0→S2.j=S.j)→(∀ c,c ∈ hs∨c ∈ bo→S2.h c=S.h c)→Holds F S2 a w ρ own→B (Rq F S2 hs bo ρ own w))
  (hargs:AV.leL hf (fun j=>hs[j]?) (pre++(args.toList.map (ev S)++caps)) az)
  (hobj:∀ i o0,h0 i=some o0→∃ c ob,hs[i]?=some c∧S.h c=some ob∧AObj.le hf (fun j=>hs[j]?) ob o0)
  (hdom:∀ j,j < hs.length→∃ o0,h0 j=some o0) (hnd:hs.Nodup)
  (hfr:∀ i ob,hf i=some ob→S.h i=some ob∧i ∉ hs∧i ∈ bo) (hbo:∀ i ∈ bo,(∃ ob,S.h i=some ob)∧i ∉ hs)
  (hdr:dr=bo∨(dr=[]∧v.flat∧∀ i ob,h1 i=some ob→ob.flat))
  (hv1:∀ id ∈ v.ids,id < hs.length+nn) (hh1:∀ i ob,h1 i=some ob→i < hs.length+nn∧∀ id ∈ ob.ids,id < hs.length+nn) :
  VE A P ops o (za S hs bo dr v h1 nn dj) S:=by
 obtain ⟨hall,hslt,hI,hN⟩:=Vx (dj:=dj) hS hargs hobj hdom hnd hfr hbo hdr hv1 hh1
 refine ⟨fun F hF hds S2 a w hag hfr2 ⟨ρ,own,H⟩=>?_,hI,hN⟩
 rw [wy hw hag H,if_pos rfl]
 have hS2:∀ c,c ∈ hs∨c ∈ bo→S2.h c=S.h c:=fun c hc=>hag.2.1 c (by simpa [za] using hc)
 have hgv:=qL H g
 rw [hag.ev (x:=g) (by simp [ho,Op.operands,Call.operands])] at hgv
 obtain ⟨vals,hsz,hrel,hexec⟩:∃ vals:Array Value,vals.size=(pre++(args.toList.map (ev S)++caps)).length∧(∀ i c,(pre++(args.toList.map (ev S)++caps))[i]?=some c→ARel w (okB w own ρ S2.h) ρ F.y c (vals.getD i undef))∧(execOp a.eval o).run P w=.ok (.enter f vals) w:=by
  generalize hgv':a.eval g=gv at hgv
  rcases hg with ⟨hg,rfl⟩|⟨hg,rfl⟩
  ·rw [hg] at hgv
   cases hgv with
   |@clo _ _ cvs hcs hcr =>
    obtain ⟨hsz,hrel⟩:=JK ho hag H hcs hcr
    exact ⟨args.map a.eval++cvs,by simpa using hsz,by simpa using hrel,by simp [execOp,ho,resolve,Deferred.ofValue,hgv',invoke,hfn.enter]⟩
  ·rw [hg] at hgv
   cases hgv with
   |@bnd _ _ bvs hbs hbr =>
    obtain ⟨hsz,hrel⟩:=JK ho hag H (caps:=[]) (cvs:=#[]) rfl (by simp)
    simp only [Array.append_empty] at hsz hrel
    refine ⟨bvs++args.map a.eval,by simp [hbs],fun i c hc=>?_,by simp [execOp,ho,resolve,Deferred.ofValue,hgv',invoke,hfn.enter]⟩
    by_cases hi:i < bvs.size
    ·rw [List.getElem?_append_left (by omega)] at hc
     have e:(bvs++args.map a.eval).getD i undef=bvs.getD i undef:=by simp [Array.getElem?_append,hi]
     rw [e];exact hbr i c hc
    ·rw [List.getElem?_append_right (by omega)] at hc
     have e:(bvs++args.map a.eval).getD i undef=(args.map a.eval).getD (i - pre.length) undef:=by
      have hi':¬ i < pre.length:=by omega
      simp [Array.getElem?_append,hi',hbs]
     rw [e];exact hrel _ c hc
 obtain ⟨c1,c2,c3,c4⟩:=Ye (dj:=dj) hS hargs hobj hdom hnd hfr hbo hdr hv1 hh1 H hdj hS2 hfr2 hsz hrel (yQ hds)
 have hcalls:=hfn.calls F.y (Jc F.J S2.j (vk S2 hs bo ρ) w) (Jc.stable F.stable _ _ _) _ w (qP hs ρ) vals (hB F S2 a w ρ own hF (fun hd=>hag.2.2 hd) hS2 H) c1 c2 c3
 refine ⟨kg o a w F.r, ?_⟩
 rw [Oper.semAt_eq _ _ _ (by simp [ho]),hexec]
 simp only [Oper.uponIn]
 refine ⟨fun h=>by simp [W] at h,XI (WL hcalls ?_)⟩
 rintro e w' ⟨v',ownc',ρc',rfl,q1,q2,q3,q4,q7,q5,q6⟩
 obtain ⟨ρ',own',HH⟩:=c4 v' w' ownc' ρc' q1 q2 q3 q4 q7 q5 q6
 exact wH HH
end Go.Sym
namespace Go.Sym
open Go
variable {A : Frm → Prop} {P : Program}
def yC (i:TI) (cells:List AV):AV:=bif i.td.agg then .agg cells else cells.headD .junk
def WU (Γ:Tys) (S:St):List ResultVar→(List AV→Prop)→Prop
 |[],K=>K []
 |.tmp t :: rs,K=>WU Γ S rs fun vs=>K (S.t t :: vs)
 |.cell t ty :: rs,K=>match Γ ty with
  |some i=>rd S (bif i.td.agg then i.cells else 1) (fun cells _=>WU Γ S rs fun vs=>K (yC i cells :: vs)) (S.t t)
  |none=>False
def Yy:List AV→AV
 |[]=>.tup []
 |[a]=>a
 |a :: b :: r=>.tup (a :: b :: r)
def Rx (tmps:Array Value):ResultVar→Sem Value
 |.tmp t=>pure (tmps.getD t undef)
 |.cell x t=>do loadVar t (← asAddr (tmps.getD x undef))
theorem QbD (fn:Func) (tmps:Array Value):results fn tmps=(do let vs ← fn.results.mapM (Rx tmps);pure (if h:vs.size=1 then vs[0] else .tuple vs)):=by
 unfold results
 congr 2
theorem Ry {Γ:Tys} (hΓ:ww P Γ) {F:Frm} {S:St} {a:Act} {w:World} {ρ:Nat→Value} {own:Own} (H:Holds F S a w ρ own):∀ {rs:List ResultVar} {K:List AV→Prop},WU Γ S rs K →
  ∃ avs vs,K avs∧(List.mapM (Rx a.tmps) rs:Sem (List Value)).run P w=.ok vs w∧vs.length=avs.length∧∀ (i:Nat) (c:AV),avs[i]?=some c→ARel w (okB w own ρ S.h) ρ F.y c (vs.getD i undef)
 |[],K,h=>⟨[],[],h,by simp,rfl,by simp⟩
 |.tmp t :: rs,K,h=>by
  obtain ⟨avs,vs,hK,hrun,hl,hr⟩:=Ry hΓ H (rs:=rs) (K:=fun vs=>K (S.t t :: vs)) h
  refine ⟨_,a.tmps.getD t undef :: vs,hK,by simp only [List.mapM_cons,Rx,Sem.run_bind,Sem.run_pure,Result.andThen_ok,hrun],by simp [hl],fun i c hc=>?_⟩
  cases i with
  |zero=>simp only [List.getElem?_cons_zero,Option.some.injEq] at hc;subst hc;exact H.temps t
  |succ i=>simpa using hr i c (by simpa using hc)
 |.cell x t :: rs,K,h=>by
  simp only [WU] at h
  split at h
  ·rename_i i hi
   obtain ⟨cells,hr,h,hrd⟩:=UJ h
   obtain ⟨avs,vs,hK,hrun,hl,hrr⟩:=Ry hΓ H (rs:=rs) (K:=fun vs=>K (yC i cells :: vs)) h
   have ht:=hΓ t i hi
   obtain ⟨hlen,ad,us,hv,hul,hcell,hrel⟩:=hrd.read F S a w ρ own _ (fun _ _=>rfl) H (H.temps x)
   have hone:∃ u,(loadVar t ad).run P w=.ok u w∧ARel w (okB w own ρ S.h) ρ F.y (yC i cells) u:=by
    unfold yC
    cases hagg:i.td.agg
    ·rw [hagg,cond_false] at hlen hul
     obtain ⟨u,rfl⟩:=UF hul
     have hc0:w.cell? ad=some u:=by have:=hcell 0 u rfl;rwa [add_zero'] at this
     refine ⟨u,QS ht hagg w ad u hc0, ?_⟩
     match cells,hlen with
     |[c],_=>exact (hrel 0 c u rfl rfl).1
    ·rw [hagg,cond_true] at hlen hul
     refine ⟨_,QX ht hagg w ad us (by omega) hcell, ?_⟩
     refine .agg (by simp;omega) fun j c hc=>?_
     have hj:j < us.length:=by have:=(List.getElem?_eq_some_iff.1 hc).1;omega
     have:=(hrel j c _ hc (List.getElem?_eq_getElem hj)).1
     simpa [hj] using this
   obtain ⟨u,hu,hru⟩:=hone
   have hpa:(asAddr (a.tmps.getD x undef)).run P w=.ok ad w:=by rw [hv];rfl
   refine ⟨_,u :: vs,hK,by simp only [List.mapM_cons,Rx,Sem.run_bind,hpa,Sem.run_pure,Result.andThen_ok,hu,hrun],by simp [hl],fun i c hc=>?_⟩
   cases i with
   |zero=>simp only [List.getElem?_cons_zero,Option.some.injEq] at hc;subst hc;exact hru
   |succ i=>simpa using hrr i c (by simpa using hc)
  ·exact h.elim
theorem Ym {Γ:Tys} (hΓ:ww P Γ) {F:Frm} {S:St} {a:Act} {w:World} {ρ:Nat→Value} {own:Own} (H:Holds F S a w ρ own) {fn:Func} {K:List AV→Prop} (h:WU Γ S fn.results.toList K) :
  ∃ avs v,K avs∧(results fn a.tmps).run P w=.ok v w∧ARel w (okB w own ρ S.h) ρ F.y (Yy avs) v:=by
 obtain ⟨avs,vs,hK,hrun,hl,hr⟩:=Ry hΓ H h
 refine ⟨avs,if h:vs.toArray.size=1 then vs.toArray[0] else .tuple vs.toArray,hK, ?_, ?_⟩
 ·rw [QbD,Array.mapM_eq_mapM_toList]
  simp only [map_eq_pure_bind,Sem.run_bind,Sem.run_pure,hrun]
  rfl
 ·match avs,vs,hl with
  |[],[],_=>exact .tup rfl (by simp)
  |[c],[v],_=>simpa [Yy] using hr 0 c rfl
  |c :: d :: r,v :: u :: q,hl =>
   simp only [Yy]
   rw [dif_neg (by simp)]
   exact .tup (by simpa using hl) fun i c hc=>by have:=hr i c hc;simpa using this
abbrev kR:=FuncId→List AV→St→(St→Prop)→Prop
def kR.OK (A:Frm→Prop) (P:Program) (D:kR):Prop:=∀ f caps S K,D f caps S K→(∀ vs w,(callFunc f vs).run P w=.ok (.enter f vs) w)∧∀ F,A F→∀ a w ρ own,Holds F S a w ρ own→∀ vs:Array Value,vs.size=caps.length→(∀ (i:Nat) (c:AV),caps[i]?=some c→ARel w (okB w own ρ S.h) ρ F.y c (vs.getD i undef)) →
 CallsDIn (W none) 0 P f vs .returning w fun e u w'=>∃ v S',e=.returned v∧u=.returning∧K S'∧Gam F S' a w'
def noD:kR:=fun _ _ _ _=>False
theorem qw:kR.OK A P noD:=fun _ _ _ _ h=>h.elim
def Qx (D:kR):List ADf→St→(St→Prop)→Prop
 |[],S,K=>K S
 |.mark id :: ds,S,K=>S.h id=some .mark∧Qx D ds { t:=S.t,h:=upd S.h id none,n:=S.n,j:=S.j,d:=ds,m:=S.m } K
 |.call f caps :: ds,S,K=>D f caps { t:=S.t,h:=S.h,n:=S.n,j:=S.j,d:=ds,m:=S.m } fun S'=>S'.d=ds∧Qx D ds S' K
theorem Holds.pop {F:Frm} {S:St} {a:Act} {w:World} {ρ:Nat→Value} {own:Own} (H:Holds F S a w ρ own) {d:ADf} {ds:List ADf} (hd:S.d=d :: ds) :
  ∃ x xs,a.defers=x :: xs∧DfRel w (okB w own ρ S.h) ρ F.y d x∧Holds F { t:=S.t,h:=S.h,n:=S.n,j:=S.j,d:=ds,m:=S.m } { tmps:=a.tmps,defers:=xs } w ρ own:=by
 have h:=H.defs
 rw [hd] at h
 generalize hx:a.defers=l at h
 cases h with
 |@cons _ x _ xs h1 h2 =>
  refine ⟨x,xs,rfl,h1,H.jay,H.temps,H.obj,H.inj,H.blkOK,fun id hid=>?_,H.nle,H.meq,H.tsz,H.pins,H.ext,H.ownsub,H.still,h2⟩
  obtain ⟨g1,g2,g3,g4⟩:=H.fresh id hid
  refine ⟨g1,g2,g3,fun hm=>g4 ?_⟩
  rw [hd,List.flatMap_cons]
  exact List.mem_append_right _ hm
theorem xe (w:World) (b:Nat) (o:Obj) (k:Nat):(w.putObj b o).heap[k]?=if k=b∧b < w.heap.size then some o else w.heap[k]?:=by
 simp only [World.putObj,Array.getElem?_setIfInBounds]
 by_cases h:b=k
 ·subst h
  by_cases h2:b < w.heap.size
  ·simp [h2]
  ·simp [h2]
 ·rw [if_neg h,if_neg (by intro e;exact h e.1.symm)]
theorem Ext.putObj {mod:Nat→Prop} (w:World) (b:Nat) (o:Obj) (h:mod b):Ext mod w (w.putObj b o) :=
 ⟨rfl,rfl,rfl,by simp [World.putObj],fun k _ hn=>by rw [xe,if_neg (by rintro ⟨e,_⟩;subst e;exact hn h)]⟩
theorem QF {D:kR} (hD:kR.OK A P D) {F:Frm} (hF:A F) {fn:Func} {R:Ending→World→Prop}:∀ (ds:List ADf) (S:St) (a:Act) (w:World) {K:St→Prop},S.d=ds→Qx D ds S K→Gam F S a w →
  (∀ S' w',K S'→S'.d=[]→Gam F S' { tmps:=a.tmps,defers:=[] } w'→LeavesInM (W none) 0 P fn a.tmps R [] .returning w')→LeavesInM (W none) 0 P fn a.tmps R a.defers .returning w
 |[],S,a,w,K,hd,h,⟨ρ,own,H⟩,fin=>by
  have hdf:=H.defs
  rw [hd] at hdf
  generalize hx:a.defers=l at hdf
  cases hdf
  refine fin S w h hd ⟨ρ,own, ?_⟩
  have:a={ tmps:=a.tmps,defers:=[] }:=by rw [← hx]
  rw [← this];exact H
 |.mark id :: ds,S,a,w,K,hd,⟨hm,h⟩,⟨ρ,own,H⟩,fin=>by
  obtain ⟨x,xs,hx,hdr,H'⟩:=H.pop hd
  rw [hx]
  have hob:=H.obj id _ hm
  cases hdr with
  |@mark _ b e =>
   rw [e] at hob
   cases hob with
   |mark hb =>
    refine ⟨by simp,.inl ⟨b,_,rfl,run_takeDeferred hb, ?_⟩⟩
    have hxt:Ext (fun k=>k=b) w (w.putObj b (.deferred none)):=Ext.putObj _ _ _ rfl
    have hno:¬ own.all b:=(H.blkOK id _ b hm (by rw [e];rfl)).1
    have H2:=H'.app (dst:=none) (e:={ av:=.junk,hw:=[(id,none)] }) (v':=undef) (w':=w.putObj b (.deferred none)) (ρ':=ρ) (own':=own) (ds:=[]) (fun _ h=>by cases h)
     ((F.stable _ _ _ H.jay).2 _ (hxt.weaken fun k _ hk ho=>hno (hk ▸ ho))) (hxt.weaken fun k _ hk=>.inr ⟨id,.mark,by simp [Eff.keys],hm,by rw [e,hk];rfl⟩) (.inl rfl) (by simp) (fun _ _=>rfl) (by simp) .junk
     (fun i o hi ho=>by simp [Eff.keys] at hi;subst hi;simp [zo,upd_same] at ho) (fun i k o o' b hi hk ho=>by simp [Eff.keys] at hi;subst hi;simp [zo,upd_same] at ho)
     (fun i hi=>by
      simp [Eff.ids,AV.ids,zK] at hi
      subst hi
      have:i < S.n:=Nat.lt_of_not_le fun hn=>by have:=(H.fresh i hn).1;rw [hm] at this;cases this
      exact Nat.lt_of_lt_of_le this (Nat.le_max_left _ _)) .nil
    refine QF hD hF ds _ { tmps:=a.tmps,defers:=xs } _ rfl h ⟨ρ,own, ?_⟩ fin
    simpa [St.app,put,zo,Act.put] using H2
 |.call f caps :: ds,S,a,w,K,hd,h,⟨ρ,own,H⟩,fin=>by
  obtain ⟨x,xs,hx,hdr,H'⟩:=H.pop hd
  rw [hx]
  cases hdr with
  |@call _ _ vs h1 h2 =>
   obtain ⟨hent,hc⟩:=hD f caps _ _ h
   refine ⟨by simp,.inr ⟨fun h=>by simp [W] at h,.func f,vs,f,#[]++vs,rfl, ?_,fun g _=>trivial, ?_⟩⟩
   ·simp [invoke,hent]
   ·refine CallsDIn.mono (n:=0) (hc F hF { tmps:=a.tmps,defers:=xs } w ρ own H' (#[]++vs) (by simpa using h1) fun i c hc=>by have:=h2 i c hc;simpa using this) ?_
    rintro e u w' ⟨v,S',rfl,rfl,⟨hS'd,hl⟩,hg⟩
    exact QF hD hF ds S' { tmps:=a.tmps,defers:=xs } w' hS'd hl hg fin
def Ro:Nat→List AV→List (Nat × AV)
 |_,[]=>[]
 |i,a :: az=>(i,a) :: Ro (i+1) az
theorem Q4 (k:Nat):∀ (az:List AV) (i t:Nat),i≤t→(asg (Ro i az) t=match az[t - i]? with|some a=>a|none=>.junk)
 |[],i,t,_=>by simp [Ro,asg]
 |a :: az,i,t,h=>by
  rw [Ro]
  by_cases ht:t=i
  ·subst ht;simp [asg]
  ·rw [Qhl _ _ _ _ ht,Q4 k az (i+1) t (by omega)]
   rw [show t - i=(t - (i+1))+1 by omega,List.getElem?_cons_succ]
def Fin (S:St) (rv v:AV) (n0:Nat) (h1:Nat→Option AObj) (dj:Nat):Prop:=∃ (σ:Nat→Option Nat) (hf:Nat→Option AObj),AV.le hf σ rv v ∧
 (∀ i o1,h1 i=some o1→(∃ c o,σ i=some c∧S.h c=some o∧AObj.le hf σ o o1)∨(σ i=none∧∃ e k,o1=.row e k []∧0 < k)) ∧
 (∀ i o k o' c,h1 i=some o→h1 k=some o'→σ i=some c→σ k=some c→i=k) ∧
 (∀ i o,hf i=some o→S.h i=some o∧∀ j o1,h1 j=some o1→σ j ≠ some i)∧(∀ i,i < n0→σ i=some i)∧S.j=dj
def wK (Γ:Tys) (D:kR) (fn:Func) (Q:St→AV→Prop):Exit→St→Prop
 |.normal,S=>Qx D S.d S fun S'=>WU Γ S' fn.results.toList fun vs=>Q S' (Yy vs)
 |.ret,S=>Qx D S.d S fun S'=>WU Γ S' fn.results.toList fun vs=>Q S' (Yy vs)
 |_,_=>False
structure FnData (P:Program) (Γ:Tys) (f:FuncId) (fn:Func) (c:Code):Prop where
 ok:ww P Γ
 func:P.funcs[f]?=some fn
 body:fn.body=some c
 enter:∀ vs w,(callFunc f vs).run P w=.ok (.enter f vs) w
 dst:yU fn.ntmps c=true
def qX (az:List AV) (n0:Nat) (h0:Nat→Option AObj):St:={ t:=asg (Ro 0 az),h:=h0,n:=n0,m:=n0 }
theorem QfM {F:Frm} {S:St} {a:Act} {w:World} {ρ:Nat→Value} {own:Own} (H:Holds F S a w ρ own) {rv v:AV} {n0:Nat} {h1:Nat→Option AObj} {dj:Nat} (hq:Fin S rv v n0 h1 dj) (hn0:∀ i o,F.H0 i=some o→i < n0) :
  ∃ ρ',Hp F.J F.y h1 dj own w ρ'∧(∀ x,ARel w (okB w own ρ S.h) ρ F.y rv x→ARel w (okB w own ρ' h1) ρ' F.y v x)∧(∀ i o,F.H0 i=some o→ρ' i=F.ρ0 i) ∧
   ∀ i o b,h1 i=some o→blk (ρ' i)=some b→F.w0.heap.size≤b∨F.owns0 b:=by
 obtain ⟨σ,hf,hle,hh,hinj,hfr,hm,hj⟩:=hq
 let ρ':Nat→Value:=fun j=>match σ j with|some i=>ρ i|none=>.slice none 0 0
 have hσ:∀ j i,σ j=some i→ρ' j=ρ i:=fun j i h=>by simp only [ρ',h]
 have hσ0:∀ j,σ j=none→ρ' j=.slice none 0 0:=fun j h=>by simp only [ρ',h]
 have hok:∀ b,okB w own ρ S.h b→okB w own ρ' h1 b:=by
  rintro b ⟨g1,g2,g3⟩
  refine ⟨g1,g2,fun i o hi hb=>?_⟩
  rcases hh i o hi with ⟨k,o',hk,ho',_⟩|⟨hn,_⟩
  ·rw [hσ i k hk] at hb;exact g3 k o' ho' hb
  ·rw [hσ0 i hn] at hb;simp [blk] at hb
 have hrow:∀ i ox b,hf i=some ox→blk (ρ i)=some b→okB w own ρ' h1 b:=by
  intro i ox b hi hb
  obtain ⟨g1,g2⟩:=hfr i _ hi
  refine ⟨(H.obj i _ g1).lt hb,fun hp=>(H.blkOK i _ b g1 hb).1 (own.sub _ hp),fun j o hj hbj=>?_⟩
  rcases hh j o hj with ⟨k',o',hk',ho',_⟩|⟨hn,_⟩
  ·rw [hσ j k' hk'] at hbj
   have:=H.inj k' i o' _ b ho' g1 hbj hb
   subst this
   exact g2 j o hj hk'
  ·rw [hσ0 j hn] at hbj;simp [blk] at hbj
 have hobjf:∀ i o,hf i=some o→ORel w (okB w own ρ S.h) ρ F.y o (ρ i):=fun i o hi=>H.obj i o (hfr i o hi).1
 refine ⟨ρ',⟨hj ▸ H.jay,fun i o hi=>?_,fun i k o o' b hi hk hbi hbk=>?_,fun i o b hi hb=>?_⟩,fun x hx=>AV.le_rel hobjf hok hrow hσ hσ0 hx v hle,fun i o hi=>?_,fun i o b hi hb=>?_⟩
 ·rcases hh i o hi with ⟨c,ob,hc,hob,hle⟩|⟨hn,e,k,rfl,hk⟩
  ·rw [hσ i c hc];exact AObj.le_rel hobjf hok hrow hσ hσ0 (H.obj c ob hob) hle
  ·rw [hσ0 i hn];exact Xm hk
 ·rcases hh i o hi with ⟨c,ob,hc,hob,_⟩|⟨hn,_⟩
  ·rcases hh k o' hk with ⟨c',ob',hc',hob',_⟩|⟨hn,_⟩
   ·rw [hσ i c hc] at hbi
    rw [hσ k c' hc'] at hbk
    have:=H.inj c c' ob ob' b hob hob' hbi hbk
    subst this
    exact hinj i o k o' c hi hk hc hc'
   ·rw [hσ0 k hn] at hbk;simp [blk] at hbk
  ·rw [hσ0 i hn] at hbi;simp [blk] at hbi
 ·rcases hh i o hi with ⟨c,ob,hc,hob,_⟩|⟨hn,_⟩
  ·rw [hσ i c hc] at hb;exact (H.blkOK c ob b hob hb).1
  ·rw [hσ0 i hn] at hb;simp [blk] at hb
 ·rw [hσ i i (hm i (hn0 i o hi))];exact H.pins i o hi
 ·rcases hh i o hi with ⟨c,ob,hc,hob,_⟩|⟨hn,_⟩
  ·rw [hσ i c hc] at hb;exact (H.blkOK c ob b hob hb).2
  ·rw [hσ0 i hn] at hb;simp [blk] at hb
theorem Fn.of {B:Ctx→Prop} {Γ:Tys} {D:kR} {f:FuncId} {fn:Func} {c:Code} (hd:FnData P Γ f fn c) {az:List AV} {n0:Nat} {h0:Nat→Option AObj} {v:AV} {h1:Nat→Option AObj} {dj:Nat}
  (has:az.length≤fn.ntmps) (hids:∀ a ∈ az,∀ id ∈ a.ids,id < n0) (hh0:∀ i o,h0 i=some o→i < n0∧∀ id ∈ o.ids,id < n0)
  (hA:∀ F,B ⟨F.y,F.J,F.own0,F.w0,F.ρ0⟩→F.H0=h0→F.r=none→A F) (hD:kR.OK A P D)
  (hs:Sym A P c (qX az n0 h0) (wK Γ D fn fun S rv=>Fin S rv v n0 h1 dj)):Fn B P f az h0 v h1 dj:=by
 refine ⟨hd.enter,fun y J hJ own w ρ vs hB hp hsz hrel=>?_⟩
 let F:Frm:={ r:=none,y,J,stable:=hJ,w0:=w,ρ0:=ρ,H0:=h0,own0:=own,n0,nt:=fn.ntmps,pinn:=fun i o h=>(hh0 i o h).1,recs:=fun _ h=>by cases h }
 have hF:A F:=hA F hB rfl rfl
 have hlen:vs.size≤fn.ntmps:=by omega
 let a:Act:={ tmps:=vs++Array.replicate (fn.ntmps - vs.size) undef,defers:=[] }
 have hg:Gam F (qX az n0 h0) a w:=by
  refine ⟨ρ,own,hp.jay,fun t=>?_,hp.obj,hp.inj,fun i o b hi hb=>⟨hp.off i o b hi hb,.inr ⟨i,o,hi,hb⟩⟩,fun id hid=>⟨?_,fun t hm=>?_,fun i o hi hm=>?_,by simp [qX]⟩,Nat.le_refl _,rfl,by simp [a,F];omega,fun _ _ _=>rfl,Ext.refl _ _,fun b hb=>.inl hb,fun _=>rfl,.nil⟩
  ·show ARel w _ ρ y (asg (Ro 0 az) t) _
   rw [Q4 0 az 0 t (Nat.zero_le _),Nat.sub_zero]
   cases hc:az[t]? with
   |none=>exact .junk
   |some c =>
    have ht:t < vs.size:=by rw [hsz];exact (List.getElem?_eq_some_iff.1 hc).1
    have e:a.tmps.getD t undef=vs.getD t undef:=by simp [a,Array.getElem?_append,ht]
    rw [e];exact hrel t c hc
  ·show h0 id=none
   cases ho:h0 id with
   |none=>rfl
   |some o=>have:=(hh0 id o ho).1;have:n0≤id:=hid;omega
  ·simp only [qX] at hm
   rw [Q4 0 az 0 t (Nat.zero_le _),Nat.sub_zero] at hm
   cases hc:az[t]? with
   |none=>rw [hc] at hm;simp [AV.ids] at hm
   |some c=>rw [hc] at hm;have:=hids c (List.mem_of_getElem? hc) id hm;have:n0≤id:=hid;omega
  ·have:=(hh0 i o hi).2 id hm;have:n0≤id:=hid;omega
 have hbody:=hs F hF hd.dst a w hg
 refine Qbo (r:=none) (callsIn_of_wp_marks hd.func hd.body trivial (wpIn_mono hbody ?_))
 have hlv:∀ S' (a':Act) w',Gam F S' a' w'→Qx D S'.d S' (fun S'=>WU Γ S' fn.results.toList fun vs=>Fin S' (Yy vs) v n0 h1 dj)→LeavesInM (W none) 0 P fn a'.tmps (fun e w'=>∃ v' own' ρ',e=.returned v'∧Hp J y h1 dj own' w' ρ'∧ARel w' (okB w' own' ρ' h1) ρ' y v v'∧Ext (fun b=>own.prv b∨∃ i o,h0 i=some o∧blk (ρ i)=some b) w w' ∧
   (∀ b,own'.prv b→own.prv b∨w.heap.size≤b)∧(dj=0→own'=own)∧(∀ i o,h0 i=some o→ρ' i=ρ i)∧(∀ i o b,h1 i=some o→blk (ρ' i)=some b→w.heap.size≤b∨∃ k o',h0 k=some o'∧blk (ρ k)=some b)) a'.defers .returning w':=by
  intro S' a' w' hg' hl
  refine QF hD hF S'.d S' a' w' rfl hl hg' fun S2 w2 hres _ ⟨ρ2,own2,H2⟩=>?_
  obtain ⟨avs,v',hQ,hrun,hrv⟩:=Ym hd.ok H2 hres
  obtain ⟨ρ3,hp3,hv3,hpin3,hbl3⟩:=QfM H2 hQ fun i o hi=>(hh0 i o hi).1
  obtain ⟨_,_,_,_,_,_,_,hj3⟩:=hQ
  exact ⟨v',hrun,v',own2,ρ3,rfl,hp3,hv3 _ hrv,H2.ext,H2.ownsub,fun hd=>H2.still (hj3.trans hd),hpin3,hbl3⟩
 rintro e a' w' ⟨S',hk,hg'⟩
 cases e with
 |normal=>exact hlv S' a' w' hg' hk
 |ret=>exact hlv S' a' w' hg' hk
 |_=>exact hk.elim
end Go.Sym
namespace Go.Sym
open Go Go.MapKept
variable {A : Frm → Prop} {P : Program}
open Classical in
noncomputable def wF:List (Value × Value)→Value→Option Value
 |[],_=>none
 |p :: ps,k=>if p.1=k then some p.2 else wF ps k
open Classical in
noncomputable def jd:List (Value × Value)→Value→Value→List (Value × Value)
 |[],k,v=>[(k,v)]
 |p :: ps,k,v=>if p.1=k then (k,v) :: ps else p :: jd ps k v
theorem Ky {es:List (Value × Value)} {k:Value} (h:∀ p ∈ es,p.1 ≠ k):wF es k=none:=by
 induction es with
 |nil=>rfl
 |cons p es ih=>rw [wF,if_neg (h p List.mem_cons_self)];exact ih fun q hq=>h q (List.mem_cons_of_mem _ hq)
theorem Qeu {es:List (Value × Value)} {k v:Value} (h:∀ p ∈ es,p.1 ≠ k):jd es k v=es++[(k,v)]:=by
 induction es with
 |nil=>rfl
 |cons p es ih=>rw [jd,if_neg (h p List.mem_cons_self),ih fun q hq=>h q (List.mem_cons_of_mem _ hq)];rfl
theorem XU {es:List (Value × Value)} {k:Value} {j:Nat} {p:Value × Value} (hn:(es.map (·.1)).Nodup) (h:es[j]?=some p) (hk:p.1=k):wF es k=some p.2:=by
 induction es generalizing j with
 |nil=>simp at h
 |cons q es ih =>
  rw [List.map_cons,List.nodup_cons] at hn
  cases j with
  |zero=>cases h;rw [wF,if_pos hk]
  |succ j =>
   have h':es[j]?=some p:=by simpa using h
   rw [wF,if_neg,ih hn.2 h']
   intro e
   exact hn.1 (by rw [e,← hk];exact List.mem_map.2 ⟨p,List.mem_of_getElem? h',rfl⟩)
theorem Qeq {es:List (Value × Value)} {k v:Value} {j:Nat} {p:Value × Value} (hn:(es.map (·.1)).Nodup) (h:es[j]?=some p) (hk:p.1=k):jd es k v=es.set j (k,v):=by
 induction es generalizing j with
 |nil=>simp at h
 |cons q es ih =>
  rw [List.map_cons,List.nodup_cons] at hn
  cases j with
  |zero=>cases h;rw [jd,if_pos hk];rfl
  |succ j =>
   have h':es[j]?=some p:=by simpa using h
   rw [jd,if_neg,ih hn.2 h']
   ·rfl
   ·intro e
    exact hn.1 (by rw [e,← hk];exact List.mem_map.2 ⟨p,List.mem_of_getElem? h',rfl⟩)
open Classical in
noncomputable def Xz:List (Value × Value)→Value→Nat
 |[],_=>0
 |p :: ps,k=>if p.1=k then 0 else Xz ps k+1
noncomputable def Qik (es:List (Value × Value)) (k z:Value):List (Value × Value):=match wF es k with
 |some _=>es
 |none=>es++[(k,z)]
def MOK (Q:Value→Prop) (es:List (Value × Value)):Prop:=(es.map (·.1)).Nodup∧∀ p ∈ es,Q p.1
theorem MOK.nil (Q:Value→Prop):MOK Q []:=⟨.nil,by simp⟩
theorem XK {es:List (Value × Value)} {k v:Value} {x:Value}:x ∈ (jd es k v).map (·.1) ↔ x=k∨x ∈ es.map (·.1):=by
 induction es with
 |nil=>simp [jd]
 |cons p es ih =>
  rw [jd]
  split
  ·rename_i h;subst h;simp
  ·rw [List.map_cons,List.mem_cons,ih,List.map_cons,List.mem_cons]
   constructor
   ·rintro (h|h|h)
    ·exact .inr (.inl h)
    ·exact .inl h
    ·exact .inr (.inr h)
   ·rintro (h|h|h)
    ·exact .inr (.inl h)
    ·exact .inl h
    ·exact .inr (.inr h)
theorem MOK.set {Q:Value→Prop} {es:List (Value × Value)} (h:MOK Q es) {k v:Value} (hk:Q k):MOK Q (jd es k v):=by
 constructor
 ·have hn:=h.1
  clear h
  induction es with
  |nil=>simp [jd]
  |cons p es ih =>
   rw [List.map_cons,List.nodup_cons] at hn
   rw [jd]
   split
   ·rename_i e;subst e;simpa using hn
   ·rename_i e
    rw [List.map_cons,List.nodup_cons]
    refine ⟨fun hm=>?_,ih hn.2⟩
    rcases XK.1 hm with e'|e'
    ·exact e e'
    ·exact hn.1 e'
 ·intro p hp
  have:p.1 ∈ (jd es k v).map (·.1):=List.mem_map.2 ⟨p,hp,rfl⟩
  rcases XK.1 this with e|e
  ·rw [e];exact hk
  ·obtain ⟨q,hq,e⟩:=List.mem_map.1 e
   rw [← e];exact h.2 q hq
theorem Zr {es:List (Value × Value)} {k v x:Value}:wF (jd es k v) x=(open Classical in if k=x then some v else wF es x):=by
 classical
 induction es with
 |nil=>simp [jd,wF]
 |cons p es ih =>
  rw [jd]
  split
  ·rename_i e
   subst e
   simp only [wF]
   split <;> rfl
  ·rename_i e
   simp only [wF,ih]
   by_cases h1:p.1=x
   ·rw [if_pos h1,if_pos h1,if_neg (fun h=>e (h1.trans h.symm))]
   ·rw [if_neg h1,if_neg h1]
theorem QaZ {k:IntKind} {ks:List (Option IntKind)} {n:Int} {xs:List Value}:qE (some k :: ks) (.int k n :: xs)=qE ks xs:=by simp [qE]
theorem Qau {ks:List (Option IntKind)} {b:Bool} {xs:List Value}:qE (none :: ks) (.bool b :: xs)=qE ks xs:=by simp [qE]
theorem QbH:qE [] []=True:=by simp [qE]
theorem vTL (l:List Value):l.toArray.toList=l:=rfl
theorem Qa9 {ops:Array Oper} {o:Oper} {S:St} (hw:Want ops o S) {t:TypeId} (ho:o.op=.makeMap t none) :
  VE A P ops o { av:=.mp S.n,hw:=[(S.n,some (.map []))],news:=[S.n],n:=S.n+1 } S:=by
 have hd:∀ c,o.op ≠ .defer c:=by simp [ho]
 have hI:∀ id ∈ Eff.ids { av:=.mp S.n,hw:=[(S.n,some (.map []))],news:=[S.n],n:=S.n+1 },id < S.n+1:=by
  intro id hid
  simp only [Eff.ids,AV.ids,zK,AObj.ids,List.append_nil,List.flatMap_nil,List.mem_append,List.mem_cons,List.not_mem_nil,or_false] at hid
  rcases hid with rfl|rfl <;> omega
 refine ⟨fun F hF hds S2 a w hag hfr ⟨ρ,own,H⟩=>?_,hI,by simp⟩
 rw [wy hw hag H,if_pos rfl]
 have hrun:(execOp a.eval o).run P w=.ok (.value (.map (some w.heap.size))) (w.alloc (.map #[] 0)):=by
  simp [execOp,ho,Instr.makeMap,newObj,Sem.run]
 refine wM hd hrun (wH (ρ':=upd ρ S.n (.map (some w.heap.size))) (own':=own) ?_)
 have hx:Ext (fun _=>False) w (w.alloc (.map #[] 0)):=Ext.alloc _ _ _
 have hj:F.J S2.j own (w.alloc (.map #[] 0)):=(F.stable _ _ _ H.jay).2 _ (hx.weaken fun _ _ h=>h.elim)
 refine H.app (yQ hds) hj (hx.weaken fun _ _ h=>h.elim) (.inl rfl) (by simp [Eff.keys]) (fun i hi=>upd_ne _ _ _ _ (by simpa using hi)) (by simpa using hfr) (.mp (upd_same _ _ _) rfl) ?_ ?_ ?_ .nil
 ·intro i ob hi hob
  simp only [Eff.keys,List.map_cons,List.map_nil,List.mem_singleton] at hi
  subst hi
  simp only [zo,upd_same,Option.some.injEq] at hob
  subst hob
  rw [upd_same]
  refine ⟨.map (ky _ _) (by simp) (by simp) (by simp) (by simp),fun b hb=>?_⟩
  simp [blk] at hb
  subst hb
  exact ⟨fun ho=>by have:=(F.stable _ _ _ H.jay).1 _ ho;omega,.inl (Nat.le_refl _)⟩
 ·intro i k o1 o2 b hi hk _ _ _ _
  simp only [Eff.keys,List.map_cons,List.map_nil,List.mem_singleton] at hi hk
  rw [hi,hk]
 ·intro id hid
  exact Nat.lt_of_lt_of_le (hI id hid) (Nat.le_max_right _ _)
def Wv:List AV→Option (List Value)
 |[]=>some []
 |.v x :: cs=>(Wv cs).map (x :: ·)
 |_ :: _=>none
def AV.toV:AV→Option Value
 |.v x=>some x
 |.agg cs=>(Wv cs).map fun l=>.agg l.toArray
 |_=>none
theorem VW {w:World} {ok:Nat→Prop} {ρ:Nat→Value} {y:Value}:∀ {cs:List AV} {l:List Value} {vs:List Value},Wv cs=some l→vs.length=cs.length →
  (∀ (i:Nat) (c:AV),cs[i]?=some c→ARel w ok ρ y c (vs.getD i undef))→vs=l
 |[],l,vs,h,hl,_=>by simp [Wv] at h;subst h;exact List.eq_nil_of_length_eq_zero (by simpa using hl)
 |c :: cs,l,vs,h,hl,hr=>by
  cases vs with
  |nil=>simp at hl
  |cons u vs =>
   cases c <;> simp only [Wv] at h <;> first|cases h|skip
   rename_i x
   obtain ⟨l',h',rfl⟩:=Option.map_eq_some_iff.1 h
   have h0:=hr 0 _ rfl
   have e:u=x:=(qQ (by simpa using h0)).1
   have e2:=VW (vs:=vs) h' (by simpa using hl) fun i c hc=>by simpa using hr (i+1) c (by simpa using hc)
   rw [e,e2]
theorem Z7 {w:World} {ok:Nat→Prop} {ρ:Nat→Value} {y:Value} {c:AV} {u x:Value} (h:c.toV=some u) (hr:ARel w ok ρ y c x):x=u:=by
 cases c <;> simp only [AV.toV] at h <;> first|cases h|skip
 case v=>exact (qQ hr).1
 case agg cs =>
  obtain ⟨l,h',rfl⟩:=Option.map_eq_some_iff.1 h
  cases hr with
  |@agg _ vs hs hall =>
   have:=VW (vs:=vs.toList) h' (by simpa using hs) fun i c hc=>by simpa using hall i c hc
   rw [← this]
def Vq (agg:Bool) (v:Value):Bool:=match agg,v with
 |true,.agg vs=>vs.toList.all (·.oneCell')
 |true,_=>false
 |false,v=>v.oneCell'
def vAV (v:Value):AV:=match v with
 |.agg vs=>.agg (vs.toList.map .v)
 |v=>.v v
theorem QcE {w:World} {ok:Nat→Prop} {ρ:Nat→Value} {y:Value} {b:Bool} {v:Value} (h:Vq b v=true):ARel w ok ρ y (vAV v) v:=by
 have one:∀ v:Value,v.oneCell'=true→(∀ vs,v ≠ .agg vs)→ARel w ok ρ y (vAV v) v:=fun v hv hn=>by
  cases v <;> first|exact absurd rfl (hn _)|exact .v hv
 by_cases ha:∃ vs,v=.agg vs
 ·obtain ⟨vs,rfl⟩:=ha
  cases b
  ·simp [Vq,Value.oneCell'] at h
  ·simp only [Vq] at h
   refine .agg (by simp) fun i c hc=>?_
   rw [List.getElem?_map] at hc
   obtain ⟨u,hu,rfl⟩:=Option.map_eq_some_iff.1 hc
   have hu':vs[i]?=some u:=by simpa using hu
   have:vs.getD i undef=u:=by simp [hu']
   rw [this]
   exact .v (List.all_eq_true.1 h u (List.mem_of_getElem? hu))
 ·have hn:∀ vs,v ≠ .agg vs:=fun vs e=>ha ⟨vs,e⟩
  cases b
  ·exact one v (by simpa [Vq] using h) hn
  ·cases v <;> first|exact absurd rfl (hn _)|simp [Vq] at h
def ZOK (P:Program) (e:TypeId) (z:AV):Prop:=∀ w:World,∃ v,(zeroValue e).run P w=.ok v w∧∀ (w':World) (ok:Nat→Prop) (ρ:Nat→Value) (y:Value),ARel w' ok ρ y z v
def wX (q:KeyInfo):Option Value→Prop × AV × Bool
 |some v=>(Vq q.agg v=true,vAV v,true)
 |none=>(∀ id,id ∉ q.z.ids,q.z,false)
theorem QcO (v:Value):(vAV v).ids=[]:=by
 cases v <;> first|rfl|skip
 case agg vs =>
  simp only [vAV,AV.ids]
  refine List.eq_nil_iff_forall_not_mem.2 fun id h=>?_
  obtain ⟨c,hc,hid⟩:=AV.mem_idsL.1 h
  obtain ⟨u,_,rfl⟩:=List.mem_map.1 hc
  simp [AV.ids] at hid
theorem Qd5 {es:List (Value × Value)} {k:Value} (h:∀ p ∈ es,p.1 ≠ k):Xz es k=es.length:=by
 induction es with
 |nil=>rfl
 |cons p es ih=>rw [Xz,if_neg (h p List.mem_cons_self),ih fun q hq=>h q (List.mem_cons_of_mem _ hq)];rfl
theorem QdP {es:List (Value × Value)} {k:Value} {j:Nat} {p:Value × Value} (hn:(es.map (·.1)).Nodup) (h:es[j]?=some p) (hk:p.1=k):Xz es k=j:=by
 induction es generalizing j with
 |nil=>simp at h
 |cons q es ih =>
  rw [List.map_cons,List.nodup_cons] at hn
  cases j with
  |zero=>cases h;rw [Xz,if_pos hk]
  |succ j =>
   have h':es[j]?=some p:=by simpa using h
   rw [Xz,if_neg,ih hn.2 h']
   intro e
   exact hn.1 (by rw [e,← hk];exact List.mem_map.2 ⟨p,List.mem_of_getElem? h',rfl⟩)
theorem KC {entries:Array MapEntry} {clock:Nat} {k v:Value} (h:∀ (i:Nat) (e:MapEntry),entries[i]?=some e→e.born=i) (hc:clock=entries.size):∀ (i:Nat) (e:MapEntry),(entries.push { key:=k,val:=v,born:=clock })[i]?=some e→e.born=i:=by
 intro i e hi
 rw [Array.getElem?_push] at hi
 split at hi
 ·rename_i h1;cases hi;rw [h1];exact hc
 ·exact h i e hi
theorem Zh {entries:Array MapEntry} {n:Nat} {f:MapEntry→MapEntry} (h:∀ (i:Nat) (e:MapEntry),entries[i]?=some e→e.born=i) (hf:∀ e,(f e).born=e.born):∀ (i:Nat) (e:MapEntry),(entries.modify n f)[i]?=some e→e.born=i:=by
 intro i e hi
 rw [Array.getElem?_modify] at hi
 split at hi
 ·obtain ⟨e',he',rfl⟩:=Option.map_eq_some_iff.1 hi
  rw [hf];exact h i e' he'
 ·exact h i e hi
theorem VE.setRet {ops:Array Oper} {o:Oper} {S:St} {id:Nat} {ob ob':AObj} {hr:List Nat} {av:AV} (hav:∀ i ∈ av.ids,i < S.n) (hS:Wf S) (hw:Want ops o S) (hd:∀ c,o.op ≠ .defer c) (hob:S.h id=some ob) (hidr:id ∈ hr) (hids:∀ i ∈ ob'.ids,i < S.n)
  (h:∀ F S2 a w ρ own,Agree ops o { av:=av,hw:=[(id,some ob')],hr:=hr,n:=S.n } S S2→Holds F S2 a w ρ own→S2.h id=some ob →
   ∃ u w',(execOp a.eval o).run P w=.ok (.value u) w'∧Ext (fun b=>blk (ρ id)=some b) w w'∧ORel w' (okB w own ρ S2.h) ρ F.y ob' (ρ id)∧∀ (w':World) (ok:Nat→Prop) (ρ:Nat→Value) (y:Value),ARel w' ok ρ y av u) :
  VE A P ops o { av:=av,hw:=[(id,some ob')],hr:=hr,n:=S.n } S:=by
 have hlt:id < S.n:=Nat.lt_of_not_le fun hn=>by have:=(hS id hn).1;rw [hob] at this;cases this
 have hI:∀ i ∈ Eff.ids { av:=av,hw:=[(id,some ob')],hr:=hr,n:=S.n },i < S.n:=by
  intro i hi
  simp only [Eff.ids,zK,List.append_nil,List.mem_append,List.mem_cons] at hi
  have hi:i ∈ av.ids∨i=id∨i ∈ ob'.ids:=by simpa using hi
  rcases hi with hi|rfl|hi
  ·exact hav i hi
  ·exact hlt
  ·exact hids i hi
 refine ⟨fun F hF hds S2 a w hag _ ⟨ρ,own,H⟩=>?_,hI,by simp⟩
 rw [wy hw hag H,if_pos rfl]
 have hob2:S2.h id=some ob:=(hag.2.1 id hidr).trans hob
 obtain ⟨u,w',hrun,hx,horel,hu⟩:=h F S2 a w ρ own hag H hob2
 refine wM hd hrun (wH (ρ':=ρ) (own':=own) ?_)
 have hno:∀ b,own.all b→blk (ρ id) ≠ some b:=fun b ho hb=>(H.blkOK id ob b hob2 hb).1 ho
 have hj:F.J S2.j own w':=(F.stable _ _ _ H.jay).2 _ (hx.weaken fun b _ hb ho=>hno b ho hb)
 have hok:∀ b,okB w own ρ S2.h b→okB w' own ρ (upd S2.h id (some ob')) b∧w'.heap[b]?=w'.heap[b]?:=by
  rintro b ⟨h1,h2,h3⟩
  refine ⟨⟨Nat.lt_of_lt_of_le h1 hx.size,h2,fun i o hi hb=>?_⟩,rfl⟩
  by_cases hin:i=id
  ·subst hin;exact h3 i ob hob2 hb
  ·rw [upd_ne _ _ _ _ hin] at hi;exact h3 i o hi hb
 refine H.app (yQ hds) hj (hx.weaken fun b _ hb=>.inr ⟨id,ob,by simp [Eff.keys],hob2,hb⟩) (.inl rfl) (by simp [Eff.keys]) (fun i _=>rfl) (by simp) (hu _ _ _ _) ?_ ?_ ?_ .nil
 ·intro i o1 hi ho1
  simp only [Eff.keys,List.map_cons,List.map_nil,List.mem_singleton] at hi
  subst hi
  simp only [zo,upd_same,Option.some.injEq] at ho1
  subst ho1
  exact ⟨horel.mono hok (fun _ _=>rfl) (fun _ _=>rfl),fun b hb=>⟨(H.blkOK i ob b hob2 hb).1,.inr ⟨i,ob,by simp [Eff.keys],hob2,hb⟩⟩⟩
 ·intro i k o1 o2 b hi hk _ _ _ _
  simp only [Eff.keys,List.map_cons,List.map_nil,List.mem_singleton] at hi hk
  rw [hi,hk]
 ·intro i hi
  exact Nat.lt_of_lt_of_le (hI i hi) (Nat.le_max_right _ _)
section maps
variable {ops : Array Oper} {o : Oper} {S : St} {t kt e : TypeId} {x k : Operand} {i : TI} {j : KeyInfo} {Q : Value → Prop} {id : Nat} {es : List (Value × Value)} {kv : Value}
theorem R5 {F:Frm} {S2:St} {a:Act} {w:World} {ρ:Nat→Value} {own:Own} (H:Holds F S2 a w ρ own) (hm:S2.h id=some (.map es)) :
  ∃ b entries clock,ρ id=.map (some b)∧w.heap[b]?=some (.map entries clock)∧entries.toList.map (fun e=>(e.key,e.val))=es∧(∀ (i:Nat) (e:MapEntry),entries[i]?=some e→e.born=i)∧clock=entries.size∧entries.size≤maxLen:=by
 have h:=H.obj id _ hm
 generalize hv:ρ id=v at h
 cases h with
 |map h1 h2 h3 h4 h5=>exact ⟨_,_,_,rfl,h1,h2,h3,h4,h5⟩
theorem QeN (hS:Wf S) (hw:Want ops o S) {c:Bool} (ho:o.op=.lookup t x k c) (ht:TyFact P t i) (htd:i.td=.map kt e) (hQ:MKey P kt Q) (hz:ZOK P e j.z)
  (hx:ev S x=.mp id) (hm:S.h id=some (.map es)) (hok:MOK Q es) (hk:(ev S k).toV=some kv) (hkq:Q kv) (hr:(wX j (wF es kv)).1) :
  VE A P ops o { av:=bif c then .tup [(wX j (wF es kv)).2.1,.v (.bool (wX j (wF es kv)).2.2)] else (wX j (wF es kv)).2.1,hr:=[id],n:=S.n } S:=by
 obtain ⟨d,hd,hdok⟩:=ht.under
 rw [htd] at hdok
 simp only [TD.ok] at hdok
 subst hdok
 have hnid:∀ i,i ∉ (wX j (wF es kv)).2.1.ids:=by
  intro i hi
  cases hg:wF es kv with
  |none=>rw [hg] at hi hr;exact hr i hi
  |some v=>rw [hg] at hi;simp [wX,QcO] at hi
 refine VE.val hw (by simp [ho]) (fun i hi=>?_) fun F S2 a w ρ own hag H=>?_
 ·cases c
  ·exact absurd hi (hnid i)
  ·simp only [cond_true,AV.ids,AV.idsL,List.append_nil] at hi
   exact absurd hi (hnid i)
 have h1:=qL H x
 rw [hag.ev (x:=x) (by simp [ho,Op.operands]),hx] at h1
 have h2:=Z7 (by rw [hag.ev (x:=k) (by simp [ho,Op.operands])];exact hk) (qL H k)
 have hm2:S2.h id=some (.map es):=(hag.2.1 id (by simp)).trans hm
 obtain ⟨b,entries,clock,hρ,hb,hes,_,_,_⟩:=R5 H hm2
 have h1':a.eval x=.map (some b):=by
  generalize a.eval x=v at h1
  cases h1 with|mp e1 _=>rw [← e1,hρ]
 have hkeys:∀ q ∈ entries.toList,Q q.key:=fun q hq=>hok.2 (q.key,q.val) (by rw [← hes];exact List.mem_map.2 ⟨q,hq,rfl⟩)
 have hrun:∃ r,(Instr.lookup t (.map (some b)) kv c).run P w=.ok (if c then .tuple #[r,.bool (wX j (wF es kv)).2.2] else r) w∧∀ (ok:Nat→Prop) (ρ:Nat→Value) (y:Value),ARel w ok ρ y (wX j (wF es kv)).2.1 r:=by
  rcases hQ.find w hkq entries.toList hkeys with ⟨f1,f2⟩|⟨n,q,f1,f2,f3⟩
  ·have hg:wF es kv=none:=Ky fun p hp=>by
    rw [← hes] at hp
    obtain ⟨q,hq,rfl⟩:=List.mem_map.1 hp
    exact f2 q hq
   obtain ⟨z,hz1,hz2⟩:=hz w
   refine ⟨z, ?_,fun ok ρ y=>by rw [hg];exact hz2 w ok ρ y⟩
   rw [hg]
   cases c <;> simp [Instr.lookup,run_underlying hd,MapKept.run_getObj_map hb,hQ.check w _ hkq,f1,hz1,Result.andThen,wX]
  ·have hg:wF es kv=some q.val:=XU hok.1 (j:=n) (p:=(q.key,q.val)) (by rw [← hes,List.getElem?_map,f2];rfl) f3
   refine ⟨q.val, ?_,fun ok ρ y=>by rw [hg] at hr ⊢;exact QcE hr⟩
   rw [hg]
   cases c <;> simp [Instr.lookup,run_underlying hd,MapKept.run_getObj_map hb,hQ.check w _ hkq,f1,Result.andThen,wX]
 obtain ⟨r,hr1,hr2⟩:=hrun
 refine ⟨if c then .tuple #[r,.bool (wX j (wF es kv)).2.2] else r,w,by simp [execOp,ho,h1',h2,hr1],Ext.none w, ?_⟩
 cases c
 ·simpa using hr2 _ _ _
 ·simp only [cond_true,if_true]
  refine .tup (by simp) fun i c hc=>?_
  match i with
  |0=>cases hc;simpa using hr2 _ _ _
  |1=>cases hc;simpa using .v rfl
  |n+2=>simp at hc
theorem Uf (hS:Wf S) (hw:Want ops o S) {v:Operand} (ho:o.op=.mapUpdate t x k v) (ht:TyFact P t i) (htd:i.td=.map kt e) (hQ:MKey P kt Q)
  (hx:ev S x=.mp id) (hm:S.h id=some (.map es)) (hok:MOK Q es) (hk:(ev S k).toV=some kv) (hkq:Q kv) {u:Value} (hv:(ev S v).toV=some u) (hlen:(jd es kv u).length≤maxLen) :
  VE A P ops o { av:=.junk,hw:=[(id,some (.map (jd es kv u)))],hr:=[id],n:=S.n } S:=by
 obtain ⟨d,hd,hdok⟩:=ht.under
 rw [htd] at hdok
 simp only [TD.ok] at hdok
 subst hdok
 refine VE.setObj hS hw (by simp [ho]) hm (by simp) (by simp [AObj.ids]) fun F S2 a w ρ own hag H hm2=>?_
 have h1:=qL H x
 rw [hag.ev (x:=x) (by simp [ho,Op.operands]),hx] at h1
 have h2:=Z7 (by rw [hag.ev (x:=k) (by simp [ho,Op.operands])];exact hk) (qL H k)
 have h3:=Z7 (by rw [hag.ev (x:=v) (by simp [ho,Op.operands])];exact hv) (qL H v)
 obtain ⟨b,entries,clock,hρ,hb,hes,hborn,hck,hsz⟩:=R5 H hm2
 have h1':a.eval x=.map (some b):=by
  generalize a.eval x=v at h1
  cases h1 with|mp e1 _=>rw [← e1,hρ]
 have hkeys:∀ q ∈ entries.toList,Q q.key:=fun q hq=>hok.2 (q.key,q.val) (by rw [← hes];exact List.mem_map.2 ⟨q,hq,rfl⟩)
 have hlt:b < w.heap.size:=(Array.getElem?_eq_some_iff.1 hb).1
 have ext:∀ o',Ext (fun b'=>blk (ρ id)=some b') w { w with heap:=w.heap.setIfInBounds b o' }:=fun o' =>
  ⟨rfl,rfl,rfl,by simp,fun k _ hn=>(MapKept.heap_set (o':=o') hb).2 k fun e=>hn (by rw [hρ,e];rfl)⟩
 rcases hQ.find w hkq entries.toList hkeys with ⟨f1,f2⟩|⟨n,q,f1,f2,f3⟩
 ·have hms:jd es kv u=es++[(kv,u)]:=Qeu fun p hp=>by
   rw [← hes] at hp
   obtain ⟨q,hq,rfl⟩:=List.mem_map.1 hp
   exact f2 q hq
  refine ⟨_,by simp [execOp,ho,h1',h2,h3,Instr.mapUpdate,run_underlying hd,MapKept.run_getObj_map hb,hQ.check w _ hkq,f1,MapKept.run_setObj_map _ hb,Result.andThen];rfl,ext _, ?_⟩
  rw [hρ]
  refine .map (MapKept.heap_set hb).1 (by simp [hms,hes]) ?_ (by simp [hck]) ?_
  ·exact KC hborn hck
  ·rw [hms,← hes] at hlen;simpa using hlen
 ·have hn:n < entries.size:=by simpa using (List.getElem?_eq_some_iff.1 f2).1
  have hms:jd es kv u=es.set n (kv,u):=Qeq hok.1 (p:=(q.key,q.val)) (by rw [← hes,List.getElem?_map,f2];rfl) f3
  have hq:entries[n]?=some q:=by simpa using f2
  refine ⟨_,by simp [execOp,ho,h1',h2,h3,Instr.mapUpdate,run_underlying hd,MapKept.run_getObj_map hb,hQ.check w _ hkq,f1,hq,f3,hQ.stays w hkq,MapKept.run_setObj_map _ hb,Result.andThen];rfl,ext _, ?_⟩
  rw [hρ]
  refine .map (MapKept.heap_set hb).1 ?_ (Zh hborn fun _=>rfl) (by simpa using hck) (by simpa using hsz)
  rw [hms,← hes]
  refine List.ext_getElem? fun m=>?_
  simp only [Array.toList_modify,List.getElem?_map,List.getElem?_modify,List.getElem?_set,List.length_map,Array.length_toList]
  by_cases hnm:n=m
  ·subst hnm;simp [hn]
  ·simp [hnm]
theorem Qar (hS:Wf S) (hw:Want ops o S) (ho:o.op=.mapEntry t x k) (ht:TyFact P t i) (htd:i.td=.map kt e) (hQ:MKey P kt Q) (hz:ZOK P e j.z) {zv:Value} (hzv:j.z.toV=some zv)
  (hx:ev S x=.mp id) (hm:S.h id=some (.map es)) (hok:MOK Q es) (hk:(ev S k).toV=some kv) (hkq:Q kv) (hr:(wX j (wF es kv)).1) (hlen:es.length+1≤maxLen) :
  VE A P ops o { av:=.tup [(wX j (wF es kv)).2.1,.v (.int .i64 (Xz es kv:Nat))],hw:=[(id,some (.map (Qik es kv zv)))],hr:=[id],n:=S.n } S:=by
 obtain ⟨d,hd,hdok⟩:=ht.under
 rw [htd] at hdok
 simp only [TD.ok] at hdok
 subst hdok
 have hnid:∀ i,i ∉ (wX j (wF es kv)).2.1.ids:=by
  intro i hi
  cases hg:wF es kv with
  |none=>rw [hg] at hi hr;exact hr i hi
  |some v=>rw [hg] at hi;simp [wX,QcO] at hi
 refine VE.setRet (fun i hi=>?_) hS hw (by simp [ho]) hm (by simp) (by simp [AObj.ids]) fun F S2 a w ρ own hag H hm2=>?_
 ·simp only [AV.ids,AV.idsL,List.append_nil] at hi
  exact absurd hi (hnid i)
 have h1:=qL H x
 rw [hag.ev (x:=x) (by simp [ho,Op.operands]),hx] at h1
 have h2:=Z7 (by rw [hag.ev (x:=k) (by simp [ho,Op.operands])];exact hk) (qL H k)
 obtain ⟨b,entries,clock,hρ,hb,hes,hborn,hck,hsz⟩:=R5 H hm2
 have h1':a.eval x=.map (some b):=by
  generalize a.eval x=v at h1
  cases h1 with|mp e1 _=>rw [← e1,hρ]
 have hkeys:∀ q ∈ entries.toList,Q q.key:=fun q hq=>hok.2 (q.key,q.val) (by rw [← hes];exact List.mem_map.2 ⟨q,hq,rfl⟩)
 have ext:∀ o',Ext (fun b'=>blk (ρ id)=some b') w { w with heap:=w.heap.setIfInBounds b o' }:=fun o' =>
  ⟨rfl,rfl,rfl,by simp,fun k _ hn=>(MapKept.heap_set (o':=o') hb).2 k fun e=>hn (by rw [hρ,e];rfl)⟩
 rcases hQ.find w hkq entries.toList hkeys with ⟨f1,f2⟩|⟨n,q,f1,f2,f3⟩
 ·have hne:∀ p ∈ es,p.1 ≠ kv:=fun p hp=>by
   rw [← hes] at hp
   obtain ⟨q,hq,rfl⟩:=List.mem_map.1 hp
   exact f2 q hq
  have hg:wF es kv=none:=Ky hne
  obtain ⟨z,hz1,hz2⟩:=hz w
  have hzz:z=zv:=Z7 hzv (hz2 w (fun _=>True) (fun _=>undef) undef)
  subst hzz
  have hln:es.length=entries.size:=by rw [← hes];simp
  have hi1:Xz es kv=entries.size:=by rw [Qd5 hne,hln]
  refine ⟨_,_,by simp [execOp,ho,h1',h2,Instr.mapEntry,run_underlying hd,MapKept.run_getObj_map hb,hQ.check w _ hkq,f1,hz1,MapKept.run_setObj_map _ hb,Result.andThen];exact ⟨rfl,rfl⟩,ext _, ?_,fun w' ok ρ y=>?_⟩
  ·rw [hρ]
   refine .map (MapKept.heap_set hb).1 (by simp [Qik,hg,hes]) (KC hborn hck) (by simp [hck]) (by rw [hln] at hlen;simpa using hlen)
  ·refine .tup (by simp) fun i c hc=>?_
   match i with
   |0=>cases hc;rw [hg];exact hz2 w' ok ρ y
   |1=>cases hc;rw [hi1,← hck];exact .v rfl
   |n+2=>simp at hc
 ·have hn:n < entries.size:=by simpa using (List.getElem?_eq_some_iff.1 f2).1
  have hq:entries[n]?=some q:=by simpa using f2
  have hesn:es[n]?=some (q.key,q.val):=by rw [← hes,List.getElem?_map,f2];rfl
  have hg:wF es kv=some q.val:=XU hok.1 (j:=n) (p:=(q.key,q.val)) hesn f3
  have hi1:Xz es kv=n:=QdP hok.1 (p:=(q.key,q.val)) hesn f3
  have hbq:=hborn n q hq
  refine ⟨_,_,by simp [execOp,ho,h1',h2,Instr.mapEntry,run_underlying hd,MapKept.run_getObj_map hb,hQ.check w _ hkq,f1,hq,f3,hQ.stays w hkq,MapKept.run_setObj_map _ hb,Result.andThen];exact ⟨rfl,rfl⟩,ext _, ?_,fun w' ok ρ y=>?_⟩
  ·rw [hρ]
   refine .map (MapKept.heap_set hb).1 ?_ (Zh hborn fun _=>rfl) (by simpa using hck) (by simpa using hsz)
   rw [show Qik es kv zv=es by simp [Qik,hg],← hes]
   refine List.ext_getElem? fun m=>?_
   simp only [Array.toList_modify,List.getElem?_map,List.getElem?_modify]
   by_cases hnm:n=m
   ·subst hnm;simp [hq,f3]
   ·simp [hnm]
  ·refine .tup (by simp) fun i c hc=>?_
   match i with
   |0=>cases hc;rw [hg] at hr ⊢;exact QcE hr
   |1=>cases hc;rw [hi1,← hbq];exact .v rfl
   |n+2=>simp at hc
theorem XG (hS:Wf S) (hw:Want ops o S) {s v:Operand} (ho:o.op=.entryStore t x s v) {q:IntKind} {n:Int}
  (hx:ev S x=.mp id) (hm:S.h id=some (.map es)) (hs:ev S s=.v (.int q n)) {u:Value} (hv:(ev S v).toV=some u) (h0:0≤n) (hn:n.toNat < es.length) :
  VE A P ops o { av:=.junk,hw:=[(id,some (.map (es.set n.toNat ((es.getD n.toNat (undef,undef)).1,u))))],hr:=[id],n:=S.n } S:=by
 refine VE.setObj hS hw (by simp [ho]) hm (by simp) (by simp [AObj.ids]) fun F S2 a w ρ own hag H hm2=>?_
 have h1:=qL H x
 rw [hag.ev (x:=x) (by simp [ho,Op.operands]),hx] at h1
 have h2:=qL H s
 rw [hag.ev (x:=s) (by simp [ho,Op.operands]),hs] at h2
 have h2:=(qQ h2).1
 have h3:=Z7 (by rw [hag.ev (x:=v) (by simp [ho,Op.operands])];exact hv) (qL H v)
 obtain ⟨b,entries,clock,hρ,hb,hes,hborn,hck,hsz⟩:=R5 H hm2
 have h1':a.eval x=.map (some b):=by
  generalize a.eval x=v at h1
  cases h1 with|mp e1 _=>rw [← e1,hρ]
 have ext:∀ o',Ext (fun b'=>blk (ρ id)=some b') w { w with heap:=w.heap.setIfInBounds b o' }:=fun o' =>
  ⟨rfl,rfl,rfl,by simp,fun k _ hn=>(MapKept.heap_set (o':=o') hb).2 k fun e=>hn (by rw [hρ,e];rfl)⟩
 obtain ⟨m,rfl⟩:∃ m:Nat,n=m:=⟨n.toNat,by omega⟩
 have hn:m < es.length:=hn
 have hms:m < entries.size:=by rw [← hes] at hn;simpa using hn
 have hf:entries.findIdx? (fun e=>((e.born:Int) == (m:Int)))=some m:=by
  rw [Array.findIdx?_eq_some_iff_getElem]
  refine ⟨hms, ?_,fun j hj=>?_⟩
  ·have:=hborn m entries[m] (by simp [hms])
   simp [this]
  ·have:=hborn j entries[j] (by simp [show j < entries.size by omega])
   simp [this];omega
 refine ⟨_,by simp [execOp,ho,h1',h2,h3,Instr.entryStore,MapKept.run_getObj_map hb,Go.asInt,asIntOf,hf,MapKept.run_setObj_map _ hb,Result.andThen];rfl,ext _, ?_⟩
 rw [hρ]
 refine .map (MapKept.heap_set hb).1 ?_ (Zh hborn fun _=>rfl) (by simpa using hck) (by simpa using hsz)
 rw [← hes]
 refine List.ext_getElem? fun l=>?_
 simp only [Array.toList_modify,List.getElem?_map,List.getElem?_modify,List.getElem?_set,List.length_map,Array.length_toList]
 by_cases hnm:m=l
 ·subst hnm;simp [hms]
 ·simp [hnm]
end maps
end Go.Sym
namespace Go.Sym
open Go
variable {A : Frm → Prop} {P : Program}
section arrs
variable {ops : Array Oper} {o : Oper} {S : St}
theorem UN (hS:Wf S) (hw:Want ops o S) {t:TypeId} {x:Operand} {hi:Option Operand} (ho:o.op=.slice t x none hi none) {i j:TI} {m:Nat} {e:TypeId} (ht:TyFact P t i) (htd:i.td=.array m e) (hj:TyFact P e j) {id off:Nat} (hx:ev S x=.ptr id off)
  {h:Int} (hhi:(hi=none∧h=m)∨∃ z k,hi=some z∧ev S z=.v (.int k h)) (g0:0≤h) (g1:h≤m) (hm:m≤maxLen):VE A P ops o { av:=.psl id off h.toNat m,n:=S.n } S:=by
 obtain ⟨d,hd,hok⟩:=ht.under
 rw [htd] at hok
 simp only [TD.ok] at hok
 subst hok
 refine VE.val hw (by simp [ho]) (fun j hj=>jO hS x j (by rw [hx];simpa [AV.ids] using hj)) fun F S2 a w ρ own hag H=>?_
 have h1:=qL H x
 rw [hag.ev (x:=x) (by simp [ho,Op.operands]),hx] at h1
 generalize hv:a.eval x=v at h1
 cases h1 with
 |@ptr _ _ b e1 =>
  refine ⟨.slice (some ⟨b,off,none⟩) h.toNat m,w, ?_,Ext.none w,.psl e1 (by omega) hm⟩
  have hb:∀ kk:IntKind,(Instr.sliceBound (.int kk h) m .sliceAlen).run P w=.ok h.toNat w:=fun kk=>by simp [Instr.sliceBound,asIntOf,g0,g1]
  have hbs:(Instr.sliceBounds false m m none (hi.map a.eval) none).run P w=.ok (0,h.toNat,m) w:=by
   rcases hhi with ⟨rfl,rfl⟩|⟨z,k,rfl,ez⟩
   ·simp [Instr.sliceBounds]
   ·have h2:=qL H z
    rw [hag.ev (x:=z) (by simp [ho,Op.operands]),ez] at h2
    simp [Instr.sliceBounds,(qQ h2).1,hb]
  simp only [execOp,ho,hv,Instr.sliceAt,Instr.sureAddr,run_underlying hd,Sem.run_bind,Result.andThen_ok,Option.map_none,hbs,hj.run_sizeOf,Sem.run_pure,Nat.zero_mul,add_zero',ite_self,Nat.sub_zero]
theorem QgM {ys:List (List DV)} (h:∀ r ∈ ys,r.length=1):ys.flatten.length=ys.length∧∀ (i:Nat) (d:DV),ys.flatten[i]?=some d→∃ r,ys[i]?=some r∧r[0]?=some d:=by
 induction ys with
 |nil=>simp
 |cons r ys ih =>
  obtain ⟨g1,g2⟩:=ih fun r hr=>h r (List.mem_cons_of_mem _ hr)
  have hr:=h r List.mem_cons_self
  match r,hr with
  |[d0],_ =>
   refine ⟨by simp [g1],fun i d hd=>?_⟩
   cases i with
   |zero=>simp only [List.flatten_cons,List.singleton_append,List.getElem?_cons_zero,Option.some.injEq] at hd;subst hd;exact ⟨_,rfl,rfl⟩
   |succ i=>simpa using g2 i d (by simpa using hd)
theorem Qbc (hS:Wf S) (hw:Want ops o S) {t t' e:TypeId} {x y:Operand} (ho:o.op=.call { callee:=.builtin .copy,args:=#[x,y],argTypes:=#[t,t'] }) {i j:TI} (ht:TyFact P t i) (htd:i.td=.slice e) (hj:TyFact P e j) (hk:j.cells=1) {id off n c:Nat} {cs:List AV} {ys:List (List DV)} {hr:List Nat}
  (hx:ev S x=.psl id off n c) (hc:S.h id=some (.cells cs)) (hfit:off+n≤cs.length) (hyl:∀ r ∈ ys,r.length=1) (hyn:0 < ys.length)
  (hsrc:∀ F S2 a w ρ own,Holds F S2 a w ρ own→(∀ id ∈ hr,S2.h id=S.h id)→∀ v,ARel w (okB w own ρ S2.h) ρ F.y (ev S y) v→∃ flat,Src w (okB w own ρ S2.h) 1 ys v flat) :
  VE A P ops o { av:=.v (.int .i64 (min ys.length n:Nat)),hw:=[(id,some (.cells (cs.take off++((ys.take (min ys.length n)).flatten).map DV.av++cs.drop (off+min ys.length n))))],hr:=id :: hr,n:=S.n } S:=by
 obtain ⟨d,hd,hok⟩:=ht.under
 rw [htd] at hok
 simp only [TD.ok] at hok
 subst hok
 generalize hm:min ys.length n=m
 have hmn:m≤n:=by omega
 have hmy:m≤ys.length:=by omega
 obtain ⟨f1,f2⟩:=QgM (ys:=ys.take m) fun r hr=>hyl r (List.mem_of_mem_take hr)
 have hdl:(((ys.take m).flatten).map DV.av).length=m:=by rw [List.length_map,f1,List.length_take];omega
 generalize hds:((ys.take m).flatten).map DV.av=ds at hdl
 have hfx:off+ds.length≤cs.length:=by omega
 have e1:cs.take off++ds++cs.drop (off+m)=cs.take off++ds++cs.drop (off+ds.length):=by rw [hdl]
 rw [e1]
 refine VE.setVal rfl hS hw (by simp [ho]) hc (by simp) (fun i hi=>?_) fun F S2 a w ρ own hag H hob=>?_
 ·simp only [AObj.ids] at hi
  obtain ⟨c',hc',hi⟩:=AV.mem_idsL.1 hi
  simp only [List.mem_append] at hc'
  have old:c' ∈ cs→i < S.n:=fun hc'=>Nat.lt_of_not_le fun hn=>(hS i hn).2.2.1 id _ hc (by simp only [AObj.ids];exact AV.mem_idsL.2 ⟨c',hc',hi⟩)
  rcases hc' with (hc'|hc')|hc'
  ·exact old (List.mem_of_mem_take hc')
  ·rw [← hds] at hc'
   obtain ⟨d,_,rfl⟩:=List.mem_map.1 hc'
   rw [DV.av_ids] at hi;cases hi
  ·exact old (List.mem_of_mem_drop hc')
 have hxr:=qL H x
 rw [hag.ev (x:=x) (by simp [ho,Op.operands,Call.operands]),hx] at hxr
 have hyr:=qL H y
 rw [hag.ev (x:=y) (by simp [ho,Op.operands,Call.operands])] at hyr
 obtain ⟨flat,⟨ay,cy,hyv,hsl,hsm,hcell⟩,hfl,hone,hrel⟩:=hsrc F S2 a w ρ own H (fun id hid=>hag.2.1 id (by simp [hid])) _ hyr
 obtain ⟨ad,rfl,hcells⟩:=hcell hyn
 have h5:=H.obj id _ hob
 generalize hxv:a.eval x=v at hxr
 cases hxr with
 |@psl _ _ _ _ b q1 q2 q3 =>
  rw [q1] at h5 ⊢
  cases h5 with
  |@cells _ _ T vs g1 g2 g3 =>
   rw [Nat.mul_one] at hfl
   have hcl:(flat.take m).length=m:=by rw [List.length_take,hfl];omega
   have hfit':off+(flat.take m).length≤vs.toList.length:=by rw [hcl,Array.length_toList];omega
   have hsc:∀ q v,(flat.take m)[q]?=some v→w.cell? (ad.add q)=some v:=fun q v hq=>by
    rw [List.getElem?_take] at hq
    split at hq
    ·exact hcells q v hq
    ·cases hq
   have hrun:=Vt (P:=P) (k:=1) (t':=t') (ty:=o.type) (fun w=>by rw [← hk];exact hj.run_sizeOf w) hd (q:=off) (dLen:=n) (dCap:=c) g1 (a:=ad) (sLen:=ys.length) (sCap:=cy) (cs:=flat.take m) (by rw [hcl,Nat.mul_one];exact hm.symm)
    hsc (by simpa using hfit') fun v hv=>hone v (List.mem_of_mem_take hv)
   refine ⟨w.setRow b (vs.toList.take off++flat.take m++vs.toList.drop (off+(flat.take m).length)).toArray, ?_,Ext.setRow w b _ rfl, ?_⟩
   ·unfold execOp
    simp only [ho,resolve,invoke,builtin,Sem.run_bind,Sem.run_pure,Result.andThen_ok,List.map_toArray,List.map_cons,List.map_nil,hxv,hyv,hrun]
    rw [show Nat.min ys.length n=m from hm];rfl
   ·refine .cells (setRow_heap w b vs _ T _ g1) ?_ fun p c' hc'=>?_
    ·rw [qW hfx,List.size_toArray,qW hfit',Array.length_toList,g2]
    ·rw [zD hfx] at hc'
     have hget:((vs.toList.take off++flat.take m++vs.toList.drop (off+(flat.take m).length)).toArray).getD p undef =
       if p < off then vs.getD p undef else if p < off+m then (flat.take m).getD (p - off) undef else vs.getD p undef:=by
      have e1:=zD (i:=p) hfit'
      rw [Array.getD_eq_getD_getElem?,List.getElem?_toArray,e1]
      simp only [hcl]
      split
      ·simp [Array.getD_eq_getD_getElem?]
      ·split <;> simp [Array.getD_eq_getD_getElem?,List.getD_eq_getElem?_getD]
     rw [hget]
     have hmono:∀ {c u},ARel w (okB w own ρ S2.h) ρ F.y c u→ARel (w.setRow b (vs.toList.take off++flat.take m++vs.toList.drop (off+(flat.take m).length)).toArray) (okB w own ρ S2.h) ρ F.y c u:=fun hr =>
      hr.mono (fun q hq=>⟨hq,setRow_other w b q _ (fun eq=>hq.2.2 id _ hob (by rw [q1];simp [blk,eq]))⟩) (fun _ _=>rfl)
     rw [hdl] at hc'
     split
     ·rename_i hj;rw [if_pos hj] at hc';exact ⟨hmono (g3 p c' hc').1,(g3 p c' hc').2⟩
     ·rename_i hj
      rw [if_neg hj] at hc'
      split
      ·rename_i hj2
       rw [if_pos hj2,← hds,List.getElem?_map] at hc'
       obtain ⟨dd,hdd,rfl⟩:=Option.map_eq_some_iff.1 hc'
       obtain ⟨r,hr1,hr2⟩:=f2 _ _ hdd
       rw [List.getElem?_take] at hr1
       split at hr1
       ·rename_i hlt
        obtain ⟨u,hu,hdu⟩:=hrel _ _ _ _ hr1 hr2
        rw [Nat.mul_one,Nat.add_zero] at hu
        have:(flat.take m).getD (p - off) undef=u:=by simp [List.getD_eq_getElem?_getD,List.getElem?_take,hlt,hu]
        rw [this]
        exact ⟨hmono (DRel.av hdu).1,(DRel.av (ρ:=ρ) (y:=F.y) hdu).2⟩
       ·cases hr1
      ·rename_i hj2;rw [if_neg hj2] at hc';exact ⟨hmono (g3 p c' hc').1,(g3 p c' hc').2⟩
theorem Qad {e:TypeId} {j:TI} (hj:TyFact P e j) {w:World} {ok:Nat→Prop} {ρ:Nat→Value} {y:Value} {cs:List AV} {vs:Array Value} (hs:vs.size=cs.length) (hr:∀ (i:Nat) (c:AV),cs[i]?=some c→ARel w ok ρ y c (vs.getD i undef)) {off:Nat}
  (hle:off+(bif j.td.agg then j.cells else 1)≤cs.length):∃ v,(part e vs off).run P w=.ok v w∧ARel w ok ρ y (yC j ((cs.drop off).take (bif j.td.agg then j.cells else 1))) v:=by
 cases hb:j.td.agg with
 |true =>
  rw [hb] at hle
  simp only [cond_true] at hle ⊢
  refine ⟨.agg (vs.extract off (off+j.cells)),by simp [part,hj.run_isAgg,hj.run_sizeOf,hb], ?_⟩
  simp only [yC,hb,cond_true]
  refine .agg (by simp;omega) fun i c hc=>?_
  rw [List.getElem?_take] at hc
  split at hc
  ·rename_i hi
   rw [List.getElem?_drop] at hc
   have:=hr _ c hc
   have e:(vs.extract off (off+j.cells)).getD i undef=vs.getD (off+i) undef:=by
    simp only [Array.getD_eq_getD_getElem?,Array.getElem?_extract]
    rw [if_pos (by omega)]
   rw [e];exact this
  ·cases hc
 |false =>
  rw [hb] at hle
  simp only [cond_false] at hle ⊢
  have hlt:off < vs.size:=by omega
  refine ⟨vs[off],by simp [part,hj.run_isAgg,hb,hlt], ?_⟩
  have h0:cs[off]?=some cs[off]:=List.getElem?_eq_getElem (by omega)
  have:=hr off _ h0
  simp only [yC,hb,cond_false]
  have e1:(cs.drop off).take 1=[cs[off]]:=by
   rw [List.drop_eq_getElem_cons (by omega)];rfl
  rw [e1,List.headD_cons]
  simpa [hlt] using this
theorem VT {j:TI} {cs:List AV} {off n N:Nat} (h:∀ id ∈ AV.idsL cs,id < N):∀ id ∈ (yC j ((cs.drop off).take n)).ids,id < N:=by
 intro id hid
 simp only [yC] at hid
 cases hb:j.td.agg with
 |true =>
  rw [hb] at hid
  simp only [cond_true,AV.ids] at hid
  obtain ⟨c,hc,hid⟩:=AV.mem_idsL.1 hid
  exact h id (AV.mem_idsL.2 ⟨c,List.mem_of_mem_drop (List.mem_of_mem_take hc),hid⟩)
 |false =>
  rw [hb] at hid
  simp only [cond_false] at hid
  cases hl:(cs.drop off).take n with
  |nil=>rw [hl] at hid;simp [AV.ids] at hid
  |cons c r =>
   rw [hl,List.headD_cons] at hid
   exact h id (AV.mem_idsL.2 ⟨c,List.mem_of_mem_drop (List.mem_of_mem_take (by rw [hl];exact List.mem_cons_self)),hid⟩)
theorem Qf5 (hS:Wf S) (hw:Want ops o S) {t e:TypeId} {x ix:Operand} (ho:o.op=.index t x ix) {i j:TI} {m:Nat} (ht:TyFact P t i) (htd:i.td=.array m e) (hj:TyFact P e j) {cs:List AV} (hx:ev S x=.agg cs) {k:IntKind} {n:Int} (hi:ev S ix=.v (.int k n))
  (g0:0≤n) (g1:n < m) (hle:n.toNat * j.cells+(bif j.td.agg then j.cells else 1)≤cs.length):VE A P ops o { av:=yC j ((cs.drop (n.toNat * j.cells)).take (bif j.td.agg then j.cells else 1)),n:=S.n } S:=by
 obtain ⟨d,hd,hok⟩:=ht.under
 rw [htd] at hok
 simp only [TD.ok] at hok
 subst hok
 refine VE.val hw (by simp [ho]) (VT fun id hid=>jO hS x id (by rw [hx];exact hid)) fun F S2 a w ρ own hag H=>?_
 have h1:=qL H x
 rw [hag.ev (x:=x) (by simp [ho,Op.operands]),hx] at h1
 have h2:=qL H ix
 rw [hag.ev (x:=ix) (by simp [ho,Op.operands]),hi] at h2
 have h2:=(qQ h2).1
 generalize hv:a.eval x=v at h1
 cases h1 with
 |@agg _ vs hs hr =>
  obtain ⟨v,hv1,hv2⟩:=Qad hj hs hr hle
  refine ⟨v,w, ?_,Ext.none w,hv2⟩
  simp only [execOp,ho,hv,h2,Instr.index,asIntOf,run_underlying hd,Sem.run_bind,Sem.run_pure,Result.andThen_ok,if_pos (And.intro g0 g1),hj.run_sizeOf,hv1]
theorem Qf4 (hS:Wf S) (hw:Want ops o S) {t:TypeId} {x:Operand} {f:Nat} (ho:o.op=.field t x f) {i j:TI} (ht:TyFact P t i) {fs:List (Nat × Nat × TypeId)} (htd:i.td=.struct fs) {p:Nat × Nat × TypeId} (hf:fs[f]?=some p) (hj:TyFact P p.2.2 j) {cs:List AV} (hx:ev S x=.agg cs)
  (hle:p.1+(bif j.td.agg then j.cells else 1)≤cs.length):VE A P ops o { av:=yC j ((cs.drop p.1).take (bif j.td.agg then j.cells else 1)),n:=S.n } S:=by
 obtain ⟨d,hd,hok⟩:=ht.under
 rw [htd] at hok
 obtain ⟨fields,rfl,hmap⟩:=hok
 obtain ⟨off,sz,ft⟩:=p
 have hfield:∃ fl,fields[f]?=some fl∧fl.offset=off∧fl.type=ft:=by
  have hf':=congrArg (Option.map fun p:Nat × Nat × TypeId=>(p.1,p.2.2)) hf
  rw [← List.getElem?_map,← hmap,List.getElem?_map] at hf'
  obtain ⟨fl,h1,h2⟩:=Option.map_eq_some_iff.1 hf'
  exact ⟨fl,by simpa using h1,(Prod.mk.inj h2).1,(Prod.mk.inj h2).2⟩
 obtain ⟨fl,hfl,rfl,rfl⟩:=hfield
 simp only at hj hle ⊢
 refine VE.val hw (by simp [ho]) (VT fun id hid=>jO hS x id (by rw [hx];exact hid)) fun F S2 a w ρ own hag H=>?_
 have h1:=qL H x
 rw [hag.ev (x:=x) (by simp [ho,Op.operands]),hx] at h1
 generalize hv:a.eval x=v at h1
 cases h1 with
 |@agg _ vs hs hr =>
  obtain ⟨v,hv1,hv2⟩:=Qad hj hs hr hle
  refine ⟨v,w, ?_,Ext.none w,hv2⟩
  simp only [execOp,ho,hv,Instr.field,Go.asAgg,run_underlying hd,hfl,Sem.run_bind,Sem.run_pure,Result.andThen_ok,hv1]
theorem Ll (hS:Wf S) (hw:Want ops o S) {t e:TypeId} {parts:Array (Nat × Operand)} (ho:o.op=.build t parts) {i j:TI} {m:Nat} (ht:TyFact P t i) (htd:i.td=.array m e) (hj:TyFact P e j)
  {K:List AV→Prop} (h:xz (yE j.cells) K i.zero (parts.toList.map fun p=>(p.1,ev S p.2))):∃ cs,K cs∧VE A P ops o { av:=.agg cs,n:=S.n } S:=by
 obtain ⟨d,hd,hok⟩:=ht.under
 rw [htd] at hok
 simp only [TD.ok] at hok
 subst hok
 obtain ⟨out,hK,ho'⟩:=Qz h
 obtain ⟨inf,z0,_,_,_,_,hz0,_,_⟩:=ht.info
 refine ⟨out,hK,VE.val hw (by simp [ho]) (fun id hid=>?_) fun F S2 a w ρ own hag H=>?_⟩
 ·simp only [AV.ids] at hid
  obtain ⟨c,hc,hid⟩:=AV.mem_idsL.1 hid
  refine Yb ho' (fun c hc id hid=>?_) (fun p hp id hid=>?_) c hc id hid
  ·rw [← hz0] at hc
   obtain ⟨v,_,rfl⟩:=List.mem_map.1 hc
   rw [ZA] at hid;cases hid
  ·obtain ⟨q,_,rfl⟩:=List.mem_map.1 hp
   exact jO hS q.2 id hid
 ·obtain ⟨z,hz,h1,h2,h3⟩:=ht.run_zero w
  have hp:=J4 (S:=S) H (parts:=parts) fun x hx=>hag.ev (x:=x) (by simp [ho,Op.operands];simpa using hx)
  obtain ⟨_,vout,rfl,g2,g3⟩:=WR ho' hp.1 hp.2 (JL h1 h3)
  refine ⟨.agg vout,w, ?_,Ext.none w,.agg g3.size fun i c hc=>(g3.rel i c hc).1⟩
  have g2':=g2
  unfold yE at g2'
  simp only [execOp,ho,Instr.build,Sem.run_bind,hz,Result.andThen_ok,run_underlying hd,hj.run_sizeOf,g2',Sem.run_pure]
end arrs
end Go.Sym
namespace Go.Sym
open Go
set_option linter.all false
variable {P : Program} {A : Frm → Prop}
theorem Qhg {w:World} {ok:Nat→Prop} {ρ:Nat→Value} {y:Value} {e:TypeId} {k:Nat} {xs:List (List DV)} {b n0 c n:Nat} (h:ORel w ok ρ y (.row e k xs) (.slice (some ⟨b,0,none⟩) n0 c)) (hc:0 < c) (hn:n≤xs.length):ORel w ok ρ y (.row e k (xs.take n)) (.slice (some ⟨b,0,none⟩) n c):=by
 cases h with
 |row r1 r2 r3 r4 =>
  rename_i flat
  have hl:(xs.take n).length=n:=by rw [List.length_take];omega
  have h3:w.ownsRow 0 e k (.slice (some ⟨b,0,none⟩) n0 c) xs.length flat:=by
   rcases r3 with h|⟨_,_,a,h⟩
   ·exact h
   ·simp only [Value.slice.injEq] at h;omega
  obtain ⟨g0,g1⟩:=h3
  have hle:n * k≤xs.length * k:=Nat.mul_le_mul_right _ hn
  refine .row (flat:=flat.take (n * k)) r1 (fun r hr=>r2 r (List.mem_of_mem_take hr)) (.inl ⟨?_, ?_⟩) fun i r j d hi hj=>?_
  ·rw [List.length_take,hl];omega
  ·rcases g1 with ⟨h,_⟩|⟨g,cap,cur,h1,h2,h3,h4,h5,h6,h7⟩
   ·cases h
   ·simp only [Value.slice.injEq,Option.some.injEq,Addr.mk.injEq] at h1
    obtain ⟨⟨rfl,_⟩,rfl,rfl⟩:=h1
    refine .inr ⟨_,_,cur,by rw [hl],h2,h3,by omega,h5,h6, ?_⟩
    rw [hl,← h7,List.take_take,Nat.min_eq_left hle]
  ·have hin:i < n:=by
    have:=(List.getElem?_eq_some_iff.1 hi).1
    omega
   have hi':xs[i]?=some r:=by rw [List.getElem?_take_of_lt hin] at hi;exact hi
   have hjk:j < k:=by
    have:=(List.getElem?_eq_some_iff.1 hj).1
    rw [r2 r (List.mem_of_getElem? hi')] at this
    exact this
   obtain ⟨u,hu,hd⟩:=r4 i r j d hi' hj
   refine ⟨u, ?_,hd⟩
   rw [List.getElem?_take_of_lt]
   ·exact hu
   ·have:(i+1) * k≤n * k:=Nat.mul_le_mul_right _ (by omega)
    rw [Nat.succ_mul] at this
    omega
theorem Qbk {ops:Array Oper} {o:Oper} {S:St} (hS:Wf S) (hw:Want ops o S) {t e:TypeId} {x y:Operand} (ho:o.op=.call { callee:=.builtin .append,args:=#[x,y],argTypes:=#[t,t] }) {it i:TI} (ht:TyFact P t it) (htd:it.td=.slice e) (hi:TyFact P e i) (hk:0 < i.cells)
  {id n:Nat} {xs ys:List (List DV)} {hr:List Nat} (hx:ev S x=.rsl id i.cells 0 n) (hc:S.h id=some (.row e i.cells xs)) (hn:n≤xs.length)
  (hy:∀ F S2 a w ρ own,Holds F S2 a w ρ own→(∀ j ∈ hr,S2.h j=S.h j)→∀ v,ARel w (okB w own ρ S2.h) ρ F.y (ev S y) v→∃ flat,Src w (okB w own ρ S2.h) i.cells ys v flat)
  (hxl:∀ r ∈ xs.take n,r.length=i.cells) (hyl:∀ r ∈ ys,r.length=i.cells) (hb:((xs.take n).length+ys.length) * i.bytes≤140737488355328) (hm:(xs.take n).length+ys.length≤maxLen) :
  VE A P ops o { av:=.row S.n,hw:=yM (some id)++[(S.n,some (.row e i.cells (xs.take n++ys)))],hr:=QT (some id)++hr,news:=[S.n],n:=S.n+1 } S:=by
 obtain ⟨d,hd,hok⟩:=ht.under
 rw [htd] at hok
 simp only [TD.ok] at hok
 subst hok
 have hdead:∀ j,(some id:Option Nat)=some j→j ∈ QT (some id)++hr∧∃ ob,S.h j=some ob:=by
  rintro j hj
  cases hj
  exact ⟨by simp [QT],_,hc⟩
 refine VE.newRow hS hw (by simp [ho]) hdead fun F S2 a w ρ own hag H=>?_
 have h1:=qL H x
 rw [hag.ev (x:=x) (by simp [ho,Op.operands,Call.operands]),hx] at h1
 have h2:=qL H y
 rw [hag.ev (x:=y) (by simp [ho,Op.operands,Call.operands])] at h2
 obtain ⟨flat,hs⟩:=hy F S2 a w ρ own H (fun j hj=>hag.2.1 j (by simp [hj])) _ h2
 have hob:=H.obj id _ ((hag.2.1 id (by simp [QT])).trans hc)
 have hdst:Dst w (okB w own ρ S2.h) e i.cells (xs.take n) (a.eval x)∧∀ b,blk (a.eval x)=some b→∃ j,(some id:Option Nat)=some j∧blk (ρ j)=some b:=by
  generalize a.eval x=v at h1
  cases h1 with
  |@rsl _ _ _ _ b c n0 e1 hlc =>
   rw [e1] at hob
   have hrow:=Qhg (n:=n) hob hlc hn
   simp only [Nat.zero_mul,Nat.sub_zero]
   cases hrow with
   |row r1 r2 r3 r4=>exact ⟨⟨_,r3,r4⟩,fun b' hb'=>⟨id,rfl,by rw [e1];exact hb'⟩⟩
 obtain ⟨v',w',hrun,hxt,h1c,hbl,flat',hown',hrel'⟩:=Zd (ty:=o.type) hd hi hk hxl hyl hdst.1 hs hb hm
 refine ⟨v',w', ?_,hxt.weaken fun b _ hb=>hdst.2 b hb,h1c, ?_,fun b hb'=>(hbl b hb').imp (fun h=>h) (hdst.2 b)⟩
 ·unfold execOp
  simp only [ho,resolve,invoke,builtin,Sem.run_bind,Sem.run_pure,Result.andThen_ok,List.map_toArray,List.map_cons,List.map_nil,hrun]
 ·refine .row hk (fun r hr'=>?_) hown' fun q r j d hq hj=>?_
  ·rcases List.mem_append.1 hr' with h|h
   ·exact hxl r h
   ·exact hyl r h
  ·obtain ⟨u,hu,hdu⟩:=hrel' q r j d hq hj
   refine ⟨u,hu,hdu.mono fun b hb'=>⟨hb',hxt.block b hb'.1 fun hbx=>?_⟩⟩
   obtain ⟨j',hj',hbj⟩:=hdst.2 b hbx
   obtain ⟨hmem,ob,hob⟩:=hdead j' hj'
   exact hb'.2.2 j' ob ((hag.2.1 j' hmem).trans hob) hbj
end Go.Sym
namespace Go.Sym
open Go
set_option linter.all false
variable {P : Program} {A : Frm → Prop}
theorem Qhx {ops:Array Oper} {o:Oper} {S:St} (hS:Wf S) (hw:Want ops o S) {t e:TypeId} {x:Operand} (ho:o.op=.call { callee:=.builtin .clear,args:=#[x],argTypes:=#[t] }) {i j:TI} (ht:TyFact P t i) (htd:i.td=.slice e) (hj:TyFact P e j) (hk:0 < j.cells) {id lo n:Nat} {e':TypeId} {xs:List (List DV)}
  (hx:ev S x=.rsl id j.cells lo n) (hc:S.h id=some (.row e' j.cells xs)) (hfit:lo+n≤xs.length) (hn:0 < n) {ds:List DV} (hz:dvL j.zero=some ds) :
  VE A P ops o { av:=.junk,hw:=[(id,some (.row e' j.cells (xs.take lo++List.replicate n ds++xs.drop (lo+n))))],hr:=[id],n:=S.n } S:=by
 obtain ⟨d,hd,hok⟩:=ht.under
 rw [htd] at hok
 simp only [TD.ok] at hok
 subst hok
 refine VE.setRet (by simp [AV.ids]) hS hw (by simp [ho]) hc (by simp) (by simp [AObj.ids]) fun F S2 a w ρ own hag H hob=>?_
 have hxr:=qL H x
 rw [hag.ev (x:=x) (by simp [ho,Op.operands,Call.operands])] at hxr
 obtain ⟨inf,z,hinf,_,_,hzi,z1,z2,z3⟩:=hj.info
 have hzv:∀ w,(zeroValue e).run P w=.ok z w:=fun w=>by simp [zeroValue,typeInfo,hinf,hzi]
 obtain ⟨g1,g2⟩:=YH hz
 have hdl:ds.length=j.cells:=by rw [← g1,← z1];simpa using z2
 obtain ⟨flat,hflat⟩:∃ flat,(madeCells z.cells (n * j.cells)).toList=flat:=⟨_,rfl⟩
 have hflen:flat.length=n * j.cells:=by rw [← hflat,Array.length_toList,size_madeCells]
 have hget:∀ q,q < n * j.cells→∃ v,flat[q]?=some v∧z.cells[q % j.cells]?=some v:=fun q hq=>by
  obtain ⟨h1,h2⟩:=VX z2 hq
  exact ⟨_,by rw [← hflat,Array.getElem?_toList,h1,Array.getElem?_eq_getElem h2],Array.getElem?_eq_getElem h2⟩
 have hone:∀ v ∈ flat,v.oneCell'=true:=fun v hv=>by
  obtain ⟨q,hq,rfl⟩:=List.mem_iff_getElem.1 hv
  obtain ⟨v,h1,h2⟩:=hget q (by rw [hflen] at hq;exact hq)
  rw [List.getElem?_eq_getElem hq] at h1
  rw [Option.some.inj h1]
  exact z3 v (by rw [← Array.getElem?_toList] at h2;exact List.mem_of_getElem? h2)
 have hrel:∀ (q:Nat) (r:List DV) (p:Nat) (dd:DV),(List.replicate n ds)[q]?=some r→r[p]?=some dd→∃ u,flat[q * j.cells+p]?=some u∧DRel w (okB w own ρ S2.h) dd u:=fun q r p dd hq hp=>by
  have hqn:=(List.getElem?_eq_some_iff.1 hq).1
  rw [List.length_replicate] at hqn
  rw [List.getElem?_replicate,if_pos hqn] at hq
  cases hq
  have hpl:p < j.cells:=by rw [← hdl];exact (List.getElem?_eq_some_iff.1 hp).1
  have hlt:q * j.cells+p < n * j.cells:=by
   have:(q+1) * j.cells≤n * j.cells:=Nat.mul_le_mul_right _ hqn
   rw [Nat.add_mul] at this;omega
  obtain ⟨v,h1,h2⟩:=hget _ hlt
  rw [show (q * j.cells+p) % j.cells=p by rw [Nat.add_comm,Nat.add_mul_mod_self_right,Nat.mod_eq_of_lt hpl]] at h2
  obtain ⟨c,hc,hcd⟩:=g2 p dd hp
  rw [← z1,List.getElem?_map] at hc
  obtain ⟨v',hv',rfl⟩:=Option.map_eq_some_iff.1 hc
  rw [Array.getElem?_toList,h2] at hv'
  cases hv'
  exact ⟨v,h1,WE (ρ:=ρ) (y:=F.y) hcd (xW v)⟩
 have h5:=H.obj id _ hob
 have hxv:∃ dc,(∃ n0 c,ρ id=.slice (some ⟨(blk (ρ id)).getD 0,0,none⟩) n0 c)∧a.eval x=.slice (some ⟨(blk (ρ id)).getD 0,lo * j.cells,none⟩) n dc:=by
  generalize a.eval x=v at hxr
  rw [hx] at hxr
  cases hxr with
  |@rsl _ _ _ _ b c n0 e1 hlc =>
   rw [e1]
   have:blk (.slice (some ⟨b,0,none⟩) n0 c)=some b:=by simp only [blk];rw [if_neg (by omega)]
   rw [this];exact ⟨c - lo,⟨_,_,rfl⟩,rfl⟩
 obtain ⟨dc,⟨n0,c,hρ⟩,hxv⟩:=hxv
 generalize hbb:(blk (ρ id)).getD 0=b at hρ hxv
 cases h5':ρ id with
 |slice aa nn0 cc =>
  rw [h5'] at hρ
  simp only [Value.slice.injEq] at hρ
  obtain ⟨rfl,rfl,rfl⟩:=hρ
  rw [h5'] at h5
  cases h5 with
  |row r1 r2 r3 r4 =>
   obtain ⟨hown,g,cap,cur,hge,hg,hnc,hcm,hcs,htk,hblk⟩:=jA r3 (by omega)
   simp only [Value.slice.injEq,Option.some.injEq,Addr.mk.injEq,and_true] at hge
   obtain ⟨rfl,rfl,rfl⟩:=hge
   have hfl:(flat.take (n * j.cells))=flat:=List.take_of_length_le (by omega)
   have hkn:lo * j.cells+n * j.cells≤xs.length * j.cells:=by rw [← Nat.add_mul];exact Nat.mul_le_mul_right _ (by omega)
   have hkc:xs.length * j.cells≤cc * j.cells:=Nat.mul_le_mul_right _ hnc
   have hcl:(flat.take (n * j.cells)).length=n * j.cells:=by rw [List.length_take];omega
   have hfit':lo * j.cells+(flat.take (n * j.cells)).length≤cur.toList.length:=by rw [hcl,Array.length_toList,hcs];omega
   have hrun:=run_storeCells_at P b (lo * j.cells) e' (flat.take (n * j.cells)) 0 cur w hg (by rw [Nat.add_zero];simpa using hfit') (fun v hv=>hone v (List.mem_of_mem_take hv))
   simp only [Nat.add_zero] at hrun
   refine ⟨.tuple #[],w.setRow b (cur.toList.take (lo * j.cells)++flat.take (n * j.cells)++cur.toList.drop (lo * j.cells+(flat.take (n * j.cells)).length)).toArray, ?_,Ext.setRow w b _ hblk, ?_,fun _ _ _ _=>.junk⟩
   ·unfold execOp
    simp only [ho,resolve,invoke,builtin,Sem.run_bind,Sem.run_pure,Result.andThen_ok,List.map_toArray,List.map_cons,List.map_nil,hxv]
    obtain ⟨n',rfl⟩:∃ n',n=n'+1:=⟨n - 1,by omega⟩
    have hzz:(Builtin.zeroCells z.cells (n'+1)).toList=flat:=by rw [← hflat,← z2];rfl
    rw [hfl] at hrun
    simp [Builtin.clear_,run_underlying hd,hzv,hzz,hrun,hfl]
   ·try rw [h5']
    have hyt:(List.replicate n ds).length=n:=by simp
    have hfx:lo+(List.replicate n ds).length≤xs.length:=by omega
    have e1:xs.take lo++List.replicate n ds++xs.drop (lo+n)=xs.take lo++List.replicate n ds++xs.drop (lo+(List.replicate n ds).length):=by rw [hyt]
    rw [e1]
    have hlen':=qW (new:=List.replicate n ds) hfx
    have hcl2:cur.toList.length=cc * j.cells:=by rw [Array.length_toList (xs:=cur),hcs]
    have hmono:∀ {d u},DRel w (okB w own ρ S2.h) d u→DRel (w.setRow b (cur.toList.take (lo * j.cells)++flat.take (n * j.cells)++cur.toList.drop (lo * j.cells+(flat.take (n * j.cells)).length)).toArray) (okB w own ρ S2.h) d u:=fun hr =>
     hr.mono fun q hq=>⟨hq,setRow_other w b q _ (fun eq=>hq.2.2 id _ hob (by rw [h5',hblk,eq]))⟩
    refine .row (flat:=(cur.toList.take (lo * j.cells)++flat.take (n * j.cells)++cur.toList.drop (lo * j.cells+(flat.take (n * j.cells)).length)).take (xs.length * j.cells)) hk (fun r hr=>?_) (.inl ⟨?_,.inr ⟨b,cc,_,by rw [hlen'],Nat.zero_le _,setRow_heap w b cur _ _ _ hg,by rw [hlen'];exact hnc,hcm, ?_, ?_⟩⟩) fun q r p dd hq hp=>?_
    ·simp only [List.mem_append] at hr
     rcases hr with (hr|hr)|hr
     ·exact r2 r (List.mem_of_mem_take hr)
     ·rw [List.eq_of_mem_replicate hr,hdl]
     ·exact r2 r (List.mem_of_mem_drop hr)
    ·rw [hlen',List.length_take,qW hfit',hcl2];omega
    ·rw [List.size_toArray,qW hfit',hcl2]
    ·rw [hlen']
    ·have hpk:p < j.cells:=by
      have:=(List.getElem?_eq_some_iff.1 hp).1
      rw [zD hfx] at hq
      split at hq
      ·rw [r2 r (List.mem_of_getElem? hq)] at this;exact this
      ·split at hq
       ·rw [List.eq_of_mem_replicate (List.mem_of_getElem? hq),hdl] at this;exact this
       ·rw [r2 r (List.mem_of_getElem? hq)] at this;exact this
     have hql:q < xs.length:=by have:=(List.getElem?_eq_some_iff.1 hq).1;rwa [hlen'] at this
     have hqk:(q+1) * j.cells≤xs.length * j.cells:=Nat.mul_le_mul_right _ hql
     rw [Nat.add_mul] at hqk
     have old:xs[q]?=some r→∃ u,cur.toList[q * j.cells+p]?=some u∧DRel w (okB w own ρ S2.h) dd u:=fun hq=>by
      obtain ⟨u,hu,hdu⟩:=r4 q r p dd hq hp
      rw [← htk,List.getElem?_take,if_pos (by omega)] at hu
      exact ⟨u,hu,hdu⟩
     rw [zD hfx,hyt] at hq
     rw [List.getElem?_take,if_pos (by omega),zD hfit']
     by_cases h1:q < lo
     ·rw [if_pos h1] at hq
      have:(q+1) * j.cells≤lo * j.cells:=Nat.mul_le_mul_right _ h1
      rw [Nat.add_mul] at this
      rw [if_pos (by omega)]
      obtain ⟨u,hu,hdu⟩:=old hq
      exact ⟨u,hu,hmono hdu⟩
     ·rw [if_neg h1] at hq
      have g1:lo * j.cells≤q * j.cells:=Nat.mul_le_mul_right _ (by omega)
      rw [if_neg (by omega)]
      by_cases h2:q < lo+n
      ·rw [if_pos h2] at hq
       have:(q+1) * j.cells≤(lo+n) * j.cells:=Nat.mul_le_mul_right _ h2
       rw [Nat.add_mul,Nat.add_mul] at this
       rw [if_pos (by omega)]
       obtain ⟨u,hu,hdu⟩:=hrel _ _ _ _ hq hp
       have e2:q * j.cells+p - lo * j.cells=(q - lo) * j.cells+p:=by
        have:q * j.cells=(q - lo) * j.cells+lo * j.cells:=by rw [← Nat.add_mul];congr 1;omega
        omega
       have e3:(q - lo+1) * j.cells≤n * j.cells:=Nat.mul_le_mul_right _ (by omega)
       rw [Nat.add_mul] at e3
       exact ⟨u,by rw [e2,List.getElem?_take,if_pos (by omega)];exact hu,hmono hdu⟩
      ·rw [if_neg h2] at hq
       have:(lo+n) * j.cells≤q * j.cells:=Nat.mul_le_mul_right _ (by omega)
       rw [Nat.add_mul] at this
       rw [if_neg (by omega)]
       obtain ⟨u,hu,hdu⟩:=old hq
       exact ⟨u,hu,hmono hdu⟩
 |_=>rw [h5'] at hρ;cases hρ
end Go.Sym
namespace Go.Sym
open Go
variable {A : Frm → Prop} {P : Program}
abbrev Ans:=Prop × Eff
def bad:Ans:=(False,{ av:=.junk })
abbrev Ctr:=St→Option FuncId→List AV→Ans
def zO:AV→Option (Option FuncId × List AV)
 |.clo f caps=>some (some f,caps)
 |.cb=>some (none,[])
 |.bnd f _=>some (some f,[])
 |_=>none
theorem QN {v:AV} {f:FuncId} {caps:List AV} (h:zO v=some (some f,caps)):v=.clo f caps∧Zg v=[]∨v=.bnd f (Zg v)∧caps=[]:=by
 cases v <;> simp only [zO,Option.some.injEq,Prod.mk.injEq,reduceCtorEq,false_and] at h
 ·obtain ⟨rfl,rfl⟩:=h;exact .inl ⟨rfl,rfl⟩
 ·obtain ⟨rfl,rfl⟩:=h;exact .inr ⟨rfl,rfl⟩
theorem QdL {v:AV} {caps:List AV} (h:zO v=some (none,caps)):Zg v=[]:=by
 cases v <;> first|rfl|(simp [zO] at h;done)
def Ctr.OK (A:Frm→Prop) (P:Program) (Φ:Ctr):Prop:=∀ S f bs,(Φ S f bs).1→Wf S→∀ ops o g args tys caps,Want ops o S→o.op=.call { callee:=.value g,args:=args,argTypes:=tys }→zO (ev S g)=some (f,caps)→Zg (ev S g)++(args.toList.map (ev S)++caps)=bs→VE A P ops o (Φ S f bs).2 S
def rdE (S:St) (n:Nat):AV→Prop × List AV × List Nat
 |.ptr id off=>match S.h id with
  |some (.cells cs)=>(off+n≤cs.length,(cs.drop off).take n,[id])
  |_=>(False,[],[])
 |.ep cs off=>(off+n≤cs.length,((cs.drop off).take n).map DV.av,[])
 |.rp id k i off=>match S.h id with
  |some (.row _ k' xs)=>(k'=k∧off+n≤k∧i < xs.length,(((xs.getD i []).drop off).take n).map DV.av,[id])
  |_=>(False,[],[])
 |_=>(False,[],[])
theorem QM {α:Type} {xs:List α} {i:Nat} (h:i < xs.length) (z:α):xs.getD i z=xs[i]:=by simp [h]
theorem QfI {S:St} {n:Nat} {c:AV} (h:(rdE S n c).1):RdOK S c n (rdE S n c).2.1 (rdE S n c).2.2:=by
 have key:rd S n (fun cells hr=>cells=(rdE S n c).2.1∧hr=(rdE S n c).2.2) c:=by
  cases c <;> simp only [rdE] at h <;> simp only [rd]
  case ptr id off =>
   split at h
   ·rename_i cs hc;rw [hc];exact ⟨cs,rfl,h,by simp [rdE,hc],by simp [rdE,hc]⟩
   ·exact h.elim
  case ep cs off=>exact ⟨h,rfl,rfl⟩
  case rp id k i off =>
   split at h
   ·rename_i e k' xs hc;rw [hc];exact ⟨e,k',xs,rfl,h.1,h.2.1,h.2.2,by simp only [rdE,hc];rw [QM h.2.2],by simp only [rdE,hc]⟩
   ·exact h.elim
  all_goals exact h.elim
 obtain ⟨cells,hr,⟨rfl,rfl⟩,hrd⟩:=UJ key
 exact hrd
def L9 (S:St) (i:Option TI) (x:AV):Ans:=match i with
 |some i=>((rdE S (bif i.td.agg then i.cells else 1) x).1,{ av:=yC i (rdE S (bif i.td.agg then i.cells else 1) x).2.1,hr:=(rdE S (bif i.td.agg then i.cells else 1) x).2.2,n:=S.n })
 |none=>bad
def QdX (n:Nat):AV→AV
 |.ptr id o=>.ptr id (o+n)
 |.ep cs o=>.ep cs (o+n)
 |.rp id k i o=>.rp id k i (o+n)
 |_=>.junk
def ZC:AV→Prop
 |.ptr _ _=>True
 |.ep _ _=>True
 |.rp _ _ _ _=>True
 |_=>False
def JV (S:St) (i:Option TI) (f:Nat) (x:AV):Ans:=match i with
 |some i=>match i.td with
  |.struct fs=>match fs[f]? with
   |some p=>(p.2.1 ≠ 0∧ZC x,{ av:=QdX p.1 x,n:=S.n })
   |none=>bad
  |_=>bad
 |none=>bad
def zA (Γ:Tys) (i:Option TI):Option (TypeId × TI):=match i with
 |some i=>match i.td.elem with
  |some e=>match Γ e with
   |some j=>some (e,j)
   |none=>none
  |none=>none
 |none=>none
theorem kC {Γ:Tys} {i:Option TI} {e:TypeId} {j:TI} (h:zA Γ i=some (e,j)):∃ i',i=some i'∧i'.td.elem=some e∧Γ e=some j:=by
 cases i with
 |none=>simp [zA] at h
 |some i =>
  simp only [zA] at h
  split at h
  ·rename_i e' he
   split at h
   ·rename_i j' hj;cases h;exact ⟨i,rfl,he,hj⟩
   ·cases h
  ·cases h
def dvZ (cs:List AV):List DV:=(dvL cs).getD []
def Zk (S:St) (ej:Option (TypeId × TI)) (i:Option TI) (ix:AV) (x:AV):Ans:=match ej,i,ix with
 |some (_,j),some i,.v (.int _ n)=>match x with
  |.sl xs=>((i.td.elem.isSome=true∧i.td.agg=false)∧0≤n∧n.toNat < xs.length∧(xs.getD n.toNat (dvZ j.zero)).length=j.cells,{ av:=.ep (xs.getD n.toNat (dvZ j.zero)) 0,n:=S.n })
  |.row id=>match S.h id with
   |some (.row _ k xs)=>((i.td.elem.isSome=true∧i.td.agg=false)∧k=j.cells∧0≤n∧n.toNat < xs.length,{ av:=.rp id k n.toNat 0,hr:=[id],n:=S.n })
   |_=>bad
  |.rsl id kk lo m=>match S.h id with
   |some (.row _ k xs)=>((i.td.elem.isSome=true∧i.td.agg=false)∧(k=j.cells∧kk=j.cells)∧0≤n∧n.toNat < m∧lo+m≤xs.length,{ av:=.rp id kk (lo+n.toNat) 0,hr:=[id],n:=S.n })
   |_=>bad
  |.csl id m=>((i.td.elem.isSome=true∧i.td.agg=false)∧0≤n∧n.toNat < m,{ av:=.ptr id (n.toNat * j.cells),n:=S.n })
  |.ptr id off=>match i.td with
   |.array m _=>(0≤n∧n.toNat < m,{ av:=.ptr id (off+n.toNat * j.cells),n:=S.n })
   |_=>bad
  |_=>bad
 |_,_,_=>bad
def QbV (S:St) (i:Option TI):Ans:=match i with
 |some i=>(True,{ av:=.ptr S.n 0,hw:=[(S.n,some (.cells i.zero))],news:=[S.n],n:=S.n+1 })
 |none=>bad
def boxE (S:St) (x:AV):Ans:=((cellsOf x).all wJ=true,{ av:=.ptr S.n 0,hw:=[(S.n,some (.cells (cellsOf x)))],news:=[S.n],n:=S.n+1 })
def dvE (S:St):AV→Prop × DV × List Nat
 |.v x=>(True,.v x,[])
 |.nil=>(True,.sl [],[])
 |.emp=>(True,.sl [],[])
 |.sl xs=>(True,.sl xs,[])
 |.row id=>match S.h id with
  |some (.row _ _ xs)=>(True,.sl xs,[id])
  |_=>(False,.sl [],[])
 |_=>(False,.sl [],[])
def vB (S:St):List AV→Prop × List DV × List Nat
 |[]=>(True,[],[])
 |c :: cs=>((dvE S c).1∧(vB S cs).1,(dvE S c).2.1 :: (vB S cs).2.1,(dvE S c).2.2++(vB S cs).2.2)
def QH (S:St) (i:Option TI) (x v:AV):Ans:=match i with
 |some i=>match x with
  |.ptr id off=>match S.h id with
   |some (.cells cs)=>((cellsOf v).all wJ=true∧(cellsOf v).length=i.cells∧off+(cellsOf v).length≤cs.length,{ av:=.junk,hw:=[(id,some (.cells (cs.take off++cellsOf v++cs.drop (off+(cellsOf v).length))))],hr:=[id],n:=S.n })
   |_=>bad
  |.rp id k m off=>match S.h id with
   |some (.row e k' xs)=>((cellsOf v).length=i.cells∧k'=k∧(vB S (cellsOf v)).1∧off+(vB S (cellsOf v)).2.1.length≤k∧m < xs.length∧id ∉ (vB S (cellsOf v)).2.2,{ av:=.junk,hw:=(id,some (.row e k (xs.set m ((xs.getD m []).take off++(vB S (cellsOf v)).2.1++(xs.getD m []).drop (off+(vB S (cellsOf v)).2.1.length))))) :: q9 (vB S (cellsOf v)).2.2,hr:=id :: (vB S (cellsOf v)).2.2,n:=S.n })
   |_=>bad
  |_=>bad
 |none=>bad
def xX (op:BinOp) (k:IntKind) (a b:Int):Prop × Value :=
 match op with
 |.add=>(True,.int k (k.wrap (a+b)))
 |.sub=>(True,.int k (k.wrap (a - b)))
 |.mul=>(True,.int k (k.wrap (a * b)))
 |.quo=>(b ≠ 0,.int k (k.wrap (a.tdiv b)))
 |.rem=>(b ≠ 0,.int k (a.tmod b))
 |.and=>(True,.int k (k.wrap (BitVec.ofInt k.bits a &&& BitVec.ofInt k.bits b).toNat))
 |.or=>(True,.int k (k.wrap (BitVec.ofInt k.bits a ||| BitVec.ofInt k.bits b).toNat))
 |.xor=>(True,.int k (k.wrap (BitVec.ofInt k.bits a ^^^ BitVec.ofInt k.bits b).toNat))
 |.andNot=>(True,.int k (k.wrap (BitVec.ofInt k.bits a &&& ~~~(BitVec.ofInt k.bits b)).toNat))
 |.eql=>(True,.bool (decide (a=b)))
 |.neq=>(True,.bool (!decide (a=b)))
 |.lss=>(True,.bool (decide (a < b)))
 |.leq=>(True,.bool (decide (a≤b)))
 |.gtr=>(True,.bool (decide (b < a)))
 |.geq=>(True,.bool (decide (b≤a)))
 |.shl=>(0≤b,.int k (k.wrap (a * 2 ^ min b.toNat k.bits)))
 |.shr=>(0≤b,.int k (a.fdiv (2 ^ min b.toNat k.bits)))
theorem Qfh {op:BinOp} {k:IntKind} {a b:Int} (h:(xX op k a b).1):QfO op k a b fun v=>v=(xX op k a b).2:=by
 cases op <;> simp only [xX] at h <;> simp only [QfO,xX] <;> first|exact ⟨h,trivial⟩|exact rfl
def Qd4:Option IntKind→AV→AV→Prop × Bool
 |some k,.v (.int k1 a),.v (.int k2 b)=>(k1=k∧k2=k,decide (a=b))
 |none,.v (.bool a),.v (.bool b)=>(True,a == b)
 |_,_,_=>(False,false)
def eqE:List (Option IntKind)→List AV→List AV→Prop × Bool
 |[],[],[]=>(True,true)
 |k :: ks,c :: cs,d :: ds=>((Qd4 k c d).1∧(eqE ks cs ds).1,(Qd4 k c d).2 && (eqE ks cs ds).2)
 |_,_,_=>(False,false)
theorem Xn:∀ {ks:List (Option IntKind)} {cs ds:List AV} {K:Bool→Prop},(eqE ks cs ds).1→K (eqE ks cs ds).2→eqB ks cs ds K
 |[],[],[],K,_,hk=>hk
 |k :: ks,c :: cs,d :: ds,K,h,hk=>by
  simp only [eqE] at h hk
  obtain ⟨h1,h2⟩:=h
  unfold Qd4 at h1 hk
  split at h1
  ·exact ⟨_,_,rfl,_,_,rfl,h1.1,h1.2,Xn h2 hk⟩
  ·exact ⟨_,rfl,_,rfl,Xn h2 hk⟩
  ·exact h1.elim
 |[],[],_ :: _,_,h,_=>by simp [eqE] at h
 |[],_ :: _,_,_,h,_=>by simp [eqE] at h
 |_ :: _,[],_,_,h,_=>by simp [eqE] at h
 |_ :: _,_ :: _,[],_,h,_=>by simp [eqE] at h
def boolT:Option TI→Bool
 |some i=>match i.td with
  |.bool=>true
  |_=>false
 |none=>false
def Kt (S:St) (i:Option TI) (op:BinOp) (a b:Bool):Ans:=match op with
 |.eql=>(boolT i=true,{ av:=.v (.bool (a == b)),n:=S.n })
 |.neq=>(boolT i=true,{ av:=.v (.bool (!(a == b))),n:=S.n })
 |_=>bad
def XD (S:St) (i:Option TI) (op:BinOp) (x y:AV):Ans:=match x,y with
 |.v (.int k a),.v (.int k' b)=>((ZM op || k == k')=true∧(xX op k a b).1,{ av:=.v (xX op k a b).2,n:=S.n })
 |.agg cs,.agg ds=>match i with
  |some i=>match i.eqk with
   |some ks=>match op with
    |.eql=>((eqE ks cs ds).1,{ av:=.v (.bool (eqE ks cs ds).2),n:=S.n })
    |.neq=>((eqE ks cs ds).1,{ av:=.v (.bool (!(eqE ks cs ds).2)),n:=S.n })
    |_=>bad
   |none=>bad
  |none=>bad
 |.v (.bool a),.v (.bool b)=>Kt S i op a b
 |_,_=>bad
def unE (S:St) (op:UnOp) (x:AV):Ans:=match op,x with
 |.not,.v (.bool b)=>(True,{ av:=.v (.bool (!b)),n:=S.n })
 |.neg,.v (.int k n)=>(True,{ av:=.v (.int k (k.wrap (0 - n))),n:=S.n })
 |_,_=>bad
def Xe (S:St) (i j:Option TI) (x:AV):Ans:=match i,j,x with
 |some _,some j,.v (.int _ n)=>match j.td with
  |.int k'=>(True,{ av:=.v (.int k' (k'.wrap n)),n:=S.n })
  |_=>bad
 |_,_,_=>bad
def Qcf (S:St) (x:AV) (ix:Nat):Ans:=match x with
 |.tup cs=>match cs[ix]? with
  |some c=>(True,{ av:=c,n:=S.n })
  |none=>bad
 |_=>bad
def JB (S:St) (i:Option TI) (x:AV):Ans:=match i with
 |some i=>match i.td with
  |.slice _=>match x with
   |.nil=>(True,{ av:=.v (.int .i64 0),n:=S.n })
   |.emp=>(True,{ av:=.v (.int .i64 0),n:=S.n })
   |.sl xs=>(True,{ av:=.v (.int .i64 xs.length),n:=S.n })
   |.csl _ m=>(True,{ av:=.v (.int .i64 m),n:=S.n })
   |.rsl _ _ _ m=>(True,{ av:=.v (.int .i64 m),n:=S.n })
   |.row id=>match S.h id with
    |some (.row _ _ xs)=>(True,{ av:=.v (.int .i64 xs.length),hr:=[id],n:=S.n })
    |_=>bad
   |_=>bad
  |.string=>match x with
   |.v (.string s)=>(True,{ av:=.v (.int .i64 s.size),n:=S.n })
   |_=>bad
  |_=>bad
 |none=>bad
def vE (S:St):AV→Prop × List (List DV) × List Nat
 |.nil=>(True,[],[])
 |.emp=>(True,[],[])
 |.sl xs=>(True,xs,[])
 |.row id=>match S.h id with
  |some (.row _ _ xs)=>(True,xs,[id])
  |_=>(False,[],[])
 |_=>(False,[],[])
def dstE (S:St) (e:TypeId) (k:Nat):AV→Prop × List (List DV) × Option Nat
 |.nil=>(True,[],none)
 |.emp=>(True,[],none)
 |.row id=>match S.h id with
  |some (.row e' k' xs)=>(e'=e∧k'=k,xs,some id)
  |_=>(False,[],none)
 |_=>(False,[],none)
def ze (k:Nat) (xs:List (List DV)):Prop:=∀ r ∈ xs,r.length=k
theorem Qa0 (k:Nat):ze k []=True:=by simp [ze]
theorem Yu (k:Nat) (x:List DV) (xs:List (List DV)):ze k (x :: xs)=(x.length=k∧ze k xs):=by simp [ze]
theorem XA (k:Nat) (xs ys:List (List DV)):ze k (xs++ys)=(ze k xs∧ze k ys):=by
 apply propext
 simp only [ze,List.mem_append]
 exact ⟨fun h=>⟨fun r hr=>h r (.inl hr),fun r hr=>h r (.inr hr)⟩,fun h r hr=>hr.elim (h.1 r) (h.2 r)⟩
theorem jh {α:Type} {k:Nat} {f:α→List DV} (h:∀ a,(f a).length=k) (l:List α):ze k (l.map f)=True:=by
 simp only [ze,List.mem_map]
 exact eq_true fun r ⟨a,_,e⟩=>e ▸ h a
def Qcj (d:Option Nat) (hr:List Nat):Prop:=match d with
 |some d=>d ∉ hr
 |none=>True
theorem Qbv {d:Option Nat} {hr:List Nat} (h:Qcj d hr):∀ i,d=some i→i ∉ hr:=by
 rintro i rfl;exact h
def Qhe (S:St) (ej:Option (TypeId × TI)) (sl:Bool) (x y:AV):Ans:=match ej with
 |some (e,j)=>(sl=true∧0 < j.cells∧(dstE S e j.cells x).1∧(vE S y).1∧Qcj (dstE S e j.cells x).2.2 (vE S y).2.2∧ze j.cells (dstE S e j.cells x).2.1∧ze j.cells (vE S y).2.1 ∧
   ((dstE S e j.cells x).2.1.length+(vE S y).2.1.length) * j.bytes≤140737488355328∧(dstE S e j.cells x).2.1.length+(vE S y).2.1.length≤maxLen,
   {av:=.row S.n,hw:=yM (dstE S e j.cells x).2.2++[(S.n,some (.row e j.cells ((dstE S e j.cells x).2.1++(vE S y).2.1)))],hr:=QT (dstE S e j.cells x).2.2++(vE S y).2.2,news:=[S.n],n:=S.n+1 })
 |none=>bad
def isSlice (i:Option TI):Bool:=match i with
 |some i=>match i.td with
  |.slice _=>true
  |_=>false
 |none=>false
def minE (S:St) (x y:AV):Ans:=match x,y with
 |.v (.int k a),.v (.int _ b)=>(True,{ av:=.v (.int k (min a b)),n:=S.n })
 |_,_=>bad
def maxE (S:St) (x y:AV):Ans:=match x,y with
 |.v (.int k a),.v (.int _ b)=>(True,{ av:=.v (.int k (max a b)),n:=S.n })
 |_,_=>bad
def zu (d:Int):Option AV→Prop × Int
 |none=>(True,d)
 |some (.v (.int _ n))=>(True,n)
 |some _=>(False,0)
def slE (x:AV):Prop × List (List DV):=match x with
 |.nil=>(True,[])
 |.emp=>(True,[])
 |.sl xs=>(True,xs)
 |_=>(False,[])
def Zw (S:St) (ej:Option (TypeId × TI)) (sl:Bool) (x:AV) (lo hi mx:Option AV):Ans:=match ej with
 |some (_,j)=>match mx with
  |none=>(sl=true∧(slE x).1∧(zu 0 lo).1∧(zu (slE x).2.length hi).1∧0≤(zu 0 lo).2∧(zu 0 lo).2≤(zu (slE x).2.length hi).2∧(zu (slE x).2.length hi).2≤(slE x).2.length∧ze j.cells (slE x).2,
    {av:=.sl (((slE x).2.take (zu (slE x).2.length hi).2.toNat).drop (zu 0 lo).2.toNat),n:=S.n })
  |some m=>(sl=true∧(slE x).1∧lo=none∧hi.isSome=true∧(zu 0 hi).1∧(zu 0 hi).2=0∧(zu 0 (some m)).1∧(zu 0 (some m)).2=0,{ av:=.emp,n:=S.n })
 |none=>bad
def yJ (place:Nat→Option (Nat × Nat)):List AV→List (Nat × AV)→Prop × List AV
 |cells,[]=>(True,cells)
 |cells,p :: rest=>match place p.1 with
  |some q=>((cellsOf p.2).length=q.2∧q.1+(cellsOf p.2).length≤cells.length∧(cellsOf p.2).all wJ=true∧(yJ place (cells.take q.1++cellsOf p.2++cells.drop (q.1+(cellsOf p.2).length)) rest).1,(yJ place (cells.take q.1++cellsOf p.2++cells.drop (q.1+(cellsOf p.2).length)) rest).2)
  |none=>(False,[])
theorem Qs {place:Nat→Option (Nat × Nat)} {K:List AV→Prop}:∀ {ps:List (Nat × AV)} {cells:List AV},(yJ place cells ps).1→K (yJ place cells ps).2→xz place K cells ps
 |[],_,_,hk=>hk
 |p :: ps,cells,h,hk=>by
  simp only [yJ] at h hk
  simp only [xz]
  split at h
  ·rename_i q hq
   rw [hq] at hk ⊢
   exact ⟨h.1,h.2.1,h.2.2.1,Qs h.2.2.2 hk⟩
  ·exact h.elim
def R3 (S:St) (i:Option TI) (ps:List (Nat × AV)):Ans:=match i with
 |some i=>match i.td with
  |.struct fs=>((yJ (Wt fs) i.zero ps).1,{ av:=.agg (yJ (Wt fs) i.zero ps).2,n:=S.n })
  |_=>bad
 |none=>bad
theorem Qg7 {S:St} {c:AV} {K:DV→List Nat→Prop} (h:(dvE S c).1) (hk:K (dvE S c).2.1 (dvE S c).2.2):dvS S K c:=by
 cases c <;> simp only [dvE] at h hk <;> simp only [dvS] <;> first|exact hk|exact h.elim|skip
 split at h
 ·rename_i e k xs hc;rw [hc] at hk ⊢;exact ⟨e,k,xs,rfl,hk⟩
 ·exact h.elim
theorem JE {S:St}:∀ {cs:List AV} {K:List DV→List Nat→Prop},(vB S cs).1→K (vB S cs).2.1 (vB S cs).2.2→We S K cs
 |[],K,_,hk=>hk
 |c :: cs,K,h,hk=>Qg7 h.1 (JE h.2 hk)
def bsE (S:St) (ej:Option (TypeId × TI)) (sl:Bool) (n:Nat) (ps:List (Nat × AV)):Ans:=match ej with
 |some (e,j)=>if n=0 then (sl=true∧ps=[],{ av:=.emp,n:=S.n }) else
   (sl=true∧0 < j.cells∧n * j.cells≤16777216∧(yJ (yE j.cells) (zeros j.zero n) ps).1∧(vB S (yJ (yE j.cells) (zeros j.zero n) ps).2).1,
    {av:=.row S.n,hw:=(S.n,some (.row e j.cells (chunk j.cells n (vB S (yJ (yE j.cells) (zeros j.zero n) ps).2).2.1))) :: q9 (vB S (yJ (yE j.cells) (zeros j.zero n) ps).2).2.2,hr:=(vB S (yJ (yE j.cells) (zeros j.zero n) ps).2).2.2,news:=[S.n],n:=S.n+1 })
 |none=>bad
def Qho (id k n:Nat) (l h:Int):Option AV→AV
 |none=>.rsl id k l.toNat (h.toNat - l.toNat)
 |some _=>if l < n then .rsl id k l.toNat (h.toNat - l.toNat) else .sl []
def KX (S:St) (ej:Option (TypeId × TI)) (sl:Bool) (x:AV) (lo hi mx:Option AV):Ans:=match ej,x,mx with
 |some (_,j),.row id,none=>match S.h id with
  |some (.row _ k xs)=>(sl=true∧k=j.cells∧(zu 0 lo).1∧(zu xs.length hi).1∧0≤(zu 0 lo).2∧(zu 0 lo).2≤(zu xs.length hi).2∧(zu xs.length hi).2≤xs.length∧0 < xs.length,
    {av:=Qho id j.cells xs.length (zu 0 lo).2 (zu xs.length hi).2 lo,hr:=[id],n:=S.n })
  |_=>bad
 |_,_,_=>bad
def Qdf:AV→Bool
 |.row _=>true
 |_=>false
def QbQ (S:St) (ej:Option (TypeId × TI)) (i:Option TI) (x:AV) (lo hi mx:Option AV):Ans:=match ej,i with
 |some (_,_),some i=>match i.td with
  |.array m _=>match x with
   |.ptr id off=>match lo,mx with
    |none,none=>((zu m hi).1∧0≤(zu m hi).2∧(zu m hi).2≤m∧m≤maxLen,{ av:=.psl id off (zu m hi).2.toNat m,n:=S.n })
    |_,_=>bad
   |_=>bad
  |_=>bad
 |_,_=>bad
def Qdn:AV→Bool
 |.ptr _ _=>true
 |_=>false
def VN (S:St) (i:Option TI) (ej:Option (TypeId × TI)) (sl:Bool) (x:AV) (lo hi mx:Option AV):Ans:=match Qdn x with
 |true=>QbQ S ej i x lo hi mx
 |false=>match Qdf x with
  |true=>KX S ej sl x lo hi mx
  |false=>Zw S ej sl x lo hi mx
def yD (S:St) (kk:Nat):AV→Prop × List (List DV) × List Nat
 |.sl ys=>(True,ys,[])
 |.row id=>match S.h id with
  |some (.row _ k xs)=>(k=kk,xs,[id])
  |_=>(False,[],[])
 |.rsl id k lo n=>match S.h id with
  |some (.row _ k' xs)=>(k=kk∧k'=kk∧lo+n≤xs.length,(xs.drop lo).take n,[id])
  |_=>(False,[],[])
 |_=>(False,[],[])
def appR (S:St) (ej:Option (TypeId × TI)) (sl:Bool) (x y:AV):Ans:=match ej,x with
 |some (e,j),.rsl id k' lo n=>match S.h id with
  |some (.row e' k xs)=>(sl=true∧0 < j.cells∧e'=e∧k=j.cells∧k'=j.cells∧lo=0∧n≤xs.length∧(yD S j.cells y).1∧ze j.cells (xs.take n)∧ze j.cells (yD S j.cells y).2.1 ∧
    ((xs.take n).length+(yD S j.cells y).2.1.length) * j.bytes≤140737488355328∧(xs.take n).length+(yD S j.cells y).2.1.length≤maxLen,
    {av:=.row S.n,hw:=yM (some id)++[(S.n,some (.row e j.cells (xs.take n++(yD S j.cells y).2.1)))],hr:=QT (some id)++(yD S j.cells y).2.2,news:=[S.n],n:=S.n+1 })
  |_=>bad
 |_,_=>bad
def QcZ:AV→Bool
 |.rsl _ _ _ _=>true
 |_=>false
def QgX (S:St) (ej:Option (TypeId × TI)) (sl:Bool) (x y:AV):Ans:=match QcZ x with
 |true=>appR S ej sl x y
 |false=>Qhe S ej sl x y
def Qil:AV→Option (Nat × Nat × Option Nat)
 |.row id=>some (id,0,none)
 |.rsl id _ lo n=>some (id,lo,some n)
 |_=>none
def KT (S:St) (ej:Option (TypeId × TI)) (sl:Bool) (x y:AV):Ans:=match ej,Qil x with
 |some (_,j),some (id,lo,nn)=>match S.h id with
  |some (.row e' k xs)=>(sl=true∧0 < j.cells∧k=j.cells∧(x=.row id∨x=.rsl id j.cells lo (nn.getD xs.length))∧lo+nn.getD xs.length≤xs.length∧0 < nn.getD xs.length∧(yD S j.cells y).1∧ze j.cells (yD S j.cells y).2.1∧0 < (yD S j.cells y).2.1.length,
    {av:=.v (.int .i64 (min (yD S j.cells y).2.1.length (nn.getD xs.length):Nat)),hw:=[(id,some (.row e' k (xs.take lo++(yD S j.cells y).2.1.take (min (yD S j.cells y).2.1.length (nn.getD xs.length))++xs.drop (lo+min (yD S j.cells y).2.1.length (nn.getD xs.length)))))],hr:=id :: (yD S j.cells y).2.2,n:=S.n })
  |_=>bad
 |_,_=>bad
def Qim (S:St) (ej:Option (TypeId × TI)) (sl:Bool) (x y:AV):Ans:=match ej,x with
 |some (_,j),.psl id off n _=>match S.h id with
  |some (.cells cs)=>(sl=true∧j.cells=1∧off+n≤cs.length∧(yD S 1 y).1∧ze 1 (yD S 1 y).2.1∧0 < (yD S 1 y).2.1.length,
    {av:=.v (.int .i64 (min (yD S 1 y).2.1.length n:Nat)),hw:=[(id,some (.cells (cs.take off++(((yD S 1 y).2.1.take (min (yD S 1 y).2.1.length n)).flatten).map DV.av++cs.drop (off+min (yD S 1 y).2.1.length n))))],hr:=id :: (yD S 1 y).2.2,n:=S.n })
  |_=>bad
 |_,_=>bad
def Qf1:AV→Bool
 |.psl _ _ _ _=>true
 |_=>false
def QaL (S:St) (ej:Option (TypeId × TI)) (sl:Bool) (x y:AV):Ans:=match Qf1 x with
 |true=>Qim S ej sl x y
 |false=>KT S ej sl x y
def isNil:List AV→Bool
 |[.nil]=>true
 |_=>false
theorem QbM {l:List AV} (h:isNil l=true):l=[.nil]:=by
 unfold isNil at h;split at h
 ·rfl
 ·cases h
def Kr (S:St) (ej:Option (TypeId × TI)) (sl:Bool) (x y:AV):Ans:=match ej,x,y with
 |some (e,j),.v (.int _ n),.v (.int _ m)=>bif isNil j.zero then
   (sl=true∧n=m∧0≤n∧(j.bytes:Int) * n≤140737488355328∧n≤maxLen,{ av:=.csl S.n n.toNat,hw:=[(S.n,some (.cells (List.replicate n.toNat .nil)))],hr:=[],news:=[S.n],n:=S.n+1 })
  else (sl=true∧n=m∧0≤n∧(j.bytes:Int) * n≤140737488355328∧n≤maxLen∧0 < j.cells∧(dvL j.zero).isSome=true,{ av:=.row S.n,hw:=(S.n,some (.row e j.cells (List.replicate n.toNat (dvZ j.zero)))) :: q9 [],hr:=[],news:=[S.n],n:=S.n+1 })
 |_,_,_=>bad
def QcS (S:St):Option Operand→Ans
 |none=>(True,{ av:=.mp S.n,hw:=[(S.n,some (.map []))],news:=[S.n],n:=S.n+1 })
 |some _=>bad
noncomputable def QaH (S:St) (i:Option TI) (c:Bool) (k x:AV):Ans:=match i with
 |some i=>match i.key with
  |some q=>match x with
   |.mp id=>match k.toV with
    |some kv=>match S.h id with
     |some (.map es)=>(MOK q.kd.Q es∧q.kd.Q kv∧(wX q (wF es kv)).1,{ av:=bif c then .tup [(wX q (wF es kv)).2.1,.v (.bool (wX q (wF es kv)).2.2)] else (wX q (wF es kv)).2.1,hr:=[id],n:=S.n })
     |_=>bad
    |none=>bad
   |_=>bad
  |none=>bad
 |none=>bad
noncomputable def Qf7 (S:St) (i:Option TI) (k v x:AV):Ans:=match i with
 |some i=>match i.key with
  |some q=>match x with
   |.mp id=>match k.toV with
    |some kv=>match v.toV with
     |some u=>match S.h id with
      |some (.map es)=>(MOK q.kd.Q es∧q.kd.Q kv∧(jd es kv u).length≤maxLen,{ av:=.junk,hw:=[(id,some (.map (jd es kv u)))],hr:=[id],n:=S.n })
      |_=>bad
     |none=>bad
    |none=>bad
   |_=>bad
  |none=>bad
 |none=>bad
noncomputable def Qhh (S:St) (i:Option TI) (k x:AV):Ans:=match i with
 |some i=>match i.key with
  |some q=>match x with
   |.mp id=>match k.toV with
    |some kv=>match q.z.toV with
     |some zv=>match S.h id with
      |some (.map es)=>(MOK q.kd.Q es∧q.kd.Q kv∧(wX q (wF es kv)).1∧es.length+1≤maxLen,{ av:=.tup [(wX q (wF es kv)).2.1,.v (.int .i64 (Xz es kv:Nat))],hw:=[(id,some (.map (Qik es kv zv)))],hr:=[id],n:=S.n })
      |_=>bad
     |none=>bad
    |none=>bad
   |_=>bad
  |none=>bad
 |none=>bad
def QgD (S:St) (s v x:AV):Ans:=match x with
 |.mp id=>match s with
  |.v (.int _ n)=>match v.toV with
   |some u=>match S.h id with
    |some (.map es)=>(0≤n∧n.toNat < es.length,{ av:=.junk,hw:=[(id,some (.map (es.set n.toNat ((es.getD n.toNat (undef,undef)).1,u))))],hr:=[id],n:=S.n })
    |_=>bad
   |none=>bad
  |_=>bad
 |_=>bad
def Qa5 (S:St) (ej:Option (TypeId × TI)) (i:Option TI) (ps:List (Nat × AV)):Ans:=match ej,i with
 |some (_,j),some i=>match i.td with
  |.array _ _=>((yJ (yE j.cells) i.zero ps).1,{ av:=.agg (yJ (yE j.cells) i.zero ps).2,n:=S.n })
  |_=>bad
 |_,_=>bad
def arrB:Option TI→Bool
 |some i=>match i.td with
  |.array _ _=>true
  |_=>false
 |none=>false
def YY (S:St) (ej:Option (TypeId × TI)) (i:Option TI) (ps:List (Nat × AV)):Ans:=match arrB i with
 |true=>Qa5 S ej i ps
 |false=>R3 S i ps
def V3 (S:St) (ej:Option (TypeId × TI)) (i:Option TI) (ix x:AV):Ans:=match ej,i with
 |some (_,j),some i=>match i.td with
  |.array m _=>match x,ix with
   |.agg cs,.v (.int _ n)=>(0≤n∧n < m∧n.toNat * j.cells+(bif j.td.agg then j.cells else 1)≤cs.length,{ av:=yC j ((cs.drop (n.toNat * j.cells)).take (bif j.td.agg then j.cells else 1)),n:=S.n })
   |_,_=>bad
  |_=>bad
 |_,_=>bad
def La (Γ:Tys) (S:St) (i:Option TI) (f:Nat) (x:AV):Ans:=match i with
 |some i=>match i.td with
  |.struct fs=>match fs[f]? with
   |some p=>match Γ p.2.2 with
    |some j=>match x with
     |.agg cs=>(p.1+(bif j.td.agg then j.cells else 1)≤cs.length,{ av:=yC j ((cs.drop p.1).take (bif j.td.agg then j.cells else 1)),n:=S.n })
     |_=>bad
    |none=>bad
   |none=>bad
  |_=>bad
 |none=>bad
def Xk (S:St) (ej:Option (TypeId × TI)) (sl:Bool) (x:AV):Ans:=match ej,x with
 |some (_,j),.rsl id k' lo n=>match S.h id with
  |some (.row e' k xs)=>(sl=true∧0 < j.cells∧k=j.cells∧k'=j.cells∧lo+n≤xs.length∧0 < n∧(dvL j.zero).isSome=true,
    {av:=.junk,hw:=[(id,some (.row e' k (xs.take lo++List.replicate n (dvZ j.zero)++xs.drop (lo+n))))],hr:=[id],n:=S.n })
  |_=>bad
 |_,_=>bad
def QhU (S:St) (f:FuncId):List AV→List AV→Ans
 |[],cs=>(True,{ av:=.clo f cs,n:=S.n })
 |x :: xs,[]=>(True,{ av:=.bnd f (x :: xs),n:=S.n })
 |_,_=>bad
def Zf (Γ:Tys) (Φ:Ctr) (S:St) (c:Call):Ans:=match c.callee with
 |.builtin .len=>match c.args.toList,c.argTypes.toList with
  |[x],[t]=>JB S (Γ t) (ev S x)
  |_,_=>bad
 |.builtin .copy=>match c.args.toList,c.argTypes.toList with
  |[x,y],[t,_]=>QaL S (zA Γ (Γ t)) (isSlice (Γ t)) (ev S x) (ev S y)
  |_,_=>bad
 |.builtin .append=>match c.args.toList,c.argTypes.toList with
  |[x,y],[t,t']=>if t=t' then QgX S (zA Γ (Γ t)) (isSlice (Γ t)) (ev S x) (ev S y) else bad
  |_,_=>bad
 |.builtin .clear=>match c.args.toList,c.argTypes.toList with
  |[x],[t]=>Xk S (zA Γ (Γ t)) (isSlice (Γ t)) (ev S x)
  |_,_=>bad
 |.builtin .min=>match c.args.toList,c.argTypes.toList with
  |[x,y],[_,_]=>minE S (ev S x) (ev S y)
  |_,_=>bad
 |.builtin .max=>match c.args.toList,c.argTypes.toList with
  |[x,y],[_,_]=>maxE S (ev S x) (ev S y)
  |_,_=>bad
 |.value g=>match zO (ev S g) with
  |some (f,caps)=>Φ S f (Zg (ev S g)++(c.args.toList.map (ev S)++caps))
  |none=>bad
 |_=>bad
noncomputable def opE (Γ:Tys) (Φ:Ctr) (S:St):Op→Ans
 |.move x=>(True,{ av:=ev S x,n:=S.n })
 |.assign x=>(True,{ av:=ev S x,n:=S.n })
 |.load t x=>L9 S (Γ t) (ev S x)
 |.fieldAddr t x f=>JV S (Γ t) f (ev S x)
 |.indexAddr t x ix=>Zk S (zA Γ (Γ t)) (Γ t) (ev S ix) (ev S x)
 |.alloc t=>QbV S (Γ t)
 |.box _ x=>boxE S (ev S x)
 |.store t x v=>QH S (Γ t) (ev S x) (ev S v)
 |.binOp op t x y _=>XD S (Γ t) op (ev S x) (ev S y)
 |.unOp u _ x=>unE S u (ev S x)
 |.convert s t x=>Xe S (Γ s) (Γ t) (ev S x)
 |.extract x ix=>Qcf S (ev S x) ix
 |.makeFunc (.func f) first caps=>QhU S f (first.toList.map (ev S)) (caps.toList.map (ev S))
 |.nilCheck x=>(ZC (ev S x),{ av:=ev S x,n:=S.n })
 |.build t ps=>YY S (zA Γ (Γ t)) (Γ t) (ps.toList.map fun p=>(p.1,ev S p.2))
 |.buildSlice t n ps=>bsE S (zA Γ (Γ t)) (isSlice (Γ t)) n (ps.toList.map fun p=>(p.1,ev S p.2))
 |.makeSlice t x y=>Kr S (zA Γ (Γ t)) (isSlice (Γ t)) (ev S x) (ev S y)
 |.slice t x lo hi mx=>VN S (Γ t) (zA Γ (Γ t)) (isSlice (Γ t)) (ev S x) (lo.map (ev S)) (hi.map (ev S)) (mx.map (ev S))
 |.index t x ix=>V3 S (zA Γ (Γ t)) (Γ t) (ev S ix) (ev S x)
 |.field t x f=>La Γ S (Γ t) f (ev S x)
 |.makeMap _ r=>QcS S r
 |.lookup t x k c=>QaH S (Γ t) c (ev S k) (ev S x)
 |.mapUpdate t x k v=>Qf7 S (Γ t) (ev S k) (ev S v) (ev S x)
 |.call c=>Zf Γ Φ S c
 |.mapEntry t x k=>Qhh S (Γ t) (ev S k) (ev S x)
 |.entryStore _ x s v=>QgD S (ev S s) (ev S v) (ev S x)
 |_=>bad
section sound
variable {ops : Array Oper} {o : Oper} {S : St} {Γ : Tys}
theorem LM (hΓ:ww P Γ) (hS:Wf S) (hw:Want ops o S) {t:TypeId} {x:Operand} (ho:o.op=.load t x) (h:(L9 S (Γ t) (ev S x)).1):VE A P ops o (L9 S (Γ t) (ev S x)).2 S:=by
 cases hi:Γ t with
 |none=>rw [hi] at h;exact h.elim
 |some i=>rw [hi] at h;exact QkB hS hw ho (hΓ t i hi) rfl (QfI h)
theorem RY (hΓ:ww P Γ) (hS:Wf S) (hw:Want ops o S) {t:TypeId} {x:Operand} {f:Nat} (ho:o.op=.fieldAddr t x f) (h:(JV S (Γ t) f (ev S x)).1):VE A P ops o (JV S (Γ t) f (ev S x)).2 S:=by
 cases hi:Γ t with
 |none=>rw [hi] at h;exact h.elim
 |some i =>
  rw [hi] at h
  simp only [JV] at h ⊢
  split at h
  ·rename_i fs htd
   try rw [htd]
   try simp only
   split at h
   ·rename_i p hp
    try rw [hp]
    obtain ⟨off,sz,ft⟩:=p
    obtain ⟨av,rfl,hv⟩:=Uk (A:=A) (K:=fun av=>av=QdX off (ev S x)) hS hw ho (hΓ t i hi) htd hp h.1 (by
     have h2:=h.2
     generalize ev S x=c at h2
     cases c <;> simp only [ZC] at h2 <;> first|exact h2.elim|rfl)
    exact hv
   ·exact h.elim
  ·exact h.elim
theorem Qb4 (hΓ:ww P Γ) (hS:Wf S) (hw:Want ops o S) {t:TypeId} {x ix:Operand} (ho:o.op=.indexAddr t x ix) (h:(Zk S (zA Γ (Γ t)) (Γ t) (ev S ix) (ev S x)).1):VE A P ops o (Zk S (zA Γ (Γ t)) (Γ t) (ev S ix) (ev S x)).2 S:=by
 cases hej:zA Γ (Γ t) with
 |none=>rw [hej] at h;exact h.elim
 |some p =>
  obtain ⟨e,j⟩:=p
  obtain ⟨i,hi,hel,hj⟩:=kC hej
  rw [hej,hi] at h
  have slice:i.td.elem.isSome=true∧i.td.agg=false→∃ e,i.td=.slice e:=fun ⟨h1,h2⟩=>by
   cases htd:i.td <;> rw [htd] at h1 h2 <;> simp [TD.elem,TD.agg] at h1 h2
   exact ⟨_,rfl⟩
  cases hix:ev S ix with
  |v u =>
   rw [hix] at h
   cases u with
   |int k n =>
    have hyp:∃ av hr,(av=(Zk S (some (e,j)) (some i) (.v (.int k n)) (ev S x)).2.av∧hr=(Zk S (some (e,j)) (some i) (.v (.int k n)) (ev S x)).2.hr)∧VE A P ops o { av:=av,hr:=hr,n:=S.n } S:=by
     refine Re hS hw ho (hΓ t i hi) hel (hΓ e j hj) hix ?_
     generalize ev S x=c at h ⊢
     cases c <;> simp only [Zk] at h ⊢ <;> simp only [YA] <;> first|exact h.elim|skip
     case sl xs =>
      obtain ⟨h1,h2,h3,h4⟩:=h
      rw [QM h3] at h4
      exact ⟨slice h1,h2,h3,h4,by rw [QM h3],trivial⟩
     case row id =>
      split at h
      ·rename_i e' k' xs hc
       rw [hc]
       exact ⟨slice h.1,e',k',xs,rfl,h.2.1,h.2.2.1,h.2.2.2,rfl,rfl⟩
      ·exact h.elim
     case rsl id kk lo m =>
      split at h
      ·rename_i e' k' xs hc
       rw [hc]
       exact ⟨slice h.1,e',k',xs,rfl,h.2.1,h.2.2.1,h.2.2.2.1,h.2.2.2.2,rfl,rfl⟩
      ·exact h.elim
     case csl id m =>
      obtain ⟨h1,h2,h3⟩:=h
      exact ⟨slice h1,h2,h3,trivial,trivial⟩
     case ptr id off =>
      split at h
      ·rename_i m e' htd
       try rw [htd]
       exact ⟨m,e',rfl,h.1,h.2,rfl,rfl⟩
      ·exact h.elim
    obtain ⟨av,hr,⟨rfl,rfl⟩,hv⟩:=hyp
    rw [hi]
    have e2:(Zk S (some (e,j)) (some i) (.v (.int k n)) (ev S x)).2={ av:=(Zk S (some (e,j)) (some i) (.v (.int k n)) (ev S x)).2.av,hr:=(Zk S (some (e,j)) (some i) (.v (.int k n)) (ev S x)).2.hr,n:=S.n }:=by
     generalize ev S x=c at h ⊢
     cases c <;> simp only [Zk] at h ⊢ <;> first|exact h.elim|skip
     ·split at h
      ·rename_i hc;first|rfl|rw [hc]
      ·exact h.elim
     ·split at h
      ·rename_i hc;first|rfl|rw [hc]
      ·exact h.elim
     ·split at h
      ·rename_i hc;first|rfl|rw [hc]
      ·exact h.elim
    rw [e2];exact hv
   |_=>exact h.elim
  |_=>rw [hix] at h;exact h.elim
theorem Qio {S:St} {c:AV} (h:(dvE S c).1):wJ c=true∧∀ i ∈ (dvE S c).2.2,∃ ob,S.h i=some ob:=by
 cases c with
 |row id =>
  simp only [dvE] at h ⊢
  split at h
  ·rename_i hc;refine ⟨rfl,fun i hi=>?_⟩
   first
    |(simp only [hc,List.mem_singleton] at hi;subst hi;exact ⟨_,hc⟩)
    |(simp only [List.mem_singleton] at hi;subst hi;exact ⟨_,hc⟩)
  ·exact h.elim
 |_=>first|exact h.elim|exact ⟨rfl,fun i hi=>by simp [dvE] at hi⟩
theorem XM {S:St}:∀ {cs:List AV},(vB S cs).1→cs.all wJ=true∧∀ i ∈ (vB S cs).2.2,∃ ob,S.h i=some ob
 |[],_=>⟨rfl,fun i hi=>by simp [vB] at hi⟩
 |c :: cs,h=>by
  simp only [vB] at h ⊢
  obtain ⟨g1,g2⟩:=Qio h.1
  obtain ⟨g3,g4⟩:=XM h.2
  refine ⟨by rw [List.all_cons,g1,g3];rfl,fun i hi=>?_⟩
  rcases List.mem_append.1 hi with hi|hi
  ·exact g2 i hi
  ·exact g4 i hi
theorem Rl (hΓ:ww P Γ) (hS:Wf S) (hw:Want ops o S) {t:TypeId} {x v:Operand} (ho:o.op=.store t x v) (h:(QH S (Γ t) (ev S x) (ev S v)).1):VE A P ops o (QH S (Γ t) (ev S x) (ev S v)).2 S:=by
 cases hi:Γ t with
 |none=>rw [hi] at h;exact h.elim
 |some i =>
  rw [hi] at h
  cases hx:ev S x with
  |ptr id off =>
   rw [hx] at h
   simp only [QH] at h ⊢
   split at h
   ·rename_i cs hc
    try rw [hc]
    obtain ⟨hws,hr,⟨rfl,rfl⟩,hv⟩:=Qhu (A:=A) (K:=fun hws hr=>hws=[(id,some (.cells (cs.take off++cellsOf (ev S v)++cs.drop (off+(cellsOf (ev S v)).length))))]∧hr=[id]) hS hw ho (hΓ t i hi) h.1 h.2.1 (by
     rw [hx];simp only [wr];rw [hc];exact ⟨cs,rfl,h.2.2,by simp⟩)
    exact hv
   ·exact h.elim
  |rp id k m off =>
   rw [hx] at h
   simp only [QH] at h ⊢
   split at h
   ·rename_i e k' xs hc
    try rw [hc]
    obtain ⟨h1,h2,h3,h4,h5,h6⟩:=h
    subst h2
    obtain ⟨g1,g2⟩:=XM h3
    have hv:=QeO (A:=A) hS hw ho (hΓ t i hi) g1 h1 hx hc (JE (K:=fun d i=>d=(vB S (cellsOf (ev S v))).2.1∧i=(vB S (cellsOf (ev S v))).2.2) h3 ⟨rfl,rfl⟩) g2 h6 h4 h5
    simp only [QM h5]
    exact hv
   ·exact h.elim
  |_=>rw [hx] at h;exact h.elim
theorem Lx (hΓ:ww P Γ) (hw:Want ops o S) {op:BinOp} {t c:TypeId} {x y:Operand} (ho:o.op=.binOp op t x y c) {a b:Bool} (hx:ev S x=.v (.bool a)) (hy:ev S y=.v (.bool b)) (h:(Kt S (Γ t) op a b).1):VE A P ops o (Kt S (Γ t) op a b).2 S:=by
 have hb:boolT (Γ t)=true→P.underlying t=some .bool:=fun h=>by
  cases hi:Γ t with
  |none=>rw [hi] at h;simp [boolT] at h
  |some i =>
   rw [hi] at h
   obtain ⟨d,hd,hok⟩:=(hΓ t i hi).under
   simp only [boolT] at h
   split at h
   ·rename_i htd
    rw [htd] at hok
    simp only [TD.ok] at hok
    rw [hd,hok]
   ·cases h
 cases op <;> simp only [Kt] at h ⊢ <;> first|exact h.elim|skip
 ·exact VE.val2 hw (by simp [ho]) (by simp [ho,Op.operands]) (by simp [ho,Op.operands]) hx hy rfl fun ac w ex ey=>by
   simp [execOp,ho,ex,ey,eqGuard,binOp,run_equal_bool _ t a b (hb h),Result.andThen]
 ·exact VE.val2 hw (by simp [ho]) (by simp [ho,Op.operands]) (by simp [ho,Op.operands]) hx hy rfl fun ac w ex ey=>by
   simp [execOp,ho,ex,ey,eqGuard,binOp,run_equal_bool _ t a b (hb h),Result.andThen]
theorem Qa3 (hΓ:ww P Γ) (hw:Want ops o S) {op:BinOp} {t c:TypeId} {x y:Operand} (ho:o.op=.binOp op t x y c) (h:(XD S (Γ t) op (ev S x) (ev S y)).1):VE A P ops o (XD S (Γ t) op (ev S x) (ev S y)).2 S:=by
 unfold XD at h
 split at h
 ·rename_i k a k' b hx hy
  obtain ⟨v,rfl,hv⟩:=Qft (A:=A) (P:=P) hw ho hx hy h.1 (Qfh h.2)
  rw [hx,hy];exact hv
 ·rename_i cs ds hx hy
  split at h
  ·rename_i i hi
   split at h
   ·rename_i ks hks
    have go:(op=.eql∨op=.neq)→(eqE ks cs ds).1→VE A P ops o { av:=.v (.bool (if op=.eql then (eqE ks cs ds).2 else !(eqE ks cs ds).2)),n:=S.n } S:=fun hop h=>by
     obtain ⟨b,rfl,hv⟩:=QfK (A:=A) (K:=fun b=>b=(eqE ks cs ds).2) hw ho hop (hΓ t i hi) hks hx hy (Xn h rfl)
     exact hv
    split at h
    ·have:=go (.inl rfl) h;rw [hx,hy,hi];simp only [XD,hks];simpa using this
    ·have:=go (.inr rfl) h;rw [hx,hy,hi];simp only [XD,hks];simpa using this
    ·exact h.elim
   ·exact h.elim
  ·exact h.elim
 ·rename_i a b hx hy
  rw [hx,hy]
  exact Lx hΓ hw ho hx hy h
 ·exact h.elim
theorem QdK (hw:Want ops o S) {u:UnOp} {t:TypeId} {x:Operand} (ho:o.op=.unOp u t x) (h:(unE S u (ev S x)).1):VE A P ops o (unE S u (ev S x)).2 S:=by
 unfold unE at h
 split at h
 ·rename_i b hx;rw [hx];exact Ql4 hw ho hx
 ·rename_i k n hx;rw [hx];exact Qlh hw ho hx
 ·exact h.elim
theorem LA (hΓ:ww P Γ) (hw:Want ops o S) {s t:TypeId} {x:Operand} (ho:o.op=.convert s t x) (h:(Xe S (Γ s) (Γ t) (ev S x)).1):VE A P ops o (Xe S (Γ s) (Γ t) (ev S x)).2 S:=by
 unfold Xe at h
 split at h
 ·rename_i i j k n hi hj hx
  split at h
  ·rename_i k' hk'
   rw [hi,hj,hx]
   simp only [Xe,hk']
   exact QaX hw ho (hΓ s i hi) (hΓ t j hj) hk' hx
  ·exact h.elim
 ·exact h.elim
theorem Qbi (hS:Wf S) (hw:Want ops o S) {x:Operand} {ix:Nat} (ho:o.op=.extract x ix) (h:(Qcf S (ev S x) ix).1):VE A P ops o (Qcf S (ev S x) ix).2 S:=by
 unfold Qcf at h
 split at h
 ·rename_i cs hx
  split at h
  ·rename_i c hc;rw [hx];simp only [Qcf,hc];exact Qbb hS hw ho hx hc
  ·exact h.elim
 ·exact h.elim
theorem QaY (hΓ:ww P Γ) (hw:Want ops o S) {t:TypeId} {x:Operand} (ho:o.op=.call { callee:=.builtin .len,args:=#[x],argTypes:=#[t] }) (h:(JB S (Γ t) (ev S x)).1):VE A P ops o (JB S (Γ t) (ev S x)).2 S:=by
 cases hi:Γ t with
 |none=>rw [hi] at h;exact h.elim
 |some i =>
  rw [hi] at h
  simp only [JB] at h ⊢
  split at h
  ·rename_i e htd
   have go:∀ (n:Int) (hr:List Nat),lenA S (fun m r=>m=n∧r=hr) (ev S x)→(match ev S x with|.v _=>False|.mp _=>False|_=>True)→VE A P ops o { av:=.v (.int .i64 n),hr:=hr,n:=S.n } S:=fun n hr h hty=>by
    obtain ⟨_,_,⟨rfl,rfl⟩,hv⟩:=Qg6 (A:=A) hw ho (hΓ t i hi) (by rw [htd];trivial) h (by
     generalize ev S x=c at hty
     cases c <;> first|exact hty.elim|exact ⟨e,htd⟩)
    exact hv
   try rw [htd]
   try simp only
   split at h
   ·rename_i hx;rw [hx] at go;try rw [hx]
    exact go 0 [] ⟨rfl,rfl⟩ trivial
   ·rename_i hx;rw [hx] at go;try rw [hx]
    exact go 0 [] ⟨rfl,rfl⟩ trivial
   ·rename_i xs hx;rw [hx] at go;try rw [hx]
    exact go _ [] ⟨rfl,rfl⟩ trivial
   ·rename_i xs hx;rw [hx] at go;try rw [hx]
    exact go _ [] ⟨rfl,rfl⟩ trivial
   ·rename_i xs hx;rw [hx] at go;try rw [hx]
    exact go _ [] ⟨rfl,rfl⟩ trivial
   ·rename_i id hx
    split at h
    ·rename_i e' k xs hc;rw [hx] at go;try rw [hx]
     try simp only [hc]
     exact go _ [id] (by simp only [lenA];rw [hc];exact ⟨_,_,_,rfl,by simp⟩) trivial
    ·exact h.elim
   ·exact h.elim
  ·rename_i htd
   try rw [htd]
   try simp only
   split at h
   ·rename_i s hx
    obtain ⟨_,_,⟨rfl,rfl⟩,hv⟩:=Qg6 (A:=A) (K:=fun m r=>m=s.size∧r=[]) hw ho (hΓ t i hi) (by rw [htd];trivial) (by rw [hx];exact ⟨s,rfl,rfl,rfl⟩) (by rw [hx];exact htd)
    try rw [hx]
    exact hv
   ·exact h.elim
  ·exact h.elim
theorem Uh {i:Option TI} (h:isSlice i=true):∃ i',i=some i'∧∃ e,i'.td=.slice e:=by
 cases i with
 |none=>simp [isSlice] at h
 |some i =>
  simp only [isSlice] at h
  split at h
  ·rename_i e he;exact ⟨i,rfl,e,he⟩
  ·cases h
theorem yz {Γ:Tys} {t e:TypeId} {j:TI} (hs:isSlice (Γ t)=true) (hej:zA Γ (Γ t)=some (e,j)):∃ i,Γ t=some i∧i.td=.slice e∧Γ e=some j:=by
 obtain ⟨i,hi,e',he'⟩:=Uh hs
 obtain ⟨i',hi',hel,hj⟩:=kC hej
 rw [hi] at hi';cases hi'
 rw [he'] at hel
 simp only [TD.elem,Option.some.injEq] at hel
 subst hel
 exact ⟨i,hi,he',hj⟩
theorem Qbx (hΓ:ww P Γ) (hS:Wf S) (hw:Want ops o S) {t:TypeId} {x y:Operand} (ho:o.op=.call { callee:=.builtin .append,args:=#[x,y],argTypes:=#[t,t] }) (h:(Qhe S (zA Γ (Γ t)) (isSlice (Γ t)) (ev S x) (ev S y)).1) :
  VE A P ops o (Qhe S (zA Γ (Γ t)) (isSlice (Γ t)) (ev S x) (ev S y)).2 S:=by
 cases hej:zA Γ (Γ t) with
 |none=>rw [hej] at h;exact h.elim
 |some p =>
  obtain ⟨e,j⟩:=p
  rw [hej] at h
  obtain ⟨h1,h2,h3,h4,h5,h6,h7,h8,h9⟩:=h
  obtain ⟨i,hi,htd,hj⟩:=yz h1 hej
  refine Qea hS hw ho (hΓ t i hi) htd (hΓ e j hj) h2 ?_ ?_ (Qbv h5) h6 h7 h8 h9
  ·generalize ev S x=c at h3 ⊢
   cases c <;> simp only [dstE] at h3 ⊢ <;> simp only [dstA] <;> first|exact h3.elim|exact ⟨trivial,trivial⟩|exact ⟨rfl,rfl⟩|skip
   split at h3
   ·rename_i e' k' xs hc;rw [hc];exact ⟨e',k',xs,rfl,h3.1,h3.2,by simp⟩
   ·exact h3.elim
  ·generalize ev S y=c at h4 ⊢
   cases c <;> simp only [vE] at h4 ⊢ <;> simp only [Ub] <;> first|exact h4.elim|exact ⟨trivial,trivial⟩|exact ⟨rfl,rfl⟩|skip
   split at h4
   ·rename_i e' k' xs hc;rw [hc];exact ⟨e',k',xs,rfl,by simp⟩
   ·exact h4.elim
theorem vO {S:St} {x:Option Operand} {d:Int} {K:Int→Prop} (h:(zu d (x.map (ev S))).1) (hk:K (zu d (x.map (ev S))).2):QeH S d K x:=by
 cases x with
 |none=>exact hk
 |some z =>
  simp only [Option.map_some] at h hk
  unfold zu at h hk
  cases hz:ev S z with
  |v u =>
   rw [hz] at h hk
   cases u with
   |int k n=>exact ⟨k,n,hz,hk⟩
   |_=>exact h.elim
  |_=>rw [hz] at h;exact h.elim
theorem Qay {S:St} {x:AV} {K:List (List DV)→Prop} (h:(slE x).1) (hk:K (slE x).2):sliA S K x:=by
 cases x <;> simp only [slE] at h hk <;> simp only [sliA] <;> first|exact h.elim|exact hk
theorem RF (hΓ:ww P Γ) (hw:Want ops o S) {t:TypeId} {x:Operand} {lo hi mx:Option Operand} (ho:o.op=.slice t x lo hi mx) (h:(Zw S (zA Γ (Γ t)) (isSlice (Γ t)) (ev S x) (lo.map (ev S)) (hi.map (ev S)) (mx.map (ev S))).1) :
  VE A P ops o (Zw S (zA Γ (Γ t)) (isSlice (Γ t)) (ev S x) (lo.map (ev S)) (hi.map (ev S)) (mx.map (ev S))).2 S:=by
 cases hej:zA Γ (Γ t) with
 |none=>rw [hej] at h;exact h.elim
 |some p =>
  obtain ⟨e,j⟩:=p
  rw [hej] at h
  cases mx with
  |none =>
   simp only [Option.map_none,Zw] at h ⊢
   obtain ⟨h1,h2,h3,h4,h5,h6,h7,h8⟩:=h
   obtain ⟨i,hi',htd,hj⟩:=yz h1 hej
   obtain ⟨av,rfl,_,hv⟩:=Qat (A:=A) (K:=fun av=>av=.sl (((slE (ev S x)).2.take (zu (slE (ev S x)).2.length (hi.map (ev S))).2.toNat).drop (zu 0 (lo.map (ev S))).2.toNat)) hw ho (hΓ t i hi') htd (hΓ e j hj)
    (Qay h2 (by simp only [JW];exact vO h3 (vO h4 ⟨h5,h6,h7,h8,rfl⟩)))
   exact hv
  |some m =>
   simp only [Option.map_some,Zw] at h ⊢
   obtain ⟨h1,h2,h3,h4,h5,h6,h7,h8⟩:=h
   obtain ⟨i,hi',htd,hj⟩:=yz h1 hej
   obtain ⟨av,rfl,_,hv⟩:=Qat (A:=A) (K:=fun av=>av=.emp) hw ho (hΓ t i hi') htd (hΓ e j hj)
    (Qay h2 (by
     simp only [JW]
     refine ⟨by simpa using h3,by simpa using h4,vO h5 ⟨h6, ?_⟩⟩
     cases hm:ev S m with
     |v u =>
      rw [hm] at h7 h8
      cases u with
      |int k n=>exact ⟨k,n,rfl,h8,trivial⟩
      |_=>exact h7.elim
     |_=>rw [hm] at h7;exact h7.elim))
   exact hv
theorem RX (hΓ:ww P Γ) (hS:Wf S) (hw:Want ops o S) {t:TypeId} {x:Operand} {lo hi mx:Option Operand} (ho:o.op=.slice t x lo hi mx) (h:(VN S (Γ t) (zA Γ (Γ t)) (isSlice (Γ t)) (ev S x) (lo.map (ev S)) (hi.map (ev S)) (mx.map (ev S))).1) :
  VE A P ops o (VN S (Γ t) (zA Γ (Γ t)) (isSlice (Γ t)) (ev S x) (lo.map (ev S)) (hi.map (ev S)) (mx.map (ev S))).2 S:=by
 unfold VN at h ⊢
 cases hp:Qdn (ev S x) with
 |true =>
  rw [hp] at h
  simp only at h ⊢
  unfold QbQ at h ⊢
  split at h
  ·rename_i e j i hej hi'
   try rw [hej,hi']
   try simp only
   split at h
   ·rename_i m e' htd
    try rw [htd]
    try simp only
    split at h
    ·rename_i id off hx
     try rw [hx]
     try simp only
     cases lo with
     |some _=>exact h.elim
     |none =>
      cases mx with
      |some _=>exact h.elim
      |none =>
       simp only [Option.map_none] at h ⊢
       obtain ⟨h1,h2,h3,h4⟩:=h
       obtain ⟨i2,g1,g2,g3⟩:=kC hej
       rw [hi'] at g1
       cases g1
       rw [htd] at g2
       simp only [TD.elem,Option.some.injEq] at g2
       subst g2
       refine UN hS hw ho (hΓ t i hi') htd (hΓ _ j g3) hx ?_ h2 h3 h4
       cases hi with
       |none=>exact .inl ⟨rfl,rfl⟩
       |some z =>
        right
        simp only [Option.map_some] at h1 ⊢
        cases hz:ev S z with
        |v u =>
         cases u with
         |int k n=>exact ⟨z,k,rfl,by rw [zu];exact hz⟩
         |_=>rw [hz] at h1;exact h1.elim
        |_=>rw [hz] at h1;exact h1.elim
    ·exact h.elim
   ·exact h.elim
  ·exact h.elim
 |false =>
  rw [hp] at h
  simp only at h ⊢
  cases hr:Qdf (ev S x) with
  |false=>rw [hr] at h;exact RF hΓ hw ho h
  |true =>
   rw [hr] at h
   simp only at h ⊢
   unfold KX at h ⊢
   split at h
   ·rename_i e j id hej hx hmx
    have hm:mx=none:=by simpa using hmx
    subst hm
    try rw [hej,hx]
    try simp only [Option.map_none]
    split at h
    ·rename_i e' k xs hc
     try rw [hc]
     try simp only
     obtain ⟨h1,h2,h3,h4,h5,h6,h7,h8⟩:=h
     obtain ⟨i,hi',htd,hj⟩:=yz h1 hej
     subst h2
     exact Lm hS hw ho (hΓ t i hi') htd (hΓ e j hj) hx hc (vO h3 (vO h4 ⟨h5,h6,h7,h8,by
      generalize ((zu xs.length (hi.map (ev S))).2)=hh at h6 h7 ⊢
      cases lo with
      |none=>exact .inl ⟨by simp only [Option.map_none,zu];omega,rfl⟩
      |some y =>
       by_cases hl:(zu 0 (some (ev S y))).2 < xs.length
       ·exact .inl ⟨hl,by simp only [Option.map_some,Qho];rw [if_pos hl]⟩
       ·simp only [Option.map_some] at h6
        exact .inr ⟨by simp only [Option.map_some];omega,by simp only [Option.map_some,Qho];rw [if_neg hl]⟩⟩))
    ·exact h.elim
   ·exact h.elim
theorem Yd {k:Nat} (hk:0 < k) {c:AV} (h:(yD S k c).1) (hys:ze k (yD S k c).2.1) {F:Frm} {S2:St} {a:Act} {w:World} {ρ:Nat→Value} {own:Own} (H:Holds F S2 a w ρ own) (hag:∀ id ∈ (yD S k c).2.2,S2.h id=S.h id) {x:Value} (hr:ARel w (okB w own ρ S2.h) ρ F.y c x) :
  ∃ flat,Src w (okB w own ρ S2.h) k (yD S k c).2.1 x flat:=by
 cases c <;> simp only [yD] at h hys hag ⊢ <;> first|exact h.elim|skip
 case sl ys=>cases hr with|sl hd=>exact Un hk hys hd
 case row id =>
  cases hc:S.h id with
  |none=>rw [hc] at h;exact h.elim
  |some o =>
   cases o <;> rw [hc] at h hys hag <;> simp only at h hys hag <;> first|exact h.elim|skip
   subst h
   have ho:=H.obj id _ ((hag id (by simp)).trans hc)
   cases hr with
   |row e1 e2=>rw [e1] at ho;exact YF ho
 case rsl id k1 lo n =>
  cases hc:S.h id with
  |none=>rw [hc] at h;exact h.elim
  |some o =>
   cases o <;> rw [hc] at h hys hag <;> simp only at h hys hag <;> first|exact h.elim|skip
   obtain ⟨rfl,rfl,h3⟩:=h
   have ho:=H.obj id _ ((hag id (by simp)).trans hc)
   cases hr with
   |rsl e1 e2=>rw [e1] at ho;exact Qfz ho h3 e2
theorem QbL (hΓ:ww P Γ) (hS:Wf S) (hw:Want ops o S) {t:TypeId} {x y:Operand} (ho:o.op=.call { callee:=.builtin .append,args:=#[x,y],argTypes:=#[t,t] }) (h:(QgX S (zA Γ (Γ t)) (isSlice (Γ t)) (ev S x) (ev S y)).1) :
  VE A P ops o (QgX S (zA Γ (Γ t)) (isSlice (Γ t)) (ev S x) (ev S y)).2 S:=by
 unfold QgX at h ⊢
 cases hr:QcZ (ev S x) with
 |false=>rw [hr] at h;exact Qbx hΓ hS hw ho h
 |true =>
  rw [hr] at h
  simp only at h ⊢
  unfold appR at h ⊢
  split at h
  ·rename_i e j id k' lo n hej hx
   try rw [hej,hx]
   try simp only
   split at h
   ·rename_i e' k xs hc
    try rw [hc]
    try simp only
    obtain ⟨h1,h2,rfl,rfl,rfl,rfl,h7,h8,h9,h10,h11,h12⟩:=h
    obtain ⟨i,hi',htd,hj⟩:=yz h1 hej
    exact Qbk hS hw ho (hΓ t i hi') htd (hΓ _ j hj) h2 hx hc h7 (fun F S2 a w ρ own H hag v hv=>Yd h2 h8 h10 H hag hv) h9 h10 h11 h12
   ·exact h.elim
  ·exact h.elim
theorem Qal (hΓ:ww P Γ) (hS:Wf S) (hw:Want ops o S) {t t':TypeId} {x y:Operand} (ho:o.op=.call { callee:=.builtin .copy,args:=#[x,y],argTypes:=#[t,t'] }) (h:(KT S (zA Γ (Γ t)) (isSlice (Γ t)) (ev S x) (ev S y)).1) :
  VE A P ops o (KT S (zA Γ (Γ t)) (isSlice (Γ t)) (ev S x) (ev S y)).2 S:=by
 unfold KT at h ⊢
 split at h
 ·rename_i e j id lo nn hej hd
  try rw [hej,hd]
  try simp only
  split at h
  ·rename_i e' k xs hc
   try rw [hc]
   try simp only
   obtain ⟨h1,h2,rfl,h4,h5,h6,h7,h8,h9⟩:=h
   obtain ⟨i,hi',htd,hj⟩:=yz h1 hej
   have hnn:ev S x=.row id→nn.getD xs.length=xs.length∧lo=0:=fun he=>by
    rw [he] at hd;simp only [Qil,Option.some.injEq,Prod.mk.injEq] at hd;obtain ⟨_,rfl,rfl⟩:=hd;exact ⟨rfl,rfl⟩
   exact Qkp hS hw ho (hΓ t i hi') htd (hΓ e j hj) h2 (h4.imp (fun he=>⟨he,(hnn he).2,(hnn he).1⟩) fun he=>he) hc h5 h6 h8 h9 fun F S2 a w ρ own H hag v hr=>Yd h2 h7 h8 H hag hr
  ·exact h.elim
 ·exact h.elim
theorem Lj (hΓ:ww P Γ) (hS:Wf S) (hw:Want ops o S) {t t':TypeId} {x y:Operand} (ho:o.op=.call { callee:=.builtin .copy,args:=#[x,y],argTypes:=#[t,t'] }) (h:(QaL S (zA Γ (Γ t)) (isSlice (Γ t)) (ev S x) (ev S y)).1) :
  VE A P ops o (QaL S (zA Γ (Γ t)) (isSlice (Γ t)) (ev S x) (ev S y)).2 S:=by
 unfold QaL at h ⊢
 split at h
 ·rename_i hp
  try rw [hp]
  try simp only at h ⊢
  unfold Qim at h ⊢
  split at h
  ·rename_i e j id off n c hej hx
   try rw [hej,hx]
   try simp only
   split at h
   ·rename_i cs hc
    try rw [hc]
    try simp only
    obtain ⟨h1,h2,h3,h4,h5,h6⟩:=h
    obtain ⟨i,hi',htd,hj⟩:=yz h1 hej
    exact Qbc hS hw ho (hΓ t i hi') htd (hΓ e j hj) h2 hx hc h3 h5 h6 fun F S2 a w ρ own H hag v hr=>Yd (by omega) h4 h5 H hag hr
   ·exact h.elim
  ·exact h.elim
 ·rename_i hp
  try rw [hp]
  exact Qal hΓ hS hw ho h
theorem Uu (hΓ:ww P Γ) (hS:Wf S) (hw:Want ops o S) {t:TypeId} {x:Operand} (ho:o.op=.call { callee:=.builtin .clear,args:=#[x],argTypes:=#[t] }) (h:(Xk S (zA Γ (Γ t)) (isSlice (Γ t)) (ev S x)).1) :
  VE A P ops o (Xk S (zA Γ (Γ t)) (isSlice (Γ t)) (ev S x)).2 S:=by
 unfold Xk at h ⊢
 split at h
 ·rename_i e j id k' lo n hej hx
  try rw [hej,hx]
  try simp only
  split at h
  ·rename_i e' k xs hc
   try rw [hc]
   try simp only
   obtain ⟨h1,h2,rfl,rfl,h5,h6,h7⟩:=h
   obtain ⟨i,hi',htd,hj⟩:=yz h1 hej
   obtain ⟨ds,hz⟩:=Option.isSome_iff_exists.1 h7
   have hd:dvZ j.zero=ds:=by unfold dvZ;rw [hz];rfl
   rw [hd]
   exact Qhx hS hw ho (hΓ t i hi') htd (hΓ e j hj) h2 hx hc h5 h6 hz
  ·exact h.elim
 ·exact h.elim
theorem Qfk (hΓ:ww P Γ) (hS:Wf S) (hw:Want ops o S) {t:TypeId} {n:Nat} {ps:Array (Nat × Operand)} (ho:o.op=.buildSlice t n ps) (h:(bsE S (zA Γ (Γ t)) (isSlice (Γ t)) n (ps.toList.map fun p=>(p.1,ev S p.2))).1) :
  VE A P ops o (bsE S (zA Γ (Γ t)) (isSlice (Γ t)) n (ps.toList.map fun p=>(p.1,ev S p.2))).2 S:=by
 cases hej:zA Γ (Γ t) with
 |none=>rw [hej] at h;exact h.elim
 |some p =>
  obtain ⟨e,j⟩:=p
  rw [hej] at h
  simp only [bsE] at h ⊢
  by_cases hn:n=0
  ·rw [if_pos hn] at h ⊢
   subst hn
   obtain ⟨i,hi',htd,hj⟩:=yz h.1 hej
   exact XE hw ho (Array.toList_eq_nil_iff.1 (List.map_eq_nil_iff.1 h.2)) (hΓ t i hi') htd (hΓ e j hj)
  ·rw [if_neg hn] at h ⊢
   obtain ⟨h1,h2,h3,h4,h5⟩:=h
   obtain ⟨i,hi',htd,hj⟩:=yz h1 hej
   obtain ⟨ds,dead,⟨rfl,rfl⟩,hv⟩:=Xu (A:=A) (K:=fun ds dead=>ds=(vB S (yJ (yE j.cells) (zeros j.zero n) (ps.toList.map fun p=>(p.1,ev S p.2))).2).2.1∧dead=(vB S (yJ (yE j.cells) (zeros j.zero n) (ps.toList.map fun p=>(p.1,ev S p.2))).2).2.2) hS hw ho (hΓ t i hi') htd (hΓ e j hj) h2 (Nat.pos_of_ne_zero hn) h3
    (Qs h4 (JE h5 ⟨rfl,rfl⟩))
   exact hv
theorem QaF (hΓ:ww P Γ) (hS:Wf S) (hw:Want ops o S) {t:TypeId} {x y:Operand} (ho:o.op=.makeSlice t x y) (h:(Kr S (zA Γ (Γ t)) (isSlice (Γ t)) (ev S x) (ev S y)).1) :
  VE A P ops o (Kr S (zA Γ (Γ t)) (isSlice (Γ t)) (ev S x) (ev S y)).2 S:=by
 cases hej:zA Γ (Γ t) with
 |none=>rw [hej] at h;exact h.elim
 |some p =>
  obtain ⟨e,j⟩:=p
  rw [hej] at h
  unfold Kr at h ⊢
  split at h
  ·rename_i e' j' k n k' m hp hx hy
   simp only [Option.some.injEq,Prod.mk.injEq] at hp
   obtain ⟨rfl,rfl⟩:=hp
   try rw [hx,hy]
   try simp only
   cases hz:isNil j.zero with
   |true =>
    rw [hz] at h
    simp only [cond_true] at h ⊢
    obtain ⟨h1,rfl,h2,h3,h4⟩:=h
    obtain ⟨i,hi',htd,hj⟩:=yz h1 hej
    exact QdS hS hw ho (hΓ t i hi') htd (hΓ e j hj) (QbM hz) hx hy h2 h3 h4
   |false =>
    rw [hz] at h
    simp only [cond_false] at h ⊢
    obtain ⟨h1,rfl,h2,h3,h4,h5,h6⟩:=h
    obtain ⟨i,hi',htd,hj⟩:=yz h1 hej
    obtain ⟨ds,hds⟩:=Option.isSome_iff_exists.1 h6
    have e1:dvZ j.zero=ds:=by simp [dvZ,hds]
    rw [e1]
    exact Qbt hS hw ho (hΓ t i hi') htd (hΓ e j hj) h5 hx hy h2 h3 h4 hds
  ·exact h.elim
theorem Qac {Φ:Ctr} (hΓ:ww P Γ) (hΦ:Ctr.OK A P Φ) (hS:Wf S) (hw:Want ops o S) {c:Call} (ho:o.op=.call c) (h:(Zf Γ Φ S c).1):VE A P ops o (Zf Γ Φ S c).2 S:=by
 obtain ⟨cl,args,tys⟩:=c
 have arr:∀ {α:Type} {a:Array α} {l:List α},a.toList=l→a=l.toArray:=fun h=>by rw [← h]
 cases cl with
 |invoke r n=>exact h.elim
 |builtin b =>
  cases b <;> first|exact h.elim|skip
  case append =>
   simp only [Zf] at h ⊢
   split at h
   ·rename_i x y t t' ha ht
    try rw [ha,ht]
    try simp only
    split at h
    ·rename_i htt
     subst htt
     try rw [if_pos rfl]
     exact QbL hΓ hS hw (by rw [ho,arr ha,arr ht]) h
    ·exact h.elim
   ·exact h.elim
  case copy =>
   simp only [Zf] at h ⊢
   split at h
   ·rename_i x y t t' ha ht
    try rw [ha,ht]
    exact Lj hΓ hS hw (by rw [ho,arr ha,arr ht]) h
   ·exact h.elim
  case clear =>
   simp only [Zf] at h ⊢
   split at h
   ·rename_i x t ha ht
    try rw [ha,ht]
    exact Uu hΓ hS hw (by rw [ho,arr ha,arr ht]) h
   ·exact h.elim
  case len =>
   simp only [Zf] at h ⊢
   split at h
   ·rename_i x t ha ht
    try rw [ha,ht]
    exact QaY hΓ hw (by rw [ho,arr ha,arr ht]) h
   ·exact h.elim
  case max =>
   simp only [Zf] at h ⊢
   split at h
   ·rename_i x y t t' ha ht
    try rw [ha,ht]
    simp only [maxE] at h ⊢
    split at h
    ·rename_i k a k' b hx hy;try rw [hx,hy]
     exact Qlr hw (by rw [ho,arr ha,arr ht]) hx hy
    ·exact h.elim
   ·exact h.elim
  case min =>
   simp only [Zf] at h ⊢
   split at h
   ·rename_i x y t t' ha ht
    try rw [ha,ht]
    simp only [minE] at h ⊢
    split at h
    ·rename_i k a k' b hx hy;try rw [hx,hy]
     exact Ql9 hw (by rw [ho,arr ha,arr ht]) hx hy
    ·exact h.elim
   ·exact h.elim
 |value g =>
  simp only [Zf] at h ⊢
  split at h
  ·rename_i f caps hg
   try rw [hg]
   exact hΦ S f _ h hS ops o g args tys caps hw ho hg rfl
  ·exact h.elim
theorem Uj (hΓ:ww P Γ) (hS:Wf S) (hw:Want ops o S) {t:TypeId} {ps:Array (Nat × Operand)} (ho:o.op=.build t ps) (h:(YY S (zA Γ (Γ t)) (Γ t) (ps.toList.map fun p=>(p.1,ev S p.2))).1) :
  VE A P ops o (YY S (zA Γ (Γ t)) (Γ t) (ps.toList.map fun p=>(p.1,ev S p.2))).2 S:=by
 unfold YY at h ⊢
 cases hb:arrB (Γ t) with
 |true =>
  rw [hb] at h
  simp only at h ⊢
  unfold Qa5 at h ⊢
  split at h
  ·rename_i e j i hej hi
   try rw [hej,hi]
   try simp only
   split at h
   ·rename_i m e' htd
    try rw [htd]
    try simp only
    obtain ⟨i2,g1,g2,g3⟩:=kC hej
    rw [hi] at g1
    cases g1
    rw [htd] at g2
    simp only [TD.elem,Option.some.injEq] at g2
    subst g2
    obtain ⟨cs,rfl,hv⟩:=Ll (A:=A) (K:=fun cs=>cs=(yJ (yE j.cells) i.zero (ps.toList.map fun p=>(p.1,ev S p.2))).2) hS hw ho (hΓ t i hi) htd (hΓ _ j g3) (Qs h rfl)
    exact hv
   ·exact h.elim
  ·exact h.elim
 |false =>
  rw [hb] at h
  simp only at h ⊢
  cases hi:Γ t with
  |none=>rw [hi] at h;exact h.elim
  |some i =>
   rw [hi] at h
   simp only [R3] at h ⊢
   split at h
   ·rename_i fs htd
    try rw [htd]
    obtain ⟨cs,rfl,hv⟩:=QfE (A:=A) (K:=fun cs=>cs=(yJ (Wt fs) i.zero (ps.toList.map fun p=>(p.1,ev S p.2))).2) hS hw ho (hΓ t i hi) htd (Qs h rfl)
    exact hv
   ·exact h.elim
theorem RS (hΓ:ww P Γ) (hS:Wf S) (hw:Want ops o S) {t:TypeId} {x ix:Operand} (ho:o.op=.index t x ix) (h:(V3 S (zA Γ (Γ t)) (Γ t) (ev S ix) (ev S x)).1) :
  VE A P ops o (V3 S (zA Γ (Γ t)) (Γ t) (ev S ix) (ev S x)).2 S:=by
 unfold V3 at h ⊢
 split at h
 ·rename_i e j i hej hi'
  try rw [hej,hi']
  try simp only
  split at h
  ·rename_i m e' htd
   try rw [htd]
   try simp only
   split at h
   ·rename_i cs k n hx hn
    try rw [hx,hn]
    try simp only
    obtain ⟨h1,h2,h3⟩:=h
    obtain ⟨i2,g1,g2,g3⟩:=kC hej
    rw [hi'] at g1
    cases g1
    rw [htd] at g2
    simp only [TD.elem,Option.some.injEq] at g2
    subst g2
    exact Qf5 hS hw ho (hΓ t i hi') htd (hΓ _ j g3) hx hn h1 h2 h3
   ·exact h.elim
  ·exact h.elim
 ·exact h.elim
theorem Lr (hΓ:ww P Γ) (hS:Wf S) (hw:Want ops o S) {t:TypeId} {x:Operand} {f:Nat} (ho:o.op=.field t x f) (h:(La Γ S (Γ t) f (ev S x)).1) :
  VE A P ops o (La Γ S (Γ t) f (ev S x)).2 S:=by
 unfold La at h ⊢
 cases hi:Γ t with
 |none=>rw [hi] at h;exact h.elim
 |some i =>
  rw [hi] at h
  simp only at h ⊢
  split at h
  ·rename_i fs htd
   try rw [htd]
   try simp only
   split at h
   ·rename_i p hf
    try rw [hf]
    try simp only
    split at h
    ·rename_i j hj
     try rw [hj]
     try simp only
     split at h
     ·rename_i cs hx
      try rw [hx]
      try simp only
      exact Qf4 hS hw ho (hΓ t i hi) htd hf (hΓ _ j hj) hx h
     ·exact h.elim
    ·exact h.elim
   ·exact h.elim
  ·exact h.elim
theorem UM (hΓ:ww P Γ) (hS:Wf S) (hw:Want ops o S) {t:TypeId} {x k:Operand} {c:Bool} (ho:o.op=.lookup t x k c) (h:(QaH S (Γ t) c (ev S k) (ev S x)).1) :
  VE A P ops o (QaH S (Γ t) c (ev S k) (ev S x)).2 S:=by
 unfold QaH at h ⊢
 cases hi:Γ t with
 |none=>rw [hi] at h;exact h.elim
 |some i =>
  rw [hi] at h
  simp only at h ⊢
  cases hq:i.key with
  |none=>rw [hq] at h;exact h.elim
  |some q =>
   rw [hq] at h
   simp only at h ⊢
   cases hx:ev S x <;> rw [hx] at h <;> first|exact h.elim|skip
   rename_i id
   simp only at h ⊢
   cases hk:(ev S k).toV with
   |none=>rw [hk] at h;exact h.elim
   |some kv =>
    rw [hk] at h
    simp only at h ⊢
    split at h
    ·rename_i es hm
     simp only [hm] at h ⊢
     obtain ⟨h1,h2,h3⟩:=h
     obtain ⟨kt,e,e1,e2,e3⟩:=(hΓ t i hi).key q hq
     exact QeN hS hw ho (hΓ t i hi) e1 e2 e3 hx hm h1 hk h2 h3
    ·exact h.elim
theorem Qbs (hΓ:ww P Γ) (hS:Wf S) (hw:Want ops o S) {t:TypeId} {x k v:Operand} (ho:o.op=.mapUpdate t x k v) (h:(Qf7 S (Γ t) (ev S k) (ev S v) (ev S x)).1) :
  VE A P ops o (Qf7 S (Γ t) (ev S k) (ev S v) (ev S x)).2 S:=by
 unfold Qf7 at h ⊢
 cases hi:Γ t with
 |none=>rw [hi] at h;exact h.elim
 |some i =>
  rw [hi] at h
  simp only at h ⊢
  cases hq:i.key with
  |none=>rw [hq] at h;exact h.elim
  |some q =>
   rw [hq] at h
   simp only at h ⊢
   cases hx:ev S x <;> rw [hx] at h <;> first|exact h.elim|skip
   rename_i id
   simp only at h ⊢
   cases hk:(ev S k).toV with
   |none=>rw [hk] at h;exact h.elim
   |some kv =>
    rw [hk] at h
    simp only at h ⊢
    cases hv:(ev S v).toV with
    |none=>rw [hv] at h;exact h.elim
    |some u =>
     rw [hv] at h
     simp only at h ⊢
     split at h
     ·rename_i es hm
      simp only [hm] at h ⊢
      obtain ⟨h1,h2,h3⟩:=h
      obtain ⟨kt,e,e1,e2,e3⟩:=(hΓ t i hi).key q hq
      exact Uf hS hw ho (hΓ t i hi) e1 e2 hx hm h1 hk h2 hv h3
     ·exact h.elim
theorem QbG (hΓ:ww P Γ) (hS:Wf S) (hw:Want ops o S) {t:TypeId} {x k:Operand} (ho:o.op=.mapEntry t x k) (h:(Qhh S (Γ t) (ev S k) (ev S x)).1) :
  VE A P ops o (Qhh S (Γ t) (ev S k) (ev S x)).2 S:=by
 unfold Qhh at h ⊢
 cases hi:Γ t with
 |none=>rw [hi] at h;exact h.elim
 |some i =>
  rw [hi] at h
  simp only at h ⊢
  cases hq:i.key with
  |none=>rw [hq] at h;exact h.elim
  |some q =>
   rw [hq] at h
   simp only at h ⊢
   cases hx:ev S x <;> rw [hx] at h <;> first|exact h.elim|skip
   rename_i id
   simp only at h ⊢
   cases hk:(ev S k).toV with
   |none=>rw [hk] at h;exact h.elim
   |some kv =>
    rw [hk] at h
    simp only at h ⊢
    cases hv:q.z.toV with
    |none=>rw [hv] at h;exact h.elim
    |some u =>
     rw [hv] at h
     simp only at h ⊢
     split at h
     ·rename_i es hm
      simp only [hm] at h ⊢
      obtain ⟨h1,h2,h3,h4⟩:=h
      obtain ⟨kt,e,e1,e2,e3⟩:=(hΓ t i hi).key q hq
      exact Qar hS hw ho (hΓ t i hi) e1 e2 e3 hv hx hm h1 hk h2 h3 h4
     ·exact h.elim
theorem Qb9 (hS:Wf S) (hw:Want ops o S) {t:TypeId} {x s v:Operand} (ho:o.op=.entryStore t x s v) (h:(QgD S (ev S s) (ev S v) (ev S x)).1) :
  VE A P ops o (QgD S (ev S s) (ev S v) (ev S x)).2 S:=by
 unfold QgD at h ⊢
 cases hx:ev S x <;> rw [hx] at h <;> first|exact h.elim|skip
 rename_i id
 simp only at h ⊢
 cases hs:ev S s <;> rw [hs] at h <;> first|exact h.elim|skip
 rename_i sv
 cases sv <;> first|exact h.elim|skip
 simp only at h ⊢
 cases hv:(ev S v).toV with
 |none=>rw [hv] at h;exact h.elim
 |some u =>
  rw [hv] at h
  simp only at h ⊢
  split at h
  ·rename_i es hm
   simp only [hm] at h ⊢
   exact XG hS hw ho hx hm hs hv h.1 h.2
  ·exact h.elim
theorem Qez {Φ:Ctr} (hΓ:ww P Γ) (hΦ:Ctr.OK A P Φ) (hS:Wf S) (hw:Want ops o S) (h:(opE Γ Φ S o.op).1):VE A P ops o (opE Γ Φ S o.op).2 S:=by
 cases ho:o.op with
 |move x=>exact QdA hS hw (.inl ho)
 |assign x=>exact QdA hS hw (.inr ho)
 |load t x=>rw [ho] at h;exact LM hΓ hS hw ho h
 |fieldAddr t x f=>rw [ho] at h;exact RY hΓ hS hw ho h
 |indexAddr t x ix=>rw [ho] at h;exact Qb4 hΓ hS hw ho h
 |alloc t =>
  rw [ho] at h
  simp only [opE] at h ⊢
  cases hi:Γ t with
  |none=>rw [hi] at h;exact h.elim
  |some i=>exact Qgg hw ho (hΓ t i hi)
 |box t x=>rw [ho] at h;exact Qmc hS hw ho h
 |store t x v=>rw [ho] at h;exact Rl hΓ hS hw ho h
 |binOp op t x y c=>rw [ho] at h;exact Qa3 hΓ hw ho h
 |unOp u t x=>rw [ho] at h;exact QdK hw ho h
 |convert s t x=>rw [ho] at h;exact LA hΓ hw ho h
 |extract x ix=>rw [ho] at h;exact Qbi hS hw ho h
 |makeFunc f first caps =>
  rw [ho] at h
  cases f <;> first|exact h.elim|skip
  simp only [opE] at h ⊢
  cases hf1:first.toList with
  |nil =>
   simp only [List.map_nil,QhU]
   have e:first=#[]:=by apply Array.toList_inj.1;exact hf1
   subst e
   exact LG hS hw ho
  |cons x xs =>
   rw [hf1] at h
   cases hf2:caps.toList with
   |nil =>
    have e:caps=#[]:=by apply Array.toList_inj.1;exact hf2
    subst e
    simp only [List.map_cons,List.map_nil,QhU]
    have:=Qih (A:=A) (P:=P) hS hw ho
    rw [hf1] at this
    exact this
   |cons y ys=>rw [hf2] at h;exact h.elim
 |nilCheck x =>
  rw [ho] at h
  simp only [opE] at h ⊢
  refine UK hS hw ho ?_
  generalize ev S x=c at h
  cases c <;> simp only [ZC] at h <;> first|exact h.elim|skip
  ·exact .inr (.inl ⟨_,_,rfl⟩)
  ·exact .inl ⟨_,_,rfl⟩
  ·exact .inr (.inr ⟨_,_,_,_,rfl⟩)
 |build t ps=>rw [ho] at h;exact Uj hΓ hS hw ho h
 |buildSlice t n ps=>rw [ho] at h;exact Qfk hΓ hS hw ho h
 |slice t x lo hi mx=>rw [ho] at h;exact RX hΓ hS hw ho h
 |makeSlice t x y=>rw [ho] at h;exact QaF hΓ hS hw ho h
 |index t x ix=>rw [ho] at h;exact RS hΓ hS hw ho h
 |field t x f=>rw [ho] at h;exact Lr hΓ hS hw ho h
 |makeMap t r =>
  cases r with
  |none=>exact Qa9 hw ho
  |some _=>rw [ho] at h;exact h.elim
 |lookup t x k c=>rw [ho] at h;exact UM hΓ hS hw ho h
 |mapUpdate t x k v=>rw [ho] at h;exact Qbs hΓ hS hw ho h
 |call c=>rw [ho] at h;exact Qac hΓ hΦ hS hw ho h
 |mapEntry t x k=>rw [ho] at h;exact QbG hΓ hS hw ho h
 |entryStore t x s v=>rw [ho] at h;exact Qb9 hS hw ho h
 |_=>rw [ho] at h;exact h.elim
end sound
end Go.Sym
namespace Go.Sym
open Go
variable {A : Frm → Prop} {P : Program}
def St.lit (S:St) (d:Nat) (b:Bool):St:={ t:=upd S.t d (.v (.bool b)),h:=S.h,n:=S.n,j:=S.j,d:=S.d,m:=S.m }
def Jf:AV→Option Bool
 |.v (.bool b)=>some b
 |_=>none
theorem Xa {a:AV} {b:Bool} (h:Jf a=some b):a=.v (.bool b):=by
 unfold Jf at h
 split at h
 ·cases h;rfl
 ·cases h
theorem St.lit_eq {S:St} {d:Nat} {b:Bool} (h:S.t d=.v (.bool b)):S.lit d b=S:=by
 cases S
 simp only [St.lit,St.mk.injEq,and_true,true_and]
 funext i
 by_cases hi:i=d
 ·subst hi;rw [upd_same];exact h.symm
 ·rw [upd_ne _ _ _ _ hi]
def Zb:AV→Option (Option Bool)
 |.v (.bool b)=>some (some b)
 |.tup []=>some none
 |_=>none
theorem Qag {a:AV} {b:Bool} (h:Zb a=some (some b)):a=.v (.bool b):=by
 unfold Zb at h
 split at h
 ·cases h;rfl
 ·cases h
 ·cases h
theorem LC {a:AV} (h:Zb a=some none):a=.tup []:=by
 unfold Zb at h
 split at h
 ·cases h
 ·rfl
 ·cases h
def V9:Op→Option (Operand × Operand × Operand)
 |.pick c x y=>some (c,x,y)
 |_=>none
theorem LV {op:Op} {p:Operand × Operand × Operand} (h:V9 op=some p):op=.pick p.1 p.2.1 p.2.2:=by
 unfold V9 at h
 split at h
 ·cases h;rfl
 ·cases h
def QdM (Γ:Tys) (Φ:Ctr) (o:Oper) (rest:St→List Eff→Prop) (S:St) (es:List Eff):Prop :=
 match V9 o.op with
 |none=>(opE Γ Φ S o.op).1∧rest (S.app o.dst (opE Γ Φ S o.op).2) ((opE Γ Φ S o.op).2 :: es)
 |some p=>match Jf (ev S p.1) with
  |none=>False
  |some b=>if b=true then rest (S.app o.dst { av:=ev S p.2.1,n:=S.n }) ({ av:=ev S p.2.1,n:=S.n } :: es) else rest (S.app o.dst { av:=ev S p.2.2,n:=S.n }) ({ av:=ev S p.2.2,n:=S.n } :: es)
def Qdb (draw:Bool) (ops:Array Oper) (Q:St→Prop) (S:St) (es:List Eff):Prop:=match draw with
 |false=>Q S
 |true=>kw ops es.reverse=true∧Q S
theorem QbO {draw:Bool} {ops:Array Oper} {Q:St→Prop} {S:St} {es:List Eff} (h:Qdb draw ops Q S es):(draw=true→kw ops es.reverse=true)∧Q S:=by
 cases draw with
 |false=>exact ⟨fun h=>(by cases h),h⟩
 |true=>exact ⟨fun _=>h.1,h.2⟩
def Zq (Γ:Tys) (Φ:Ctr) (ops:Array Oper) (draw:Bool) (Q:St→Prop):List Oper→St→List Eff→Prop
 |[],S,es=>Qdb draw ops Q S es
 |o :: r,S,es=>match o.guard with
  |none=>QdM Γ Φ o (Zq Γ Φ ops draw Q r) S es
  |some g=>match (ops[g.1]?).bind (·.dst) with
   |none=>False
   |some d=>match Zb (S.t d) with
    |none=>False
    |some none=>Zq Γ Φ ops draw Q r (S.app o.dst { av:=.tup [],n:=S.n }) ({ av:=.tup [],n:=S.n } :: es)
    |some (some c)=>if c=g.2 then QdM Γ Φ o (Zq Γ Φ ops draw Q r) (S.lit d g.2) es else Zq Γ Φ ops draw Q r ((S.lit d (!g.2)).app o.dst { av:=.tup [],n:=S.n }) ({ av:=.tup [],n:=S.n } :: es)
theorem QbP {Γ:Tys} {Φ:Ctr} (hΓ:ww P Γ) (hΦ:Ctr.OK A P Φ) {ops:Array Oper} {o:Oper} {rest:St→List Eff→Prop} {S:St} {es:List Eff} (hS:Wf S) (hw:Want ops o S) (h:QdM Γ Φ o rest S es) :
  ∃ e,VE A P ops o e S∧rest (S.app o.dst e) (e :: es):=by
 unfold QdM at h
 split at h
 ·exact ⟨_,Qez hΓ hΦ hS hw h.1,h.2⟩
 ·rename_i p hp
  have hp:=LV hp
  split at h
  ·exact h.elim
  ·rename_i b hb
   have hv:=Qjs (A:=A) (P:=P) hS hw hp (Xa hb)
   split at h
   ·rename_i hbt;subst hbt;exact ⟨_,hv,h⟩
   ·rename_i hbt
    have:b=false:=by simpa using hbt
    subst this;exact ⟨_,hv,h⟩
theorem vW {Γ:Tys} {Φ:Ctr} (hΓ:ww P Γ) (hΦ:Ctr.OK A P Φ) {ops:Array Oper} {draw:Bool} {Q:St→Prop}:∀ (l:List Oper) (S:St) (es:List Eff),Wf S→Zq Γ Φ ops draw Q l S es →
  Run A P ops l S es fun S' es'=>(draw=true→kw ops es'.reverse=true)∧Q S'
 |[],S,es,_,h=>QbO h
 |o :: r,S,es,hS,h=>by
  have go:Want ops o S→QdM Γ Φ o (Zq Γ Φ ops draw Q r) S es→Run A P ops (o :: r) S es fun S' es'=>(draw=true→kw ops es'.reverse=true)∧Q S':=fun hw h=>by
   obtain ⟨e,hv,hr⟩:=QbP hΓ hΦ hS hw h
   exact ⟨e,hv,vW hΓ hΦ r _ _ (hS.app hv.ids) hr⟩
  simp only [Zq] at h
  split at h
  ·rename_i hg;exact go (.inl hg) h
  ·rename_i g hg
   split at h
   ·exact h.elim
   ·rename_i d hd
    split at h
    ·exact h.elim
    ·rename_i hc
     have hv:VE A P ops o { av:=.tup [],n:=S.n } S:=VE.skip ⟨g.1,g.2,d,hg,hd,.inr (LC hc)⟩
     exact ⟨_,hv,vW hΓ hΦ r _ _ (hS.app hv.ids) h⟩
    ·rename_i c hc
     have hc:=Qag hc
     split at h
     ·rename_i hcb
      subst hcb
      rw [St.lit_eq hc] at h
      exact go (.inr ⟨_,_,d,hg,hd,hc⟩) h
     ·rename_i hcb
      have hcn:(!g.2)=c:=by cases hg2:g.2 <;> cases hcc:c <;> simp_all
      rw [hcn,St.lit_eq hc] at h
      have hv:VE A P ops o { av:=.tup [],n:=S.n } S:=VE.skip ⟨g.1,g.2,d,hg,hd,.inl ⟨c,hc,fun e=>hcb e.symm⟩⟩
      exact ⟨_,hv,vW hΓ hΦ r _ _ (hS.app hv.ids) h⟩
theorem Wf.lit {S:St}:True:=trivial
structure Env (A:Frm→Prop) (P:Program) (Γ:Tys) (Φ:Ctr):Prop where
 tys:ww P Γ
 ctr:Ctr.OK A P Φ
 mixed:P.follows .mixedOrders=true
theorem Qc6 {Γ:Tys} {Φ:Ctr} (hE:Env A P Γ Φ) {id:Nat} {ops:Array Oper} {draw:Bool} {S:St} {K:Exit→St→Prop} (h:∀ Q:St→Prop,(∀ S',K .normal S'→Q S')→Zq Γ Φ ops draw Q ops.toList S []):Sym A P (.region id ops draw) S K:=fun F hF hd a w hg=>by
 have hr:=vW (A:=A) (P:=P) hE.tys hE.ctr ops.toList S [] hg.wf (h (fun S'=>K .normal S') fun _ h=>h)
 cases draw with
 |false=>exact Y9 (Qf (fun _ _ h=>h.2) _ _ _ hr) F hF hd a w hg
 |true=>exact Yv hE.mixed (Qf (fun _ _ h=>⟨h.1 rfl,h.2⟩) _ _ _ hr) F hF hd a w hg
def leT (S:St) (hf:Nat→Option AObj) (σ:Nat→Option Nat):List (Nat × AV)→Prop
 |[]=>True
 |p :: r=>AV.le hf σ (S.t p.1) p.2∧leT S hf σ r
def leO (hf:Nat→Option AObj) (σ:Nat→Option Nat) (o:Option AObj) (o':AObj):Prop:=match o with
 |some o=>AObj.le hf σ o o'
 |none=>False
def leH (S:St) (hf:Nat→Option AObj) (σ:Nat→Option Nat):List (Nat × AObj)→Prop
 |[]=>True
 |p :: r=>(match σ p.1 with|some i=>leO hf σ (S.h i) p.2|none=>match p.2 with|.row _ k xs=>xs=[]∧0 < k|_=>False)∧leH S hf σ r
def WV (n:Nat):List (Nat × AV)→Prop
 |[]=>True
 |p :: r=>(∀ id ∈ p.2.ids,id < n)∧WV n r
def xJ (n:Nat):List (Nat × AObj)→Prop
 |[]=>True
 |p :: r=>p.1 < n∧(∀ id ∈ p.2.ids,id < n)∧xJ n r
def Jw (σ:Nat→Option Nat) (H:List (Nat × AObj)):List Nat:=H.filterMap fun p=>σ p.1
structure LeOK (S:St) (L:List (Nat × AV)) (H:List (Nat × AObj)) (n:Nat) (d:List ADf) (σ:Nat→Option Nat) (fz:List Nat):Prop where
 t:leT S (fun i=>if i ∈ fz then S.h i else none) σ L
 h:leH S (fun i=>if i ∈ fz then S.h i else none) σ H
 df:ADf.leL (fun i=>if i ∈ fz then S.h i else none) σ S.d d
 img:(Jw σ H).Nodup
 keys:(H.map (·.1)).Nodup
 frz:∀ i ∈ fz,i ∉ Jw σ H
 pin:∀ i,i < S.m→σ i=some i
 idt:WV n L
 idh:xJ n H
 idd:∀ id ∈ d.flatMap ADf.ids,id < n
 m:S.m≤n
theorem Qdm {S:St} {hf:Nat→Option AObj} {σ:Nat→Option Nat}:∀ {L:List (Nat × AV)},leT S hf σ L→∀ p ∈ L,AV.le hf σ (S.t p.1) p.2
 |q :: r,h,p,hp=>by
  rcases List.mem_cons.1 hp with rfl|hp
  ·exact h.1
  ·exact Qdm h.2 p hp
theorem YP {S:St} {hf:Nat→Option AObj} {σ:Nat→Option Nat}:∀ {H:List (Nat × AObj)},leH S hf σ H→∀ p ∈ H,(∃ i o,σ p.1=some i∧S.h i=some o∧AObj.le hf σ o p.2)∨(σ p.1=none∧∃ e k,p.2=.row e k []∧0 < k)
 |q :: r,h,p,hp=>by
  rcases List.mem_cons.1 hp with rfl|hp
  ·have h1:=h.1
   split at h1
   ·rename_i i hi
    unfold leO at h1
    split at h1
    ·rename_i o ho;exact .inl ⟨i,o,hi,ho,h1⟩
    ·exact h1.elim
   ·rename_i hi
    split at h1
    ·rename_i e k xs hx;obtain ⟨rfl,hk⟩:=h1;exact .inr ⟨hi,e,k,hx,hk⟩
    ·exact h1.elim
  ·exact YP h.2 p hp
theorem Vf {n:Nat}:∀ {L:List (Nat × AV)},WV n L→∀ p ∈ L,∀ id ∈ p.2.ids,id < n
 |q :: r,h,p,hp=>by
  rcases List.mem_cons.1 hp with rfl|hp
  ·exact h.1
  ·exact Vf h.2 p hp
theorem Ja {n:Nat}:∀ {H:List (Nat × AObj)},xJ n H→∀ p ∈ H,p.1 < n∧∀ id ∈ p.2.ids,id < n
 |q :: r,h,p,hp=>by
  rcases List.mem_cons.1 hp with rfl|hp
  ·exact ⟨h.1,h.2.1⟩
  ·exact Ja h.2.2 p hp
theorem Jn {σ:Nat→Option Nat}:∀ {H:List (Nat × AObj)},(Jw σ H).Nodup→∀ p ∈ H,∀ q ∈ H,∀ i,σ p.1=some i→σ q.1=some i→p=q∨p.1=q.1∨False
 |[],_,p,hp,_,_,_,_,_=>by simp at hp
 |r :: H,hn,p,hp,q,hq,i,h1,h2=>by
  have mem:∀ x ∈ H,σ x.1=some i→i ∈ Jw σ H:=fun x hx hs=>List.mem_filterMap.2 ⟨x,hx,hs⟩
  have hn':(Jw σ H).Nodup:=by
   simp only [Jw,List.filterMap_cons] at hn ⊢
   split at hn
   ·exact hn
   ·exact (List.nodup_cons.1 hn).2
  have hni:∀ j,σ r.1=some j→j ∉ Jw σ H:=fun j hj=>by
   simp only [Jw,List.filterMap_cons,hj] at hn
   exact (List.nodup_cons.1 hn).1
  rcases List.mem_cons.1 hp with e1|hp'
  ·rcases List.mem_cons.1 hq with e2|hq'
   ·exact .inl (e1.trans e2.symm)
   ·exact absurd (mem q hq' h2) (hni i (e1 ▸ h1))
  ·rcases List.mem_cons.1 hq with e2|hq'
   ·exact absurd (mem p hp' h1) (hni i (e2 ▸ h2))
   ·exact Jn hn' p hp' q hq' i h1 h2
theorem Le.ok {S:St} {L:List (Nat × AV)} {H:List (Nat × AObj)} {n:Nat} {d:List ADf} (σ:Nat→Option Nat) (fz:List Nat) (h:LeOK S L H n d σ fz):Le S { t:=asg L,h:=qc H,n,j:=S.j,d,m:=S.m }:=by
 refine Le.of σ (fun i=>if i ∈ fz then S.h i else none) (Qdm h.t) (YP h.h) h.df (fun p hp q hq i h1 h2=>?_) (fun i o hi=>?_) h.pin (Vf h.idt) (Ja h.idh) h.idd h.m
 ·rcases Jn h.img p hp q hq i h1 h2 with rfl|h|h
  ·rfl
  ·exact h
  ·exact h.elim
 ·by_cases hm:i ∈ fz
  ·rw [if_pos hm] at hi
   exact ⟨hi,fun p hp hs=>h.frz i hm (List.mem_filterMap.2 ⟨p,hp,hs⟩)⟩
  ·rw [if_neg hm] at hi;cases hi
def noB:Ctx→Prop:=fun _=>True
def noH:Nat→Option AObj:=fun _=>none
def FnV (P:Program) (f:FuncId) (az:List AV) (v:AV):Prop:=Fn noB P f az noH v noH 0
mutual
def AV.view (h:Nat→Option AObj):AV→AV
 |.v x=>.v x
 |.nil=>.sl []
 |.emp=>.sl []
 |.sl xs=>.sl xs
 |.agg cs=>.agg (AV.viewL h cs)
 |.tup cs=>.tup (AV.viewL h cs)
 |.ep cs o=>.ep cs o
 |.ptr i o=>.ptr i o
 |.row i=>match h i with
  |some (.row _ _ xs)=>.sl xs
  |_=>.junk
 |.rp i k m o=>.rp i k m o
 |.csl i n=>.csl i n
 |.psl i o n c=>.psl i o n c
 |.rsl i k l n=>.rsl i k l n
 |.mp i=>.mp i
 |.clo f cs=>.clo f (AV.viewL h cs)
 |.cb=>.cb
 |.junk=>.junk
 |.any=>.any
 |.bnd f cs=>.bnd f (AV.viewL h cs)
def AV.viewL (h:Nat→Option AObj):List AV→List AV
 |[]=>[]
 |c :: cs=>c.view h :: AV.viewL h cs
end
mutual
def AV.rows:AV→List Nat
 |.v _=>[]
 |.nil=>[]
 |.emp=>[]
 |.sl _=>[]
 |.agg cs=>AV.rowsL cs
 |.tup cs=>AV.rowsL cs
 |.ep _ _=>[]
 |.ptr _ _=>[]
 |.row i=>[i]
 |.rp _ _ _ _=>[]
 |.csl _ _=>[]
 |.psl _ _ _ _=>[]
 |.rsl _ _ _ _=>[]
 |.mp _=>[]
 |.clo _ cs=>AV.rowsL cs
 |.cb=>[]
 |.junk=>[]
 |.any=>[]
 |.bnd _ cs=>AV.rowsL cs
def AV.rowsL:List AV→List Nat
 |[]=>[]
 |c :: cs=>c.rows++AV.rowsL cs
end
mutual
def AV.plain:AV→Prop
 |.v _=>True
 |.nil=>False
 |.emp=>False
 |.sl _=>True
 |.agg cs=>AV.plainL cs
 |.tup cs=>AV.plainL cs
 |.ep _ _=>True
 |.ptr _ _=>False
 |.row _=>False
 |.rp _ _ _ _=>False
 |.csl _ _=>False
 |.psl _ _ _ _=>False
 |.rsl _ _ _ _=>False
 |.mp _=>False
 |.clo _ cs=>AV.plainL cs
 |.cb=>True
 |.junk=>False
 |.any=>False
 |.bnd _ cs=>AV.plainL cs
def AV.plainL:List AV→Prop
 |[]=>True
 |c :: cs=>c.plain∧AV.plainL cs
end
theorem AV.plain_row (h:Nat→Option AObj) (i:Nat) (hp:(AV.view h (.row i)).plain):∃ e k xs,h i=some (.row e k xs)∧AV.view h (.row i)=.sl xs:=by
 simp only [AV.view] at hp
 split at hp
 ·rename_i e k xs hi;exact ⟨e,k,xs,hi,by simp only [AV.view,hi]⟩
 ·exact hp.elim
theorem AV.view_row (h hf:Nat→Option AObj) (σ:Nat→Option Nat) (i:Nat) (hp:(AV.view h (.row i)).plain) (hr:hf i=h i):AV.le hf σ (.row i) (AV.view h (.row i)):=by
 obtain ⟨e,k,xs,hi,hv⟩:=AV.plain_row h i hp
 rw [hv]
 simp only [AV.le]
 exact ⟨e,k,hr.trans hi⟩
mutual
theorem AV.view_le (h hf:Nat→Option AObj) (σ:Nat→Option Nat):∀ c:AV,(c.view h).plain→(∀ i ∈ c.rows,hf i=h i)→AV.le hf σ c (c.view h)
 |.v _,_,_=>by simp [AV.view,AV.le]
 |.nil,_,_=>by simp [AV.view,AV.le]
 |.emp,_,_=>by simp [AV.view,AV.le]
 |.sl _,_,_=>by simp [AV.view,AV.le]
 |.agg cs,hp,hr=>by simp only [AV.view,AV.plain,AV.rows,AV.le] at hp hr ⊢;exact AV.viewL_le h hf σ cs hp hr
 |.tup cs,hp,hr=>by simp only [AV.view,AV.plain,AV.rows,AV.le] at hp hr ⊢;exact AV.viewL_le h hf σ cs hp hr
 |.ep _ _,_,_=>by simp [AV.view,AV.le]
 |.ptr _ _,hp,_=>by simp [AV.view,AV.plain] at hp
 |.row i,hp,hr=>AV.view_row h hf σ i hp (hr i (by simp [AV.rows]))
 |.rp _ _ _ _,hp,_=>by simp [AV.view,AV.plain] at hp
 |.csl _ _,hp,_=>by simp [AV.view,AV.plain] at hp
 |.psl _ _ _ _,hp,_=>by simp [AV.view,AV.plain] at hp
 |.rsl _ _ _ _,hp,_=>by simp [AV.view,AV.plain] at hp
 |.mp _,hp,_=>by simp [AV.view,AV.plain] at hp
 |.clo f cs,hp,hr=>by simp only [AV.view,AV.plain,AV.rows,AV.le] at hp hr ⊢;exact ⟨trivial,AV.viewL_le h hf σ cs hp hr⟩
 |.cb,_,_=>by simp [AV.view,AV.le]
 |.junk,hp,_=>by simp [AV.view,AV.plain] at hp
 |.any,hp,_=>by simp [AV.view,AV.plain] at hp
 |.bnd f cs,hp,hr=>by simp only [AV.view,AV.plain,AV.rows,AV.le] at hp hr ⊢;exact ⟨trivial,AV.viewL_le h hf σ cs hp hr⟩
theorem AV.viewL_le (h hf:Nat→Option AObj) (σ:Nat→Option Nat):∀ cs:List AV,AV.plainL (AV.viewL h cs)→(∀ i ∈ AV.rowsL cs,hf i=h i)→AV.leL hf σ cs (AV.viewL h cs)
 |[],_,_=>trivial
 |c :: cs,hp,hr=>by
  simp only [AV.viewL,AV.plainL,AV.rowsL,List.mem_append] at hp hr ⊢
  exact ⟨AV.view_le h hf σ c hp.1 fun i hi=>hr i (.inl hi),AV.viewL_le h hf σ cs hp.2 fun i hi=>hr i (.inr hi)⟩
end
mutual
theorem AV.plain_rows (h:Nat→Option AObj):∀ c:AV,(c.view h).plain→∀ i ∈ c.rows,∃ e k xs,h i=some (.row e k xs)
 |.agg cs,hp=>by simp only [AV.view,AV.plain,AV.rows] at hp ⊢;exact AV.plainL_rows h cs hp
 |.tup cs,hp=>by simp only [AV.view,AV.plain,AV.rows] at hp ⊢;exact AV.plainL_rows h cs hp
 |.row i,hp=>by
  intro j hj
  simp only [AV.rows,List.mem_singleton] at hj
  subst hj
  obtain ⟨e,k,xs,hi,_⟩:=AV.plain_row h j hp
  exact ⟨e,k,xs,hi⟩
 |.clo f cs,hp=>by simp only [AV.view,AV.plain,AV.rows] at hp ⊢;exact AV.plainL_rows h cs hp
 |.v _,_=>by simp [AV.rows]
 |.nil,_=>by simp [AV.rows]
 |.emp,_=>by simp [AV.rows]
 |.sl _,_=>by simp [AV.rows]
 |.ep _ _,_=>by simp [AV.rows]
 |.ptr _ _,_=>by simp [AV.rows]
 |.rp _ _ _ _,_=>by simp [AV.rows]
 |.csl _ _,_=>by simp [AV.rows]
 |.psl _ _ _ _,_=>by simp [AV.rows]
 |.rsl _ _ _ _,_=>by simp [AV.rows]
 |.mp _,_=>by simp [AV.rows]
 |.cb,_=>by simp [AV.rows]
 |.junk,_=>by simp [AV.rows]
 |.any,_=>by simp [AV.rows]
 |.bnd f cs,hp=>by simp only [AV.view,AV.plain,AV.rows] at hp ⊢;exact AV.plainL_rows h cs hp
theorem AV.plainL_rows (h:Nat→Option AObj):∀ cs:List AV,AV.plainL (AV.viewL h cs)→∀ i ∈ AV.rowsL cs,∃ e k xs,h i=some (.row e k xs)
 |[],_=>by simp [AV.rowsL]
 |c :: cs,hp=>by
  simp only [AV.viewL,AV.plainL] at hp
  intro i hi
  simp only [AV.rowsL,List.mem_append] at hi
  rcases hi with hi|hi
  ·exact AV.plain_rows h c hp.1 i hi
  ·exact AV.plainL_rows h cs hp.2 i hi
end
mutual
theorem AV.plain_ids:∀ c:AV,c.plain→c.ids=[]
 |.v _,_=>rfl
 |.nil,_=>rfl
 |.emp,_=>rfl
 |.sl _,_=>rfl
 |.agg cs,h=>by simp only [AV.plain,AV.ids] at h ⊢;exact AV.plainL_ids cs h
 |.tup cs,h=>by simp only [AV.plain,AV.ids] at h ⊢;exact AV.plainL_ids cs h
 |.ep _ _,_=>rfl
 |.ptr _ _,h=>h.elim
 |.row _,h=>h.elim
 |.rp _ _ _ _,h=>h.elim
 |.csl _ _,h=>h.elim
 |.psl _ _ _ _,h=>h.elim
 |.rsl _ _ _ _,h=>h.elim
 |.mp _,h=>h.elim
 |.clo _ cs,h=>by simp only [AV.plain,AV.ids] at h ⊢;exact AV.plainL_ids cs h
 |.cb,_=>rfl
 |.junk,_=>rfl
 |.any,h=>h.elim
 |.bnd _ cs,h=>by simp only [AV.plain,AV.ids] at h ⊢;exact AV.plainL_ids cs h
theorem AV.plainL_ids:∀ cs:List AV,AV.plainL cs→AV.idsL cs=[]
 |[],_=>rfl
 |c :: cs,h=>by simp only [AV.plainL,AV.idsL] at h ⊢;rw [AV.plain_ids c h.1,AV.plainL_ids cs h.2];rfl
end
mutual
theorem AV.plain_ren (τ:Nat→Nat):∀ c:AV,c.plain→c.ren τ=c
 |.v _,_=>rfl
 |.nil,_=>rfl
 |.emp,_=>rfl
 |.sl _,_=>rfl
 |.agg cs,h=>by simp only [AV.plain,AV.ren] at h ⊢;rw [AV.plainL_ren τ cs h]
 |.tup cs,h=>by simp only [AV.plain,AV.ren] at h ⊢;rw [AV.plainL_ren τ cs h]
 |.ep _ _,_=>rfl
 |.ptr _ _,h=>h.elim
 |.row _,h=>h.elim
 |.rp _ _ _ _,h=>h.elim
 |.csl _ _,h=>h.elim
 |.psl _ _ _ _,h=>h.elim
 |.rsl _ _ _ _,h=>h.elim
 |.mp _,h=>h.elim
 |.clo f cs,h=>by simp only [AV.plain,AV.ren] at h ⊢;rw [AV.plainL_ren τ cs h]
 |.cb,_=>rfl
 |.junk,_=>rfl
 |.any,h=>h.elim
 |.bnd f cs,h=>by simp only [AV.plain,AV.ren] at h ⊢;rw [AV.plainL_ren τ cs h]
theorem AV.plainL_ren (τ:Nat→Nat):∀ cs:List AV,AV.plainL cs→AV.renL τ cs=cs
 |[],_=>rfl
 |c :: cs,h=>by simp only [AV.plainL,AV.renL] at h ⊢;rw [AV.plain_ren τ c h.1,AV.plainL_ren τ cs h.2]
end
def qG (fl:Bool) (spec:List AV→Prop × AV) (S:St) (bs:List AV):Ans :=
 (AV.plainL (AV.viewL S.h bs)∧(spec (AV.viewL S.h bs)).1,{ av:=(spec (AV.viewL S.h bs)).2,hw:=bif fl then [] else q9 (AV.rowsL bs),hr:=AV.rowsL bs,n:=S.n })
theorem QbI {f:FuncId} {fl:Bool} {spec:List AV→Prop × AV} (hf:∀ az,AV.plainL az→(spec az).1→(spec az).2.plain∧(fl=true→(spec az).2.flat)∧FnV P f az (spec az).2)
  {S:St} {bs:List AV} (h:(qG fl spec S bs).1) (hS:Wf S) {ops:Array Oper} {o:Oper} {g:Operand} {args:Array Operand} {tys:Array TypeId} {caps:List AV} (hw:Want ops o S)
  (ho:o.op=.call { callee:=.value g,args:=args,argTypes:=tys }) (hg:zO (ev S g)=some (some f,caps)) (hb:Zg (ev S g)++(args.toList.map (ev S)++caps)=bs):VE A P ops o (qG fl spec S bs).2 S:=by
 obtain ⟨hp,hs⟩:=h
 obtain ⟨hvp,hfl,hfn⟩:=hf _ hp hs
 have hg':=QN hg
 have hrows:=AV.plainL_rows S.h bs hp
 have hids:=AV.plain_ids _ hvp
 have:=Us (A:=A) (hs:=[]) (bo:=AV.rowsL bs) (dr:=bif fl then [] else AV.rowsL bs) (hf:=fun i=>if i ∈ AV.rowsL bs then S.h i else none) (nn:=0) hS hw ho hg' hfn (fun h=>absurd rfl h) (fun _ _ _ _ _ _ _ _ _ _=>trivial)
  (by rw [hb];exact AV.viewL_le S.h _ _ bs hp fun i hi=>by simp [hi]) (fun i o0 hi=>by cases hi) (fun j hj=>by simp at hj) List.nodup_nil
  (fun i ob hi=>by
   by_cases hm:i ∈ AV.rowsL bs
   ·rw [if_pos hm] at hi;exact ⟨hi,by simp,hm⟩
   ·rw [if_neg hm] at hi;cases hi) (fun i hi=>by obtain ⟨e,k,xs,h⟩:=hrows i hi;exact ⟨⟨_,h⟩,by simp⟩)
  (by
   cases fl with
   |true=>exact .inr ⟨rfl,hfl rfl,fun i ob hi=>by cases hi⟩
   |false=>exact .inl rfl)
  (by rw [hids];simp) (fun i ob hi=>by cases hi)
 have e:za S [] (AV.rowsL bs) (bif fl then [] else AV.rowsL bs) (spec (AV.viewL S.h bs)).2 noH 0 0=(qG fl spec S bs).2:=by
  simp only [za,qG,AV.plain_ren _ _ hvp]
  cases fl <;> simp [q9]
 rw [e] at this
 exact this
end Go.Sym
namespace Go.Sym
open Go
theorem wZ {P : Program} {d : Nat} {w : World} {xs ys : Array Value} {f : Field} {fs : List Field} {r r' : Bool} {a b : Value} (hn : f.name ≠ "_") (ha : (part f.type xs f.offset).run P w = .ok a w) (hb : (part f.type ys f.offset).run P w = .ok b w)
  (he:(Op.equalIn d f.type a b).run P w=.ok r w) (hr:(Op.eqFields d xs ys fs).run P w=.ok r' w):(Op.eqFields d xs ys (f :: fs)).run P w=.ok (r && r') w:=by
 simp only [Op.eqFields,if_pos hn,Sem.run_bind,ha,hb,Result.andThen_ok,he]
 cases r
 ·simp
 ·simpa using hr
theorem yN {P:Program} {d:Nat} {w:World} {xs ys:Array Value}:(Op.eqFields d xs ys []).run P w=.ok true w:=by simp [Op.eqFields]
theorem zh {P:Program} {t:TypeId} {xs:Array Value} {off:Nat} {v:Value} {w:World} (ht:∀ w,(isAgg t).run P w=.ok false w) (h:xs[off]?=some v):(part t xs off).run P w=.ok v w:=by
 simp [part,ht,h]
theorem xQ {P:Program} {t:TypeId} {xs cs:Array Value} {off n:Nat} {w:World} (ht:∀ w,(isAgg t).run P w=.ok true w) (hs:∀ w,(sizeOf t).run P w=.ok n w) (h:xs.extract off (off+n)=cs):(part t xs off).run P w=.ok (.agg cs) w:=by
 simp [part,ht,hs,h]
theorem Fin.val {S:St} {rv v:AV} (hj:S.j=0) (h:AV.le S.h some rv v):Fin S rv v 0 noH 0:=by
 refine ⟨some,S.h,h,fun i o hi=>?_,fun i o k o' c hi=>?_,fun i o hi=>⟨hi,fun j o1 hj=>?_⟩,fun i hi=>?_,hj⟩
 ·cases hi
 ·cases hi
 ·cases hj
 ·omega
theorem ite_and {p:Prop} [Decidable p] {A B:Prop}:(if p then A else B)=((p→A)∧(¬ p→B)):=by
 by_cases h:p <;> simp [h]
section
variable {A : Frm → Prop} {P : Program} {N : St → Prop} {K : Exit → St → Prop} {S : St} {id id' : Nat}
theorem wQ {c:Operand} {x y:Code} {b:Bool} (hc:Jf (ev S c)=some b) (h1:b=true→Sym A P x S K) (h2:b=false→Sym A P y S K):Sym A P (.cond c x y) S K:=Qgs (Xa hc) h1 h2
theorem RI (h:N S):Qn N K .normal S:=h
theorem Ul (h:K (.exit id) S):Qn N K (.exit id) S:=h
theorem UC (h:K .ret S):Qn N K .ret S:=h
theorem VY (h:K .normal S):yZ id K .normal S:=h
theorem Y0 (h:K .ret S):yZ id K .ret S:=h
theorem Ws (h:K .normal S):yZ id K (.exit id) S:=by simp only [yZ,if_true];exact h
theorem Yj (hn:id' ≠ id) (h:K (.exit id') S):yZ id K (.exit id') S:=by simp only [yZ,if_neg hn];exact h
end
theorem yL {α β:Type} (f:α→β) (l:List α) (n:Nat) (d:α):(l.map f).getD n (f d)=f (l.getD n d):=by simp [List.getD_eq_getElem?_getD,List.getElem?_map]
theorem wrap64 {n:Int} (h:-9223372036854775808≤n) (h':n < 9223372036854775808):IntKind.wrap .i64 n=n:=by
 unfold IntKind.wrap
 simp only [IntKind.bits,IntKind.signed]
 simp
 split <;> omega
theorem Qe8:maxLen < 9223372036854775808:=by decide
theorem QdF {k n:Nat} (h:k < n) (hn:n≤maxLen):IntKind.wrap .i64 ((k:Int)+1)=((k+1:Nat):Int):=by
 have:=Qe8
 rw [wrap64 (by omega) (by omega)];rfl
abbrev Entry:=St→List AV→Ans
def qm (A:Frm→Prop) (P:Program) (f:FuncId) (e:Entry):Prop:=∀ S bs,(e S bs).1→Wf S→∀ ops o g args tys caps,Want ops o S→o.op=.call { callee:=.value g,args:=args,argTypes:=tys }→zO (ev S g)=some (some f,caps)→Zg (ev S g)++(args.toList.map (ev S)++caps)=bs→VE A P ops o (e S bs).2 S
def QdR (S:St) (f:FuncId) (bs:List AV):List (FuncId × Entry)→Ans
 |[]=>bad
 |p :: r=>if f=p.1 then p.2 S bs else QdR S f bs r
def tab (L:List (FuncId × Entry)):Ctr:=fun S f bs=>match f with
 |some f=>QdR S f bs L
 |none=>bad
def Qdc (A:Frm→Prop) (P:Program):List (FuncId × Entry)→Prop
 |[]=>True
 |p :: r=>qm A P p.1 p.2∧Qdc A P r
theorem Qib {A:Frm→Prop} {P:Program} {L:List (FuncId × Entry)} (h:Qdc A P L):Ctr.OK A P (tab L):=by
 intro S f bs hp hS ops o g args tys caps hw ho hg hb
 cases f with
 |none=>exact hp.elim
 |some f =>
  simp only [tab] at hp ⊢
  induction L with
  |nil=>exact hp.elim
  |cons p r ih =>
   simp only [QdR] at hp ⊢
   by_cases hf:f=p.1
   ·rw [if_pos hf] at hp ⊢;subst hf;exact h.1 S bs hp hS ops o g args tys caps hw ho hg hb
   ·rw [if_neg hf] at hp ⊢;exact ih h.2 hp
theorem qH {A:Frm→Prop} {P:Program} {f:FuncId} {fl:Bool} {spec:List AV→Prop × AV} (hf:∀ az,AV.plainL az→(spec az).1→(spec az).2.plain∧(fl=true→(spec az).2.flat)∧FnV P f az (spec az).2):qm A P f (qG fl spec) :=
 fun S bs h hS ops o g args tys caps hw ho hg hb=>QbI hf h hS hw ho hg hb
end Go.Sym
namespace Go.Sym
open Go
variable {A : Frm → Prop} {P : Program}
def ZT (P:Program) (y:Value) (vs:Array Value) (w:World) (R:Ending→World→Prop):Prop :=
 ∃ l fr tmps asg body,y=.func (.yield l) #[] #[]∧(Instr.yield l vs).run P w=.ok (.round l fr tmps asg body) w∧RoundIn (W none) 0 P l fr tmps asg body w R
theorem ZT.mono {y:Value} {vs:Array Value} {w:World} {R R':Ending→World→Prop} (h:ZT P y vs w R) (hr:∀ e w',R e w'→R' e w'):ZT P y vs w R':=by
 obtain ⟨l,fr,tmps,asg,body,e1,e2,e3⟩:=h
 exact ⟨l,fr,tmps,asg,body,e1,e2,RoundIn.mono e3 hr⟩
def Bcc (P:Program) (hp h0:Nat→Option AObj) (ys:Nat→List AV) (hl:Nat→Nat→Option AObj) (ans:Nat→Bool) (R:Nat) (c:Ctx):Prop :=
 ∀ j,j < R→∀ (Pr:Nat→Prop) (own:Own) (w:World) (ρ:Nat→Value) (vs:Array Value),Hp (Jc c.J j Pr w) c.y (hl j) 0 own w ρ→(∀ i o,hp i=some o→ρ i=c.ρ i) →
  Ext (fun b=>c.own.prv b∨∃ i o,h0 i=some o∧blk (c.ρ i)=some b) c.w w →
  (∀ i o b,hl j i=some o→blk (ρ i)=some b→c.w.heap.size≤b∨∃ k o',h0 k=some o'∧blk (c.ρ k)=some b) →
  (∀ b,own.prv b→c.own.prv b∨c.w.heap.size≤b∨∃ k o',h0 k=some o'∧blk (c.ρ k)=some b) →
  vs.size=(ys j).length→(∀ i a,(ys j)[i]?=some a→ARel w (okB w own ρ (hl j)) ρ c.y a (vs.getD i undef)) →
  ZT P c.y vs w fun e w'=>e=.returned (.bool (ans j))∧∃ own',Hp (Jc c.J j Pr w) c.y (hl j) 1 own' w' ρ∧Ext (fun b=>own.prv b∨∃ i o,hl j i=some o∧blk (ρ i)=some b) w w'∧∀ b,own'.prv b→own.prv b∨w.heap.size≤b
abbrev Bcb (P:Program) (h0:Nat→Option AObj):=Bcc P h0 h0
structure Rounds (ans:Nat→Bool) (R N:Nat):Prop where
 le:R≤N
 yes:∀ j,j+1 < R→ans j=true
 stop:R < N→0 < R∧ans (R - 1)=false
theorem Rounds.lt {ans:Nat→Bool} {R N k:Nat} (h:Rounds ans R N) (hk:k < N) (hy:∀ j,j < k→ans j=true):k < R:=by
 refine Classical.byContradiction fun hn=>?_
 have h1:R < N:=by omega
 obtain ⟨h2,h3⟩:=h.stop h1
 have:=hy (R - 1) (by omega)
 rw [h3] at this;cases this
theorem Rounds.last {ans:Nat→Bool} {R N k:Nat} (h:Rounds ans R N) (hk:k < R) (hn:ans k=false):k+1=R:=by
 refine Classical.byContradiction fun he=>?_
 have:=h.yes k (by omega)
 rw [hn] at this;cases this
theorem Rounds.all {ans:Nat→Bool} {R N k:Nat} (h:Rounds ans R N) (hk:N≤k) (hy:∀ j,j < k→ans j=true):R=N:=by
 refine Classical.byContradiction fun he=>?_
 have h1:R < N:=by have:=h.le;omega
 obtain ⟨h2,h3⟩:=h.stop h1
 have:=hy (R - 1) (by omega)
 rw [h3] at this;cases this
def Iter (P:Program) (f:FuncId) (az:List AV) (h0:Nat→Option AObj) (ys:Nat→List AV) (N:Nat) (hl:Nat→Nat→Option AObj) (v:Nat→(Nat→Bool)→AV):Prop :=
 ∀ ans R,Rounds ans R N→Fn (Bcb P h0 ys hl ans R) P f az h0 (v R ans) h0 R
def Acb (P:Program) (hp h0:Nat→Option AObj) (ys:Nat→List AV) (hl:Nat→Nat→Option AObj) (ans:Nat→Bool) (R:Nat) (F:Frm):Prop:=F.H0=h0∧(∀ i o,hp i=some o→∃ o',h0 i=some o')∧Bcc P hp h0 ys hl ans R ⟨F.y,F.J,F.own0,F.w0,F.ρ0⟩
theorem Jc.shift {J:JJ} {j k:Nat} {Pr:Nat→Prop} {w0:World} {own:Own} {w:World} (h:Jc J j Pr w0 k own w):Jc J (j+k) Pr w0 0 own w:=by
 obtain ⟨own',h1,h2,h3,h4⟩:=h
 exact ⟨own',by rw [Nat.add_zero];exact h1,h2,h3,h4⟩
theorem ve_cb {ops:Array Oper} {o:Oper} {S:St} (hS:Wf S) (hw:Want ops o S) {g:Operand} {args:Array Operand} {tys:Array TypeId} (ho:o.op=.call { callee:=.value g,args:=args,argTypes:=tys }) (hg:ev S g=.cb)
  {hp hp0:Nat→Option AObj} {ys:Nat→List AV} {hl:Nat→Nat→Option AObj} {ans:Nat→Bool} {R:Nat} (hA:∀ F,A F→Acb P hp hp0 ys hl ans R F) (hj:S.j < R)
  {hs bo:List Nat} {hf:Nat→Option AObj}
  (hpin:∀ i o,hp i=some o→hs[i]?=some i)
  (hargs:AV.leL hf (fun j=>hs[j]?) (args.toList.map (ev S)) (ys S.j))
  (hobj:∀ i o0,hl S.j i=some o0→∃ c ob,hs[i]?=some c∧S.h c=some ob∧AObj.le hf (fun j=>hs[j]?) ob o0)
  (hdom:∀ j,j < hs.length→∃ o0,hl S.j j=some o0) (hnd:hs.Nodup)
  (hfr:∀ i ob,hf i=some ob→S.h i=some ob∧i ∉ hs∧i ∈ bo) (hbo:∀ i ∈ bo,(∃ ob,S.h i=some ob)∧i ∉ hs)
  (hh1:∀ i ob,hl S.j i=some ob→i < hs.length+0∧∀ id ∈ ob.ids,id < hs.length+0) :
  VE A P ops o (za S hs bo bo (.v (.bool (ans S.j))) (hl S.j) 0 1) S:=by
 obtain ⟨hall,hslt,hI,hN⟩:=Vx (v:=.v (.bool (ans S.j))) (dj:=1) hS hargs hobj hdom hnd hfr hbo (.inl rfl) (by simp [AV.ids]) hh1
 refine ⟨fun F hF hds S2 a w hag hfr2 ⟨ρ,own,H⟩=>?_,hI,hN⟩
 rw [wy hw hag H,if_pos rfl]
 have hS2:∀ c,c ∈ hs∨c ∈ bo→S2.h c=S.h c:=fun c hc=>hag.2.1 c (by simpa [za] using hc)
 have hjj:S2.j=S.j:=hag.2.2 (by simp [za])
 have hgv:=qL H g
 rw [hag.ev (x:=g) (by simp [ho,Op.operands,Call.operands]),hg] at hgv
 generalize hgv':a.eval g=gv at hgv
 cases hgv with
 |cb e _ =>
  obtain ⟨hsz,hrel⟩:=JK ho hag H (caps:=[]) (cvs:=#[]) rfl (by simp)
  simp only [List.append_nil,Array.append_empty] at hsz hrel
  obtain ⟨c1,c2,c3,c4⟩:=Ye (v:=.v (.bool (ans S.j))) (dj:=1) hS hargs hobj hdom hnd hfr hbo (.inl rfl) (by simp [AV.ids]) hh1 H (fun _=>rfl) hS2 hfr2 hsz hrel (yQ hds)
  obtain ⟨hH0,hsub,hB⟩:=hA F hF
  have hrho:∀ i o,hp i=some o→qP hs ρ i=F.ρ0 i:=fun i o hi=>by
   obtain ⟨o',ho'⟩:=hsub i o hi
   simp only [qP,hpin i o hi]
   exact H.pins i o' (by rw [hH0];exact ho')
  have hown0:∀ b,F.owns0 b ↔ ∃ i o,hp0 i=some o∧blk (F.ρ0 i)=some b:=fun b=>by simp only [Frm.owns0,hH0]
  rw [hjj] at c1
  have hans:=hB S.j hj (vk S2 hs bo ρ) (kG own (vk S2 hs bo ρ)) w (qP hs ρ) (args.map a.eval) c1 hrho (H.ext.weaken fun b _ h=>h.imp id fun h=>(hown0 b).1 h)
   (fun i o b hi hb=>by
    obtain ⟨c,ob,e1,e2,_⟩:=hobj i o hi
    have:qP hs ρ i=ρ c:=by simp only [qP,e1]
    rw [this] at hb
    exact ((H.blkOK c ob b ((hS2 c (.inl (List.mem_of_getElem? e1))).trans e2) hb).2).imp id fun h=>(hown0 b).1 h)
   (fun b hb=>by
    rcases hb with hb|⟨i,ob,hi,_,_,hb⟩
    ·rcases H.ownsub b hb with h|h
     ·exact .inl h
     ·exact .inr (.inl h)
    ·rcases (H.blkOK i ob b hi hb).2 with h|h
     ·exact .inr (.inl h)
     ·exact .inr (.inr ((hown0 b).1 h))) c2 c3
  obtain ⟨l,fr,tmps,asg,body,ey,hy,hrd⟩:=hans
  simp only at ey
  have hexec:(execOp a.eval o).run P w=.ok (.round l fr tmps asg body) w:=by
   rw [e] at ey
   simp [execOp,ho,resolve,Deferred.ofValue,hgv',ey,invoke,hy]
  refine ⟨kg o a w F.r, ?_⟩
  rw [Oper.semAt_eq _ _ _ (by simp [ho]),hexec]
  simp only [Oper.uponIn]
  refine ⟨fun h=>by simp [W] at h, ?_⟩
  have hrd':RoundIn (W F.r) 0 P l fr tmps asg body w _:=show RoundIn (W none) 0 P l fr tmps asg body w _ from hrd
  refine RoundIn.mono hrd' ?_
  rintro e w' ⟨rfl,own',q1,q2,q3⟩
  obtain ⟨ρ',own'',HH⟩:=c4 (.bool (ans S.j)) w' own' (qP hs ρ) (by rw [hjj];exact q1) (.v rfl) q2 q3 (fun h=>by cases h) (fun _ _ _=>rfl) (fun i o b hi hb=>.inr ⟨i,o,hi,hb⟩)
  exact wH HH
end Go.Sym
namespace Go.Sym
open Go
variable {A : Frm → Prop} {P : Program}
mutual
def AV.nocb:AV→Prop
 |.v _=>True
 |.nil=>True
 |.emp=>True
 |.sl _=>True
 |.agg cs=>AV.nocbL cs
 |.tup cs=>AV.nocbL cs
 |.ep _ _=>True
 |.ptr _ _=>True
 |.row _=>True
 |.rp _ _ _ _=>True
 |.csl _ _=>True
 |.psl _ _ _ _=>True
 |.rsl _ _ _ _=>True
 |.mp _=>True
 |.clo _ cs=>AV.nocbL cs
 |.cb=>False
 |.junk=>True
 |.any=>True
 |.bnd _ cs=>AV.nocbL cs
def AV.nocbL:List AV→Prop
 |[]=>True
 |c :: cs=>c.nocb∧AV.nocbL cs
end
theorem AV.nocbL_mem:∀ {cs:List AV},AV.nocbL cs→∀ c ∈ cs,c.nocb
 |[],_,c,hc=>by simp at hc
 |d :: cs,h,c,hc=>by
  simp only [AV.nocbL] at h
  rcases List.mem_cons.1 hc with rfl|hc
  ·exact h.1
  ·exact AV.nocbL_mem h.2 c hc
def AObj.nocb:AObj→Prop
 |.cells cs=>AV.nocbL cs
 |.row _ _ _=>True
 |.map _=>True
 |.mark=>True
theorem ARel.chy {w:World} {ok:Nat→Prop} {ρ:Nat→Value} {y y':Value} {c:AV} {x:Value} (hr:ARel w ok ρ y c x):c.nocb→ARel w ok ρ y' c x:=by
 induction hr with
 |v hx=>exact fun _=>.v hx
 |nil=>exact fun _=>.nil
 |emp=>exact fun _=>.emp
 |sl hd=>exact fun _=>.sl hd
 |agg hs _ ih=>exact fun h=>.agg hs fun i c hc=>ih i c hc (AV.nocbL_mem h c (List.mem_of_getElem? hc))
 |tup hs _ ih=>exact fun h=>.tup hs fun i c hc=>ih i c hc (AV.nocbL_mem h c (List.mem_of_getElem? hc))
 |ep f h1 h2 h3 h4=>exact fun _=>.ep f h1 h2 h3 h4
 |ptr e=>exact fun _=>.ptr e
 |row e e'=>exact fun _=>.row e e'
 |rp e=>exact fun _=>.rp e
 |csl e h1=>exact fun _=>.csl e h1
 |psl e h1 h2=>exact fun _=>.psl e h1 h2
 |rsl e h1=>exact fun _=>.rsl e h1
 |mp e e'=>exact fun _=>.mp e e'
 |clo hs _ ih=>exact fun h=>.clo hs fun i c hc=>ih i c hc (AV.nocbL_mem h c (List.mem_of_getElem? hc))
 |cb e e'=>exact fun h=>h.elim
 |junk=>exact fun _=>.junk
 |any e=>exact fun _=>.any e
 |bnd hs _ ih=>exact fun h=>.bnd hs fun i c hc=>ih i c hc (AV.nocbL_mem h c (List.mem_of_getElem? hc))
theorem ORel.chy {w:World} {ok:Nat→Prop} {ρ:Nat→Value} {y y':Value} {o:AObj} {x:Value} (hr:ORel w ok ρ y o x) (hn:o.nocb):ORel w ok ρ y' o x:=by
 cases hr with
 |cells h1 h2 h3=>exact .cells h1 h2 fun i c hc=>⟨(h3 i c hc).1.chy (AV.nocbL_mem hn c (List.mem_of_getElem? hc)),(h3 i c hc).2⟩
 |row h1 h2 h3 h4=>exact .row h1 h2 h3 h4
 |map h1 h2 h3 h4 h5=>exact .map h1 h2 h3 h4 h5
 |mark h1=>exact .mark h1
def yR (h:Nat→Option AObj) (ρ:Nat→Value) (b:Nat):Prop:=∃ i o,h i=some o∧blk (ρ i)=some b
structure RH (F:Frm) (ws:World) (ρs:Nat→Value) (oks:Nat→Prop) (keep:Nat→Prop) (l:Nat) (rc:Loop) (h:Nat→Option AObj) (j:Nat) (ownr:Own) (w:World) (ρk:Nat→Value) (ownk:Own) (fz:Nat→Prop):Prop where
 jay:F.J j ownk w
 prv:∀ b,ownr.prv b ↔ ownk.prv b∨yR h ρk b∨b=l
 all:∀ b,ownr.all b ↔ ownk.all b∨yR h ρk b∨b=l∨fz b
 fzok:∀ b,fz b→b < w.heap.size∧¬ ownk.prv b∧¬ yR h ρk b∧b ≠ l
 obj:∀ i o,h i=some o→ORel w fz ρk F.y o (ρk i)
 inj:∀ i k o o' b,h i=some o→h k=some o'→blk (ρk i)=some b→blk (ρk k)=some b→i=k
 off:∀ i o b,h i=some o→blk (ρk i)=some b→¬ ownk.all b∧b ≠ l
 lown:¬ ownk.all l
 rcd:w.heap[l]?=some (.loop rc)
 oks:∀ b,oks b→fz b∧w.heap[b]?=ws.heap[b]?
 keep:∀ id,keep id→ρk id=ρs id
 prov:∀ i o b,h i=some o→blk (ρk i)=some b→F.w0.heap.size≤b∨F.owns0 b
 psub:∀ b,ownk.prv b→F.own0.prv b∨F.w0.heap.size≤b
 still:j=0→ownk=F.own0
 big:F.w0.heap.size≤w.heap.size
def RJ (F:Frm) (ws:World) (ρs:Nat→Value) (oks:Nat→Prop) (keep:Nat→Prop) (l:Nat) (rc:Nat→Loop) (hc:Nat→Nat→Option AObj) (jj:Nat→Nat):JJ :=
 fun k ownr w=>∃ ρk ownk fz,RH F ws ρs oks keep l (rc k) (hc k) (jj k) ownr w ρk ownk fz
theorem RJ.stable (F:Frm) (ws:World) (ρs:Nat→Value) (oks:Nat→Prop) (keep:Nat→Prop) (l:Nat) (rc:Nat→Loop) (hc:Nat→Nat→Option AObj) (jj:Nat→Nat):(RJ F ws ρs oks keep l rc hc jj).Stable:=by
 rintro k ownr w ⟨ρk,ownk,fz,H⟩
 have hll:l < w.heap.size:=(Array.getElem?_eq_some_iff.1 H.rcd).1
 have hall:∀ b,ownr.all b→b < w.heap.size:=fun b hb=>by
  rcases (H.all b).1 hb with h|⟨i,o,hi,hbi⟩|rfl|h
  ·exact (F.stable _ _ _ H.jay).1 b h
  ·exact (H.obj i o hi).lt hbi
  ·exact hll
  ·exact (H.fzok b h).1
 refine ⟨hall,fun w' hx=>?_⟩
 have same:∀ b,ownr.all b→w'.heap[b]?=w.heap[b]?:=fun b hb=>hx.block b (hall b hb) fun hn=>hn hb
 have hfz:∀ b,fz b→fz b∧w'.heap[b]?=w.heap[b]?:=fun b hb=>⟨hb,same b ((H.all b).2 (.inr (.inr (.inr hb))))⟩
 refine ⟨ρk,ownk,fz,(F.stable _ _ _ H.jay).2 w' (hx.weaken fun b _ hn ho=>hn ((H.all b).2 (.inl ho))),H.prv,H.all,fun b hb=>⟨Nat.lt_of_lt_of_le (H.fzok b hb).1 hx.size,(H.fzok b hb).2⟩,fun i o hi=>?_,H.inj,H.off,H.lown, ?_,fun b hb=>⟨(H.oks b hb).1, ?_⟩,H.keep,H.prov,H.psub,H.still,Nat.le_trans H.big hx.size⟩
 ·exact (H.obj i o hi).mono hfz (fun b hb=>same b ((H.all b).2 (.inr (.inl ⟨i,o,hi,hb⟩)))) fun _ _=>rfl
 ·rw [same l ((H.all l).2 (.inr (.inr (.inl rfl))))];exact H.rcd
 ·rw [(hfz b (H.oks b hb).1).2];exact (H.oks b hb).2
def kQ (T:Nat→AV):List (Nat × AV)→(Nat→AV)
 |[]=>T
 |p :: r=>kQ (upd T p.1 p.2) r
def zk (hs:List Nat) (n nl:Nat) (h:Nat→Option AObj):List (Nat × AObj):=(List.range (hs.length+nl)).filterMap fun m=>(h m).map fun o=>(qo hs n m,o.ren (qo hs n))
theorem jS {L M:List (Nat × AObj)} {i:Nat}:qc (L++M) i=match qc L i with|some o=>some o|none=>qc M i:=by
 induction L with
 |nil=>rfl
 |cons p r ih =>
  simp only [List.cons_append,qc]
  split
  ·rfl
  ·exact ih
theorem xN {hs:List Nat} {n nl:Nat} {h:Nat→Option AObj} {i:Nat} {o:AObj} (hi:qc (zk hs n nl h) i=some o):∃ m o0,m < hs.length+nl∧h m=some o0∧i=qo hs n m∧o=o0.ren (qo hs n):=by
 have:=qF hi
 simp only [zk,List.mem_filterMap,List.mem_range] at this
 obtain ⟨m,hm,e⟩:=this
 obtain ⟨o0,h0,e⟩:=Option.map_eq_some_iff.1 e
 simp only [Prod.mk.injEq] at e
 exact ⟨m,o0,hm,h0,e.1.symm,e.2.symm⟩
def VC (F:Frm) (l j:Nat) (Pr:Nat→Prop) (wj:World) (hl:Pr l) (hrec:∃ rc,wj.heap[l]?=some (.loop rc)) (w0:World) (ρ0:Nat→Value) (H0:Nat→Option AObj) (own0:Own) (n0:Nat) (pinn:∀ i o,H0 i=some o→i < n0):Frm :=
 {r:=some l,y:=F.y,J:=Jc F.J j Pr wj,stable:=Jc.stable F.stable j Pr wj,w0,ρ0,H0,own0,n0,nt:=F.nt,pinn,
  recs:=fun l' h k own w hJ=>by
   cases h
   obtain ⟨own',_,_,_,hp⟩:=hJ
   obtain ⟨rc,hrc⟩:=hrec
   exact ⟨rc,(hp l hl).2.2.trans hrc⟩ }
theorem XV {w:World} {ok:Nat→Prop} {ρ:Nat→Value} {y:Value}:∀ {L:List (Nat × AV)} {vs:List (Nat × Value)} {T:Nat→AV} {tmps:Array Value},L.length=vs.length→(∀ (i:Nat) (p:Nat × AV) (v:Nat × Value),L[i]?=some p→vs[i]?=some v→p.1=v.1∧ARel w ok ρ y p.2 v.2) →
  (∀ p ∈ L,p.1 < tmps.size)→(∀ t,ARel w ok ρ y (T t) (tmps.getD t undef)) →
  (∀ t,ARel w ok ρ y (kQ T L t) ((vs.foldl (fun (tmps:Array Value) p=>tmps.setIfInBounds p.1 p.2) tmps).getD t undef))∧(vs.foldl (fun (tmps:Array Value) p=>tmps.setIfInBounds p.1 p.2) tmps).size=tmps.size
 |[],[],T,tmps,_,_,_,h=>⟨h,rfl⟩
 |p :: L,v :: vs,T,tmps,hl,hp,hb,h=>by
  obtain ⟨e,hr⟩:=hp 0 p v rfl rfl
  have h1:=XV (L:=L) (vs:=vs) (T:=upd T p.1 p.2) (tmps:=tmps.setIfInBounds v.1 v.2) (by simpa using hl) (fun i p v h h'=>hp (i+1) p v (by simpa using h) (by simpa using h'))
   (fun q hq=>by simpa using hb q (List.mem_cons_of_mem _ hq)) fun t=>by
    by_cases ht:t=p.1
    ·subst ht
     have hlt:p.1 < tmps.size:=hb p List.mem_cons_self
     rw [upd_same]
     have:(tmps.setIfInBounds v.1 v.2).getD p.1 undef=v.2:=by rw [← e];simp [hlt]
     rw [this];exact hr
    ·rw [upd_ne _ _ _ _ ht]
     have:(tmps.setIfInBounds v.1 v.2).getD t undef=tmps.getD t undef:=by
      rw [← e];simp [Array.getElem?_setIfInBounds_ne (Ne.symm ht)]
     rw [this];exact h t
  exact ⟨h1.1,by simpa using h1.2⟩
 |[],_ :: _,_,_,hl,_,_,_=>by simp at hl
 |_ :: _,[],_,_,hl,_,_,_=>by simp at hl
theorem QdJ (T:Nat→AV):∀ (L:List (Nat × AV)) (t:Nat),kQ T L t=T t∨∃ p ∈ L,kQ T L t=p.2:=by
 intro L
 induction L generalizing T with
 |nil=>intro t;exact .inl rfl
 |cons p r ih =>
  intro t
  rcases ih (upd T p.1 p.2) t with h|⟨q,hq,h⟩
  ·by_cases ht:t=p.1
   ·subst ht;rw [upd_same] at h;exact .inr ⟨p,List.mem_cons_self,h⟩
   ·rw [upd_ne _ _ _ _ ht] at h;exact .inl h
  ·exact .inr ⟨q,List.mem_cons_of_mem _ hq,h⟩
def J9 (T:Nat→AV) (ps:List Nat) (hs:List Nat) (n nl:Nat) (ys:List AV) (own:List (Nat × AObj)) (lent:Nat→Option AObj):St :=
 {t:=kQ T (ps.zip (ys.map (AV.ren (qo hs n)))),h:=qc (own++zk hs n nl lent),n:=n+nl,m:=n+nl }
end Go.Sym
namespace Go.Sym
open Go
variable {A : Frm → Prop} {P : Program}
def zn (hs:List Nat) (n nl:Nat) (ρk ρx:Nat→Value) (id:Nat):Value:=if n≤id∧id < n+nl then ρx (hs.length+(id - n)) else ρk id
structure RStat (F:Frm) (T:Nat→AV) (ps hs:List Nat) (n nl:Nat) (ys:List AV) (own:List (Nat × AObj)) (lent:Nat→Option AObj) (keep:Nat→Prop):Prop where
 hsn:∀ c ∈ hs,c < n
 tmp:∀ t,∀ id ∈ (T t).ids,id < n∧keep id
 own:∀ i o,qc own i=some o→i < n∧∀ id ∈ o.ids,id < n
 lent:∀ m o,lent m=some o→m < hs.length+nl∧o.nocb∧∀ id ∈ o.ids,id < hs.length+nl
 args:∀ c ∈ ys,c.nocb∧∀ id ∈ c.ids,id < hs.length+nl
 plen:ps.length=ys.length
 psn:∀ p ∈ ps,p < F.nt
theorem xU {hs:List Nat} {n nl m:Nat} (h:∀ c ∈ hs,c < n) (hm:m < hs.length+nl):qo hs n m < n+nl:=by
 unfold qo
 cases hc:hs[m]? with
 |some c=>have:=h c (List.mem_of_getElem? hc);simp only;omega
 |none=>have:hs.length≤m:=List.getElem?_eq_none_iff.1 hc;simp only;omega
theorem QQ {hs:List Nat} {n nl:Nat} {ρk ρx:Nat→Value} (hn:∀ c ∈ hs,c < n) (hpin:∀ m c,hs[m]?=some c→ρx m=ρk c) {m:Nat} (hm:m < hs.length+nl):zn hs n nl ρk ρx (qo hs n m)=ρx m:=by
 unfold zn qo
 cases hc:hs[m]? with
 |some c =>
  have:=hn c (List.mem_of_getElem? hc)
  simp only
  rw [if_neg (by omega),hpin m c hc]
 |none =>
  have:hs.length≤m:=List.getElem?_eq_none_iff.1 hc
  simp only
  rw [if_pos (by omega)]
  congr 1;omega
theorem zC {hs:List Nat} {n nl:Nat} {ρk ρx:Nat→Value} {id:Nat} (h:id < n):zn hs n nl ρk ρx id=ρk id:=by
 unfold zn;rw [if_neg (by omega)]
theorem QG {hs:List Nat} {n nl:Nat} {own:List (Nat × AObj)} {lent:Nat→Option AObj} (hsn:∀ c ∈ hs,c < n) (hown:∀ i o,qc own i=some o→i < n∧∀ id ∈ o.ids,id < n):∀ i o,qc (own++zk hs n nl lent) i=some o→i < n+nl:=by
 intro i o hi
 rw [jS] at hi
 cases ho:qc own i with
 |some o1=>have:=(hown i o1 ho).1;omega
 |none =>
  rw [ho] at hi
  obtain ⟨m,o0,hm,_,rfl,_⟩:=xN hi
  exact xU hsn hm
theorem Qaq {F:Frm} {ws:World} {ρs:Nat→Value} {oks keep:Nat→Prop} {l:Nat} {rc:Loop} {jj:Nat} {ownr:Own} {w:World} {ρk:Nat→Value} {ownk:Own} {fz:Nat→Prop} {T:Nat→AV} {a0:Act} {ps hs:List Nat} {n nl:Nat} {ys:List AV} {own:List (Nat × AObj)} {lent:Nat→Option AObj}
  (hs1:RStat F T ps hs n nl ys own lent keep) (hR:RH F ws ρs oks keep l rc (qc own) jj ownr w ρk ownk fz) {Pr:Nat→Prop} (hPr:∀ b,Pr b→¬ ownr.all b∧b < w.heap.size) {ownx:Own} (hxa:∀ b,ownx.all b ↔ ownr.all b∨Pr b) (hxp:∀ b,ownx.prv b ↔ ownr.prv b∨Pr b)
  {ρx:Nat→Value} {yv:Value} (lobj:∀ m o,lent m=some o→ORel w (okB w ownx ρx lent) ρx yv o (ρx m)) (linj:∀ i k o o' b,lent i=some o→lent k=some o'→blk (ρx i)=some b→blk (ρx k)=some b→i=k) (loff:∀ m o b,lent m=some o→blk (ρx m)=some b→¬ ownx.all b)
  (hpin:∀ m c,hs[m]?=some c→ρx m=ρk c) {vs:Array Value} (hvs:vs.size=ys.length) (hrel:∀ i c,ys[i]?=some c→ARel w (okB w ownx ρx lent) ρx yv c (vs.getD i undef))
  (hT:∀ t,ARel ws oks ρs F.y (T t) (a0.tmps.getD t undef)) (hsz:a0.tmps.size=F.nt) :
  Holds (VC F l jj (fun b=>Pr b∨b=l) w (.inr rfl) ⟨rc,hR.rcd⟩ w (zn hs n nl ρk ρx) (qc (own++zk hs n nl lent)) (kG ownk fun b=>Pr b∨b=l) (n+nl) (QG hs1.hsn hs1.own))
   (J9 T ps hs n nl ys own lent) { tmps:=(ps.zip vs.toList).foldl (fun (tmps:Array Value) p=>tmps.setIfInBounds p.1 p.2) a0.tmps,defers:=[] } w (zn hs n nl ρk ρx) (kG ownk fun b=>Pr b∨b=l):=by
 have hll:l < w.heap.size:=(Array.getElem?_eq_some_iff.1 hR.rcd).1
 have hren:∀ m,m < hs.length+nl→zn hs n nl ρk ρx (qo hs n m)=ρx m:=fun m hm=>QQ hs1.hsn hpin hm
 have hlook:∀ {i o},qc (own++zk hs n nl lent) i=some o→qc own i=some o∨∃ m o0,m < hs.length+nl∧lent m=some o0∧i=qo hs n m∧o=o0.ren (qo hs n):=fun {i o} hi=>by
  rw [jS] at hi
  cases ho:qc own i with
  |some o1=>rw [ho] at hi;exact .inl hi
  |none=>rw [ho] at hi;exact .inr (xN hi)
 have hobjblk:∀ i o b,qc (own++zk hs n nl lent) i=some o→blk (zn hs n nl ρk ρx i)=some b→yR (qc own) ρk b∨∃ m o0,lent m=some o0∧blk (ρx m)=some b:=fun i o b hi hb=>by
  rcases hlook hi with h|⟨m,o0,hm,h0,rfl,_⟩
  ·rw [zC (hs1.own i o h).1] at hb;exact .inl ⟨i,o,h,hb⟩
  ·rw [hren m hm] at hb;exact .inr ⟨m,o0,h0,hb⟩
 have hfz:∀ b,fz b→okB w (kG ownk fun b=>Pr b∨b=l) (zn hs n nl ρk ρx) (qc (own++zk hs n nl lent)) b:=fun b hb=>by
  obtain ⟨g1,g2,g3,g4⟩:=hR.fzok b hb
  have ha:ownr.all b:=(hR.all b).2 (.inr (.inr (.inr hb)))
  refine ⟨g1, ?_,fun i o hi hbi=>?_⟩
  ·rintro (h|h|h)
   ·exact g2 h
   ·exact (hPr b h).1 ha
   ·exact g4 h
  ·rcases hobjblk i o b hi hbi with h|⟨m,o0,h0,hm⟩
   ·exact g3 h
   ·exact loff m o0 b h0 hm ((hxa b).2 (.inl ha))
 have hlx:∀ b,okB w ownx ρx lent b→okB w (kG ownk fun b=>Pr b∨b=l) (zn hs n nl ρk ρx) (qc (own++zk hs n nl lent)) b:=fun b ⟨g1,g2,g3⟩=>by
  refine ⟨g1, ?_,fun i o hi hbi=>?_⟩
  ·rintro (h|h|h)
   ·exact g2 ((hxp b).2 (.inl ((hR.prv b).2 (.inl h))))
   ·exact g2 ((hxp b).2 (.inr h))
   ·exact g2 ((hxp b).2 (.inl ((hR.prv b).2 (.inr (.inr h)))))
  ·rcases hobjblk i o b hi hbi with h|⟨m,o0,h0,hm⟩
   ·exact g2 ((hxp b).2 (.inl ((hR.prv b).2 (.inr (.inl h)))))
   ·exact g3 m o0 h0 hm
 have hTw:∀ t,ARel w (okB w (kG ownk fun b=>Pr b∨b=l) (zn hs n nl ρk ρx) (qc (own++zk hs n nl lent))) (zn hs n nl ρk ρx) F.y (T t) (a0.tmps.getD t undef):=fun t =>
  (hT t).mono (fun b hb=>⟨hfz b (hR.oks b hb).1,(hR.oks b hb).2⟩) fun id hid=>by
   obtain ⟨g1,g2⟩:=hs1.tmp t id hid
   rw [zC g1,hR.keep id g2]
 have hputs:=XV (w:=w) (ok:=okB w (kG ownk fun b=>Pr b∨b=l) (zn hs n nl ρk ρx) (qc (own++zk hs n nl lent))) (ρ:=zn hs n nl ρk ρx) (y:=F.y) (L:=ps.zip (ys.map (AV.ren (qo hs n)))) (vs:=ps.zip vs.toList) (T:=T) (tmps:=a0.tmps)
  (by simp [hvs]) (fun i p v hp hv=>by
   rw [List.getElem?_zip_eq_some] at hp hv
   obtain ⟨p1,p2⟩:=hp
   obtain ⟨v1,v2⟩:=hv
   rw [p1] at v1
   refine ⟨by simpa using v1, ?_⟩
   rw [List.getElem?_map] at p2
   obtain ⟨c,hc,e⟩:=Option.map_eq_some_iff.1 p2
   have h1:=hrel i c hc
   have h2:vs.getD i undef=v.2:=by
     have h3:vs[i]?=some v.2:=by simpa using v2
     simp [h3]
   rw [h2] at h1
   rw [← e]
   exact ((h1.chy (hs1.args c (List.mem_of_getElem? hc)).1).mono (fun b hb=>⟨hlx b hb,rfl⟩) fun _ _=>rfl).ren fun id hid=>hren id ((hs1.args c (List.mem_of_getElem? hc)).2 id hid))
  (fun p hp=>by rw [hsz];exact hs1.psn p.1 (List.of_mem_zip hp).1) hTw
 refine ⟨⟨ownk,hR.jay,fun b=>Iff.rfl,fun b=>Iff.rfl,fun b hb=>⟨?_, ?_,rfl⟩⟩,hputs.1,fun i o hi=>?_,fun i k o o' b hi hk hbi hbk=>?_,fun i o b hi hb=>⟨?_,.inr ⟨i,o,hi,hb⟩⟩,fun id hid=>?_,Nat.le_refl _,rfl,hputs.2.trans hsz,fun _ _ _=>rfl,Ext.refl _ _,fun b hb=>.inl hb,fun _=>rfl,.nil⟩
 ·rcases hb with h|rfl
  ·exact fun ho=>(hPr b h).1 ((hR.all b).2 (.inl ho))
  ·exact hR.lown
 ·rcases hb with h|rfl
  ·exact (hPr b h).2
  ·exact hll
 ·rcases hlook hi with h|⟨m,o0,hm,h0,rfl,rfl⟩
  ·have hin:=hs1.own i o h
   rw [zC hin.1]
   exact (hR.obj i o h).mono (fun b hb=>⟨hfz b hb,rfl⟩) (fun _ _=>rfl) fun id hid=>zC (hin.2 id hid)
  ·rw [hren m hm]
   exact AObj.ren_rel ((lobj m o0 h0).chy (hs1.lent m o0 h0).2.1) (.inr hlx) fun id hid=>hren id ((hs1.lent m o0 h0).2.2 id hid)
 ·have cross:∀ {i o m o0},qc own i=some o→lent m=some o0→blk (ρk i)=some b→blk (ρx m)=some b→False:=fun {i o m o0} h h0 hb hb' =>
   loff m o0 b h0 hb' ((hxa b).2 (.inl ((hR.all b).2 (.inr (.inl ⟨i,o,h,hb⟩)))))
  rcases hlook hi with h|⟨m,o0,hm,h0,rfl,rfl⟩
  ·rw [zC (hs1.own i o h).1] at hbi
   rcases hlook hk with h'|⟨m',o0',hm',h0',rfl,rfl⟩
   ·rw [zC (hs1.own k o' h').1] at hbk
    exact hR.inj i k o o' b h h' hbi hbk
   ·rw [hren m' hm'] at hbk
    exact (cross h h0' hbi hbk).elim
  ·rw [hren m hm] at hbi
   rcases hlook hk with h'|⟨m',o0',hm',h0',rfl,rfl⟩
   ·rw [zC (hs1.own k o' h').1] at hbk
    exact (cross h' h0 hbk hbi).elim
   ·rw [hren m' hm'] at hbk
    rw [linj m m' o0 o0' b h0 h0' hbi hbk]
 ·rcases hlook hi with h|⟨m,o0,hm,h0,rfl,rfl⟩
  ·rw [zC (hs1.own i o h).1] at hb
   rintro (ho|ho|ho)
   ·exact (hR.off i o b h hb).1 ho
   ·exact (hPr b ho).1 ((hR.all b).2 (.inr (.inl ⟨i,o,h,hb⟩)))
   ·exact (hR.off i o b h hb).2 ho
  ·rw [hren m hm] at hb
   have h1:=loff m o0 b h0 hb
   rintro (ho|ho|ho)
   ·exact h1 ((hxa b).2 (.inl ((hR.all b).2 (.inl ho))))
   ·exact h1 ((hxa b).2 (.inr ho))
   ·exact h1 ((hxa b).2 (.inl ((hR.all b).2 (.inr (.inr (.inl ho))))))
 ·have hid:n+nl≤id:=hid
  refine ⟨?_,fun t hm=>?_,fun i o hi hm=>?_,by simp [J9]⟩
  ·show qc (own++zk hs n nl lent) id=none
   cases ho:qc (own++zk hs n nl lent) id with
   |none=>rfl
   |some o=>have:=QG hs1.hsn hs1.own id o ho;omega
  ·rcases QdJ T (ps.zip (ys.map (AV.ren (qo hs n)))) t with h|⟨p,hp,h⟩
   ·simp only [J9] at hm;rw [h] at hm;have:=(hs1.tmp t id hm).1;omega
   ·simp only [J9] at hm
    rw [h] at hm
    have hp2:=(List.of_mem_zip hp).2
    obtain ⟨c,hc,e⟩:=List.mem_map.1 hp2
    rw [← e,AV.ren_ids] at hm
    obtain ⟨q,hq,rfl⟩:=List.mem_map.1 hm
    have:=xU hs1.hsn ((hs1.args c hc).2 q hq);omega
  ·rcases hlook hi with h|⟨m,o0,hm0,h0,rfl,rfl⟩
   ·have:=(hs1.own i o h).2 id hm;omega
   ·rw [AObj.ren_ids] at hm
    obtain ⟨q,hq,rfl⟩:=List.mem_map.1 hm
    have:=xU hs1.hsn ((hs1.lent m o0 h0).2.2 q hq);omega
theorem UU {F:Frm} {l jj n0:Nat} {Pr:Nat→Prop} {wj w0:World} {hl:Pr l} {hrec:∃ rc,wj.heap[l]?=some (.loop rc)} {ρ0:Nat→Value} {H0:Nat→Option AObj} {own0:Own} {pinn:∀ i o,H0 i=some o→i < n0}
  {S:St} {a:Act} {w1:World} {ρ:Nat→Value} {own:Own} (H:Holds (VC F l jj Pr wj hl hrec w0 ρ0 H0 own0 n0 pinn) S a w1 ρ own) (hp0:own0.prv l) {rc:Loop} (hl1:l < w1.heap.size) :
  Holds (VC F l jj Pr (w1.putObj l (.loop rc)) hl ⟨rc,by rw [xe,if_pos ⟨rfl,hl1⟩]⟩ w0 ρ0 H0 own0 n0 pinn) S a (w1.putObj l (.loop rc)) ρ own:=by
 obtain ⟨own',hj,ha,hp,hpr⟩:=H.jay
 have hx:Ext (fun k=>k=l) w1 (w1.putObj l (.loop rc)):=Ext.putObj _ _ _ rfl
 have hla:own.all l:=(ha l).2 (.inr hl)
 have hlp:own.prv l:=(hp l).2 (.inr hl)
 have hok:∀ b,okB w1 own ρ S.h b→okB (w1.putObj l (.loop rc)) own ρ S.h b∧(w1.putObj l (.loop rc)).heap[b]?=w1.heap[b]?:=fun b hb=>⟨⟨Nat.lt_of_lt_of_le hb.1 hx.size,hb.2⟩,hx.block b hb.1 fun e=>hb.2.1 (e ▸ hlp)⟩
 refine ⟨⟨own',(F.stable _ _ _ hj).2 _ (hx.weaken fun b _ e ho=>(hpr l hl).1 (e ▸ ho)),ha,hp,fun b hb=>⟨(hpr b hb).1,Nat.lt_of_lt_of_le (hpr b hb).2.1 hx.size,rfl⟩⟩,fun t=>(H.temps t).mono hok fun _ _=>rfl,fun i o hi=>(H.obj i o hi).mono hok (fun b hb=>hx.block b ((H.obj i o hi).lt hb) fun e=>(H.blkOK i o b hi hb).1 (e ▸ hla)) fun _ _=>rfl,
  H.inj,H.blkOK,H.fresh,H.nle,H.meq,H.tsz,H.pins,H.ext.trans hx fun b _ e=>.inl (e ▸ hp0),H.ownsub,H.still,H.defs.mono hok fun _ _=>rfl⟩
structure RFin (S:St) (hs:List Nat) (n:Nat) (own:List (Nat × AObj)) (lent:Nat→Option AObj) (keep:Nat→Prop) (σ:Nat→Option Nat) (hf:Nat→Option AObj):Prop where
 fown:∀ i o1,qc own i=some o1→(∃ c o,σ i=some c∧S.h c=some o∧AObj.le hf σ o o1)∨(σ i=none∧∃ e k,o1=.row e k []∧0 < k)
 flent:∀ m o0,lent m=some o0→∃ ob,S.h (qo hs n m)=some ob∧AObj.le hf (fun j=>some (qo hs n j)) ob o0
 inj:∀ i o k o' c,qc own i=some o→qc own k=some o'→σ i=some c→σ k=some c→i=k
 apart:∀ i o m o0,qc own i=some o→lent m=some o0→σ i ≠ some (qo hs n m)
 frz:∀ i o,hf i=some o→S.h i=some o∧(∀ j o1,qc own j=some o1→σ j ≠ some i)∧∀ m o0,lent m=some o0→qo hs n m ≠ i
 fkeep:∀ id,keep id→σ id=some id
def ve (σ:Nat→Option Nat) (ρ:Nat→Value) (i:Nat):Value:=match σ i with|some c=>ρ c|none=>.slice none 0 0
theorem QeS {F:Frm} {ws:World} {ρs:Nat→Value} {oks keep:Nat→Prop} {l:Nat} {rc rc':Loop} {jj:Nat} {ownr:Own} {w:World} {ρk:Nat→Value} {ownk:Own} {fz:Nat→Prop} {T:Nat→AV} {ps hs:List Nat} {n nl:Nat} {ys:List AV} {own own2:List (Nat × AObj)} {lent:Nat→Option AObj}
  (hs1:RStat F T ps hs n nl ys own lent keep) (hR:RH F ws ρs oks keep l rc (qc own) jj ownr w ρk ownk fz) {Pr:Nat→Prop} (hPr:∀ b,Pr b→¬ ownr.all b∧b < w.heap.size) {ownx:Own} (hxa:∀ b,ownx.all b ↔ ownr.all b∨Pr b) (hxp:∀ b,ownx.prv b ↔ ownr.prv b∨Pr b)
  {ρx:Nat→Value} {yv:Value} (lbl:∀ m o,lent m=some o→∀ b,blk (ρx m)=some b→b < w.heap.size) (linj:∀ i k o o' b,lent i=some o→lent k=some o'→blk (ρx i)=some b→blk (ρx k)=some b→i=k) (loff:∀ m o b,lent m=some o→blk (ρx m)=some b→¬ ownx.all b)
  (lids:∀ m o,lent m=some o→∀ id ∈ o.ids,∃ o',lent id=some o') (hpin:∀ m c,hs[m]?=some c→ρx m=ρk c)
  (hkeep:∀ id,keep id→id < n∧∃ o,qc (own++zk hs n nl lent) id=some o) (hlast:∀ m o0,lent m=some o0→∃ o,qc (own++zk hs n nl lent) (qo hs n m)=some o)
  {w2:World} {hrec:∃ rc,w2.heap[l]?=some (.loop rc)} (hw2:∀ b,Pr b→w2.heap[b]?=w.heap[b]?) {S:St} {a:Act} {w3:World} {ρ3:Nat→Value} {own3:Own}
  (H:Holds (VC F l jj (fun b=>Pr b∨b=l) w2 (.inr rfl) hrec w (zn hs n nl ρk ρx) (qc (own++zk hs n nl lent)) (kG ownk fun b=>Pr b∨b=l) (n+nl) (QG hs1.hsn hs1.own)) S a w3 ρ3 own3)
  {σ:Nat→Option Nat} {hf:Nat→Option AObj} (hF:RFin S hs n own2 lent keep σ hf) :
  ∃ ownk' fz' ownr' ownx',RH F ws ρs oks keep l rc' (qc own2) (jj+S.j) ownr' (w3.putObj l (.loop rc')) (ve σ ρ3) ownk' fz'∧(∀ b,ownx'.all b ↔ ownr'.all b∨Pr b)∧(∀ b,ownx'.prv b ↔ ownr'.prv b∨Pr b) ∧
   (∀ b,Pr b→¬ ownr'.all b∧b < (w3.putObj l (.loop rc')).heap.size∧(w3.putObj l (.loop rc')).heap[b]?=w.heap[b]?) ∧
   (∀ m o,lent m=some o→ORel (w3.putObj l (.loop rc')) (okB (w3.putObj l (.loop rc')) ownx' ρx lent) ρx F.y o (ρx m))∧(∀ m o b,lent m=some o→blk (ρx m)=some b→¬ ownx'.all b) ∧
   Ext (fun b=>ownx.prv b∨∃ i o,lent i=some o∧blk (ρx i)=some b) w (w3.putObj l (.loop rc'))∧∀ b,ownx'.prv b→ownx.prv b∨w.heap.size≤b:=by
 obtain ⟨ownk',hj,ha,hp,hpr⟩:=H.jay
 have hll:l < w.heap.size:=(Array.getElem?_eq_some_iff.1 hR.rcd).1
 have hl3:l < w3.heap.size:=Nat.lt_of_lt_of_le hll H.ext.size
 have hla:own3.all l:=(ha l).2 (.inr (.inr rfl))
 have hlp:own3.prv l:=(hp l).2 (.inr (.inr rfl))
 have hx4:Ext (fun k=>k=l) w3 (w3.putObj l (.loop rc')):=Ext.putObj _ _ _ rfl
 have hren:∀ m o,lent m=some o→zn hs n nl ρk ρx (qo hs n m)=ρx m:=fun m o h=>QQ hs1.hsn hpin (hs1.lent m o h).1
 have hlρ:∀ m o,lent m=some o→ρ3 (qo hs n m)=ρx m:=fun m o h=>by
  obtain ⟨o',ho'⟩:=hlast m o h
  exact (H.pins _ o' ho').trans (hren m o h)
 have hσ:∀ j i,σ j=some i→ve σ ρ3 j=ρ3 i:=fun j i h=>by simp only [ve,h]
 have hσ0:∀ j,σ j=none→ve σ ρ3 j=.slice none 0 0:=fun j h=>by simp only [ve,h]
 have hlook:∀ {i o},qc (own++zk hs n nl lent) i=some o→qc own i=some o∨∃ m o0,lent m=some o0∧i=qo hs n m:=fun {i o} hi=>by
  rw [jS] at hi
  cases ho:qc own i with
  |some o1=>rw [ho] at hi;exact .inl hi
  |none=>rw [ho] at hi;obtain ⟨m,o0,_,h0,e,_⟩:=xN hi;exact .inr ⟨m,o0,h0,e⟩
 have howns:∀ b,(∃ i o,qc (own++zk hs n nl lent) i=some o∧blk (zn hs n nl ρk ρx i)=some b)→yR (qc own) ρk b∨∃ m o0,lent m=some o0∧blk (ρx m)=some b:=by
  rintro b ⟨i,o,hi,hb⟩
  rcases hlook hi with h|⟨m,o0,h0,rfl⟩
  ·rw [zC (hs1.own i o h).1] at hb;exact .inl ⟨i,o,h,hb⟩
  ·rw [hren m o0 h0] at hb;exact .inr ⟨m,o0,h0,hb⟩
 have hb2:∀ b,yR (qc own2) (ve σ ρ3) b→∃ i o c ob,qc own2 i=some o∧σ i=some c∧S.h c=some ob∧blk (ρ3 c)=some b:=by
  rintro b ⟨i,o,hi,hb⟩
  rcases hF.fown i o hi with ⟨c,ob,hc,hob,_⟩|⟨hn,_⟩
  ·rw [hσ i c hc] at hb;exact ⟨i,o,c,ob,hi,hc,hob,hb⟩
  ·rw [hσ0 i hn] at hb;simp [blk] at hb
 have hbl:∀ m o b,lent m=some o→blk (ρx m)=some b→∃ ob,S.h (qo hs n m)=some ob∧blk (ρ3 (qo hs n m))=some b:=fun m o b h hb=>by
  obtain ⟨ob,hob,_⟩:=hF.flent m o h
  exact ⟨ob,hob,by rw [hlρ m o h];exact hb⟩
 have hcross:∀ b m o,lent m=some o→blk (ρx m)=some b→¬ yR (qc own2) (ve σ ρ3) b:=fun b m o h hb hk=>by
  obtain ⟨i,o1,c,ob,hi,hc,hob,hcb⟩:=hb2 b hk
  obtain ⟨ob',hob',hb'⟩:=hbl m o b h hb
  have:=H.inj c _ ob ob' b hob hob' hcb hb'
  subst this
  exact hF.apart i o1 m o hi h hc
 let fz':Nat→Prop:=fun b=>b < w3.heap.size∧¬ own3.prv b∧¬ yR (qc own2) (ve σ ρ3) b∧∀ m o,lent m=some o→blk (ρx m) ≠ some b
 have hok3:∀ b,okB w3 own3 ρ3 S.h b→fz' b:=fun b ⟨g1,g2,g3⟩=>⟨g1,g2,fun hk=>by obtain ⟨_,_,c,ob,_,_,hob,hcb⟩:=hb2 b hk;exact g3 c ob hob hcb,fun m o h hb=>by obtain ⟨ob,hob,hb'⟩:=hbl m o b h hb;exact g3 _ ob hob hb'⟩
 have hfzl:∀ b,fz' b→b ≠ l:=fun b hb e=>hb.2.1 (e ▸ hlp)
 have hrow:∀ i ox b,hf i=some ox→blk (ρ3 i)=some b→fz' b:=by
  intro i ox b hi hb
  obtain ⟨g1,g2,g3⟩:=hF.frz i _ hi
  refine ⟨(H.obj i _ g1).lt hb,fun hp=>(H.blkOK i _ b g1 hb).1 (own3.sub _ hp),fun hk=>?_,fun m o h hbm=>?_⟩
  ·obtain ⟨q,oq,c,ob,hq,hc,hob,hcb⟩:=hb2 b hk
   have:=H.inj i c _ ob b g1 hob hb hcb
   subst this
   exact g2 q oq hq hc
  ·obtain ⟨ob,hob,hb'⟩:=hbl m o b h hbm
   exact g3 m o h (H.inj i _ _ ob b g1 hob hb hb').symm
 have hobjf:∀ i o,hf i=some o→ORel w3 (okB w3 own3 ρ3 S.h) ρ3 F.y o (ρ3 i):=fun i o hi=>H.obj i o (hF.frz i o hi).1
 have hfz4:∀ b,fz' b→fz' b∧(w3.putObj l (.loop rc')).heap[b]?=w3.heap[b]?:=fun b hb=>⟨hb,hx4.block b hb.1 (hfzl b hb)⟩
 have hPl:∀ b,Pr b→b ≠ l:=fun b hb e=>(hPr b hb).1 (e ▸ (hR.all l).2 (.inr (.inr (.inl rfl))))
 have hfz0:∀ b,fz b→fz' b∧(w3.putObj l (.loop rc')).heap[b]?=w.heap[b]?:=fun b hb=>by
  obtain ⟨g1,g2,g3,g4⟩:=hR.fzok b hb
  have hal:ownr.all b:=(hR.all b).2 (.inr (.inr (.inr hb)))
  have hn0:¬ ((kG ownk fun b=>Pr b∨b=l).prv b):=by
   rintro (h|h|h)
   ·exact g2 h
   ·exact (hPr b h).1 hal
   ·exact g4 h
  have hno:¬ ∃ i o,qc (own++zk hs n nl lent) i=some o∧blk (zn hs n nl ρk ρx i)=some b:=fun h=>by
   rcases howns b h with h|⟨m,o0,h0,hm⟩
   ·exact g3 h
   ·exact loff m o0 b h0 hm ((hxa b).2 (.inl hal))
  have hs3:∀ c ob,S.h c=some ob→blk (ρ3 c) ≠ some b:=fun c ob hc hb'=>by
   rcases (H.blkOK c ob b hc hb').2 with h|h
   ·have h:w.heap.size≤b:=h;omega
   ·exact hno h
  refine ⟨⟨Nat.lt_of_lt_of_le g1 H.ext.size,fun h=>?_,fun hk=>?_,fun m o h hbm=>?_⟩, ?_⟩
  ·rcases H.ownsub b h with h|h
   ·exact hn0 h
   ·have h:w.heap.size≤b:=h;omega
  ·obtain ⟨_,_,c,ob,_,_,hob,hcb⟩:=hb2 b hk;exact hs3 c ob hob hcb
  ·obtain ⟨ob,hob,hb'⟩:=hbl m o b h hbm;exact hs3 _ ob hob hb'
  ·rw [hx4.block b (Nat.lt_of_lt_of_le g1 H.ext.size) g4]
   exact H.ext.block b g1 fun h=>h.elim hn0 hno
 let ownr':Own:=⟨fun b=>ownk'.all b∨yR (qc own2) (ve σ ρ3) b∨b=l∨fz' b,fun b=>ownk'.prv b∨yR (qc own2) (ve σ ρ3) b∨b=l,fun b h=>h.imp (ownk'.sub b) fun h=>h.imp id .inl⟩
 have hall2:∀ b,yR (qc own2) (ve σ ρ3) b→¬ own3.all b:=fun b hk=>by obtain ⟨_,_,c,ob,_,_,hob,hcb⟩:=hb2 b hk;exact (H.blkOK c ob b hob hcb).1
 have hPn:∀ b,Pr b→¬ ownr'.all b:=fun b hb h=>by
  rcases h with h|h|h|h
  ·exact (hpr b (.inl hb)).1 h
  ·exact hall2 b h ((ha b).2 (.inr (.inl hb)))
  ·exact hPl b hb h
  ·exact h.2.1 ((hp b).2 (.inr (.inl hb)))
 have hok5:∀ b,fz' b→okB (w3.putObj l (.loop rc')) (kG ownr' Pr) ρx lent b:=fun b hb=>by
  refine ⟨Nat.lt_of_lt_of_le hb.1 hx4.size, ?_,hb.2.2.2⟩
  rintro ((h|h|h)|h)
  ·exact hb.2.1 ((hp b).2 (.inl h))
  ·exact hb.2.2.1 h
  ·exact hfzl b hb h
  ·exact hb.2.1 ((hp b).2 (.inr (.inl h)))
 have hM:∀ b,((kG ownk fun b=>Pr b∨b=l).prv b∨∃ i o,qc (own++zk hs n nl lent) i=some o∧blk (zn hs n nl ρk ρx i)=some b)→ownx.prv b∨∃ i o,lent i=some o∧blk (ρx i)=some b:=by
  rintro b ((h|h|h)|h)
  ·exact .inl ((hxp b).2 (.inl ((hR.prv b).2 (.inl h))))
  ·exact .inl ((hxp b).2 (.inr h))
  ·exact .inl ((hxp b).2 (.inl ((hR.prv b).2 (.inr (.inr h)))))
  ·rcases howns b h with h|h
   ·exact .inl ((hxp b).2 (.inl ((hR.prv b).2 (.inr (.inl h)))))
   ·exact .inr h
 refine ⟨ownk',fz',ownr',kG ownr' Pr, ?_,fun b=>Iff.rfl,fun b=>Iff.rfl,fun b hb=>⟨hPn b hb,Nat.lt_of_lt_of_le (hpr b (.inl hb)).2.1 hx4.size, ?_⟩,fun m o h=>?_,fun m o b h hb=>?_, ?_,fun b hb=>?_⟩
 ·refine ⟨(F.stable _ _ _ hj).2 _ (hx4.weaken fun b _ e ho=>(hpr l (.inr rfl)).1 (e ▸ ho)),fun b=>Iff.rfl,fun b=>Iff.rfl,fun b hb=>⟨Nat.lt_of_lt_of_le hb.1 hx4.size,fun h=>hb.2.1 ((hp b).2 (.inl h)),hb.2.2.1,hfzl b hb⟩,fun i o hi=>?_,fun i k o o' b hi hk hbi hbk=>?_,fun i o b hi hb=>?_,(hpr l (.inr rfl)).1, ?_,fun b hb=>?_,fun id hid=>?_,fun i o b hi hb=>?_,fun b hb=>?_,fun hj0=>?_,Nat.le_trans hR.big (Nat.le_trans H.ext.size hx4.size)⟩
  ·rcases hF.fown i o hi with ⟨c,ob,hc,hob,hle⟩|⟨hn,e,k,rfl,hk⟩
   ·rw [hσ i c hc]
    refine (AObj.le_rel hobjf hok3 hrow hσ hσ0 (H.obj c ob hob) hle).mono hfz4 (fun b hb=>hx4.block b ((H.obj c ob hob).lt hb) fun e=>(H.blkOK c ob b hob hb).1 (e ▸ hla)) fun _ _=>rfl
   ·rw [hσ0 i hn];exact Xm hk
  ·rcases hF.fown i o hi with ⟨c,ob,hc,hob,_⟩|⟨hn,_⟩
   ·rcases hF.fown k o' hk with ⟨c',ob',hc',hob',_⟩|⟨hn,_⟩
    ·rw [hσ i c hc] at hbi
     rw [hσ k c' hc'] at hbk
     have:=H.inj c c' ob ob' b hob hob' hbi hbk
     subst this
     exact hF.inj i o k o' c hi hk hc hc'
    ·rw [hσ0 k hn] at hbk;simp [blk] at hbk
   ·rw [hσ0 i hn] at hbi;simp [blk] at hbi
  ·have:=hall2 b ⟨i,o,hi,hb⟩
   exact ⟨fun h=>this ((ha b).2 (.inl h)),fun e=>this (e ▸ hla)⟩
  ·rw [xe,if_pos ⟨rfl,hl3⟩]
  ·obtain ⟨g1,g2⟩:=hR.oks b hb
   exact ⟨(hfz0 b g1).1,(hfz0 b g1).2.trans g2⟩
  ·obtain ⟨hlt,o,ho⟩:=hkeep id hid
   rw [hσ id id (hF.fkeep id hid),H.pins id o ho]
   show zn hs n nl ρk ρx id=_
   rw [zC hlt];exact hR.keep id hid
  ·obtain ⟨_,_,c,ob,_,_,hob,hcb⟩:=hb2 b ⟨i,o,hi,hb⟩
   rcases (H.blkOK c ob b hob hcb).2 with h'|h'
   ·exact .inl (Nat.le_trans hR.big h')
   ·rcases howns b h' with ⟨q,oq,hq,hqb⟩|⟨m,o0,h0,hm⟩
    ·exact hR.prov q oq b hq hqb
    ·exact absurd ⟨i,o,hi,hb⟩ (hcross b m o0 h0 hm)
  ·rcases H.ownsub b ((hp b).2 (.inl hb)) with h|h
   ·rcases h with h|h|h
    ·exact hR.psub b h
    ·exact absurd (ownk'.sub b hb) (hpr b (.inl h)).1
    ·exact absurd (ownk'.sub b hb) (hpr b (.inr h)).1
   ·exact .inr (Nat.le_trans hR.big h)
  ·have hS0:S.j=0:=by omega
   have he:=H.still hS0
   have hk:ownk=F.own0:=hR.still (by omega)
   have hnk:∀ b,ownk.all b→¬ (Pr b∨b=l):=fun b hb h=>by
    rcases h with h|rfl
    ·exact (hPr b h).1 ((hR.all b).2 (.inl hb))
    ·exact hR.lown hb
   have he':own3=kG ownk fun b=>Pr b∨b=l:=he
   rw [← hk]
   refine Own.eq (fun b=>⟨fun hb=>?_,fun hb=>?_⟩) (fun b=>⟨fun hb=>?_,fun hb=>?_⟩)
   ·have:=(ha b).2 (.inl hb);rw [he'] at this;exact this.resolve_right fun h=>(hpr b h).1 hb
   ·have:own3.all b:=by rw [he'];exact .inl hb
    exact ((ha b).1 this).resolve_right (hnk b hb)
   ·have:=(hp b).2 (.inl hb);rw [he'] at this;exact this.resolve_right fun h=>(hpr b h).1 (ownk'.sub b hb)
   ·have:own3.prv b:=by rw [he'];exact .inl hb
    exact ((hp b).1 this).resolve_right (hnk b (ownk.sub b hb))
 ·rw [hx4.block b (hpr b (.inl hb)).2.1 (hPl b hb)]
  exact ((hpr b (.inl hb)).2.2).trans (hw2 b hb)
 ·obtain ⟨ob,hob,hle⟩:=hF.flent m o h
  have h1:=AObj.le_rel (ok':=okB (w3.putObj l (.loop rc')) (kG ownr' Pr) ρx lent) (ρ':=fun j=>ρ3 (qo hs n j)) hobjf (fun b hb=>hok5 b (hok3 b hb)) (fun i ox b hi hb=>hok5 b (hrow i ox b hi hb)) (fun j i e=>by cases e;rfl) (fun j e=>by cases e) (H.obj _ ob hob) hle
  rw [hlρ m o h] at h1
  refine h1.mono (fun b hb=>⟨hb,hx4.block b (by have:=hb.1;simpa [World.putObj] using this) fun e=>hb.2.1 (.inl (.inr (.inr e)))⟩) (fun b hb=>?_) fun id hid=>?_
  ·obtain ⟨ob',hob',hb'⟩:=hbl m o b h hb
   exact hx4.block b ((H.obj _ ob' hob').lt hb') fun e=>(H.blkOK _ ob' b hob' hb').1 (e ▸ hla)
  ·obtain ⟨o',ho'⟩:=lids m o h id hid
   exact (hlρ id o' ho').symm
 ·rintro ((h'|h'|h'|h')|h')
  ·obtain ⟨ob,hob,hb'⟩:=hbl m o b h hb;exact (H.blkOK _ ob b hob hb').1 ((ha b).2 (.inl h'))
  ·exact hcross b m o h hb h'
  ·obtain ⟨ob,hob,hb'⟩:=hbl m o b h hb;exact (H.blkOK _ ob b hob hb').1 (h' ▸ hla)
  ·exact h'.2.2.2 m o h hb
  ·obtain ⟨ob,hob,hb'⟩:=hbl m o b h hb;exact (H.blkOK _ ob b hob hb').1 ((ha b).2 (.inr (.inl h')))
 ·have e1:Ext (fun b=>(kG ownk fun b=>Pr b∨b=l).prv b∨∃ i o,qc (own++zk hs n nl lent) i=some o∧blk (zn hs n nl ρk ρx i)=some b) w w3:=H.ext
  exact (e1.trans hx4 fun b _ e=>.inl (.inr (.inr e))).weaken fun b _ h=>hM b h
 ·rcases hb with (h|h|h)|h
  ·rcases H.ownsub b ((hp b).2 (.inl h)) with h|h
   ·rcases h with h|h|h
    ·exact .inl ((hxp b).2 (.inl ((hR.prv b).2 (.inl h))))
    ·exact .inl ((hxp b).2 (.inr h))
    ·exact .inl ((hxp b).2 (.inl ((hR.prv b).2 (.inr (.inr h)))))
   ·exact .inr h
  ·obtain ⟨_,_,c,ob,_,_,hob,hcb⟩:=hb2 b h
   rcases (H.blkOK c ob b hob hcb).2 with h'|h'
   ·exact .inr h'
   ·rcases howns b h' with h'|⟨m,o0,h0,hm⟩
    ·exact .inl ((hxp b).2 (.inl ((hR.prv b).2 (.inr (.inl h')))))
    ·exact absurd h (hcross b m o0 h0 hm)
  ·exact .inl ((hxp b).2 (.inl ((hR.prv b).2 (.inr (.inr h)))))
  ·exact .inl ((hxp b).2 (.inr h))
end Go.Sym
namespace Go.Sym
open Go
variable {A : Frm → Prop} {P : Program}
def QbN:Exit→Option Code
 |.normal=>none
 |.ret=>some .ret
 |.exit id=>some (.exit id)
 |.goto l=>some (.goto l)
 |.panic _=>none
 |.outgrown=>none
def recAt (rec0:Loop) (ans:Nat→Bool) (ex:Exit) (k:Nat):Loop:=if 0 < k∧ans (k - 1)=false then { rec0 with state:=.done,pending:=QbN ex } else rec0
def endK (ans:Nat→Bool) (ex:Exit) (jj:Nat→Nat) (hs:List Nat) (n:Nat) (hc:Nat→List (Nat × AObj)) (lent:Nat→Nat→Option AObj) (keep:Nat→Prop) (j:Nat):Exit→St→Prop :=
 fun e S=>(e=if ans j=true then .normal else ex)∧jj (j+1)=jj j+S.j∧∃ σ hf,RFin S hs n (hc (j+1)) (lent j) keep σ hf
theorem QeJ (ps:Array Nat) (vs tmps:Array Value):(ps.zip vs).foldl (fun tmps (t,a)=>tmps.setIfInBounds t a) tmps=(ps.toList.zip vs.toList).foldl (fun (tmps:Array Value) p=>tmps.setIfInBounds p.1 p.2) tmps:=by
 rw [← Array.foldl_toList];simp
end Go.Sym
namespace Go.Sym
open Go
variable {A : Frm → Prop} {P : Program}
def QbY (T:Nat→AV) (hs:List Nat) (n:Nat) (hm:Nat→List (Nat × AObj)) (h0:Nat→Option AObj) (jj:Nat→Nat) (d:List ADf) (m k:Nat):St :=
 {t:=T,h:=qc (hm k++zk hs (n+1) 0 h0),n:=n+1,j:=jj k,d:=.mark n :: d,m:=m }
theorem UD {L:List (Nat × AObj)} {k:Nat} {o:AObj} (h:(k,o) ∈ L):∃ o',qc L k=some o':=by
 induction L with
 |nil=>simp at h
 |cons p r ih =>
  simp only [qc]
  split
  ·exact ⟨_,rfl⟩
  ·rename_i hk
   rcases List.mem_cons.1 h with e|h
   ·exact absurd (by rw [← e]) hk
   ·exact ih h
theorem QbK {hs:List Nat} {n q:Nat} {h0:Nat→Option AObj} {o0:AObj} (hnd:hs.Nodup) (hq:h0 q=some o0) (hlt:q < hs.length):qc (zk hs n 0 h0) (qo hs n q)=some (o0.ren (qo hs n)):=by
 obtain ⟨o',ho'⟩:=UD (L:=zk hs n 0 h0) (k:=qo hs n q) (o:=o0.ren (qo hs n)) (List.mem_filterMap.2 ⟨q,List.mem_range.2 (by omega),by simp [hq]⟩)
 obtain ⟨q',o1,hlt',hq',e,rfl⟩:=xN ho'
 have hqq:q=q':=by
  simp only [qo,List.getElem?_eq_getElem hlt,List.getElem?_eq_getElem (show q' < hs.length by omega)] at e
  exact (List.getElem_inj (h₀:=hlt) (h₁:=by omega) hnd).1 e
 subst hqq
 rw [hq] at hq';cases hq'
 exact ho'
def QlE (T:Nat→AV) (hs:List Nat) (n m:Nat) (d:List ADf) (id:Nat):Prop:=id < m∨id ∈ hs∨(∃ t,id ∈ (T t).ids)∨id ∈ (ADf.mark n :: d).flatMap ADf.ids
end Go.Sym
namespace Go.Sym
open Go
variable {A : Frm → Prop} {P : Program}
def nth (L:List AObj) (i:Nat):Option AObj:=L[i]?
def vo (S:St) (hs:List Nat):List Nat→List AObj→Prop
 |c :: cs,o :: os=>(match S.h c with|some ob=>AObj.le (fun _=>none) (fun j=>hs[j]?) ob o|none=>False)∧vo S hs cs os
 |[],[]=>True
 |_,_=>False
theorem WK {S:St} {hs:List Nat}:∀ {cs:List Nat} {os:List AObj},vo S hs cs os→cs.length=os.length∧∀ (i:Nat) (o:AObj),os[i]?=some o→∃ c ob,cs[i]?=some c∧S.h c=some ob∧AObj.le (fun _=>none) (fun j=>hs[j]?) ob o
 |[],[],_=>by simp
 |c :: cs,o :: os,h=>by
  obtain ⟨h1,h2⟩:=h
  obtain ⟨g1,g2⟩:=WK h2
  refine ⟨by simp [g1],fun i o' ho=>?_⟩
  cases i with
  |zero =>
   simp only [List.getElem?_cons_zero,Option.some.injEq] at ho
   subst ho
   split at h1
   ·rename_i ob hob;exact ⟨c,ob,rfl,hob,h1⟩
   ·exact h1.elim
  |succ i=>simpa using g2 i o' (by simpa using ho)
 |[],_ :: _,h=>h.elim
 |_ :: _,[],h=>h.elim
def cbE (hs:List Nat) (ys:Nat→List AV) (hl:Nat→List AObj) (ans:Nat→Bool) (R:Nat) (S:St) (bs:List AV):Ans :=
 (S.j < R∧AV.leL (fun _=>none) (fun j=>hs[j]?) bs (ys S.j)∧vo S hs hs (hl S.j)∧∀ o ∈ hl S.j,∀ id ∈ o.ids,id < hs.length,za S hs [] [] (.v (.bool (ans S.j))) (nth (hl S.j)) 0 1)
theorem QdN {hp hp0:Nat→Option AObj} {ys:Nat→List AV} {hl:Nat→List AObj} {ans:Nat→Bool} {R:Nat} {hs:List Nat} (hA:∀ F,A F→Acb P hp hp0 ys (fun j=>nth (hl j)) ans R F) (hpin:∀ i o,hp i=some o→hs[i]?=some i) (hnd:hs.Nodup)
  {S:St} {bs:List AV} (h:(cbE hs ys hl ans R S bs).1) (hS:Wf S) {ops:Array Oper} {o:Oper} {g:Operand} {args:Array Operand} {tys:Array TypeId} {caps:List AV} (hw:Want ops o S)
  (ho:o.op=.call { callee:=.value g,args:=args,argTypes:=tys }) (hg:zO (ev S g)=some (none,caps)) (hb:args.toList.map (ev S)++caps=bs):VE A P ops o (cbE hs ys hl ans R S bs).2 S:=by
 obtain ⟨h1,h2,h3,h4⟩:=h
 have hg':ev S g=.cb∧caps=[]:=by
  unfold zO at hg
  split at hg
  ·simp at hg
  ·rename_i he;simp only [Option.some.injEq,Prod.mk.injEq,true_and] at hg;exact ⟨he,hg.symm⟩
  ·simp at hg
  ·cases hg
 obtain ⟨hg',rfl⟩:=hg'
 rw [List.append_nil] at hb
 obtain ⟨g1,g2⟩:=WK h3
 exact ve_cb hS hw ho hg' hA h1 (hs:=hs) (bo:=[]) (hf:=fun _=>none) hpin (by rw [hb];exact h2) (fun i o0 hi=>g2 i o0 hi) (fun j hj=>⟨_,List.getElem?_eq_getElem (by omega)⟩) hnd (fun i ob hi=>by cases hi) (by simp)
  (fun i ob hi=>⟨by have:=(List.getElem?_eq_some_iff.1 hi).1;omega,fun id hid=>by have:=h4 ob (List.mem_of_getElem? hi) id hid;omega⟩)
def tabC (cb:Entry) (L:List (FuncId × Entry)):Ctr:=fun S f bs=>match f with
 |some f=>QdR S f bs L
 |none=>cb S bs
theorem K6 {cb:Entry} {L:List (FuncId × Entry)} (hcb:∀ S bs,(cb S bs).1→Wf S→∀ ops o g args tys caps,Want ops o S→o.op=.call { callee:=.value g,args:=args,argTypes:=tys }→zO (ev S g)=some (none,caps)→args.toList.map (ev S)++caps=bs→VE A P ops o (cb S bs).2 S)
  (h:Qdc A P L):Ctr.OK A P (tabC cb L):=by
 intro S f bs hp hS ops o g args tys caps hw ho hg hb
 cases f with
 |none=>exact hcb S bs hp hS ops o g args tys caps hw ho hg (by rw [QdL hg] at hb;exact hb)
 |some f=>exact Qib h S (some f) bs hp hS ops o g args tys caps hw ho hg hb
end Go.Sym
namespace Go.Sym
open Go
variable {A : Frm → Prop} {P : Program}
theorem QeF {t e:TypeId} (ht:P.underlying t=some (.slice e)) (a:Option Addr) (n c:Nat) (w:World):(Op.equal t (.slice a n c) (.slice none 0 0)).run P w=.ok a.isNone w:=by
 have key:∀ d,(Op.equalIn (d+1) t (.slice a n c) (.slice none 0 0)).run P w=.ok a.isNone w:=fun d=>by
  cases a <;> simp [Op.equalIn,run_underlying ht]
 exact key 9999
theorem Qma {ops:Array Oper} {o:Oper} {F:Frm} {S:St} {a:Act} {w:World} (hg:Gam F S a w) {d t c:Nat} {x:Operand} {e:TypeId} (hd:o.dst=some d) (hgd:o.guard=none) (ho:o.op=.binOp .eql t x (.const (.slice none 0 0)) c) (hdn:d < F.nt) {xs:List (List DV)} (hx:ev S x=.sl xs)
  (ht:P.underlying t=some (.slice e)) {K:Act→World→Prop} {Q:Exit→Act→World→Prop} (hK:∀ b,(b=true→xs=[])→∀ a',Gam F (S.app (some d) { av:=.v (.bool b),n:=S.n }) a' w→K a' w):o.wpIn (W F.r) 0 P a w K Q:=by
 obtain ⟨ρ,own,H⟩:=hg
 have h1:=qL H x
 rw [hx] at h1
 generalize hv:a.eval x=v at h1
 cases h1 with
 |sl hdr =>
  have hshape:∃ A n c,v=.slice A n c∧(A.isNone=true→xs=[]):=by
   cases hdr with
   |sl0 hc=>exact ⟨_,_,_,rfl,fun _=>rfl⟩
   |sl f h1 h2=>exact ⟨_,_,_,rfl,fun h=>by simp at h⟩
  obtain ⟨A0,n0,c0,rfl,hnil⟩:=hshape
  have hcv:a.eval (.const (.slice none 0 0))=.slice none 0 0:=rfl
  refine wM (w':=w) (v:=.bool A0.isNone) (by simp [ho]) ?_ ?_
  ·have hgu:(eqGuard .eql t x (.const (.slice none 0 0)) (.slice A0 n0 c0) (.slice none 0 0)).run P w=.ok () w:=by simp [eqGuard]
   simp [execOp,ho,hv,hcv,hgu,binOp,QeF ht]
  ·rw [hd]
   refine hK _ hnil _ ⟨ρ,own, ?_⟩
   have:=H.app (dst:=some d) (e:={ av:=.v (.bool A0.isNone),n:=S.n }) (v':=.bool A0.isNone) (w':=w) (ρ':=ρ) (own':=own) (ds:=[]) (fun q hq=>by cases hq;exact hdn) H.jay (Ext.refl _ _) (.inl rfl) (by simp) (fun _ _=>rfl) (by simp) (.v rfl)
    (by simp [Eff.keys]) (by simp [Eff.keys]) (by simp [Eff.ids,AV.ids,zK]) .nil
   simpa [Act.put] using this
theorem Qkv {o:Oper} {F:Frm} {S:St} {a:Act} {w:World} (hg:Gam F S a w) {d:Nat} {x:Operand} (hd:o.dst=some d) (ho:o.op=.move x) (hdn:d < F.nt) {K:Act→World→Prop} {Q:Exit→Act→World→Prop}
  (hK:∀ a',Gam F (S.app (some d) { av:=ev S x,n:=S.n }) a' w→K a' w):o.wpIn (W F.r) 0 P a w K Q:=by
 have hwf:=hg.wf
 obtain ⟨ρ,own,H⟩:=hg
 refine wM (w':=w) (v:=a.eval x) (by simp [ho]) (by simp [execOp,ho]) ?_
 rw [hd]
 refine hK _ ⟨ρ,own, ?_⟩
 have:=H.app (dst:=some d) (e:={ av:=ev S x,n:=S.n }) (v':=a.eval x) (w':=w) (ρ':=ρ) (own':=own) (ds:=[]) (fun q hq=>by cases hq;exact hdn) H.jay (Ext.refl _ _) (.inl rfl) (by simp) (fun _ _=>rfl) (by simp) (qL H x)
  (by simp [Eff.keys]) (by simp [Eff.keys]) (fun id hid=>by
   have:=jO hwf x id (by simpa [Eff.ids,zK] using hid)
   exact Nat.lt_of_lt_of_le this (Nat.le_max_left _ _)) .nil
 simpa [Act.put] using this
theorem kL {id d1 d2 t c:Nat} {o1 o2:Oper} {x:Operand} {S:St} {K:Exit→St→Prop} {e:TypeId} {xs:List (List DV)} (hd1:o1.dst=some d1) (hg1:o1.guard=none) (ho1:o1.op=.move x) (hd2:o2.dst=some d2) (hg2:o2.guard=none) (ho2:o2.op=.binOp .eql t (.tmp d1) (.const (.slice none 0 0)) c)
  (ht:P.underlying t=some (.slice e)) (hx:ev S x=.sl xs) (h:∀ b,(b=true→xs=[])→K .normal ((S.app (some d1) { av:=.sl xs,n:=S.n }).app (some d2) { av:=.v (.bool b),n:=(S.app (some d1) { av:=.sl xs,n:=S.n }).n })):Sym A P (.region id #[o1,o2] false) S K:=by
 intro F hF hd a w hg
 simp only [yU,List.all_cons,List.all_nil,Bool.and_true,Bool.and_eq_true,Qba,hd1,hd2,decide_eq_true_eq] at hd
 refine wpIn_region ?_
 show wpOpsIn (W F.r) 0 P #[o1,o2] _ [0,1] a w
 have w1:∀ y,Region.wanted o1 y=true:=fun y=>by simp [Region.wanted,hg1]
 have w2:∀ y,Region.wanted o2 y=true:=fun y=>by simp [Region.wanted,hg2]
 simp only [wpOpsIn,List.getElem?_toArray,List.getElem?_cons_zero,List.getElem?_cons_succ,w1,w2,if_true]
 refine Qkv hg hd1 ho1 hd.1 fun a' hg'=>?_
 rw [hx] at hg'
 refine Qma (ops:=#[]) hg' hd2 hg2 ho2 hd.2 (x:=.tmp d1) (xs:=xs) (by simp [ev,St.app,put,upd_same]) ht fun b hb a'' hg''=>?_
 exact ⟨_,h b hb,hg''⟩
end Go.Sym
namespace Go.Sym
open Go
theorem Fin.ok {S:St} {rv v:AV} {n0:Nat} {H:List (Nat × AObj)} {dj:Nat} (σ:Nat→Option Nat) (fz:List Nat) (hv:AV.le (fun i=>if i ∈ fz then S.h i else none) σ rv v) (hh:leH S (fun i=>if i ∈ fz then S.h i else none) σ H)
  (hi:(Jw σ H).Nodup) (hz:∀ i ∈ fz,i ∉ Jw σ H) (hp:∀ i,i < n0→σ i=some i) (hj:S.j=dj):Fin S rv v n0 (qc H) dj:=by
 refine ⟨σ,_,hv,fun i o1 h=>YP hh _ (qF h),fun i o k o' c h h' e e'=>?_,fun i o h=>?_,hp,hj⟩
 ·rcases Jn hi _ (qF h) _ (qF h') c e e' with h|h|h
  ·exact congrArg (·.1) h
  ·exact h
  ·exact h.elim
 ·by_cases hm:i ∈ fz
  ·rw [if_pos hm] at h
   exact ⟨h,fun j o1 hj hs=>hz i hm (List.mem_filterMap.2 ⟨_,qF hj,hs⟩)⟩
  ·rw [if_neg hm] at h;cases h
variable {A : Frm → Prop} {P : Program}
def qD:Nat→List AObj→List (Nat × AObj)
 |_,[]=>[]
 |k,o :: os=>(k,o) :: qD (k+1) os
def zm:Nat→List (Option AObj)→List (Nat × AObj)
 |_,[]=>[]
 |k,some o :: os=>(k,o) :: zm (k+1) os
 |k,none :: os=>zm (k+1) os
theorem zX:∀ (L:List AObj) (k i:Nat),qc (qD k L) i=if i < k then none else L[i - k]?
 |[],k,i=>by simp [qD,qc]
 |o :: os,k,i=>by
  simp only [qD,qc]
  by_cases h:i=k
  ·subst h;simp
  ·rw [if_neg h,zX os (k+1) i]
   by_cases h1:i < k
   ·rw [if_pos h1,if_pos (by omega)]
   ·rw [if_neg h1,if_neg (by omega),show i - k=(i - (k+1))+1 by omega,List.getElem?_cons_succ]
theorem xP:∀ (L:List (Option AObj)) (k i:Nat),qc (zm k L) i=if i < k then none else (L[i - k]?).join
 |[],k,i=>by simp [zm,qc]
 |o :: os,k,i=>by
  have key:qc (zm k (o :: os)) i=if i=k then o else qc (zm (k+1) os) i:=by
   cases o with
   |none =>
    simp only [zm]
    by_cases h:i=k
    ·subst h;rw [if_pos rfl,xP os,if_pos (by omega)]
    ·rw [if_neg h]
   |some o=>simp only [zm,qc]
  rw [key]
  by_cases h:i=k
  ·subst h;simp
  ·rw [if_neg h,xP os (k+1) i]
   by_cases h1:i < k
   ·rw [if_pos h1,if_pos (by omega)]
   ·rw [if_neg h1,if_neg (by omega),show i - k=(i - (k+1))+1 by omega,List.getElem?_cons_succ]
structure Pk where
 pre:Prop:=True
 hs:List Nat:=[]
 bo:List Nat:=[]
 ar:List AV
 L0:List AObj:=[]
 v:AV
 L1:List (Option AObj):=[]
 fl:Bool:=false
def KF (S:St) (hf:Nat→Option AObj) (hs:List Nat):List Nat→List AObj→Prop
 |c :: cs,o :: os=>(match S.h c with|some ob=>AObj.le hf (fun j=>hs[j]?) ob o|none=>False)∧KF S hf hs cs os
 |[],[]=>True
 |_,_=>False
theorem ZN {S:St} {hf:Nat→Option AObj} {hs:List Nat}:∀ {cs:List Nat} {os:List AObj},KF S hf hs cs os→cs.length=os.length∧∀ (i:Nat) (o:AObj),os[i]?=some o→∃ c ob,cs[i]?=some c∧S.h c=some ob∧AObj.le hf (fun j=>hs[j]?) ob o
 |[],[],_=>by simp
 |c :: cs,o :: os,h=>by
  obtain ⟨h1,h2⟩:=h
  obtain ⟨g1,g2⟩:=ZN h2
  refine ⟨by simp [g1],fun i o' ho=>?_⟩
  cases i with
  |zero =>
   simp only [List.getElem?_cons_zero,Option.some.injEq] at ho
   subst ho
   split at h1
   ·rename_i ob hob;exact ⟨c,ob,rfl,hob,h1⟩
   ·exact h1.elim
  |succ i=>simpa using g2 i o' (by simpa using ho)
 |[],_ :: _,h=>h.elim
 |_ :: _,[],h=>h.elim
def Qbz (n:Nat):List (Option AObj)→Prop
 |[]=>True
 |some o :: r=>(∀ id ∈ o.ids,id < n)∧Qbz n r
 |none :: r=>Qbz n r
theorem Zl {n:Nat}:∀ {L:List (Option AObj)},Qbz n L→∀ (i:Nat) (o:AObj),L[i]?=some (some o)→∀ id ∈ o.ids,id < n
 |some o :: r,h,0,o',ho=>by simp only [List.getElem?_cons_zero,Option.some.injEq] at ho;subst ho;exact h.1
 |none :: r,h,0,o',ho=>by simp at ho
 |some o :: r,h,i+1,o',ho=>Zl h.2 i o' (by simpa using ho)
 |none :: r,h,i+1,o',ho=>Zl (L:=r) h i o' (by simpa using ho)
def Xi:List (Option AObj)→Prop
 |[]=>True
 |some o :: r=>o.flat∧Xi r
 |none :: r=>Xi r
theorem Z5:∀ {L:List (Option AObj)},Xi L→∀ (i:Nat) (o:AObj),L[i]?=some (some o)→o.flat
 |some o :: r,h,0,o',ho=>by simp only [List.getElem?_cons_zero,Option.some.injEq] at ho;subst ho;exact h.1
 |none :: r,h,0,o',ho=>by simp at ho
 |some o :: r,h,i+1,o',ho=>Z5 h.2 i o' (by simpa using ho)
 |none :: r,h,i+1,o',ho=>Z5 (L:=r) h i o' (by simpa using ho)
def QgF (S:St) (hs:List Nat):List Nat→Prop
 |[]=>True
 |c :: cs=>((S.h c).isSome=true∧c ∉ hs)∧QgF S hs cs
theorem xh {S:St} {hs:List Nat}:∀ {bo:List Nat},QgF S hs bo→∀ i ∈ bo,(∃ ob,S.h i=some ob)∧i ∉ hs
 |c :: cs,h,i,hi=>by
  rcases List.mem_cons.1 hi with rfl|hi
  ·exact ⟨Option.isSome_iff_exists.1 h.1.1,h.1.2⟩
  ·exact xh h.2 i hi
def hwL (τ:Nat→Nat):Nat→List (Option AObj)→List (Nat × Option AObj)
 |_,[]=>[]
 |j,o :: os=>(τ j,o.map (AObj.ren τ)) :: hwL τ (j+1) os
theorem RG (τ:Nat→Nat):∀ (L:List (Option AObj)) (k:Nat),hwL τ k L=(List.range L.length).map fun j=>(τ (k+j),((L[j]?).join).map (AObj.ren τ))
 |[],k=>rfl
 |o :: os,k=>by
  rw [hwL,RG τ os (k+1),List.length_cons,List.range_succ_eq_map,List.map_cons,List.map_map]
  congr 1
  refine List.map_congr_left fun j _=>?_
  simp only [Function.comp_apply,List.getElem?_cons_succ,Nat.succ_eq_add_one]
  rw [show k+1+j=k+(j+1) by omega]
def Vz:Nat→Nat→List Nat
 |_,0=>[]
 |n,k+1=>n :: Vz (n+1) k
theorem Qaj:∀ (k n:Nat),Vz n k=(List.range k).map (n+·)
 |0,n=>rfl
 |k+1,n=>by
  rw [Vz,Qaj k,List.range_succ_eq_map,List.map_cons,List.map_map]
  congr 1
  refine List.map_congr_left fun j _=>?_
  simp only [Function.comp_apply,Nat.succ_eq_add_one]
  omega
def Pk.hf (q:Pk) (S:St):Nat→Option AObj:=fun i=>if i ∈ q.bo then S.h i else none
def Pk.ok (q:Pk) (S:St) (bs:List AV):Prop :=
 q.pre∧AV.leL (q.hf S) (fun j=>q.hs[j]?) bs q.ar∧KF S (q.hf S) q.hs q.hs q.L0∧q.hs.Nodup∧QgF S q.hs q.bo∧q.hs.length≤q.L1.length∧(∀ id ∈ q.v.ids,id < q.L1.length)∧Qbz q.L1.length q.L1∧(q.fl=true→q.v.flat∧Xi q.L1)
def Pk.eff (q:Pk) (S:St):Eff :=
 {av:=q.v.ren (qo q.hs S.n),hw:=hwL (qo q.hs S.n) 0 q.L1++q9 (bif q.fl then [] else q.bo),hr:=q.hs++q.bo,news:=Vz S.n (q.L1.length - q.hs.length),n:=S.n+(q.L1.length - q.hs.length) }
def fnE (spec:St→List AV→Option Pk) (S:St) (bs:List AV):Ans:=match spec S bs with
 |none=>bad
 |some q=>(q.ok S bs,q.eff S)
theorem Pk.eff_eq (q:Pk) (S:St) (hl:q.hs.length≤q.L1.length):q.eff S=za S q.hs q.bo (bif q.fl then [] else q.bo) q.v (qc (zm 0 q.L1)) (q.L1.length - q.hs.length) 0:=by
 simp only [Pk.eff,za,RG,Qaj,xP,Nat.not_lt_zero,if_false,Nat.sub_zero,Nat.zero_add]
 rw [show q.hs.length+(q.L1.length - q.hs.length)=q.L1.length by omega]
theorem XQ {f:FuncId} {spec:St→List AV→Option Pk} (hf:∀ S bs q,spec S bs=some q→q.pre→Fn noB P f q.ar (qc (qD 0 q.L0)) q.v (qc (zm 0 q.L1)) 0)
  {S:St} {bs:List AV} (h:(fnE spec S bs).1) (hS:Wf S) {ops:Array Oper} {o:Oper} {g:Operand} {args:Array Operand} {tys:Array TypeId} {caps:List AV} (hw:Want ops o S)
  (ho:o.op=.call { callee:=.value g,args:=args,argTypes:=tys }) (hg:zO (ev S g)=some (some f,caps)) (hb:Zg (ev S g)++(args.toList.map (ev S)++caps)=bs):VE A P ops o (fnE spec S bs).2 S:=by
 unfold fnE at h ⊢
 cases hq:spec S bs with
 |none=>rw [hq] at h;exact h.elim
 |some q =>
  rw [hq] at h
  simp only at h ⊢
  obtain ⟨h1,h2,h3,h4,h5,h6,h7,h8,h9⟩:=h
  rw [q.eff_eq S h6]
  have hgc:=QN hg
  obtain ⟨g1,g2⟩:=ZN h3
  have hlen:q.hs.length+(q.L1.length - q.hs.length)=q.L1.length:=by omega
  have get1:∀ i o,qc (zm 0 q.L1) i=some o→q.L1[i]?=some (some o):=fun i o hi=>by
   rw [xP,if_neg (by omega),Nat.sub_zero] at hi
   cases hh:q.L1[i]? with
   |none=>rw [hh] at hi;cases hi
   |some x=>rw [hh] at hi;simp only [Option.join_some] at hi;rw [hi]
  refine Us hS hw ho hgc (hf S bs q hq h1) (fun h=>absurd rfl h) (fun _ _ _ _ _ _ _ _ _ _=>trivial) (hf:=q.hf S) (by rw [hb];exact h2) (fun i o0 hi=>?_) (fun j hj=>?_) h4 (fun i ob hi=>?_) (xh h5) ?_ (by rw [hlen];exact h7) (fun i ob hi=>?_)
  ·rw [zX,if_neg (by omega),Nat.sub_zero] at hi
   exact g2 i o0 hi
  ·rw [zX,if_neg (by omega),Nat.sub_zero]
   exact ⟨_,List.getElem?_eq_getElem (by omega)⟩
  ·unfold Pk.hf at hi
   by_cases hm:i ∈ q.bo
   ·rw [if_pos hm] at hi;exact ⟨hi,(xh h5 i hm).2,hm⟩
   ·rw [if_neg hm] at hi;cases hi
  ·cases hfl:q.fl with
   |false=>exact .inl rfl
   |true =>
    obtain ⟨e1,e2⟩:=h9 hfl
    exact .inr ⟨rfl,e1,fun i ob hi=>Z5 e2 i ob (get1 i ob hi)⟩
  ·rw [hlen]
   have:=get1 i ob hi
   exact ⟨(List.getElem?_eq_some_iff.1 this).1,Zl h8 i ob this⟩
theorem qZ {f:FuncId} {spec:St→List AV→Option Pk} (hf:∀ S bs q,spec S bs=some q→q.pre→Fn noB P f q.ar (qc (qD 0 q.L0)) q.v (qc (zm 0 q.L1)) 0):qm A P f (fnE spec) :=
 fun _ _ h hS _ _ _ _ _ _ hw ho hg hb=>XQ hf h hS hw ho hg hb
end Go.Sym
namespace Go.Sym
def z1:=@not_false_eq_true
def z2:=@not_true_eq_false
def z3:=@Nat.max_self
def z4:=@Nat.max_def
def z5:=@List.toList_toArray
def z6:=@Bool.not_true
def z7:=@Bool.not_false
def z8:=@beq_self_eq_true
def z9:=@Bool.or_true
def z10:=@Bool.true_or
def z11:=@Bool.or_self
def z12:=@Bool.false_or
def z13:=@Bool.or_false
def z14:=@List.getElem?_toArray
def z15:=@List.getElem?_cons_succ
def z16:=@List.getElem?_cons_zero
def z17:=@List.getElem?_nil
def z18:=@Option.bind_some
def z19:=@List.nil_append
def z20:=@decide_eq_true_eq
def z21:=@decide_eq_false_iff_not
def z22:=@Bool.not_eq_true'
def z23:=@Bool.not_eq_false'
def z24:=@List.all_cons
def z25:=@List.all_nil
def z26:=@Bool.and_self
def z27:=@Bool.and_true
def z28:=@Bool.true_and
def z29:=@List.length_cons
def z30:=@List.length_nil
def z31:=@List.drop_succ_cons
def z32:=@List.drop_zero
def z33:=@List.take_succ_cons
def z34:=@List.take_zero
def z35:=@List.take_nil
def z36:=@List.drop_nil
def z37:=@List.map_cons
def z38:=@List.map_nil
def z39:=@List.cons_append
def z40:=@List.append_nil
def z41:=@List.headD_cons
def z42:=@Option.getD_some
def z43:=@Nat.zero_add
def z44:=@Nat.add_zero
def z45:=@Nat.zero_mul
def z46:=@Int.toNat_natCast
def z47:=@Int.natCast_nonneg
def z48:=@Nat.le_refl
def z49:=@Option.isSome_some
def z50:=@Option.map_some
def z51:=@Option.map_none
def z52:=@List.length_map
def z53:=@List.mem_singleton
def z54:=@List.mem_cons
def z55:=@List.not_mem_nil
def z56:=@List.nodup_cons
def z57:=@List.nodup_nil
def z58:=@false_implies
def z59:=@implies_true
def z60:=@forall_eq_or_imp
def z61:=@forall_const
def z62:=@Option.some.injEq
def z63:=@Int.toNat_zero
def z64:=@Int.le_refl
def z65:=@Nat.lt_add_one
def z66:=@Nat.zero_lt_succ
def z67:=@Nat.zero_le
end Go.Sym
namespace Go.Sym
open Go
def vk0:=And.intro @Zq.eq_1 (And.intro @Zq.eq_2 (And.intro @Qdb.eq_1 (And.intro @Qdb.eq_2 (And.intro @QdM.eq_1 (And.intro @V9.eq_1 (And.intro @V9.eq_2 (And.intro @opE.eq_1 (And.intro @opE.eq_2 (And.intro @opE.eq_3 (And.intro @opE.eq_4 (And.intro @opE.eq_5 (And.intro @opE.eq_6 (And.intro @opE.eq_7 (And.intro @opE.eq_8 (And.intro @opE.eq_9 (And.intro @opE.eq_10 (And.intro @opE.eq_11 (And.intro @opE.eq_12 (And.intro @opE.eq_13 (And.intro @opE.eq_14 (And.intro @opE.eq_15 (And.intro @opE.eq_16 (And.intro @opE.eq_17 (And.intro @opE.eq_18 (And.intro @opE.eq_19 (And.intro @opE.eq_20 (And.intro @L9.eq_1 (And.intro @L9.eq_2 (And.intro @rdE.eq_1 (And.intro @rdE.eq_2 (And.intro @rdE.eq_3 (And.intro @rdE.eq_4 (And.intro @JV.eq_1 (And.intro @JV.eq_2 (And.intro @QdX.eq_1 (And.intro @QdX.eq_2 (And.intro @QdX.eq_3 (And.intro @QdX.eq_4 (@ZC.eq_1)))))))))))))))))))))))))))))))))))))))
def vk1:=And.intro @ZC.eq_2 (And.intro @ZC.eq_3 (And.intro @ZC.eq_4 (And.intro @Zk.eq_1 (And.intro @Zk.eq_2 (And.intro @Zk.eq_3 (And.intro @Zk.eq_4 (And.intro @Zk.eq_5 (And.intro @Zk.eq_6 (And.intro @Zk.eq_7 (And.intro @QbV.eq_1 (And.intro @QbV.eq_2 (And.intro @boxE.eq_1 (And.intro @QH.eq_1 (And.intro @QH.eq_2 (And.intro @QH.eq_3 (And.intro @QH.eq_4 (And.intro @xX.eq_1 (And.intro @xX.eq_2 (And.intro @xX.eq_3 (And.intro @xX.eq_4 (And.intro @xX.eq_5 (And.intro @xX.eq_6 (And.intro @xX.eq_7 (And.intro @xX.eq_8 (And.intro @xX.eq_9 (And.intro @xX.eq_10 (And.intro @xX.eq_11 (And.intro @xX.eq_12 (And.intro @xX.eq_13 (And.intro @xX.eq_14 (And.intro @xX.eq_15 (And.intro @xX.eq_16 (And.intro @xX.eq_17 (And.intro @XD.eq_1 (And.intro @XD.eq_2 (And.intro @XD.eq_3 (And.intro @XD.eq_4 (And.intro @Qd4.eq_1 (@Qd4.eq_2)))))))))))))))))))))))))))))))))))))))
def vk2:=And.intro @Qd4.eq_3 (And.intro @eqE.eq_1 (And.intro @eqE.eq_2 (And.intro @eqE.eq_3 (And.intro @unE.eq_1 (And.intro @unE.eq_2 (And.intro @unE.eq_3 (And.intro @Xe.eq_1 (And.intro @Xe.eq_2 (And.intro @Qcf.eq_1 (And.intro @Qcf.eq_2 (And.intro @JB.eq_1 (And.intro @JB.eq_2 (And.intro @JB.eq_3 (And.intro @JB.eq_4 (And.intro @JB.eq_5 (And.intro @JB.eq_6 (And.intro @JB.eq_7 (And.intro @JB.eq_8 (And.intro @JB.eq_9 (And.intro @vE.eq_1 (And.intro @vE.eq_2 (And.intro @vE.eq_3 (And.intro @vE.eq_4 (And.intro @vE.eq_5 (And.intro @dstE.eq_1 (And.intro @dstE.eq_2 (And.intro @dstE.eq_3 (And.intro @dstE.eq_4 (And.intro @Qhe.eq_1 (And.intro @Qhe.eq_2 (And.intro @Qa0 (And.intro @Yu (And.intro @XA (And.intro @Qcj.eq_1 (And.intro @Qcj.eq_2 (And.intro @isSlice.eq_1 (And.intro @isSlice.eq_2 (And.intro @minE.eq_1 (@minE.eq_2)))))))))))))))))))))))))))))))))))))))
end Go.Sym
