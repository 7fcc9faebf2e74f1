/- Walks and what they compute, joined: part 1. -/
import Derived.ControlIn
import Derived.CallsIn
import Derived.OrdersIn
import Derived.RangeFuncRecord
import Derived.Maps.AppendAt
import Derived.OwnWalk
import Derived.Below
import Derived.Laws.StructEq
import Derived.Laws.Cells
import Derived.Laws.CopyRow
import Derived.Laws.Slices
import Derived.Laws.MakeOwn
import Derived.RangeFuncLeaves
import Derived.Maps.Keyed
import Derived.Laws.Strings
import Derived.Laws.BytesString
import Derived.RecoverIn
import Derived.WalkSmall
import Derived.Laws.IdiomRangeMap
import Derived.Scope
import Derived.ChangeSlices
import Derived.WideShapes
import Derived.DataReads
set_option linter.all false
set_option maxHeartbeats 40000000
namespace Go.Sym
open Go
def _root_.Go.Sym.ea {a b:Prop} (x:a) (y:b):a/\b:=⟨x,y⟩
def _root_.Go.Sym.ab:=@List.length_map
def _root_.Go.Sym.ae:=@List.mem_cons
def _root_.Go.Sym.af:=@Nat.zero_le
def _root_.Go.Sym.ag:=@Nat.le_refl
def _root_.Go.Sym.ah:=@List.getD_eq_getElem?_getD
def _root_.Go.Sym.ai:=@List.map_append
def _root_.Go.Sym.aj:=@List.mem_map
def _root_.Go.Sym.ak:=@Option.some.injEq
def _root_.Go.Sym.al:=@List.getElem?_eq_getElem
def _root_.Go.Sym.ao:=@List.mem_of_getElem?
def _root_.Go.Sym.aq:=@List.getElem?_eq_some_iff
def _root_.Go.Sym.au:=@List.mem_append
def _root_.Go.Sym.aw:=@List.map_cons
def _root_.Go.Sym.aA:=@Option.map_eq_some_iff
def _root_.Go.Sym.aC:=@List.getElem?_map
def _root_.Go.Sym.aD:=@List.length_append
def _root_.Go.Sym.aE:=@Nat.add_mul
def _root_.Go.Sym.aF:=@List.mem_range
def _root_.Go.Sym.aG:=@Nat.mul_le_mul_right
def _root_.Go.Sym.aH:=@Sem.run_bind
def _root_.Go.Sym.aJ:=@Result.andThen_ok
def _root_.Go.Sym.aK:=@List.getElem?_cons_zero
def _root_.Go.Sym.aL:=@Sem.run_pure
def _root_.Go.Sym.aM:=@List.mem_singleton
def _root_.Go.Sym.aN:=@Nat.lt_of_lt_of_le
def _root_.Go.Sym.aO:=@List.not_mem_nil
def _root_.Go.Sym.aP:=@List.getElem?_take
def _root_.Go.Sym.aQ:=@List.mem_cons_of_mem
def _root_.Go.Sym.aR:=@Int.toNat_natCast
def _root_.Go.Sym.aT:=@Array.getElem?_eq_some_iff
def _root_.Go.Sym.aV:=@List.mem_cons_self
def _root_.Go.Sym.aW:=@List.mem_of_mem_drop
def _root_.Go.Sym.aX:=@List.map_nil
def _root_.Go.Sym.aY:=@List.mem_of_mem_take
def _root_.Go.Sym.aZ:=@Bool.and_eq_true
def _root_.Go.Sym.ba:=@Array.length_toList
def _root_.Go.Sym.bb:=@List.take_of_length_le
def _root_.Go.Sym.bc:=@List.nil_append
def _root_.Go.Sym.be:=@List.length_drop
def _root_.Go.Sym.bf:=@List.append_nil
def _root_.Go.Sym.bi:=@List.length_take
def _root_.Go.Sym.bj:=@Nat.le_trans
def _root_.Go.Sym.bl:=@List.length_cons
def _root_.Go.Sym.bm:=@Nat.lt_of_not_le
def _root_.Go.Sym.bp:=@List.getElem?_append_left
def _root_.Go.Sym.bq:=@List.all_eq_true
def _root_.Go.Sym.bt:=@List.getElem?_cons_succ
def _root_.Go.Sym.bu:=@List.eq_nil_of_length_eq_zero
def _root_.Go.Sym.bv:=@List.getElem?_append_right
def _root_.Go.Sym.bw:=@Nat.sub_zero
def _root_.Go.Sym.bx:=@List.take_length
def _root_.Go.Sym.bz:=@Nat.lt_or_eq_of_le
def _root_.Go.Sym.bA:=@List.map_drop
def _root_.Go.Sym.bB:=@List.getElem_of_mem
def _root_.Go.Sym.bC:=@Nat.add_zero
def _root_.Go.Sym.bD:=@Nat.le_max_right
def _root_.Go.Sym.bE:=@Nat.zero_add
def _root_.Go.Sym.bF:=@List.getElem_mem
def _root_.Go.Sym.bG:=@Array.getD_eq_getD_getElem?
def _root_.Go.Sym.bH:=@List.headD_cons
def _root_.Go.Sym.bI:=@Nat.mul_one
def _root_.Go.Sym.bJ:=@List.length_replicate
def _root_.Go.Sym.bK:=@Nat.lt_or_ge
def _root_.Go.Sym.bL:=@List.range_succ
def _root_.Go.Sym.bM:=@List.getElem?_drop
def _root_.Go.Sym.bN:=@List.getElem?_of_mem
def _root_.Go.Sym.bO:=@List.map_map
def _root_.Go.Sym.bP:=@List.map_congr_left
def _root_.Go.Sym.bQ:=@Int.le_trans
def _root_.Go.Sym.bR:=@Nat.add_comm
def _root_.Go.Sym.bS:=@List.ext_getElem?
def _root_.Go.Sym.bT:=@List.flatMap_nil
def _root_.Go.Sym.bU:=@List.append_assoc
def _root_.Go.Sym.bV:=@List.mem_or_eq_of_mem_set
def _root_.Go.Sym.bW:=@Nat.mul_comm
def _root_.Go.Sym.bX:=@Int.tmod_eq_emod_of_nonneg
def _root_.Go.Sym.bY:=@Nat.le_of_lt_succ
def _root_.Go.Sym.bZ:=@Int.toNat_of_nonneg
def _root_.Go.Sym.ca:=@List.mem_filterMap
def _root_.Go.Sym.cd:=@List.size_toArray
def _root_.Go.Sym.ce:=@Nat.mod_lt
def _root_.Go.Sym.cg:=@List.map_toArray
def _root_.Go.Sym.ci:=@Option.map_none
def _root_.Go.Sym.cj:=@Option.map_some
def _root_.Go.Sym.ck:=@Nat.add_assoc
def _root_.Go.Sym.cm:=@List.length_nil
def _root_.Go.Sym.cp:=@Array.getElem?_eq_getElem
def _root_.Go.Sym.cq:=@Array.getElem?_eq_none
def _root_.Go.Sym.cr:=@List.getElem?_eq_none
def _root_.Go.Sym.cu:=@List.getElem?_toArray
def _root_.Go.Sym.cv:=@Nat.mod_eq_of_lt
def _root_.Go.Sym.cw:=@Int.le_refl
def _root_.Go.Sym.cz:=@List.nodup_cons
def _root_.Go.Sym.cA:=@Nat.succ_mul
def _root_.Go.Sym.cB:=@Option.isSome_iff_exists
def _root_.Go.Sym.cD:=@List.cons_append
def _root_.Go.Sym.cE:=@Int.mul_pos
def _root_.Go.Sym.cF:=@Int.mul_le_mul
def _root_.Go.Sym.cG:=@Int.emod_nonneg
def _root_.Go.Sym.cH:=@Int.mul_sub
def _root_.Go.Sym.cI:=@List.take_add_one
def _root_.Go.Sym.cJ:=@Nat.le_zero
def _root_.Go.Sym.cK:=@Nat.le_max_left
def _root_.Go.Sym.cL:=@Bool.or_eq_true
def _root_.Go.Sym.cM:=@List.flatMap_cons
def _root_.Go.Sym.cN:=@Bool.false_eq_true
def _root_.Go.Sym.cO:=@List.getElem?_set
def _root_.Go.Sym.cP:=@Array.getElem?_append
def _root_.Go.Sym.cQ:=@List.flatten_cons
def _root_.Go.Sym.cR:=@Nat.not_lt_zero
def _root_.Go.Sym.cS:=@List.take_succ_eq_append_getElem
def _root_.Go.Sym.cT:=@Nat.mul_le_mul
def _root_.Go.Sym.cU:=@Int.ofNat_le
def _root_.Go.Sym.cV:=@Int.emod_lt_of_pos
def _root_.Go.Sym.cW:=@Nat.zero_mul
def _root_.Go.Sym.cX:=@List.flatMap_append
def _root_.Go.Sym.cY:=@Array.eq_empty_of_size_eq_zero
def _root_.Go.Sym.cZ:=@Array.getElem?_toList
def _root_.Go.Sym.c8:=@List.eq_of_mem_replicate
def _root_.Go.Sym.da:=@List.getElem?_replicate
def _root_.Go.Sym.db:=@List.singleton_append
def _root_.Go.Sym.dh:=@List.drop_eq_getElem_cons
def _root_.Go.Sym.di:=@List.filterMap_cons
def _root_.Go.Sym.dk:=@List.any_eq_true
def _root_.Go.Sym.dm:=@Nat.le_of_dvd
def _root_.Go.Sym.dn:=@Int.mul_ediv_add_emod
def _root_.Go.Sym.dp:=@List.length_set
def _root_.Go.Sym.dq:=@Int.mul_nonneg
def _root_.Go.Sym.dt:=@List.take_append_drop
def _root_.Go.Sym.du:=@Nat.gcd_comm
def _root_.Go.Sym.dw:=@Nat.gcd_dvd_left
def _root_.Go.Sym.dx:=@Int.tdiv_eq_ediv_of_nonneg
def _root_.Go.Sym.dz:=@Int.natAbs_tdiv_le_natAbs
def _root_.Go.Sym.dA:=@Int.ediv_le_self
def _root_.Go.Sym.dB:=@Int.mul_le_mul_of_nonneg_left
def _root_.Go.Sym.dC:=@Int.lt_of_mul_lt_mul_left
def _root_.Go.Sym.dD:=@List.map_set
def _root_.Go.Sym.dF:=@List.find?_range_eq_some
def _root_.Go.Sym.dG:=@List.find?_eq_none
def _root_.Go.Sym.dH:=@List.takeWhile_cons
def _root_.Go.Sym.dJ:=@List.getD_cons_succ
def _root_.Go.Sym.dK:=@List.getD_cons_zero
def _root_.Go.Sym.dM:=@Bool.not_eq_true'
def _root_.Go.Sym.dN:=@List.mem_iff_getElem?
def _root_.Go.Sym.dO:=@Array.mem_of_getElem?
def _root_.Go.Sym.dP:=@Nat.div_lt_of_lt_mul
def _root_.Go.Sym.dR:=@List.drop_eq_nil_of_le
def _root_.Go.Sym.dS:=@List.mem_append_right
def _root_.Go.Sym.dT:=@Nat.eq_zero_or_pos
def _root_.Go.Sym.dU:=@List.getElem?_eq_none_iff
def _root_.Go.Sym.dV:=@Array.toList_modify
def _root_.Go.Sym.dX:=@List.getElem?_modify
def _root_.Go.Sym.dY:=@List.length_filter_le
def _root_.Go.Sym.dZ:=@List.flatten_append
def _root_.Go.Sym.d5:=@Nat.div_dvd_of_dvd
def _root_.Go.Sym.d6:=@Int.lt_tmod_of_pos
def _root_.Go.Sym.d7:=@List.length_range
def _root_.Go.Sym.d8:=@List.filterMap_nil
def _root_.Go.Sym.d9:=@Array.getElem?_setIfInBounds_ne
inductive DV where
 |v (x:Value)
 |sl (xs:List (List DV))
inductive AV where
 |v (x:Value)
 |nil
 |emp
 |sl (xs:List (List DV))
 |agg (cs:List AV)
 |tup (cs:List AV)
 |ep (cs:List DV) (off:Nat)
 |ptr (id off:Nat)
 |row (id:Nat)
 |rp (id k i off:Nat)
 |csl (id n:Nat)
 |psl (id off n c:Nat)
 |rsl (id k lo n:Nat)
 |mp (id:Nat)
 |clo (f:FuncId) (caps:List AV)
 |cb
 |junk
 |any
 |bnd (f:FuncId) (caps:List AV)
mutual
def AV.ids:AV->List Nat
 |.agg cs=>AV.idsL cs
 |.tup cs=>AV.idsL cs
 |.ptr id _=>[id]
 |.row id=>[id]
 |.rp id _ _ _=>[id]
 |.csl id _=>[id]
 |.psl id _ _ _=>[id]
 |.rsl id _ _ _=>[id]
 |.mp id=>[id]
 |.clo _ cs=>AV.idsL cs
 |.v _=>[]
 |.nil=>[]
 |.emp=>[]
 |.sl _=>[]
 |.ep _ _=>[]
 |.cb=>[]
 |.junk=>[]
 |.any=>[]
 |.bnd _ cs=>AV.idsL cs
def AV.idsL:List AV->List Nat
 |[]=>[]
 |c :: cs=>c.ids++AV.idsL cs
end
def AV.mem_idsL {id:Nat}:∀ {cs:List AV},id ∈ AV.idsL cs ↔ ∃ c ∈ cs,id ∈ c.ids
 |[]=>by simp [AV.idsL]
 |c :: cs=>by simp [AV.idsL,AV.mem_idsL (cs:=cs)]
inductive AObj where
 |cells (cs:List AV)
 |row (e:TypeId) (k:Nat) (xs:List (List DV))
 |map (es:List (Value × Value))
 |mark
 |rows (e:TypeId) (cs:List AV)
 |it (m cnt:Nat) (seen:List Nat)
 |fm (es:List (Value × AV))
def AObj.ids:AObj->List Nat
 |.cells cs=>AV.idsL cs
 |.row _ _ _=>[]
 |.map _=>[]
 |.mark=>[]
 |.rows _ cs=>AV.idsL cs
 |.it m _ _=>[m]
 |.fm es=>AV.idsL (es.map (·.2))
def upd {α:Type} (f:Nat->α) (i:Nat) (a:α):Nat->α:=fun j=>if j=i then a else f j
def upd_same {α:Type} (f:Nat->α) (i:Nat) (a:α):upd f i a i=a:=by simp [upd]
def upd_ne {α:Type} (f:Nat->α) (i j:Nat) (a:α) (h:j ≠ i):upd f i a j=f j:=by simp [upd,h]
def put (t:Nat->AV):Option Nat->AV->(Nat->AV)
 |some d,a=>upd t d a
 |none,_=>t
inductive ADf where
 |mark (id:Nat)
 |call (f:FuncId) (caps:List AV)
def ADf.ids:ADf->List Nat
 |.mark id=>[id]
 |.call _ caps=>AV.idsL caps
structure St where
 t:Nat->AV
 h:Nat->Option AObj
 n:Nat
 j:Nat:=0
 d:List ADf:=[]
 m:Nat:=0
structure Eff where
 av:AV
 hw:List (Nat × Option AObj):=[]
 hr:List Nat:=[]
 news:List Nat:=[]
 n:Nat:=0
 dj:Nat:=0
 dd:List ADf:=[]
def ze (h:Nat->Option AObj):List (Nat × Option AObj)->(Nat->Option AObj)
 |[]=>h
 |p :: ps=>ze (upd h p.1 p.2) ps
def St.app (S:St) (dst:Option Nat) (e:Eff):St :=
 {t:=put S.t dst e.av,h:=ze S.h e.hw,n:=max S.n e.n,j:=S.j+e.dj,d:=e.dd++S.d,m:=S.m }
def Eff.keys (e:Eff):List Nat:=e.hw.map (·.1)
def zM:List (Nat × Option AObj)->List Nat
 |[]=>[]
 |p :: ps=>p.1 :: ((match p.2 with|some o=>o.ids|none=>[])++zM ps)
def Eff.ids (e:Eff):List Nat:=e.av.ids++zM e.hw++e.dd.flatMap ADf.ids
def zm {h:Nat->Option AObj} {i:Nat}:∀ {ps:List (Nat × Option AObj)},i ∉ ps.map (·.1)->ze h ps i=h i
 |[],_=>rfl
 |p :: ps,hi=>by
  simp only [aw,ae,not_or] at hi;rw [ze,zm hi.2,upd_ne _ _ _ _ hi.1]
def ZN {h:Nat->Option AObj} {i:Nat} {o:AObj}:∀ {ps:List (Nat × Option AObj)},i ∈ ps.map (·.1)->ze h ps i=some o->(i,some o) ∈ ps
 |[],hi,_=>by simp at hi
 |p :: ps,hi,ho=>by
  simp only [ze] at ho
  by_cases hp:i ∈ ps.map (·.1)
  ·exact aQ _ (ZN hp ho)
  ·rw [zm hp] at ho
   simp only [aw,ae,hp,or_false] at hi;subst hi
   rw [upd_same] at ho;have:p=(p.1,some o):=by rw [<- ho]
   rw [this];exact aV
def Yx {id i:Nat} {o:AObj}:∀ {ps:List (Nat × Option AObj)},(i,some o) ∈ ps->id ∈ o.ids->id ∈ zM ps
 |p :: ps,hm,hid=>by
  simp only [zM,ae,au]
  rcases ae.1 hm with rfl|hm
  ·exact .inr (.inl hid)
  ·exact .inr (.inr (Yx hm hid))
def Ya {i:Nat}:∀ {ps:List (Nat × Option AObj)},i ∈ ps.map (·.1)->i ∈ zM ps
 |p :: ps,hm=>by
  simp only [aw,ae] at hm;simp only [zM,ae,au]
  rcases hm with rfl|hm
  ·exact .inl rfl
  ·exact .inr (.inr (Ya hm))
def blk:Value->Option Nat
 |.pointer (some a)=>some a.block
 |.slice (some a) _ c=>if c=0 then none else some a.block
 |.map r=>r
 |.chan r=>r
 |_=>none
inductive DRel (w:World) (ok:Nat->Prop):DV->Value->Prop
 |v {x:Value}:x.oneCell'=true->DRel w ok (.v x) x
 |sl0 {A:Option Addr} {c:Nat}:c<=maxLen->DRel w ok (.sl []) (.slice A 0 c)
 |sl {xs:List (List DV)} {k:Nat} {a:Addr} {n c:Nat} (f:Nat->Nat->Value):xs.length=n->0 < n->n<=c->c<=maxLen->0 < k ->
   (∀ (i:Nat) (r:List DV),xs[i]?=some r->r.length=k) ->
   (∀ (i:Nat) (r:List DV) (j:Nat) (d:DV),xs[i]?=some r->r[j]?=some d->w.cell? (a.add (i * k+j))=some (f i j)) ->
   (∀ (i:Nat) (r:List DV) (j:Nat) (d:DV),xs[i]?=some r->r[j]?=some d->DRel w ok d (f i j))->ok a.block->DRel w ok (.sl xs) (.slice (some a) n c)
inductive ARel (w:World) (ok:Nat->Prop) (ρ:Nat->Value) (y:Value):AV->Value->Prop
 |v {x:Value}:x.oneCell'=true->ARel w ok ρ y (.v x) x
 |nil:ARel w ok ρ y .nil (.slice none 0 0)
 |emp {a:Option Addr}:ARel w ok ρ y .emp (.slice a 0 0)
 |sl {xs:List (List DV)} {x:Value}:DRel w ok (.sl xs) x->ARel w ok ρ y (.sl xs) x
 |agg {cs:List AV} {vs:Array Value}:vs.size=cs.length->(∀ (i:Nat) (c:AV),cs[i]?=some c->ARel w ok ρ y c (vs.getD i undef))->ARel w ok ρ y (.agg cs) (.agg vs)
 |tup {cs:List AV} {vs:Array Value}:vs.size=cs.length->(∀ (i:Nat) (c:AV),cs[i]?=some c->ARel w ok ρ y c (vs.getD i undef))->ARel w ok ρ y (.tup cs) (.tuple vs)
 |ep {cs:List DV} {off:Nat} {a:Addr} (f:Nat->Value):(∀ (j:Nat) (d:DV),cs[j]?=some d->w.cell? (a.add j)=some (f j)) ->
   (∀ (j:Nat) (d:DV),cs[j]?=some d->DRel w ok d (f j))->ok a.block->a.spot=none->ARel w ok ρ y (.ep cs off) (.pointer (some (a.add off)))
 |ptr {id off b:Nat}:ρ id=.pointer (some ⟨b,0,none⟩)->ARel w ok ρ y (.ptr id off) (.pointer (some ⟨b,off,none⟩))
 |row {id:Nat} {x:Value}:ρ id=x->x.oneCell'=true->ARel w ok ρ y (.row id) x
 |rp {id k i off b n c:Nat}:ρ id=.slice (some ⟨b,0,none⟩) n c->ARel w ok ρ y (.rp id k i off) (.pointer (some ⟨b,i * k+off,none⟩))
 |csl {id n c b:Nat}:ρ id=.pointer (some ⟨b,0,none⟩)->n<=c->ARel w ok ρ y (.csl id n) (.slice (some ⟨b,0,none⟩) n c)
 |psl {id off n c b:Nat}:ρ id=.pointer (some ⟨b,0,none⟩)->n<=c->c<=maxLen->ARel w ok ρ y (.psl id off n c) (.slice (some ⟨b,off,none⟩) n c)
 |rsl {id k lo n b c n0:Nat}:ρ id=.slice (some ⟨b,0,none⟩) n0 c->lo < c->ARel w ok ρ y (.rsl id k lo n) (.slice (some ⟨b,lo * k,none⟩) n (c - lo))
 |mp {id:Nat} {x:Value}:ρ id=x->x.oneCell'=true->ARel w ok ρ y (.mp id) x
 |clo {f:FuncId} {caps:List AV} {vs:Array Value}:vs.size=caps.length->(∀ (i:Nat) (c:AV),caps[i]?=some c->ARel w ok ρ y c (vs.getD i undef))->ARel w ok ρ y (.clo f caps) (.func (.func f) #[] vs)
 |cb {x:Value}:y=x->x.oneCell'=true->ARel w ok ρ y .cb x
 |junk {x:Value}:ARel w ok ρ y .junk x
 |any {x:Value}:x.oneCell'=true->ARel w ok ρ y .any x
 |bnd {f:FuncId} {caps:List AV} {vs:Array Value}:vs.size=caps.length->(∀ (i:Nat) (c:AV),caps[i]?=some c->ARel w ok ρ y c (vs.getD i undef))->ARel w ok ρ y (.bnd f caps) (.func (.func f) vs #[])
def JQ {w w':World} {a:Addr} (h:w'.heap[a.block]?=w.heap[a.block]?):w'.cell? a=w.cell? a:=by simp [World.cell?,h]
def block_add (a:Addr) (n:Nat):(a.add n).block=a.block:=by unfold Addr.add;split <;> rfl
def add_add' (a:Addr) (i j:Nat):(a.add i).add j=a.add (i+j):=by
 unfold Addr.add
 by_cases hi:i=0 <;> by_cases hj:j=0 <;> simp [hi,hj,ck]
def jm (b o n:Nat):(⟨b,o,none⟩:Addr).add n=⟨b,o+n,none⟩:=by unfold Addr.add;split <;> simp_all
def DRel.mono {w w':World} {ok ok':Nat->Prop} (h:∀ b,ok b->ok' b/\w'.heap[b]?=w.heap[b]?) {d:DV} {x:Value} (hr:DRel w ok d x):DRel w' ok' d x:=by
 induction hr with
 |v hx=>exact .v hx
 |sl0 hc=>exact .sl0 hc
 |sl f h1 h2 h3 h4 h5 h6 h7 _ h9 ih =>
  exact .sl f h1 h2 h3 h4 h5 h6 (fun i r j d hi hj=>(JQ (by rw [block_add];exact (h _ h9).2)).trans (h7 i r j d hi hj)) ih (h _ h9).1
def ARel.mono {w w':World} {ok ok':Nat->Prop} {ρ ρ':Nat->Value} {y:Value} (h:∀ b,ok b->ok' b/\w'.heap[b]?=w.heap[b]?) {c:AV} {x:Value} (hr:ARel w ok ρ y c x) :
  (∀ id ∈ c.ids,ρ' id=ρ id)->ARel w' ok' ρ' y c x:=by
 induction hr with
 |v hx=>exact fun _=>.v hx
 |nil=>exact fun _=>.nil
 |emp=>exact fun _=>.emp
 |sl hd=>exact fun _=>.sl (hd.mono h)
 |agg hs _ ih=>exact fun hi=>.agg hs fun i c hc=>ih i c hc fun id hid=>hi id (by simp only [AV.ids];exact AV.mem_idsL.2 ⟨c,ao hc,hid⟩)
 |tup hs _ ih=>exact fun hi=>.tup hs fun i c hc=>ih i c hc fun id hid=>hi id (by simp only [AV.ids];exact AV.mem_idsL.2 ⟨c,ao hc,hid⟩)
 |ep f h1 h2 h3 h4=>exact fun _=>.ep f (fun j d hj=>(JQ (by rw [block_add];exact (h _ h3).2)).trans (h1 j d hj)) (fun j d hj=>(h2 j d hj).mono h) (h _ h3).1 h4
 |ptr e=>exact fun hi=>.ptr (by rw [hi _ (by simp [AV.ids])];exact e)
 |row e e'=>exact fun hi=>.row (by rw [hi _ (by simp [AV.ids])];exact e) e'
 |rp e=>exact fun hi=>.rp (by rw [hi _ (by simp [AV.ids])];exact e)
 |csl e h1=>exact fun hi=>.csl (by rw [hi _ (by simp [AV.ids])];exact e) h1
 |psl e h1 h2=>exact fun hi=>.psl (by rw [hi _ (by simp [AV.ids])];exact e) h1 h2
 |rsl e h1=>exact fun hi=>.rsl (by rw [hi _ (by simp [AV.ids])];exact e) h1
 |mp e e'=>exact fun hi=>.mp (by rw [hi _ (by simp [AV.ids])];exact e) e'
 |clo hs _ ih=>exact fun hi=>.clo hs fun i c hc=>ih i c hc fun id hid=>hi id (by simp only [AV.ids];exact AV.mem_idsL.2 ⟨c,ao hc,hid⟩)
 |cb e e'=>exact fun _=>.cb e e'
 |junk=>exact fun _=>.junk
 |any e=>exact fun _=>.any e
 |bnd hs _ ih=>exact fun hi=>.bnd hs fun i c hc=>ih i c hc fun id hid=>hi id (by simp only [AV.ids];exact AV.mem_idsL.2 ⟨c,ao hc,hid⟩)
def YJ (w:World) (e:TypeId) (k:Nat) (x:Value) (n:Nat) (flat:List Value):Prop :=
 w.ownsRow 0 e k x n flat\/(n=0/\flat=[]/\∃ a,x=.slice a 0 0)
def wO {w:World} {e:TypeId} {k:Nat} {x:Value} {n:Nat} {flat:List Value} (h:YJ w e k x n flat) (hn:0 < n) :
  w.ownsRow 0 e k x n flat/\∃ g cap cur,x=.slice (some ⟨g,0,none⟩) n cap/\w.heap[g]?=some (.cells cur e (0,0))/\n<=cap/\cap<=maxLen/\cur.size=cap * k/\cur.toList.take (n * k)=flat/\blk x=some g:=by
 rcases h with h|⟨h0,_⟩
 ·refine ⟨h, ?_⟩
  rcases h.2 with ⟨_,h0⟩|⟨g,cap,cur,rfl,_,h1,h2,h3,h4,h5⟩
  ·omega
  ·exact ⟨g,cap,cur,rfl,h1,h2,h3,h4,h5,by simp only [blk];rw [if_neg (by omega)]⟩
 ·omega
inductive ORel (w:World) (ok:Nat->Prop) (ρ:Nat->Value) (y:Value):AObj->Value->Prop
 |cells {cs:List AV} {b:Nat} {t:TypeId} {vs:Array Value}:w.heap[b]?=some (.cells vs t (0,0))->vs.size=cs.length ->
   (∀ (i:Nat) (c:AV),cs[i]?=some c->ARel w ok ρ y c (vs.getD i undef)/\(vs.getD i undef).oneCell'=true)->ORel w ok ρ y (.cells cs) (.pointer (some ⟨b,0,none⟩))
 |row {e:TypeId} {k:Nat} {xs:List (List DV)} {x:Value} {flat:List Value}:0 < k->(∀ r ∈ xs,r.length=k)->YJ w e k x xs.length flat ->
   (∀ (i:Nat) (r:List DV) (j:Nat) (d:DV),xs[i]?=some r->r[j]?=some d->∃ u,flat[i * k+j]?=some u/\DRel w ok d u)->ORel w ok ρ y (.row e k xs) x
 |map {es:List (Value × Value)} {b:Nat} {entries:Array MapEntry} {clock:Nat}:w.heap[b]?=some (.map entries clock)->entries.toList.map (fun e=>(e.key,e.val))=es ->
   (∀ (i:Nat) (e:MapEntry),entries[i]?=some e->e.born=i)->clock=entries.size->entries.size<=maxLen->ORel w ok ρ y (.map es) (.map (some b))
 |mark {b:Nat}:w.heap[b]?=some (.deferred (some []))->ORel w ok ρ y .mark (.chan (some b))
 |rows {e:TypeId} {cs:List AV} {x:Value} {flat:List Value}:YJ w e 1 x cs.length flat ->
   (∀ (i:Nat) (c:AV),cs[i]?=some c->∃ u,flat[i]?=some u/\ARel w ok ρ y c u/\u.oneCell'=true)->ORel w ok ρ y (.rows e cs) x
 |it {m cnt:Nat} {seen:List Nat} {b:Nat} {r:Option Nat} {sn:Array Nat}:w.heap[b]?=some (.mapIter r cnt sn cnt)->sn.toList=seen->ρ m=.map r->ORel w ok ρ y (.it m cnt seen) (.pointer (some ⟨b,0,none⟩))
 |fm {es:List (Value × AV)} {b:Nat} {entries:Array MapEntry} {clock:Nat}:w.heap[b]?=some (.map entries clock)->entries.size=es.length ->
   (∀ (i:Nat) (e:MapEntry) (p:Value × AV),entries[i]?=some e->es[i]?=some p->e.key=p.1/\e.born=i/\ARel w ok ρ y p.2 e.val)->clock=entries.size->entries.size<=maxLen->ORel w ok ρ y (.fm es) (.map (some b))
def ORel.lt {w:World} {ok:Nat->Prop} {ρ:Nat->Value} {y:Value} {o:AObj} {x:Value} (h:ORel w ok ρ y o x) {b:Nat} (hb:blk x=some b):b < w.heap.size:=by
 cases h with
 |cells h1 _ _=>simp [blk] at hb;subst hb;exact (aT.1 h1).1
 |row _ _ h3 _ =>
  rcases h3 with h3|⟨_,_,a,rfl⟩
  ·rcases h3.2 with ⟨rfl,_⟩|⟨g,cap,cur,rfl,_,hg,_⟩
   ·simp [blk] at hb
   ·simp only [blk] at hb
    split at hb
    ·cases hb
    ·cases hb;exact (aT.1 hg).1
  ·cases a <;> simp [blk] at hb
 |map h1 _ _ _ _=>simp [blk] at hb;subst hb;exact (aT.1 h1).1
 |mark h1=>simp [blk] at hb;subst hb;exact (aT.1 h1).1
 |it h1=>simp [blk] at hb;subst hb;exact (aT.1 h1).1
 |fm h1 _ _ _ _=>simp [blk] at hb;subst hb;exact (aT.1 h1).1
 |rows h3 _ =>
  rcases h3 with h3|⟨_,_,a,rfl⟩
  ·rcases h3.2 with ⟨rfl,_⟩|⟨g,cap,cur,rfl,_,hg,_⟩
   ·simp [blk] at hb
   ·simp only [blk] at hb
    split at hb
    ·cases hb
    ·cases hb;exact (aT.1 hg).1
  ·cases a <;> simp [blk] at hb
def ORel.mono {w w':World} {ok ok':Nat->Prop} {ρ ρ':Nat->Value} {y:Value} {o:AObj} {x:Value} (hr:ORel w ok ρ y o x) (h:∀ b,ok b->ok' b/\w'.heap[b]?=w.heap[b]?)
  (hx:∀ b,blk x=some b->w'.heap[b]?=w.heap[b]?) (hi:∀ id ∈ o.ids,ρ' id=ρ id):ORel w' ok' ρ' y o x:=by
 cases hr with
 |cells h1 h2 h3=>exact .cells ((hx _ rfl).trans h1) h2 fun i c hc=>⟨((h3 i c hc).1).mono h fun id hid=>hi id (by simp only [AObj.ids];exact AV.mem_idsL.2 ⟨c,ao hc,hid⟩),(h3 i c hc).2⟩
 |row h1 h2 h3 h4 =>
  rcases h3 with h3|h3
  ·rcases h3.2 with h0|⟨g,cap,cur,rfl,hb,hg,hnc,hcm,hcs,htk⟩
   ·exact .row h1 h2 (.inl ⟨h3.1,.inl h0⟩) fun i r j d hi hj=>let ⟨u,hu,hd⟩:=h4 i r j d hi hj;⟨u,hu,hd.mono h⟩
   ·by_cases hc:cap=0
    ·subst hc
     refine .row h1 h2 (.inr ⟨by omega,bu ?_,_,by rw [show _=0 from cJ.1 hnc]⟩) fun i r j d hi hj=>let ⟨u,hu,hd⟩:=h4 i r j d hi hj;⟨u,hu,hd.mono h⟩
     rw [h3.1,cJ.1 hnc,cW]
    ·exact .row h1 h2 (.inl ⟨h3.1,.inr ⟨g,cap,cur,rfl,hb,(hx g (by simp only [blk];rw [if_neg hc])).trans hg,hnc,hcm,hcs,htk⟩⟩) fun i r j d hi hj=>let ⟨u,hu,hd⟩:=h4 i r j d hi hj;⟨u,hu,hd.mono h⟩
  ·exact .row h1 h2 (.inr h3) fun i r j d hi hj=>let ⟨u,hu,hd⟩:=h4 i r j d hi hj;⟨u,hu,hd.mono h⟩
 |map h1 h2 h3 h4 h5=>exact .map ((hx _ rfl).trans h1) h2 h3 h4 h5
 |mark h1=>exact .mark ((hx _ rfl).trans h1)
 |it h1 h2 h3=>exact .it ((hx _ rfl).trans h1) h2 ((hi _ (by simp [AObj.ids])).trans h3)
 |fm h1 h2 h3 h4 h5 =>
  refine .fm ((hx _ rfl).trans h1) h2 (fun i e p he hp=>?_) h4 h5
  obtain ⟨g1,g2,g3⟩:=h3 i e p he hp;exact ⟨g1,g2,g3.mono h fun id hid=>hi id (by simp only [AObj.ids];exact AV.mem_idsL.2 ⟨p.2,aj.2 ⟨p,ao hp,rfl⟩,hid⟩)⟩
 |rows h3 h4 =>
  have h4':=fun (i:Nat) (c:AV) hc=>(h4 i c hc).imp fun u g=>ea g.1 (ea (g.2.1.mono (ρ':=ρ') h fun id hid=>hi id (by simp only [AObj.ids];exact AV.mem_idsL.2 ⟨c,ao hc,hid⟩)) g.2.2)
  rcases h3 with h3|h3
  ·rcases h3.2 with h0|⟨g,cap,cur,rfl,hb,hg,hnc,hcm,hcs,htk⟩
   ·exact .rows (.inl ⟨h3.1,.inl h0⟩) h4'
   ·by_cases hc:cap=0
    ·subst hc
     refine .rows (.inr ⟨by omega,bu ?_,_,by rw [show _=0 from cJ.1 hnc]⟩) h4'
     rw [h3.1,cJ.1 hnc,cW]
    ·exact .rows (.inl ⟨h3.1,.inr ⟨g,cap,cur,rfl,hb,(hx g (by simp only [blk];rw [if_neg hc])).trans hg,hnc,hcm,hcs,htk⟩⟩) h4'
  ·exact .rows (.inr h3) h4'
inductive DfRel (w:World) (ok:Nat->Prop) (ρ:Nat->Value) (y:Value):ADf->Deferred->Prop
 |mark {id b:Nat}:ρ id=.chan (some b)->DfRel w ok ρ y (.mark id) ⟨.collected b,#[]⟩
 |call {f:FuncId} {caps:List AV} {vs:Array Value}:vs.size=caps.length->(∀ (i:Nat) (c:AV),caps[i]?=some c->ARel w ok ρ y c (vs.getD i undef))->DfRel w ok ρ y (.call f caps) ⟨.fn (.func f) vs,#[]⟩
def DfRel.mono {w w':World} {ok ok':Nat->Prop} {ρ ρ':Nat->Value} {y:Value} (h:∀ b,ok b->ok' b/\w'.heap[b]?=w.heap[b]?) {c:ADf} {x:Deferred} (hr:DfRel w ok ρ y c x)
  (hi:∀ id ∈ c.ids,ρ' id=ρ id):DfRel w' ok' ρ' y c x:=by
 cases hr with
 |mark e=>exact .mark (by rw [hi _ (by simp [ADf.ids])];exact e)
 |call h1 h2=>exact .call h1 fun i c hc=>(h2 i c hc).mono h fun id hid=>hi id (by simp only [ADf.ids];exact AV.mem_idsL.2 ⟨c,ao hc,hid⟩)
inductive DfsRel (w:World) (ok:Nat->Prop) (ρ:Nat->Value) (y:Value):List ADf->List Deferred->Prop
 |nil:DfsRel w ok ρ y [] []
 |cons {c:ADf} {x:Deferred} {cs:List ADf} {xs:List Deferred}:DfRel w ok ρ y c x->DfsRel w ok ρ y cs xs->DfsRel w ok ρ y (c :: cs) (x :: xs)
def DfsRel.mono {w w':World} {ok ok':Nat->Prop} {ρ ρ':Nat->Value} {y:Value} (h:∀ b,ok b->ok' b/\w'.heap[b]?=w.heap[b]?) {cs:List ADf} {xs:List Deferred} (hr:DfsRel w ok ρ y cs xs) :
  (∀ id ∈ cs.flatMap ADf.ids,ρ' id=ρ id)->DfsRel w' ok' ρ' y cs xs:=by
 induction hr with
 |nil=>exact fun _=>.nil
 |cons h1 _ ih=>exact fun hi=>.cons (h1.mono h fun id hid=>hi id (by simp [hid])) (ih fun id hid=>hi id (by simp at hid ⊢;exact .inr hid))
def DfsRel.append {w:World} {ok:Nat->Prop} {ρ:Nat->Value} {y:Value} {cs cs':List ADf} {xs xs':List Deferred} (h:DfsRel w ok ρ y cs xs) (h':DfsRel w ok ρ y cs' xs'):DfsRel w ok ρ y (cs++cs') (xs++xs'):=by
 induction h with
 |nil=>exact h'
 |cons h1 _ ih=>exact .cons h1 ih
structure Ext (mod:Nat->Prop) (w w':World):Prop where
 os:w'.os=w.os
 tape:w'.tape=w.tape
 output:w'.output=w.output
 size:w.heap.size<=w'.heap.size
 block:∀ k,k < w.heap.size->¬ mod k->w'.heap[k]?=w.heap[k]?
def Ext.refl (mod:Nat->Prop) (w:World):Ext mod w w:=⟨rfl,rfl,rfl,ag _,fun _ _ _=>rfl⟩
def Ext.trans {mod mod':Nat->Prop} {a b c:World} (h:Ext mod a b) (k:Ext mod' b c) (hm:∀ i,i < a.heap.size->mod' i->mod i):Ext mod a c :=
 ⟨k.os.trans h.os,k.tape.trans h.tape,k.output.trans h.output,bj h.size k.size,fun i hi hn=>(k.block i (aN hi h.size) fun hm'=>hn (hm i hi hm')).trans (h.block i hi hn)⟩
def Ext.weaken {mod mod':Nat->Prop} {a b:World} (h:Ext mod a b) (hm:∀ i,i < a.heap.size->mod i->mod' i):Ext mod' a b :=
 ⟨h.os,h.tape,h.output,h.size,fun i hi hn=>h.block i hi fun hx=>hn (hm i hi hx)⟩
def Ext.drew (mod:Nat->Prop) (w:World):Ext mod w w.drew:=⟨rfl,rfl,rfl,ag _,fun _ _ _=>rfl⟩
def Ext.alloc (mod:Nat->Prop) (w:World) (o:Obj):Ext mod w (w.alloc o):=⟨rfl,rfl,rfl,by simp,fun k hk _=>by show (w.heap.push o)[k]?=_;rw [Array.getElem?_push,if_neg (by omega)]⟩
def Ext.grown {mod:Nat->Prop} {w w':World} {row:Option Nat} (hg:w.grownBy w' row) (h:∀ k,row=some k->mod k):Ext mod w w' :=
 ⟨hg.os,hg.tape,hg.output,hg.size,fun k hk hn=>hg.block k hk fun e=>hn (h k e.symm)⟩
structure Own where
 all:Nat->Prop
 prv:Nat->Prop
 sub:∀ b,prv b->all b
def Own.eq {o o':Own} (h:∀ b,o.all b ↔ o'.all b) (h':∀ b,o.prv b ↔ o'.prv b):o=o':=by
 obtain ⟨a,p,s⟩:=o;obtain ⟨a',p',s'⟩:=o'
 have e1:a=a':=funext fun b=>propext (h b)
 have e2:p=p':=funext fun b=>propext (h' b)
 subst e1 e2
 rfl
structure Frm where
 r:Option Nat
 y:Value
 J:Nat->Own->World->Prop
 stable:∀ j own w,J j own w->(∀ b,own.all b->b < w.heap.size)/\∀ w',Ext (fun b=>¬ own.all b) w w'->J j own w'
 w0:World
 ρ0:Nat->Value
 H0:Nat->Option AObj
 own0:Own
 n0:Nat
 nt:Nat
 pinn:∀ i o,H0 i=some o->i < n0
 recs:∀ l,r=some l->∀ j own w,J j own w->∃ rc,w.heap[l]?=some (.loop rc)
def okB (w:World) (own:Own) (ρ:Nat->Value) (h:Nat->Option AObj) (b:Nat):Prop :=
 b < w.heap.size/\¬ own.prv b/\∀ i o,h i=some o->blk (ρ i) ≠ some b
def Unm (S:St) (id:Nat):Prop:=S.h id=none/\(∀ t,id ∉ (S.t t).ids)/\(∀ i o,S.h i=some o->id ∉ o.ids)/\id ∉ S.d.flatMap ADf.ids
def Frm.owns0 (F:Frm) (b:Nat):Prop:=∃ i o,F.H0 i=some o/\blk (F.ρ0 i)=some b
structure Holds (F:Frm) (S:St) (a:Act) (w:World) (ρ:Nat->Value) (own:Own):Prop where
 jay:F.J S.j own w
 temps:∀ t,ARel w (okB w own ρ S.h) ρ F.y (S.t t) (a.tmps.getD t undef)
 obj:∀ i o,S.h i=some o->ORel w (okB w own ρ S.h) ρ F.y o (ρ i)
 inj:∀ i k o o' b,S.h i=some o->S.h k=some o'->blk (ρ i)=some b->blk (ρ k)=some b->i=k
 blkOK:∀ i o b,S.h i=some o->blk (ρ i)=some b->¬ own.all b/\(F.w0.heap.size<=b\/F.owns0 b)
 fresh:∀ id,S.n<=id->Unm S id
 nle:F.n0<=S.n
 meq:F.n0=S.m
 tsz:a.tmps.size=F.nt
 pins:∀ i o,F.H0 i=some o->ρ i=F.ρ0 i
 ext:Ext (fun b=>F.own0.prv b\/F.owns0 b) F.w0 w
 ownsub:∀ b,own.prv b->F.own0.prv b\/F.w0.heap.size<=b
 still:S.j=0->own=F.own0
 defs:DfsRel w (okB w own ρ S.h) ρ F.y S.d a.defers
def Gam (F:Frm) (S:St) (a:Act) (w:World):Prop:=∃ ρ own,Holds F S a w ρ own
def Zf (F:Frm) (S:St) (id:Nat):Prop:=Unm S id/\F.n0<=id
def size_put (a:Act) (dst:Option Tmp) (v:Value):(a.put dst v).tmps.size=a.tmps.size:=by cases dst <;> simp [Act.put]
def Qg1 (a:Act) (d:Nat) (v:Value) (t:Nat) (h:t ≠ d):(a.put (some d) v).tmps.getD t undef=a.tmps.getD t undef:=by
 simp [Act.put,d9 (Ne.symm h)]
def Holds.app {F:Frm} {S:St} {a:Act} {w:World} {ρ:Nat->Value} {own:Own} (H:Holds F S a w ρ own) {dst:Option Nat} {e:Eff} {w':World} {ρ':Nat->Value} {own':Own} {v':Value} {ds:List Deferred}
  (hdst:∀ d,dst=some d->d < F.nt)
  (hj:F.J (S.j+e.dj) own' w')
  (hx:Ext (fun b=>own.prv b\/∃ i o,i ∈ e.keys/\S.h i=some o/\blk (ρ i)=some b) w w')
  (hown:own'=own\/(e.dj ≠ 0/\(∀ b,own'.prv b->own.prv b\/w.heap.size<=b)/\∀ i o b,S.h i=some o->i ∉ e.keys->blk (ρ i)=some b->¬ own'.all b))
  (hnk:∀ i ∈ e.news,i ∈ e.keys)
  (hρ:∀ i,i ∉ e.news->ρ' i=ρ i)
  (hnews:∀ i ∈ e.news,Zf F S i)
  (hv:ARel w' (okB w' own' ρ' (ze S.h e.hw)) ρ' F.y e.av v')
  (hobj:∀ i o,i ∈ e.keys->ze S.h e.hw i=some o->ORel w' (okB w' own' ρ' (ze S.h e.hw)) ρ' F.y o (ρ' i) /\
   ∀ b,blk (ρ' i)=some b->¬ own'.all b/\(w.heap.size<=b\/∃ k o',k ∈ e.keys/\S.h k=some o'/\blk (ρ k)=some b))
  (hinj:∀ i k o o' b,i ∈ e.keys->k ∈ e.keys->ze S.h e.hw i=some o->ze S.h e.hw k=some o'->blk (ρ' i)=some b->blk (ρ' k)=some b->i=k)
  (hids:∀ id ∈ e.ids,id < max S.n e.n)
  (hds:DfsRel w' (okB w' own' ρ' (ze S.h e.hw)) ρ' F.y e.dd ds) :
  Holds F (S.app dst e) { (a.put dst v') with defers:=ds++a.defers } w' ρ' own':=by
 have hprv:∀ b,own'.prv b->own.prv b\/w.heap.size<=b:=by
  rcases hown with rfl|h
  ·exact fun b hb=>.inl hb
  ·exact h.2.1
 have hall:∀ i o b,S.h i=some o->i ∉ e.keys->blk (ρ i)=some b->¬ own'.all b:=by
  rcases hown with rfl|h
  ·exact fun i o b hi _ hb=>(H.blkOK i o b hi hb).1
  ·exact h.2.2
 have hok:∀ b,okB w own ρ S.h b->okB w' own' ρ' (ze S.h e.hw) b/\w'.heap[b]?=w.heap[b]?:=by
  rintro b ⟨h1,h2,h3⟩;refine ⟨⟨aN h1 hx.size,fun h=>?_,fun i o hi hb=>?_⟩,hx.block b h1 ?_⟩
  ·rcases hprv b h with h|h
   ·exact h2 h
   ·omega
  ·by_cases hk:i ∈ e.keys
   ·rcases (hobj i o hk hi).2 b hb with ⟨_,h|⟨k,o',_,hk',hb'⟩⟩
    ·omega
    ·exact h3 k o' hk' hb'
   ·rw [zm hk] at hi
    rw [hρ i fun hn=>hk (hnk i hn)] at hb
    exact h3 i o hi hb
  ·rintro (h|⟨i,o,_,hi,hb⟩)
   ·exact h2 h
   ·exact h3 i o hi hb
 have hnew:∀ id,¬ Unm S id->ρ' id=ρ id:=fun id hu=>hρ id fun hn=>hu (hnews id hn).1
 have htm:∀ t,∀ id ∈ (S.t t).ids,ρ' id=ρ id:=fun t id hid=>hnew id fun hu=>hu.2.1 t hid
 refine ⟨hj, ?_, ?_, ?_, ?_, ?_, ?_,H.meq,(size_put a dst v').trans H.tsz, ?_, ?_, ?_, ?_, ?_⟩
 ·intro t
  show ARel w' (okB w' own' ρ' (ze S.h e.hw)) ρ' F.y (put S.t dst e.av t) ((a.put dst v').tmps.getD t undef)
  cases dst with
  |none=>exact (H.temps t).mono hok (htm t)
  |some d =>
   by_cases htd:t=d
   ·subst htd
    simp only [put,upd_same];have hlt:t < a.tmps.size:=by rw [H.tsz];exact hdst t rfl
    have:(a.put (some t) v').tmps.getD t undef=v':=by simp [Act.put,hlt]
    rw [this];exact hv
   ·simp only [put]
    rw [upd_ne _ _ _ _ htd,Qg1 a d v' t htd];exact (H.temps t).mono hok (htm t)
 ·intro i o hi
  by_cases hk:i ∈ e.keys
  ·exact (hobj i o hk hi).1
  ·have hi':S.h i=some o:=by rw [<- zm (h:=S.h) (ps:=e.hw) hk];exact hi
   have hρi:ρ' i=ρ i:=hρ i fun hn=>hk (hnk i hn)
   rw [hρi];refine (H.obj i o hi').mono hok (fun b hb=>hx.block b ((H.obj i o hi').lt hb) ?_) fun id hid=>hnew id fun hu=>hu.2.2.1 i o hi' hid
   rintro (h|⟨k,o',hk',hk'',hb'⟩)
   ·exact (H.blkOK i o b hi' hb).1 (own.sub _ h)
   ·have:=H.inj i k o o' b hi' hk'' hb hb'
    subst this;exact hk hk'
 ·intro i k o o' b hi hk hbi hbk
  by_cases h1:i ∈ e.keys
  ·by_cases h2:k ∈ e.keys
   ·exact hinj i k o o' b h1 h2 hi hk hbi hbk
   ·exfalso
    have hk':S.h k=some o':=by rw [<- zm (h:=S.h) (ps:=e.hw) h2];exact hk
    rw [hρ k fun hn=>h2 (hnk k hn)] at hbk
    rcases (hobj i o h1 hi).2 b hbi with ⟨_,h|⟨m,o'',hm,hm',hbm⟩⟩
    ·have:=(H.obj k o' hk').lt hbk;omega
    ·have:=H.inj k m o' o'' b hk' hm' hbk hbm
     subst this;exact h2 hm
  ·have hi':S.h i=some o:=by rw [<- zm (h:=S.h) (ps:=e.hw) h1];exact hi
   rw [hρ i fun hn=>h1 (hnk i hn)] at hbi
   by_cases h2:k ∈ e.keys
   ·exfalso
    rcases (hobj k o' h2 hk).2 b hbk with ⟨_,h|⟨m,o'',hm,hm',hbm⟩⟩
    ·have:=(H.obj i o hi').lt hbi;omega
    ·have:=H.inj i m o o'' b hi' hm' hbi hbm
     subst this;exact h1 hm
   ·have hk':S.h k=some o':=by rw [<- zm (h:=S.h) (ps:=e.hw) h2];exact hk
    rw [hρ k fun hn=>h2 (hnk k hn)] at hbk
    exact H.inj i k o o' b hi' hk' hbi hbk
 ·intro i o b hi hb
  by_cases hk:i ∈ e.keys
  ·rcases (hobj i o hk hi).2 b hb with ⟨h0,h|⟨k,o',_,hk',hb'⟩⟩
   ·exact ⟨h0,.inl (bj H.ext.size h)⟩
   ·exact ⟨h0,(H.blkOK k o' b hk' hb').2⟩
  ·have hi':S.h i=some o:=by rw [<- zm (h:=S.h) (ps:=e.hw) hk];exact hi
   rw [hρ i fun hn=>hk (hnk i hn)] at hb
   exact ⟨hall i o b hi' hk hb,(H.blkOK i o b hi' hb).2⟩
 ·intro id hid
  have hid':max S.n e.n<=id:=hid;have h1:=H.fresh id (bj (cK _ _) hid')
  have h2:id ∉ e.ids:=fun h=>by have:=hids id h;omega
  simp only [Eff.ids,au,not_or] at h2;have hk:id ∉ e.keys:=fun h=>h2.1.2 (Ya h)
  refine ⟨by show ze S.h e.hw id=none;rw [zm hk];exact h1.1,fun t=>?_,fun i o hi=>?_, ?_⟩
  ·show id ∉ (put S.t dst e.av t).ids
   cases dst with
   |none=>exact h1.2.1 t
   |some d =>
    by_cases htd:t=d
    ·subst htd;simp only [put,upd_same];exact h2.1.1
    ·simp only [put];rw [upd_ne _ _ _ _ htd];exact h1.2.1 t
  ·have hi:ze S.h e.hw i=some o:=hi
   by_cases hki:i ∈ e.keys
   ·exact fun h=>h2.1.2 (Yx (ZN hki hi) h)
   ·rw [zm hki] at hi;exact h1.2.2.1 i o hi
  ·show id ∉ (e.dd++S.d).flatMap ADf.ids
   rw [cX,au];rintro (h|h)
   ·exact h2.2 h
   ·exact h1.2.2.2 h
 ·exact bj H.nle (cK _ _)
 ·intro i o hi
  rw [hρ i fun hn=>?_]
  ·exact H.pins i o hi
  ·have:=F.pinn i o hi
   have:=(hnews i hn).2;omega
 ·refine H.ext.trans hx ?_
  rintro b hb (h|⟨i,o,_,hi,hbi⟩)
  ·rcases H.ownsub b h with h|h
   ·exact .inl h
   ·omega
  ·rcases (H.blkOK i o b hi hbi).2 with h|h
   ·omega
   ·exact .inr h
 ·intro b hb
  rcases hprv b hb with h|h
  ·exact H.ownsub b h
  ·exact .inr (bj H.ext.size h)
 ·intro hj0
  have hj0:S.j+e.dj=0:=hj0
  rcases hown with rfl|h
  ·exact H.still (by omega)
  ·exact absurd (show e.dj=0 by omega) h.1
 ·show DfsRel w' (okB w' own' ρ' (ze S.h e.hw)) ρ' F.y (e.dd++S.d) (ds++a.defers)
  exact hds.append (H.defs.mono hok fun id hid=>hnew id fun hu=>hu.2.2.2 hid)
def W (r:Option Nat):Fence:={ fn:=fun _=>True,depth:=none,alive:=false,round:=r }
def Unm.app {S:St} {id:Nat} {dst:Option Nat} {e:Eff} (h:Unm S id) (he:id ∉ e.ids):Unm (S.app dst e) id:=by
 simp only [Eff.ids,au,not_or] at he;have hk:id ∉ e.keys:=fun h=>he.1.2 (Ya h)
 refine ⟨by show ze S.h e.hw id=none;rw [zm hk];exact h.1,fun t=>?_,fun i o hi=>?_, ?_⟩
 ·show id ∉ (put S.t dst e.av t).ids
  cases dst with
  |none=>exact h.2.1 t
  |some d =>
   by_cases htd:t=d
   ·subst htd;simp only [put,upd_same];exact he.1.1
   ·simp only [put];rw [upd_ne _ _ _ _ htd];exact h.2.1 t
 ·have hi:ze S.h e.hw i=some o:=hi
  by_cases hki:i ∈ e.keys
  ·exact fun h=>he.1.2 (Yx (ZN hki hi) h)
  ·rw [zm hki] at hi;exact h.2.2.1 i o hi
 ·show id ∉ (e.dd++S.d).flatMap ADf.ids
  rw [cX,au];rintro (h'|h')
  ·exact he.2 h'
  ·exact h.2.2.2 h'
def St.app_junk (S:St):S.app none { av:=.junk }=S:=by
 cases S;simp [St.app,put,ze]
def Holds.same {F:Frm} {S:St} {a:Act} {w w':World} {ρ:Nat->Value} {own:Own} (H:Holds F S a w ρ own) (hj:F.J S.j own w') (hx:Ext (fun _=>False) w w'):Holds F S a w' ρ own:=by
 have:=H.app (dst:=none) (e:={ av:=.junk }) (v':=undef) (w':=w') (ρ':=ρ) (own':=own) (ds:=[]) (fun _ h=>by cases h) hj
  (hx.weaken fun _ _ h=>h.elim) (.inl rfl) (by simp) (fun _ _=>rfl) (by simp) .junk (by simp [Eff.keys]) (by simp [Eff.keys]) (by simp [Eff.ids,AV.ids,zM]) .nil
 rw [St.app_junk] at this;exact this
def Holds.calm {F:Frm} {S:St} {a:Act} {w w':World} {ρ:Nat->Value} {own:Own} (H:Holds F S a w ρ own) (hx:Ext (fun _=>False) w w'):Holds F S a w' ρ own :=
 H.same ((F.stable _ _ _ H.jay).2 w' (hx.weaken fun _ _ h=>h.elim)) hx
def Gam.calm {F:Frm} {S:St} {a:Act} {w w':World} (h:Gam F S a w) (hx:Ext (fun _=>False) w w'):Gam F S a w' :=
 let ⟨ρ,own,H⟩:=h;⟨ρ,own,H.calm hx⟩
def Agree (ops:Array Oper) (o:Oper) (e:Eff) (S S2:St):Prop :=
 (∀ t ∈ o.looksAt ops,S2.t t=S.t t)/\(∀ id ∈ e.hr,S2.h id=S.h id)/\(e.dj ≠ 0->S2.j=S.j)
def LQ (n:Nat) (o:Oper):Bool:=match o.dst with|some d=>decide (d < n)|none=>true
def kI (n:Nat):Code->Bool
 |.region _ ops _=>ops.toList.all (LQ n)
 |.seq a b=>kI n a && kI n b
 |.cond _ a b=>kI n a && kI n b
 |.block _ b=>kI n b
 |.loop b=>kI n b
 |.rangeFunc _ ps a b=>ps.toList.all (· < n) && kI n a && kI n b
 |.scope b=>kI n b
 |.skip=>true
 |.exit _=>true
 |.label _=>true
 |.goto _=>true
 |.ret=>true
 |.refuse _=>true
def J2 (A:Frm->Prop) (P:Program) (ops:Array Oper) (o:Oper) (e:Eff) (S:St):Prop :=
 ∀ F,A F->LQ F.nt o=true->∀ S2 a w,Agree ops o e S S2->(∀ id ∈ e.news,Zf F S2 id)->Gam F S2 a w ->
  if Region.wanted o (yielded ops a.tmps) then o.wpIn (W F.r) 0 P a w (fun a' w'=>Gam F (S2.app o.dst e) a' w') (fun _ _ _=>False)
  else Gam F (S2.app o.dst e) (a.put o.dst undef) w
def Wf (S:St):Prop:=∀ id,S.n<=id->Unm S id
structure VE (A:Frm->Prop) (P:Program) (ops:Array Oper) (o:Oper) (e:Eff) (S:St):Prop where
 valid:J2 A P ops o e S
 ids:∀ id ∈ e.ids,id < e.n
 news:∀ id ∈ e.news,S.n<=id
def Wf.app {S:St} (h:Wf S) {dst:Option Nat} {e:Eff} (he:∀ id ∈ e.ids,id < e.n):Wf (S.app dst e):=fun id hid =>
 (h id (bj (cK _ _) hid)).app fun hm=>by
  have:=he id hm;have:max S.n e.n<=id:=hid
  omega
def Run (A:Frm->Prop) (P:Program) (ops:Array Oper):List Oper->St->List Eff->(St->List Eff->Prop)->Prop
 |[],S,es,K=>K S es
 |o :: r,S,es,K=>∃ e,VE A P ops o e S/\Run A P ops r (S.app o.dst e) (e :: es) K
def Sym (A:Frm->Prop) (P:Program) (c:Code) (S:St) (K:Exit->St->Prop):Prop :=
 ∀ F,A F->kI F.nt c=true->∀ a w,Gam F S a w->c.wpIn (W F.r) 0 P (fun e a' w'=>∃ S',K e S'/\Gam F S' a' w') a w
variable {A : Frm -> Prop} {P : Program}
def Gam.wf {F:Frm} {S:St} {a:Act} {w:World} (h:Gam F S a w):Wf S:=let ⟨_,_,H⟩:=h;H.fresh
def Gam.freshIn {F:Frm} {S:St} {a:Act} {w:World} (h:Gam F S a w) {id:Nat} (hid:S.n<=id):Zf F S id :=
 let ⟨_,_,H⟩:=h;⟨H.fresh id hid,bj H.nle hid⟩
def Sym.mono {c:Code} {S:St} {K K':Exit->St->Prop} (h:Sym A P c S K) (hk:∀ e S,K e S->K' e S):Sym A P c S K' :=
 fun F hF hd a w hg=>wpIn_mono (h F hF hd a w hg) fun e _ _ ⟨S',hK,hg'⟩=>⟨S',hk e S' hK,hg'⟩
def K8 {ops:Array Oper} {K:St->List Eff->Prop} {F:Frm} (hF:A F) (hdst:∀ o ∈ ops.toList,LQ F.nt o=true):∀ (l:List Oper) (k:Nat) (S:St) (es:List Eff) (a:Act) (w:World),(∀ j,l[j]?=ops[k+j]?) ->
  Run A P ops l S es K->Gam F S a w ->
  wpOpsIn (W F.r) 0 P ops (fun e a' w'=>e=.normal/\∃ S' es',K S' es'/\Gam F S' a' w') (List.range' k l.length) a w
 |[],_,S,es,_,_,_,h,hg=>⟨rfl,S,es,h,hg⟩
 |o :: l,k,S,es,a,w,hl,h,hg=>by
  obtain ⟨e,hv,hr⟩:=h;have h0:ops[k]?=some o:=by simpa using (hl 0).symm
  have hl':∀ j,l[j]?=ops[k+1+j]?:=fun j=>by have:=hl (j+1);simpa [ck,bR 1 j] using this
  simp only [bl,List.range'_succ,wpOpsIn,h0];have hval:=hv.valid F hF (hdst o (ao (by simpa using h0))) S a w ⟨fun _ _=>rfl,fun _ _=>rfl,fun _=>rfl⟩ (fun id hid=>hg.freshIn (hv.news id hid)) hg
  split
  ·rename_i hw
   rw [if_pos hw] at hval;refine ⟨hval.1, ?_⟩
   have h2:o.wpIn (W F.r) 0 P a w (wpOpsIn (W F.r) 0 P ops (fun e a' w'=>e=.normal/\∃ S' es',K S' es'/\Gam F S' a' w') (List.range' (k+1) l.length)) (fun _ _ _=>False) :=
    Oper.wpIn_mono (fun a' w' hg'=>K8 hF hdst l (k+1) _ _ a' w' hl' hr hg') hval
   have h3:=h2.2;generalize (o.semAt (W F.r).round a.eval).run P w=r at h3 ⊢
   cases r with
   |ok x w' =>
    cases x <;> simp only [Oper.uponIn] at h3 ⊢ <;> first
     |exact h3
     |exact ⟨h3.1,CallsIn.mono h3.2 (fun e w'' he=>by
       cases e with
       |returned v=>exact he
       |panicked c=>exact he.elim
       |outgrown=>obtain ⟨_,_,h⟩:=he;exact h.elim)⟩
     |exact ⟨h3.1,RowsIn.mono h3.2 (fun _ _ he=>he)⟩
     |exact ⟨h3.1,RoundIn.mono h3.2 (fun e w'' he=>by
       cases e with
       |returned v=>exact he
       |panicked c=>exact he.elim
       |outgrown=>obtain ⟨_,_,h⟩:=he;exact h.elim)⟩
   |halt x w'=>cases x <;> simp only [Oper.uponIn] at h3 ⊢
  ·rename_i hw
   rw [if_neg hw] at hval;exact ⟨fun _ _=>trivial,K8 hF hdst l (k+1) _ _ _ w hl' hr hval⟩
def Vq {id:Nat} {ops:Array Oper} {S:St} {K:Exit->St->Prop} (h:Run A P ops ops.toList S [] fun S' _=>K .normal S'):Sym A P (.region id ops false) S K:=fun F hF hd a w hg=>by
 refine wpIn_region ?_
 have:=K8 hF (bq.1 hd) ops.toList 0 S [] a w (by simp) h hg
 rw [List.range_eq_range',show ops.size=ops.toList.length by simp]
 have conv:∀ (l:List Nat) (a:Act) (w:World),wpOpsIn (W F.r) 0 P ops (fun e a' w'=>e=.normal/\∃ S' es',(fun S' (_:List Eff)=>K .normal S') S' es'/\Gam F S' a' w') l a w ->
   wpOpsIn (W F.r) 0 P ops (fun e a' w'=>∃ S',K e S'/\Gam F S' a' w') l a w:=by
  intro l
  induction l with
  |nil=>intro a w ⟨he,S',es',hk,hg⟩;exact ⟨S',hk,hg⟩
  |cons i l ih =>
   intro a w h;simp only [wpOpsIn] at h ⊢
   split
   ·rename_i ho;simp only [ho] at h;exact ih _ _ h
   ·rename_i o ho
    simp only [ho] at h;split
    ·rename_i hw
     rw [if_pos hw] at h;have h2:=Oper.wpIn_mono (fun a' w'=>ih a' w') h
     refine ⟨h2.1, ?_⟩
     have h3:=h2.2;generalize (o.semAt (W F.r).round a.eval).run P w=r at h3 ⊢
     cases r with
     |ok x w' =>
      cases x <;> simp only [Oper.uponIn] at h3 ⊢ <;> first
       |exact h3
       |exact ⟨h3.1,CallsIn.mono h3.2 (fun e w'' he=>by
         cases e with
         |returned v=>exact he
         |panicked c=>exact absurd he.1 (by simp)
         |outgrown=>obtain ⟨_,_,h⟩:=he;exact absurd h.1 (by simp))⟩
       |exact ⟨h3.1,RowsIn.mono h3.2 (fun _ _ he=>he)⟩
       |exact ⟨h3.1,RoundIn.mono h3.2 (fun e w'' he=>by
         cases e with
         |returned v=>exact he
         |panicked c=>exact absurd he.1 (by simp)
         |outgrown=>obtain ⟨_,_,h⟩:=he;exact absurd h.1 (by simp))⟩
     |halt x w'=>cases x <;> simp only [Oper.uponIn] at h3 ⊢;exact absurd h3.1 (by simp)
    ·rename_i hw
     rw [if_neg hw] at h;exact ⟨h.1,ih _ _ h.2⟩
 exact conv _ _ _ this
def deps (o:Oper):List Nat:=(o.after.toList.filter fun e=>Region.binds .any e).map (·.on)
def Jk:List Oper->List (List Nat)->List (List Nat)
 |[],acc=>acc
 |o :: r,acc=>Jk r (acc++[(deps o).flatMap fun d=>d :: acc.getD d []])
def Rh (e f:Eff):Bool :=
 e.keys.all (fun k=>!f.hr.contains k && !f.keys.contains k) && f.keys.all (fun k=>!e.hr.contains k) && e.news.all (fun k=>!f.ids.contains k) && f.news.all (fun k=>!e.ids.contains k) &&
 (e.dj == 0 || f.dj == 0) && e.dd.isEmpty && f.dd.isEmpty
structure Indep (e f:Eff):Prop where
 kr:∀ k ∈ e.keys,k ∉ f.hr
 kk:∀ k ∈ e.keys,k ∉ f.keys
 rk:∀ k ∈ f.keys,k ∉ e.hr
 nf:∀ k ∈ e.news,k ∉ f.ids
 ne:∀ k ∈ f.news,k ∉ e.ids
 dj:e.dj=0\/f.dj=0
 de:e.dd=[]
 df:f.dd=[]
def QfL {e f:Eff} (h:Rh e f=true):Indep e f:=by
 simp only [Rh,aZ,bq,dM,cL,beq_iff_eq,List.isEmpty_iff] at h;obtain ⟨⟨⟨⟨⟨⟨h1,h2⟩,h3⟩,h4⟩,h5⟩,h6⟩,h7⟩:=h
 refine ⟨fun k hk hm=>?_,fun k hk hm=>?_,fun k hk hm=>?_,fun k hk hm=>?_,fun k hk hm=>?_,h5,h6,h7⟩
 ·have:=(h1 k hk).1;simp [hm] at this
 ·have:=(h1 k hk).2;simp [hm] at this
 ·have:=h2 k hk;simp [hm] at this
 ·have:=h3 k hk;simp [hm] at this
 ·have:=h4 k hk;simp [hm] at this
def kS (ops:Array Oper) (es:List Eff):Bool :=
 let an:=Jk ops.toList []
 (List.range ops.size).all fun j =>
  match ops[j]? with
  |none=>true
  |some oj=>(deps oj).all (· < j) && (List.range j).all fun i =>
    (an.getD j []).contains i ||
    match ops[i]? with
    |none=>true
    |some oi=>oi.apart ops oj && Rh (es.getD i { av:=.junk }) (es.getD j { av:=.junk })
section draw
variable {ops : Array Oper} {E : Nat -> Eff}
def Qa8 (E:Nat->Eff) (listed:Array Bool) (i:Nat):Prop:=∀ k,listed.getD k false=true->∀ id ∈ (E i).news,id ∉ (E k).ids
def aOp (A:Frm->Prop) (P:Program) (ops:Array Oper) (E:Nat->Eff) (i:Nat) (listed:Array Bool) (S:St) (K:St->Prop):Prop :=
 match ops[i]? with
 |none=>K S
 |some o=>J2 A P ops o (E i) S/\Qa8 E listed i/\K (S.app o.dst (E i))
def Qfg (A:Frm->Prop) (P:Program) (ops:Array Oper) (E:Nat->Eff) (Q:St->Prop):Nat->Array Bool->St->Prop
 |0,listed,S=>Region.ready .any ops listed=[]/\Q S
 |fuel+1,listed,S=>(Region.ready .any ops listed=[]->Q S)/\∀ i ∈ Region.ready .any ops listed,aOp A P ops E i listed S (Qfg A P ops E Q fuel (listed.setIfInBounds i true))
def Closed (ops:Array Oper) (listed:Array Bool):Prop:=∀ m o,listed.getD m false=true->ops[m]?=some o->∀ d ∈ deps o,listed.getD d false=true
def ZV:∀ (l:List Oper) (acc:List (List Nat)) (j:Nat),j < acc.length->(Jk l acc)[j]?=acc[j]?
 |[],_,_,_=>rfl
 |o :: l,acc,j,h=>by
  rw [Jk,ZV l _ j (by simp;omega),bp h]
def KP:∀ (l:List Oper) (acc:List (List Nat)) (j:Nat) (o:Oper),l[j]?=some o->(∀ k o',l[k]?=some o'->∀ d ∈ deps o',d < acc.length+k) ->
  (Jk l acc)[acc.length+j]?=some ((deps o).flatMap fun d=>d :: (Jk l acc).getD d [])
 |[],_,_,_,h,_=>by simp at h
 |o' :: l,acc,0,o,h,hd=>by
  simp only [aK,ak] at h;subst h
  rw [Jk,bC,ZV l _ _ (by simp)]
  simp only [bv (ag _),Nat.sub_self,aK,ak];have hfm:∀ (f g:Nat->List Nat) (l:List Nat),(∀ x ∈ l,f x=g x)->l.flatMap f=l.flatMap g:=by
   intro f g l hfg
   induction l with
   |nil=>rfl
   |cons a t ih=>simp only [cM,hfg a aV,ih fun x hx=>hfg x (aQ _ hx)]
  refine hfm _ _ _ fun d hdm=>?_
  have hlt:d < acc.length:=by have:=hd 0 o' rfl d hdm;omega
  congr 1
  simp only [ah];rw [ZV l _ d (by simp;omega),bp hlt]
 |o' :: l,acc,j+1,o,h,hd=>by
  simp only [bt] at h;have:=KP l (acc++[(deps o').flatMap fun d=>d :: acc.getD d []]) j o h (fun k o'' hk d hdm=>by
   have:=hd (k+1) o'' (by simpa using hk) d hdm
   simp;omega)
  rw [Jk];simp only [aD,bl,cm] at this
  rw [show acc.length+(j+1)=acc.length+(0+1)+j by omega]
  exact this
def Qba {listed:Array Bool} (hlt:∀ (j:Nat) (o:Oper),ops[j]?=some o->∀ d ∈ deps o,d < j) (hc:Closed ops listed) :
  ∀ (j:Nat) (o:Oper),ops[j]?=some o->(∀ d ∈ deps o,listed.getD d false=true)->∀ i ∈ (Jk ops.toList []).getD j [],listed.getD i false=true:=by
 intro j
 induction j using Nat.strongRecOn with
 |_ j ih =>
  intro o ho hall i hi;have hs:=KP ops.toList [] j o (by simpa using ho) (fun k o' hk d hd=>by simpa using hlt k o' (by simpa using hk) d hd)
  simp only [cm,bE] at hs;rw [ah,hs] at hi
  simp only [Option.getD_some,List.mem_flatMap,ae] at hi;obtain ⟨d,hd,rfl|hi⟩:=hi
  ·exact hall _ hd
  ·have hdj:=hlt j o ho d hd
   have hdl:d < ops.size:=aN hdj (Nat.le_of_lt (aT.1 ho).1);have hod:ops[d]?=some ops[d]:=cp hdl
   exact ih d hdj _ hod (fun d' hd'=>hc d _ (hall d hd) hod d' hd') i hi
def JX {o:Oper} {d:Nat}:d ∈ deps o ↔ ∃ e ∈ o.after,Region.binds .any e=true/\e.on=d:=by
 simp [deps,and_assoc]
def VQ {j:Nat} {listed:Array Bool} {o:Oper} (h:j ∈ Region.ready .any ops listed) (ho:ops[j]?=some o):∀ d ∈ deps o,listed.getD d false=true:=by
 obtain ⟨_,o',ho',hall⟩:=mem_ready.1 h;rw [ho] at ho'
 cases ho';intro d hd
 obtain ⟨e,he,hb,rfl⟩:=JX.1 hd;exact hall e he hb
def Closed.set {listed:Array Bool} (hc:Closed ops listed) {j:Nat} {o:Oper} (ho:ops[j]?=some o) (hd:∀ d ∈ deps o,listed.getD d false=true):Closed ops (listed.setIfInBounds j true):=by
 intro m o' hm ho' d hdm;refine getD_set_true ?_
 by_cases hmj:j=m
 ·subst hmj;rw [ho] at ho';cases ho';exact hd d hdm
 ·rw [getD_set_ne false hmj] at hm;exact hc m o' hm ho' d hdm
def KL {S S':St} {oi oj:Oper} {ei ej:Eff} (h1:∀ d,oi.dst=some d->d ∉ oj.looksAt ops) (hkr:∀ k ∈ ei.keys,k ∉ ej.hr) (hdj:ei.dj=0\/ej.dj=0) :
  Agree ops oj ej S S' ↔ Agree ops oj ej (S.app oi.dst ei) S':=by
 have e1:∀ t ∈ oj.looksAt ops,(S.app oi.dst ei).t t=S.t t:=fun t ht=>by
  show put S.t oi.dst ei.av t=S.t t
  cases hd:oi.dst with
  |none=>rfl
  |some d =>
   have:t ≠ d:=fun e=>h1 d hd (e ▸ ht)
   simp only [put];rw [upd_ne _ _ _ _ this]
 have e2:∀ id ∈ ej.hr,(S.app oi.dst ei).h id=S.h id:=fun id hid=>zm fun hk=>hkr id hk hid
 have e3:ej.dj ≠ 0->(S.app oi.dst ei).j=S.j:=fun h=>by
  have:ei.dj=0:=hdj.resolve_right h;show S.j+ei.dj=S.j
  omega
 unfold Agree
 constructor
 ·exact fun h=>⟨fun t ht=>(h.1 t ht).trans (e1 t ht).symm,fun id hid=>(h.2.1 id hid).trans (e2 id hid).symm,fun hd=>(h.2.2 hd).trans (e3 hd).symm⟩
 ·exact fun h=>⟨fun t ht=>(h.1 t ht).trans (e1 t ht),fun id hid=>(h.2.1 id hid).trans (e2 id hid),fun hd=>(h.2.2 hd).trans (e3 hd)⟩
def J2.put_iff {S:St} {oi oj:Oper} {ei ej:Eff} (h1:∀ d,oi.dst=some d->d ∉ oj.looksAt ops) (hkr:∀ k ∈ ei.keys,k ∉ ej.hr) (hdj:ei.dj=0\/ej.dj=0) :
  J2 A P ops oj ej (S.app oi.dst ei) ↔ J2 A P ops oj ej S :=
 ⟨fun h F hF hd S2 a w hag=>h F hF hd S2 a w ((KL h1 hkr hdj).1 hag),fun h F hF hd S2 a w hag=>h F hF hd S2 a w ((KL h1 hkr hdj).2 hag)⟩
def UK (h:Nat->Option AObj) (ps:List (Nat × Option AObj)) (i:Nat):(i ∉ ps.map (·.1))\/∀ h',ze h' ps i=ze h ps i:=by
 induction ps generalizing h with
 |nil=>exact .inl (by simp)
 |cons p ps ih =>
  by_cases hp:i ∈ ps.map (·.1)
  ·exact .inr fun h'=>((ih (upd h p.1 p.2)).resolve_left (fun hn=>hn hp)) _
  ·by_cases hi:i=p.1
   ·refine .inr fun h'=>?_
    simp only [ze];rw [zm hp,zm hp,hi,upd_same,upd_same]
   ·exact .inl (by simp only [aw,ae,not_or];exact ⟨hi,hp⟩)
def Qee (h:Nat->Option AObj) {ps qs:List (Nat × Option AObj)} (hd:∀ k ∈ ps.map (·.1),k ∉ qs.map (·.1)):ze (ze h ps) qs=ze (ze h qs) ps:=by
 funext i
 by_cases h1:i ∈ ps.map (·.1)
 ·rw [zm (hd i h1)]
  exact ((UK h ps i).resolve_left (fun hn=>hn h1) _).symm
 ·rw [zm h1]
  by_cases h2:i ∈ qs.map (·.1)
  ·exact (UK h qs i).resolve_left (fun hn=>hn h2) _
  ·rw [zm h2,zm h2,zm h1]
def Qgz (S:St) {x y:Option Nat} {e f:Eff} (hd:∀ d,x=some d->y ≠ some d) (hi:Indep e f):(S.app x e).app y f=(S.app y f).app x e:=by
 simp only [St.app,hi.de,hi.df,bc];have h1:put (put S.t x e.av) y f.av=put (put S.t y f.av) x e.av:=by
  cases x with
  |none=>rfl
  |some d =>
   cases y with
   |none=>rfl
   |some c =>
    have hne:d ≠ c:=fun h=>hd d rfl (h ▸ rfl)
    funext t
    simp only [put,upd]
    by_cases ht:t=c
    ·subst ht;simp [Ne.symm hne]
    ·simp [ht]
 rw [h1,Qee S.h (fun k hk=>hi.kk k hk)]
 congr 1
 ·omega
 ·omega
def Qa7 {Q:St->Prop} {i:Nat} {oi:Oper} (hlt:∀ (j:Nat) (o:Oper),ops[j]?=some o->∀ d ∈ deps o,d < j) (hi:ops[i]?=some oi) :
  ∀ (fuel:Nat) (listed:Array Bool) (S:St),Closed ops listed ->
   (∀ j oj,ops[j]?=some oj->j ≠ i->listed.getD j true=false->i ∉ (Jk ops.toList []).getD j []->oi.apart ops oj=true/\Indep (E i) (E j)) ->
   i ∈ Region.ready .any ops listed->J2 A P ops oi (E i) S->Qa8 E listed i ->
   Qfg A P ops E Q fuel (listed.setIfInBounds i true) (S.app oi.dst (E i))->Qfg A P ops E Q (fuel+1) listed S:=by
 intro fuel
 induction fuel with
 |zero =>
  intro listed S _ _ hr hv hf H;refine ⟨fun h=>(by rw [h] at hr;cases hr),fun j hj=>?_⟩
  by_cases hji:j=i
  ·subst hji;unfold aOp;simp only [hi];exact ⟨hv,hf,H⟩
  ·have:=ready_mono hj hji
   rw [H.1] at this;cases this
 |succ fuel ih =>
  intro listed S hc hfree hr hv hf H;refine ⟨fun h=>(by rw [h] at hr;cases hr),fun j hj=>?_⟩
  by_cases hji:j=i
  ·subst hji;unfold aOp;simp only [hi];exact ⟨hv,hf,H⟩
  ·have h1:=H.2 j (ready_mono hj hji)
   obtain ⟨hjun,oj,hoj,_⟩:=mem_ready.1 hj;have hiun:listed.getD i false=false:=by
    have h0:=(mem_ready.1 hr).1
    rcases bK i listed.size with h'|h'
    ·simp [h'] at h0 ⊢;exact h0
    ·simp [cq h']
   have hnot:i ∉ (Jk ops.toList []).getD j []:=fun hm=>by
    rw [Qba hlt hc j oj hoj (VQ hj hoj) i hm] at hiun;cases hiun
   obtain ⟨hap,hin⟩:=hfree j oj hoj hji hjun hnot;obtain ⟨a1,a2,a3⟩:=Oper.apart_spec hap
   unfold aOp at h1 ⊢;simp only [hoj] at h1 ⊢
   obtain ⟨hvj,hfj,hrest⟩:=h1;refine ⟨(J2.put_iff a1 hin.kr hin.dj).1 hvj,fun k hk=>hfj k (getD_set_true hk), ?_⟩
   have hvi:J2 A P ops oi (E i) (S.app oj.dst (E j)):=(J2.put_iff a3 (fun k hk=>hin.rk k hk) hin.dj.symm).2 hv
   have hfi:Qa8 E (listed.setIfInBounds j true) i:=fun k hk id hid=>by
    by_cases hkj:j=k
    ·subst hkj;exact hin.nf id hid
    ·rw [getD_set_ne false hkj] at hk;exact hf k hk id hid
   refine ih (listed.setIfInBounds j true) _ (hc.set hoj (VQ hj hoj)) ?_ (ready_mono hr (Ne.symm hji)) hvi hfi ?_
   ·intro k ok hk hki hun hno
    refine hfree k ok hk hki ?_ hno
    by_cases hjk:j=k
    ·subst hjk;exact hjun
    ·rw [getD_set_ne true hjk] at hun;exact hun
   ·rw [Array.setIfInBounds_comm _ _ hji,<- Qgz S a2 hin]
    exact hrest
def V5 {Q:St->Prop} {F:Frm} (hF:A F) (hdst:∀ o ∈ ops.toList,LQ F.nt o=true) {N0:Nat} (hN:F.n0<=N0) (hnews:∀ i,∀ id ∈ (E i).news,N0<=id):∀ (fuel:Nat) (listed:Array Bool) (S:St) (a:Act) (w:World),listed.size=ops.size ->
  (∀ id,N0<=id->¬ Unm S id->∃ k,listed.getD k false=true/\id ∈ (E k).ids)->Qfg A P ops E Q fuel listed S->Gam F S a w ->
  wpAnyIn (W F.r) 0 P .any ops (fun e a' w'=>e=.normal/\∃ S',Q S'/\Gam F S' a' w') fuel listed a w
 |0,_,S,_,_,_,_,h,hg=>⟨h.1,rfl,S,h.2,hg⟩
 |fuel+1,listed,S,a,w,hsz,hinv,h,hg=>by
  refine ⟨fun h0=>⟨rfl,S,h.1 h0,hg⟩,fun i hi=>?_⟩
  have h1:=h.2 i hi;obtain ⟨_,oi,hoi,_⟩:=mem_ready.1 hi
  unfold aOp at h1;unfold wpOpIn
  simp only [hoi] at h1 ⊢;obtain ⟨hv,hf,hrest⟩:=h1
  have hfr:∀ id ∈ (E i).news,Zf F S id:=fun id hid=>by
   have hge:=hnews i id hid;refine ⟨Classical.byContradiction fun hu=>?_,bj hN hge⟩
   obtain ⟨k,hk,hm⟩:=hinv id hge hu;exact hf k hk id hid hm
  have hval:=hv F hF (hdst oi (ao (by simpa using hoi))) S a w ⟨fun _ _=>rfl,fun _ _=>rfl,fun _=>rfl⟩ hfr hg
  have hinv':∀ id,N0<=id->¬ Unm (S.app oi.dst (E i)) id->∃ k,(listed.setIfInBounds i true).getD k false=true/\id ∈ (E k).ids:=fun id hge hu=>by
   by_cases hm:id ∈ (E i).ids
   ·exact ⟨i,by simp [hsz,(aT.1 hoi).1],hm⟩
   ·obtain ⟨k,hk,hm'⟩:=hinv id hge fun hu'=>hu (hu'.app hm)
    exact ⟨k,getD_set_true hk,hm'⟩
  have next:=fun a' w'=>V5 hF hdst hN hnews fuel (listed.setIfInBounds i true) (S.app oi.dst (E i)) a' w' (by simpa using hsz) hinv' hrest
  split
  ·rename_i hw
   rw [if_pos hw] at hval;have h2:=Oper.wpIn_mono (fun a' w'=>next a' w') hval
   refine ⟨h2.1, ?_⟩
   have h3:=h2.2;generalize (oi.semAt (W F.r).round a.eval).run P w=r at h3 ⊢
   cases r with
   |ok x w' =>
    cases x <;> simp only [Oper.uponIn] at h3 ⊢ <;> first
     |exact h3
     |exact ⟨h3.1,CallsIn.mono h3.2 (fun e w'' he=>by
       cases e with
       |returned v=>exact he
       |panicked c=>exact he.elim
       |outgrown=>obtain ⟨_,_,h⟩:=he;exact h.elim)⟩
     |exact ⟨h3.1,RowsIn.mono h3.2 (fun _ _ he=>he)⟩
     |exact ⟨h3.1,RoundIn.mono h3.2 (fun e w'' he=>by
       cases e with
       |returned v=>exact he
       |panicked c=>exact he.elim
       |outgrown=>obtain ⟨_,_,h⟩:=he;exact h.elim)⟩
   |halt x w'=>cases x <;> simp only [Oper.uponIn] at h3 ⊢
  ·rename_i hw
   rw [if_neg hw] at hval;exact ⟨fun _ _=>trivial,next _ _ hval⟩
def Qc3 {Q:St->Prop} (hlt:∀ (j:Nat) (o:Oper),ops[j]?=some o->∀ d ∈ deps o,d < j)
  (hfree:∀ i j oi oj,i < j->ops[i]?=some oi->ops[j]?=some oj->i ∉ (Jk ops.toList []).getD j []->oi.apart ops oj=true/\Indep (E i) (E j)) :
  ∀ (l:List Oper) (k:Nat) (listed:Array Bool) (S:St),(∀ j,l[j]?=ops[k+j]?)->(k+l.length=ops.size)->listed.size=ops.size->(∀ m,m < ops.size->(listed.getD m true=decide (m < k))) ->
  (∀ m,m < k->∀ id ∈ (E m).ids,id < S.n) ->
  Run A P ops l S (((List.range k).map E).reverse) (fun S' es=>es.reverse=(List.range ops.size).map E/\Q S')->Qfg A P ops E Q l.length listed S
 |[],k,listed,S,_,hk,hsz,hl,_,h=>by
  refine ⟨?_,h.2⟩
  rw [List.eq_nil_iff_forall_not_mem];intro i hi
  obtain ⟨h0,o,ho,_⟩:=mem_ready.1 hi;have hlt:=(aT.1 ho).1
  rw [hl i hlt] at h0
  simp at h0 hk
  omega
 |o :: l,k,listed,S,hl0,hk,hsz,hl,hids,h=>by
  obtain ⟨e,hv,hr⟩:=h;have h0:ops[k]?=some o:=by simpa using (hl0 0).symm
  have hkl:k < ops.size:=(aT.1 h0).1;have key:∀ (l:List Oper) (S:St) (es:List Eff),Run A P ops l S es (fun S' es=>es.reverse=(List.range ops.size).map E/\Q S')->∃ t,((List.range ops.size).map E)=es.reverse++t:=by
   intro l
   induction l with
   |nil=>intro S es h;exact ⟨[],by simp [h.1]⟩
   |cons o l ih =>
    intro S es h;obtain ⟨e,_,hr⟩:=h
    obtain ⟨t,ht⟩:=ih _ _ hr;exact ⟨e :: t,by simpa using ht⟩
  have hek:e=E k:=by
   obtain ⟨t,ht⟩:=key _ _ _ hr;have h1:((List.range ops.size).map E)[k]?=some (E k):=by simp [hkl]
   rw [ht] at h1
   simp at h1
   exact h1
  subst hek;have hkd:∀ m,listed.getD m false=true->m < k:=fun m hm=>by
   rcases bK m ops.size with h'|h'
   ·have:=hl m h'
    have e:listed.getD m true=listed.getD m false:=by simp [hsz,h']
    rw [e,hm] at this
    simpa using this.symm
   ·simp [cq (show listed.size<=m by omega)] at hm
  have hlk:∀ m,m < k->listed.getD m false=true:=fun m hm=>by
   have:=hl m (by omega)
   have e:listed.getD m true=listed.getD m false:=by simp [hsz,show m < ops.size by omega]
   rw [<- e,this];simpa using hm
  have hready:k ∈ Region.ready .any ops listed:=mem_ready.2 ⟨by rw [hl k hkl];simp,o,h0,fun e he hb=>hlk _ (hlt k o h0 _ (JX.2 ⟨e,he,hb,rfl⟩))⟩
  refine Qa7 hlt h0 l.length listed S ?_ ?_ hready hv.valid ?_ ?_
  ·intro m om hm hom d hd
   have:=hkd m hm;have:=hlt m om hom d hd
   exact hlk d (by omega)
  ·intro j oj hoj hjk hun hnot
   have hjl:=(aT.1 hoj).1;rw [hl j hjl] at hun
   simp at hun
   exact hfree k j o oj (by omega) h0 hoj hnot
  ·intro m hm id hid hmem
   have h1:=hids m (hkd m hm) id hmem;have h2:=hv.news id hid
   omega
  ·refine Qc3 hlt hfree l (k+1) _ _ (fun j=>by have:=hl0 (j+1);simpa [ck,bR 1 j] using this) (by simp at hk;omega) (by simpa using hsz) ?_ ?_ ?_
   ·intro m hm
    by_cases hkm:k=m
    ·subst hkm;simp [hsz,hkl]
    ·rw [getD_set_ne true hkm,hl m hm]
     simp;omega
   ·intro m hm id hid
    show id < max S.n (E k).n
    by_cases hmk:m=k
    ·subst hmk;have:=hv.ids id hid;omega
    ·have:=hids m (by omega) id hid;omega
   ·rw [bL,ai,List.reverse_append]
    simpa using hr
end draw
def QR {ops:Array Oper} {K K':St->List Eff->Prop} (hk:∀ S es,K S es->K' S es):∀ (l:List Oper) (S:St) (es:List Eff),Run A P ops l S es K->Run A P ops l S es K'
 |[],_,_,h=>hk _ _ h
 |_ :: l,_,_,⟨e,hv,hr⟩=>⟨e,hv,QR hk l _ _ hr⟩
def KM {ops:Array Oper} {K:St->List Eff->Prop}:∀ (l:List Oper) (S:St) (es:List Eff),Run A P ops l S es K->∃ t:List Eff,t.length=l.length/\(∀ e ∈ t,∀ id ∈ e.news,S.n<=id) /\
  Run A P ops l S es (fun S' es'=>es'=t.reverse++es/\K S' es')
 |[],_,es,h=>⟨[],rfl,by simp,by simp,h⟩
 |o :: l,S,es,⟨e,hv,hr⟩=>by
  obtain ⟨t,hl,hn,ht⟩:=KM l _ _ hr;refine ⟨e :: t,by simp [hl], ?_,e,hv,QR (fun S' es' h=>⟨by simpa using h.1,h.2⟩) _ _ _ ht⟩
  intro e' he' id hid
  rcases ae.1 he' with rfl|he'
  ·exact hv.news id hid
  ·exact bj (cK _ _) (hn e' he' id hid)
def YP (hm:P.follows .mixedOrders=true) {id:Nat} {ops:Array Oper} {S:St} {K:Exit->St->Prop}
  (h:Run A P ops ops.toList S [] fun S' es=>kS ops es.reverse=true/\K .normal S'):Sym A P (.region id ops true) S K:=fun F hF hd a w hg=>by
 obtain ⟨t,hlen,hnews,hrun⟩:=KM _ _ _ h;have hlen':t.length=ops.size:=by simpa using hlen
 let E:Nat->Eff:=fun i=>t.getD i { av:=.junk }
 have hE:(List.range ops.size).map E=t:=by
  apply bS
  intro i;simp only [aC,E]
  rcases bK i ops.size with hi|hi
  ·simp [hi,hlen']
  ·simp [show ¬ i < ops.size by omega,cr (show t.length<=i by omega)]
 have hcheck:kS ops t=true\/ops.size=0:=by
  have fin:∀ (l:List Oper) (S:St) (es:List Eff),Run A P ops l S es (fun S' es'=>es'=t.reverse++[]/\kS ops es'.reverse=true/\K .normal S')->kS ops t=true:=by
   intro l
   induction l with
   |nil=>intro S es h;have:=h.2.1;rw [h.1] at this;simpa using this
   |cons o l ih=>intro S es ⟨e,_,hr⟩;exact ih _ _ hr
  exact .inl (fin _ _ _ hrun)
 have hB:kS ops t=true:=by
  rcases hcheck with h|h
  ·exact h
  ·simp [kS,h]
 simp only [kS,bq,aF] at hB;have hlt:∀ (j:Nat) (o:Oper),ops[j]?=some o->∀ d ∈ deps o,d < j:=fun j o ho d hd=>by
  have h1:=hB j (aT.1 ho).1;simp only [ho,aZ,bq] at h1
  simpa using h1.1 d hd
 have hfree:∀ i j oi oj,i < j->ops[i]?=some oi->ops[j]?=some oj->i ∉ (Jk ops.toList []).getD j []->oi.apart ops oj=true/\Indep (E i) (E j):=fun i j oi oj hij hoi hoj hn=>by
  have h1:=hB j (aT.1 hoj).1;simp only [hoj,aZ,bq,aF] at h1
  have h2:=h1.2 i hij;simp only [hoi,cL,aZ] at h2
  rcases h2 with h2|h2
  ·exact absurd (by simpa using h2) hn
  ·exact ⟨h2.1,QfL h2.2⟩
 have hany:=Qc3 (A:=A) (P:=P) (E:=E) (Q:=fun S'=>K .normal S') hlt hfree ops.toList 0 (Array.replicate ops.size false) S (by simp) (by simp) (by simp) (fun m hm=>by simp [hm]) (fun m hm=>by omega)
  (QR (K:=fun S' es'=>es'=t.reverse++[]/\kS ops es'.reverse=true/\K .normal S') (fun S' es' h=>⟨by rw [hE,h.1];simp,h.2.2⟩) _ _ _ (by simpa using hrun))
 have hn0:F.n0<=S.n:=let ⟨_,_,H⟩:=hg;H.nle
 have hen:∀ i,∀ id ∈ (E i).news,S.n<=id:=fun i id hid=>by
  rcases bK i t.length with hi|hi
  ·have e1:E i=t[i]:=by simp [E,hi]
   rw [e1] at hid;exact hnews _ (bF hi) id hid
  ·have e1:E i={ av:=.junk }:=by simp [E,cr hi]
   rw [e1] at hid;cases hid
 have:=V5 hF (bq.1 hd) hn0 hen ops.toList.length (Array.replicate ops.size false) S a { w with drawn:=w.drawn+1 } (by simp) (fun id hid hu=>absurd (hg.wf id hid) hu) hany (hg.calm (Ext.drew _ w))
 rw [show ops.toList.length=ops.size by simp] at this
 refine wpIn_mono (wpIn_region_any hm this) fun e a' w' ⟨he,S',hk,hg'⟩=>⟨S',by rw [he];exact hk,hg'⟩
def ZU (N:St->Prop) (K:Exit->St->Prop):Exit->St->Prop
 |.normal,S=>N S
 |.exit id,S=>K (.exit id) S
 |.goto l,S=>K (.goto l) S
 |.ret,S=>K .ret S
 |.panic c,S=>K (.panic c) S
 |.outgrown,S=>K .outgrown S
def yQ (id:Nat) (K:Exit->St->Prop):Exit->St->Prop
 |.normal,S=>K .normal S
 |.exit id',S=>if id'=id then K .normal S else K (.exit id') S
 |.goto l,S=>K (.goto l) S
 |.ret,S=>K .ret S
 |.panic c,S=>K (.panic c) S
 |.outgrown,S=>K .outgrown S
def QfC {S:St} {K:Exit->St->Prop} (h:K .normal S):Sym A P .skip S K:=fun _ _ _ _ _ hg=>wpIn_skip ⟨S,h,hg⟩
def QdT {l:Nat} {S:St} {K:Exit->St->Prop} (h:K .normal S):Sym A P (.label l) S K:=fun _ _ _ _ _ hg=>wpIn_label ⟨S,h,hg⟩
def Qe2 {id:Nat} {S:St} {K:Exit->St->Prop} (h:K (.exit id) S):Sym A P (.exit id) S K:=fun _ _ _ _ _ hg=>wpIn_exit ⟨S,h,hg⟩
def Qhf {S:St} {K:Exit->St->Prop} (h:K .ret S):Sym A P .ret S K:=fun _ _ _ _ _ hg=>wpIn_ret ⟨S,h,hg⟩
def Qhs {x y:Code} {S:St} {K:Exit->St->Prop} (h:Sym A P x S (ZU (fun S'=>Sym A P y S' K) K)):Sym A P (.seq x y) S K:=fun F hF hd a w hg=>by
 simp only [kI,aZ] at hd;refine wpIn_seq (wpIn_mono (h F hF hd.1 a w hg) ?_)
 rintro e a' w' ⟨S',hk,hg'⟩;cases e with
 |normal=>exact hk F hF hd.2 a' w' hg'
 |_=>exact ⟨S',hk,hg'⟩
def QdD {id:Nat} {c:Code} {S:St} {K:Exit->St->Prop} (h:Sym A P c S (yQ id K)):Sym A P (.block id c) S K:=fun F hF hd a w hg=>by
 refine wpIn_block (wpIn_mono (h F hF hd a w hg) ?_)
 rintro e a' w' ⟨S',hk,hg'⟩;cases e with
 |exit id' =>
  simp only [Exit.inBlock]
  by_cases hid:id'=id
  ·rw [if_pos hid];simp only [yQ,if_pos hid] at hk;exact ⟨S',hk,hg'⟩
  ·rw [if_neg hid];simp only [yQ,if_neg hid] at hk;exact ⟨S',hk,hg'⟩
 |_=>exact ⟨S',hk,hg'⟩
def vw:Value->AV
 |.bool b=>.v (.bool b)
 |.int k n=>.v (.int k n)
 |.float k n=>.v (.float k n)
 |.complex k n m=>.v (.complex k n m)
 |.string s=>.v (.string s)
 |.pointer a=>.v (.pointer a)
 |.slice none 0 0=>.nil
 |.slice (some a) n c=>.v (.slice (some a) n c)
 |.slice none (n+1) c=>.v (.slice none (n+1) c)
 |.slice none 0 (c+1)=>.v (.slice none 0 (c+1))
 |.map r=>.v (.map r)
 |.chan r=>.v (.chan r)
 |.func f a b=>.v (.func f a b)
 |.nilFunc=>.v .nilFunc
 |.iface t v=>.v (.iface t v)
 |.nilIface=>.v .nilIface
 |.agg _=>.junk
 |.tuple _=>.junk
def cAV:Value->AV
 |.agg cs=>.agg (cs.toList.map vw)
 |v=>vw v
def ev (S:St):Operand->AV
 |.tmp t=>S.t t
 |.const v=>cAV v
 |.global _=>.junk
 |.func f=>.clo f []
def kz {w:World} {ok:Nat->Prop} {ρ:Nat->Value} {y:Value} (v:Value):ARel w ok ρ y (vw v) v:=by
 unfold vw;split <;> first|exact .v rfl|exact .nil|exact .junk
def Qhp {w:World} {ok:Nat->Prop} {ρ:Nat->Value} {y:Value} (v:Value):ARel w ok ρ y (cAV v) v:=by
 unfold cAV;split
 ·rename_i cs
  refine .agg (by simp) fun i c hc=>?_
  rw [aC] at hc;obtain ⟨x,hx,rfl⟩:=aA.1 hc
  have:cs.getD i undef=x:=by
   have:cs[i]?=some x:=by simpa using hx
   simp [this]
  rw [this];exact kz x
 ·exact kz _
def QT (v:Value):(vw v).ids=[]:=by unfold vw;split <;> rfl
def Qe7 {cs:List AV} (h:∀ c ∈ cs,c.ids=[]):AV.idsL cs=[]:=by
 induction cs with
 |nil=>rfl
 |cons c cs ih=>simp [AV.idsL,h c aV,ih fun x hx=>h x (aQ _ hx)]
def QhK (v:Value):(cAV v).ids=[]:=by
 unfold cAV;split
 ·exact Qe7 fun c hc=>by obtain ⟨x,_,rfl⟩:=aj.1 hc;exact QT x
 ·exact QT _
def qm {F:Frm} {S:St} {a:Act} {w:World} {ρ:Nat->Value} {own:Own} (H:Holds F S a w ρ own) (x:Operand):ARel w (okB w own ρ S.h) ρ F.y (ev S x) (a.eval x):=by
 cases x with
 |tmp t=>exact H.temps t
 |const v=>exact Qhp v
 |global g=>exact .junk
 |func f=>exact .clo (by simp) (by simp)
def jO {S:St} (h:Wf S) (x:Operand):∀ id ∈ (ev S x).ids,id < S.n:=by
 intro id hid;cases x with
 |tmp t=>exact bm fun hn=>(h id hn).2.1 t hid
 |const v=>simp [ev,QhK] at hid
 |global g=>simp [ev,AV.ids] at hid
 |func f=>simp [ev,AV.ids,AV.idsL] at hid
def qx {w:World} {ok:Nat->Prop} {ρ:Nat->Value} {y x v:Value} (h:ARel w ok ρ y (.v x) v):v=x/\x.oneCell'=true:=by cases h;exact ⟨rfl,‹_›⟩
def Qey {c:Operand} {x y:Code} {S:St} {K:Exit->St->Prop} {b:Bool} (hc:ev S c=.v (.bool b)) (h1:b=true->Sym A P x S K) (h2:b=false->Sym A P y S K):Sym A P (.cond c x y) S K:=fun F hF hd a w hg=>by
 simp only [kI,aZ] at hd;obtain ⟨ρ,own,H⟩:=hg
 have he:=qm H c;rw [hc] at he
 have he:=(qx he).1;exact wpIn_cond_split he (fun hb=>h1 hb F hF hd.1 a w ⟨ρ,own,H⟩) (fun hb=>h2 hb F hF hd.2 a w ⟨ρ,own,H⟩)
def Le (S S':St):Prop:=∀ F a w,Gam F S a w->Gam F S' a w
def Le.refl (S:St):Le S S:=fun _ _ _ h=>h
def Le.trans {S S' S'':St} (h:Le S S') (h':Le S' S''):Le S S'':=fun F a w hg=>h' F a w (h F a w hg)
def Qb5 {c:Code} {S S':St} {K:Exit->St->Prop} (h:Le S S') (hs:Sym A P c S' K):Sym A P c S K:=fun F hF hd a w hg=>hs F hF hd a w (h F a w hg)
def qi {ι:Type} {c:Code} {S:St} {K:Exit->St->Prop} (I:ι->St) (μ:ι->Nat) (i0:ι) (h0:Le S (I i0))
  (round:∀ i,Sym A P c (I i) (ZU (fun S'=>∃ i',μ i' < μ i/\Le S' (I i')) K)):Sym A P (.loop c) S K:=fun F hF hd a w hg=>by
 intro b k cs hro hb hr;have key:∀ m i a w,μ i=m->Gam F (I i) a w ->
   ∃ e a' w',(∃ S',K e S'/\Gam F S' a' w')/\ArrivesIn (Machine.fenced P (W F.r)) P (lone (b.atR a (.code c :: .inLoop c :: k)) cs w) b k cs e a' w':=by
  intro m
  induction m using Nat.strongRecOn with
  |_ m ih =>
   intro i a w hm hI;obtain ⟨e,a₁,w₁,⟨S₁,hk,hg₁⟩,harr⟩:=round i F hF hd a w hI b (.inLoop c :: k) cs hro hb hr
   cases e with
   |normal =>
    obtain ⟨i',hlt,hle⟩:=hk;obtain ⟨e₂,a₂,w₂,hq₂,harr₂⟩:=ih (μ i') (hm ▸ hlt) i' a₁ w₁ rfl (hle F a₁ w₁ hg₁)
    exact ⟨e₂,a₂,w₂,hq₂,.of_steps (StepsIn.trans harr (.one (fenced_calm hb hr rfl) stepR_inLoop)) harr₂⟩
   |exit id=>exact ⟨_,a₁,w₁,⟨S₁,hk,hg₁⟩,.pass (x:=.inLoop c) rfl (fun _ _=>.inl (by simp)) harr⟩
   |goto l=>exact ⟨_,a₁,w₁,⟨S₁,hk,hg₁⟩,.pass (x:=.inLoop c) rfl (fun _ _=>.inl (by simp)) harr⟩
   |ret=>exact ⟨_,a₁,w₁,⟨S₁,hk,hg₁⟩,.pass (x:=.inLoop c) rfl (fun _ _=>.inl (by simp)) harr⟩
   |panic ch=>exact ⟨_,a₁,w₁,⟨S₁,hk,hg₁⟩,.pass (x:=.inLoop c) rfl (fun _ _=>.inl (by simp)) harr⟩
   |outgrown=>exact ⟨_,a₁,w₁,⟨S₁,hk,hg₁⟩,.pass (x:=.inLoop c) rfl (fun _ _=>.inl (by simp)) harr⟩
 obtain ⟨e,a',w',hq,harr⟩:=key _ i0 a w rfl (h0 F a w hg);exact ⟨e,a',w',hq,.of_steps (.one (fenced_calm hb hr rfl) stepR_loop) harr⟩
def dvP:List AV->Option (List DV)
 |[]=>some []
 |.v x :: cs=>(dvP cs).map (DV.v x :: ·)
 |_ :: _=>none
def QcA:∀ {cs:List AV} {ds:List DV},dvP cs=some ds->cs.length=ds.length/\∀ (i:Nat) (d:DV),ds[i]?=some d->∃ x,cs[i]?=some (.v x)/\d=.v x
 |[],ds,h=>by simp [dvP] at h;subst h;simp
 |c :: cs,ds,h=>by
  cases c <;> simp only [dvP] at h <;> first|cases h|skip
  rename_i x;obtain ⟨ds',h',rfl⟩:=aA.1 h
  obtain ⟨g1,g2⟩:=QcA h';refine ⟨by simp [g1],fun i d hd=>?_⟩
  cases i with
  |zero=>simp only [aK,ak] at hd;subst hd;exact ⟨x,rfl,rfl⟩
  |succ i=>simpa using g2 i d (by simpa using hd)
def jI:AV->Bool
 |.agg _=>false
 |.tup _=>false
 |.junk=>false
 |.v _=>true
 |.nil=>true
 |.emp=>true
 |.sl _=>true
 |.ep _ _=>true
 |.ptr _ _=>true
 |.row _=>true
 |.rp _ _ _ _=>true
 |.csl _ _=>true
 |.psl _ _ _ _=>true
 |.rsl _ _ _ _=>true
 |.mp _=>true
 |.clo _ _=>true
 |.cb=>true
 |.any=>true
 |.bnd _ _=>true
def Jw {w:World} {ok:Nat->Prop} {ρ:Nat->Value} {y:Value} {c:AV} {v:Value} (hc:jI c=true) (h:ARel w ok ρ y c v):v.oneCell'=true:=by
 cases h <;> first|assumption|rfl|(simp [jI] at hc)|skip
 rename_i hd;cases hd <;> first|assumption|rfl
def Qb9 (h:Nat->Option AObj):List AV->Option (List (List DV))
 |[]=>some []
 |.row i :: cs=>match h i with
  |some (.row _ _ xs)=>(Qb9 h cs).map ([.sl xs] :: ·)
  |_=>none
 |_ :: _=>none
def rowAt (h:Nat->Option AObj) (i:Nat):Option AObj:=match h i with
 |some (.rows e cs)=>(Qb9 h cs).map (AObj.row e 1)
 |o=>o
mutual
def AV.le (h:Nat->Option AObj) (Z:Nat->Option Nat):AV->AV->Prop
 |_,.junk=>True
 |.v x,.v y=>x=y
 |.nil,.nil=>True
 |.nil,.emp=>True
 |.emp,.emp=>True
 |.emp,.sl ys=>ys=[]
 |.nil,.sl ys=>ys=[]
 |.sl xs,.sl ys=>xs=ys
 |.row i,.sl ys=>∃ e k,rowAt h i=some (.row e k ys)
 |.agg cs,.agg ds=>AV.leL h Z cs ds
 |.tup cs,.tup ds=>AV.leL h Z cs ds
 |.ep cs o,.ep ds p=>cs=ds/\o=p
 |.ptr i o,.ptr j p=>Z j=some i/\o=p
 |.row i,.row j=>Z j=some i
 |.nil,.row j=>Z j=none
 |.rp i k m o,.rp j l n p=>Z j=some i/\k=l/\m=n/\o=p
 |.csl i k,.csl j l=>Z j=some i/\k=l
 |.psl i o n c,.psl j p m d=>Z j=some i/\o=p/\n=m/\c=d
 |.psl i o n _,.sl ys=>∃ cs ds,h i=some (.cells cs)/\o+n<=cs.length/\dvP ((cs.drop o).take n)=some ds/\ys=ds.map fun d=>[d]
 |.rsl i k m o,.rsl j l n p=>Z j=some i/\k=l/\m=n/\o=p
 |.mp i,.mp j=>Z j=some i
 |.clo f cs,.clo g ds=>f=g/\AV.leL h Z cs ds
 |.cb,.cb=>True
 |c,.any=>jI c=true
 |.bnd f cs,.bnd g ds=>f=g/\AV.leL h Z cs ds
 |_,_=>False
def AV.leL (h:Nat->Option AObj) (Z:Nat->Option Nat):List AV->List AV->Prop
 |[],[]=>True
 |c :: cs,d :: ds=>AV.le h Z c d/\AV.leL h Z cs ds
 |_,_=>False
end
def Zk (h:Nat->Option AObj) (Z:Nat->Option Nat):List AV->List (List DV)->Prop
 |[],[]=>True
 |c :: cs,[.sl xs] :: ys=>AV.le h Z c (.sl xs)/\Zk h Z cs ys
 |_,_=>False
def AObj.le (h:Nat->Option AObj) (Z:Nat->Option Nat):AObj->AObj->Prop
 |.cells cs,.cells ds=>AV.leL h Z cs ds
 |.row e k xs,.row f l ys=>e=f/\k=l/\xs=ys
 |.map es,.map fs=>es=fs
 |.mark,.mark=>True
 |.rows e cs,.rows f ds=>e=f/\AV.leL h Z cs ds
 |.rows e cs,.row f k ys=>e=f/\k=1/\Zk h Z cs ys
 |.it m c s,.it m' c' s'=>Z m'=some m/\c=c'/\s=s'
 |.fm es,.fm fs=>es.map (·.1)=fs.map (·.1)/\AV.leL h Z (es.map (·.2)) (fs.map (·.2))
 |_,_=>False
def AV.leL_length {h:Nat->Option AObj} {Z:Nat->Option Nat}:∀ {cs ds:List AV},AV.leL h Z cs ds->cs.length=ds.length
 |[],[],_=>rfl
 |_ :: cs,_ :: ds,hl=>by simp only [AV.leL] at hl;simp [AV.leL_length hl.2]
 |[],_ :: _,hl=>by simp [AV.leL] at hl
 |_ :: _,[],hl=>by simp [AV.leL] at hl
def AV.leL_get {h:Nat->Option AObj} {Z:Nat->Option Nat}:∀ {cs ds:List AV},AV.leL h Z cs ds->∀ (i:Nat) (d:AV),ds[i]?=some d->∃ c,cs[i]?=some c/\AV.le h Z c d
 |[],[],_,i,d,hd=>by simp at hd
 |c :: cs,d' :: ds,hl,0,d,hd=>by
  simp only [AV.leL] at hl;simp only [aK,ak] at hd
  subst hd;exact ⟨c,rfl,hl.1⟩
 |c :: cs,d' :: ds,hl,i+1,d,hd=>by
  simp only [AV.leL] at hl;simp only [bt] at hd ⊢
  exact AV.leL_get hl.2 i d hd
 |[],_ :: _,hl,_,_,_=>by simp [AV.leL] at hl
 |_ :: _,[],hl,_,_,_=>by simp [AV.leL] at hl
def Qf {w:World} {ok ok':Nat->Prop} {ρ:Nat->Value} {y:Value} {e:TypeId} {k:Nat} {xs:List (List DV)} {x:Value} (h:ORel w ok ρ y (.row e k xs) x)
  (hok:∀ b,ok b->ok' b) (hx:∀ b,blk x=some b->ok' b):DRel w ok' (.sl xs) x:=by
 cases h with
 |@row _ _ _ _ flat h1 h2 h3 h4 =>
  by_cases hn:xs.length=0
  ·have:xs=[]:=bu hn
   subst this
   rcases h3 with h3|⟨_,_,a,rfl⟩
   ·rcases h3.2 with ⟨rfl,_⟩|⟨g,cap,cur,rfl,_,_,_,hcm,_⟩
    ·exact .sl0 (af _)
    ·exact .sl0 hcm
   ·exact .sl0 (af _)
  ·obtain ⟨h3',g,cap,cur,rfl,hg,hnc,hcm,hcs,htake,hb⟩:=wO h3 (by omega)
   have hcell:∀ j u,flat[j]?=some u->w.cell? ((⟨g,0,none⟩:Addr).add j)=some u:=h3'.cells (g:=g) rfl;have hu:∀ (i:Nat) (r:List DV) (j:Nat) (d:DV),xs[i]?=some r->r[j]?=some d->∃ u,flat[i * k+j]?=some u/\DRel w ok d u:=h4
   refine .sl (k:=k) (fun i j=>flat.getD (i * k+j) undef) rfl (by omega) hnc hcm h1 (fun i r hr=>h2 r (ao hr)) (fun i r j d hi hj=>?_) (fun i r j d hi hj=>?_) (hx g hb)
   ·obtain ⟨u,hu1,_⟩:=hu i r j d hi hj
    rw [hcell _ u hu1];simp [hu1]
   ·obtain ⟨u,hu1,hd⟩:=hu i r j d hi hj
    have:flat.getD (i * k+j) undef=u:=by simp [hu1]
    rw [this];exact hd.mono fun b hb=>⟨hok b hb,rfl⟩
def Xk {w:World} {ok ok':Nat->Prop} {ρ:Nat->Value} {y:Value} {cs:List AV} {ds:List DV} {b o n c:Nat} (h:ORel w ok ρ y (.cells cs) (.pointer (some ⟨b,0,none⟩))) (hb:ok' b)
  (hle:o+n<=cs.length) (hd:dvP ((cs.drop o).take n)=some ds) (hn:n<=c) (hc:c<=maxLen):DRel w ok' (.sl (ds.map fun d=>[d])) (.slice (some ⟨b,o,none⟩) n c):=by
 obtain ⟨g1,g2⟩:=QcA hd;have hl:ds.length=n:=by rw [<- g1];simp;omega
 by_cases h0:n=0
 ·subst h0
  have:ds=[]:=bu hl;subst this
  exact .sl0 hc
 ·cases h with
  |@cells _ _ t vs h1 h2 h3 =>
   have key:∀ (i:Nat) (d:DV),ds[i]?=some d->w.cell? ((⟨b,o,none⟩:Addr).add (i * 1+0))=some (vs.getD (o+i) undef)/\DRel w ok' d (vs.getD (o+i) undef):=fun i d hi=>by
    obtain ⟨x,hx,rfl⟩:=g2 i d hi;have hilt:i < n:=by have:=(aq.1 hi).1;omega
    rw [aP,if_pos hilt,bM] at hx;obtain ⟨r1,r2⟩:=h3 (o+i) _ hx
    have hlt:o+i < vs.size:=by omega
    rw [jm,bI,bC];refine ⟨?_, ?_⟩
    ·simp only [World.cell?,h1]
     simp [bG,hlt]
    ·generalize vs.getD (o+i) undef=u at r1 r2
     cases r1 with
     |v e=>exact .v e
   refine .sl (k:=1) (fun i _=>vs.getD (o+i) undef) (by simp [hl]) (by omega) hn hc (by omega) (fun i r hr=>?_) (fun i r j d hi hj=>?_) (fun i r j d hi hj=>?_) hb
   ·rw [aC] at hr
    obtain ⟨d,_,rfl⟩:=aA.1 hr
    rfl
   all_goals
    rw [aC] at hi;obtain ⟨d',hd',rfl⟩:=aA.1 hi
    cases j with
    |succ j=>simp at hj
    |zero =>
     simp only [aK,ak] at hj;subst hj
     first|exact (key i _ hd').1|exact (key i _ hd').2
def Qay {h:Nat->Option AObj}:∀ {cs:List AV} {ys:List (List DV)},Qb9 h cs=some ys->cs.length=ys.length/\∀ (i:Nat) (r:List DV),ys[i]?=some r->∃ j e k xs,cs[i]?=some (.row j)/\h j=some (.row e k xs)/\r=[.sl xs]
 |[],ys,hf=>by simp [Qb9] at hf;subst hf;simp
 |c :: cs,ys,hf=>by
  unfold Qb9 at hf;split at hf
  ·rename_i h0;cases h0
  ·rename_i j cs' h0
   cases h0;split at hf
   ·rename_i e k xs hj
    obtain ⟨zs,hz,rfl⟩:=aA.1 hf;obtain ⟨g1,g2⟩:=Qay hz
    refine ⟨by simp [g1],fun i r hr=>?_⟩
    cases i with
    |zero=>simp only [aK,ak] at hr;subst hr;exact ⟨j,e,k,xs,rfl,hj,rfl⟩
    |succ i=>simpa using g2 i r (by simpa using hr)
   ·cases hf
  ·cases hf
def Qdb {w:World} {ok ok':Nat->Prop} {ρ:Nat->Value} {y:Value} {h:Nat->Option AObj} (hobj:∀ i o,h i=some o->ORel w ok ρ y o (ρ i))
  (hok:∀ b,ok b->ok' b) (hrow:∀ i o b,h i=some o->blk (ρ i)=some b->ok' b) {i:Nat} {e:TypeId} {k:Nat} {ys:List (List DV)} (hi:rowAt h i=some (.row e k ys)):DRel w ok' (.sl ys) (ρ i):=by
 unfold rowAt at hi;split at hi
 ·rename_i e0 cs hc
  obtain ⟨zs,hz,hzz⟩:=aA.1 hi;cases hzz
  obtain ⟨g1,g2⟩:=Qay hz;have ho:=hobj _ _ hc
  generalize hx:ρ i=x at ho;cases ho with
  |@rows _ _ _ flat h3 h4 =>
   have hrel:ORel w ok' ρ y (.row e 1 ys) x:=by
    refine .row (flat:=flat) (by omega) (fun r hr=>?_) (by rw [<- g1];exact h3) fun q r j d hq hj=>?_
    ·obtain ⟨q,hq⟩:=dN.1 hr
     obtain ⟨_,_,_,_,_,_,rfl⟩:=g2 q r hq
     rfl
    ·obtain ⟨j',e',k',xs,hcq,hj',rfl⟩:=g2 q r hq
     obtain ⟨u,hu,hr,_⟩:=h4 q _ hcq;cases j with
     |succ j=>simp at hj
     |zero =>
      simp only [aK,ak] at hj;subst hj
      refine ⟨u,by simpa using hu, ?_⟩
      cases hr with
      |row e1 _ =>
       rw [<- e1];exact Qf (hobj _ _ hj') hok fun b hb=>hrow _ _ b hj' hb
   exact Qf hrel (fun _ hb=>hb) fun b hb=>hrow i _ b hc (by rw [hx];exact hb)
 ·exact Qf (hobj _ _ hi) hok fun b hb=>hrow _ _ b hi hb
def AV.le_rel {w:World} {ok ok':Nat->Prop} {ρ ρ':Nat->Value} {y:Value} {h:Nat->Option AObj} {Z:Nat->Option Nat} (hobj:∀ i o,h i=some o->ORel w ok ρ y o (ρ i))
  (hok:∀ b,ok b->ok' b) (hrow:∀ i o b,h i=some o->blk (ρ i)=some b->ok' b) (hσ:∀ j i,Z j=some i->ρ' j=ρ i) (hσ0:∀ j,Z j=none->ρ' j=.slice none 0 0) {c:AV} {x:Value} (hr:ARel w ok ρ y c x) :
  ∀ d,AV.le h Z c d->ARel w ok' ρ' y d x:=by
 have hok':∀ b,ok b->ok' b/\w.heap[b]?=w.heap[b]?:=fun b hb=>⟨hok b hb,rfl⟩
 induction hr with
 |v hx=>intro d hd;cases d <;> simp only [AV.le] at hd <;> first|exact .junk|exact .any hx|(subst hd;exact .v hx)|exact hd.elim
 |nil=>intro d hd;cases d <;> simp only [AV.le] at hd <;> first|exact .junk|exact .any rfl|exact .nil|exact .emp|(subst hd;exact .sl (.sl0 (af _)))|exact .row (hσ0 _ hd) rfl|exact hd.elim
 |emp=>intro d hd;cases d <;> simp only [AV.le] at hd <;> first|exact .junk|exact .any rfl|exact .emp|(subst hd;exact .sl (.sl0 (af _)))|exact hd.elim
 |sl hs=>intro d hd;cases d <;> simp only [AV.le] at hd <;> first|exact .junk|exact .any (Jw rfl (ARel.sl (ρ:=ρ) (y:=y) hs))|(subst hd;exact .sl (hs.mono hok'))|exact hd.elim
 |agg hs _ ih =>
  intro d hd;cases d <;> simp only [AV.le] at hd <;> first|exact .junk|(simp [jI] at hd;done)|exact hd.elim|skip
  refine .agg (hs.trans (AV.leL_length hd)) fun i d' hd'=>?_
  obtain ⟨c,hc,hcd⟩:=AV.leL_get hd i d' hd';exact ih i c hc d' hcd
 |tup hs _ ih =>
  intro d hd;cases d <;> simp only [AV.le] at hd <;> first|exact .junk|(simp [jI] at hd;done)|exact hd.elim|skip
  refine .tup (hs.trans (AV.leL_length hd)) fun i d' hd'=>?_
  obtain ⟨c,hc,hcd⟩:=AV.leL_get hd i d' hd';exact ih i c hc d' hcd
 |ep f h1 h2 h3 h4 =>
  intro d hd;cases d <;> simp only [AV.le] at hd <;> first|exact .junk|exact .any rfl|exact hd.elim|skip
  obtain ⟨rfl,rfl⟩:=hd;exact .ep f h1 (fun j d hj=>(h2 j d hj).mono hok') (hok _ h3) h4
 |ptr e =>
  intro d hd;cases d <;> simp only [AV.le] at hd <;> first|exact .junk|exact .any rfl|exact hd.elim|skip
  obtain ⟨hd,rfl⟩:=hd;exact .ptr ((hσ _ _ hd).trans e)
 |row e e' =>
  intro d hd;cases d <;> simp only [AV.le] at hd <;> first|exact .junk|exact .any e'|exact hd.elim|skip
  ·obtain ⟨e',k,hi⟩:=hd
   rw [<- e];exact .sl (Qdb hobj hok hrow hi)
  ·exact .row ((hσ _ _ hd).trans e) e'
 |rp e =>
  intro d hd;cases d <;> simp only [AV.le] at hd <;> first|exact .junk|exact .any rfl|exact hd.elim|skip
  obtain ⟨hd,rfl,rfl,rfl⟩:=hd;exact .rp ((hσ _ _ hd).trans e)
 |csl e h1 =>
  intro d hd;cases d <;> simp only [AV.le] at hd <;> first|exact .junk|exact .any rfl|exact hd.elim|skip
  obtain ⟨hd,rfl⟩:=hd;exact .csl ((hσ _ _ hd).trans e) h1
 |psl e h1 h2 =>
  intro d hd;cases d <;> simp only [AV.le] at hd <;> first|exact .junk|exact .any rfl|exact hd.elim|skip
  ·obtain ⟨cs,ds,hi,hle,hds,rfl⟩:=hd
   have ho:=hobj _ _ hi;rw [e] at ho
   exact .sl (Xk ho (hrow _ _ _ hi (by rw [e];rfl)) hle hds h1 h2)
  ·obtain ⟨hd,rfl,rfl,rfl⟩:=hd
   exact .psl ((hσ _ _ hd).trans e) h1 h2
 |rsl e h1 =>
  intro d hd;cases d <;> simp only [AV.le] at hd <;> first|exact .junk|exact .any rfl|exact hd.elim|skip
  obtain ⟨hd,rfl,rfl,rfl⟩:=hd;exact .rsl ((hσ _ _ hd).trans e) h1
 |mp e e' =>
  intro d hd;cases d <;> simp only [AV.le] at hd <;> first|exact .junk|exact .any e'|exact hd.elim|skip
  exact .mp ((hσ _ _ hd).trans e) e'
 |clo hs _ ih =>
  intro d hd;cases d <;> simp only [AV.le] at hd <;> first|exact .junk|exact .any rfl|exact hd.elim|skip
  obtain ⟨rfl,hd⟩:=hd;refine .clo (hs.trans (AV.leL_length hd)) fun i d' hd'=>?_
  obtain ⟨c,hc,hcd⟩:=AV.leL_get hd i d' hd';exact ih i c hc d' hcd
 |cb e e'=>intro d hd;cases d <;> simp only [AV.le] at hd <;> first|exact .junk|exact .any e'|exact .cb e e'|exact hd.elim
 |bnd hs _ ih =>
  intro d hd;cases d <;> simp only [AV.le] at hd <;> first|exact .junk|exact .any rfl|exact hd.elim|skip
  obtain ⟨rfl,hd⟩:=hd;refine .bnd (hs.trans (AV.leL_length hd)) fun i d' hd'=>?_
  obtain ⟨c,hc,hcd⟩:=AV.leL_get hd i d' hd';exact ih i c hc d' hcd
 |any e=>intro d hd;cases d <;> simp only [AV.le] at hd <;> first|exact .junk|exact .any e|exact hd.elim
 |junk=>intro d hd;cases d <;> simp only [AV.le] at hd <;> first|exact .junk|(simp [jI] at hd;done)|exact hd.elim
def Vd {h:Nat->Option AObj} {Z:Nat->Option Nat}:∀ {cs:List AV} {ys:List (List DV)},Zk h Z cs ys->cs.length=ys.length/\∀ (i:Nat) (r:List DV),ys[i]?=some r->∃ c xs,cs[i]?=some c/\r=[.sl xs]/\AV.le h Z c (.sl xs)
 |[],[],_=>⟨rfl,fun i r hr=>by simp at hr⟩
 |c :: cs,y :: ys,hl=>by
  unfold Zk at hl;split at hl
  ·rename_i h0 _;cases h0
  ·rename_i c' cs' xs ys' h1 h2
   cases h1;cases h2
   obtain ⟨g1,g2⟩:=Vd hl.2;refine ⟨by simp [g1],fun i r hr=>?_⟩
   cases i with
   |zero=>simp only [aK,ak] at hr;subst hr;exact ⟨c,xs,rfl,rfl,hl.1⟩
   |succ i=>simpa using g2 i r (by simpa using hr)
  ·exact hl.elim
 |[],_ :: _,hl=>by simp [Zk] at hl
 |_ :: _,[],hl=>by simp [Zk] at hl
def Qci {w:World} {ok ok':Nat->Prop} {ρ ρ':Nat->Value} {y:Value} {h:Nat->Option AObj} {Z:Nat->Option Nat} {es fs:List (Value × AV)} {b:Nat} {entries:Array MapEntry} {clock:Nat}
  (hAV:∀ {c:AV} {x:Value},ARel w ok ρ y c x->∀ d,AV.le h Z c d->ARel w ok' ρ' y d x) (h1:w.heap[b]?=some (.map entries clock)) (h2:entries.size=es.length)
  (h3:∀ (i:Nat) (e:MapEntry) (p:Value × AV),entries[i]?=some e->es[i]?=some p->e.key=p.1/\e.born=i/\ARel w ok ρ y p.2 e.val) (h4:clock=entries.size) (h5:entries.size<=maxLen)
  (hle:es.map (·.1)=fs.map (·.1)/\AV.leL h Z (es.map (·.2)) (fs.map (·.2))):ORel w ok' ρ' y (.fm fs) (.map (some b)):=by
 have hl:es.length=fs.length:=by have:=congrArg List.length hle.1;simpa using this
 refine .fm h1 (h2.trans hl) (fun i e q he hq=>?_) h4 h5
 obtain ⟨p,hp⟩:∃ p,es[i]?=some p:=⟨es[i]'(by have:=(aq.1 hq).1;omega),al _⟩
 obtain ⟨g1,g2,g3⟩:=h3 i e p he hp;have k1:p.1=q.1:=by
  have:=congrArg (fun l=>l[i]?) hle.1
  simpa [aC,hp,hq] using this
 obtain ⟨c,hc,hcd⟩:=AV.leL_get hle.2 i q.2 (by rw [aC,hq];rfl)
 rw [aC,hp] at hc;cases hc
 exact ⟨g1.trans k1,g2,hAV g3 _ hcd⟩
def WO {w:World} {ok ok':Nat->Prop} {ρ ρ':Nat->Value} {y:Value} {h:Nat->Option AObj} {Z:Nat->Option Nat} {e:TypeId} {cs:List AV} {ys:List (List DV)} {x:Value} {flat:List Value}
  (hAV:∀ {c:AV} {x:Value},ARel w ok ρ y c x->∀ d,AV.le h Z c d->ARel w ok' ρ' y d x) (h3:YJ w e 1 x cs.length flat)
  (h4:∀ (i:Nat) (c:AV),cs[i]?=some c->∃ u,flat[i]?=some u/\ARel w ok ρ y c u/\u.oneCell'=true) (hle:Zk h Z cs ys):ORel w ok' ρ' y (.row e 1 ys) x:=by
 obtain ⟨g1,g2⟩:=Vd hle;refine .row (flat:=flat) (by omega) (fun r hr=>?_) (by rw [<- g1];exact h3) fun i r j d hi hj=>?_
 ·obtain ⟨i,hi⟩:=dN.1 hr
  obtain ⟨_,_,_,rfl,_⟩:=g2 i r hi
  rfl
 ·obtain ⟨c,xs,hc,rfl,hcd⟩:=g2 i r hi
  obtain ⟨u,hu,hr,_⟩:=h4 i c hc;cases j with
  |succ j=>simp at hj
  |zero =>
   simp only [aK,ak] at hj;subst hj
   refine ⟨u,by simpa using hu, ?_⟩
   have:=hAV hr _ hcd;cases this with
   |sl hd=>exact hd
def ADf.le (h:Nat->Option AObj) (Z:Nat->Option Nat):ADf->ADf->Prop
 |.mark i,.mark j=>Z j=some i
 |.call f cs,.call g ds=>f=g/\AV.leL h Z cs ds
 |_,_=>False
def ADf.leL (h:Nat->Option AObj) (Z:Nat->Option Nat):List ADf->List ADf->Prop
 |[],[]=>True
 |c :: cs,d :: ds=>ADf.le h Z c d/\ADf.leL h Z cs ds
 |_,_=>False
def asg:List (Nat × AV)->Nat->AV
 |[],_=>.junk
 |p :: r,t=>if t=p.1 then p.2 else asg r t
def Qhl (t:Nat):asg [] t=.junk:=rfl
def Qgk (i:Nat) (a:AV) (r:List (Nat × AV)):asg ((i,a) :: r) i=a:=by simp [asg]
def QgO (i t:Nat) (a:AV) (r:List (Nat × AV)) (h:t ≠ i):asg ((i,a) :: r) t=asg r t:=by simp [asg,h]
def Ro (L:List (Nat × AV)) (t:Nat):asg L t=.junk\/∃ p ∈ L,p.1=t/\asg L t=p.2:=by
 induction L with
 |nil=>exact .inl rfl
 |cons p r ih =>
  simp only [asg];split
  ·exact .inr ⟨p,aV,(by rename_i h;exact h.symm),rfl⟩
  ·rcases ih with h|⟨q,hq,h1,h2⟩
   ·exact .inl h
   ·exact .inr ⟨q,aQ _ hq,h1,h2⟩
def qf:List (Nat × AObj)->Nat->Option AObj
 |[],_=>none
 |p :: r,t=>if t=p.1 then some p.2 else qf r t
def QeW (t:Nat):qf [] t=none:=rfl
def Qep (i:Nat) (a:AObj) (r:List (Nat × AObj)):qf ((i,a) :: r) i=some a:=by simp [qf]
def Qh0 (i t:Nat) (a:AObj) (r:List (Nat × AObj)) (h:t ≠ i):qf ((i,a) :: r) t=qf r t:=by simp [qf,h]
def qB {L:List (Nat × AObj)} {t:Nat} {o:AObj} (h:qf L t=some o):(t,o) ∈ L:=by
 induction L with
 |nil=>simp [qf] at h
 |cons p r ih =>
  simp only [qf] at h;split at h
  ·rename_i ht;cases h;rw [ht];exact aV
  ·exact aQ _ (ih h)
def Qfq {w:World} {ok:Nat->Prop} {ρ:Nat->Value} {y:Value} {e:TypeId} {k:Nat} (hk:0 < k):ORel w ok ρ y (.row e k []) (.slice none 0 0) :=
 .row hk (by simp) (.inl (World.ownsRow_nil w 0 e k)) (by simp)
def VV (o:AObj):Prop:=(∃ e k,o=.row e k []/\0 < k)\/∃ e,o=.rows e []
def KE {w:World} {ok:Nat->Prop} {ρ:Nat->Value} {y:Value} {o:AObj} (h:VV o):ORel w ok ρ y o (.slice none 0 0):=by
 rcases h with ⟨e,k,rfl,hk⟩|⟨e,rfl⟩
 ·exact Qfq hk
 ·exact .rows (flat:=[]) (.inl (World.ownsRow_nil _ _ _ _)) (by simp)
def Le.of {S:St} {L:List (Nat × AV)} {H:List (Nat × AObj)} {n:Nat} {d:List ADf} (Z:Nat->Option Nat) (hf:Nat->Option AObj)
  (ht:∀ p ∈ L,AV.le hf Z (S.t p.1) p.2)
  (hh:∀ p ∈ H,(∃ i o,Z p.1=some i/\S.h i=some o/\AObj.le hf Z o p.2)\/(Z p.1=none/\VV p.2))
  (hd:ADf.leL hf Z S.d d)
  (hinj:∀ p ∈ H,∀ q ∈ H,∀ i,Z p.1=some i->Z q.1=some i->p.1=q.1)
  (hfr:∀ i o,hf i=some o->S.h i=some o/\∀ p ∈ H,Z p.1 ≠ some i)
  (hm:∀ i,i < S.m->Z i=some i)
  (hLn:∀ p ∈ L,∀ id ∈ p.2.ids,id < n) (hHn:∀ p ∈ H,p.1 < n/\∀ id ∈ p.2.ids,id < n) (hdn:∀ id ∈ d.flatMap ADf.ids,id < n) (hmn:S.m<=n) :
  Le S { t:=asg L,h:=qf H,n,j:=S.j,d,m:=S.m }:=by
 rintro F a w ⟨ρ,own,HH⟩
 let ρ':Nat->Value:=fun j=>match Z j with|some i=>ρ i|none=>.slice none 0 0
 have hσ:∀ j i,Z j=some i->ρ' j=ρ i:=fun j i h=>by simp only [ρ',h]
 have hσ0:∀ j,Z j=none->ρ' j=.slice none 0 0:=fun j h=>by simp only [ρ',h]
 have hok:∀ b,okB w own ρ S.h b->okB w own ρ' (qf H) b:=by
  rintro b ⟨h1,h2,h3⟩;refine ⟨h1,h2,fun i o hi hb=>?_⟩
  rcases hh _ (qB hi) with ⟨k,o',hk,ho',_⟩|⟨hn,_⟩
  ·rw [hσ i k hk] at hb;exact h3 k o' ho' hb
  ·rw [hσ0 i hn] at hb;simp [blk] at hb
 have hrow:∀ i ox b,hf i=some ox->blk (ρ i)=some b->okB w own ρ' (qf H) b:=by
  intro i ox b hi hb;obtain ⟨h1,h2⟩:=hfr i _ hi
  refine ⟨(HH.obj i _ h1).lt hb,fun hp=>(HH.blkOK i _ b h1 hb).1 (own.sub _ hp),fun j o hj hbj=>?_⟩
  rcases hh _ (qB hj) with ⟨k',o',hk',ho',_⟩|⟨hn,_⟩
  ·rw [hσ j k' hk'] at hbj
   have:=HH.inj k' i o' _ b ho' h1 hbj hb;subst this
   exact h2 _ (qB hj) hk'
  ·rw [hσ0 j hn] at hbj;simp [blk] at hbj
 have hobjf:∀ i o,hf i=some o->ORel w (okB w own ρ S.h) ρ F.y o (ρ i):=fun i o hi=>HH.obj i o (hfr i o hi).1
 have hAV:∀ {c:AV} {x:Value},ARel w (okB w own ρ S.h) ρ F.y c x->∀ d,AV.le hf Z c d->ARel w (okB w own ρ' (qf H)) ρ' F.y d x :=
  fun hr d hd=>AV.le_rel hobjf hok hrow hσ hσ0 hr d hd
 refine ⟨ρ',own,HH.jay,fun t=>?_,fun i o hi=>?_, ?_, ?_, ?_, ?_,HH.meq,HH.tsz, ?_,HH.ext,HH.ownsub,HH.still, ?_⟩
 ·show ARel w _ ρ' F.y (asg L t) _
  rcases Ro L t with h|⟨p,hp,h1,h2⟩
  ·rw [h];exact .junk
  ·rw [h2];subst h1;exact hAV (HH.temps p.1) _ (ht p hp)
 ·rcases hh _ (qB hi) with ⟨k,o',hk,ho',hle⟩|⟨hn,ho⟩
  ·simp only at hk hle
   rw [hσ i k hk];have h0:=HH.obj k o' ho'
   generalize ρ k=x at h0;cases h0 with
   |@cells cs b t vs h1 h2 h3 =>
    cases o <;> simp only [AObj.le] at hle <;> first|exact hle.elim|skip
    refine .cells h1 (h2.trans (AV.leL_length hle)) fun i d hd=>?_
    obtain ⟨c,hc,hcd⟩:=AV.leL_get hle i d hd;exact ⟨hAV (h3 i c hc).1 d hcd,(h3 i c hc).2⟩
   |row h1 h2 h3 h4 =>
    cases o <;> simp only [AObj.le] at hle <;> first|exact hle.elim|skip
    obtain ⟨rfl,rfl,rfl⟩:=hle;exact .row h1 h2 h3 fun i r j d hi hj=>let ⟨u,hu,hd⟩:=h4 i r j d hi hj;⟨u,hu,hd.mono fun b hb=>⟨hok b hb,rfl⟩⟩
   |map h1 h2 h3 h4 h5 =>
    cases o <;> simp only [AObj.le] at hle <;> first|exact hle.elim|skip
    subst hle;exact .map h1 h2 h3 h4 h5
   |mark h1 =>
    cases o <;> simp only [AObj.le] at hle <;> first|exact hle.elim|skip
    exact .mark h1
   |it h1 h2 h3 =>
    cases o <;> simp only [AObj.le] at hle <;> first|exact hle.elim|skip
    obtain ⟨e1,rfl,rfl⟩:=hle;exact .it h1 h2 ((hσ _ _ e1).trans h3)
   |fm h1 h2 h3 h4 h5 =>
    cases o <;> simp only [AObj.le] at hle <;> first|exact hle.elim|skip
    exact Qci hAV h1 h2 h3 h4 h5 hle
   |rows h3 h4 =>
    cases o <;> simp only [AObj.le] at hle <;> first|exact hle.elim|skip
    ·obtain ⟨rfl,rfl,hle⟩:=hle
     exact WO hAV h3 h4 hle
    ·obtain ⟨rfl,hle⟩:=hle
     refine .rows (by rw [<- AV.leL_length hle];exact h3) fun i d hd=>?_
     obtain ⟨c,hc,hcd⟩:=AV.leL_get hle i d hd;obtain ⟨u,hu,hr,h1⟩:=h4 i c hc
     exact ⟨u,hu,hAV hr d hcd,h1⟩
  ·simp only at hn ho
   rw [hσ0 i hn];exact KE ho
 ·intro i k o o' b hi hk hbi hbk
  rcases hh _ (qB hi) with ⟨i',oi,hi',hoi,_⟩|⟨hn,_⟩
  ·rcases hh _ (qB hk) with ⟨k',ok,hk',hok',_⟩|⟨hn,_⟩
   ·simp only at hi' hk'
    rw [hσ i i' hi'] at hbi;rw [hσ k k' hk'] at hbk
    have:=HH.inj i' k' oi ok b hoi hok' hbi hbk;subst this
    exact hinj _ (qB hi) _ (qB hk) i' hi' hk'
   ·simp only at hn;rw [hσ0 k hn] at hbk;simp [blk] at hbk
  ·simp only at hn;rw [hσ0 i hn] at hbi;simp [blk] at hbi
 ·intro i o b hi hb
  rcases hh _ (qB hi) with ⟨i',oi,hi',hoi,_⟩|⟨hn,_⟩
  ·simp only at hi';rw [hσ i i' hi'] at hb;exact HH.blkOK i' oi b hoi hb
  ·simp only at hn;rw [hσ0 i hn] at hb;simp [blk] at hb
 ·intro id hid
  refine ⟨?_,fun t hm=>?_,fun i o hi hm=>?_,fun hm=>?_⟩
  ·show qf H id=none
   cases ho:qf H id with
   |none=>rfl
   |some o=>have:=(hHn _ (qB ho)).1;simp only at this;exact absurd hid (by show ¬ n<=id;omega)
  ·rcases Ro L t with h|⟨p,hp,h1,h2⟩
   ·simp only at hm;rw [h] at hm;simp [AV.ids] at hm
   ·simp only at hm;rw [h2] at hm;have:=hLn p hp id hm;exact absurd hid (by show ¬ n<=id;omega)
  ·have:=(hHn _ (qB hi)).2 id hm;exact absurd hid (by show ¬ n<=id;omega)
  ·have:=hdn id hm;exact absurd hid (by show ¬ n<=id;omega)
 ·show F.n0<=n
  rw [HH.meq];exact hmn
 ·intro i o hi
  have h1:=F.pinn i o hi;rw [HH.meq] at h1
  rw [hσ i i (hm i h1)];exact HH.pins i o hi
 ·have key:∀ (cs ds:List ADf) (xs:List Deferred),DfsRel w (okB w own ρ S.h) ρ F.y cs xs->ADf.leL hf Z cs ds->DfsRel w (okB w own ρ' (qf H)) ρ' F.y ds xs:=by
   intro cs ds xs hr
   induction hr generalizing ds with
   |nil=>intro hl;cases ds <;> simp only [ADf.leL] at hl;exact .nil
   |@cons c x cs xs h1 _ ih =>
    intro hl;cases ds with
    |nil=>simp only [ADf.leL] at hl
    |cons d ds =>
     simp only [ADf.leL] at hl;refine .cons ?_ (ih ds hl.2)
     cases h1 with
     |mark e=>cases d <;> simp only [ADf.le] at hl <;> first|exact hl.1.elim|exact .mark ((hσ _ _ hl.1).trans e)
     |call h1 h2 =>
      cases d <;> simp only [ADf.le] at hl <;> first|exact hl.1.elim|skip
      obtain ⟨⟨rfl,hl1⟩,_⟩:=hl;refine .call (h1.trans (AV.leL_length hl1)) fun i d hd=>?_
      obtain ⟨c,hc,hcd⟩:=AV.leL_get hl1 i d hd;exact hAV (h2 i c hc) d hcd
  exact key _ _ _ HH.defs hd
inductive TD where
 |int (k:IntKind)
 |bool
 |string
 |ptr
 |slice (e:TypeId)
 |array (n:Nat) (e:TypeId)
 |struct (fs:List (Nat × Nat × TypeId))
 |map (k e:TypeId)
 |func
 |iface
 |chan (e:TypeId)
inductive KD where
 |one (d:TypeDesc)
 |agg (ks:List (Option IntKind))
structure KeyInfo where
 kd:KD
 z:AV
 agg:Bool
structure TI where
 cells:Nat
 bytes:Nat
 td:TD
 zero:List AV
 eqk:Option (List (Option IntKind)):=none
 key:Option KeyInfo:=none
 deep:Bool:=false
def TD.agg:TD->Bool
 |.array _ _=>true
 |.struct _=>true
 |.int _=>false
 |.bool=>false
 |.string=>false
 |.ptr=>false
 |.slice _=>false
 |.map _ _=>false
 |.func=>false
 |.iface=>false
 |.chan _=>false
def TD.ok:TD->TypeDesc->Prop
 |.int k,d=>d=.int k
 |.bool,d=>d=.bool
 |.string,d=>d=.string
 |.ptr,d=>∃ e,d=.pointer e
 |.slice e,d=>d=.slice e
 |.array n e,d=>d=.array n e
 |.struct fs,d=>∃ fields,d=.struct fields/\fields.toList.map (fun f=>(f.offset,f.type))=fs.map (fun p=>(p.1,p.2.2))
 |.map k e,d=>d=.map k e
 |.func,d=>∃ a b c,d=.func a b c
 |.iface,d=>∃ ms,d=.interface ms
 |.chan e,d=>∃ dir,d=.chan dir e
def qa:List (Option IntKind)->List Value->Prop
 |[],[]=>True
 |some k :: ks,x :: xs=>(∃ n,x=.int k n)/\qa ks xs
 |none :: ks,x :: xs=>(∃ b,x=.bool b)/\qa ks xs
 |_,_=>False
def veq:Value->Value->Bool
 |.int _ a,.int _ b=>a == b
 |.bool a,.bool b=>a == b
 |.string a,.string b=>a == b
 |_,_=>false
def jG:List Value->List Value->Bool
 |[],[]=>true
 |x :: xs,y :: ys=>veq x y && jG xs ys
 |_,_=>false
def KD.Q:KD->Value->Prop
 |.one d,v=>MapKept.IsKey d v
 |.agg ks,.agg xs=>qa ks xs.toList
 |.agg _,_=>False
structure MKey (P:Program) (k:TypeId) (Q:Value->Prop):Prop where
 check:∀ (w:World) (em:Bool) {v:Value},Q v->(Instr.checkKey em 10000 k v).run P w=.ok () w
 find:∀ (w:World) {x:Value},Q x->∀ es:List MapEntry,(∀ e ∈ es,Q e.key) ->
  ((Instr.findKey k x es).run P w=.ok none w/\∀ e ∈ es,e.key ≠ x)\/∃ j e,(Instr.findKey k x es).run P w=.ok (some (j,e.val)) w/\es[j]?=some e/\e.key=x
 stays:∀ (w:World) {v:Value},Q v->(Instr.keyThatStays v v).run P w=.ok v w
def QbE {k:TypeId} {d:TypeDesc} (hk:P.underlying k=some d):MKey P k (MapKept.IsKey d) where
 check w em _ h:=MapKept.run_checkKey hk h em 9999
 find w x hx es hes:=by
  rcases MapKept.findNow_spec hx es 0 hes with ⟨h1,h2⟩|⟨j,e0,h1,h2,h3⟩
  ·exact .inl ⟨MapKept.run_findKey hk h1,h2⟩
  ·exact .inr ⟨j,e0,by simpa using MapKept.run_findKey hk h1,h2,h3⟩
 stays w _ h:=MapKept.run_keyThatStays h
structure TyFact (P:Program) (t:TypeId) (i:TI):Prop where
 info:∃ inf z,P.info? t=some inf/\inf.size=i.cells/\inf.bytes=i.bytes/\inf.zero=some z/\z.cells.toList.map vw=i.zero/\z.cells.size=i.cells/\(∀ u ∈ z.cells.toList,u.oneCell'=true)
 under:∃ d,P.underlying t=some d/\i.td.ok d
 fsz:∀ fs,i.td=.struct fs->∀ p ∈ fs,∃ inf,P.info? p.2.2=some inf/\inf.size=p.2.1
 eq:∀ ks,i.eqk=some ks->P.eqGuardType P.depth t=false/\∀ (w:World) (xs ys:List Value),qa ks xs->qa ks ys->(Op.equalIn 10000 t (.agg xs.toArray) (.agg ys.toArray)).run P w=.ok (jG xs ys) w
 key:∀ q,i.key=some q->∃ k e,i.td=.map k e/\MKey P k q.kd.Q/\∀ w:World,∃ z,(zeroValue e).run P w=.ok z w/\∀ (w':World) (ok:Nat->Prop) (ρ:Nat->Value) (y:Value),ARel w' ok ρ y q.z z
abbrev Tys:=Nat->Option TI
def zW (P:Program) (O:Tys):Prop:=∀ t i,O t=some i->TyFact P t i
section types
variable {t : TypeId} {i : TI} (w : World)
def TyFact.run_isAgg (h:TyFact P t i):(isAgg t).run P w=.ok i.td.agg w:=by
 obtain ⟨d,hd,hok⟩:=h.under;simp only [isAgg,aH,run_underlying hd,aJ]
 cases hi:i.td <;> rw [hi] at hok <;> simp only [TD.ok] at hok
 all_goals first
  |(subst hok;rfl)
  |(obtain ⟨_,rfl⟩:=hok;rfl)
  |(obtain ⟨_,rfl,_⟩:=hok;rfl)
  |(obtain ⟨_,_,_,rfl⟩:=hok;rfl)
def TyFact.run_sizeOf (h:TyFact P t i):(sizeOf t).run P w=.ok i.cells w:=by
 obtain ⟨inf,z,hi,hs,_⟩:=h.info
 simp [sizeOf,typeInfo,hi,hs]
def TyFact.run_zero (h:TyFact P t i):∃ z,(zeroValue t).run P w=.ok z w/\z.cells.toList.map vw=i.zero/\z.cells.size=i.cells/\∀ u ∈ z.cells.toList,u.oneCell'=true:=by
 obtain ⟨inf,z,hi,_,_,hz,h1,h2,h3⟩:=h.info;exact ⟨z,by simp [zeroValue,typeInfo,hi,hz],h1,h2,h3⟩
end types
def Want (ops:Array Oper) (o:Oper) (S:St):Prop :=
 o.guard=none\/∃ j b d,o.guard=some (j,b)/\(ops[j]?).bind (·.dst)=some d/\S.t d=.v (.bool b)
def Skip (ops:Array Oper) (o:Oper) (S:St):Prop :=
 ∃ j b d,o.guard=some (j,b)/\(ops[j]?).bind (·.dst)=some d/\((∃ c,S.t d=.v (.bool c)/\b ≠ c)\/S.t d=.tup [])
def VY {F:Frm} {S S2:St} {a:Act} {w:World} {ρ:Nat->Value} {own:Own} (H:Holds F S2 a w ρ own) {ops:Array Oper} {j d:Nat} {c:Bool} (hd:(ops[j]?).bind (·.dst)=some d) (hS:S2.t d=S.t d) (hc:S.t d=.v (.bool c)) :
  yielded ops a.tmps j=some c:=by
 have h1:=H.temps d;rw [hS,hc] at h1
 have h2:=(qx h1).1;have h3:a.tmps[d]?=some (.bool c):=by
  rcases bK d a.tmps.size with hlt|hge
  ·simp [hlt] at h2;simp [hlt,h2]
  ·simp [cq hge,undef] at h2
 unfold yielded
 simp [hd,h3]
def ZL {ops:Array Oper} {o:Oper} {j d:Nat} {b:Bool} (h:o.guard=some (j,b)) (hd:(ops[j]?).bind (·.dst)=some d):d ∈ o.looksAt ops:=by
 simp [Oper.looksAt,h,hd]
def wN {F:Frm} {S S2:St} {a:Act} {w:World} {ρ:Nat->Value} {own:Own} {ops:Array Oper} {o:Oper} {e:Eff} (hw:Want ops o S) (hag:Agree ops o e S S2) (H:Holds F S2 a w ρ own) :
  Region.wanted o (yielded ops a.tmps)=true:=by
 rcases hw with h|⟨j,b,d,h,hd,hc⟩
 ·simp [Region.wanted,h]
 ·have:=VY (S:=S) H hd (hag.1 d (ZL h hd)) hc
  simp [Region.wanted,h,this]
def QbS {F:Frm} {S S2:St} {a:Act} {w:World} {ρ:Nat->Value} {own:Own} {ops:Array Oper} {o:Oper} {e:Eff} (hw:Skip ops o S) (hag:Agree ops o e S S2) (H:Holds F S2 a w ρ own) :
  Region.wanted o (yielded ops a.tmps)=false:=by
 obtain ⟨j,b,d,h,hd,hc⟩:=hw
 rcases hc with ⟨c,hc,hne⟩|hc
 ·have:=VY (S:=S) H hd (hag.1 d (ZL h hd)) hc
  simp [Region.wanted,h,this,Ne.symm hne]
 ·have h1:=H.temps d
  rw [hag.1 d (ZL h hd),hc] at h1;have h2:a.tmps.getD d undef=.tuple #[]:=by
   generalize a.tmps.getD d undef=v at h1;cases h1 with
   |@tup _ vs hs _=>rw [cY (show vs.size=0 by simpa using hs)]
  have h3:yielded ops a.tmps j=none:=by
   unfold yielded;simp only [hd,Option.bind_some]
   rcases bK d a.tmps.size with hlt|hge
   ·have:a.tmps[d]?=some (.tuple #[]):=by simp [hlt] at h2;simp [hlt,h2]
    rw [this]
   ·rw [cq hge]
  simp [Region.wanted,h,h3]
def QdL {ops:Array Oper} {o:Oper} {t:Nat} (h:.tmp t ∈ o.op.operands):t ∈ o.looksAt ops :=
 List.mem_append_left _ (ca.2 ⟨.tmp t,by simpa using h,rfl⟩)
def Agree.ev {ops:Array Oper} {o:Oper} {e:Eff} {S S2:St} (h:Agree ops o e S S2) {x:Operand} (hx:x ∈ o.op.operands):ev S2 x=ev S x:=by
 cases x with
 |tmp t=>exact h.1 t (QdL hx)
 |_=>rfl
def vI {n:Nat} {o:Oper} (h:LQ n o=true):∀ d,o.dst=some d->d < n:=fun d hd=>by simpa [LQ,hd] using h
def vW (o:Oper) (a:Act) (w:World) (r:Option Nat):∀ f,o.about P w a.eval=some f->(W r).fn f:=fun _ _=>trivial
def VE.skip {ops:Array Oper} {o:Oper} {S:St} (hw:Skip ops o S):VE A P ops o { av:=.tup [],n:=S.n } S:=by
 refine ⟨fun F hF hd S2 a w hag _ ⟨ρ,own,H⟩=>?_,by simp [Eff.ids,AV.ids,AV.idsL,zM],by simp⟩
 rw [QbS hw hag H,if_neg (by simp)]
 refine ⟨ρ,own, ?_⟩
 have:=H.app (dst:=o.dst) (e:={ av:=.tup [],n:=S.n }) (v':=undef) (w':=w) (ρ':=ρ) (own':=own) (ds:=[]) (vI hd) H.jay (Ext.refl _ _) (.inl rfl) (by simp) (fun _ _=>rfl) (by simp) (.tup rfl (by simp))
  (by simp [Eff.keys]) (by simp [Eff.keys]) (by simp [Eff.ids,AV.ids,AV.idsL,zM]) .nil
 have hd0:(a.put o.dst undef).defers=a.defers:=by cases o.dst <;> rfl
 simpa [<- hd0] using this
def jf {F:Frm} {S2:St} {a:Act} {o:Oper} {w':World} {v:Value} {e:Eff} {ρ':Nat->Value} {own':Own}
  (h:Holds F (S2.app o.dst e) { (a.put o.dst v) with defers:=[]++a.defers } w' ρ' own'):Gam F (S2.app o.dst e) (a.put o.dst v) w':=by
 refine ⟨ρ',own', ?_⟩
 have hd0:(a.put o.dst v).defers=a.defers:=by cases o.dst <;> rfl
 simpa [<- hd0] using h
def wP {F:Frm} {o:Oper} {a:Act} {w w':World} {v:Value} {K:Act->World->Prop} {Q:Exit->Act->World->Prop} (hd:∀ c,o.op ≠ .defer c)
  (h:(execOp a.eval o).run P w=.ok (.value v) w') (hK:K (a.put o.dst v) w'):o.wpIn (W F.r) 0 P a w K Q :=
 ⟨vW o a w F.r,by rw [Oper.semAt_eq _ _ _ hd,h];exact hK⟩
def Xc {F:Frm} {o:Oper} {a:Act} {w w':World} {K:Act->World->Prop} {Q:Exit->Act->World->Prop} (hd:∀ c,o.op ≠ .defer c)
  (h:(execOp a.eval o).run P w=.ok .skip w') (hK:K (a.put o.dst undef) w'):o.wpIn (W F.r) 0 P a w K Q :=
 ⟨vW o a w F.r,by rw [Oper.semAt_eq _ _ _ hd,h];exact hK⟩
def VE.val {ops:Array Oper} {o:Oper} {S:St} {av:AV} {hr:List Nat} (hw:Want ops o S) (hd:∀ c,o.op ≠ .defer c) (hids:∀ id ∈ av.ids,id < S.n)
  (h:∀ F S2 a w ρ own,Agree ops o { av:=av,hr:=hr,n:=S.n } S S2->Holds F S2 a w ρ own ->
   ∃ v w',(execOp a.eval o).run P w=.ok (.value v) w'/\Ext (fun _=>False) w w'/\ARel w' (okB w own ρ S2.h) ρ F.y av v) :
  VE A P ops o { av:=av,hr:=hr,n:=S.n } S:=by
 refine ⟨fun F hF hds S2 a w hag _ ⟨ρ,own,H⟩=>?_,by simpa [Eff.ids,zM] using hids,by simp⟩
 rw [wN hw hag H,if_pos rfl];obtain ⟨v,w',hrun,hx,hv⟩:=h F S2 a w ρ own hag H
 refine wP hd hrun (jf (ρ':=ρ) (own':=own) ?_)
 have hj:F.J S2.j own w':=(F.stable _ _ _ H.jay).2 w' (hx.weaken fun _ _ h=>h.elim)
 refine H.app (vI hds) hj (hx.weaken fun _ _ h=>h.elim) (.inl rfl) (by simp) (fun _ _=>rfl) (by simp) ?_ (by simp [Eff.keys]) (by simp [Eff.keys]) (fun id hid=>?_) .nil
 ·exact hv.mono (fun b hb=>⟨⟨aN hb.1 hx.size,hb.2⟩,rfl⟩) (fun _ _=>rfl)
 ·have:=hids id (by simpa [Eff.ids,zM] using hid)
  exact aN this (bD _ _)
def Ext.none (w:World):Ext (fun _=>False) w w:=Ext.refl _ _
def Qc4 {ops:Array Oper} {o:Oper} {S:St} (hS:Wf S) (hw:Want ops o S) {x:Operand} (ho:o.op=.move x\/o.op=.assign x):VE A P ops o { av:=ev S x,n:=S.n } S:=by
 refine VE.val hw (by rcases ho with h|h <;> simp [h]) (jO hS x) fun F S2 a w ρ own hag H=>⟨a.eval x,w,by rcases ho with h|h <;> simp [execOp,h],Ext.none w, ?_⟩
 rw [<- hag.ev (x:=x) (by rcases ho with h|h <;> simp [h,Op.operands])]
 exact qm H x
def QhZ {ops:Array Oper} {o:Oper} {S:St} (hS:Wf S) (hw:Want ops o S) {c x y:Operand} (ho:o.op=.pick c x y) {b:Bool} (hc:ev S c=.v (.bool b)) :
  VE A P ops o { av:=bif b then ev S x else ev S y,n:=S.n } S:=by
 refine VE.val hw (by simp [ho]) (by cases b <;> simp only [cond_true,cond_false] <;> exact jO hS _) fun F S2 a w ρ own hag H=>?_
 have h1:=qm H c;rw [hag.ev (x:=c) (by simp [ho,Op.operands]),hc] at h1
 have h1:=(qx h1).1;refine ⟨if b then a.eval x else a.eval y,w,by simp [execOp,ho,h1,asBool],Ext.none w, ?_⟩
 cases b
 ·simp only [cond_false,cN,if_false];rw [<- hag.ev (x:=y) (by simp [ho,Op.operands])];exact qm H y
 ·simp only [cond_true,if_true];rw [<- hag.ev (x:=x) (by simp [ho,Op.operands])];exact qm H x
def Qa3 {ops:Array Oper} {o:Oper} {S:St} (hS:Wf S) (hw:Want ops o S) {x:Operand} {ix:Nat} (ho:o.op=.extract x ix) {cs:List AV} {c:AV} (hx:ev S x=.tup cs) (hc:cs[ix]?=some c) :
  VE A P ops o { av:=c,n:=S.n } S:=by
 refine VE.val hw (by simp [ho]) (fun id hid=>jO hS x id (by rw [hx];simp only [AV.ids];exact AV.mem_idsL.2 ⟨c,ao hc,hid⟩)) fun F S2 a w ρ own hag H=>?_
 have h1:=qm H x;rw [hag.ev (x:=x) (by simp [ho,Op.operands]),hx] at h1
 generalize hv:a.eval x=v at h1;cases h1 with
 |@tup _ vs hs hall =>
  have hlt:ix < vs.size:=by rw [hs];exact (aq.1 hc).1
  refine ⟨vs[ix],w,by simp [execOp,ho,hv,Instr.extract,hlt],Ext.none w, ?_⟩
  have:=hall ix c hc
  simpa [hlt] using this
def LB {ops:Array Oper} {o:Oper} {S:St} (hS:Wf S) (hw:Want ops o S) {f:FuncId} {caps:Array Operand} (ho:o.op=.makeFunc (.func f) #[] caps) :
  VE A P ops o { av:=.clo f (caps.toList.map (ev S)),n:=S.n } S:=by
 refine VE.val hw (by simp [ho]) (fun id hid=>?_) fun F S2 a w ρ own hag H=>?_
 ·simp only [AV.ids] at hid
  obtain ⟨c,hc,hid⟩:=AV.mem_idsL.1 hid;obtain ⟨x,_,rfl⟩:=aj.1 hc
  exact jO hS x id hid
 ·refine ⟨.func (.func f) #[] (caps.map a.eval),w,by simp [execOp,ho,Instr.makeFunc],Ext.none w,.clo (by simp) fun i c hc=>?_⟩
  rw [aC] at hc;obtain ⟨x,hx,rfl⟩:=aA.1 hc
  have hx':caps[i]?=some x:=by simpa using hx
  have hm:x ∈ caps:=dO hx';rw [<- hag.ev (x:=x) (by simp [ho,Op.operands,hm])]
  have:(caps.map a.eval).getD i undef=a.eval x:=by simp [hx']
  rw [this];exact qm H x
def Qfc {ops:Array Oper} {o:Oper} {S:St} (hS:Wf S) (hw:Want ops o S) {f:FuncId} {caps:Array Operand} (ho:o.op=.makeFunc (.func f) caps #[]) :
  VE A P ops o { av:=.bnd f (caps.toList.map (ev S)),n:=S.n } S:=by
 refine VE.val hw (by simp [ho]) (fun id hid=>?_) fun F S2 a w ρ own hag H=>?_
 ·simp only [AV.ids] at hid
  obtain ⟨c,hc,hid⟩:=AV.mem_idsL.1 hid;obtain ⟨x,_,rfl⟩:=aj.1 hc
  exact jO hS x id hid
 ·refine ⟨.func (.func f) (caps.map a.eval) #[],w,by simp [execOp,ho,Instr.makeFunc],Ext.none w,.bnd (by simp) fun i c hc=>?_⟩
  rw [aC] at hc;obtain ⟨x,hx,rfl⟩:=aA.1 hc
  have hx':caps[i]?=some x:=by simpa using hx
  have hm:x ∈ caps:=dO hx';rw [<- hag.ev (x:=x) (by simp [ho,Op.operands,hm])]
  have:(caps.map a.eval).getD i undef=a.eval x:=by simp [hx']
  rw [this];exact qm H x
def UH {ops:Array Oper} {o:Oper} {S:St} (hS:Wf S) (hw:Want ops o S) {x:Operand} (ho:o.op=.nilCheck x) (hx:(∃ id off,ev S x=.ptr id off)\/(∃ cs off,ev S x=.ep cs off)\/(∃ id k i off,ev S x=.rp id k i off)) :
  VE A P ops o { av:=ev S x,n:=S.n } S:=by
 refine VE.val hw (by simp [ho]) (jO hS x) fun F S2 a w ρ own hag H=>?_
 have h1:=qm H x;rw [hag.ev (x:=x) (by simp [ho,Op.operands])] at h1
 refine ⟨a.eval x,w, ?_,Ext.none w,h1⟩
 rcases hx with ⟨id,off,hx⟩|⟨cs,off,hx⟩|⟨id,k,i,off,hx⟩ <;> rw [hx] at h1 <;> generalize hv:a.eval x=v at h1 <;> cases h1 <;> simp [execOp,ho,hv]
def DV.av:DV->AV
 |.v x=>.v x
 |.sl xs=>.sl xs
def DV.av_ids (d:DV):d.av.ids=[]:=by cases d <;> rfl
def DRel.av {w:World} {ok:Nat->Prop} {ρ:Nat->Value} {y:Value} {d:DV} {x:Value} (h:DRel w ok d x):ARel w ok ρ y d.av x/\x.oneCell'=true:=by
 cases h with
 |v hx=>exact ⟨.v hx,hx⟩
 |sl0 hc=>exact ⟨.sl (.sl0 hc),rfl⟩
 |sl f h1 h2 h3 h4 h5 h6 h7 h8 h9=>exact ⟨.sl (.sl f h1 h2 h3 h4 h5 h6 h7 h8 h9),rfl⟩
def R8 (o:Option AObj) (K:List AV->Prop):Prop:=∃ cs,o=some (.cells cs)/\K cs
def UD (cs:List AV) (K:List AV->Prop):R8 (some (.cells cs)) K=K cs:=by simp [R8]
def RF (o:Option AObj) (K:TypeId->Nat->List (List DV)->Prop):Prop:=∃ e k xs,o=some (.row e k xs)/\K e k xs
def Qdk (e:TypeId) (k:Nat) (xs:List (List DV)) (K:TypeId->Nat->List (List DV)->Prop):RF (some (.row e k xs)) K=K e k xs:=by
 apply propext;constructor
 ·rintro ⟨_,_,_,h,hk⟩;cases h;exact hk
 ·exact fun h=>⟨_,_,_,rfl,h⟩
def rd (S:St) (n:Nat) (K:List AV->List Nat->Prop):AV->Prop
 |.ptr id off=>R8 (S.h id) fun cs=>off+n<=cs.length/\K ((cs.drop off).take n) [id]
 |.ep cs off=>off+n<=cs.length/\K (((cs.drop off).take n).map DV.av) []
 |.rp id k i off=>RF (S.h id) fun _ k' xs=>k'=k/\off+n<=k/\∃ h:i < xs.length,K ((((xs[i]'h).drop off).take n).map DV.av) [id]
 |_=>False
structure RdOK (S:St) (c:AV) (n:Nat) (cells:List AV) (hr:List Nat):Prop where
 ids:Wf S->∀ c ∈ cells,∀ id ∈ c.ids,id < S.n
 read:∀ F S2 a w ρ own v,(∀ id ∈ hr,S2.h id=S.h id)->Holds F S2 a w ρ own->ARel w (okB w own ρ S2.h) ρ F.y c v ->
  cells.length=n/\∃ (ad:Addr) (vs:List Value),v=.pointer (some ad)/\vs.length=n/\(∀ (j:Nat) u,vs[j]?=some u->w.cell? (ad.add j)=some u) /\
   ∀ (j:Nat) c u,cells[j]?=some c->vs[j]?=some u->ARel w (okB w own ρ S2.h) ρ F.y c u/\u.oneCell'=true
def jQ {α:Type} (n:Nat) (f:Nat->α) (j:Nat) (u:α):((List.range n).map f)[j]?=some u ↔ j < n/\f j=u:=by
 rw [aC]
 rcases bK j n with h|h
 ·simp [h]
 ·simp [show ¬ j < n by omega]
def Qr {α:Type} {cs:List α} {off n j:Nat} {c:α} (h:((cs.drop off).take n)[j]?=some c):j < n/\cs[off+j]?=some c:=by
 rw [aP] at h;split at h
 ·exact ⟨‹_›,by simpa using h⟩
 ·cases h
def UQ {S:St} {n:Nat} {K:List AV->List Nat->Prop} {c:AV} (h:rd S n K c):∃ cells hr,K cells hr/\RdOK S c n cells hr:=by
 cases c <;> simp only [rd] at h
 case ptr id off =>
  obtain ⟨cs,hh,hlen,hK⟩:=h;refine ⟨_,_,hK,fun hS c hc i hi=>?_,fun F S2 a w ρ own v hag H hv=>?_⟩
  ·exact bm fun hn=>(hS i hn).2.2.1 id _ hh (by simp only [AObj.ids];exact AV.mem_idsL.2 ⟨c,aW (aY hc),hi⟩)
  ·have ho:=H.obj id _ ((hag id (by simp)).trans hh)
   cases hv with
   |@ptr _ _ b e =>
    rw [e] at ho;cases ho with
    |@cells _ _ t vs h1 h2 h3 =>
     refine ⟨by simp;omega,_,(List.range n).map fun j=>vs.getD (off+j) undef,rfl,by simp,fun j u hu=>?_,fun j c u hc hu=>?_⟩
     ·obtain ⟨hj,rfl⟩:=(jQ _ _ _ _).1 hu
      have:off+j < vs.size:=by rw [h2];omega
      rw [jm]
      simp [World.cell?,h1,this]
     ·obtain ⟨hj,rfl⟩:=(jQ _ _ _ _).1 hu
      exact h3 _ c (Qr hc).2
 case ep cs off =>
  obtain ⟨hlen,hK⟩:=h;refine ⟨_,_,hK,fun hS c hc i hi=>?_,fun F S2 a w ρ own v _ H hv=>?_⟩
  ·obtain ⟨d,_,rfl⟩:=aj.1 hc
   rw [DV.av_ids] at hi;cases hi
  ·cases hv with
   |ep f h1 h2 h3 h4 =>
    refine ⟨by simp;omega,_,(List.range n).map fun j=>f (off+j),rfl,by simp,fun j u hu=>?_,fun j c u hc hu=>?_⟩
    ·obtain ⟨hj,rfl⟩:=(jQ _ _ _ _).1 hu
     rw [add_add'];have:off+j < cs.length:=by omega
     exact h1 _ _ (al this)
    ·obtain ⟨hj,rfl⟩:=(jQ _ _ _ _).1 hu
     rw [aC] at hc;obtain ⟨d,hd,rfl⟩:=aA.1 hc
     exact (h2 _ d (Qr hd).2).av
 case rp id k i off =>
  obtain ⟨e,k',xs,hh,rfl,hlen,hi,hK⟩:=h;refine ⟨_,_,hK,fun hS c hc i hi=>?_,fun F S2 a w ρ own v hag H hv=>?_⟩
  ·obtain ⟨d,_,rfl⟩:=aj.1 hc
   rw [DV.av_ids] at hi;cases hi
  ·have ho:=H.obj id _ ((hag id (by simp)).trans hh)
   cases hv with
   |@rp _ _ _ _ b m c e' =>
    rw [e'] at ho;cases ho with
    |@row _ _ _ _ flat h1 h2 h3 h4 =>
     have hl:xs[i].length=k':=h2 _ (bF hi);have hcell:=(wO h3 (by omega)).1.cells (g:=b) rfl
     have hu:∀ j d,xs[i][off+j]?=some d->∃ u,flat[i * k'+(off+j)]?=some u/\DRel w _ d u:=fun j d hd=>h4 i _ (off+j) d (al hi) hd
     refine ⟨by simp;omega,_,(List.range n).map fun j=>flat.getD (i * k'+(off+j)) undef,rfl,by simp,fun j u hu'=>?_,fun j c u hc hu'=>?_⟩
     ·obtain ⟨hj,rfl⟩:=(jQ _ _ _ _).1 hu'
      have hlt:off+j < xs[i].length:=by omega
      obtain ⟨u,hu1,_⟩:=hu j _ (al hlt);have:=hcell _ u hu1
      rw [jm] at this;rw [jm,show i * k'+off+j=0+(i * k'+(off+j)) by omega,this]
      simp [hu1]
     ·obtain ⟨hj,rfl⟩:=(jQ _ _ _ _).1 hu'
      rw [aC] at hc;obtain ⟨d,hd,rfl⟩:=aA.1 hc
      obtain ⟨u,hu1,hd1⟩:=hu j d (Qr hd).2;have:flat.getD (i * k'+(off+j)) undef=u:=by simp [hu1]
      rw [this];exact hd1.av
 all_goals exact h.elim
def add_zero' (a:Addr):a.add 0=a:=by simp [Addr.add]
def Qad {vs:List Value} (h:vs.length=1):∃ v,vs=[v]:=by
 match vs,h with
 |[v],_=>exact ⟨v,rfl⟩
def Zo {t:TypeId} {i:TI} (ht:TyFact P t i) (ha:i.td.agg=true) (w:World) (ad:Addr) (vs:List Value) (hl:vs.length=i.cells) (h:∀ (j:Nat) u,vs[j]?=some u->w.cell? (ad.add j)=some u) :
  (loadVar t ad).run P w=.ok (.agg vs.toArray) w:=by
 simp only [loadVar,aH,ht.run_isAgg,ha,if_true,aJ,ht.run_sizeOf,<- hl,run_loadCells_list w ad vs h,aL]
def Zn {t:TypeId} {i:TI} (ht:TyFact P t i) (ha:i.td.agg=false) (w:World) (ad:Addr) (v:Value) (h:w.cell? ad=some v) :
  (loadVar t ad).run P w=.ok v w:=by
 simp only [loadVar,aH,ht.run_isAgg,ha,cN,if_false,aJ,run_load,h]
def Qhe {ops:Array Oper} {o:Oper} {S:St} (hS:Wf S) (hw:Want ops o S) {t:TypeId} {x:Operand} (ho:o.op=.load t x) {i:TI} (ht:TyFact P t i) {n:Nat} {cells:List AV} {hr:List Nat}
  (hn:n=bif i.td.agg then i.cells else 1) (h:RdOK S (ev S x) n cells hr):VE A P ops o { av:=bif i.td.agg then .agg cells else cells.headD .junk,hr:=hr,n:=S.n } S:=by
 refine VE.val hw (by simp [ho]) (fun id hid=>?_) fun F S2 a w ρ own hag H=>?_
 ·cases hagg:i.td.agg
  ·rw [hagg,cond_false] at hid
   cases cells with
   |nil=>simp [AV.ids] at hid
   |cons c cs=>exact h.ids hS c aV id hid
  ·rw [hagg,cond_true] at hid
   simp only [AV.ids] at hid;obtain ⟨c,hc,hid⟩:=AV.mem_idsL.1 hid
   exact h.ids hS c hc id hid
 ·have h1:=qm H x
  rw [hag.ev (x:=x) (by simp [ho,Op.operands])] at h1
  obtain ⟨hlen,ad,vs,hv,hl,hcell,hrel⟩:=h.read F S2 a w ρ own _ hag.2.1 H h1;cases hagg:i.td.agg
  ·rw [hagg,cond_false] at hn
   subst hn;obtain ⟨v,rfl⟩:=Qad hl
   have hc0:w.cell? ad=some v:=by have:=hcell 0 v rfl;rwa [add_zero'] at this
   refine ⟨v,w,by simp [execOp,ho,hv,Instr.loadAt,Instr.sureAddr,Zn ht hagg w ad v hc0],Ext.none w, ?_⟩
   match cells,hlen with
   |[c],_=>exact (hrel 0 c v rfl rfl).1
  ·rw [hagg,cond_true] at hn
   refine ⟨.agg vs.toArray,w,by simp [execOp,ho,hv,Instr.loadAt,Instr.sureAddr,Zo ht hagg w ad vs (by omega) hcell],Ext.none w, ?_⟩
   refine .agg (by simp;omega) fun j c hc=>?_
   have hj:j < vs.length:=by have:=(aq.1 hc).1;omega
   have:=(hrel j c _ hc (al hj)).1
   simpa [hj] using this
def addA (n:Nat) (K:AV->Prop):AV->Prop
 |.ptr id o=>K (.ptr id (o+n))
 |.ep cs o=>K (.ep cs (o+n))
 |.rp id k i o=>K (.rp id k i (o+n))
 |_=>False
def Ud {ops:Array Oper} {o:Oper} {S:St} (hS:Wf S) (hw:Want ops o S) {t:TypeId} {x:Operand} {f:Nat} (ho:o.op=.fieldAddr t x f) {i:TI} (ht:TyFact P t i) {fs:List (Nat × Nat × TypeId)} (htd:i.td=.struct fs)
  {off sz:Nat} {ft:TypeId} (hf:fs[f]?=some (off,sz,ft)) (hj:sz ≠ 0) {K:AV->Prop} (h:addA off K (ev S x)) :
  ∃ av,K av/\VE A P ops o { av:=av,n:=S.n } S:=by
 obtain ⟨d,hd,hok⟩:=ht.under;rw [htd] at hok
 obtain ⟨fields,rfl,hmap⟩:=hok;have hfield:∃ fl,fields[f]?=some fl/\fl.offset=off/\fl.type=ft:=by
  have hf':=congrArg (Option.map fun p:Nat × Nat × TypeId=>(p.1,p.2.2)) hf
  rw [<- aC,<- hmap,aC] at hf';obtain ⟨fl,h1,h2⟩:=aA.1 hf'
  exact ⟨fl,by simpa using h1,(Prod.mk.inj h2).1,(Prod.mk.inj h2).2⟩
 obtain ⟨inf,hinf,hsz⟩:=ht.fsz fs htd _ (ao hf);obtain ⟨fl,hfl,rfl,rfl⟩:=hfield
 simp only at hinf hsz;have run:∀ (w:World) (ad:Addr),(Instr.fieldAt t (.pointer (some ad)) f).run P w=.ok (.pointer (some (ad.add fl.offset))) w:=fun w ad=>by
  simp [Instr.fieldAt,run_underlying hd,hfl,Instr.sureAddr,fieldPlace,sizeOf,typeInfo,hinf,hsz,hj]
 have fin:∀ av,(∀ id ∈ av.ids,id < S.n)->(∀ F S2 a w ρ own,Holds F S2 a w ρ own->ARel w (okB w own ρ S2.h) ρ F.y (ev S x) (a.eval x)->∃ ad,a.eval x=.pointer (some ad)/\ARel w (okB w own ρ S2.h) ρ F.y av (.pointer (some (ad.add fl.offset)))) ->
   VE A P ops o { av:=av,n:=S.n } S:=fun av hids hav=>VE.val hw (by simp [ho]) hids fun F S2 a w ρ own hag H=>by
  have h1:=qm H x;rw [hag.ev (x:=x) (by simp [ho,Op.operands])] at h1
  obtain ⟨ad,hv,hr⟩:=hav F S2 a w ρ own H h1;exact ⟨_,w,by simp [execOp,ho,hv,run],Ext.none w,hr⟩
 have hids:=jO hS x;generalize hx:ev S x=c at *
 cases c <;> simp only [addA] at h
 case ptr id off' =>
  refine ⟨_,h,fin _ (by simpa [AV.ids] using hids) fun F S2 a w ρ own H h1=>?_⟩
  generalize a.eval x=v at h1;cases h1 with
  |ptr e=>exact ⟨_,rfl,by rw [jm];exact .ptr e⟩
 case ep cs off' =>
  refine ⟨_,h,fin _ (by simp [AV.ids]) fun F S2 a w ρ own H h1=>?_⟩
  generalize a.eval x=v at h1;cases h1 with
  |ep f h1 h2 h3 h4=>exact ⟨_,rfl,by rw [add_add'];exact .ep f h1 h2 h3 h4⟩
 case rp id k m off' =>
  refine ⟨_,h,fin _ (by simpa [AV.ids] using hids) fun F S2 a w ρ own H h1=>?_⟩
  generalize a.eval x=v at h1;cases h1 with
  |rp e=>exact ⟨_,rfl,by rw [jm,ck];exact .rp e⟩
 all_goals exact h.elim
def idxA (S:St) (i:TI) (cells:Nat) (n:Int) (K:AV->List Nat->Prop):AV->Prop
 |.sl xs=>(∃ e,i.td=.slice e)/\0<=n/\∃ h:n.toNat < xs.length,(xs[n.toNat]'h).length=cells/\K (.ep (xs[n.toNat]'h) 0) []
 |.row id=>(∃ e,i.td=.slice e)/\RF (S.h id) fun _ k xs=>k=cells/\0<=n/\n.toNat < xs.length/\K (.rp id k n.toNat 0) [id]
 |.rsl id k lo m=>(∃ e,i.td=.slice e)/\RF (S.h id) fun _ k' xs=>(k'=cells/\k=cells)/\0<=n/\n.toNat < m/\lo+m<=xs.length/\K (.rp id k (lo+n.toNat) 0) [id]
 |.csl id m=>(∃ e,i.td=.slice e)/\0<=n/\n.toNat < m/\K (.ptr id (n.toNat * cells)) []
 |.ptr id off=>∃ m e,i.td=.array m e/\0<=n/\n.toNat < m/\K (.ptr id (off+n.toNat * cells)) []
 |_=>False
def TD.elem:TD->Option TypeId
 |.slice e=>some e
 |.array _ e=>some e
 |_=>none
def JG {w:World} {a:Addr} {v:Value} (h:w.cell? a=some v):a.spot=none:=by
 unfold World.cell? at h;split at h
 ·cases hs:a.spot with
  |none=>rfl
  |some s=>simp [hs] at h
 ·cases h
def QeL {a:Addr} {n:Nat} (h:a.spot=none):(a.add n).spot=none:=by
 unfold Addr.add;split
 ·exact h
 ·rfl
def Ua {ops:Array Oper} {o:Oper} {S:St} (hS:Wf S) (hw:Want ops o S) {t:TypeId} {x ix:Operand} (ho:o.op=.indexAddr t x ix) {i:TI} (ht:TyFact P t i) {e:TypeId} (he:i.td.elem=some e) {j:TI} (hj:TyFact P e j)
  {k:IntKind} {n:Int} (hn:ev S ix=.v (.int k n)) {K:AV->List Nat->Prop} (h:idxA S i j.cells n K (ev S x)) :
  ∃ av hr,K av hr/\VE A P ops o { av:=av,hr:=hr,n:=S.n } S:=by
 obtain ⟨d,hd,hok⟩:=ht.under;have hix:∀ F S2 a w ρ own hr av,Agree ops o { av:=av,hr:=hr,n:=S.n } S S2->Holds F S2 a w ρ own->a.eval ix=.int k n:=fun F S2 a w ρ own hr av hag H=>by
  have h1:=qm H ix;rw [hag.ev (x:=ix) (by simp [ho,Op.operands]),hn] at h1
  exact (qx h1).1
 have hids:=jO hS x;have hxe:∀ F S2 a w ρ own hr av,Agree ops o { av:=av,hr:=hr,n:=S.n } S S2->Holds F S2 a w ρ own->ARel w (okB w own ρ S2.h) ρ F.y (ev S x) (a.eval x):=fun F S2 a w ρ own hr av hag H=>by
  rw [<- hag.ev (x:=x) (by simp [ho,Op.operands])];exact qm H x
 generalize hx:ev S x=c at *;cases c <;> simp only [idxA] at h
 case sl xs =>
  obtain ⟨⟨e',htd⟩,h0,hlt,hlen,hK⟩:=h;rw [htd] at he hok
  simp only [TD.elem,ak] at he;subst he
  simp only [TD.ok] at hok;subst hok
  refine ⟨_,_,hK,VE.val hw (by simp [ho]) (by simp [AV.ids]) fun F S2 a w ρ own hag H=>?_⟩
  have h1:=hxe F S2 a w ρ own _ _ hag H;have h2:=hix F S2 a w ρ own _ _ hag H
  generalize hv:a.eval x=v at h1;cases h1 with
  |sl hd1 =>
   cases hd1 with
   |sl0 _=>simp at hlt
   |@sl _ kk ad m cap f e1 e2 e3 e4 e5 e6 e7 e8 e9 =>
    have hkk:kk=j.cells:=by rw [<- hlen];exact (e6 _ _ (al hlt)).symm
    subst hkk;have hnm:n < (m:Int):=by omega
    refine ⟨.pointer (some (ad.add (n.toNat * j.cells))),w, ?_,Ext.none w, ?_⟩
    ·simp [execOp,ho,hv,h2,Instr.indexAt,asIntOf,run_underlying hd,hj.run_sizeOf,h0,hnm]
    ·have hsp:ad.spot=none:=by
      have h00:0 < xs.length:=by omega
      have hl0:xs[0].length=j.cells:=e6 0 _ (al h00);have:=e7 0 _ 0 _ (al h00) (al (show 0 < xs[0].length by omega))
      rw [cW,bE,add_zero'] at this;exact JG this
     have hE:=al hlt;rw [show ad.add (n.toNat * j.cells)=(ad.add (n.toNat * j.cells)).add 0 from (add_zero' _).symm]
     exact .ep (fun q=>f n.toNat q) (fun q d hq=>by rw [add_add'];exact e7 n.toNat _ q d hE hq) (fun q d hq=>e8 n.toNat _ q d hE hq) (by rw [block_add];exact e9) (QeL hsp)
 case row id =>
  obtain ⟨⟨e',htd⟩,e'',kk,xs,hh,rfl,h0,hlt,hK⟩:=h;rw [htd] at he hok
  simp only [TD.elem,ak] at he;subst he
  simp only [TD.ok] at hok;subst hok
  refine ⟨_,_,hK,VE.val hw (by simp [ho]) (by simpa [AV.ids] using hids) fun F S2 a w ρ own hag H=>?_⟩
  have h1:=hxe F S2 a w ρ own _ _ hag H;have h2:=hix F S2 a w ρ own _ _ hag H
  generalize hv:a.eval x=v at h1;cases h1 with
  |row e1 e2 =>
   have hobj:=H.obj id _ ((hag.2.1 id (by simp)).trans hh)
   rw [e1] at hobj;cases hobj with
   |row r1 r2 r3 r4 =>
    obtain ⟨_,g,cap,cur,rfl,_⟩:=wO r3 (by omega)
    ·have hnm:n < (xs.length:Int):=by omega
     refine ⟨.pointer (some ⟨g,n.toNat * j.cells,none⟩),w, ?_,Ext.none w, ?_⟩
     ·simp [execOp,ho,hv,h2,Instr.indexAt,asIntOf,run_underlying hd,hj.run_sizeOf,h0,hnm,jm]
     ·exact .rp (off:=0) e1
 case rsl id k0 lo m =>
  obtain ⟨⟨e',htd⟩,e'',kk,xs,hh,⟨rfl,rfl⟩,h0,hlt,hle,hK⟩:=h;rw [htd] at he hok
  simp only [TD.elem,ak] at he;subst he
  simp only [TD.ok] at hok;subst hok
  refine ⟨_,_,hK,VE.val hw (by simp [ho]) (by simpa [AV.ids] using hids) fun F S2 a w ρ own hag H=>?_⟩
  have h1:=hxe F S2 a w ρ own _ _ hag H;have h2:=hix F S2 a w ρ own _ _ hag H
  generalize hv:a.eval x=v at h1;cases h1 with
  |@rsl _ _ _ _ b c n0 e1 hnc =>
   have hnm:n < (m:Int):=by omega
   refine ⟨.pointer (some ⟨b,(lo+n.toNat) * j.cells+0,none⟩),w, ?_,Ext.none w,.rp e1⟩
   rw [bC,aE]
   simp [execOp,ho,hv,h2,Instr.indexAt,asIntOf,run_underlying hd,hj.run_sizeOf,h0,hnm,jm]
 case csl id m =>
  obtain ⟨⟨e',htd⟩,h0,hlt,hK⟩:=h;rw [htd] at he hok
  simp only [TD.elem,ak] at he;subst he
  simp only [TD.ok] at hok;subst hok
  refine ⟨_,_,hK,VE.val hw (by simp [ho]) (by simpa [AV.ids] using hids) fun F S2 a w ρ own hag H=>?_⟩
  have h1:=hxe F S2 a w ρ own _ _ hag H;have h2:=hix F S2 a w ρ own _ _ hag H
  generalize hv:a.eval x=v at h1;cases h1 with
  |@csl _ _ c b e1 hnc =>
   have hnm:n < (m:Int):=by omega
   refine ⟨.pointer (some ⟨b,n.toNat * j.cells,none⟩),w, ?_,Ext.none w,.ptr e1⟩
   simp [execOp,ho,hv,h2,Instr.indexAt,asIntOf,run_underlying hd,hj.run_sizeOf,h0,hnm,jm]
 case ptr id off =>
  obtain ⟨m,e',htd,h0,hlt,hK⟩:=h;rw [htd] at he hok
  simp only [TD.elem,ak] at he;subst he
  simp only [TD.ok] at hok;subst hok
  refine ⟨_,_,hK,VE.val hw (by simp [ho]) (by simpa [AV.ids] using hids) fun F S2 a w ρ own hag H=>?_⟩
  have h1:=hxe F S2 a w ρ own _ _ hag H;have h2:=hix F S2 a w ρ own _ _ hag H
  generalize hv:a.eval x=v at h1;cases h1 with
  |@ptr _ _ b e1 =>
   have hnm:n < (m:Int):=by omega
   refine ⟨.pointer (some ⟨b,off+n.toNat * j.cells,none⟩),w, ?_,Ext.none w,.ptr e1⟩
   simp [execOp,ho,hv,h2,Instr.indexAt,Instr.sureAddr,asIntOf,run_underlying hd,hj.run_sizeOf,h0,hnm,jm]
 all_goals exact h.elim
def cellsOf:AV->List AV
 |.agg cs=>cs
 |.v x=>[.v x]
 |.nil=>[.nil]
 |.emp=>[.emp]
 |.sl xs=>[.sl xs]
 |.ep cs o=>[.ep cs o]
 |.ptr i o=>[.ptr i o]
 |.row i=>[.row i]
 |.rp i k m o=>[.rp i k m o]
 |.csl i n=>[.csl i n]
 |.psl i o n c=>[.psl i o n c]
 |.rsl i k l n=>[.rsl i k l n]
 |.mp i=>[.mp i]
 |.clo f cs=>[.clo f cs]
 |.cb=>[.cb]
 |.tup _=>[.junk]
 |.junk=>[.junk]
 |.any=>[.any]
 |.bnd f cs=>[.bnd f cs]
def Qbg {w:World} {ok:Nat->Prop} {ρ:Nat->Value} {y:Value} {c:AV} {v:Value} (hc:jI c=true) (h:ARel w ok ρ y c v):cellsOf c=[c]/\v.cells=#[v]:=by
 have h1:=Jw hc h;exact ⟨by cases c <;> first|rfl|(simp [jI] at hc),by cases v <;> first|rfl|(simp [Value.oneCell'] at h1)⟩
def Qy {w:World} {ok:Nat->Prop} {ρ:Nat->Value} {y:Value} {c:AV} {v:Value} (hall:(cellsOf c).all jI=true) (h:ARel w ok ρ y c v) :
  v.cells.size=(cellsOf c).length/\∀ (i:Nat) (d:AV),(cellsOf c)[i]?=some d->ARel w ok ρ y d (v.cells.getD i undef)/\(v.cells.getD i undef).oneCell'=true:=by
 by_cases hc:jI c=true
 ·obtain ⟨e1,e2⟩:=Qbg hc h
  rw [e1,e2];refine ⟨rfl,fun i d hd=>?_⟩
  match i,hd with
  |0,hd =>
   simp only [aK,ak] at hd;subst hd
   exact ⟨h,Jw hc h⟩
 ·cases c <;> simp [jI] at hc
  case agg cs =>
   cases h with
   |agg hs hrel=>exact ⟨hs,fun i d hd=>⟨hrel i d hd,Jw (bq.1 hall d (ao hd)) (hrel i d hd)⟩⟩
  all_goals simp [cellsOf,jI] at hall
def Z8 {c:AV} {n:Nat} (h:∀ id ∈ c.ids,id < n):∀ d ∈ cellsOf c,∀ id ∈ d.ids,id < n:=by
 intro d hd id hid;cases c <;> simp only [cellsOf,aM] at hd <;> first|(subst hd;exact h id hid)|(subst hd;simp [AV.ids] at hid)|exact h id (by simp only [AV.ids];exact AV.mem_idsL.2 ⟨d,hd,hid⟩)
def QA (w:World) (o:Obj):(w.alloc o).heap[w.heap.size]?=some o:=World.alloc_heap_new w o
def VE.newCells {ops:Array Oper} {o:Oper} {S:St} {cs:List AV} {hr:List Nat} (hw:Want ops o S) (hd:∀ c,o.op ≠ .defer c) (hids:∀ c ∈ cs,∀ id ∈ c.ids,id < S.n)
  (h:∀ F S2 a w ρ own,Agree ops o { av:=.ptr S.n 0,hw:=[(S.n,some (.cells cs))],hr:=hr,news:=[S.n],n:=S.n+1 } S S2->Holds F S2 a w ρ own ->
   ∃ (vs:Array Value) (T:TypeId),(execOp a.eval o).run P w=.ok (.value (.pointer (some ⟨w.heap.size,0,none⟩))) (w.alloc (.cells vs T))/\vs.size=cs.length /\
    ∀ (i:Nat) (c:AV),cs[i]?=some c->ARel w (okB w own ρ S2.h) ρ F.y c (vs.getD i undef)/\(vs.getD i undef).oneCell'=true) :
  VE A P ops o { av:=.ptr S.n 0,hw:=[(S.n,some (.cells cs))],hr:=hr,news:=[S.n],n:=S.n+1 } S:=by
 have hI:∀ id ∈ Eff.ids { av:=.ptr S.n 0,hw:=[(S.n,some (.cells cs))],hr:=hr,news:=[S.n],n:=S.n+1 },id < S.n+1:=by
  intro id hid;simp only [Eff.ids,AV.ids,zM,AObj.ids,bf,bT,au,ae,aO,or_false] at hid
  rcases hid with rfl|rfl|hid
  ·omega
  ·omega
  ·obtain ⟨c,hc,hid⟩:=AV.mem_idsL.1 hid
   have:=hids c hc id hid;omega
 refine ⟨fun F hF hds S2 a w hag hfr ⟨ρ,own,H⟩=>?_,hI,by simp⟩
 rw [wN hw hag H,if_pos rfl];obtain ⟨vs,T,hrun,hsz,hrel⟩:=h F S2 a w ρ own hag H
 refine wP hd hrun (jf (ρ':=upd ρ S.n (.pointer (some ⟨w.heap.size,0,none⟩))) (own':=own) ?_)
 have hx:Ext (fun _=>False) w (w.alloc (.cells vs T)):=Ext.alloc _ _ _
 have hj:F.J S2.j own (w.alloc (.cells vs T)):=(F.stable _ _ _ H.jay).2 _ (hx.weaken fun _ _ h=>h.elim)
 have hun:=(hfr S.n (by simp)).1
 have hok:∀ b,okB w own ρ S2.h b->okB (w.alloc (.cells vs T)) own (upd ρ S.n (.pointer (some ⟨w.heap.size,0,none⟩))) (upd S2.h S.n (some (.cells cs))) b/\(w.alloc (.cells vs T)).heap[b]?=w.heap[b]?:=by
  rintro b ⟨h1,h2,h3⟩;refine ⟨⟨by simp;omega,h2,fun i o hi hb=>?_⟩,hx.block b h1 (by simp)⟩
  by_cases hin:i=S.n
  ·subst hin;rw [upd_same] at hb;simp [blk] at hb;omega
  ·rw [upd_ne _ _ _ _ hin] at hi hb;exact h3 i o hi hb
 refine H.app (vI hds) hj (hx.weaken fun _ _ h=>h.elim) (.inl rfl) (by simp [Eff.keys]) (fun i hi=>upd_ne _ _ _ _ (by simpa using hi)) (by simpa using hfr) (.ptr (upd_same _ _ _)) ?_ ?_ ?_ .nil
 ·intro i ob hi hob
  simp only [Eff.keys,aw,aX,aM] at hi;subst hi
  simp only [ze,upd_same,ak] at hob;subst hob
  rw [upd_same];refine ⟨.cells (QA _ _) hsz fun i c hc=>⟨(hrel i c hc).1.mono hok fun id hid=>upd_ne _ _ _ _ ?_,(hrel i c hc).2⟩,fun b hb=>?_⟩
  ·have:=hids c (ao hc) id hid;omega
  ·simp [blk] at hb
   subst hb;exact ⟨fun ho=>by have:=(F.stable _ _ _ H.jay).1 _ ho;omega,.inl (ag _)⟩
 ·intro i k o1 o2 b hi hk _ _ _ _
  simp only [Eff.keys,aw,aX,aM] at hi hk;rw [hi,hk]
 ·intro id hid
  exact aN (hI id hid) (bD _ _)
def Qg8 {ops:Array Oper} {o:Oper} {S:St} (hw:Want ops o S) {t:TypeId} (ho:o.op=.alloc t) {i:TI} (ht:TyFact P t i) :
  VE A P ops o { av:=.ptr S.n 0,hw:=[(S.n,some (.cells i.zero))],news:=[S.n],n:=S.n+1 } S:=by
 obtain ⟨inf,z0,_,_,_,_,hz0,_,_⟩:=ht.info;refine VE.newCells hw (by simp [ho]) (fun c hc id hid=>?_) fun F S2 a w ρ own hag H=>?_
 ·rw [<- hz0] at hc
  obtain ⟨v,_,rfl⟩:=aj.1 hc;rw [QT] at hid;cases hid
 ·obtain ⟨z,hz,h1,h2,h3⟩:=ht.run_zero w
  refine ⟨z.cells,t, ?_, ?_,fun i c hc=>?_⟩
  ·simp [execOp,ho,Instr.alloc,hz,newVar,newRow,newObj,Sem.run]
  ·rw [<- h1];simp
  ·rw [<- h1,aC] at hc
   obtain ⟨v,hv,rfl⟩:=aA.1 hc;have hv':z.cells[i]?=some v:=by simpa using hv
   have:z.cells.getD i undef=v:=by simp [hv']
   rw [this];exact ⟨kz v,h3 v (ao hv)⟩
def QkY {ops:Array Oper} {o:Oper} {S:St} (hS:Wf S) (hw:Want ops o S) {t:TypeId} {x:Operand} (ho:o.op=.box t x) (hall:(cellsOf (ev S x)).all jI=true) :
  VE A P ops o { av:=.ptr S.n 0,hw:=[(S.n,some (.cells (cellsOf (ev S x))))],news:=[S.n],n:=S.n+1 } S:=by
 refine VE.newCells hw (by simp [ho]) (Z8 (jO hS x)) fun F S2 a w ρ own hag H=>?_
 have h1:=qm H x;rw [hag.ev (x:=x) (by simp [ho,Op.operands])] at h1
 obtain ⟨h2,h3⟩:=Qy hall h1;exact ⟨(a.eval x).cells,t,by simp [execOp,ho,Instr.box,newVar,newRow,newObj,Sem.run],h2,h3⟩
def VE.setObj {ops:Array Oper} {o:Oper} {S:St} {id:Nat} {ob ob':AObj} {hr:List Nat} (hS:Wf S) (hw:Want ops o S) (hd:∀ c,o.op ≠ .defer c) (hob:S.h id=some ob) (hidr:id ∈ hr) (hids:∀ i ∈ ob'.ids,i < S.n)
  (h:∀ F S2 a w ρ own,Agree ops o { av:=.junk,hw:=[(id,some ob')],hr:=hr,n:=S.n } S S2->Holds F S2 a w ρ own->S2.h id=some ob ->
   ∃ w',(execOp a.eval o).run P w=.ok .skip w'/\Ext (fun b=>blk (ρ id)=some b) w w'/\ORel w' (okB w own ρ S2.h) ρ F.y ob' (ρ id)) :
  VE A P ops o { av:=.junk,hw:=[(id,some ob')],hr:=hr,n:=S.n } S:=by
 have hlt:id < S.n:=bm fun hn=>by have:=(hS id hn).1;rw [hob] at this;cases this
 have hI:∀ i ∈ Eff.ids { av:=.junk,hw:=[(id,some ob')],hr:=hr,n:=S.n },i < S.n:=by
  intro i hi;simp only [Eff.ids,AV.ids,zM,bf,bT,bc,ae] at hi
  rcases hi with rfl|hi
  ·exact hlt
  ·exact hids i hi
 refine ⟨fun F hF hds S2 a w hag _ ⟨ρ,own,H⟩=>?_,hI,by simp⟩
 rw [wN hw hag H,if_pos rfl];have hob2:S2.h id=some ob:=(hag.2.1 id hidr).trans hob
 obtain ⟨w',hrun,hx,horel⟩:=h F S2 a w ρ own hag H hob2;refine Xc hd hrun (jf (ρ':=ρ) (own':=own) ?_)
 have hno:∀ b,own.all b->blk (ρ id) ≠ some b:=fun b ho hb=>(H.blkOK id ob b hob2 hb).1 ho
 have hj:F.J S2.j own w':=(F.stable _ _ _ H.jay).2 _ (hx.weaken fun b _ hb ho=>hno b ho hb)
 have hok:∀ b,okB w own ρ S2.h b->okB w' own ρ (upd S2.h id (some ob')) b/\w'.heap[b]?=w'.heap[b]?:=by
  rintro b ⟨h1,h2,h3⟩;refine ⟨⟨aN h1 hx.size,h2,fun i o hi hb=>?_⟩,rfl⟩
  by_cases hin:i=id
  ·subst hin;exact h3 i ob hob2 hb
  ·rw [upd_ne _ _ _ _ hin] at hi;exact h3 i o hi hb
 refine H.app (vI hds) hj (hx.weaken fun b _ hb=>.inr ⟨id,ob,by simp [Eff.keys],hob2,hb⟩) (.inl rfl) (by simp [Eff.keys]) (fun i _=>rfl) (by simp) .junk ?_ ?_ ?_ .nil
 ·intro i o1 hi ho1
  simp only [Eff.keys,aw,aX,aM] at hi;subst hi
  simp only [ze,upd_same,ak] at ho1;subst ho1
  exact ⟨horel.mono hok (fun _ _=>rfl) (fun _ _=>rfl),fun b hb=>⟨(H.blkOK i ob b hob2 hb).1,.inr ⟨i,ob,by simp [Eff.keys],hob2,hb⟩⟩⟩
 ·intro i k o1 o2 b hi hk _ _ _ _
  simp only [Eff.keys,aw,aX,aM] at hi hk;rw [hi,hk]
 ·intro i hi
  exact aN (hI i hi) (bD _ _)
def AV.dv:AV->Option DV
 |.v x=>some (.v x)
 |.nil=>some (.sl [])
 |.emp=>some (.sl [])
 |.sl xs=>some (.sl xs)
 |.agg _=>none
 |.tup _=>none
 |.ep _ _=>none
 |.ptr _ _=>none
 |.row _=>none
 |.rp _ _ _ _=>none
 |.csl _ _=>none
 |.psl _ _ _ _=>none
 |.rsl _ _ _ _=>none
 |.mp _=>none
 |.clo _ _=>none
 |.cb=>none
 |.junk=>none
 |.any=>none
 |.bnd _ _=>none
def dvL:List AV->Option (List DV)
 |[]=>some []
 |c :: cs=>match c.dv,dvL cs with
  |some d,some ds=>some (d :: ds)
  |_,_=>none
def Jf {w:World} {ok:Nat->Prop} {ρ:Nat->Value} {y:Value} {c:AV} {d:DV} {v:Value} (h:c.dv=some d) (hr:ARel w ok ρ y c v):DRel w ok d v:=by
 cases hr <;> simp only [AV.dv,ak,reduceCtorEq] at h <;> subst h
 ·exact .v ‹_›
 ·exact .sl0 (af _)
 ·exact .sl0 (af _)
 ·assumption
def YZ:∀ {cs:List AV} {ds:List DV},dvL cs=some ds->cs.length=ds.length/\∀ (i:Nat) (d:DV),ds[i]?=some d->∃ c,cs[i]?=some c/\c.dv=some d
 |[],ds,h=>by simp only [dvL,ak] at h;subst h;simp
 |c :: cs,ds,h=>by
  simp only [dvL] at h;cases h1:c.dv with
  |none=>simp [h1] at h
  |some d =>
   cases h2:dvL cs with
   |none=>simp [h1,h2] at h
   |some ds' =>
    simp only [h1,h2,ak] at h;subst h
    obtain ⟨hl,hg⟩:=YZ h2;refine ⟨by simp [hl],fun i e he=>?_⟩
    cases i with
    |zero=>simp only [aK,ak] at he;subst he;exact ⟨c,rfl,h1⟩
    |succ i=>simpa using hg i e (by simpa using he)
def wr (S:St) (new:List AV) (K:List (Nat × Option AObj)->List Nat->Prop):AV->Prop
 |.ptr id off=>R8 (S.h id) fun cs=>off+new.length<=cs.length/\K [(id,some (.cells (cs.take off++new++cs.drop (off+new.length))))] [id]
 |.rp id k i off=>RF (S.h id) fun e k' xs=>k'=k/\∃ ds,dvL new=some ds/\off+ds.length<=k/\∃ h:i < xs.length,
   K [(id,some (.row e k (xs.set i ((xs[i]'h).take off++ds++(xs[i]'h).drop (off+ds.length)))))] [id]
 |_=>False
def zI {α:Type} {xs new:List α} {off i:Nat} (h:off+new.length<=xs.length) :
  (xs.take off++new++xs.drop (off+new.length))[i]?=if i < off then xs[i]? else if i < off+new.length then new[i - off]? else xs[i]?:=by
 rw [bU]
 by_cases h1:i < off
 ·rw [bp (by simp;omega),aP];simp [h1]
 ·rw [bv (by simp;omega)]
  simp only [bi,show min off xs.length=off by omega,h1,if_false]
  by_cases h2:i < off+new.length
  ·rw [bp (by omega)];simp [h2]
  ·rw [bv (by omega),bM]
   simp only [h2,if_false]
   congr 1;omega
def qK {α:Type} {xs new:List α} {off:Nat} (h:off+new.length<=xs.length):(xs.take off++new++xs.drop (off+new.length)).length=xs.length:=by
 simp;omega
def Ext.setRow {mod:Nat->Prop} (w:World) (g:Nat) (cs:Array Value) (h:mod g):Ext mod w (w.setRow g cs) :=
 ⟨rfl,rfl,rfl,by simp,fun k _ hn=>setRow_other w g k cs (fun e=>hn (e ▸ h))⟩
def Qev {ops:Array Oper} {o:Oper} {S:St} (hS:Wf S) (hw:Want ops o S) {t:TypeId} {x v:Operand} (ho:o.op=.store t x v) {i:TI} (ht:TyFact P t i) (hall:(cellsOf (ev S v)).all jI=true) (hlen:(cellsOf (ev S v)).length=i.cells)
  {K:List (Nat × Option AObj)->List Nat->Prop} (h:wr S (cellsOf (ev S v)) K (ev S x)):∃ hws hr,K hws hr/\VE A P ops o { av:=.junk,hw:=hws,hr:=hr,n:=S.n } S:=by
 have hxe:∀ F S2 a w ρ own e,Agree ops o e S S2->Holds F S2 a w ρ own->ARel w (okB w own ρ S2.h) ρ F.y (ev S x) (a.eval x):=fun F S2 a w ρ own e hag H=>by
  rw [<- hag.ev (x:=x) (by simp [ho,Op.operands])];exact qm H x
 have hve:∀ F S2 a w ρ own e,Agree ops o e S S2->Holds F S2 a w ρ own->ARel w (okB w own ρ S2.h) ρ F.y (ev S v) (a.eval v):=fun F S2 a w ρ own e hag H=>by
  rw [<- hag.ev (x:=v) (by simp [ho,Op.operands])];exact qm H v
 have hvi:=Z8 (jO hS v);generalize hnew:cellsOf (ev S v)=new at *
 generalize hx:ev S x=c at *;have run:∀ (w:World) (g off:Nat) (T:TypeId) (cur cells:Array Value) (val:Value),w.heap[g]?=some (.cells cur T (0,0))->val.cells=cells->cells.size=i.cells->off+cells.size<=cur.size->(∀ u ∈ cells.toList,u.oneCell'=true) ->
   (storeVar t ⟨g,off,none⟩ val).run P w=.ok () (w.setRow g (cur.toList.take off++cells.toList++cur.toList.drop (off+cells.toList.length)).toArray):=by
  intro w g off T cur cells val hg hc hs hfit h1;have hst:=run_storeCells_at P g off T cells.toList 0 cur w hg (by simpa using hfit) h1
  simp only [bC] at hst;simp only [storeVar,aH,ht.run_sizeOf,aJ,hc,hs,ne_eq,not_true_eq_false,if_false,hst]
 cases c <;> simp only [wr] at h
 case ptr id off =>
  obtain ⟨cs,hh,hfit,hK⟩:=h;refine ⟨_,_,hK,VE.setObj hS hw (by simp [ho]) hh (by simp) (fun i hi=>?_) fun F S2 a w ρ own hag H hob=>?_⟩
  ·simp only [AObj.ids] at hi
   obtain ⟨c,hc,hi⟩:=AV.mem_idsL.1 hi;simp only [au] at hc
   have old:c ∈ cs->i < S.n:=fun hc=>bm fun hn=>(hS i hn).2.2.1 id _ hh (by simp only [AObj.ids];exact AV.mem_idsL.2 ⟨c,hc,hi⟩)
   rcases hc with (hc|hc)|hc
   ·exact old (aY hc)
   ·exact hvi c hc i hi
   ·exact old (aW hc)
  ·have h1:=hxe F S2 a w ρ own _ hag H
   have h2:=hve F S2 a w ρ own _ hag H;obtain ⟨h3,h4⟩:=Qy (by rw [hnew];exact hall) h2
   rw [hnew] at h3 h4;have h5:=H.obj id _ hob
   generalize hv:a.eval x=vx at h1;cases h1 with
   |@ptr _ _ b e =>
    rw [e] at h5 ⊢;cases h5 with
    |@cells _ _ T vs g1 g2 g3 =>
     have hone:∀ u ∈ (a.eval v).cells.toList,u.oneCell'=true:=fun u hu=>by
      obtain ⟨j,hj⟩:=bN hu;have hlt:=(aq.1 hj).1
      have hj':(a.eval v).cells[j]?=some u:=by simpa using hj
      have:=(h4 j _ (al (show j < new.length by simp at hlt;omega))).2
      simpa [hj'] using this
     have hr:=run w b off T vs _ (a.eval v) g1 rfl (by omega) (by omega) hone
     have hrun:(execOp a.eval o).run P w=.ok .skip (w.setRow b (vs.toList.take off++(a.eval v).cells.toList++vs.toList.drop (off+(a.eval v).cells.toList.length)).toArray):=by
      simp only [execOp,ho,hv,Instr.storeAt,Instr.sureAddr,aH,aL,aJ,hr]
     refine ⟨_,hrun,Ext.setRow _ _ _ (by simp [blk]), ?_⟩
     have hfit':off+(a.eval v).cells.toList.length<=vs.toList.length:=by simp;omega
     refine .cells (setRow_heap w b vs _ T _ g1) ?_ fun j c hc=>?_
     ·rw [qK hfit,cd,qK hfit',ba,g2]
     ·rw [zI hfit] at hc
      have hget:((vs.toList.take off++(a.eval v).cells.toList++vs.toList.drop (off+(a.eval v).cells.toList.length)).toArray).getD j undef =
        if j < off then vs.getD j undef else if j < off+new.length then (a.eval v).cells.getD (j - off) undef else vs.getD j undef:=by
       have e1:=zI (i:=j) hfit';rw [bG,cu,e1]
       simp only [ba,h3];split
       ·simp [bG]
       ·split <;> simp [bG]
      rw [hget];have hmono:∀ {c u},ARel w (okB w own ρ S2.h) ρ F.y c u->ARel (w.setRow b (vs.toList.take off++(a.eval v).cells.toList++vs.toList.drop (off+(a.eval v).cells.toList.length)).toArray) (okB w own ρ S2.h) ρ F.y c u:=fun hr =>
       hr.mono (fun q hq=>⟨hq,setRow_other w b q _ (fun eq=>hq.2.2 id _ hob (by rw [e];simp [blk,eq]))⟩) (fun _ _=>rfl)
      split
      ·rename_i hj;rw [if_pos hj] at hc;exact ⟨hmono (g3 j c hc).1,(g3 j c hc).2⟩
      ·rename_i hj
       rw [if_neg hj] at hc;split
       ·rename_i hj2;rw [if_pos hj2] at hc;exact ⟨hmono (h4 _ c hc).1,(h4 _ c hc).2⟩
       ·rename_i hj2;rw [if_neg hj2] at hc;exact ⟨hmono (g3 j c hc).1,(g3 j c hc).2⟩
 case rp id k m off =>
  obtain ⟨e,k',xs,hh,rfl,ds,hds,hfit,hm,hK⟩:=h;refine ⟨_,_,hK,VE.setObj hS hw (by simp [ho]) hh (by simp) (by simp [AObj.ids]) fun F S2 a w ρ own hag H hob=>?_⟩
  have h1:=hxe F S2 a w ρ own _ hag H;have h2:=hve F S2 a w ρ own _ hag H
  obtain ⟨h3,h4⟩:=Qy (by rw [hnew];exact hall) h2
  rw [hnew] at h3 h4;have h5:=H.obj id _ hob
  generalize hv:a.eval x=vx at h1;cases h1 with
  |@rp _ _ _ _ b n cap eρ =>
   rw [eρ] at h5 ⊢;cases h5 with
   |@row _ _ _ _ flat r1 r2 r3 r4 =>
    obtain ⟨_,g,cap',cur,hx0,hg,hnc,hcm,hcs,htake,hbk⟩:=wO r3 (by omega)
    ·simp only [Value.slice.injEq,ak,Addr.mk.injEq,and_true] at hx0
     obtain ⟨rfl,rfl,rfl⟩:=hx0;obtain ⟨hdl,hdg⟩:=YZ hds
     have hone:∀ u ∈ (a.eval v).cells.toList,u.oneCell'=true:=fun u hu=>by
      obtain ⟨j,hj⟩:=bN hu;have hlt:=(aq.1 hj).1
      have hj':(a.eval v).cells[j]?=some u:=by simpa using hj
      have:=(h4 j _ (al (show j < new.length by simp at hlt;omega))).2
      simpa [hj'] using this
     have hxl:∀ (q:Nat) (r:List DV),xs[q]?=some r->r.length=k':=fun q r hq=>r2 r (ao hq)
     have hml:xs[m].length=k':=hxl m _ (al hm);have hspace:m * k'+off+(a.eval v).cells.size<=cur.size:=by
      rw [hcs,h3,hdl];have:(m+1) * k'<=cap * k':=aG _ (by omega)
      rw [aE] at this;omega
     have hr:=run w b (m * k'+off) e cur _ (a.eval v) hg rfl (by omega) hspace hone
     have hrun:(execOp a.eval o).run P w=.ok .skip (w.setRow b (cur.toList.take (m * k'+off)++(a.eval v).cells.toList++cur.toList.drop (m * k'+off+(a.eval v).cells.toList.length)).toArray):=by
      simp only [execOp,ho,hv,Instr.storeAt,Instr.sureAddr,aH,aL,aJ,hr]
     refine ⟨_,hrun,Ext.setRow _ _ _ (by simp [blk];omega), ?_⟩
     have hfit':m * k'+off+(a.eval v).cells.toList.length<=cur.toList.length:=by simpa using hspace
     have hcap:cap ≠ 0:=by omega
     have hmono:∀ {d u},DRel w (okB w own ρ S2.h) d u->DRel (w.setRow b (cur.toList.take (m * k'+off)++(a.eval v).cells.toList++cur.toList.drop (m * k'+off+(a.eval v).cells.toList.length)).toArray) (okB w own ρ S2.h) d u:=fun hr =>
      hr.mono (fun q hq=>⟨hq,setRow_other w b q _ (fun eq=>hq.2.2 id _ hob (by rw [eρ];simp [blk,eq,hcap]))⟩)
     have hrl:((xs[m].take off++ds++xs[m].drop (off+ds.length))).length=k':=by rw [qK (by omega),hml]
     have hlenxs:(xs.set m (xs[m].take off++ds++xs[m].drop (off+ds.length))).length=xs.length:=by simp
     refine .row (flat:=(cur.toList.take (m * k'+off)++(a.eval v).cells.toList++cur.toList.drop (m * k'+off+(a.eval v).cells.toList.length)).take (xs.length * k')) r1 (fun r hr'=>?_) (.inl ⟨?_,.inr ⟨b,cap,_, ?_,af _,setRow_heap w b cur _ e _ hg, ?_,hcm, ?_, ?_⟩⟩) fun q r j d hq hj=>?_
     ·rcases bV hr' with h|h
      ·exact r2 r h
      ·rw [h];exact hrl
     ·rw [bi,qK hfit',hlenxs]
      have:xs.length * k'<=cap * k':=aG _ hnc;simp only [ba,hcs]
      omega
     ·rw [hlenxs]
     ·rw [hlenxs];exact hnc
     ·rw [cd,qK hfit',ba,hcs]
     ·rw [hlenxs]
     ·rw [cO] at hq
      have hqlt:q < xs.length:=by
       by_cases hqm:m=q
       ·omega
       ·rw [if_neg hqm] at hq;exact (aq.1 hq).1
      have hjlt:j < k':=by
       have hjl:=(aq.1 hj).1
       by_cases hqm:m=q
       ·subst hqm;simp only [if_true,hm,ak] at hq;subst hq;omega
       ·rw [if_neg hqm] at hq;have:=hxl q r hq;omega
      have hin:q * k'+j < xs.length * k':=by
       have:(q+1) * k'<=xs.length * k':=aG _ hqlt;rw [aE] at this
       omega
      have oldu:∀ (d:DV),xs[q][j]?=some d->∃ u,cur.toList[q * k'+j]?=some u/\DRel w (okB w own ρ S2.h) d u:=fun d hd=>by
       obtain ⟨u,hu,hdu⟩:=r4 q _ j d (al hqlt) hd;rw [<- htake,aP,if_pos hin] at hu
       exact ⟨u,hu,hdu⟩
      rw [aP,if_pos hin,zI hfit']
      by_cases hqm:m=q
      ·subst hqm
       simp only [if_true,hm,ak] at hq;subst hq
       rw [zI (by omega)] at hj
       by_cases hj1:j < off
       ·rw [if_pos hj1] at hj
        rw [if_pos (by omega)]
        obtain ⟨u,hu,hdu⟩:=oldu d hj;exact ⟨u,hu,hmono hdu⟩
       ·rw [if_neg hj1] at hj
        rw [if_neg (by omega)]
        by_cases hj2:j < off+ds.length
        ·rw [if_pos hj2] at hj
         rw [if_pos (by simp;omega)]
         obtain ⟨c,hc,hcd⟩:=hdg _ d hj;have h6:=(h4 _ c hc).1
         have hlt:j - off < (a.eval v).cells.size:=by rw [h3];exact (aq.1 hc).1
         refine ⟨(a.eval v).cells[j - off],by rw [show m * k'+j - (m * k'+off)=j - off by omega];simp [hlt],hmono (Jf hcd (by simpa [hlt] using h6))⟩
        ·rw [if_neg hj2] at hj
         rw [if_neg (by simp;omega)]
         obtain ⟨u,hu,hdu⟩:=oldu d hj;exact ⟨u,hu,hmono hdu⟩
      ·rw [if_neg hqm] at hq
       have hqr:xs[q]=r:=by rw [al hqlt] at hq;exact Option.some.inj hq
       subst hqr;obtain ⟨u,hu,hdu⟩:=oldu d hj
       have hout:q * k'+j < m * k'+off\/¬ (q * k'+j < m * k'+off+ds.length):=by
        rcases bK q m with h|h
        ·left
         have:(q+1) * k'<=m * k':=aG _ h;rw [aE] at this;omega
        ·right
         have:(m+1) * k'<=q * k':=aG _ (by omega)
         rw [aE] at this;omega
       rcases hout with h|h
       ·rw [if_pos h];exact ⟨u,hu,hmono hdu⟩
       ·rw [if_neg (by omega),if_neg (by simp;omega)];exact ⟨u,hu,hmono hdu⟩
 all_goals exact h.elim
def zV (dead:Option Nat):List (Nat × Option AObj):=match dead with|some i=>[(i,none)]|none=>[]
def VE.newRow {ops:Array Oper} {o:Oper} {S:St} {e:TypeId} {k:Nat} {xs:List (List DV)} {dead:Option Nat} {hr:List Nat} (hS:Wf S) (hw:Want ops o S) (hd:∀ c,o.op ≠ .defer c)
  (hdead:∀ i,dead=some i->i ∈ hr/\∃ ob,S.h i=some ob)
  (h:∀ F S2 a w ρ own,Agree ops o { av:=.row S.n,hw:=zV dead++[(S.n,some (.row e k xs))],hr:=hr,news:=[S.n],n:=S.n+1 } S S2->Holds F S2 a w ρ own ->
   ∃ v' w',(execOp a.eval o).run P w=.ok (.value v') w'/\Ext (fun b=>∃ i,dead=some i/\blk (ρ i)=some b) w w'/\v'.oneCell'=true/\ORel w' (okB w own ρ S2.h) ρ F.y (.row e k xs) v' /\
    ∀ b,blk v'=some b->w.heap.size<=b\/∃ i,dead=some i/\blk (ρ i)=some b) :
  VE A P ops o { av:=.row S.n,hw:=zV dead++[(S.n,some (.row e k xs))],hr:=hr,news:=[S.n],n:=S.n+1 } S:=by
 have hdlt:∀ i,dead=some i->i < S.n:=fun i hi=>bm fun hn=>by
  obtain ⟨_,ob,hob⟩:=hdead i hi;have:=(hS i hn).1;rw [hob] at this;cases this
 have hI:∀ id ∈ Eff.ids { av:=.row S.n,hw:=zV dead++[(S.n,some (.row e k xs))],hr:=hr,news:=[S.n],n:=S.n+1 },id < S.n+1:=by
  intro id hid;cases dead with
  |none =>
   simp [Eff.ids,AV.ids,zM,zV,AObj.ids] at hid
   omega
  |some i =>
   have:=hdlt i rfl
   simp [Eff.ids,AV.ids,zM,zV,AObj.ids] at hid
   omega
 have hkeys:∀ i,i ∈ Eff.keys { av:=.row S.n,hw:=zV dead++[(S.n,some (.row e k xs))],hr:=hr,news:=[S.n],n:=S.n+1 } ↔ dead=some i\/i=S.n:=by
  intro i;cases dead <;> simp [Eff.keys,zV,eq_comm]
 have hupdn:∀ (hp:Nat->Option AObj),ze hp (zV dead++[(S.n,some (.row e k xs))]) S.n=some (.row e k xs):=fun hp=>by
  cases dead <;> simp [zV,ze,upd_same]
 have hupdd:∀ (hp:Nat->Option AObj) i,dead=some i->ze hp (zV dead++[(S.n,some (.row e k xs))]) i=none:=fun hp i hi=>by
  have hlt:=hdlt i hi;subst hi
  simp [zV,ze,upd,Nat.ne_of_lt hlt]
 refine ⟨fun F hF hds S2 a w hag hfr ⟨ρ,own,H⟩=>?_,hI,by simp⟩
 rw [wN hw hag H,if_pos rfl];obtain ⟨v',w',hrun,hx,h1,horel,hblk⟩:=h F S2 a w ρ own hag H
 refine wP hd hrun (jf (ρ':=upd ρ S.n v') (own':=own) ?_)
 have hdob:∀ i,dead=some i->∃ ob,S2.h i=some ob:=fun i hi=>by
  obtain ⟨hm,ob,hob⟩:=hdead i hi;exact ⟨ob,(hag.2.1 i hm).trans hob⟩
 have hno:∀ b i,dead=some i->own.all b->blk (ρ i) ≠ some b:=fun b i hi ho hb=>by
  obtain ⟨ob,hob⟩:=hdob i hi;exact (H.blkOK i ob b hob hb).1 ho
 have hj:F.J S2.j own w':=(F.stable _ _ _ H.jay).2 _ (hx.weaken fun b _ ⟨i,hi,hb⟩ ho=>hno b i hi ho hb)
 have hok:∀ b,okB w own ρ S2.h b->okB w' own (upd ρ S.n v') (ze S2.h (zV dead++[(S.n,some (.row e k xs))])) b/\w'.heap[b]?=w'.heap[b]?:=by
  rintro b ⟨g1,g2,g3⟩;refine ⟨⟨aN g1 hx.size,g2,fun i ob hi hb=>?_⟩,rfl⟩
  by_cases hin:i=S.n
  ·subst hin
   rw [upd_same] at hb
   rcases hblk b hb with h|⟨i,hi',hb'⟩
   ·omega
   ·obtain ⟨ob',hob'⟩:=hdob i hi'
    exact g3 i ob' hob' hb'
  ·by_cases hid:dead=some i
   ·rw [hupdd _ i hid] at hi;cases hi
   ·rw [zm (by rw [show List.map (fun x=>x.1) (zV dead++[(S.n,some (.row e k xs))])=Eff.keys { av:=.row S.n,hw:=zV dead++[(S.n,some (.row e k xs))],hr:=hr,news:=[S.n],n:=S.n+1 } from rfl,hkeys];rintro (h|h);exact hid h;exact hin h)] at hi
    rw [upd_ne _ _ _ _ hin] at hb;exact g3 i ob hi hb
 refine H.app (vI hds) hj (hx.weaken fun b _ ⟨i,hi,hb⟩=>.inr (by obtain ⟨ob,hob⟩:=hdob i hi;exact ⟨i,ob,(hkeys i).2 (.inl hi),hob,hb⟩)) (.inl rfl) (fun i hi=>(hkeys i).2 (.inr (by simpa using hi))) (fun i hi=>upd_ne _ _ _ _ (by simpa using hi)) (by simpa using hfr)
  (.row (upd_same _ _ _) h1) ?_ ?_ ?_ .nil
 ·intro i ob hi hob
  rcases (hkeys i).1 hi with hi|rfl
  ·rw [hupdd _ i hi] at hob;cases hob
  ·rw [hupdn] at hob
   cases hob;rw [upd_same]
   refine ⟨horel.mono hok (fun _ _=>rfl) (by simp [AObj.ids]),fun b hb=>?_⟩
   rcases hblk b hb with h|⟨i,hi,hb'⟩
   ·exact ⟨fun ho=>by have:=(F.stable _ _ _ H.jay).1 _ ho;omega,.inl h⟩
   ·obtain ⟨ob',hob'⟩:=hdob i hi
    exact ⟨fun ho=>hno b i hi ho hb',.inr ⟨i,ob',(hkeys i).2 (.inl hi),hob',hb'⟩⟩
 ·intro i q o1 o2 b hi hq ho1 ho2 _ _
  rcases (hkeys i).1 hi with hi|rfl
  ·rw [hupdd _ i hi] at ho1;cases ho1
  ·rcases (hkeys q).1 hq with hq|rfl
   ·rw [hupdd _ q hq] at ho2;cases ho2
   ·rfl
 ·intro id hid
  exact aN (hI id hid) (bD _ _)
def KX (S:St) (K:List (List DV)->List Nat->Prop):AV->Prop
 |.nil=>K [] []
 |.emp=>K [] []
 |.sl xs=>K xs []
 |.row id=>RF (S.h id) fun _ _ xs=>K xs [id]
 |_=>False
def QbY {i j k:Nat} (h:j < k):(i * k+j) / k=i/\(i * k+j) % k=j:=by
 constructor
 ·rw [bW,Nat.mul_add_div (by omega),Nat.div_eq_of_lt h];omega
 ·rw [bW,Nat.mul_add_mod,cv h]
structure Src (w:World) (ok:Nat->Prop) (k:Nat) (xs:List (List DV)) (x:Value) (flat:List Value):Prop where
 shape:∃ a c,x=.slice a xs.length c/\xs.length<=c/\c<=maxLen/\(0 < xs.length->∃ ad,a=some ad/\∀ (j:Nat) u,flat[j]?=some u->w.cell? (ad.add j)=some u)
 len:flat.length=xs.length * k
 one:∀ u ∈ flat,u.oneCell'=true
 rel:∀ (i:Nat) (r:List DV) (j:Nat) (d:DV),xs[i]?=some r->r[j]?=some d->∃ u,flat[i * k+j]?=some u/\DRel w ok d u
def K4 {w:World} {ok:Nat->Prop} {k:Nat} (hk:0 < k) {xs:List (List DV)} {x:Value} (hlen:∀ r ∈ xs,r.length=k) (h:DRel w ok (.sl xs) x):∃ flat,Src w ok k xs x flat:=by
 cases h with
 |sl0 hc=>exact ⟨[],⟨_,_,rfl,by simp,hc,fun h=>absurd h (by simp)⟩,by simp,by simp,by simp⟩
 |@sl _ kk ad n c f e1 e2 e3 e4 e5 e6 e7 e8 e9 =>
  have hkk:kk=k:=by
   have h0:0 < xs.length:=by omega
   have h1:=e6 0 _ (al h0);have h2:=hlen _ (bF h0)
   omega
  subst hkk;refine ⟨(List.range (xs.length * kk)).map fun q=>f (q / kk) (q % kk),⟨some ad,c,by rw [e1],by omega,e4,fun _=>⟨ad,rfl,fun j u hu=>?_⟩⟩,by simp,fun u hu=>?_,fun i r j d hi hj=>?_⟩
  ·obtain ⟨hj,rfl⟩:=(jQ _ _ _ _).1 hu
   have hi:j / kk < xs.length:=dP (by rw [bW];exact hj)
   have hr:=al hi;have hl:=e6 _ _ hr
   have hm:j % kk < (xs[j / kk]).length:=by rw [hl];exact ce _ hk
   have:=e7 _ _ _ _ hr (al hm);rw [show j / kk * kk+j % kk=j by rw [bW];exact Nat.div_add_mod _ _] at this
   exact this
  ·obtain ⟨j,hju⟩:=bN hu
   obtain ⟨hj,rfl⟩:=(jQ _ _ _ _).1 hju;have hi:j / kk < xs.length:=dP (by rw [bW];exact hj)
   have hr:=al hi;have hl:=e6 _ _ hr
   have hm:j % kk < (xs[j / kk]).length:=by rw [hl];exact ce _ hk
   exact ((e8 _ _ _ _ hr (al hm)).av (ρ:=fun _=>undef) (y:=undef)).2
  ·have hjk:j < kk:=by have:=e6 _ _ hi;have:=(aq.1 hj).1;omega
   obtain ⟨d1,d2⟩:=QbY (i:=i) hjk;refine ⟨f i j,(jQ _ _ _ _).2 ⟨?_,by rw [d1,d2]⟩,e8 _ _ _ _ hi hj⟩
   have hil:=(aq.1 hi).1;have:(i+1) * kk<=xs.length * kk:=aG _ hil
   rw [aE] at this;omega
def JH {w:World} {ok:Nat->Prop} {ρ:Nat->Value} {y:Value} {e:TypeId} {k:Nat} {xs:List (List DV)} {x:Value} (h:ORel w ok ρ y (.row e k xs) x):∃ flat,Src w ok k xs x flat:=by
 cases h with
 |@row _ _ _ _ flat r1 r2 r3 r4 =>
  by_cases hn:xs.length=0
  ·have:xs=[]:=bu hn
   subst this;refine ⟨[], ?_,by simp,by simp,by simp⟩
   rcases r3 with r3|⟨_,_,a,rfl⟩
   ·rcases r3.2 with ⟨rfl,_⟩|⟨g,cap,cur,rfl,_,_,hnc,hcm,_⟩
    ·exact ⟨_,_,rfl,by simp,af _,fun h=>absurd h (by simp)⟩
    ·exact ⟨_,_,rfl,by simp,hcm,fun h=>absurd h (by simp)⟩
   ·exact ⟨_,_,rfl,by simp,af _,fun h=>absurd h (by simp)⟩
  ·obtain ⟨hown,g,cap,cur,rfl,hg,hnc,hcm,hcs,htk,hb⟩:=wO r3 (by omega)
   refine ⟨flat,⟨_,_,rfl,hnc,hcm,fun _=>⟨_,rfl,hown.cells (g:=g) rfl⟩⟩,hown.1,fun u hu=>?_,r4⟩
   obtain ⟨j,hju⟩:=bN hu;have hjl:=(aq.1 hju).1
   rw [hown.1] at hjl;have hi:j / k < xs.length:=dP (by rw [bW];exact hjl)
   have hr:=al hi;have hl:=r2 _ (bF hi)
   have hm:j % k < (xs[j / k]).length:=by rw [hl];exact ce _ r1
   obtain ⟨u',hu',hd⟩:=r4 _ _ _ _ hr (al hm);rw [show j / k * k+j % k=j by rw [bW];exact Nat.div_add_mod _ _,hju] at hu'
   cases hu';exact (hd.av (ρ:=fun _=>undef) (y:=undef)).2
def QkX {F:Frm} {S S2:St} {a:Act} {w:World} {ρ:Nat->Value} {own:Own} (H:Holds F S2 a w ρ own) {k:Nat} (hk:0 < k) {xs:List (List DV)} {hr:List Nat} {c:AV} (hlen:∀ r ∈ xs,r.length=k)
  (he:∃ K:List (List DV)->List Nat->Prop,KX S K c/\∀ ys hr',K ys hr'->ys=xs/\hr'=hr) (hag:∀ id ∈ hr,S2.h id=S.h id) {x:Value} (h:ARel w (okB w own ρ S2.h) ρ F.y c x):∃ flat,Src w (okB w own ρ S2.h) k xs x flat:=by
 obtain ⟨K,he,hK⟩:=he;cases c <;> simp only [KX] at he
 case nil=>obtain ⟨rfl,_⟩:=hK _ _ he;cases h;exact K4 hk hlen (.sl0 (af _))
 case emp=>obtain ⟨rfl,_⟩:=hK _ _ he;cases h;exact K4 hk hlen (.sl0 (af _))
 case sl ys=>obtain ⟨rfl,_⟩:=hK _ _ he;cases h with|sl h=>exact K4 hk hlen h
 case row id =>
  obtain ⟨e,k',ys,hh,hk'⟩:=he;obtain ⟨rfl,rfl⟩:=hK _ _ hk'
  have ho:=H.obj id _ ((hag id (by simp)).trans hh)
  cases h with
  |row e1 e2 =>
   rw [e1] at ho;obtain ⟨flat,hs⟩:=JH ho
   by_cases hkk:k'=k
   ·subst hkk;exact ⟨flat,hs⟩
   ·
    have hn:ys.length=0:=by
     cases ho with
     |row r1 r2 _ _ =>
      refine Classical.byContradiction fun hn=>hkk ?_
      have h0:0 < ys.length:=by omega
      exact (r2 _ (bF h0)).symm.trans (hlen _ (bF h0))
    have:ys=[]:=bu hn;subst this
    obtain ⟨a0,c0,hx,h1,h2,_⟩:=hs.shape;exact ⟨[],⟨a0,c0,hx,h1,h2,fun h=>absurd h (by simp)⟩,by simp,by simp,by simp⟩
 all_goals exact he.elim
def WJ {t ty e:TypeId} (ht:P.underlying t=some (.slice e)) {i:TI} (hi:TyFact P e i) (w:World) (b:Option Addr) (n cap:Nat) (hn:n<=cap) (x:Option Addr) (c:Nat) :
  (Builtin.append_ #[t,t] ty #[.slice b n cap,.slice x 0 c]).run P w=.ok (.slice b n cap) w:=by
 have hz:∀ w,(Builtin.firstCells i.cells 0 (.slice x 0 c)).run P w=.ok #[] w:=fun w=>by
  cases x <;> simp [Builtin.firstCells,loadCells,loadCellsFrom]
 cases b <;> simp [Builtin.append_,run_underlying ht,hi.run_sizeOf,Builtin.lenOf,hn,hz,storeCells]
structure Dst (w:World) (ok:Nat->Prop) (e:TypeId) (k:Nat) (xs:List (List DV)) (v:Value):Prop where
 own:∃ flat,YJ w e k v xs.length flat/\∀ (i:Nat) (r:List DV) (j:Nat) (d:DV),xs[i]?=some r->r[j]?=some d->∃ u,flat[i * k+j]?=some u/\DRel w ok d u
def RA {v:Value} {b:Nat} (h:v.ownBlock=some b):(∃ a n,v=.slice (some a) n 0/\a.block=b)\/blk v=some b:=by
 cases v <;> simp [Value.ownBlock] at h
 rename_i a n c;cases a with
 |none=>simp at h
 |some a =>
  simp only [ak] at h;subst h
  by_cases hc:c=0
  ·subst hc;exact .inl ⟨a,n,rfl,rfl⟩
  ·exact .inr (by simp [blk,hc])
def QhU {w:World} {ok:Nat->Prop} {k:Nat} {xs ys:List (List DV)} {fx fy:List Value} (hx:fx.length=xs.length * k) (hylen:∀ r ∈ ys,r.length=k)
  (h1:∀ (i:Nat) (r:List DV) (j:Nat) (d:DV),xs[i]?=some r->r[j]?=some d->∃ u,fx[i * k+j]?=some u/\DRel w ok d u)
  (h2:∀ (i:Nat) (r:List DV) (j:Nat) (d:DV),ys[i]?=some r->r[j]?=some d->∃ u,fy[i * k+j]?=some u/\DRel w ok d u) :
  ∀ (i:Nat) (r:List DV) (j:Nat) (d:DV),(xs++ys)[i]?=some r->r[j]?=some d->∃ u,(fx++fy)[i * k+j]?=some u/\DRel w ok d u:=by
 intro i r j d hi hj
 by_cases hlt:i < xs.length
 ·rw [bp hlt] at hi
  obtain ⟨u,hu,hd⟩:=h1 i r j d hi hj;exact ⟨u,by rw [bp (aq.1 hu).1];exact hu,hd⟩
 ·rw [bv (by omega)] at hi
  obtain ⟨u,hu,hd⟩:=h2 _ r j d hi hj;have e:i * k+j - fx.length=(i - xs.length) * k+j:=by
   have:i * k=(i - xs.length) * k+xs.length * k:=by rw [<- aE];congr 1;omega
   omega
  have hge:fx.length<=i * k+j:=by
   have:xs.length * k<=i * k:=aG _ (by omega)
   omega
  exact ⟨u,by rw [bv hge,e];exact hu,hd⟩
def kJ {t ty e:TypeId} (ht:P.underlying t=some (.slice e)) {i:TI} (hi:TyFact P e i) (hk:0 < i.cells) {w:World} {ok:Nat->Prop} {xs ys:List (List DV)} {v x:Value} {flat:List Value}
  (hxs:∀ r ∈ xs,r.length=i.cells) (hys:∀ r ∈ ys,r.length=i.cells) (hd:Dst w ok e i.cells xs v) (hs:Src w ok i.cells ys x flat) (hbytes:(xs.length+ys.length) * i.bytes<=140737488355328) (hmax:xs.length+ys.length<=maxLen) :
  ∃ v' w',(Builtin.append_ #[t,t] ty #[v,x]).run P w=.ok v' w'/\Ext (fun b=>blk v=some b) w w'/\v'.oneCell'=true/\(∀ b,blk v'=some b->w.heap.size<=b\/blk v=some b) /\
   ∃ flat',YJ w' e i.cells v' (xs++ys).length flat'/\∀ (q:Nat) (r:List DV) (j:Nat) (d:DV),(xs++ys)[q]?=some r->r[j]?=some d->∃ u,flat'[q * i.cells+j]?=some u/\DRel w ok d u:=by
 obtain ⟨fx,hown,hrel⟩:=hd.own;obtain ⟨ax,cx,rfl,hcx,hcm,hcell⟩:=hs.shape
 obtain ⟨inf,z,hinf,hsz,hby,hz,_,hzs,_⟩:=hi.info
 by_cases hy:ys.length=0
 ·
  have hy0:ys=[]:=bu hy;subst hy0
  have:∃ b n cap,v=.slice b n cap/\n<=cap/\n=xs.length:=by
   rcases hown with h|⟨h0,_,a,rfl⟩
   ·rcases h.2 with ⟨rfl,h0⟩|⟨g,cap,cur,rfl,_,_,hnc,_⟩
    ·exact ⟨_,_,_,rfl,ag _,h0.symm⟩
    ·exact ⟨_,_,_,rfl,hnc,rfl⟩
   ·exact ⟨_,_,_,rfl,ag _,h0.symm⟩
  obtain ⟨b,n,cap,rfl,hnc,rfl⟩:=this;refine ⟨_,w,WJ ht hi w b _ cap hnc ax cx,Ext.refl _ _,rfl,fun b hb=>.inr hb,fx,by simpa using hown,by simpa using hrel⟩
 ·obtain ⟨ad,rfl,hcells⟩:=hcell (by omega)
  have grow:∀ (b:Option Addr) (n cap:Nat),v=.slice b n cap->cap=0->n=0->xs=[]->∃ v' w',(Builtin.append_ #[t,t] ty #[v,.slice (some ad) ys.length cx]).run P w=.ok v' w'/\Ext (fun _=>False) w w'/\v'.oneCell'=true/\blk v'=some w.heap.size/\w'.ownsRow 0 e i.cells v' ys.length flat:=by
   rintro b n cap rfl rfl rfl rfl;have hlen:flat.length=ys.length * inf.size:=by rw [hsz];exact hs.len
   cases b with
   |none =>
    have hr:=run_append_nil (P:=P) w t ty e inf z ht hinf hz ad ys.length cx flat hlen hcells (by omega) (by simp only [maxLen] at hmax;omega) (by rw [hby];have hb':=hbytes;simp only [cm,bE] at hb';omega)
    have hge:=grownCap_ge w ys.length 0 e;refine ⟨_,_,hr,⟨rfl,rfl,rfl,by simp,fun k hk _=>heap_alloc_old (h:=hk) ..⟩,rfl,by simp only [blk];rw [if_neg (by omega)], ?_,.inr ⟨w.heap.size,_,_,rfl,af _,heap_alloc_new w.drew _,hge,grownCap_le_maxLen w _ _ e (by simpa using hmax), ?_, ?_⟩⟩
    ·exact hs.len
    ·simp only [Array.size_append,cd,size_zeroCells,hzs,hs.len,<- aE]
     congr 1;omega
    ·simp only [Array.toList_append,<- hs.len];exact List.take_left
   |some b =>
    have hr:=run_append_grow (P:=P) w t ty e inf z ht hinf hz b 0 0 [] (by simp) (by simp) ad ys.length cx flat hlen hcells (by omega) (by simp only [maxLen] at hmax;omega) (growslice_fits (by omega) (by rw [hby];simpa using hbytes))
    have hge:=grownCap_ge w (0+ys.length) 0 e;simp only [bE] at hr hge
    refine ⟨_,_,hr,⟨rfl,rfl,rfl,by simp,fun k hk _=>heap_alloc_old (h:=hk) ..⟩,rfl,by simp only [blk];rw [if_neg (by omega)], ?_,.inr ⟨w.heap.size,_,_,rfl,af _,heap_alloc_new w.drew _,hge,grownCap_le_maxLen w _ _ e (by simpa using hmax), ?_, ?_⟩⟩
    ·exact hs.len
    ·simp only [Array.size_append,cd,size_zeroCells,hzs,hs.len,cm,bE,<- aE]
     congr 1;omega
    ·simp only [Array.toList_append,<- hs.len,bc];exact List.take_left
  by_cases hcap:∃ b n,v=.slice b n 0
  ·obtain ⟨b,n,rfl⟩:=hcap
   have hn:n=0/\xs=[]:=by
    rcases hown with h|⟨h0,_,a,h⟩
    ·rcases h.2 with ⟨h1,h0⟩|⟨g,cap,cur,h1,_,_,hnc,_⟩
     ·simp at h1;exact ⟨h1.2,bu h0⟩
     ·simp only [Value.slice.injEq] at h1
      obtain ⟨_,rfl,rfl⟩:=h1;exact ⟨cJ.1 hnc,bu (cJ.1 hnc)⟩
    ·simp at h;exact ⟨h.2,bu h0⟩
   obtain ⟨rfl,rfl⟩:=hn;obtain ⟨v',w',hr,hx,h1,hb,ho⟩:=grow b 0 0 rfl rfl rfl rfl
   refine ⟨v',w',hr,hx.weaken fun _ _ h=>h.elim,h1,fun b' hb'=>.inl (by rw [hb] at hb';cases hb';exact ag _),flat,by rw [bc];exact .inl ho,by simpa using hs.rel⟩
  ·have hown':w.ownsRow 0 e i.cells v xs.length fx:=by
    rcases hown with h|⟨_,_,a,rfl⟩
    ·exact h
    ·exact absurd ⟨a,0,rfl⟩ hcap
   obtain ⟨v',w',hr,ho,hg,_,hat⟩:=run_append_own_at (P:=P) w 0 t ty e inf z i.cells i.bytes ht hinf hz hsz hby hzs hk v xs.length fx hown' ad ys.length cx flat hs.len hcells hs.one hmax hbytes (af _);have hob:∀ b,v.ownBlock=some b->blk v=some b:=fun b hb=>by
    rcases RA hb with ⟨a,n,h,_⟩|h
    ·exact absurd ⟨_,n,h⟩ hcap
    ·exact h
   have hone:v'.oneCell'=true:=by
    rcases ho.2 with ⟨rfl,_⟩|⟨_,_,_,rfl,_⟩ <;> rfl
   have hb2:∀ b,blk v'=some b->v'.ownBlock=some b:=fun b hb=>by
    rcases ho.2 with ⟨rfl,_⟩|⟨_,c,_,rfl,_⟩
    ·simp [blk] at hb
    ·simp only [blk] at hb;split at hb
     ·cases hb
     ·exact hb
   refine ⟨v',w',hr,Ext.grown hg fun k hk=>hob k hk,hone,fun b hb=>?_,fx++flat,.inl (by simpa using ho),QhU hown'.1 hys hrel hs.rel⟩
   have:=hb2 b hb
   rcases hat with h|h
   ·rw [h] at this;exact .inr (hob b this)
   ·rw [h] at this;cases this;exact .inl (ag _)
def dstA (S:St) (e:TypeId) (k:Nat) (K:List (List DV)->Option Nat->Prop):AV->Prop
 |.nil=>K [] none
 |.emp=>K [] none
 |.row id=>RF (S.h id) fun e' k' xs=>e'=e/\k'=k/\K xs (some id)
 |_=>False
def xw (dead:Option Nat):List Nat:=match dead with|some i=>[i]|none=>[]
def Qd3 {ops:Array Oper} {o:Oper} {S:St} (hS:Wf S) (hw:Want ops o S) {t e:TypeId} {x y:Operand} (ho:o.op=.call { callee:=.builtin .append,args:=#[x,y],argTypes:=#[t,t] }) {it i:TI} (ht:TyFact P t it) (htd:it.td=.slice e) (hi:TyFact P e i) (hk:0 < i.cells)
  {xs ys:List (List DV)} {dead:Option Nat} {hr:List Nat} (hx:dstA S e i.cells (fun zs d=>zs=xs/\d=dead) (ev S x)) (hy:KX S (fun zs h=>zs=ys/\h=hr) (ev S y)) (hne:∀ d,dead=some d->d ∉ hr) (hxl:∀ r ∈ xs,r.length=i.cells) (hyl:∀ r ∈ ys,r.length=i.cells) (hb:(xs.length+ys.length) * i.bytes<=140737488355328) (hm:xs.length+ys.length<=maxLen) :
  VE A P ops o { av:=.row S.n,hw:=zV dead++[(S.n,some (.row e i.cells (xs++ys)))],hr:=xw dead++hr,news:=[S.n],n:=S.n+1 } S:=by
 obtain ⟨d,hd,hok⟩:=ht.under;rw [htd] at hok
 simp only [TD.ok] at hok;subst hok
 have hdead:∀ j,dead=some j->j ∈ xw dead++hr/\∃ ob,S.h j=some ob:=by
  rintro j rfl;refine ⟨by simp [xw], ?_⟩
  generalize ev S x=c at hx;cases c <;> simp only [dstA] at hx <;> first|exact hx.elim|(simp at hx;done)|skip
  obtain ⟨_,_,_,hh,_,_,_,hd⟩:=hx;cases hd
  exact ⟨_,hh⟩
 refine VE.newRow hS hw (by simp [ho]) hdead fun F S2 a w ρ own hag H=>?_
 have h1:=qm H x;rw [hag.ev (x:=x) (by simp [ho,Op.operands,Call.operands])] at h1
 have h2:=qm H y;rw [hag.ev (x:=y) (by simp [ho,Op.operands,Call.operands])] at h2
 obtain ⟨flat,hs⟩:=QkX (S:=S) H hk hyl ⟨_,hy,fun _ _ h=>h⟩ (fun id hid=>hag.2.1 id (by simp [hid])) h2
 have hdst:Dst w (okB w own ρ S2.h) e i.cells xs (a.eval x)/\∀ b,blk (a.eval x)=some b->∃ j,dead=some j/\blk (ρ j)=some b:=by
  generalize ev S x=c at hx h1;cases c <;> simp only [dstA] at hx
  case nil=>obtain ⟨rfl,rfl⟩:=hx;generalize a.eval x=v at h1;cases h1;exact ⟨⟨[],.inl (World.ownsRow_nil _ _ _ _),by simp⟩,by simp [blk]⟩
  case emp=>obtain ⟨rfl,rfl⟩:=hx;generalize a.eval x=v at h1;cases h1 with|@emp q=>exact ⟨⟨[],.inr ⟨rfl,rfl,q,rfl⟩,by simp⟩,by cases q <;> simp [blk]⟩
  case row id =>
   obtain ⟨_,_,_,hh,rfl,rfl,rfl,rfl⟩:=hx;have hob:=H.obj id _ ((hag.2.1 id (by simp [xw])).trans hh)
   generalize a.eval x=v at h1;cases h1 with
   |row e1 _ =>
    rw [e1] at hob;cases hob with
    |row r1 r2 r3 r4=>exact ⟨⟨_,r3,r4⟩,fun b hb=>⟨id,rfl,by rw [e1];exact hb⟩⟩
  all_goals exact hx.elim
 obtain ⟨v',w',hrun,hxt,h1c,hbl,flat',hown',hrel'⟩:=kJ (ty:=o.type) hd hi hk hxl hyl hdst.1 hs hb hm;refine ⟨v',w', ?_,hxt.weaken fun b _ hb=>hdst.2 b hb,h1c, ?_,fun b hb'=>(hbl b hb').imp id (hdst.2 b)⟩
 ·unfold execOp
  simp only [ho,resolve,invoke,builtin,aH,aL,aJ,cg,aw,aX,hrun]
 ·refine .row hk (fun r hr'=>?_) hown' fun q r j d hq hj=>?_
  ·rcases au.1 hr' with h|h
   ·exact hxl r h
   ·exact hyl r h
  ·obtain ⟨u,hu,hdu⟩:=hrel' q r j d hq hj
   refine ⟨u,hu,hdu.mono fun b hb'=>⟨hb',hxt.block b hb'.1 fun hbx=>?_⟩⟩
   obtain ⟨j',hj',hbj⟩:=hdst.2 b hbx;obtain ⟨hmem,ob,hob⟩:=hdead j' hj'
   exact hb'.2.2 j' ob ((hag.2.1 j' hmem).trans hob) hbj
def VE.val1 {ops:Array Oper} {o:Oper} {S:St} {x:Operand} {u v:Value} (hw:Want ops o S) (hd:∀ c,o.op ≠ .defer c) (hm:x ∈ o.op.operands) (hx:ev S x=.v u) (h1:v.oneCell'=true)
  (h:∀ (a:Act) (w:World),a.eval x=u->(execOp a.eval o).run P w=.ok (.value v) w):VE A P ops o { av:=.v v,n:=S.n } S :=
 VE.val hw hd (by simp [AV.ids]) fun F S2 a w ρ own hag H=>by
  have e1:=qm H x;rw [hag.ev (x:=x) hm,hx] at e1
  exact ⟨v,w,h a w (qx e1).1,Ext.none w,.v h1⟩
def VE.val2 {ops:Array Oper} {o:Oper} {S:St} {x y:Operand} {u u' v:Value} (hw:Want ops o S) (hd:∀ c,o.op ≠ .defer c) (hm:x ∈ o.op.operands) (hm':y ∈ o.op.operands) (hx:ev S x=.v u) (hy:ev S y=.v u') (h1:v.oneCell'=true)
  (h:∀ (a:Act) (w:World),a.eval x=u->a.eval y=u'->(execOp a.eval o).run P w=.ok (.value v) w):VE A P ops o { av:=.v v,n:=S.n } S :=
 VE.val hw hd (by simp [AV.ids]) fun F S2 a w ρ own hag H=>by
  have e1:=qm H x;rw [hag.ev (x:=x) hm,hx] at e1
  have e2:=qm H y;rw [hag.ev (x:=y) hm',hy] at e2
  exact ⟨v,w,h a w (qx e1).1 (qx e2).1,Ext.none w,.v h1⟩
def QgE (op:BinOp) (k:IntKind) (a b:Int) (K:Value->Prop):Prop :=
 match op with
 |.add=>K (.int k (k.wrap (a+b)))
 |.sub=>K (.int k (k.wrap (a - b)))
 |.mul=>K (.int k (k.wrap (a * b)))
 |.quo=>b ≠ 0/\K (.int k (k.wrap (a.tdiv b)))
 |.rem=>b ≠ 0/\K (.int k (a.tmod b))
 |.and=>K (.int k (k.wrap (BitVec.ofInt k.bits a &&& BitVec.ofInt k.bits b).toNat))
 |.or=>K (.int k (k.wrap (BitVec.ofInt k.bits a ||| BitVec.ofInt k.bits b).toNat))
 |.xor=>K (.int k (k.wrap (BitVec.ofInt k.bits a ^^^ BitVec.ofInt k.bits b).toNat))
 |.andNot=>K (.int k (k.wrap (BitVec.ofInt k.bits a &&& ~~~(BitVec.ofInt k.bits b)).toNat))
 |.eql=>K (.bool (decide (a=b)))
 |.neq=>K (.bool (!decide (a=b)))
 |.lss=>K (.bool (decide (a < b)))
 |.leq=>K (.bool (decide (a<=b)))
 |.gtr=>K (.bool (decide (b < a)))
 |.geq=>K (.bool (decide (b<=a)))
 |.shl=>0<=b/\K (.int k (k.wrap (a * 2 ^ min b.toNat k.bits)))
 |.shr=>0<=b/\K (.int k (a.fdiv (2 ^ min b.toNat k.bits)))
def asInt (a:AV) (K:IntKind->Int->Prop):Prop:=∃ k n,a=.v (.int k n)/\K k n
def asBl (a:AV) (K:Bool->Prop):Prop:=∃ b,a=.v (.bool b)/\K b
def QfD {op:BinOp} {k:IntKind} {a b:Int} {K:Value->Prop} (h:QgE op k a b K):∃ v,K v/\v.oneCell'=true/\∀ t w,(binOp op t (.int k a) (.int k b)).run P w=.ok v w:=by
 cases op <;> simp only [QgE] at h
 case quo=>exact ⟨_,h.2,rfl,fun t w=>by simp [binOp,Op.intDiv,h.1]⟩
 case rem=>exact ⟨_,h.2,rfl,fun t w=>by simp [binOp,Op.intDiv,h.1]⟩
 case shl=>exact ⟨_,h.2,rfl,fun t w=>by simp [binOp,Op.shift,Int.not_lt.2 h.1]⟩
 case shr=>exact ⟨_,h.2,rfl,fun t w=>by simp [binOp,Op.shift,Int.not_lt.2 h.1]⟩
 case eql=>exact ⟨_,h,rfl,fun t w=>by simp [binOp,Op.intCmp,BEq.beq]⟩
 case neq=>exact ⟨_,h,rfl,fun t w=>by simp [binOp,Op.intCmp,bne,BEq.beq]⟩
 all_goals exact ⟨_,h,rfl,fun t w=>by simp [binOp,Op.intArith,Op.intBits,Op.intCmp]⟩
def Qdx (op:BinOp) (t:TypeId) (x y:Operand) (k:IntKind) (n:Int) (v:Value) (w:World):(eqGuard op t x y (.int k n) v).run P w=.ok () w:=by
 rw [eqGuard_at_int];rfl
def QbU {op:BinOp} (h:op=.shl\/op=.shr) (t:TypeId) (k k':IntKind) (a b:Int):binOp op t (.int k a) (.int k' b)=binOp op t (.int k a) (.int k b):=by
 rcases h with rfl|rfl <;> rfl
def Ws:BinOp->Bool
 |.shl=>true
 |.shr=>true
 |_=>false
def Qde {ops:Array Oper} {o:Oper} {S:St} (hw:Want ops o S) {op:BinOp} {t:TypeId} {x y:Operand} {c:TypeId} (ho:o.op=.binOp op t x y c) {k k':IntKind} {a b:Int} (hx:ev S x=.v (.int k a)) (hy:ev S y=.v (.int k' b)) (hk:(Ws op || k == k')=true)
  {K:Value->Prop} (h:QgE op k a b K):∃ v,K v/\VE A P ops o { av:=.v v,n:=S.n } S:=by
 obtain ⟨v,hK,h1,hr⟩:=QfD (P:=P) h;refine ⟨v,hK,VE.val2 hw (by simp [ho]) (by simp [ho,Op.operands]) (by simp [ho,Op.operands]) hx hy h1 fun ac w ex ey=>?_⟩
 have hb:(binOp op t (.int k a) (.int k' b)).run P w=.ok v w:=by
  by_cases hkk:k=k'
  ·subst hkk;exact hr t w
  ·have:op=.shl\/op=.shr:=by
    cases op <;> simp [Ws,hkk] at hk ⊢
   rw [QbU this];exact hr t w
 simp [execOp,ho,ex,ey,Qdx,hb]
def Qkc {ops:Array Oper} {o:Oper} {S:St} (hw:Want ops o S) {t:TypeId} {x:Operand} (ho:o.op=.unOp .not t x) {b:Bool} (hx:ev S x=.v (.bool b)):VE A P ops o { av:=.v (.bool (!b)),n:=S.n } S :=
 VE.val1 hw (by simp [ho]) (by simp [ho,Op.operands]) hx rfl fun ac w ex=>by simp [execOp,ho,ex,Op.unary]
def Qkl {ops:Array Oper} {o:Oper} {S:St} (hw:Want ops o S) {t:TypeId} {x:Operand} (ho:o.op=.unOp .neg t x) {k:IntKind} {n:Int} (hx:ev S x=.v (.int k n)):VE A P ops o { av:=.v (.int k (k.wrap (0 - n))),n:=S.n } S :=
 VE.val1 hw (by simp [ho]) (by simp [ho,Op.operands]) hx rfl fun ac w ex=>by simp [execOp,ho,ex,Op.unary,Op.intArith]
def Qbe {ops:Array Oper} {o:Oper} {S:St} (hw:Want ops o S) {s t:TypeId} {x:Operand} (ho:o.op=.convert s t x) {is it:TI} {k k':IntKind} {n:Int} (hs:TyFact P s is) (ht:TyFact P t it) (hti:it.td=.int k') (hx:ev S x=.v (.int k n)) :
  VE A P ops o { av:=.v (.int k' (k'.wrap n)),n:=S.n } S:=by
 obtain ⟨d,hd,_⟩:=hs.under;obtain ⟨d',hd',hok⟩:=ht.under
 rw [hti] at hok;simp only [TD.ok] at hok
 subst hok;exact VE.val1 hw (by simp [ho]) (by simp [ho,Op.operands]) hx rfl fun ac w ex=>by simp [execOp,ho,ex,convert,run_underlying hd,run_underlying hd',Conv.intToInt]
def eqB:List (Option IntKind)->List AV->List AV->(Bool->Prop)->Prop
 |[],[],[],K=>K true
 |some k :: ks,c :: cs,d :: ds,K=>asInt c fun k1 a=>asInt d fun k2 b=>k1=k/\k2=k/\eqB ks cs ds fun r=>K (decide (a=b) && r)
 |none :: ks,c :: cs,d :: ds,K=>asBl c fun a=>asBl d fun b=>eqB ks cs ds fun r=>K (a == b && r)
 |[],[],_ :: _,_=>False
 |[],_ :: _,_,_=>False
 |_ :: _,[],_,_=>False
 |_ :: _,_ :: _,[],_=>False
def V9 {w:World} {ok:Nat->Prop} {ρ:Nat->Value} {y:Value}:∀ {ks:List (Option IntKind)} {cs ds:List AV} {K:Bool->Prop} {xs zs:List Value},eqB ks cs ds K->xs.length=cs.length->zs.length=ds.length ->
  (∀ (i:Nat) (c:AV),cs[i]?=some c->ARel w ok ρ y c (xs.getD i undef))->(∀ (i:Nat) (c:AV),ds[i]?=some c->ARel w ok ρ y c (zs.getD i undef))->K (jG xs zs)/\qa ks xs/\qa ks zs
 |[],[],[],K,xs,zs,h,hx,hz,_,_=>by
  obtain rfl:=bu hx;obtain rfl:=bu hz
  exact ⟨h,trivial,trivial⟩
 |some k :: ks,c :: cs,d :: ds,K,xs,zs,h,hx,hz,rx,rz=>by
  cases xs with
  |nil=>simp at hx
  |cons x xs =>
   cases zs with
   |nil=>simp at hz
   |cons z zs =>
    obtain ⟨k1,a,rfl,k2,b,rfl,rfl,rfl,h⟩:=h;obtain ⟨h1,h2,h3⟩:=V9 (xs:=xs) (zs:=zs) h (by simpa using hx) (by simpa using hz) (fun i c hc=>by simpa using rx (i+1) c (by simpa using hc)) (fun i c hc=>by simpa using rz (i+1) c (by simpa using hc))
    have e1:x=_:=(qx (by simpa using rx 0 _ rfl)).1
    have e2:z=_:=(qx (by simpa using rz 0 _ rfl)).1
    subst e1 e2;exact ⟨by simpa [jG,veq,BEq.beq] using h1,⟨⟨_,rfl⟩,h2⟩,⟨⟨_,rfl⟩,h3⟩⟩
 |none :: ks,c :: cs,d :: ds,K,xs,zs,h,hx,hz,rx,rz=>by
  cases xs with
  |nil=>simp at hx
  |cons x xs =>
   cases zs with
   |nil=>simp at hz
   |cons z zs =>
    obtain ⟨a,rfl,b,rfl,h⟩:=h;obtain ⟨h1,h2,h3⟩:=V9 (xs:=xs) (zs:=zs) h (by simpa using hx) (by simpa using hz) (fun i c hc=>by simpa using rx (i+1) c (by simpa using hc)) (fun i c hc=>by simpa using rz (i+1) c (by simpa using hc))
    have e1:x=_:=(qx (by simpa using rx 0 _ rfl)).1
    have e2:z=_:=(qx (by simpa using rz 0 _ rfl)).1
    subst e1 e2;exact ⟨by simpa [jG,veq] using h1,⟨⟨_,rfl⟩,h2⟩,⟨⟨_,rfl⟩,h3⟩⟩
 |[],[],_ :: _,_,_,_,h,_,_,_,_=>h.elim
 |[],_ :: _,_,_,_,_,h,_,_,_,_=>by simp [eqB] at h
 |some _ :: _,[],_,_,_,_,h,_,_,_,_=>by simp [eqB] at h
 |none :: _,[],_,_,_,_,h,_,_,_,_=>by simp [eqB] at h
 |some _ :: _,_ :: _,[],_,_,_,h,_,_,_,_=>by simp [eqB] at h
 |none :: _,_ :: _,[],_,_,_,h,_,_,_,_=>by simp [eqB] at h
def asAgg (a:AV) (K:List AV->Prop):Prop:=∃ cs,a=.agg cs/\K cs
def QdM {t:TypeId} (h:P.eqGuardType P.depth t=false) (op:BinOp) (x y:Operand) (xs ys:Array Value) (w:World):(eqGuard op t x y (.agg xs) (.agg ys)).run P w=.ok () w:=by
 cases op <;> simp [eqGuard,h]
def Qf5 {ops:Array Oper} {o:Oper} {S:St} (hw:Want ops o S) {op:BinOp} {t:TypeId} {x y:Operand} {c:TypeId} (ho:o.op=.binOp op t x y c) (hop:op=.eql\/op=.neq) {i:TI} (ht:TyFact P t i) {ks:List (Option IntKind)} (hks:i.eqk=some ks)
  {cs ds:List AV} (hx:ev S x=.agg cs) (hy:ev S y=.agg ds) {K:Bool->Prop} (h:eqB ks cs ds K):∃ b,K b/\VE A P ops o { av:=.v (.bool (if op=.eql then b else !b)),n:=S.n } S:=by
 by_cases hE:∃ b,K b/\∀ F S2 a w ρ own,Holds F S2 a w ρ own->(∀ z ∈ o.op.operands,ev S2 z=ev S z)->∃ xs zs:Array Value,a.eval x=.agg xs/\a.eval y=.agg zs/\jG xs.toList zs.toList=b/\qa ks xs.toList/\qa ks zs.toList
 ·obtain ⟨b,hK,hb⟩:=hE
  obtain ⟨hg,heq⟩:=ht.eq ks hks;refine ⟨b,hK,VE.val hw (by simp [ho]) (by simp [AV.ids]) fun F S2 a w ρ own hag H=>?_⟩
  obtain ⟨xs,zs,e1,e2,e3,e4,e5⟩:=hb F S2 a w ρ own H fun z hz=>hag.ev hz
  refine ⟨.bool (if op=.eql then b else !b),w, ?_,Ext.none w,.v rfl⟩
  have:=heq w xs.toList zs.toList e4 e5;simp only [Array.toArray_toList] at this
  rcases hop with rfl|rfl <;> simp [execOp,ho,e1,e2,QdM hg,binOp,Op.equal,Op.maxDepth,this,e3]
 ·exfalso
  apply hE
  have key:∀ {ks:List (Option IntKind)} {cs ds:List AV} {K:Bool->Prop},eqB ks cs ds K->∃ b,K b/\∀ (xs zs:List Value),(∀ (i:Nat) (c:AV) (u:Value),cs[i]?=some c->c=.v u->xs.getD i undef=u)->(∀ (i:Nat) (c:AV) (u:Value),ds[i]?=some c->c=.v u->zs.getD i undef=u)->xs.length=cs.length->zs.length=ds.length->jG xs zs=b:=by
   intro ks
   induction ks with
   |nil =>
    intro cs ds K h;cases cs <;> cases ds <;> simp only [eqB] at h
    exact ⟨true,h,fun xs zs _ _ h1 h2=>by rw [bu h1,bu h2];rfl⟩
   |cons k ks ih =>
    intro cs ds K h;cases cs with
    |nil=>cases k <;> simp [eqB] at h
    |cons c cs =>
     cases ds with
     |nil=>cases k <;> simp [eqB] at h
     |cons d ds =>
      cases k with
      |some k =>
       obtain ⟨k1,a,rfl,k2,b,rfl,rfl,rfl,h⟩:=h;obtain ⟨r,hK,hr⟩:=ih h
       refine ⟨_,hK,fun xs zs hx hz h1 h2=>?_⟩
       cases xs with
       |nil=>simp at h1
       |cons x xs =>
        cases zs with
        |nil=>simp at h2
        |cons z zs =>
         have e1:x=_:=hx 0 _ _ rfl rfl;have e2:z=_:=hz 0 _ _ rfl rfl
         subst e1 e2;have:=hr xs zs (fun i c u hc hu=>by simpa using hx (i+1) c u (by simpa using hc) hu) (fun i c u hc hu=>by simpa using hz (i+1) c u (by simpa using hc) hu) (by simpa using h1) (by simpa using h2)
         simp [jG,veq,this,BEq.beq]
      |none =>
       obtain ⟨a,rfl,b,rfl,h⟩:=h;obtain ⟨r,hK,hr⟩:=ih h
       refine ⟨_,hK,fun xs zs hx hz h1 h2=>?_⟩
       cases xs with
       |nil=>simp at h1
       |cons x xs =>
        cases zs with
        |nil=>simp at h2
        |cons z zs =>
         have e1:x=_:=hx 0 _ _ rfl rfl;have e2:z=_:=hz 0 _ _ rfl rfl
         subst e1 e2;have:=hr xs zs (fun i c u hc hu=>by simpa using hx (i+1) c u (by simpa using hc) hu) (fun i c u hc hu=>by simpa using hz (i+1) c u (by simpa using hc) hu) (by simpa using h1) (by simpa using h2)
         simp [jG,veq,this]
  obtain ⟨b,hK,hb⟩:=key h;refine ⟨b,hK,fun F S2 a w ρ own H hev=>?_⟩
  have e1:=qm H x;rw [hev x (by simp [ho,Op.operands]),hx] at e1
  have e2:=qm H y;rw [hev y (by simp [ho,Op.operands]),hy] at e2
  generalize a.eval x=vx at e1;generalize a.eval y=vy at e2
  cases e1 with
  |@agg _ xs s1 r1 =>
   cases e2 with
   |@agg _ zs s2 r2 =>
    have rr1:∀ (i:Nat) (c:AV),cs[i]?=some c->ARel w (okB w own ρ S2.h) ρ F.y c (xs.toList.getD i undef):=fun i c hc=>by have:=r1 i c hc;simpa using this
    have rr2:∀ (i:Nat) (c:AV),ds[i]?=some c->ARel w (okB w own ρ S2.h) ρ F.y c (zs.toList.getD i undef):=fun i c hc=>by have:=r2 i c hc;simpa using this
    have hsp:=V9 h (xs:=xs.toList) (zs:=zs.toList) (by simpa using s1) (by simpa using s2) rr1 rr2
    refine ⟨xs,zs,rfl,rfl,hb _ _ (fun i c u hc hu=>?_) (fun i c u hc hu=>?_) (by simpa using s1) (by simpa using s2),hsp.2⟩
    ·have:=rr1 i c hc;subst hu;exact (qx this).1
    ·have:=rr2 i c hc;subst hu;exact (qx this).1
def lenA (S:St) (K:Int->List Nat->Prop):AV->Prop
 |.nil=>K 0 []
 |.emp=>K 0 []
 |.sl xs=>K xs.length []
 |.row id=>RF (S.h id) fun _ _ xs=>K xs.length [id]
 |.v x=>∃ s,x=.string s/\K s.size []
 |.mp id=>∃ es,S.h id=some (.map es)/\K es.length [id]
 |.csl _ n=>K n []
 |.rsl _ _ _ n=>K n []
 |_=>False
def Qcj {w:World} {ok:Nat->Prop} {ρ:Nat->Value} {y:Value} {e:TypeId} {k:Nat} {xs:List (List DV)} {x:Value} (h:ORel w ok ρ y (.row e k xs) x):∃ a c,x=.slice a xs.length c/\xs.length<=maxLen:=by
 obtain ⟨flat,hs⟩:=JH h;obtain ⟨a,c,h1,h2,h3,_⟩:=hs.shape
 exact ⟨a,c,h1,by omega⟩
def Rj {w:World} {ok:Nat->Prop} {xs:List (List DV)} {x:Value} (h:DRel w ok (.sl xs) x):∃ a c,x=.slice a xs.length c/\xs.length<=c/\c<=maxLen:=by
 cases h with
 |sl0 hc=>exact ⟨_,_,rfl,by simp,hc⟩
 |sl f h1 h2 h3 h4=>exact ⟨_,_,by rw [h1],by omega,h4⟩
def RQ {w:World} {b:Nat} {es:Array MapEntry} {c:Nat} (h:w.heap[b]?=some (.map es c)):(getObj b).run P w=.ok (.map es c) w:=by simp [getObj,Sem.run,h]
def Qfh {ops:Array Oper} {o:Oper} {S:St} (hw:Want ops o S) {t:TypeId} {x:Operand} (ho:o.op=.call { callee:=.builtin .len,args:=#[x],argTypes:=#[t] }) {i:TI} (ht:TyFact P t i)
  (htd:match i.td with|.slice _=>True|.string=>True|.map _ _=>True|_=>False) {K:Int->List Nat->Prop}
  (h:lenA S K (ev S x)) (hty:match ev S x with|.v _=>i.td=.string|.mp _=>∃ k e,i.td=.map k e|_=>∃ e,i.td=.slice e):∃ n hr,K n hr/\VE A P ops o { av:=.v (.int .i64 n),hr:=hr,n:=S.n } S:=by
 obtain ⟨d,hd,hok⟩:=ht.under;have fin:∀ (n:Int) (hr:List Nat),(∀ F S2 a w ρ own,Holds F S2 a w ρ own->(∀ id ∈ hr,S2.h id=S.h id)->ARel w (okB w own ρ S2.h) ρ F.y (ev S x) (a.eval x)->(Builtin.len_ #[t] o.type #[a.eval x]).run P w=.ok (.int .i64 n) w) ->
   VE A P ops o { av:=.v (.int .i64 n),hr:=hr,n:=S.n } S:=fun n hr hrun=>VE.val hw (by simp [ho]) (by simp [AV.ids]) fun F S2 a w ρ own hag H=>by
  have h1:=qm H x;rw [hag.ev (x:=x) (by simp [ho,Op.operands,Call.operands])] at h1
  refine ⟨_,w, ?_,Ext.none w,.v rfl⟩
  unfold execOp;simp only [ho,resolve,invoke,builtin,aH,aL,aJ,cg,aw,aX,hrun F S2 a w ρ own H hag.2.1 h1]
 generalize hx:ev S x=c at *;have sl:∀ {n:Nat} {a:Option Addr} {cc:Nat} {w:World} {v:Value},(∃ e,i.td=.slice e)->v=.slice a n cc->(Builtin.len_ #[t] o.type #[v]).run P w=.ok (.int .i64 n) w:=by
  rintro n a cc w v ⟨e,he⟩ rfl;rw [he] at hok
  simp only [TD.ok] at hok;subst hok
  simp [Builtin.len_,run_underlying hd,goInt]
 cases c <;> simp only [lenA] at h
 case nil=>exact ⟨_,_,h,fin _ _ fun F S2 a w ρ own H hag h1=>by generalize a.eval x=v at h1;cases h1;exact sl (n:=0) hty rfl⟩
 case emp=>exact ⟨_,_,h,fin _ _ fun F S2 a w ρ own H hag h1=>by generalize a.eval x=v at h1;cases h1;exact sl (n:=0) hty rfl⟩
 case sl xs=>exact ⟨_,_,h,fin _ _ fun F S2 a w ρ own H hag h1=>by
   generalize a.eval x=v at h1;cases h1 with
   |sl h1=>obtain ⟨a0,c0,rfl,_,_⟩:=Rj h1;exact sl hty rfl⟩
 case row id =>
  obtain ⟨e,k,xs,hh,hK⟩:=h;exact ⟨_,_,hK,fin _ _ fun F S2 a w ρ own H hag h1=>by
   have ho:=H.obj id _ ((hag id (by simp)).trans hh)
   generalize a.eval x=v at h1;cases h1 with
   |row e1 _ =>
    rw [e1] at ho;obtain ⟨a0,c0,rfl,_⟩:=Qcj ho
    exact sl hty rfl⟩
 case rsl id k l n=>exact ⟨_,_,h,fin _ _ fun F S2 a w ρ own H hag h1=>by generalize a.eval x=v at h1;cases h1;exact sl hty rfl⟩
 case csl id n=>exact ⟨_,_,h,fin _ _ fun F S2 a w ρ own H hag h1=>by generalize a.eval x=v at h1;cases h1;exact sl hty rfl⟩
 case v u =>
  obtain ⟨s,rfl,hK⟩:=h;refine ⟨_,_,hK,fin _ _ fun F S2 a w ρ own H hag h1=>?_⟩
  have h1:=(qx h1).1;rw [h1]
  simp only at hty;rw [hty] at hok
  simp only [TD.ok] at hok;subst hok
  simp [Builtin.len_,run_underlying hd,goInt]
 case mp id =>
  obtain ⟨es,hh,hK⟩:=h;refine ⟨_,_,hK,fin _ _ fun F S2 a w ρ own H hag h1=>?_⟩
  have hob:=H.obj id _ ((hag id (by simp)).trans hh)
  generalize a.eval x=v at h1;obtain ⟨k,e,hte⟩:=hty
  rw [hte] at hok;simp only [TD.ok] at hok
  subst hok;cases h1 with
  |mp e1 _ =>
   rw [e1] at hob;cases hob with
   |map m1 m2 m3 m4 m5 =>
    rw [<- m2]
    simp [Builtin.len_,run_underlying hd,goInt,RQ m1]
 all_goals exact h.elim
def QkI {ops:Array Oper} {o:Oper} {S:St} (hw:Want ops o S) {t t':TypeId} {x y:Operand} (ho:o.op=.call { callee:=.builtin .min,args:=#[x,y],argTypes:=#[t,t'] }) {k k':IntKind} {a b:Int} (hx:ev S x=.v (.int k a)) (hy:ev S y=.v (.int k' b)) :
  VE A P ops o { av:=.v (.int k (min a b)),n:=S.n } S :=
 VE.val2 hw (by simp [ho]) (by simp [ho,Op.operands,Call.operands]) (by simp [ho,Op.operands,Call.operands]) hx hy rfl fun ac w ex ey=>by
  have:(if b < a then b else a)=min a b:=by omega
  unfold execOp
  simp [ho,resolve,invoke,builtin,ex,ey,Builtin.min_,Builtin.min2,this]
def QkH {ops:Array Oper} {o:Oper} {S:St} (hw:Want ops o S) {t t':TypeId} {x y:Operand} (ho:o.op=.call { callee:=.builtin .max,args:=#[x,y],argTypes:=#[t,t'] }) {k k':IntKind} {a b:Int} (hx:ev S x=.v (.int k a)) (hy:ev S y=.v (.int k' b)) :
  VE A P ops o { av:=.v (.int k (max a b)),n:=S.n } S :=
 VE.val2 hw (by simp [ho]) (by simp [ho,Op.operands,Call.operands]) (by simp [ho,Op.operands,Call.operands]) hx hy rfl fun ac w ex ey=>by
  have:(if b > a then b else a)=max a b:=by omega
  unfold execOp
  simp [ho,resolve,invoke,builtin,ex,ey,Builtin.max_,Builtin.max2,this]
def Qbl:maxLen<=9223372036854775807:=by decide
def QdU (S:St) (d:Int) (K:Int->Prop):Option Operand->Prop
 |none=>K d
 |some x=>asInt (ev S x) fun _ n=>K n
def Yf (S:St) (lo hi mx:Option Operand) (cells:Nat) (K:AV->Prop) (xs:List (List DV)):Prop :=
 match mx with
 |none=>QdU S 0 (fun l=>QdU S xs.length (fun h=>0<=l/\l<=h/\h<=xs.length/\(∀ r ∈ xs,r.length=cells)/\K (.sl ((xs.take h.toNat).drop l.toNat))) hi) lo
 |some m=>lo=none/\(hi.isSome=true)/\QdU S 0 (fun h=>h=0/\asInt (ev S m) fun _ m=>m=0/\K .emp) hi
def sliA (S:St) (K:List (List DV)->Prop):AV->Prop
 |.nil=>K []
 |.emp=>K []
 |.sl xs=>K xs
 |_=>False
def Qbo {w:World} {ok:Nat->Prop} {xs:List (List DV)} {A:Option Addr} {n c k l h:Nat} (hd:DRel w ok (.sl xs) (.slice A n c)) (hl:l<=h) (hh:h<=n) (hk:∀ r ∈ xs,r.length=k) :
  DRel w ok (.sl ((xs.take h).drop l)) (.slice (if c=l then A else A.map (·.add (l * k))) (h - l) (c - l)):=by
 by_cases he:h=l
 ·subst he
  have:(xs.take h).drop h=[]:=dR (by simp;omega)
  rw [this,Nat.sub_self];obtain ⟨a,c',e,_,hm⟩:=Rj hd
  simp only [Value.slice.injEq] at e;exact .sl0 (by omega)
 ·cases hd with
  |sl0 hc=>omega
  |@sl _ kk ad _ _ f e1 e2 e3 e4 e5 e6 e7 e8 e9 =>
   have hkk:kk=k:=by
    have h0:0 < xs.length:=by omega
    rw [<- hk _ (bF h0)];exact (e6 0 _ (al h0)).symm
   subst hkk;rw [if_neg (by omega)]
   have get:∀ (i:Nat) (r:List DV),((xs.take h).drop l)[i]?=some r->xs[l+i]?=some r:=fun i r hr=>by
    rw [bM,aP] at hr;split at hr
    ·exact hr
    ·cases hr
   refine .sl (k:=kk) (fun i j=>f (l+i) j) (by simp;omega) (by omega) (by omega) (by omega) e5 (fun i r hr=>e6 _ r (get i r hr)) (fun i r j d hi hj=>?_) (fun i r j d hi hj=>e8 _ r j d (get i r hi) hj) (by simpa [block_add] using e9)
   rw [add_add',show l * kk+(i * kk+j)=(l+i) * kk+j by rw [aE];omega]
   exact e7 _ r j d (get i r hi) hj
def U8 {ops:Array Oper} {o:Oper} {S:St} (hw:Want ops o S) {t e:TypeId} {x:Operand} {lo hi mx:Option Operand} (ho:o.op=.slice t x lo hi mx) {i j:TI} (ht:TyFact P t i) (htd:i.td=.slice e) (hj:TyFact P e j)
  {K:AV->Prop} (h:sliA S (Yf S lo hi mx j.cells K) (ev S x)):∃ av,K av/\av.ids=[]/\VE A P ops o { av:=av,n:=S.n } S:=by
 obtain ⟨d,hd,hok⟩:=ht.under;rw [htd] at hok
 simp only [TD.ok] at hok;subst hok
 have hdata:∃ xs,Yf S lo hi mx j.cells K xs/\∀ F S2 a w ρ own,Holds F S2 a w ρ own->ev S2 x=ev S x->DRel w (okB w own ρ S2.h) (.sl xs) (a.eval x):=by
  generalize hx:ev S x=c at h;cases c <;> simp only [sliA] at h
  case nil=>refine ⟨_,h,fun F S2 a w ρ own H he=>?_⟩;have h1:=qm H x;rw [he] at h1;generalize a.eval x=v at h1;cases h1;exact .sl0 (af _)
  case emp=>refine ⟨_,h,fun F S2 a w ρ own H he=>?_⟩;have h1:=qm H x;rw [he] at h1;generalize a.eval x=v at h1;cases h1;exact .sl0 (af _)
  case sl xs=>refine ⟨_,h,fun F S2 a w ρ own H he=>?_⟩;have h1:=qm H x;rw [he] at h1;generalize a.eval x=v at h1;cases h1;assumption
  all_goals exact h.elim
 obtain ⟨xs,hs,hx⟩:=hdata;have hmx:∀ F S2 a w ρ own hr av,Agree ops o { av:=av,hr:=hr,n:=S.n } S S2->Holds F S2 a w ρ own->DRel w (okB w own ρ S2.h) (.sl xs) (a.eval x):=fun F S2 a w ρ own hr av hag H=>hx F S2 a w ρ own H (hag.ev (x:=x) (by simp [ho,Op.operands]))
 cases mx with
 |none =>
  simp only [Yf] at hs;have h1:∃ l h:Int,0<=l/\l<=h/\h<=xs.length/\(∀ r ∈ xs,r.length=j.cells)/\K (.sl ((xs.take (Int.toNat h)).drop (Int.toNat l)))/\((lo=none/\l=0)\/∃ z k,lo=some z/\ev S z=.v (.int k l))/\((hi=none/\h=xs.length)\/∃ z k,hi=some z/\ev S z=.v (.int k h)):=by
   cases lo with
   |none =>
    cases hi with
    |none=>exact ⟨_,_,hs.1,hs.2.1,hs.2.2.1,hs.2.2.2.1,hs.2.2.2.2,.inl ⟨rfl,rfl⟩,.inl ⟨rfl,rfl⟩⟩
    |some z=>obtain ⟨k,n,e,hs⟩:=hs;exact ⟨_,_,hs.1,hs.2.1,hs.2.2.1,hs.2.2.2.1,hs.2.2.2.2,.inl ⟨rfl,rfl⟩,.inr ⟨z,k,rfl,e⟩⟩
   |some y =>
    obtain ⟨k',n',e',hs⟩:=hs;cases hi with
    |none=>exact ⟨_,_,hs.1,hs.2.1,hs.2.2.1,hs.2.2.2.1,hs.2.2.2.2,.inr ⟨y,k',rfl,e'⟩,.inl ⟨rfl,rfl⟩⟩
    |some z=>obtain ⟨k,n,e,hs⟩:=hs;exact ⟨_,_,hs.1,hs.2.1,hs.2.2.1,hs.2.2.2.1,hs.2.2.2.2,.inr ⟨y,k',rfl,e'⟩,.inr ⟨z,k,rfl,e⟩⟩
  obtain ⟨l,h,g1,g2,g3,g4,hK,hlo,hhi⟩:=h1;refine ⟨_,hK,rfl,VE.val hw (by simp [ho]) (by simp [AV.ids]) fun F S2 a w ρ own hag H=>?_⟩
  have hd1:=hmx F S2 a w ρ own _ _ hag H;obtain ⟨ad,c,hv,hnc,hcm⟩:=Rj hd1
  rw [hv] at hd1;have evv:∀ z,(lo=some z\/hi=some z)->∀ k n,ev S z=.v (.int k n)->a.eval z=.int k n:=fun z hz k n e=>by
   have h1:=qm H z;rw [hag.ev (x:=z) (by simp [ho,Op.operands];rcases hz with rfl|rfl <;> simp),e] at h1
   exact (qx h1).1
  refine ⟨_,w, ?_,Ext.none w,.sl (Qbo hd1 (show l.toNat<=h.toNat by omega) (by omega) g4)⟩
  have hb2:∀ (kk:IntKind),(Instr.sliceBound (.int kk h) c .sliceAcap).run P w=.ok h.toNat w:=fun kk=>by simp [Instr.sliceBound,asIntOf,show 0<=h by omega,show h<=(c:Int) by omega]
  have hb1:∀ (kk:IntKind) (z:Nat),z=h.toNat->(Instr.sliceBound (.int kk l) z .sliceB).run P w=.ok l.toNat w:=fun kk z hz=>by subst hz;have hh:0<=l/\l<=((h.toNat:Nat):Int):=⟨g1,by omega⟩;simp only [Instr.sliceBound,asIntOf,aH,aL,aJ,if_pos hh]
  have hbs:(Instr.sliceBounds true xs.length c (lo.map a.eval) (hi.map a.eval) none).run P w=.ok (l.toNat,h.toNat,c) w:=by
   rcases hlo with ⟨rfl,rfl⟩|⟨z,k,rfl,e⟩
   ·rcases hhi with ⟨rfl,rfl⟩|⟨z',k',rfl,e'⟩
    ·simp [Instr.sliceBounds]
    ·simp [Instr.sliceBounds,evv z' (.inr rfl) _ _ e',hb2]
   ·rcases hhi with ⟨rfl,rfl⟩|⟨z',k',rfl,e'⟩
    ·simp [Instr.sliceBounds,evv z (.inl rfl) _ _ e,hb1]
    ·simp [Instr.sliceBounds,evv z (.inl rfl) _ _ e,evv z' (.inr rfl) _ _ e',hb1,hb2]
  simp only [execOp,ho,hv,Instr.sliceAt,Instr.slice,run_underlying hd,aH,aJ,ci,hbs,hj.run_sizeOf,aL]
 |some m =>
  simp only [Yf] at hs;obtain ⟨rfl,hsome,hs⟩:=hs
  cases hi with
  |none=>simp at hsome
  |some z =>
   obtain ⟨k,n,e,rfl,k',n',e',rfl,hK⟩:=hs;refine ⟨_,hK,rfl,VE.val hw (by simp [ho]) (by simp [AV.ids]) fun F S2 a w ρ own hag H=>?_⟩
   have hd1:=hmx F S2 a w ρ own _ _ hag H;obtain ⟨ad,c,hv,hnc,hcm⟩:=Rj hd1
   have h1:=qm H z;rw [hag.ev (x:=z) (by simp [ho,Op.operands]),e] at h1
   have h1:=(qx h1).1;have h2:=qm H m
   rw [hag.ev (x:=m) (by simp [ho,Op.operands]),e'] at h2
   have h2:=(qx h2).1;refine ⟨.slice ad 0 0,w, ?_,Ext.none w,.emp⟩
   have hb:∀ (kk:IntKind) (z:Nat) (cc:BoundsCode),(Instr.sliceBound (.int kk 0) z cc).run P w=.ok 0 w:=fun kk z cc=>by simp [Instr.sliceBound,asIntOf]
   simp [execOp,ho,hv,h1,h2,Instr.sliceAt,Instr.slice,run_underlying hd,Instr.sliceBounds,hb,hj.run_sizeOf]
structure CRel (w:World) (ok:Nat->Prop) (ρ:Nat->Value) (y:Value) (cs:List AV) (vs:Array Value):Prop where
 size:vs.size=cs.length
 rel:∀ (i:Nat) (c:AV),cs[i]?=some c->ARel w ok ρ y c (vs.getD i undef)/\(vs.getD i undef).oneCell'=true
def foldl_set {off:Nat}:∀ (l:List Value) (k:Nat) (cs:Array Value) (q:Nat),off+k+l.length<=cs.size ->
  ((l.zipIdx k).foldl (fun (cs:Array Value) p=>cs.setIfInBounds (off+p.2) p.1) cs).size=cs.size /\
  ((l.zipIdx k).foldl (fun (cs:Array Value) p=>cs.setIfInBounds (off+p.2) p.1) cs)[q]?=if off+k<=q/\q < off+k+l.length then l[q - (off+k)]? else cs[q]?
 |[],k,cs,q,_=>⟨rfl,by rw [if_neg (by simp only [cm];omega)];rfl⟩
 |v :: l,k,cs,q,h=>by
  simp only [bl] at h;simp only [List.zipIdx_cons,List.foldl_cons]
  have hsz:off+(k+1)+l.length<=(cs.setIfInBounds (off+k) v).size:=by rw [Array.size_setIfInBounds];omega
  obtain ⟨h1,h2⟩:=foldl_set l (k+1) (cs.setIfInBounds (off+k) v) q hsz;refine ⟨by rw [h1];simp, ?_⟩
  rw [h2]
  by_cases hq:q=off+k
  ·subst hq
   rw [if_neg (by omega),if_pos (by simp),Nat.sub_self]
   simp [show off+k < cs.size by omega]
  ·simp only [bl,d9 (Ne.symm hq)]
   by_cases hr:off+k<=q/\q < off+k+(l.length+1)
   ·rw [if_pos (by omega),if_pos hr,show q - (off+k)=(q - (off+(k+1)))+1 by omega,bt]
   ·rw [if_neg (by omega),if_neg hr]
def xz (place:Nat->Option (Nat × Nat)) (K:List AV->Prop):List AV->List (Nat × AV)->Prop
 |cells,[]=>K cells
 |cells,p :: rest=>match place p.1 with
  |some (off,size)=>(cellsOf p.2).length=size/\off+(cellsOf p.2).length<=cells.length/\(cellsOf p.2).all jI=true/\xz place K (cells.take off++cellsOf p.2++cells.drop (off+(cellsOf p.2).length)) rest
  |none=>False
def UN {w:World} {ok:Nat->Prop} {ρ:Nat->Value} {y:Value} {cs new:List AV} {vs ns:Array Value} {off:Nat} (h:CRel w ok ρ y cs vs) (hn:CRel w ok ρ y new ns) (hf:off+new.length<=cs.length) :
  CRel w ok ρ y (cs.take off++new++cs.drop (off+new.length)) ((ns.zipIdx).foldl (fun (cs:Array Value) p=>cs.setIfInBounds (off+p.2) p.1) vs):=by
 have e:(ns.zipIdx).foldl (fun (cs:Array Value) p=>cs.setIfInBounds (off+p.2) p.1) vs=(ns.toList.zipIdx).foldl (fun (cs:Array Value) p=>cs.setIfInBounds (off+p.2) p.1) vs:=by
  rw [<- Array.foldl_toList];simp
 rw [e];have hs:off+0+ns.toList.length<=vs.size:=by rw [h.size];simp [hn.size];exact hf
 refine ⟨by rw [(foldl_set _ 0 vs 0 hs).1,qK hf,h.size],fun i c hc=>?_⟩
 have hg:=(foldl_set ns.toList 0 vs i hs).2;rw [bG,hg]
 rw [zI hf] at hc;simp only [bC,ba,hn.size]
 by_cases h1:i < off
 ·rw [if_pos h1] at hc
  rw [if_neg (by omega)]
  simpa [bG] using h.rel i c hc
 ·rw [if_neg h1] at hc
  by_cases h2:i < off+new.length
  ·rw [if_pos h2] at hc
   rw [if_pos (by omega)]
   simpa [bG] using hn.rel _ c hc
  ·rw [if_neg h2] at hc
   rw [if_neg (by omega)]
   simpa [bG] using h.rel i c hc
def ZZ {w:World} {ok:Nat->Prop} {ρ:Nat->Value} {y:Value} {place:Nat->Option (Nat × Nat)}:∀ {ps:List (Nat × AV)} {vs:List (Nat × Value)} {cells:List AV} {cur:Array Value} {K:List AV->Prop},xz place K cells ps->ps.length=vs.length ->
  (∀ (i:Nat) (p:Nat × AV) (v:Nat × Value),ps[i]?=some p->vs[i]?=some v->p.1=v.1/\ARel w ok ρ y p.2 v.2)->CRel w ok ρ y cells cur ->
  ∃ out vout,K out/\Instr.fill place cur vs=some vout/\CRel w ok ρ y out vout
 |[],[],cells,cur,K,h,_,_,hc=>⟨_,_,h,rfl,hc⟩
 |p :: ps,v :: vs,cells,cur,K,h,hl,hp,hc=>by
  obtain ⟨he,hr⟩:=hp 0 p v rfl rfl;simp only [xz] at h
  split at h
  ·rename_i off size hpl
   obtain ⟨h1,h2,h3,h4⟩:=h;have hn:=Qy h3 hr
   have hcn:CRel w ok ρ y (cellsOf p.2) v.2.cells:=⟨hn.1,hn.2⟩;obtain ⟨out,vout,g1,g2,g3⟩:=ZZ h4 (by simpa using hl) (fun i p v h h'=>hp (i+1) p v (by simpa using h) (by simpa using h')) (UN hc hcn h2)
   refine ⟨out,vout,g1, ?_,g3⟩
   obtain ⟨i,v⟩:=v;simp only at he hn hcn g2
   rw [Instr.fill,<- he,hpl];simp only
   rw [if_neg (by simp [hn.1,h1,hc.size];omega)]
   exact g2
  ·exact h.elim
def WW (fs:List (Nat × Nat × TypeId)) (i:Nat):Option (Nat × Nat):=match fs[i]? with|some p=>some (p.1,p.2.1)|none=>none
def Zg {place:Nat->Option (Nat × Nat)}:∀ {ps:List (Nat × AV)} {cells:List AV} {K:List AV->Prop},xz place K cells ps->∃ out,K out/\xz place (fun o=>o=out) cells ps
 |[],_,_,h=>⟨_,h,rfl⟩
 |p :: ps,cells,K,h=>by
  simp only [xz] at h;split at h
  ·rename_i off size hpl
   obtain ⟨h1,h2,h3,h4⟩:=h;obtain ⟨out,hK,ho⟩:=Zg h4
   exact ⟨out,hK,by simp only [xz,hpl];exact ⟨h1,h2,h3,ho⟩⟩
  ·exact h.elim
def We {place:Nat->Option (Nat × Nat)} {n:Nat}:∀ {ps:List (Nat × AV)} {cells out:List AV},xz place (fun o=>o=out) cells ps->(∀ c ∈ cells,∀ id ∈ c.ids,id < n)->(∀ p ∈ ps,∀ id ∈ p.2.ids,id < n)->∀ c ∈ out,∀ id ∈ c.ids,id < n
 |[],_,_,h,hc,_=>by cases h;exact hc
 |p :: ps,cells,out,h,hc,hp=>by
  simp only [xz] at h;split at h
  ·obtain ⟨h1,h2,h3,h4⟩:=h
   refine We h4 (fun c hm=>?_) fun q hq=>hp q (aQ _ hq)
   simp only [au] at hm
   rcases hm with (hm|hm)|hm
   ·exact hc c (aY hm)
   ·exact Z8 (hp p aV) c hm
   ·exact hc c (aW hm)
  ·exact h.elim
def Wp {F:Frm} {S S2:St} {a:Act} {w:World} {ρ:Nat->Value} {own:Own} (H:Holds F S2 a w ρ own) {parts:Array (Nat × Operand)} (hag:∀ x ∈ parts.toList.map (·.2),ev S2 x=ev S x) :
  (parts.toList.map fun p=>(p.1,ev S p.2)).length=((parts.map fun (p:Nat × Operand)=>(p.1,a.eval p.2)).toList).length/\∀ (i:Nat) (p:Nat × AV) (v:Nat × Value),(parts.toList.map fun p=>(p.1,ev S p.2))[i]?=some p->((parts.map fun (p:Nat × Operand)=>(p.1,a.eval p.2)).toList)[i]?=some v->p.1=v.1/\ARel w (okB w own ρ S2.h) ρ F.y p.2 v.2:=by
 refine ⟨by simp,fun i p v hp hv=>?_⟩
 rw [aC] at hp;obtain ⟨q,hq,rfl⟩:=aA.1 hp
 have hq':parts[i]?=some q:=by simpa using hq
 simp [hq'] at hv
 subst hv;refine ⟨rfl, ?_⟩
 rw [<- hag q.2 (aj.2 ⟨q,ao hq,rfl⟩)];exact qm H q.2
def Wv {w:World} {ok:Nat->Prop} {ρ:Nat->Value} {y:Value} {z:Value} {l:List AV} (h1:z.cells.toList.map vw=l) (h3:∀ u ∈ z.cells.toList,u.oneCell'=true):CRel w ok ρ y l z.cells:=by
 subst h1;refine ⟨by simp,fun i c hc=>?_⟩
 rw [aC] at hc;obtain ⟨v,hv,rfl⟩:=aA.1 hc
 have hv':z.cells[i]?=some v:=by simpa using hv
 have:z.cells.getD i undef=v:=by simp [hv']
 rw [this];exact ⟨kz v,h3 v (ao hv)⟩
def run_places (fields:List Field) (w:World) (h:∀ f ∈ fields,∃ inf,P.info? f.type=some inf) :
  (List.mapM (fun f=>do pure (f.offset,<- sizeOf f.type)) fields:Sem (List (Nat × Nat))).run P w=.ok (fields.map fun f=>(f.offset,P.cellsOf f.type)) w:=by
 induction fields with
 |nil=>simp
 |cons f fs ih =>
  obtain ⟨inf,hf⟩:=h f aV;have:=ih fun g hg=>h g (aQ _ hg)
  have hsz:(sizeOf f.type).run P w=.ok (P.cellsOf f.type) w:=by simp [sizeOf,typeInfo,hf,Program.cellsOf]
  simp only [List.mapM_cons,aH,hsz,aJ,aL,this,aw]
def Qf7 {ops:Array Oper} {o:Oper} {S:St} (hS:Wf S) (hw:Want ops o S) {t:TypeId} {parts:Array (Nat × Operand)} (ho:o.op=.build t parts) {i:TI} (ht:TyFact P t i) {fs:List (Nat × Nat × TypeId)} (htd:i.td=.struct fs)
  {K:List AV->Prop} (h:xz (WW fs) K i.zero (parts.toList.map fun p=>(p.1,ev S p.2))):∃ cs,K cs/\VE A P ops o { av:=.agg cs,n:=S.n } S:=by
 obtain ⟨d,hd,hok⟩:=ht.under;rw [htd] at hok
 obtain ⟨fields,rfl,hmap⟩:=hok;obtain ⟨out,hK,ho'⟩:=Zg h
 obtain ⟨inf,z0,_,_,_,_,hz0,_,_⟩:=ht.info;refine ⟨out,hK,VE.val hw (by simp [ho]) (fun id hid=>?_) fun F S2 a w ρ own hag H=>?_⟩
 ·simp only [AV.ids] at hid
  obtain ⟨c,hc,hid⟩:=AV.mem_idsL.1 hid;refine We ho' (fun c hc id hid=>?_) (fun p hp id hid=>?_) c hc id hid
  ·rw [<- hz0] at hc
   obtain ⟨v,_,rfl⟩:=aj.1 hc;rw [QT] at hid;cases hid
  ·obtain ⟨q,_,rfl⟩:=aj.1 hp
   exact jO hS q.2 id hid
 ·obtain ⟨z,hz,h1,h2,h3⟩:=ht.run_zero w
  have hp:=Wp (S:=S) H (parts:=parts) fun x hx=>hag.ev (x:=x) (by simp [ho,Op.operands];simpa using hx)
  obtain ⟨_,vout,rfl,g2,g3⟩:=ZZ ho' hp.1 hp.2 (Wv h1 h3);refine ⟨.agg vout,w, ?_,Ext.none w,.agg g3.size fun i c hc=>(g3.rel i c hc).1⟩
  have hfs:∀ f ∈ fields.toList,∃ inf,P.info? f.type=some inf/\∃ p ∈ fs,p.1=f.offset/\p.2.2=f.type/\inf.size=p.2.1:=fun f hf=>by
   have:(f.offset,f.type) ∈ fields.toList.map (fun f=>(f.offset,f.type)):=aj.2 ⟨f,hf,rfl⟩
   rw [hmap] at this;obtain ⟨p,hp,e⟩:=aj.1 this
   obtain ⟨inf,hi,hs⟩:=ht.fsz fs htd p hp;simp only [Prod.mk.injEq] at e
   exact ⟨inf,by rw [<- e.2];exact hi,p,hp,e.1,e.2,hs⟩
  have hpl:(fields.mapM fun f=>do pure (f.offset,<- sizeOf f.type):Sem (Array (Nat × Nat))).run P w=.ok (fields.map fun f=>(f.offset,P.cellsOf f.type)) w:=by
   rw [Array.mapM_eq_mapM_toList];simp only [map_eq_pure_bind,aH,run_places fields.toList w (fun f hf=>let ⟨inf,h,_⟩:=hfs f hf;⟨inf,h⟩),aJ,aL]
   rw [<- Array.toList_map,Array.toArray_toList]
  have hpe:(fun q=>(fields.map fun f=>(f.offset,P.cellsOf f.type))[q]?)=WW fs:=by
   funext q
   have hq:(fields.toList.map (fun f=>(f.offset,f.type)))[q]?=(fs.map (fun p=>(p.1,p.2.2)))[q]?:=by rw [hmap]
   simp only [aC,cZ] at hq;unfold WW
   cases hf:fields[q]? with
   |none =>
    rw [hf] at hq;cases hg:fs[q]? with
    |none=>simp [hf]
    |some p=>rw [hg] at hq;simp at hq
   |some f =>
    rw [hf] at hq;cases hg:fs[q]? with
    |none=>rw [hg] at hq;simp at hq
    |some p =>
     rw [hg] at hq
     simp at hq
     obtain ⟨inf,hi,hs⟩:=ht.fsz fs htd p (ao hg)
     simp [hf,hq.1,Program.cellsOf,hq.2,hi,hs]
  simp only [execOp,ho,Instr.build,aH,hz,aJ,run_underlying hd,hpl,hpe,g2,aL]
def dvS (S:St) (K:DV->List Nat->Prop):AV->Prop
 |.v x=>K (.v x) []
 |.nil=>K (.sl []) []
 |.emp=>K (.sl []) []
 |.sl xs=>K (.sl xs) []
 |.row id=>RF (S.h id) fun _ _ xs=>K (.sl xs) [id]
 |_=>False
def WI (S:St) (K:List DV->List Nat->Prop):List AV->Prop
 |[]=>K [] []
 |c :: cs=>dvS S (fun d i=>WI S (fun ds is=>K (d :: ds) (i++is)) cs) c
def qV (dead:List Nat):List (Nat × Option AObj):=dead.map fun i=>(i,none)
def wQ (h:Nat->Option AObj) (dead:List Nat) (i:Nat):ze h (qV dead) i=if i ∈ dead then none else h i:=by
 by_cases hi:i ∈ dead
 ·rw [if_pos hi]
  have hm:i ∈ (qV dead).map (·.1):=by simp [qV,hi]
  cases hc:ze h (qV dead) i with
  |none=>rfl
  |some o=>have:=ZN hm hc;simp [qV] at this
 ·rw [if_neg hi,zm (by simp [qV,hi])]
def R7 {F:Frm} {S:St} {a:Act} {w:World} {ρ:Nat->Value} {own:Own} (H:Holds F S a w ρ own) (dead:List Nat) :
  (∀ b,okB w own ρ S.h b->okB w own ρ (ze S.h (qV dead)) b)/\∀ i ∈ dead,∀ e k xs,S.h i=some (.row e k xs)->DRel w (okB w own ρ (ze S.h (qV dead))) (.sl xs) (ρ i):=by
 have h1:∀ b,okB w own ρ S.h b->okB w own ρ (ze S.h (qV dead)) b:=fun b hb=>⟨hb.1,hb.2.1,fun i o hi hbi=>by
  rw [wQ] at hi;split at hi
  ·cases hi
  ·exact hb.2.2 i o hi hbi⟩
 refine ⟨h1,fun i hi e k xs hr=>Qf (H.obj i _ hr) h1 fun b hb=>⟨(H.obj i _ hr).lt hb,fun hp=>(H.blkOK i _ b hr hb).1 (own.sub _ hp),fun j o hj hbj=>?_⟩⟩
 rw [wQ] at hj;split at hj
 ·cases hj
 ·rename_i hn
  have:=H.inj i j _ o b hr hj hb hbj;subst this
  exact hn hi
def VE.newRowD {ops:Array Oper} {o:Oper} {S:St} {e:TypeId} {k:Nat} {xs:List (List DV)} {dead hr:List Nat} (hS:Wf S) (hw:Want ops o S) (hd:∀ c,o.op ≠ .defer c)
  (hdead:∀ i ∈ dead,i ∈ hr/\∃ ob,S.h i=some ob)
  (h:∀ F S2 a w ρ own,Agree ops o { av:=.row S.n,hw:=(S.n,some (.row e k xs)) :: qV dead,hr:=hr,news:=[S.n],n:=S.n+1 } S S2->Holds F S2 a w ρ own ->
   ∃ v' w',(execOp a.eval o).run P w=.ok (.value v') w'/\Ext (fun _=>False) w w'/\v'.oneCell'=true/\ORel w' (okB w own ρ (ze S2.h (qV dead))) ρ F.y (.row e k xs) v'/\∀ b,blk v'=some b->w.heap.size<=b) :
  VE A P ops o { av:=.row S.n,hw:=(S.n,some (.row e k xs)) :: qV dead,hr:=hr,news:=[S.n],n:=S.n+1 } S:=by
 have hdlt:∀ i ∈ dead,i < S.n:=fun i hi=>bm fun hn=>by
  obtain ⟨_,ob,hob⟩:=hdead i hi;have:=(hS i hn).1;rw [hob] at this;cases this
 have hwi:∀ (l:List Nat) id,id ∈ zM (qV l)->id ∈ l:=by
  intro l
  induction l with
  |nil=>simp [qV,zM]
  |cons i l ih =>
   intro id hid;simp only [qV,aw,zM,bc,ae] at hid ⊢
   exact hid.imp_right fun h=>ih id h
 have hI:∀ id ∈ Eff.ids { av:=.row S.n,hw:=(S.n,some (.row e k xs)) :: qV dead,hr:=hr,news:=[S.n],n:=S.n+1 },id < S.n+1:=by
  intro id hid;simp only [Eff.ids,AV.ids,zM,AObj.ids,bT,bf,bc,au,ae,aO,or_false] at hid
  rcases hid with rfl|rfl|hid
  ·omega
  ·omega
  ·have:=hdlt id (hwi _ _ hid);omega
 have hnd:S.n ∉ dead:=fun hm=>by have:=hdlt _ hm;omega
 have hh:∀ (h0:Nat->Option AObj),ze h0 ((S.n,some (.row e k xs)) :: qV dead)=upd (ze h0 (qV dead)) S.n (some (.row e k xs)):=fun h0=>by
  funext i
  simp only [ze];rw [wQ]
  by_cases hi:i=S.n
  ·subst hi;rw [if_neg hnd,upd_same,upd_same]
  ·rw [upd_ne _ _ _ _ hi,upd_ne _ _ _ _ hi,wQ]
 refine ⟨fun F hF hds S2 a w hag hfr ⟨ρ,own,H⟩=>?_,hI,by simp⟩
 rw [wN hw hag H,if_pos rfl];obtain ⟨v',w',hrun,hx,h1,horel,hblk⟩:=h F S2 a w ρ own hag H
 refine wP hd hrun (jf (ρ':=upd ρ S.n v') (own':=own) ?_)
 have hj:F.J S2.j own w':=(F.stable _ _ _ H.jay).2 _ (hx.weaken fun b _ h=>h.elim)
 have hun:∀ i ob,S2.h i=some ob->i ≠ S.n:=fun i ob hi hin=>by
  have:=(hfr S.n (by simp)).1.1
  rw [<- hin,hi] at this;cases this
 have hok:∀ b,okB w own ρ (ze S2.h (qV dead)) b->okB w' own (upd ρ S.n v') (ze S2.h ((S.n,some (.row e k xs)) :: qV dead)) b/\w'.heap[b]?=w'.heap[b]?:=by
  rintro b ⟨g1,g2,g3⟩;refine ⟨⟨aN g1 hx.size,g2,fun i ob hi hb=>?_⟩,rfl⟩
  rw [hh] at hi
  by_cases hin:i=S.n
  ·subst hin
   rw [upd_same] at hb;have:=hblk b hb;omega
  ·rw [upd_ne _ _ _ _ hin] at hi hb
   exact g3 i ob hi hb
 refine H.app (vI hds) hj (hx.weaken fun _ _ h=>h.elim) (.inl rfl) (by simp [Eff.keys]) (fun i hi=>upd_ne _ _ _ _ (by simpa using hi)) (by simpa using hfr) (.row (upd_same _ _ _) h1) ?_ ?_ (fun id hid=>aN (hI id hid) (bD _ _)) .nil
 ·intro i ob hi hob
  by_cases hin:i=S.n
  ·subst hin
   rw [hh,upd_same] at hob;cases hob
   rw [upd_same];exact ⟨horel.mono hok (fun _ _=>rfl) (by simp [AObj.ids]),fun b hb=>⟨fun ho=>by have:=(F.stable _ _ _ H.jay).1 _ ho;have:=hblk b hb;omega,.inl (hblk b hb)⟩⟩
  ·exfalso
   simp only [Eff.keys,aw,ae,hin,false_or] at hi;rw [hh,upd_ne _ _ _ _ hin,wQ,if_pos (by simpa [qV] using hi)] at hob
   cases hob
 ·intro i k' o1 o2 b hi hk ho1 ho2 hb1 hb2
  have key:∀ i ob,i ∈ Eff.keys { av:=.row S.n,hw:=(S.n,some (.row e k xs)) :: qV dead,hr:=hr,news:=[S.n],n:=S.n+1 }->ze S2.h ((S.n,some (.row e k xs)) :: qV dead) i=some ob->i=S.n:=by
   intro i ob hi hob;refine Classical.byContradiction fun hin=>?_
   simp only [Eff.keys,aw,ae,hin,false_or] at hi;rw [hh,upd_ne _ _ _ _ hin,wQ,if_pos (by simpa [qV] using hi)] at hob
   cases hob
  rw [key i o1 hi ho1,key k' o2 hk ho2]
def Yc {F:Frm} {S S2:St} {a:Act} {w:World} {ρ:Nat->Value} {own:Own} (H:Holds F S2 a w ρ own) {all:List Nat} (hag:∀ id ∈ all,S2.h id=S.h id):∀ {cs:List AV} {vs:List Value} {ds:List DV} {is:List Nat},WI S (fun d i=>d=ds/\i=is) cs->(∀ i ∈ is,i ∈ all)->cs.length=vs.length ->
  (∀ (i:Nat) (c:AV) (v:Value),cs[i]?=some c->vs[i]?=some v->ARel w (okB w own ρ S2.h) ρ F.y c v)->ds.length=cs.length/\∀ (i:Nat) (d:DV),ds[i]?=some d->∃ v,vs[i]?=some v/\DRel w (okB w own ρ (ze S2.h (qV all))) d v
 |[],[],ds,is,h,_,_,_=>by obtain ⟨rfl,rfl⟩:=h;simp
 |c :: cs,v :: vs,ds,is,h,hi,hl,hr=>by
  have h0:=hr 0 c v rfl rfl;have rest:∀ {ds' is'},WI S (fun d i=>d=ds'/\i=is') cs->(∀ i ∈ is',i ∈ all)->_:=fun {ds' is'} h hi=>Yc H hag (vs:=vs) (ds:=ds') (is:=is') h hi (by simpa using hl) fun i c v hc hv=>hr (i+1) c v (by simpa using hc) (by simpa using hv)
  have split:∀ (d:DV) (i0:List Nat),WI S (fun ds' is'=>d :: ds'=ds/\i0++is'=is) cs->∃ ds' is',ds=d :: ds'/\is=i0++is'/\WI S (fun d i=>d=ds'/\i=is') cs:=by
   intro d i0 h;have gen:∀ {cs:List AV} {K:List DV->List Nat->Prop},WI S K cs->∃ a b,K a b/\WI S (fun d i=>d=a/\i=b) cs:=by
    intro cs
    induction cs with
    |nil=>intro K h;exact ⟨_,_,h,rfl,rfl⟩
    |cons c cs ih =>
     intro K h;simp only [WI] at h ⊢
     cases c <;> simp only [dvS] at h ⊢
     case row id=>obtain ⟨e,k,xs,hh,h⟩:=h;obtain ⟨a,b,hK,h'⟩:=ih h;refine ⟨_,_,hK,e,k,xs,hh, ?_⟩;clear ih h;simpa using h'
     all_goals first|exact h.elim|(obtain ⟨a,b,hK,h'⟩:=ih h;exact ⟨_,_,hK,by simpa using h'⟩)
   obtain ⟨a,b,⟨rfl,rfl⟩,h'⟩:=gen h;exact ⟨a,b,rfl,rfl,h'⟩
  have fin:∀ (d:DV) (i0:List Nat),WI S (fun ds' is'=>d :: ds'=ds/\i0++is'=is) cs->DRel w (okB w own ρ (ze S2.h (qV all))) d v->ds.length=(c :: cs).length/\∀ (i:Nat) (d:DV),ds[i]?=some d->∃ v',(v :: vs)[i]?=some v'/\DRel w (okB w own ρ (ze S2.h (qV all))) d v':=by
   intro d i0 h hd;obtain ⟨ds',is',rfl,rfl,h'⟩:=split d i0 h
   obtain ⟨g1,g2⟩:=rest h' fun i hm=>hi i (dS _ hm)
   refine ⟨by simp [g1],fun i e he=>?_⟩
   cases i with
   |zero=>simp only [aK,ak] at he;subst he;exact ⟨v,rfl,hd⟩
   |succ i=>simpa using g2 i e (by simpa using he)
  have hm:=(R7 H all).1;simp only [WI] at h
  cases c <;> simp only [dvS] at h
  case v x=>exact fin _ _ h ((Jf rfl h0).mono fun b hb=>⟨hm b hb,rfl⟩)
  case nil=>exact fin _ _ h ((Jf rfl h0).mono fun b hb=>⟨hm b hb,rfl⟩)
  case emp=>exact fin _ _ h ((Jf rfl h0).mono fun b hb=>⟨hm b hb,rfl⟩)
  case sl xs=>exact fin _ _ h ((Jf rfl h0).mono fun b hb=>⟨hm b hb,rfl⟩)
  case row id =>
   obtain ⟨e,k,xs,hh,h⟩:=h;obtain ⟨ds',is',_,his,_⟩:=split _ _ h
   have hmem:id ∈ all:=hi id (by rw [his];simp)
   have:=(R7 H all).2 id hmem e k xs ((hag id hmem).trans hh);cases h0 with
   |row e1 _=>rw [e1] at this;exact fin _ _ h this
  all_goals exact h.elim
 |[],_ :: _,_,_,_,_,hl,_=>by simp at hl
 |_ :: _,[],_,_,_,_,hl,_=>by simp at hl
def chunk {α:Type} (k:Nat):Nat->List α->List (List α)
 |0,_=>[]
 |n+1,l=>l.take k :: chunk k n (l.drop k)
def vB {α:Type} (k:Nat):∀ (n:Nat) (l:List α),(chunk k n l).length=n
 |0,_=>rfl
 |n+1,l=>by simp [chunk,vB k n]
def X0 {α:Type} (k:Nat):∀ (n:Nat) (l:List α) (i j:Nat) (r:List α) (d:α),(chunk k n l)[i]?=some r->r[j]?=some d->l[i * k+j]?=some d/\j < k
 |0,_,_,_,_,_,h,_=>by simp [chunk] at h
 |n+1,l,0,j,r,d,h,hd=>by
  simp only [chunk,aK,ak] at h;subst h
  rw [aP] at hd;split at hd
  ·rename_i hj;exact ⟨by simpa using hd,hj⟩
  ·cases hd
 |n+1,l,i+1,j,r,d,h,hd=>by
  simp only [chunk,bt] at h;obtain ⟨h1,h2⟩:=X0 k n (l.drop k) i j r d h hd
  rw [bM] at h1;exact ⟨by rw [<- h1];congr 1;rw [aE];omega,h2⟩
def XB {α:Type} (k:Nat):∀ (n:Nat) (l:List α),l.length=n * k->∀ r ∈ chunk k n l,r.length=k
 |0,_,_,r,h=>by simp [chunk] at h
 |n+1,l,hl,r,h=>by
  rw [aE] at hl;simp only [chunk,ae] at h
  rcases h with rfl|h
  ·simp;omega
  ·exact XB k n (l.drop k) (by simp;omega) r h
def zeros (z:List AV):Nat->List AV
 |0=>[]
 |n+1=>z++zeros z n
def zeros_length (z:List AV):∀ n,(zeros z n).length=n * z.length
 |0=>by simp [zeros]
 |n+1=>by simp [zeros,zeros_length z n,aE];omega
def WC (z:List AV):∀ (n q:Nat),q < n * z.length->(zeros z n)[q]?=z[q % z.length]?
 |0,q,h=>by simp at h
 |n+1,q,h=>by
  rw [zeros]
  by_cases hq:q < z.length
  ·rw [bp hq,cv hq]
  ·rw [bv (by omega),WC z n _ (by rw [aE] at h;omega)]
   congr 1
   exact (Nat.mod_eq_sub_mod (by omega)).symm
def jS (size i:Nat):Option (Nat × Nat):=some (i * size,size)
def Zm {place:Nat->Option (Nat × Nat)}:∀ {ps:List (Nat × AV)} {cells out:List AV},xz place (fun o=>o=out) cells ps->out.length=cells.length
 |[],_,_,h=>by cases h;rfl
 |p :: ps,cells,out,h=>by
  simp only [xz] at h;split at h
  ·obtain ⟨h1,h2,h3,h4⟩:=h
   rw [Zm h4,qK h2]
  ·exact h.elim
def Xu {ops:Array Oper} {o:Oper} {S:St} (hS:Wf S) (hw:Want ops o S) {t e:TypeId} {n:Nat} {parts:Array (Nat × Operand)} (ho:o.op=.buildSlice t n parts) {i j:TI} (ht:TyFact P t i) (htd:i.td=.slice e) (hj:TyFact P e j) (hk:0 < j.cells) (hn:0 < n) (hmax:n * j.cells<=16777216)
  {K:List DV->List Nat->Prop} (h:xz (jS j.cells) (fun cs=>WI S K cs) (zeros j.zero n) (parts.toList.map fun p=>(p.1,ev S p.2))) :
  ∃ ds dead,K ds dead/\VE A P ops o { av:=.row S.n,hw:=(S.n,some (.row e j.cells (chunk j.cells n ds))) :: qV dead,hr:=dead,news:=[S.n],n:=S.n+1 } S:=by
 obtain ⟨d,hd,hok⟩:=ht.under;rw [htd] at hok
 simp only [TD.ok] at hok;subst hok
 obtain ⟨out,hdv,ho'⟩:=Zg h;have gen:∀ {cs:List AV} {K:List DV->List Nat->Prop},WI S K cs->∃ a b,K a b/\WI S (fun d i=>d=a/\i=b) cs/\∀ i ∈ b,∃ ob,S.h i=some ob:=by
  intro cs
  induction cs with
  |nil=>intro K h;exact ⟨_,_,h,⟨rfl,rfl⟩,by simp⟩
  |cons c cs ih =>
   intro K h;simp only [WI] at h ⊢
   cases c <;> simp only [dvS] at h ⊢
   case row id =>
    obtain ⟨e,k,xs,hh,h⟩:=h;obtain ⟨a,b,hK,h',hb⟩:=ih h
    refine ⟨_,_,hK,⟨e,k,xs,hh, ?_⟩, ?_⟩
    ·clear ih h;simpa using h'
    ·intro i hi
     rcases ae.1 hi with rfl|hi
     ·exact ⟨_,hh⟩
     ·exact hb i hi
   all_goals first|exact h.elim|(obtain ⟨a,b,hK,h',hb⟩:=ih h;exact ⟨_,_,hK,by simpa using h',by simpa using hb⟩)
 obtain ⟨ds,dead,hK,hdv,hdob⟩:=gen hdv;refine ⟨ds,dead,hK,VE.newRowD hS hw (by simp [ho]) (fun i hi=>⟨hi,hdob i hi⟩) fun F S2 a w ρ own hag H=>?_⟩
 obtain ⟨z,hz,h1,h2,h3⟩:=hj.run_zero w;have hzl:j.zero.length=j.cells:=by rw [<- h1];simpa using h2
 have hsz:z.cells.size=j.cells:=h2;have hp:=Wp (S:=S) H (parts:=parts) fun x hx=>hag.ev (x:=x) (by simp [ho,Op.operands];simpa using hx)
 have hinit:CRel w (okB w own ρ S2.h) ρ F.y (zeros j.zero n) ((Array.range (n * j.cells)).map (z.cells[· % z.cells.size]!)):=by
  refine ⟨by simp [zeros_length,hzl],fun q c hc=>?_⟩
  have hq:q < n * j.cells:=by have:=(aq.1 hc).1;rwa [zeros_length,hzl] at this
  rw [WC _ _ _ (by rw [hzl];exact hq),hzl] at hc
  have hcr:=(Wv (w:=w) (ok:=okB w own ρ S2.h) (ρ:=ρ) (y:=F.y) h1 h3).rel _ c hc;have hmod:q % j.cells < z.cells.size:=by rw [hsz];exact ce _ hk
  have:((Array.range (n * j.cells)).map (z.cells[· % z.cells.size]!)).getD q undef=z.cells.getD (q % j.cells) undef:=by
   simp [hq,hsz,hmod,ce _ hk]
  rw [this];exact hcr
 obtain ⟨_,vout,rfl,g2,g3⟩:=ZZ ho' hp.1 hp.2 hinit;have hol:vout.size=n * j.cells:=by rw [g3.size,Zm ho',zeros_length,hzl]
 obtain ⟨q1,q2⟩:=Yc (S:=S) H (all:=dead) (vs:=vout.toList) (fun id hid=>hag.2.1 id hid) hdv (fun _ h=>h) (by simp [g3.size]) fun i c v hc hv=>by
  have:=(g3.rel i c hc).1;have hv':vout[i]?=some v:=by simpa using hv
  simpa [hv'] using this
 have hdl:ds.length=n * j.cells:=by rw [q1,<- g3.size,hol]
 refine ⟨.slice (some ⟨w.heap.size,0,none⟩) n n,w.alloc (.cells vout e), ?_,Ext.alloc _ _ _,rfl, ?_,fun b hb=>?_⟩
 ·have h0:¬ (2 ^ 24 < n * j.cells):=by have:(2:Nat) ^ 24=16777216:=rfl;omega
  have h00:¬ (n * j.cells=0):=by
   have:0 < n * j.cells:=Nat.mul_pos hn hk;omega
  have hpl:(fun q=>some (q * j.cells,j.cells))=jS j.cells:=rfl
  simp only [execOp,ho,Instr.buildSlice,aH,run_underlying hd,aJ,hj.run_sizeOf,gt_iff_lt,h0,if_false,h00,hz,aL,hpl,g2]
  simp [newRow,newObj,Sem.run]
 ·refine .row (flat:=vout.toList) hk (XB _ _ _ hdl) (.inl ⟨by simp [vB,hol],.inr ⟨w.heap.size,n,vout,by rw [vB],af _,QA _ _,by rw [vB];exact ag _, ?_,hol, ?_⟩⟩) fun i r q d hi hq=>?_
  ·have:n * 1<=n * j.cells:=Nat.mul_le_mul_left _ hk
   have hml:(16777216:Nat)<=maxLen:=by decide
   omega
  ·rw [vB];exact bb (by rw [ba,hol];exact ag _)
  ·obtain ⟨e1,e2⟩:=X0 _ _ _ _ _ _ _ hi hq
   obtain ⟨v,hv,hdv⟩:=q2 _ _ e1;exact ⟨v,hv,hdv.mono fun b hb=>⟨hb,(Ext.alloc (fun _=>False) w _).block b hb.1 (by simp)⟩⟩
 ·simp only [blk] at hb
  split at hb
  ·cases hb
  ·cases hb;exact ag _
def VE.setRowD {ops:Array Oper} {o:Oper} {S:St} {id:Nat} {ob:AObj} {e:TypeId} {k:Nat} {xs:List (List DV)} {dead hr:List Nat} (hS:Wf S) (hw:Want ops o S) (hd:∀ c,o.op ≠ .defer c) (hob:S.h id=some ob) (hidr:id ∈ hr)
  (hdead:∀ i ∈ dead,i ∈ hr/\∃ ob,S.h i=some ob) (hnd:id ∉ dead)
  (h:∀ F S2 a w ρ own,Agree ops o { av:=.junk,hw:=(id,some (.row e k xs)) :: qV dead,hr:=hr,n:=S.n } S S2->Holds F S2 a w ρ own->S2.h id=some ob ->
   ∃ w',(execOp a.eval o).run P w=.ok .skip w'/\Ext (fun b=>blk (ρ id)=some b) w w'/\ORel w' (okB w own ρ (ze S2.h (qV dead))) ρ F.y (.row e k xs) (ρ id)) :
  VE A P ops o { av:=.junk,hw:=(id,some (.row e k xs)) :: qV dead,hr:=hr,n:=S.n } S:=by
 have hlt:id < S.n:=bm fun hn=>by have:=(hS id hn).1;rw [hob] at this;cases this
 have hdlt:∀ i ∈ dead,i < S.n:=fun i hi=>bm fun hn=>by
  obtain ⟨_,ob,hob⟩:=hdead i hi;have:=(hS i hn).1;rw [hob] at this;cases this
 have hwi:∀ (l:List Nat) id,id ∈ zM (qV l)->id ∈ l:=by
  intro l
  induction l with
  |nil=>simp [qV,zM]
  |cons i l ih =>
   intro id hid;simp only [qV,aw,zM,bc,ae] at hid ⊢
   exact hid.imp_right fun h=>ih id h
 have hI:∀ i ∈ Eff.ids { av:=.junk,hw:=(id,some (.row e k xs)) :: qV dead,hr:=hr,n:=S.n },i < S.n:=by
  intro i hi;simp only [Eff.ids,AV.ids,zM,AObj.ids,bT,bf,bc,ae] at hi
  rcases hi with rfl|hi
  ·exact hlt
  ·exact hdlt i (hwi _ _ hi)
 have hh:∀ (h0:Nat->Option AObj),ze h0 ((id,some (.row e k xs)) :: qV dead)=upd (ze h0 (qV dead)) id (some (.row e k xs)):=fun h0=>by
  funext i
  simp only [ze];rw [wQ]
  by_cases hi:i=id
  ·subst hi;rw [if_neg hnd,upd_same,upd_same]
  ·rw [upd_ne _ _ _ _ hi,upd_ne _ _ _ _ hi,wQ]
 refine ⟨fun F hF hds S2 a w hag _ ⟨ρ,own,H⟩=>?_,hI,by simp⟩
 rw [wN hw hag H,if_pos rfl];have hob2:S2.h id=some ob:=(hag.2.1 id hidr).trans hob
 obtain ⟨w',hrun,hx,horel⟩:=h F S2 a w ρ own hag H hob2;refine Xc hd hrun (jf (ρ':=ρ) (own':=own) ?_)
 have hno:∀ b,own.all b->blk (ρ id) ≠ some b:=fun b ho hb=>(H.blkOK id ob b hob2 hb).1 ho
 have hj:F.J S2.j own w':=(F.stable _ _ _ H.jay).2 _ (hx.weaken fun b _ hb ho=>hno b ho hb)
 have hok:∀ b,okB w own ρ (ze S2.h (qV dead)) b->okB w' own ρ (ze S2.h ((id,some (.row e k xs)) :: qV dead)) b/\w'.heap[b]?=w'.heap[b]?:=by
  rintro b ⟨h1,h2,h3⟩;refine ⟨⟨aN h1 hx.size,h2,fun i o hi hb=>?_⟩,rfl⟩
  rw [hh] at hi
  by_cases hin:i=id
  ·subst hin;exact h3 i ob (by rw [wQ,if_neg hnd];exact hob2) hb
  ·rw [upd_ne _ _ _ _ hin] at hi;exact h3 i o hi hb
 have key:∀ i o1,i ∈ Eff.keys { av:=.junk,hw:=(id,some (.row e k xs)) :: qV dead,hr:=hr,n:=S.n }->ze S2.h ((id,some (.row e k xs)) :: qV dead) i=some o1->i=id:=by
  intro i o1 hi ho1;refine Classical.byContradiction fun hin=>?_
  simp only [Eff.keys,aw,ae,hin,false_or] at hi;rw [hh,upd_ne _ _ _ _ hin,wQ,if_pos (by simpa [qV] using hi)] at ho1
  cases ho1
 refine H.app (vI hds) hj (hx.weaken fun b _ hb=>.inr ⟨id,ob,by simp [Eff.keys],hob2,hb⟩) (.inl rfl) (by simp [Eff.keys]) (fun i _=>rfl) (by simp) .junk ?_ ?_ ?_ .nil
 ·intro i o1 hi ho1
  have:=key i o1 hi ho1;subst this
  simp only [hh,upd_same,ak] at ho1;subst ho1
  exact ⟨horel.mono hok (fun _ _=>rfl) (fun _ _=>rfl),fun b hb=>⟨(H.blkOK i ob b hob2 hb).1,.inr ⟨i,ob,by simp [Eff.keys],hob2,hb⟩⟩⟩
 ·intro i k o1 o2 b hi hk ho1 ho2 _ _
  rw [key i o1 hi ho1,key k o2 hk ho2]
 ·intro i hi
  exact aN (hI i hi) (bD _ _)
def QdN {ops:Array Oper} {o:Oper} {S:St} (hS:Wf S) (hw:Want ops o S) {t:TypeId} {x v:Operand} (ho:o.op=.store t x v) {i:TI} (ht:TyFact P t i) (hall:(cellsOf (ev S v)).all jI=true) (hlen:(cellsOf (ev S v)).length=i.cells)
  {id k m off:Nat} (hx0:ev S x=.rp id k m off) {e:TypeId} {xs:List (List DV)} (hh:S.h id=some (.row e k xs)) {ds:List DV} {dead:List Nat} (hds:WI S (fun d i=>d=ds/\i=dead) (cellsOf (ev S v))) (hdd:∀ i ∈ dead,∃ ob,S.h i=some ob) (hnd:id ∉ dead)
  (hfit:off+ds.length<=k) (hm:m < xs.length) :
  VE A P ops o { av:=.junk,hw:=(id,some (.row e k (xs.set m ((xs[m]'hm).take off++ds++(xs[m]'hm).drop (off+ds.length))))) :: qV dead,hr:=id :: dead,n:=S.n } S:=by
 have hxe:∀ F S2 a w ρ own e,Agree ops o e S S2->Holds F S2 a w ρ own->ARel w (okB w own ρ S2.h) ρ F.y (ev S x) (a.eval x):=fun F S2 a w ρ own e hag H=>by
  rw [<- hag.ev (x:=x) (by simp [ho,Op.operands])];exact qm H x
 have hve:∀ F S2 a w ρ own e,Agree ops o e S S2->Holds F S2 a w ρ own->ARel w (okB w own ρ S2.h) ρ F.y (ev S v) (a.eval v):=fun F S2 a w ρ own e hag H=>by
  rw [<- hag.ev (x:=v) (by simp [ho,Op.operands])];exact qm H v
 generalize hnew:cellsOf (ev S v)=new at *;rw [hx0] at hxe
 have run:∀ (w:World) (g off:Nat) (T:TypeId) (cur cells:Array Value) (val:Value),w.heap[g]?=some (.cells cur T (0,0))->val.cells=cells->cells.size=i.cells->off+cells.size<=cur.size->(∀ u ∈ cells.toList,u.oneCell'=true) ->
   (storeVar t ⟨g,off,none⟩ val).run P w=.ok () (w.setRow g (cur.toList.take off++cells.toList++cur.toList.drop (off+cells.toList.length)).toArray):=by
  intro w g off T cur cells val hg hc hs hfit h1;have hst:=run_storeCells_at P g off T cells.toList 0 cur w hg (by simpa using hfit) h1
  simp only [bC] at hst;simp only [storeVar,aH,ht.run_sizeOf,aJ,hc,hs,ne_eq,not_true_eq_false,if_false,hst]
 refine VE.setRowD hS hw (by simp [ho]) hh (by simp) (fun i hi=>⟨aQ _ hi,hdd i hi⟩) hnd fun F S2 a w ρ own hag H hob=>?_
 have h1:=hxe F S2 a w ρ own _ hag H;have h2:=hve F S2 a w ρ own _ hag H
 obtain ⟨h3,h4⟩:=Qy (by rw [hnew];exact hall) h2
 rw [hnew] at h3 h4;obtain ⟨q1,q2⟩:=Yc (S:=S) H (all:=dead) (vs:=(a.eval v).cells.toList) (fun id hid=>hag.2.1 id (aQ _ hid)) hds (fun _ h=>h) (by simp [h3]) fun i c u hc hu=>by
  have:=(h4 i c hc).1;have hu':(a.eval v).cells[i]?=some u:=by simpa using hu
  simpa [hu'] using this
 have h5:=H.obj id _ hob;have hdok:=(R7 H dead).1
 have hnot:∀ b,okB w own ρ (ze S2.h (qV dead)) b->blk (ρ id) ≠ some b:=fun b hb=>hb.2.2 id _ (by rw [wQ,if_neg hnd];exact hob)
 generalize hv:a.eval x=vx at h1;cases h1 with
 |@rp _ _ _ _ b n cap eρ =>
  rw [eρ] at h5 hnot ⊢;cases h5 with
  |@row _ _ _ _ flat r1 r2 r3 r4 =>
   obtain ⟨_,g,cap',cur,hx0,hg,hnc,hcm,hcs,htake,hbk⟩:=wO r3 (by omega)
   ·simp only [Value.slice.injEq,ak,Addr.mk.injEq,and_true] at hx0
    obtain ⟨rfl,rfl,rfl⟩:=hx0;have hone:∀ u ∈ (a.eval v).cells.toList,u.oneCell'=true:=fun u hu=>by
     obtain ⟨j,hj⟩:=bN hu;have hlt:=(aq.1 hj).1
     have hj':(a.eval v).cells[j]?=some u:=by simpa using hj
     have:=(h4 j _ (al (show j < new.length by simp at hlt;omega))).2
     simpa [hj'] using this
    have hxl:∀ (q:Nat) (r:List DV),xs[q]?=some r->r.length=k:=fun q r hq=>r2 r (ao hq)
    have hml:xs[m].length=k:=hxl m _ (al hm);have hspace:m * k+off+(a.eval v).cells.size<=cur.size:=by
     rw [hcs,h3,<- q1];have:(m+1) * k<=cap * k:=aG _ (by omega)
     rw [aE] at this;omega
    have hr:=run w b (m * k+off) e cur _ (a.eval v) hg rfl (by omega) hspace hone
    have hrun:(execOp a.eval o).run P w=.ok .skip (w.setRow b (cur.toList.take (m * k+off)++(a.eval v).cells.toList++cur.toList.drop (m * k+off+(a.eval v).cells.toList.length)).toArray):=by
     simp only [execOp,ho,hv,Instr.storeAt,Instr.sureAddr,aH,aL,aJ,hr]
    have hcap:cap ≠ 0:=by omega
    refine ⟨_,hrun,Ext.setRow _ _ _ (by simp [blk];omega), ?_⟩
    have hfit':m * k+off+(a.eval v).cells.toList.length<=cur.toList.length:=by simpa using hspace
    have hmono:∀ {d u},DRel w (okB w own ρ (ze S2.h (qV dead))) d u->DRel (w.setRow b (cur.toList.take (m * k+off)++(a.eval v).cells.toList++cur.toList.drop (m * k+off+(a.eval v).cells.toList.length)).toArray) (okB w own ρ (ze S2.h (qV dead))) d u:=fun hr =>
     hr.mono (fun q hq=>⟨hq,setRow_other w b q _ (fun eq=>hnot q hq (by simp [blk,eq,hcap]))⟩)
    have hrl:((xs[m].take off++ds++xs[m].drop (off+ds.length))).length=k:=by rw [qK (by omega),hml]
    have hlenxs:(xs.set m (xs[m].take off++ds++xs[m].drop (off+ds.length))).length=xs.length:=by simp
    refine .row (flat:=(cur.toList.take (m * k+off)++(a.eval v).cells.toList++cur.toList.drop (m * k+off+(a.eval v).cells.toList.length)).take (xs.length * k)) r1 (fun r hr'=>?_) (.inl ⟨?_,.inr ⟨b,cap,_, ?_,af _,setRow_heap w b cur _ e _ hg, ?_,hcm, ?_, ?_⟩⟩) fun q r j d hq hj=>?_
    ·rcases bV hr' with h|h
     ·exact r2 r h
     ·rw [h];exact hrl
    ·rw [bi,qK hfit',hlenxs]
     have:xs.length * k<=cap * k:=aG _ hnc;simp only [ba,hcs]
     omega
    ·rw [hlenxs]
    ·rw [hlenxs];exact hnc
    ·rw [cd,qK hfit',ba,hcs]
    ·rw [hlenxs]
    ·rw [cO] at hq
     have hqlt:q < xs.length:=by
      by_cases hqm:m=q
      ·omega
      ·rw [if_neg hqm] at hq;exact (aq.1 hq).1
     have hjlt:j < k:=by
      have hjl:=(aq.1 hj).1
      by_cases hqm:m=q
      ·subst hqm;simp only [if_true,hm,ak] at hq;subst hq;omega
      ·rw [if_neg hqm] at hq;have:=hxl q r hq;omega
     have hin:q * k+j < xs.length * k:=by
      have:(q+1) * k<=xs.length * k:=aG _ hqlt;rw [aE] at this
      omega
     have oldu:∀ (d:DV),xs[q][j]?=some d->∃ u,cur.toList[q * k+j]?=some u/\DRel w (okB w own ρ (ze S2.h (qV dead))) d u:=fun d hd=>by
      obtain ⟨u,hu,hdu⟩:=r4 q _ j d (al hqlt) hd;rw [<- htake,aP,if_pos hin] at hu
      exact ⟨u,hu,hdu.mono fun b hb=>⟨hdok b hb,rfl⟩⟩
     rw [aP,if_pos hin,zI hfit']
     by_cases hqm:m=q
     ·subst hqm
      simp only [if_true,hm,ak] at hq;subst hq
      rw [zI (by omega)] at hj
      by_cases hj1:j < off
      ·rw [if_pos hj1] at hj
       rw [if_pos (by omega)]
       obtain ⟨u,hu,hdu⟩:=oldu d hj;exact ⟨u,hu,hmono hdu⟩
      ·rw [if_neg hj1] at hj
       rw [if_neg (by omega)]
       by_cases hj2:j < off+ds.length
       ·rw [if_pos hj2] at hj
        rw [if_pos (by simp only [ba];omega)]
        obtain ⟨u,hu,hdu⟩:=q2 _ _ hj;exact ⟨u,by rw [show m * k+j - (m * k+off)=j - off by omega];exact hu,hmono hdu⟩
       ·rw [if_neg hj2] at hj
        rw [if_neg (by simp only [ba];omega)]
        obtain ⟨u,hu,hdu⟩:=oldu d hj;exact ⟨u,hu,hmono hdu⟩
     ·rw [if_neg hqm] at hq
      have hxq:xs[q]?=some r:=hq;have hrq:r=xs[q]:=by rw [al hqlt] at hxq;exact (Option.some.inj hxq).symm
      subst hrq;obtain ⟨u,hu,hdu⟩:=oldu d hj
      have hoff:q * k+j < m * k+off\/m * k+off+ds.length<=q * k+j:=by
       rcases Nat.lt_or_gt_of_ne hqm with h|h
       ·right
        have:(m+1) * k<=q * k:=aG _ h;rw [aE] at this
        omega
       ·left
        have:(q+1) * k<=m * k:=aG _ h;rw [aE] at this
        omega
      rcases hoff with h|h
      ·rw [if_pos h];exact ⟨u,hu,hmono hdu⟩
      ·rw [if_neg (by omega),if_neg (by simp only [ba];omega)];exact ⟨u,hu,hmono hdu⟩
def Xw {ops:Array Oper} {o:Oper} {S:St} (hw:Want ops o S) {t e:TypeId} {parts:Array (Nat × Operand)} (ho:o.op=.buildSlice t 0 parts) (hp:parts=#[]) {i j:TI} (ht:TyFact P t i) (htd:i.td=.slice e) (hj:TyFact P e j) :
  VE A P ops o { av:=.emp,n:=S.n } S:=by
 obtain ⟨d,hd,hok⟩:=ht.under;rw [htd] at hok
 simp only [TD.ok] at hok;subst hok
 refine VE.val hw (by simp [ho]) (by simp [AV.ids]) fun F S2 a w ρ own hag H=>⟨.slice (some ⟨w.heap.size,0,none⟩) 0 0,w.alloc (.cells #[] e), ?_,Ext.alloc _ _ _,.emp⟩
 simp [execOp,ho,hp,Instr.buildSlice,run_underlying hd,hj.run_sizeOf,Instr.fill,newRow,newObj,Sem.run]
 exact congrArg (fun c=>w.alloc (Obj.cells c e)) (cY (by simp))
section make
variable {ops : Array Oper} {o : Oper} {S : St} {t e : TypeId} {x y : Operand} {i j : TI} {k k' : IntKind} {n : Int}
def Qgg (ho:o.op=.makeSlice t x y) (ht:TyFact P t i) (htd:i.td=.slice e) (hj:TyFact P e j) (h0:0<=n) (hb:(j.bytes:Int) * n<=140737488355328) (hn:n<=maxLen) {a:Act} (hx:a.eval x=.int k n) (hy:a.eval y=.int k' n) (w:World) :
  ∃ z:Value,z.cells.toList.map vw=j.zero/\z.cells.size=j.cells/\(∀ u ∈ z.cells.toList,u.oneCell'=true)/\(execOp a.eval o).run P w=.ok (.value (.slice (some ⟨w.heap.size,0,none⟩) n.toNat n.toNat)) (w.alloc (.cells (madeCells z.cells (n.toNat * j.cells)) e)):=by
 obtain ⟨d,hd,hok⟩:=ht.under;rw [htd] at hok
 simp only [TD.ok] at hok;subst hok
 obtain ⟨inf,z,hi,hs,hby,hz,h1,h2,h3⟩:=hj.info;have hm:=Qbl
 have:=run_make (P:=P) w t e inf z hd hi hz k k' n n h0 (cw _) (by rw [hby];omega) (by omega)
 exact ⟨z,h1,h2,h3,by simp [execOp,ho,hx,hy,this,hs]⟩
def Vn {z:Array Value} {m q c:Nat} (hz:z.size=c) (hq:q < m * c):(madeCells z (m * c))[q]?=z[q % c]?/\q % c < z.size:=by
 have hc:0 < c:=by
  rcases dT c with h|h
  ·rw [h] at hq;simp at hq
  ·exact h
 have hl:q % c < z.size:=by rw [hz];exact ce _ hc
 refine ⟨?_,hl⟩
 simp [madeCells,hq,hz,ce q hc]
def Qbt (hS:Wf S) (hw:Want ops o S) (ho:o.op=.makeSlice t x y) (ht:TyFact P t i) (htd:i.td=.slice e) (hj:TyFact P e j) (hk:0 < j.cells) (hx:ev S x=.v (.int k n)) (hy:ev S y=.v (.int k' n)) (h0:0<=n)
  (hb:(j.bytes:Int) * n<=140737488355328) (hn:n<=maxLen) {ds:List DV} (hz:dvL j.zero=some ds) :
  VE A P ops o { av:=.row S.n,hw:=(S.n,some (.row e j.cells (List.replicate n.toNat ds))) :: qV [],hr:=[],news:=[S.n],n:=S.n+1 } S:=by
 refine VE.newRowD hS hw (by simp [ho]) (by simp) fun F S2 a w ρ own hag H=>?_
 have h1:=qm H x;rw [hag.ev (x:=x) (by simp [ho,Op.operands]),hx] at h1
 have h2:=qm H y;rw [hag.ev (x:=y) (by simp [ho,Op.operands]),hy] at h2
 obtain ⟨z,z1,z2,z3,hr⟩:=Qgg ho ht htd hj h0 hb hn (qx h1).1 (qx h2).1 w;obtain ⟨g1,g2⟩:=YZ hz
 have hdl:ds.length=j.cells:=by rw [<- g1,<- z1];simpa using z2
 refine ⟨_,_,hr,Ext.alloc _ _ _,rfl, ?_,fun b hb=>?_⟩
 ·refine .row (flat:=(madeCells z.cells (n.toNat * j.cells)).toList) hk (fun r hr=>by rw [c8 hr,hdl])
   (.inl ⟨by simp [size_madeCells],.inr ⟨w.heap.size,n.toNat,madeCells z.cells (n.toNat * j.cells),by simp,af _,QA _ _,by simp,by omega,size_madeCells _ _, ?_⟩⟩) fun q r p d hq hp=>?_
  ·rw [bJ];exact bb (by rw [ba,size_madeCells];exact ag _)
  ·have hqn:=(aq.1 hq).1
   rw [bJ] at hqn;rw [da,if_pos hqn] at hq
   cases hq;have hpl:p < j.cells:=by rw [<- hdl];exact (aq.1 hp).1
   have hlt:q * j.cells+p < n.toNat * j.cells:=by
    have:(q+1) * j.cells<=n.toNat * j.cells:=aG _ hqn;rw [aE] at this;omega
   obtain ⟨c,hc,hcd⟩:=g2 p d hp;rw [<- z1,aC] at hc
   obtain ⟨v,hv,rfl⟩:=aA.1 hc;refine ⟨v, ?_,Jf (ρ:=ρ) (y:=F.y) hcd (kz v)⟩
   have:=(Vn z2 hlt).1;rw [show (q * j.cells+p) % j.cells=p by rw [bR,Nat.add_mul_mod_self_right,cv hpl]] at this
   rw [cZ,this]
   simpa using hv
 ·simp only [blk] at hb
  split at hb
  ·cases hb
  ·cases hb;exact ag _
def QdR (hS:Wf S) (hw:Want ops o S) (ho:o.op=.makeSlice t x y) (ht:TyFact P t i) (htd:i.td=.slice e) (hj:TyFact P e j) (hj0:j.zero=[.nil]) (hx:ev S x=.v (.int k n)) (hy:ev S y=.v (.int k' n)) (h0:0<=n)
  (hb:(j.bytes:Int) * n<=140737488355328) (hn:n<=maxLen) :
  VE A P ops o { av:=.csl S.n n.toNat,hw:=[(S.n,some (.cells (List.replicate n.toNat .nil)))],hr:=[],news:=[S.n],n:=S.n+1 } S:=by
 have hI:∀ id ∈ Eff.ids { av:=.csl S.n n.toNat,hw:=[(S.n,some (.cells (List.replicate n.toNat .nil)))],hr:=[],news:=[S.n],n:=S.n+1 },id < S.n+1:=by
  intro id hid;simp only [Eff.ids,AV.ids,zM,AObj.ids,bf,bT,au,ae,aO,or_false] at hid
  rcases hid with rfl|rfl|hid
  ·omega
  ·omega
  ·obtain ⟨c,hc,hid⟩:=AV.mem_idsL.1 hid
   rw [c8 hc] at hid;cases hid
 refine ⟨fun F hF hds S2 a w hag hfr ⟨ρ,own,H⟩=>?_,hI,by simp⟩
 rw [wN hw hag H,if_pos rfl];have h1:=qm H x
 rw [hag.ev (x:=x) (by simp [ho,Op.operands]),hx] at h1
 have h2:=qm H y;rw [hag.ev (x:=y) (by simp [ho,Op.operands]),hy] at h2
 obtain ⟨z,z1,z2,z3,hr⟩:=Qgg ho ht htd hj h0 hb hn (qx h1).1 (qx h2).1 w;have hj1:j.cells=1:=by rw [<- z2];have:=congrArg List.length z1;rw [hj0] at this;simpa using this
 rw [hj1,bI] at hr;have hnil:∀ u ∈ z.cells.toList,vw u=.nil:=fun u hu=>by
  have:=List.mem_map_of_mem (f:=vw) hu;rw [z1,hj0] at this;simpa using this
 refine wP (by simp [ho]) hr (jf (ρ':=upd ρ S.n (.pointer (some ⟨w.heap.size,0,none⟩))) (own':=own) ?_)
 have hx':Ext (fun _=>False) w (w.alloc (.cells (madeCells z.cells n.toNat) e)):=Ext.alloc _ _ _
 have hjj:F.J S2.j own (w.alloc (.cells (madeCells z.cells n.toNat) e)):=(F.stable _ _ _ H.jay).2 _ (hx'.weaken fun _ _ h=>h.elim)
 refine H.app (vI hds) hjj (hx'.weaken fun _ _ h=>h.elim) (.inl rfl) (by simp [Eff.keys]) (fun i hi=>upd_ne _ _ _ _ (by simpa using hi)) (by simpa using hfr) (.csl (upd_same _ _ _) (ag _)) ?_ ?_ ?_ .nil
 ·intro i ob hi hob
  simp only [Eff.keys,aw,aX,aM] at hi;subst hi
  simp only [ze,upd_same,ak] at hob;subst hob
  rw [upd_same];refine ⟨.cells (QA _ _) (by simp [size_madeCells]) fun i c hc=>?_,fun b hb=>?_⟩
  ·have hqn:=(aq.1 hc).1
   rw [bJ] at hqn;rw [da,if_pos hqn] at hc
   cases hc;have hg:=Vn (z:=z.cells) (m:=n.toNat) (q:=i) (c:=1) (by rw [z2,hj1]) (by omega)
   rw [bI] at hg;have hv:z.cells[i % 1]?=some (z.cells[i % 1]'hg.2):=cp hg.2
   have hmem:z.cells[i % 1]'hg.2 ∈ z.cells.toList:=by simp
   have:(madeCells z.cells n.toNat).getD i undef=z.cells[i % 1]'hg.2:=by simp [hg.1,hv]
   rw [this];exact ⟨by rw [<- hnil _ hmem];exact kz _,z3 _ hmem⟩
  ·simp [blk] at hb
   subst hb;exact ⟨fun ho=>by have:=(F.stable _ _ _ H.jay).1 _ ho;omega,.inl (ag _)⟩
 ·intro i k o1 o2 b hi hk _ _ _ _
  simp only [Eff.keys,aw,aX,aM] at hi hk;rw [hi,hk]
 ·intro id hid
  exact aN (hI id hid) (bD _ _)
end make
def VE.setVal {ops:Array Oper} {o:Oper} {S:St} {id:Nat} {ob ob':AObj} {hr:List Nat} {u:Value} (hu:u.oneCell'=true) (hS:Wf S) (hw:Want ops o S) (hd:∀ c,o.op ≠ .defer c) (hob:S.h id=some ob) (hidr:id ∈ hr) (hids:∀ i ∈ ob'.ids,i < S.n)
  (h:∀ F S2 a w ρ own,Agree ops o { av:=.v u,hw:=[(id,some ob')],hr:=hr,n:=S.n } S S2->Holds F S2 a w ρ own->S2.h id=some ob ->
   ∃ w',(execOp a.eval o).run P w=.ok (.value u) w'/\Ext (fun b=>blk (ρ id)=some b) w w'/\ORel w' (okB w own ρ S2.h) ρ F.y ob' (ρ id)) :
  VE A P ops o { av:=.v u,hw:=[(id,some ob')],hr:=hr,n:=S.n } S:=by
 have hlt:id < S.n:=bm fun hn=>by have:=(hS id hn).1;rw [hob] at this;cases this
 have hI:∀ i ∈ Eff.ids { av:=.v u,hw:=[(id,some ob')],hr:=hr,n:=S.n },i < S.n:=by
  intro i hi;simp only [Eff.ids,AV.ids,zM,bf,bT,bc,ae] at hi
  rcases hi with rfl|hi
  ·exact hlt
  ·exact hids i hi
 refine ⟨fun F hF hds S2 a w hag _ ⟨ρ,own,H⟩=>?_,hI,by simp⟩
 rw [wN hw hag H,if_pos rfl];have hob2:S2.h id=some ob:=(hag.2.1 id hidr).trans hob
 obtain ⟨w',hrun,hx,horel⟩:=h F S2 a w ρ own hag H hob2;refine wP hd hrun (jf (ρ':=ρ) (own':=own) ?_)
 have hno:∀ b,own.all b->blk (ρ id) ≠ some b:=fun b ho hb=>(H.blkOK id ob b hob2 hb).1 ho
 have hj:F.J S2.j own w':=(F.stable _ _ _ H.jay).2 _ (hx.weaken fun b _ hb ho=>hno b ho hb)
 have hok:∀ b,okB w own ρ S2.h b->okB w' own ρ (upd S2.h id (some ob')) b/\w'.heap[b]?=w'.heap[b]?:=by
  rintro b ⟨h1,h2,h3⟩;refine ⟨⟨aN h1 hx.size,h2,fun i o hi hb=>?_⟩,rfl⟩
  by_cases hin:i=id
  ·subst hin;exact h3 i ob hob2 hb
  ·rw [upd_ne _ _ _ _ hin] at hi;exact h3 i o hi hb
 refine H.app (vI hds) hj (hx.weaken fun b _ hb=>.inr ⟨id,ob,by simp [Eff.keys],hob2,hb⟩) (.inl rfl) (by simp [Eff.keys]) (fun i _=>rfl) (by simp) (.v hu) ?_ ?_ ?_ .nil
 ·intro i o1 hi ho1
  simp only [Eff.keys,aw,aX,aM] at hi;subst hi
  simp only [ze,upd_same,ak] at ho1;subst ho1
  exact ⟨horel.mono hok (fun _ _=>rfl) (fun _ _=>rfl),fun b hb=>⟨(H.blkOK i ob b hob2 hb).1,.inr ⟨i,ob,by simp [Eff.keys],hob2,hb⟩⟩⟩
 ·intro i k o1 o2 b hi hk _ _ _ _
  simp only [Eff.keys,aw,aX,aM] at hi hk;rw [hi,hk]
 ·intro i hi
  exact aN (hI i hi) (bD _ _)
section part
variable {ops : Array Oper} {o : Oper} {S : St}
def Ut (hS:Wf S) (hw:Want ops o S) {t e:TypeId} {x:Operand} {lo hi:Option Operand} (ho:o.op=.slice t x lo hi none) {i j:TI} (ht:TyFact P t i) (htd:i.td=.slice e) (hj:TyFact P e j) {id:Nat} {e':TypeId} {xs:List (List DV)} (hx:ev S x=.row id) (hc:S.h id=some (.row e' j.cells xs))
  {av:AV} (hyp:QdU S 0 (fun l=>QdU S xs.length (fun h=>0<=l/\l<=h/\h<=xs.length/\0 < xs.length/\((l < xs.length/\av=.rsl id j.cells l.toNat (h.toNat - l.toNat))\/(l=xs.length/\av=.sl []))) hi) lo):VE A P ops o { av:=av,hr:=[id],n:=S.n } S:=by
 obtain ⟨d,hd,hok⟩:=ht.under;rw [htd] at hok
 simp only [TD.ok] at hok;subst hok
 have h1:∃ l h:Int,(0<=l/\l<=h/\h<=xs.length/\0 < xs.length/\((l < xs.length/\av=.rsl id j.cells l.toNat (h.toNat - l.toNat))\/(l=xs.length/\av=.sl [])))/\((lo=none/\l=0)\/∃ z k,lo=some z/\ev S z=.v (.int k l))/\((hi=none/\h=xs.length)\/∃ z k,hi=some z/\ev S z=.v (.int k h)):=by
  cases lo with
  |none =>
   cases hi with
   |none=>exact ⟨_,_,hyp,.inl ⟨rfl,rfl⟩,.inl ⟨rfl,rfl⟩⟩
   |some z=>obtain ⟨k,n,e,hs⟩:=hyp;exact ⟨_,_,hs,.inl ⟨rfl,rfl⟩,.inr ⟨z,k,rfl,e⟩⟩
  |some y =>
   obtain ⟨k',n',e',hs⟩:=hyp;cases hi with
   |none=>exact ⟨_,_,hs,.inr ⟨y,k',rfl,e'⟩,.inl ⟨rfl,rfl⟩⟩
   |some z=>obtain ⟨k,n,e,hs⟩:=hs;exact ⟨_,_,hs,.inr ⟨y,k',rfl,e'⟩,.inr ⟨z,k,rfl,e⟩⟩
 clear hyp;obtain ⟨l,h,⟨g1,g2,g3,g4,g5⟩,hlo,hhi⟩:=h1
 have hidlt:id < S.n:=bm fun hn=>by have:=(hS id hn).1;rw [hc] at this;cases this
 have hids:∀ i ∈ av.ids,i < S.n:=by
  rcases g5 with ⟨_,rfl⟩|⟨_,rfl⟩
  ·simpa [AV.ids] using hidlt
  ·simp [AV.ids]
 refine VE.val hw (by simp [ho]) hids fun F S2 a w ρ own hag H=>?_
 have hr:=qm H x;rw [hag.ev (x:=x) (by simp [ho,Op.operands]),hx] at hr
 have hob:=H.obj id _ ((hag.2.1 id (by simp)).trans hc)
 generalize hv:a.eval x=v at hr;cases hr with
 |row e1 e2 =>
  rw [e1] at hob;cases hob with
  |row r1 r2 r3 r4 =>
   obtain ⟨_,g,cap,cur,rfl,hg,hnc,hcm,_⟩:=wO r3 (by omega)
   have evv:∀ z,(lo=some z\/hi=some z)->∀ k n,ev S z=.v (.int k n)->a.eval z=.int k n:=fun z hz k n e=>by
    have h1:=qm H z;rw [hag.ev (x:=z) (by simp [ho,Op.operands];rcases hz with rfl|rfl <;> simp),e] at h1
    exact (qx h1).1
   have hb2:∀ (kk:IntKind),(Instr.sliceBound (.int kk h) cap .sliceAcap).run P w=.ok h.toNat w:=fun kk=>by simp [Instr.sliceBound,asIntOf,show 0<=h by omega,show h<=(cap:Int) by omega]
   have hb1:∀ (kk:IntKind) (z:Nat),z=h.toNat->(Instr.sliceBound (.int kk l) z .sliceB).run P w=.ok l.toNat w:=fun kk z hz=>by subst hz;have hh:0<=l/\l<=((h.toNat:Nat):Int):=⟨g1,by omega⟩;simp only [Instr.sliceBound,asIntOf,aH,aL,aJ,if_pos hh]
   have hbs:(Instr.sliceBounds true xs.length cap (lo.map a.eval) (hi.map a.eval) none).run P w=.ok (l.toNat,h.toNat,cap) w:=by
    rcases hlo with ⟨rfl,rfl⟩|⟨z,k,rfl,e⟩
    ·rcases hhi with ⟨rfl,rfl⟩|⟨z',k',rfl,e'⟩
     ·simp [Instr.sliceBounds]
     ·simp [Instr.sliceBounds,evv z' (.inr rfl) _ _ e',hb2]
    ·rcases hhi with ⟨rfl,rfl⟩|⟨z',k',rfl,e'⟩
     ·simp [Instr.sliceBounds,evv z (.inl rfl) _ _ e,hb1]
     ·simp [Instr.sliceBounds,evv z (.inl rfl) _ _ e,evv z' (.inr rfl) _ _ e',hb1,hb2]
   refine ⟨.slice (some (if cap=l.toNat then ⟨g,0,none⟩ else ⟨g,l.toNat * j.cells,none⟩)) (h.toNat - l.toNat) (cap - l.toNat),w, ?_,Ext.none w, ?_⟩
   case refine_2 =>
    rcases g5 with ⟨g6,rfl⟩|⟨g6,rfl⟩
    ·rw [if_neg (by omega)]
     exact .rsl e1 (by omega)
    ·rw [show h.toNat - l.toNat=0 by omega]
     exact .sl (.sl0 (by omega))
   simp only [execOp,ho,hv,Instr.sliceAt,Instr.slice,run_underlying hd,aH,aJ,ci,hbs,hj.run_sizeOf,aL]
   by_cases hcl:cap=l.toNat
   ·rw [if_pos hcl,if_pos hcl]
   ·rw [if_neg hcl,if_neg hcl]
    simp [jm]
def QgU {w:World} {ok:Nat->Prop} {ρ:Nat->Value} {y:Value} {e:TypeId} {k lo n b n0 c:Nat} {xs:List (List DV)} (ho:ORel w ok ρ y (.row e k xs) (.slice (some ⟨b,0,none⟩) n0 c)) (h:lo+n<=xs.length) (hc:lo < c) :
  ∃ flat,Src w ok k ((xs.drop lo).take n) (.slice (some ⟨b,lo * k,none⟩) n (c - lo)) flat:=by
 obtain ⟨flat,⟨a0,c0,hs,hsl,hsm,hcell⟩,hl,h1,hr⟩:=JH ho;simp only [Value.slice.injEq] at hs
 obtain ⟨rfl,rfl,rfl⟩:=hs;have hlen:((xs.drop lo).take n).length=n:=by simp;omega
 have hmul:lo * k+n * k<=xs.length * k:=by rw [<- aE];exact aG _ h
 refine ⟨(flat.drop (lo * k)).take (n * k),⟨_,_,by rw [hlen],by rw [hlen];omega,by omega,fun hpos=>⟨_,rfl,fun j u hu=>?_⟩⟩,by rw [hlen];simp;omega,fun u hu=>h1 u (aW (aY hu)),fun i r j d hi hj=>?_⟩
 ·rw [aP] at hu
  split at hu
  ·rw [bM] at hu
   rw [hlen] at hpos;obtain ⟨ad,had,hcc⟩:=hcell (by omega)
   cases had;have:=hcc _ _ hu
   rw [jm] at this ⊢
   simpa using this
  ·cases hu
 ·rw [aP] at hi
  split at hi
  ·rename_i hin
   rw [bM] at hi;obtain ⟨u,hu,hd⟩:=hr _ _ _ _ hi hj
   refine ⟨u, ?_,hd⟩
   have hjk:j < k:=by
    cases ho with
    |row _ r2 _ _=>rw [<- r2 r (ao hi)];exact (aq.1 hj).1
   have:(i+1) * k<=n * k:=aG _ hin;rw [aE] at this
   rw [aP,if_pos (by omega),bM,show lo * k+(i * k+j)=(lo+i) * k+j by rw [aE];omega]
   exact hu
  ·cases hi
def Vr {w:World} {t t' ty e:TypeId} {k:Nat} (hsz:∀ w,(sizeOf e).run P w=.ok k w) (hu:P.underlying t=some (.slice e)) {g q dLen dCap:Nat} {cur:Array Value} {T:TypeId} (hg:w.heap[g]?=some (.cells cur T (0,0))) {a:Addr} {sLen sCap:Nat} {cs:List Value}
  (hl:cs.length=Nat.min sLen dLen * k) (hsrc:∀ j v,cs[j]?=some v->w.cell? (a.add j)=some v) (hfit:q+cs.length<=cur.size) (h1:∀ v ∈ cs,v.oneCell'=true) :
  (Builtin.copy_ #[t,t'] ty #[.slice (some ⟨g,q,none⟩) dLen dCap,.slice (some a) sLen sCap]).run P w=.ok (goInt (Nat.min sLen dLen)) (w.setRow g (cur.toList.take q++cs++cur.toList.drop (q+cs.length)).toArray):=by
 have hld:=run_loadCells_list (P:=P) w a cs hsrc;have hst:=run_storeCells_at P g q T cs 0 cur w hg (by simpa using hfit) h1
 simp only [bC] at hst;simp only [Builtin.copy_,Builtin.lenOf,Builtin.firstCells,aH,run_underlying hu,aL,aJ,hsz,<- hl,hld,cu,aK,bt,hst]
end part
end Go.Sym
