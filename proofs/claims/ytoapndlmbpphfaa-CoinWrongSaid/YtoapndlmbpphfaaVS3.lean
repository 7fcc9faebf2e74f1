/- Walks and what they compute, joined: part 3. -/
import Derived.ControlIn
import Derived.CallsIn
import Derived.OrdersIn
import Derived.RangeFuncRecord
import Derived.Maps.AppendAt
import Derived.OwnWalk
import Derived.Below
import Derived.Laws.StructEq
import Derived.Laws.Cells
import Derived.Laws.CopyRow
import Derived.Laws.Slices
import Derived.Laws.MakeOwn
import Derived.RangeFuncLeaves
import Derived.Maps.Keyed
import Derived.Scope
import Derived.Test.YtoapndlmbpphfaaVS2
set_option linter.all false
namespace Go.Sym
open Go
def vk8:=And.intro @AV.ren.eq_1 (And.intro @AV.ren.eq_2 (And.intro @AV.ren.eq_3 (And.intro @AV.ren.eq_4 (And.intro @AV.ren.eq_5 (And.intro @AV.ren.eq_6 (And.intro @AV.ren.eq_7 (And.intro @AV.ren.eq_8 (And.intro @AV.ren.eq_9 (And.intro @AV.ren.eq_10 (And.intro @AV.ren.eq_11 (And.intro @AV.ren.eq_12 (And.intro @AV.ren.eq_13 (And.intro @AV.ren.eq_14 (And.intro @AV.ren.eq_15 (And.intro @AV.ren.eq_16 (And.intro @AV.renL.eq_1 (And.intro @AV.renL.eq_2 (And.intro @AObj.ren.eq_1 (And.intro @AObj.ren.eq_2 (And.intro @AObj.ren.eq_3 (And.intro @AObj.ren.eq_4 (And.intro @AV.le.eq_1 (And.intro @AV.le.eq_2 (And.intro @AV.le.eq_3 (And.intro @AV.le.eq_4 (And.intro @AV.le.eq_5 (And.intro @AV.le.eq_6 (And.intro @AV.le.eq_7 (And.intro @AV.le.eq_8 (And.intro @AV.le.eq_9 (And.intro @AV.le.eq_10 (And.intro @AV.le.eq_11 (And.intro @AV.le.eq_12 (And.intro @AV.le.eq_13 (And.intro @AV.le.eq_14 (And.intro @AV.le.eq_15 (And.intro @AV.le.eq_16 (And.intro @AV.le.eq_17 (@AV.le.eq_18)))))))))))))))))))))))))))))))))))))))
def vk9:=And.intro @AV.le.eq_19 (And.intro @AV.le.eq_20 (And.intro @AV.le.eq_21 (And.intro @AV.le.eq_22 (And.intro @AV.leL.eq_1 (And.intro @AV.leL.eq_2 (And.intro @AV.leL.eq_3 (And.intro @AObj.le.eq_1 (And.intro @AObj.le.eq_2 (And.intro @AObj.le.eq_3 (And.intro @AObj.le.eq_4 (And.intro @AObj.le.eq_5 (And.intro @AV.ids.eq_1 (And.intro @AV.ids.eq_2 (And.intro @AV.ids.eq_3 (And.intro @AV.ids.eq_4 (And.intro @AV.ids.eq_5 (And.intro @AV.ids.eq_6 (And.intro @AV.ids.eq_7 (And.intro @AV.ids.eq_8 (And.intro @AV.ids.eq_9 (And.intro @AV.ids.eq_10 (And.intro @AV.ids.eq_11 (And.intro @AV.ids.eq_12 (And.intro @AV.ids.eq_13 (And.intro @AV.ids.eq_14 (And.intro @AV.ids.eq_15 (And.intro @AV.ids.eq_16 (And.intro @AV.idsL.eq_1 (And.intro @AV.idsL.eq_2 (And.intro @AObj.ids.eq_1 (And.intro @AObj.ids.eq_2 (And.intro @AObj.ids.eq_3 (And.intro @AObj.ids.eq_4 (And.intro @AV.flat.eq_1 (And.intro @AV.flat.eq_2 (And.intro @AV.flat.eq_3 (And.intro @AV.flat.eq_4 (And.intro @AV.flat.eq_5 (@AV.flat.eq_6)))))))))))))))))))))))))))))))))))))))
def vk10:=And.intro @AV.flat.eq_7 (And.intro @AV.flat.eq_8 (And.intro @AV.flat.eq_9 (And.intro @AV.flat.eq_10 (And.intro @AV.flat.eq_11 (And.intro @AV.flat.eq_12 (And.intro @AV.flat.eq_13 (And.intro @AV.flat.eq_14 (And.intro @AV.flat.eq_15 (And.intro @AV.flat.eq_16 (And.intro @AV.flatL.eq_1 (And.intro @AV.flatL.eq_2 (And.intro @AObj.flat.eq_1 (And.intro @AObj.flat.eq_2 (And.intro @AObj.flat.eq_3 (And.intro @AObj.flat.eq_4 (And.intro @enumA.eq_1 (And.intro @enumA.eq_2 (And.intro @enumO.eq_1 (And.intro @enumO.eq_2 (And.intro @enumO.eq_3 (And.intro @tab.eq_1 (And.intro @tab.eq_2 (And.intro @tabF.eq_1 (And.intro @tabF.eq_2 (And.intro @valE.eq_1 (And.intro @AV.view.eq_1 (And.intro @AV.view.eq_2 (And.intro @AV.view.eq_3 (And.intro @AV.view.eq_4 (And.intro @AV.view.eq_5 (And.intro @AV.view.eq_6 (And.intro @AV.view.eq_7 (And.intro @AV.view.eq_8 (And.intro @AV.view.eq_9 (And.intro @AV.view.eq_10 (And.intro @AV.view.eq_11 (And.intro @AV.view.eq_12 (And.intro @AV.view.eq_13 (@AV.view.eq_14)))))))))))))))))))))))))))))))))))))))
def vk11:=And.intro @AV.view.eq_15 (And.intro @AV.view.eq_16 (And.intro @AV.viewL.eq_1 (And.intro @AV.viewL.eq_2 (And.intro @AV.rows.eq_1 (And.intro @AV.rows.eq_2 (And.intro @AV.rows.eq_3 (And.intro @AV.rows.eq_4 (And.intro @AV.rows.eq_5 (And.intro @AV.rows.eq_6 (And.intro @AV.rows.eq_7 (And.intro @AV.rows.eq_8 (And.intro @AV.rows.eq_9 (And.intro @AV.rows.eq_10 (And.intro @AV.rows.eq_11 (And.intro @AV.rows.eq_12 (And.intro @AV.rows.eq_13 (And.intro @AV.rows.eq_14 (And.intro @AV.rows.eq_15 (And.intro @AV.rows.eq_16 (And.intro @AV.rowsL.eq_1 (And.intro @AV.rowsL.eq_2 (And.intro @AV.plain.eq_1 (And.intro @AV.plain.eq_2 (And.intro @AV.plain.eq_3 (And.intro @AV.plain.eq_4 (And.intro @AV.plain.eq_5 (And.intro @AV.plain.eq_6 (And.intro @AV.plain.eq_7 (And.intro @AV.plain.eq_8 (And.intro @AV.plain.eq_9 (And.intro @AV.plain.eq_10 (And.intro @AV.plain.eq_11 (And.intro @AV.plain.eq_12 (And.intro @AV.plain.eq_13 (And.intro @AV.plain.eq_14 (And.intro @AV.plain.eq_15 (And.intro @AV.plain.eq_16 (And.intro @AV.plainL.eq_1 (@AV.plainL.eq_2)))))))))))))))))))))))))))))))))))))))
def vk12:=And.intro @ne_eq.{1} (And.intro @z1 (And.intro @z2 (And.intro @z3 (And.intro @z4 (And.intro @z5.{0} (And.intro @true_and (And.intro @and_true (And.intro @cond_true.{1} (And.intro @cond_false.{1} (And.intro @z6 (And.intro @z7 (And.intro @z8.{0} (And.intro @z9 (And.intro @z10 (And.intro @z11 (And.intro @z12 (And.intro @z13 (And.intro @z14.{0} (And.intro @z15.{0} (And.intro @z16.{0} (And.intro @z17.{0} (And.intro @z18.{0,0} (And.intro @z19.{0} (And.intro @z20 (And.intro @z21 (And.intro @z22 (And.intro @z23 (And.intro @z24.{0} (And.intro @z25.{0} (And.intro @z26 (And.intro @z27 (And.intro @z28 (And.intro @z29.{0} (And.intro @z30.{0} (And.intro @z31.{0} (And.intro @z32.{0} (And.intro @z33.{0} (And.intro @z34.{0} (@z35.{0})))))))))))))))))))))))))))))))))))))))
def vk13:=And.intro @z36.{0} (And.intro @z37.{0,0} (And.intro @z38.{0,0} (And.intro @z39.{0} (And.intro @z40.{0} (And.intro @z41.{0} (And.intro @z42.{0} (And.intro @z43 (And.intro @z44 (And.intro @z45 (And.intro @z46 (And.intro @z47 (And.intro @z48 (And.intro @z49.{0} (And.intro @z50.{0,0} (And.intro @z51.{0,0} (And.intro @z52.{0,0} (And.intro @z53.{0} (And.intro @z54.{0} (And.intro @z55.{0} (And.intro @z56.{0} (And.intro @z57.{0} (And.intro @or_false (And.intro @false_or (And.intro @z58 (And.intro @z59.{1} (And.intro @z59.{0} (And.intro @z60.{1} (And.intro @forall_eq.{1} (And.intro @z61.{1} (And.intro @if_false.{1} (And.intro @if_true.{1} (And.intro @z62.{0} (And.intro @z63 (And.intro @z64 (And.intro @eq_self.{1} (And.intro @z65 (And.intro @z66 (@z67))))))))))))))))))))))))))))))))))))))
def vk14:=And.intro @clearE.eq_1 (And.intro @appX.eq_1 (And.intro @rslId.eq_1 (And.intro @rslId.eq_2 (And.intro @appR.eq_1 (And.intro @opE.eq_26 (And.intro @boolE.eq_1 (And.intro @boolE.eq_2 (And.intro @boolT.eq_1 (And.intro @entE.eq_1 (And.intro @ensE.eq_1 (And.intro @kindsB_int (And.intro @kindsB_bool (And.intro @kindsB_nil (And.intro @vTL (And.intro @buildX.eq_1 (And.intro @buildA.eq_1 (And.intro @arrB.eq_1 (And.intro @arrB.eq_2 (And.intro @opE.eq_24 (And.intro @opE.eq_25 (And.intro @indexE.eq_1 (And.intro @partE.eq_1 (And.intro @AV.dv.eq_17 (And.intro @AV.ids.eq_17 (And.intro @AV.flat.eq_17 (And.intro @AV.le.eq_23 (And.intro @AV.le.eq_24 (And.intro @AV.le.eq_25 (And.intro @AV.le.eq_26 (And.intro @AV.ids.eq_19 (And.intro @AV.ren.eq_19 (And.intro @AV.flat.eq_19 (And.intro @AV.dv.eq_19 (And.intro @cellsOf.eq_19 (And.intro @oneB.eq_19 (And.intro @calleeOf.eq_4 (And.intro @preOf.eq_1 (And.intro @preOf.eq_2 (And.intro @mkFn.eq_1 (And.intro @mkFn.eq_2 (And.intro @AV.view.eq_17 (And.intro @AV.view.eq_18 (And.intro @AV.view.eq_19 (And.intro @AV.rows.eq_19 (And.intro @AV.plain.eq_19 (And.intro @AV.ids.eq_18 (And.intro @AV.ren.eq_18 (And.intro @AV.flat.eq_18 (And.intro @AV.dv.eq_18 (And.intro @cellsOf.eq_18 (And.intro @oneB.eq_18 (And.intro @AV.ren.eq_17 (And.intro @cellsOf.eq_17 (And.intro @oneB.eq_17 (And.intro @opE.eq_21 (And.intro @opE.eq_22 (And.intro @opE.eq_23 (And.intro @sliceP.eq_1 (And.intro @ptrId.eq_1 (And.intro @ptrId.eq_2 (And.intro @copyX.eq_1 (And.intro @copyP.eq_1 (And.intro @pslId.eq_1 (And.intro @pslId.eq_2 (And.intro @newMapE.eq_1 (And.intro @lookE.eq_1 (And.intro @mupE.eq_1 (And.intro @AV.toV.eq_1 (And.intro @AV.toV.eq_2 (And.intro @cellsV.eq_1 (And.intro @cellsV.eq_2 (And.intro @lookR.eq_1 (And.intro @lookR.eq_2 (And.intro @vAV.eq_1 (And.intro @vAV.eq_2 (And.intro @vokB.eq_1 (And.intro @vokB.eq_3 (And.intro @KD.Q.eq_1 (And.intro @KD.Q.eq_2 (And.intro @dvP.eq_1 (@dvP.eq_2)))))))))))))))))))))))))))))))))))))))))))))))))))))))))))))))))))))))))))))))))
def vk15:=And.intro @rowAt.eq_1 (And.intro @frz1.eq_1 (And.intro @frz1.eq_2 (And.intro @AObj.ids.eq_5 (And.intro @AObj.ren.eq_5 (And.intro @AObj.flat.eq_5 (And.intro @AObj.le.eq_6 (And.intro @AObj.le.eq_7 (And.intro @rowsLe.eq_1 (And.intro @rowsLe.eq_2 (And.intro @dstW.eq_1 (And.intro @dstW.eq_2 (And.intro @dstW.eq_3 (And.intro @srcW.eq_1 (And.intro @srcW.eq_2 (And.intro @notW.eq_1 (And.intro @notW.eq_2 (And.intro @appW.eq_1 (And.intro @appW.eq_2 (@bsW.eq_1)))))))))))))))))))
def vks:=And.intro (And.intro vk15 vk14) (And.intro vk0 (And.intro vk1 (And.intro vk2 (And.intro vk3 (And.intro vk4 (And.intro vk5 (And.intro vk6 (And.intro vk7 (And.intro vk8 (And.intro vk9 (And.intro vk10 (And.intro vk11 (And.intro vk12 (vk13))))))))))))))
end Go.Sym
namespace Go.Sym
open Go
def maskB (acc:List Nat):List Nat→Nat
  |[]=>0
  |d :: ds=>2 ^ d ||| acc.getD d 0 ||| maskB acc ds
def ancsB:List Oper→List Nat→List Nat
  |[],acc=>acc
  |o :: r,acc=>ancsB r (acc++[maskB acc (deps o)])
def sameA (acc:List (List Nat)) (b:List Nat):Prop:=acc.length=b.length∧∀ j i,(acc.getD j []).contains i=(b.getD j 0).testBit i
theorem mask_same {acc:List (List Nat)} {b:List Nat} (h:sameA acc b) (i:Nat):∀ ds:List Nat,(ds.flatMap fun d=>d :: acc.getD d []).contains i=(maskB b ds).testBit i
  |[]=>by simp [maskB]
  |d :: ds=>by
    rw [List.flatMap_cons,maskB,Nat.testBit_or,Nat.testBit_or,← mask_same h i ds,← h.2 d i,Nat.testBit_two_pow]
    rw [Bool.eq_iff_iff]
    simp only [List.contains_iff_mem,Bool.or_eq_true,decide_eq_true_eq,List.mem_append,List.mem_cons]
    constructor
    · rintro ((rfl|h)|h)
      · exact .inl (.inl rfl)
      · exact .inl (.inr h)
      · exact .inr h
    · rintro ((rfl|h)|h)
      · exact .inl (.inl rfl)
      · exact .inl (.inr h)
      · exact .inr h
theorem ancs_same:∀ (l:List Oper) {acc:List (List Nat)} {b:List Nat},sameA acc b→sameA (ancs l acc) (ancsB l b)
  |[],_,_,h=>h
  |o :: r,acc,b,h=>by
    rw [ancs,ancsB]
    refine ancs_same r ⟨by simp [h.1],fun j i=>?_⟩
    rcases Nat.lt_trichotomy j acc.length with hj|hj|hj
    · have:=h.2 j i
      have hb:j < b.length:=by rw [← h.1];exact hj
      simp only [List.getD_eq_getElem?_getD,List.getElem?_append_left hj,List.getElem?_append_left hb] at this ⊢
      exact this
    · have hb:j=b.length:=by rw [← h.1];exact hj
      have:=mask_same h i (deps o)
      simp only [List.getD_eq_getElem?_getD] at this ⊢
      rw [List.getElem?_append_right (by omega),List.getElem?_append_right (by omega),show j - acc.length=0 by omega,show j - b.length=0 by omega]
      exact this
    · rw [show (acc ++ [(deps o).flatMap fun d => d :: acc.getD d []]).getD j [] = [] by
          rw [List.getD_eq_getElem?_getD,List.getElem?_eq_none (by simp;omega)];rfl,
        show (b++[maskB b (deps o)]).getD j 0=0 by
          have:=h.1
          rw [List.getD_eq_getElem?_getD,List.getElem?_eq_none (by simp;omega)];rfl]
      simp
def drawC (ops:Array Oper) (es:List Eff):Bool :=
  let an:=ancsB ops.toList []
  (List.range ops.size).all fun j =>
    match ops[j]? with
    |none=>true
    |some oj=>(deps oj).all (· < j) && (List.range j).all fun i =>
        (an.getD j 0).testBit i ||
        match ops[i]? with
        |none=>true
        |some oi=>oi.apart ops oj && indepB (es.getD i { av:=.junk }) (es.getD j { av:=.junk })
theorem drawB_of {ops:Array Oper} {es:List Eff} (h:drawC ops es=true):drawB ops es=true:=by
  have hs:=(ancs_same ops.toList (acc:=[]) (b:=[]) ⟨rfl,fun j i=>by simp⟩).2
  unfold drawC at h
  unfold drawB
  simp only [hs]
  exact h
structure DrwS where
  ids:List Nat
  hr:List Nat
  keys:List Nat
  news:List Nat
  dj:Nat
  dd:Bool
def Eff.sm (e:Eff):DrwS:=⟨e.ids,e.hr,e.keys,e.news,e.dj,e.dd.isEmpty⟩
end Go.Sym
namespace Go.Sym
open Go
variable {A : Frm → Prop} {P : Program}
def condQ (Q:Bool→Prop):Option Bool→Prop
  |some b=>Q b
  |none=>False
theorem sym_cz {c:Operand} {x y:Code} {S:St} {K:Exit→St→Prop} (h:∀ Q:Bool→Prop,(∀ b,(b=true→Sym A P x S K)→(b=false→Sym A P y S K)→Q b)→condQ Q (boolA (ev S c))):Sym A P (.cond c x y) S K:=by
  have h1:=h (fun b=>boolA (ev S c)=some b→Sym A P (.cond c x y) S K) fun b h1 h2 hb=>sym_cd hb h1 h2
  cases ho:boolA (ev S c) with
  |none=>rw [ho] at h1;exact h1.elim
  |some b=>rw [ho] at h1;exact h1 rfl
def vkt:=And.intro vks (And.intro @condQ.eq_1 @condQ.eq_2)
def vki:=And.intro @decide_eq_true_eq (And.intro @decide_eq_false_iff_not (And.intro @Bool.not_eq_true' (And.intro @Bool.not_eq_false' (And.intro @Bool.and_eq_true (And.intro @Bool.or_eq_false_iff (And.intro @Bool.and_eq_false_iff (And.intro @Bool.or_eq_true (And.intro @not_true_eq_false @not_false_eq_true))))))))
theorem zq0 {x y:Code} {S:St} {K:Exit→St→Prop} (h:Sym A P x S (thenK (fun S'=>Sym A P y S' K) K)):Sym A P (.seq x y) S K:=sym_seq h
theorem zq1 {id:Nat} {c:Code} {S:St} {K:Exit→St→Prop} (h:Sym A P c S (blockK id K)):Sym A P (.block id c) S K:=sym_block h
theorem zq2 {S:St} {K:Exit→St→Prop} (h:K .normal S):Sym A P .skip S K:=sym_skip h
theorem zq3 {l:Nat} {S:St} {K:Exit→St→Prop} (h:K .normal S):Sym A P (.label l) S K:=sym_label h
theorem zq4 {id:Nat} {S:St} {K:Exit→St→Prop} (h:K (.exit id) S):Sym A P (.exit id) S K:=sym_exit h
theorem zq5 {S:St} {K:Exit→St→Prop} (h:K .ret S):Sym A P .ret S K:=sym_ret h
def vle:=And.intro @leT.eq_1 (And.intro @leT.eq_2 (And.intro @leH.eq_1 (And.intro @leH.eq_2 (And.intro @leO.eq_1 (And.intro @leO.eq_2 (And.intro @ADf.leL.eq_1 (And.intro @ADf.leL.eq_2 (And.intro @ADf.leL.eq_3 (And.intro @imgs.eq_1 (And.intro @idsT.eq_1 (And.intro @idsT.eq_2 (And.intro @idsH.eq_1 (And.intro @idsH.eq_2 (And.intro (@List.filterMap_cons (Nat × AObj) Nat) (And.intro (@List.filterMap_nil (Nat × AObj) Nat) (And.intro (@List.flatMap_nil ADf Nat) (And.intro @Nat.lt_irrefl (@Nat.not_lt_zero))))))))))))))))))
def vrt:=And.intro @retK.eq_1 (And.intro @retK.eq_2 (And.intro @retK.eq_3 (And.intro @leaveA.eq_1 (And.intro @leaveA.eq_2 (And.intro @leaveA.eq_3 (And.intro @resL.eq_1 (And.intro @resL.eq_2 (And.intro @resL.eq_3 (And.intro @tupA.eq_1 (And.intro @tupA.eq_2 (And.intro @tupA.eq_3 (And.intro @rd.eq_1 (And.intro @rd.eq_2 (And.intro @rd.eq_3 (And.intro @rd.eq_4 (And.intro @wCells_some (@wRow_some)))))))))))))))))
end Go.Sym
namespace Go.Sym
open Go
inductive Nx:Prop→Prop
  |s0 {A:Frm→Prop} {P:Program} {x y:Code} {S:St} {K:Exit→St→Prop} (h:Sym A P x S (thenK (fun S'=>Sym A P y S' K) K)):Nx (Sym A P (.seq x y) S K)
  |s1 {A:Frm→Prop} {P:Program} {id:Nat} {c:Code} {S:St} {K:Exit→St→Prop} (h:Sym A P c S (blockK id K)):Nx (Sym A P (.block id c) S K)
  |s2 {A:Frm→Prop} {P:Program} {S:St} {K:Exit→St→Prop} (h:K .normal S):Nx (Sym A P .skip S K)
  |s3 {A:Frm→Prop} {P:Program} {l:Nat} {S:St} {K:Exit→St→Prop} (h:K .normal S):Nx (Sym A P (.label l) S K)
  |s4 {A:Frm→Prop} {P:Program} {id:Nat} {S:St} {K:Exit→St→Prop} (h:K (.exit id) S):Nx (Sym A P (.exit id) S K)
  |s5 {A:Frm→Prop} {P:Program} {S:St} {K:Exit→St→Prop} (h:K .ret S):Nx (Sym A P .ret S K)
  |tn {N:St→Prop} {K:Exit→St→Prop} {S:St} (h:N S):Nx (thenK N K .normal S)
  |tx {N:St→Prop} {K:Exit→St→Prop} {S:St} {id:Nat} (h:K (.exit id) S):Nx (thenK N K (.exit id) S)
  |tr {N:St→Prop} {K:Exit→St→Prop} {S:St} (h:K .ret S):Nx (thenK N K .ret S)
  |bn {K:Exit→St→Prop} {S:St} {id:Nat} (h:K .normal S):Nx (blockK id K .normal S)
  |br {K:Exit→St→Prop} {S:St} {id:Nat} (h:K .ret S):Nx (blockK id K .ret S)
  |bh {K:Exit→St→Prop} {S:St} {id:Nat} (h:K .normal S):Nx (blockK id K (.exit id) S)
theorem nx {p:Prop} (h:Nx p):p:=by
  cases h with
  |s0 h=>exact zq0 h
  |s1 h=>exact zq1 h
  |s2 h=>exact zq2 h
  |s3 h=>exact zq3 h
  |s4 h=>exact zq4 h
  |s5 h=>exact zq5 h
  |tn h=>exact thenK_n h
  |tx h=>exact thenK_x h
  |tr h=>exact thenK_r h
  |bn h=>exact blockK_n h
  |br h=>exact blockK_r h
  |bh h=>exact blockK_hit h
end Go.Sym
namespace Go.Sym
open Go Go.RowKit
variable {P : Program}
def own0:Own:=⟨fun _=>False,fun _=>False,fun _ h=>h⟩
def rho0:Nat→Value:=fun _=>undef
def okW (w:World):Nat→Prop:=okB w own0 rho0 noH
theorem okW_of {w:World} {b:Nat} (h:b < w.heap.size):okW w b:=⟨h,fun h=>h,fun i o h=>by cases h⟩
theorem law_calls {f:FuncId} {az:List AV} (hf:FnV P f az (.v (.bool true))) (w:World) (vs:Array Value) (hs:vs.size=az.length)
    (ha:∀ i c,az[i]?=some c→ARel w (okW w) rho0 undef c (vs.getD i undef)):Calls P f vs w fun e w'=>e=.returned (.bool true)∧Below w.heap.size w w':=by
  refine calls_mono (hf.calls undef (fun _ own _=>∀ b,¬ own.all b) (fun j own w h=>⟨fun b hb=>absurd hb (h b),fun _ _=>h⟩) own0 w rho0 vs trivial ⟨fun b h=>h,fun i o h=>(by cases h),fun i k o o' b h=>(by cases h),fun i o b h=>(by cases h)⟩ hs ha) ?_
  rintro e w' ⟨v',own',ρ',rfl,_,hr,hx,_,_,_,_⟩
  refine ⟨?_,hx.os,hx.tape,hx.output,hx.size,fun k hk=>hx.block k hk ?_⟩
  · cases hr with
    |v _=>rfl
  · rintro (h|⟨i,o,h,_⟩)
    · exact h
    · cases h
theorem rel_ints {w:World} {a:Option Addr} {len cap:Nat} {zs:List Int} (h:(a=none∧len=0∧cap=0∧zs=[])∨∃ x,a=some x∧len≤cap∧cap≤maxLen∧zs.length=cap∧(∀ i,i < zs.length→w.cell? (x.add i)=some (.int .i64 (zs.getD i 0)))∧∀ n ∈ zs,(Lit.int .i64 n).wf=true) :
    ARel w (okW w) rho0 undef (.sl ((zs.take len).map fun n=>[.v (.int .i64 n)])) (.slice a len cap)∧(zs.take len).length≤maxLen:=by
  rcases h with ⟨rfl,rfl,rfl,rfl⟩|⟨x,rfl,h1,h2,h3,h4,_⟩
  · exact ⟨.sl (.sl0 (Nat.zero_le _)),by simp⟩
  · refine ⟨?_,by simp;omega⟩
    rcases Nat.eq_zero_or_pos len with rfl|hp
    · exact .sl (.sl0 h2)
    · have hb:x.block < w.heap.size:=by
        have h5:=h4 0 (by omega)
        rw [show x.add 0=x by unfold Addr.add;simp] at h5
        rcases Nat.lt_or_ge x.block w.heap.size with h6|h6
        · exact h6
        · simp [World.cell?,Array.getElem?_eq_none h6] at h5
      have get:∀ (i:Nat) (r:List DV),((zs.take len).map fun n=>[DV.v (.int .i64 n)])[i]?=some r→i < len∧r=[.v (.int .i64 (zs.getD i 0))]:=fun i r hr=>by
        rw [List.getElem?_map] at hr
        obtain ⟨n,hn,rfl⟩:=Option.map_eq_some_iff.1 hr
        rw [List.getElem?_take] at hn
        split at hn
        · exact ⟨by assumption,by simp [List.getD_eq_getElem?_getD,hn]⟩
        · cases hn
      refine .sl (.sl (k:=1) (fun i _=>.int .i64 (zs.getD i 0)) (by simp;omega) hp h1 h2 Nat.one_pos (fun i r hr=>by rw [(get i r hr).2];rfl) (fun i r j d hr hd=>?_) (fun i r j d hr hd=>?_) (okW_of hb))
      · obtain ⟨hi,rfl⟩:=get i r hr
        obtain ⟨rfl,rfl⟩:j=0∧d=.v (.int .i64 (zs.getD i 0)):=by
          cases j with
          |zero=>exact ⟨rfl,by simpa using hd.symm⟩
          |succ j=>simp at hd
        rw [show i * 1+0=i by omega]
        exact h4 i (by omega)
      · obtain ⟨hi,rfl⟩:=get i r hr
        obtain ⟨rfl,rfl⟩:j=0∧d=.v (.int .i64 (zs.getD i 0)):=by
          cases j with
          |zero=>exact ⟨rfl,by simpa using hd.symm⟩
          |succ j=>simp at hd
        exact .v rfl
end Go.Sym
namespace Go.Sym
open Go
variable {A : Frm → Prop} {P : Program}
section
variable {b : Frame} {a : Act} {k : List Item} {cs : List Frame} {w : World} {F : Fence} {n : Nat} {Q : Exit → Act → World → Prop}
theorem stepR_scope' {c:Code}:step P (lone (b.atR a (.code (.scope c) :: k)) cs w)=.next (lone (b.atR a (.code c :: .inScope c :: k)) cs w) :=
  step_lone_go (by simp [stepG,stepG.exec,Frame.atR])
theorem stepR_inScope' {c:Code}:step P (lone (b.atR a (.inScope c :: k)) cs w)=.next (lone (b.atR a k) cs w) :=
  step_lone_go (by simp [stepG,stepG.exec,Frame.atR])
theorem wpIn_scope {c:Code} (h:c.wpIn F n P (Exit.noGoto Q) a w):(Code.scope c).wpIn F n P Q a w:=by
  intro b k cs hro hb hr
  have h0:(lone (b.atR a (.code (.scope c) :: k)) cs w).fenced P F:=fenced_calm hb hr rfl
  obtain ⟨e,a₁,w₁,hq,harr⟩:=h b (.inScope c :: k) cs hro hb hr
  cases e with
  |normal=>exact ⟨.normal,a₁,w₁,hq,.head h0 stepR_scope' (StepsIn.trans harr (.one (fenced_calm hb hr rfl) stepR_inScope'))⟩
  |exit id =>
    have hx:exitTo id (.inScope c :: k)=exitTo id k:=by simp [exitTo]
    exact ⟨_,a₁,w₁,hq,fun k' hk=>.head h0 stepR_scope' (harr.1 k' (by rw [hx];exact hk)),
      fun hr' hk=>let ⟨k₁,h1,h2⟩:=harr.2 hr' (by rw [hx];exact hk);⟨k₁,h1,.head h0 stepR_scope' h2⟩⟩
  |goto l=>exact hq.elim
  |ret=>exact ⟨_,a₁,w₁,hq,.of_steps (.one h0 stepR_scope') harr⟩
  |panic ch=>exact ⟨_,a₁,w₁,hq,.of_steps (.one h0 stepR_scope') harr⟩
  |outgrown=>exact ⟨_,a₁,w₁,hq,.of_steps (.one h0 stepR_scope') harr⟩
end
def scopeK (K:Exit→St→Prop):Exit→St→Prop
  |.goto _,_=>False
  |.normal,S=>K .normal S
  |.exit id,S=>K (.exit id) S
  |.ret,S=>K .ret S
  |.panic c,S=>K (.panic c) S
  |.outgrown,S=>K .outgrown S
theorem sym_scope {c:Code} {S:St} {K:Exit→St→Prop} (h:Sym A P c S (scopeK K)):Sym A P (.scope c) S K:=fun F hF hd a w hg=>by
  refine wpIn_scope (wpIn_mono (h F hF hd a w hg) ?_)
  rintro e a' w' ⟨S',hk,hg'⟩
  cases e with
  |goto l=>exact hk.elim
  |_=>exact ⟨S',hk,hg'⟩
theorem scopeK_n {K:Exit→St→Prop} {S:St} (h:K .normal S):scopeK K .normal S:=h
theorem scopeK_x {K:Exit→St→Prop} {S:St} {id:Nat} (h:K (.exit id) S):scopeK K (.exit id) S:=h
theorem scopeK_r {K:Exit→St→Prop} {S:St} (h:K .ret S):scopeK K .ret S:=h
end Go.Sym
