/- Walks and what they compute, joined: part 3. -/
import Derived.ControlIn
import Derived.CallsIn
import Derived.OrdersIn
import Derived.RangeFuncRecord
import Derived.Maps.AppendAt
import Derived.OwnWalk
import Derived.Below
import Derived.Laws.StructEq
import Derived.Laws.Cells
import Derived.Laws.CopyRow
import Derived.Laws.Slices
import Derived.Laws.MakeOwn
import Derived.RangeFuncLeaves
import Derived.Maps.Keyed
import Derived.Scope
import Derived.ChangeSlices
import Derived.WideShapes
import Derived.DataReads
import Derived.Test.YtoapndlmbpphfaaS2
set_option linter.all false
namespace Go.Sym
open Go
def vk3:=And.intro @maxE.eq_1 (And.intro @maxE.eq_2 (And.intro @boundE.eq_1 (And.intro @boundE.eq_2 (And.intro @boundE.eq_3 (And.intro @slE.eq_1 (And.intro @slE.eq_2 (And.intro @slE.eq_3 (And.intro @slE.eq_4 (And.intro @sliceE.eq_1 (And.intro @sliceE.eq_2 (And.intro @sliceE.eq_3 (And.intro @sliceX.eq_1 (And.intro @sliceR.eq_1 (And.intro @sliceR.eq_2 (And.intro @rowId.eq_1 (And.intro @rowId.eq_2 (And.intro @makeE.eq_1 (And.intro @makeE.eq_2 (And.intro @isNil.eq_1 (And.intro @isNil.eq_2 (And.intro @copyE.eq_def (And.intro @copyE.eq_2 (And.intro @srcE.eq_1 (And.intro @srcE.eq_2 (And.intro @srcE.eq_3 (And.intro @srcE.eq_4 (And.intro @dstI.eq_1 (And.intro @dstI.eq_2 (And.intro @dstI.eq_3 (And.intro @fillE.eq_1 (And.intro @fillE.eq_2 (And.intro @buildE.eq_1 (And.intro @buildE.eq_2 (And.intro @dvE.eq_1 (And.intro @dvE.eq_2 (And.intro @dvE.eq_3 (And.intro @dvE.eq_4 (And.intro @dvE.eq_5 (@dvE.eq_6)))))))))))))))))))))))))))))))))))))))
def vk4:=And.intro @dvsE.eq_1 (And.intro @dvsE.eq_2 (And.intro @bsE.eq_1 (And.intro @bsE.eq_2 (And.intro @callE.eq_1 (And.intro @calleeOf.eq_1 (And.intro @calleeOf.eq_2 (And.intro @calleeOf.eq_3 (And.intro @elemI.eq_1 (And.intro @elemI.eq_2 (And.intro @TD.elem.eq_1 (And.intro @TD.elem.eq_2 (And.intro @TD.elem.eq_3 (And.intro @TD.agg.eq_1 (And.intro @TD.agg.eq_2 (And.intro @TD.agg.eq_3 (And.intro @TD.agg.eq_4 (And.intro @TD.agg.eq_5 (And.intro @TD.agg.eq_6 (And.intro @TD.agg.eq_7 (And.intro @TD.agg.eq_8 (And.intro @TD.agg.eq_9 (And.intro @TD.agg.eq_10 (And.intro @TD.agg.eq_11 (And.intro @loadAV.eq_1 (And.intro @cellsOf.eq_1 (And.intro @cellsOf.eq_2 (And.intro @cellsOf.eq_3 (And.intro @cellsOf.eq_4 (And.intro @cellsOf.eq_5 (And.intro @cellsOf.eq_6 (And.intro @cellsOf.eq_7 (And.intro @cellsOf.eq_8 (And.intro @cellsOf.eq_9 (And.intro @cellsOf.eq_10 (And.intro @cellsOf.eq_11 (And.intro @cellsOf.eq_12 (And.intro @cellsOf.eq_13 (And.intro @cellsOf.eq_14 (@cellsOf.eq_15)))))))))))))))))))))))))))))))))))))))
def vk5:=And.intro @cellsOf.eq_16 (And.intro @oneB.eq_1 (And.intro @oneB.eq_2 (And.intro @oneB.eq_3 (And.intro @oneB.eq_4 (And.intro @oneB.eq_5 (And.intro @oneB.eq_6 (And.intro @oneB.eq_7 (And.intro @oneB.eq_8 (And.intro @oneB.eq_9 (And.intro @oneB.eq_10 (And.intro @oneB.eq_11 (And.intro @oneB.eq_12 (And.intro @oneB.eq_13 (And.intro @oneB.eq_14 (And.intro @oneB.eq_15 (And.intro @oneB.eq_16 (And.intro @dvZ.eq_1 (And.intro @dvL.eq_1 (And.intro @dvL.eq_2 (And.intro @AV.dv.eq_1 (And.intro @AV.dv.eq_2 (And.intro @AV.dv.eq_3 (And.intro @AV.dv.eq_4 (And.intro @AV.dv.eq_5 (And.intro @AV.dv.eq_6 (And.intro @AV.dv.eq_7 (And.intro @AV.dv.eq_8 (And.intro @AV.dv.eq_9 (And.intro @AV.dv.eq_10 (And.intro @AV.dv.eq_11 (And.intro @AV.dv.eq_12 (And.intro @AV.dv.eq_13 (And.intro @AV.dv.eq_14 (And.intro @AV.dv.eq_15 (And.intro @AV.dv.eq_16 (And.intro @DV.av.eq_1 (And.intro @DV.av.eq_2 (And.intro @ev.eq_1 (@ev.eq_2)))))))))))))))))))))))))))))))))))))))
def vk6:=And.intro @ev.eq_3 (And.intro @ev.eq_4 (And.intro @cAV.eq_1 (And.intro @cAV.eq_2 (And.intro @cAV1.eq_1 (And.intro @cAV1.eq_2 (And.intro @cAV1.eq_3 (And.intro @cAV1.eq_4 (And.intro @cAV1.eq_5 (And.intro @cAV1.eq_6 (And.intro @cAV1.eq_7 (And.intro @cAV1.eq_8 (And.intro @cAV1.eq_9 (And.intro @cAV1.eq_10 (And.intro @cAV1.eq_11 (And.intro @cAV1.eq_12 (And.intro @cAV1.eq_13 (And.intro @cAV1.eq_14 (And.intro @cAV1.eq_15 (And.intro @cAV1.eq_16 (And.intro @cAV1.eq_17 (And.intro @cAV1.eq_18 (And.intro @boolA.eq_1 (And.intro @boolA.eq_2 (And.intro @guardA.eq_1 (And.intro @guardA.eq_2 (And.intro @guardA.eq_3 (And.intro @St.lit.eq_1 (And.intro @St.app.eq_1 (And.intro @put.eq_1 (And.intro @put.eq_2 (And.intro @upd_same (And.intro @upd_ne (And.intro @hupd.eq_1 (And.intro @hupd.eq_2 (And.intro @asg_same (And.intro @asg_ne (And.intro @asg_nil (And.intro @argL.eq_1 (@argL.eq_2)))))))))))))))))))))))))))))))))))))))
def vk7:=And.intro @startS.eq_1 (And.intro @placeL.eq_1 (And.intro @placeN.eq_1 (And.intro @zeros.eq_1 (And.intro @zeros.eq_2 (And.intro @chunk.eq_1 (And.intro @chunk.eq_2 (And.intro @deadW.eq_1 (And.intro @deadW.eq_2 (And.intro @deadR.eq_1 (And.intro @deadR.eq_2 (And.intro @dropW.eq_1 (And.intro @isShift.eq_1 (And.intro @isShift.eq_2 (And.intro @isShift.eq_3 (And.intro @bad.eq_1 (And.intro @noH.eq_1 (And.intro @hasg_same (And.intro @hasg_ne (And.intro @hasg_nil (And.intro @fnE.eq_1 (And.intro @Pk.ok.eq_1 (And.intro @Pk.eff.eq_1 (And.intro @Pk.hf.eq_1 (And.intro @lentB.eq_1 (And.intro @lentB.eq_2 (And.intro @lentB.eq_3 (And.intro @boIn.eq_1 (And.intro @boIn.eq_2 (And.intro @idsO.eq_1 (And.intro @idsO.eq_2 (And.intro @idsO.eq_3 (And.intro @flatO.eq_1 (And.intro @flatO.eq_2 (And.intro @flatO.eq_3 (And.intro @hwL.eq_1 (And.intro @hwL.eq_2 (And.intro @newsL.eq_1 (And.intro @newsL.eq_2 (@callRen.eq_1)))))))))))))))))))))))))))))))))))))))
def vk8:=And.intro @AV.ren.eq_1 (And.intro @AV.ren.eq_2 (And.intro @AV.ren.eq_3 (And.intro @AV.ren.eq_4 (And.intro @AV.ren.eq_5 (And.intro @AV.ren.eq_6 (And.intro @AV.ren.eq_7 (And.intro @AV.ren.eq_8 (And.intro @AV.ren.eq_9 (And.intro @AV.ren.eq_10 (And.intro @AV.ren.eq_11 (And.intro @AV.ren.eq_12 (And.intro @AV.ren.eq_13 (And.intro @AV.ren.eq_14 (And.intro @AV.ren.eq_15 (And.intro @AV.ren.eq_16 (And.intro @AV.renL.eq_1 (And.intro @AV.renL.eq_2 (And.intro @AObj.ren.eq_1 (And.intro @AObj.ren.eq_2 (And.intro @AObj.ren.eq_3 (And.intro @AObj.ren.eq_4 (And.intro @AV.le.eq_1 (And.intro @AV.le.eq_2 (And.intro @AV.le.eq_3 (And.intro @AV.le.eq_4 (And.intro @AV.le.eq_5 (And.intro @AV.le.eq_6 (And.intro @AV.le.eq_7 (And.intro @AV.le.eq_8 (And.intro @AV.le.eq_9 (And.intro @AV.le.eq_10 (And.intro @AV.le.eq_11 (And.intro @AV.le.eq_12 (And.intro @AV.le.eq_13 (And.intro @AV.le.eq_14 (And.intro @AV.le.eq_15 (And.intro @AV.le.eq_16 (And.intro @AV.le.eq_17 (@AV.le.eq_18)))))))))))))))))))))))))))))))))))))))
def vk9:=And.intro @AV.le.eq_19 (And.intro @AV.le.eq_20 (And.intro @AV.le.eq_21 (And.intro @AV.le.eq_22 (And.intro @AV.leL.eq_1 (And.intro @AV.leL.eq_2 (And.intro @AV.leL.eq_3 (And.intro @AObj.le.eq_1 (And.intro @AObj.le.eq_2 (And.intro @AObj.le.eq_3 (And.intro @AObj.le.eq_4 (And.intro @AObj.le.eq_5 (And.intro @AV.ids.eq_1 (And.intro @AV.ids.eq_2 (And.intro @AV.ids.eq_3 (And.intro @AV.ids.eq_4 (And.intro @AV.ids.eq_5 (And.intro @AV.ids.eq_6 (And.intro @AV.ids.eq_7 (And.intro @AV.ids.eq_8 (And.intro @AV.ids.eq_9 (And.intro @AV.ids.eq_10 (And.intro @AV.ids.eq_11 (And.intro @AV.ids.eq_12 (And.intro @AV.ids.eq_13 (And.intro @AV.ids.eq_14 (And.intro @AV.ids.eq_15 (And.intro @AV.ids.eq_16 (And.intro @AV.idsL.eq_1 (And.intro @AV.idsL.eq_2 (And.intro @AObj.ids.eq_1 (And.intro @AObj.ids.eq_2 (And.intro @AObj.ids.eq_3 (And.intro @AObj.ids.eq_4 (And.intro @AV.flat.eq_1 (And.intro @AV.flat.eq_2 (And.intro @AV.flat.eq_3 (And.intro @AV.flat.eq_4 (And.intro @AV.flat.eq_5 (@AV.flat.eq_6)))))))))))))))))))))))))))))))))))))))
def vk10:=And.intro @AV.flat.eq_7 (And.intro @AV.flat.eq_8 (And.intro @AV.flat.eq_9 (And.intro @AV.flat.eq_10 (And.intro @AV.flat.eq_11 (And.intro @AV.flat.eq_12 (And.intro @AV.flat.eq_13 (And.intro @AV.flat.eq_14 (And.intro @AV.flat.eq_15 (And.intro @AV.flat.eq_16 (And.intro @AV.flatL.eq_1 (And.intro @AV.flatL.eq_2 (And.intro @AObj.flat.eq_1 (And.intro @AObj.flat.eq_2 (And.intro @AObj.flat.eq_3 (And.intro @AObj.flat.eq_4 (And.intro @enumA.eq_1 (And.intro @enumA.eq_2 (And.intro @enumO.eq_1 (And.intro @enumO.eq_2 (And.intro @enumO.eq_3 (And.intro @tab.eq_1 (And.intro @tab.eq_2 (And.intro @tabF.eq_1 (And.intro @tabF.eq_2 (And.intro @valE.eq_1 (And.intro @AV.view.eq_1 (And.intro @AV.view.eq_2 (And.intro @AV.view.eq_3 (And.intro @AV.view.eq_4 (And.intro @AV.view.eq_5 (And.intro @AV.view.eq_6 (And.intro @AV.view.eq_7 (And.intro @AV.view.eq_8 (And.intro @AV.view.eq_9 (And.intro @AV.view.eq_10 (And.intro @AV.view.eq_11 (And.intro @AV.view.eq_12 (And.intro @AV.view.eq_13 (@AV.view.eq_14)))))))))))))))))))))))))))))))))))))))
def vk11:=And.intro @AV.view.eq_15 (And.intro @AV.view.eq_16 (And.intro @AV.viewL.eq_1 (And.intro @AV.viewL.eq_2 (And.intro @AV.rows.eq_1 (And.intro @AV.rows.eq_2 (And.intro @AV.rows.eq_3 (And.intro @AV.rows.eq_4 (And.intro @AV.rows.eq_5 (And.intro @AV.rows.eq_6 (And.intro @AV.rows.eq_7 (And.intro @AV.rows.eq_8 (And.intro @AV.rows.eq_9 (And.intro @AV.rows.eq_10 (And.intro @AV.rows.eq_11 (And.intro @AV.rows.eq_12 (And.intro @AV.rows.eq_13 (And.intro @AV.rows.eq_14 (And.intro @AV.rows.eq_15 (And.intro @AV.rows.eq_16 (And.intro @AV.rowsL.eq_1 (And.intro @AV.rowsL.eq_2 (And.intro @AV.plain.eq_1 (And.intro @AV.plain.eq_2 (And.intro @AV.plain.eq_3 (And.intro @AV.plain.eq_4 (And.intro @AV.plain.eq_5 (And.intro @AV.plain.eq_6 (And.intro @AV.plain.eq_7 (And.intro @AV.plain.eq_8 (And.intro @AV.plain.eq_9 (And.intro @AV.plain.eq_10 (And.intro @AV.plain.eq_11 (And.intro @AV.plain.eq_12 (And.intro @AV.plain.eq_13 (And.intro @AV.plain.eq_14 (And.intro @AV.plain.eq_15 (And.intro @AV.plain.eq_16 (And.intro @AV.plainL.eq_1 (@AV.plainL.eq_2)))))))))))))))))))))))))))))))))))))))
def vk12:=And.intro @ne_eq.{1} (And.intro @z1 (And.intro @z2 (And.intro @z3 (And.intro @z4 (And.intro @z5.{0} (And.intro @true_and (And.intro @and_true (And.intro @cond_true.{1} (And.intro @cond_false.{1} (And.intro @z6 (And.intro @z7 (And.intro @z8.{0} (And.intro @z9 (And.intro @z10 (And.intro @z11 (And.intro @z12 (And.intro @z13 (And.intro @z14.{0} (And.intro @z15.{0} (And.intro @z16.{0} (And.intro @z17.{0} (And.intro @z18.{0,0} (And.intro @z19.{0} (And.intro @z20 (And.intro @z21 (And.intro @z22 (And.intro @z23 (And.intro @z24.{0} (And.intro @z25.{0} (And.intro @z26 (And.intro @z27 (And.intro @z28 (And.intro @z29.{0} (And.intro @z30.{0} (And.intro @z31.{0} (And.intro @z32.{0} (And.intro @z33.{0} (And.intro @z34.{0} (@z35.{0})))))))))))))))))))))))))))))))))))))))
def vk13:=And.intro @z36.{0} (And.intro @z37.{0,0} (And.intro @z38.{0,0} (And.intro @z39.{0} (And.intro @z40.{0} (And.intro @z41.{0} (And.intro @z42.{0} (And.intro @z43 (And.intro @z44 (And.intro @z45 (And.intro @z46 (And.intro @z47 (And.intro @z48 (And.intro @z49.{0} (And.intro @z50.{0,0} (And.intro @z51.{0,0} (And.intro @z52.{0,0} (And.intro @z53.{0} (And.intro @z54.{0} (And.intro @z55.{0} (And.intro @z56.{0} (And.intro @z57.{0} (And.intro @or_false (And.intro @false_or (And.intro @z58 (And.intro @z59.{1} (And.intro @z59.{0} (And.intro @z60.{1} (And.intro @forall_eq.{1} (And.intro @z61.{1} (And.intro @if_false.{1} (And.intro @if_true.{1} (And.intro @z62.{0} (And.intro @z63 (And.intro @z64 (And.intro @eq_self.{1} (And.intro @z65 (And.intro @z66 (@z67))))))))))))))))))))))))))))))))))))))
def vk14:=And.intro @buildX.eq_1 (And.intro @buildA.eq_1 (And.intro @arrB.eq_1 (And.intro @arrB.eq_2 (And.intro @opE.eq_24 (And.intro @opE.eq_25 (And.intro @indexE.eq_1 (And.intro @partE.eq_1 (And.intro @AV.dv.eq_17 (And.intro @AV.ids.eq_17 (And.intro @AV.flat.eq_17 (And.intro @AV.le.eq_23 (And.intro @AV.le.eq_24 (And.intro @AV.ren.eq_17 (And.intro @cellsOf.eq_17 (And.intro @oneB.eq_17 (And.intro @opE.eq_21 (And.intro @opE.eq_22 (And.intro @opE.eq_23 (And.intro @sliceP.eq_1 (And.intro @ptrId.eq_1 (And.intro @ptrId.eq_2 (And.intro @copyX.eq_1 (And.intro @copyP.eq_1 (And.intro @pslId.eq_1 (And.intro @pslId.eq_2 (And.intro @newMapE.eq_1 (And.intro @lookE.eq_1 (And.intro @mupE.eq_1 (And.intro @AV.toV.eq_1 (And.intro @AV.toV.eq_2 (And.intro @cellsV.eq_1 (And.intro @cellsV.eq_2 (And.intro @lookR.eq_1 (And.intro @lookR.eq_2 (And.intro @vAV.eq_1 (And.intro @vAV.eq_2 (And.intro @vokB.eq_1 (And.intro @vokB.eq_3 (And.intro @KD.Q.eq_1 (And.intro @KD.Q.eq_2 (And.intro @dvP.eq_1 (@dvP.eq_2))))))))))))))))))))))))))))))))))))))))))
def vks:=And.intro vk14 (And.intro vk0 (And.intro vk1 (And.intro vk2 (And.intro vk3 (And.intro vk4 (And.intro vk5 (And.intro vk6 (And.intro vk7 (And.intro vk8 (And.intro vk9 (And.intro vk10 (And.intro vk11 (And.intro vk12 (vk13))))))))))))))
end Go.Sym
namespace Go.Sym
open Go
def maskB (acc:List Nat):List Nat→Nat
  |[]=>0
  |d :: ds=>2 ^ d ||| acc.getD d 0 ||| maskB acc ds
def ancsB:List Oper→List Nat→List Nat
  |[],acc=>acc
  |o :: r,acc=>ancsB r (acc++[maskB acc (deps o)])
def sameA (acc:List (List Nat)) (b:List Nat):Prop:=acc.length=b.length∧∀ j i,(acc.getD j []).contains i=(b.getD j 0).testBit i
theorem mask_same {acc:List (List Nat)} {b:List Nat} (h:sameA acc b) (i:Nat):∀ ds:List Nat,(ds.flatMap fun d=>d :: acc.getD d []).contains i=(maskB b ds).testBit i
  |[]=>by simp [maskB]
  |d :: ds=>by
    rw [List.flatMap_cons,maskB,Nat.testBit_or,Nat.testBit_or,← mask_same h i ds,← h.2 d i,Nat.testBit_two_pow]
    rw [Bool.eq_iff_iff]
    simp only [List.contains_iff_mem,Bool.or_eq_true,decide_eq_true_eq,List.mem_append,List.mem_cons]
    constructor
    · rintro ((rfl|h)|h)
      · exact .inl (.inl rfl)
      · exact .inl (.inr h)
      · exact .inr h
    · rintro ((rfl|h)|h)
      · exact .inl (.inl rfl)
      · exact .inl (.inr h)
      · exact .inr h
theorem ancs_same:∀ (l:List Oper) {acc:List (List Nat)} {b:List Nat},sameA acc b→sameA (ancs l acc) (ancsB l b)
  |[],_,_,h=>h
  |o :: r,acc,b,h=>by
    rw [ancs,ancsB]
    refine ancs_same r ⟨by simp [h.1],fun j i=>?_⟩
    rcases Nat.lt_trichotomy j acc.length with hj|hj|hj
    · have:=h.2 j i
      have hb:j < b.length:=by rw [← h.1];exact hj
      simp only [List.getD_eq_getElem?_getD,List.getElem?_append_left hj,List.getElem?_append_left hb] at this ⊢
      exact this
    · have hb:j=b.length:=by rw [← h.1];exact hj
      have:=mask_same h i (deps o)
      simp only [List.getD_eq_getElem?_getD] at this ⊢
      rw [List.getElem?_append_right (by omega),List.getElem?_append_right (by omega),show j - acc.length=0 by omega,show j - b.length=0 by omega]
      exact this
    · rw [show (acc ++ [(deps o).flatMap fun d => d :: acc.getD d []]).getD j [] = [] by
          rw [List.getD_eq_getElem?_getD,List.getElem?_eq_none (by simp;omega)];rfl,
        show (b++[maskB b (deps o)]).getD j 0=0 by
          have:=h.1
          rw [List.getD_eq_getElem?_getD,List.getElem?_eq_none (by simp;omega)];rfl]
      simp
def drawC (ops:Array Oper) (es:List Eff):Bool :=
  let an:=ancsB ops.toList []
  (List.range ops.size).all fun j =>
    match ops[j]? with
    |none=>true
    |some oj=>(deps oj).all (· < j) && (List.range j).all fun i =>
        (an.getD j 0).testBit i ||
        match ops[i]? with
        |none=>true
        |some oi=>oi.apart ops oj && indepB (es.getD i { av:=.junk }) (es.getD j { av:=.junk })
theorem drawB_of {ops:Array Oper} {es:List Eff} (h:drawC ops es=true):drawB ops es=true:=by
  have hs:=(ancs_same ops.toList (acc:=[]) (b:=[]) ⟨rfl,fun j i=>by simp⟩).2
  unfold drawC at h
  unfold drawB
  simp only [hs]
  exact h
structure DrwS where
  ids:List Nat
  hr:List Nat
  keys:List Nat
  news:List Nat
  dj:Nat
  dd:Bool
def Eff.sm (e:Eff):DrwS:=⟨e.ids,e.hr,e.keys,e.news,e.dj,e.dd.isEmpty⟩
def indepS (e f:DrwS):Bool :=
  e.keys.all (fun k=>!f.hr.contains k && !f.keys.contains k) && f.keys.all (fun k=>!e.hr.contains k) && e.news.all (fun k=>!f.ids.contains k) && f.news.all (fun k=>!e.ids.contains k) &&
  (e.dj == 0 || f.dj == 0) && e.dd && f.dd
def drawD (ops:Array Oper) (es:List DrwS):Bool :=
  let an:=ancsB ops.toList []
  (List.range ops.size).all fun j =>
    match ops[j]? with
    |none=>true
    |some oj=>(deps oj).all (· < j) && (List.range j).all fun i =>
        (an.getD j 0).testBit i ||
        match ops[i]? with
        |none=>true
        |some oi=>oi.apart ops oj && indepS (es.getD i ⟨[],[],[],[],0,true⟩) (es.getD j ⟨[],[],[],[],0,true⟩)
theorem sm_getD (es:List Eff) (i:Nat):(es.map Eff.sm).getD i ⟨[],[],[],[],0,true⟩=(es.getD i { av:=.junk }).sm:=by
  simp only [List.getD_eq_getElem?_getD,List.getElem?_map]
  cases es[i]? <;> rfl
theorem drawS_of {ops:Array Oper} {es:List Eff} {ss:List DrwS} (hs:es.map Eff.sm=ss) (h:drawD ops ss.reverse=true):drawB ops es.reverse=true:=by
  refine drawB_of ?_
  subst hs
  rw [← List.map_reverse] at h
  unfold drawD at h
  unfold drawC
  simp only [sm_getD] at h
  exact h
end Go.Sym
namespace Go.Sym
open Go
def vdt:=And.intro @Eff.sm.eq_1 (And.intro @Eff.ids.eq_1 (And.intro @Eff.keys.eq_1 (And.intro @hwIds.eq_1 (And.intro @hwIds.eq_2 (And.intro @AObj.ids.eq_1 (And.intro @AObj.ids.eq_2 (And.intro @AObj.ids.eq_3 (And.intro @AObj.ids.eq_4 (And.intro @AV.idsL.eq_1 @AV.idsL.eq_2)))))))))
end Go.Sym
namespace Go.Sym
open Go
variable {A : Frm → Prop} {P : Program}
section
variable {b : Frame} {a : Act} {k : List Item} {cs : List Frame} {w : World} {F : Fence} {n : Nat} {Q : Exit → Act → World → Prop}
theorem stepR_scope' {c:Code}:step P (lone (b.atR a (.code (.scope c) :: k)) cs w)=.next (lone (b.atR a (.code c :: .inScope c :: k)) cs w) :=
  step_lone_go (by simp [stepG,stepG.exec,Frame.atR])
theorem stepR_inScope' {c:Code}:step P (lone (b.atR a (.inScope c :: k)) cs w)=.next (lone (b.atR a k) cs w) :=
  step_lone_go (by simp [stepG,stepG.exec,Frame.atR])
theorem wpIn_scope {c:Code} (h:c.wpIn F n P (Exit.noGoto Q) a w):(Code.scope c).wpIn F n P Q a w:=by
  intro b k cs hro hb hr
  have h0:(lone (b.atR a (.code (.scope c) :: k)) cs w).fenced P F:=fenced_calm hb hr rfl
  obtain ⟨e,a₁,w₁,hq,harr⟩:=h b (.inScope c :: k) cs hro hb hr
  cases e with
  |normal=>exact ⟨.normal,a₁,w₁,hq,.head h0 stepR_scope' (StepsIn.trans harr (.one (fenced_calm hb hr rfl) stepR_inScope'))⟩
  |exit id =>
    have hx:exitTo id (.inScope c :: k)=exitTo id k:=by simp [exitTo]
    exact ⟨_,a₁,w₁,hq,fun k' hk=>.head h0 stepR_scope' (harr.1 k' (by rw [hx];exact hk)),
      fun hr' hk=>let ⟨k₁,h1,h2⟩:=harr.2 hr' (by rw [hx];exact hk);⟨k₁,h1,.head h0 stepR_scope' h2⟩⟩
  |goto l=>exact hq.elim
  |ret=>exact ⟨_,a₁,w₁,hq,.of_steps (.one h0 stepR_scope') harr⟩
  |panic ch=>exact ⟨_,a₁,w₁,hq,.of_steps (.one h0 stepR_scope') harr⟩
  |outgrown=>exact ⟨_,a₁,w₁,hq,.of_steps (.one h0 stepR_scope') harr⟩
end
def scopeK (K:Exit→St→Prop):Exit→St→Prop
  |.goto _,_=>False
  |.normal,S=>K .normal S
  |.exit id,S=>K (.exit id) S
  |.ret,S=>K .ret S
  |.panic c,S=>K (.panic c) S
  |.outgrown,S=>K .outgrown S
theorem sym_scope {c:Code} {S:St} {K:Exit→St→Prop} (h:Sym A P c S (scopeK K)):Sym A P (.scope c) S K:=fun F hF hd a w hg=>by
  refine wpIn_scope (wpIn_mono (h F hF hd a w hg) ?_)
  rintro e a' w' ⟨S',hk,hg'⟩
  cases e with
  |goto l=>exact hk.elim
  |_=>exact ⟨S',hk,hg'⟩
theorem scopeK_n {K:Exit→St→Prop} {S:St} (h:K .normal S):scopeK K .normal S:=h
theorem scopeK_x {K:Exit→St→Prop} {S:St} {id:Nat} (h:K (.exit id) S):scopeK K (.exit id) S:=h
theorem scopeK_r {K:Exit→St→Prop} {S:St} (h:K .ret S):scopeK K .ret S:=h
end Go.Sym
namespace Go.Sym
open Go Go.RowKit
variable {P : Program}
def own0:Own:=⟨fun _=>False,fun _=>False,fun _ h=>h⟩
def rho0:Nat→Value:=fun _=>undef
def okW (w:World):Nat→Prop:=okB w own0 rho0 noH
theorem okW_of {w:World} {b:Nat} (h:b < w.heap.size):okW w b:=⟨h,fun h=>h,fun i o h=>by cases h⟩
theorem law_calls {f:FuncId} {az:List AV} (hf:FnV P f az (.v (.bool true))) (w:World) (vs:Array Value) (hs:vs.size=az.length)
    (ha:∀ i c,az[i]?=some c→ARel w (okW w) rho0 undef c (vs.getD i undef)):Calls P f vs w fun e w'=>e=.returned (.bool true)∧Below w.heap.size w w':=by
  refine calls_mono (hf.calls undef (fun _ own _=>∀ b,¬ own.all b) (fun j own w h=>⟨fun b hb=>absurd hb (h b),fun _ _=>h⟩) own0 w rho0 vs trivial ⟨fun b h=>h,fun i o h=>(by cases h),fun i k o o' b h=>(by cases h),fun i o b h=>(by cases h)⟩ hs ha) ?_
  rintro e w' ⟨v',own',ρ',rfl,_,hr,hx,_,_,_,_⟩
  refine ⟨?_,hx.os,hx.tape,hx.output,hx.size,fun k hk=>hx.block k hk ?_⟩
  · cases hr with
    |v _=>rfl
  · rintro (h|⟨i,o,h,_⟩)
    · exact h
    · cases h
theorem rel_ints {w:World} {a:Option Addr} {len cap:Nat} {zs:List Int} (h:(a=none∧len=0∧cap=0∧zs=[])∨∃ x,a=some x∧len≤cap∧cap≤maxLen∧zs.length=cap∧(∀ i,i < zs.length→w.cell? (x.add i)=some (.int .i64 (zs.getD i 0)))∧∀ n ∈ zs,(Lit.int .i64 n).wf=true) :
    ARel w (okW w) rho0 undef (.sl ((zs.take len).map fun n=>[.v (.int .i64 n)])) (.slice a len cap)∧(zs.take len).length≤maxLen:=by
  rcases h with ⟨rfl,rfl,rfl,rfl⟩|⟨x,rfl,h1,h2,h3,h4,_⟩
  · exact ⟨.sl (.sl0 (Nat.zero_le _)),by simp⟩
  · refine ⟨?_,by simp;omega⟩
    rcases Nat.eq_zero_or_pos len with rfl|hp
    · exact .sl (.sl0 h2)
    · have hb:x.block < w.heap.size:=by
        have h5:=h4 0 (by omega)
        rw [show x.add 0=x by unfold Addr.add;simp] at h5
        rcases Nat.lt_or_ge x.block w.heap.size with h6|h6
        · exact h6
        · simp [World.cell?,Array.getElem?_eq_none h6] at h5
      have get:∀ (i:Nat) (r:List DV),((zs.take len).map fun n=>[DV.v (.int .i64 n)])[i]?=some r→i < len∧r=[.v (.int .i64 (zs.getD i 0))]:=fun i r hr=>by
        rw [List.getElem?_map] at hr
        obtain ⟨n,hn,rfl⟩:=Option.map_eq_some_iff.1 hr
        rw [List.getElem?_take] at hn
        split at hn
        · exact ⟨by assumption,by simp [List.getD_eq_getElem?_getD,hn]⟩
        · cases hn
      refine .sl (.sl (k:=1) (fun i _=>.int .i64 (zs.getD i 0)) (by simp;omega) hp h1 h2 Nat.one_pos (fun i r hr=>by rw [(get i r hr).2];rfl) (fun i r j d hr hd=>?_) (fun i r j d hr hd=>?_) (okW_of hb))
      · obtain ⟨hi,rfl⟩:=get i r hr
        obtain ⟨rfl,rfl⟩:j=0∧d=.v (.int .i64 (zs.getD i 0)):=by
          cases j with
          |zero=>exact ⟨rfl,by simpa using hd.symm⟩
          |succ j=>simp at hd
        rw [show i * 1+0=i by omega]
        exact h4 i (by omega)
      · obtain ⟨hi,rfl⟩:=get i r hr
        obtain ⟨rfl,rfl⟩:j=0∧d=.v (.int .i64 (zs.getD i 0)):=by
          cases j with
          |zero=>exact ⟨rfl,by simpa using hd.symm⟩
          |succ j=>simp at hd
        exact .v rfl
end Go.Sym
namespace Go.Sym
open Go
variable {A : Frm → Prop} {P : Program}
def condQ (Q:Bool→Prop):Option Bool→Prop
  |some b=>Q b
  |none=>False
theorem sym_cz {c:Operand} {x y:Code} {S:St} {K:Exit→St→Prop} (h:∀ Q:Bool→Prop,(∀ b,(b=true→Sym A P x S K)→(b=false→Sym A P y S K)→Q b)→condQ Q (boolA (ev S c))):Sym A P (.cond c x y) S K:=by
  have h1:=h (fun b=>boolA (ev S c)=some b→Sym A P (.cond c x y) S K) fun b h1 h2 hb=>sym_cd hb h1 h2
  cases ho:boolA (ev S c) with
  |none=>rw [ho] at h1;exact h1.elim
  |some b=>rw [ho] at h1;exact h1 rfl
def vkt:=And.intro vks (And.intro @condQ.eq_1 @condQ.eq_2)
def vki:=And.intro @decide_eq_true_eq (And.intro @decide_eq_false_iff_not (And.intro @Bool.not_eq_true' (And.intro @Bool.not_eq_false' (And.intro @Bool.and_eq_true (And.intro @Bool.or_eq_false_iff (And.intro @Bool.and_eq_false_iff (And.intro @Bool.or_eq_true (And.intro @not_true_eq_false @not_false_eq_true))))))))
theorem zq0 {x y:Code} {S:St} {K:Exit→St→Prop} (h:Sym A P x S (thenK (fun S'=>Sym A P y S' K) K)):Sym A P (.seq x y) S K:=sym_seq h
theorem zq1 {id:Nat} {c:Code} {S:St} {K:Exit→St→Prop} (h:Sym A P c S (blockK id K)):Sym A P (.block id c) S K:=sym_block h
theorem zq2 {S:St} {K:Exit→St→Prop} (h:K .normal S):Sym A P .skip S K:=sym_skip h
theorem zq3 {l:Nat} {S:St} {K:Exit→St→Prop} (h:K .normal S):Sym A P (.label l) S K:=sym_label h
theorem zq4 {id:Nat} {S:St} {K:Exit→St→Prop} (h:K (.exit id) S):Sym A P (.exit id) S K:=sym_exit h
theorem zq5 {S:St} {K:Exit→St→Prop} (h:K .ret S):Sym A P .ret S K:=sym_ret h
def vle:=And.intro @leT.eq_1 (And.intro @leT.eq_2 (And.intro @leH.eq_1 (And.intro @leH.eq_2 (And.intro @leO.eq_1 (And.intro @leO.eq_2 (And.intro @ADf.leL.eq_1 (And.intro @ADf.leL.eq_2 (And.intro @ADf.leL.eq_3 (And.intro @imgs.eq_1 (And.intro @idsT.eq_1 (And.intro @idsT.eq_2 (And.intro @idsH.eq_1 (And.intro @idsH.eq_2 (And.intro (@List.filterMap_cons (Nat × AObj) Nat) (And.intro (@List.filterMap_nil (Nat × AObj) Nat) (And.intro (@List.flatMap_nil ADf Nat) (And.intro @Nat.lt_irrefl (@Nat.not_lt_zero))))))))))))))))))
def vrt:=And.intro @retK.eq_1 (And.intro @retK.eq_2 (And.intro @retK.eq_3 (And.intro @leaveA.eq_1 (And.intro @leaveA.eq_2 (And.intro @leaveA.eq_3 (And.intro @resL.eq_1 (And.intro @resL.eq_2 (And.intro @resL.eq_3 (And.intro @tupA.eq_1 (And.intro @tupA.eq_2 (And.intro @tupA.eq_3 (And.intro @rd.eq_1 (And.intro @rd.eq_2 (And.intro @rd.eq_3 (And.intro @rd.eq_4 (And.intro @wCells_some (@wRow_some)))))))))))))))))
end Go.Sym
namespace Go.Sym
open Go
variable {A : Frm → Prop} {P : Program}
def lentA (hs:List Nat) (n:Nat):Nat→List AObj→List (Nat × AObj)
  |_,[]=>[]
  |k,o :: os=>(callRen hs n k,o.ren (callRen hs n)) :: lentA hs n (k+1) os
theorem lentA_eq (hs:List Nat) (n:Nat):∀ (L:List AObj) (k:Nat) (f:Nat→Option AObj),(∀ i,f (k+i)=L[i]?)→(List.range L.length).filterMap (fun i=>(f (k+i)).map fun o=>(callRen hs n (k+i),o.ren (callRen hs n)))=lentA hs n k L
  |[],k,f,_=>rfl
  |o :: os,k,f,h=>by
    rw [List.length_cons,List.range_succ_eq_map,List.filterMap_cons]
    have h0:=h 0
    simp only [Nat.add_zero,List.getElem?_cons_zero] at h0
    simp only [Nat.add_zero,h0,Option.map_some,lentA]
    congr 1
    rw [List.filterMap_map]
    have:=lentA_eq hs n os (k+1) f fun i=>by
      have:=h (i+1)
      rw [List.getElem?_cons_succ] at this
      rw [← this];congr 1;omega
    rw [← this]
    congr 1
    funext i
    simp only [Function.comp_apply,Nat.succ_eq_add_one]
    rw [show k+(i+1)=k+1+i by omega]
theorem lentL_eq {hs:List Nat} {n nl:Nat} {L:List AObj} (h:L.length=hs.length+nl):lentL hs n nl (nth L)=lentA hs n 0 L:=by
  rw [← lentA_eq hs n L 0 (nth L) (fun i=>by simp [nth])]
  simp only [lentL,← h,Nat.zero_add]
theorem lentA_keys {hs:List Nat} {n:Nat}:∀ {L:List AObj} {k m:Nat},m < L.length→∃ o,(callRen hs n (k+m),o) ∈ lentA hs n k L
  |o :: os,k,0,_=>⟨_,List.mem_cons_self⟩
  |o :: os,k,m+1,h=>by
    obtain ⟨o',ho⟩:=lentA_keys (hs:=hs) (n:=n) (L:=os) (k:=k+1) (m:=m) (by simpa using h)
    rw [show k+1+m=k+(m+1) by omega] at ho
    exact ⟨o',List.mem_cons_of_mem _ ho⟩
def lentP (hs:List Nat) (n:Nat):List AObj→Prop
  |[]=>True
  |o :: os=>(o.nocb∧(∀ id ∈ o.ids,id < hs.length)∧AObj.le (fun _=>none) (fun j=>hs[j]?) (o.ren (callRen hs n)) o)∧lentP hs n os
theorem lentP_get {hs:List Nat} {n:Nat}:∀ {L:List AObj},lentP hs n L→∀ (q:Nat) (o:AObj),L[q]?=some o→o.nocb∧(∀ id ∈ o.ids,id < hs.length)∧AObj.le (fun _=>none) (fun j=>hs[j]?) (o.ren (callRen hs n)) o
  |o :: os,h,0,o',ho=>by simp only [List.getElem?_cons_zero,Option.some.injEq] at ho;subst ho;exact h.1
  |o :: os,h,q+1,o',ho=>lentP_get h.2 q o' (by simpa using ho)
def lentQ (N:Nat):List AObj→Prop
  |[]=>True
  |o :: os=>(o.nocb∧∀ id ∈ o.ids,id < N)∧lentQ N os
theorem lentQ_get {N:Nat}:∀ {L:List AObj},lentQ N L→∀ (q:Nat) (o:AObj),L[q]?=some o→o.nocb∧∀ id ∈ o.ids,id < N
  |o :: os,h,0,o',ho=>by simp only [List.getElem?_cons_zero,Option.some.injEq] at ho;subst ho;exact h.1
  |o :: os,h,q+1,o',ho=>lentQ_get h.2 q o' (by simpa using ho)
def argQ (N:Nat):List AV→Prop
  |[]=>True
  |c :: cs=>(c.nocb∧∀ id ∈ c.ids,id < N)∧argQ N cs
theorem argQ_mem {N:Nat}:∀ {L:List AV},argQ N L→∀ c ∈ L,c.nocb∧∀ id ∈ c.ids,id < N
  |a :: cs,h,c,hc=>by
    rcases List.mem_cons.1 hc with rfl|hc
    · exact h.1
    · exact argQ_mem h.2 c hc
def keyIn (n:Nat) (H:List (Nat × AObj)) (id:Nat):Prop:=id < n∧id ∈ H.map (·.1)
def keysIn (n:Nat) (H:List (Nat × AObj)):List Nat→Prop
  |[]=>True
  |i :: r=>keyIn n H i∧keysIn n H r
theorem keysIn_mem {n:Nat} {H:List (Nat × AObj)}:∀ {l:List Nat},keysIn n H l→∀ i ∈ l,keyIn n H i
  |j :: r,h,i,hi=>by
    rcases List.mem_cons.1 hi with rfl|hi
    · exact h.1
    · exact keysIn_mem h.2 i hi
def idsTL:List (Nat × AV)→List Nat
  |[]=>[]
  |p :: r=>p.2.ids++idsTL r
theorem idsTL_mem {id:Nat}:∀ {L:List (Nat × AV)} {p:Nat × AV},p ∈ L→id ∈ p.2.ids→id ∈ idsTL L
  |q :: r,p,hp,hid=>by
    rcases List.mem_cons.1 hp with rfl|hp
    · exact List.mem_append_left _ hid
    · exact List.mem_append_right _ (idsTL_mem hp hid)
theorem hasg_keys {H:List (Nat × AObj)} {i:Nat} (h:i ∈ H.map (·.1)):∃ o,hasg H i=some o:=by
  obtain ⟨p,hp,rfl⟩:=List.mem_map.1 h
  exact hasg_ex (o:=p.2) hp
structure RangeJ (L:List (Nat × AV)) (ps hs:List Nat) (n m nl:Nat) (d:List ADf) (H:List (Nat × AObj)) (Lt:List AObj) (y:List AV):Prop where
  own:idsH (n+1) ((n,.mark) :: H)
  len:Lt.length=hs.length+nl
  lent:lentQ (hs.length+nl) Lt
  args:argQ (hs.length+nl) y
  plen:ps.length=y.length
  keys:keysIn (n+1) ((n,.mark) :: H++lentA hs (n+1) 0 Lt) (List.range m++(hs++(idsTL L++(ADf.mark n :: d).flatMap ADf.ids)))
def rStart (L:List (Nat × AV)) (ps hs:List Nat) (n nl:Nat) (y:List AV) (H:List (Nat × AObj)) (Lt:List AObj):St :=
  { t:=putsL (asg L) (ps.zip (y.map (AV.ren (callRen hs (n+1))))),h:=hasg ((n,.mark) :: H++lentA hs (n+1) 0 Lt),n:=n+1+nl,m:=n+1+nl }
theorem sym_rangeL (hAr:∀ F,A F→F.r=none) {A':Frm→Prop} (hA':∀ F',(∃ l,F'.r=some l)→A' F') {tg:Tmp} {ps:Array Tmp} {assign body:Code} {L:List (Nat × AV)} {hs:List Nat} {n m nl:Nat} {hc:Nat→List (Nat × AObj)} {Lp:List AObj} {jj:Nat→Nat} {d:List ADf} {K:Exit→St→Prop}
    {f:FuncId} {caps caps0:List AV} {ys:Nat→List AV} {N R:Nat} {hl:Nat→List AObj} {vv:Nat→(Nat→Bool)→AV} {ans:Nat→Bool} {ex:Exit}
    (hg:asg L tg=.clo f caps) (hit:Iter P f (.cb :: caps0) (nth Lp) ys N (fun j=>nth (hl j)) vv) (hRo:Rounds ans R N) (hex:ex=.ret∨(∃ id,ex=.exit id)∨∃ g,ex=.goto g)
    (hcaps:AV.leL (fun _=>none) (fun j=>hs[j]?) caps caps0) (hcn:AV.nocbL caps0) (hobj:lentP hs (n+1) Lp) (hlen:Lp.length=hs.length) (hnd:hs.Nodup) (hsn:∀ c ∈ hs,hasg (hc 0) c=none) (hsl:∀ c ∈ hs,c < n+1)
    (hidt:idsT (n+1) L) (hst:∀ j,j < R→RangeJ L ps.toList hs n m nl d (hc j) (hl j) (ys j)) (hend:idsH (n+1) ((n,.mark) :: hc R))
    (hround:∀ j,j < R→Sym A' P assign (rStart L ps.toList hs n nl (ys j) (hc j) (hl j)) (thenK (fun S1=>Sym A' P body S1 (endK ans ex jj hs (n+1) (fun k=>(n,.mark) :: hc k) (fun j=>nth (hl j)) (keepId (asg L) hs n m d) j)) fun _ _=>False))
    (hKn:(∀ k,k < R→ans k=true)→K .normal { t:=asg L,h:=hasg ((n,.mark) :: hc R++lentA hs (n+1) 0 Lp),n:=n+1,j:=jj R,d:=.mark n :: d,m:=m })
    (hKx:0 < R→ans (R - 1)=false→K ex { t:=asg L,h:=hasg ((n,.mark) :: hc R++lentA hs (n+1) 0 Lp),n:=n+1,j:=jj R,d:=.mark n :: d,m:=m }) :
    Sym A P (.rangeFunc (.tmp tg) ps assign body) { t:=asg L,h:=hasg (hc 0++lentA hs (n+1) 0 Lp),n:=n,j:=jj 0,d:=d,m:=m } K:=by
  have e0:=lentL_eq (n:=n+1) (nl:=0) (L:=Lp) (hs:=hs) hlen
  rw [← e0] at hKn hKx ⊢
  have hkeepT:∀ j,j < R→∀ id,keepId (asg L) hs n m d id→keyIn (n+1) ((n,.mark) :: hc j++lentA hs (n+1) 0 (hl j)) id:=fun j hj id hid=>by
    refine keysIn_mem (hst j hj).keys id ?_
    simp only [List.mem_append,List.mem_range]
    rcases hid with h|h|⟨t,h⟩|h
    · exact .inl h
    · exact .inr (.inl h)
    · refine .inr (.inr (.inl ?_))
      rcases asg_mem L t with e|⟨p,hp,_,e⟩
      · rw [e] at h;simp [AV.ids] at h
      · rw [e] at h;exact idsTL_mem hp h
    · exact .inr (.inr (.inr h))
  intro F0 hF0 hd0
  have hps:∀ p ∈ ps.toList,p < F0.nt:=fun p hp=>by
    simp only [dstOK,Bool.and_eq_true] at hd0
    have:=List.all_eq_true.1 hd0.1.1 p hp
    simpa using this
  refine sym_range (A:=fun F=>F=F0) (fun F hF=>hF ▸ hAr F0 hF0) hA' (h0:=nth Lp) (hl:=fun j=>nth (hl j)) (nl:=nl) (vv:=vv) (N:=N) (by simpa [ev] using hg) hit hRo hex hcaps hcn (fun q o0 ho=>?_) (fun q hq=>⟨_,List.getElem?_eq_getElem (by omega)⟩) hnd hsn (fun F hF j hj=>?_) (fun j hj mm o ho id hid=>?_) (fun j hj id hid=>?_) (fun j hj mm o0 ho=>?_) (fun i o ho=>?_) (fun j hj=>?_) hKn hKx F0 rfl hd0
  · obtain ⟨g1,g2,g3⟩:=lentP_get hobj q o0 ho
    exact ⟨by have:=(List.getElem?_eq_some_iff.1 ho).1;omega,g1,g2,g3⟩
  · have h:=hst j hj
    refine ⟨hsl,fun t id hid=>?_,fun i o ho=>idsH_mem h.own _ (hasg_mem ho),fun mm o ho=>?_,argQ_mem h.args,h.plen,fun p hp=>by rw [hF];exact hps p hp⟩
    · rcases asg_mem L t with e|⟨p,hp,_,e⟩
      · rw [e] at hid;simp [AV.ids] at hid
      · have:id ∈ p.2.ids:=by rw [e] at hid;exact hid
        exact ⟨idsT_mem hidt p hp id this,.inr (.inr (.inl ⟨t,hid⟩))⟩
    · obtain ⟨g1,g2⟩:=lentQ_get h.lent mm o ho
      exact ⟨by have:=(List.getElem?_eq_some_iff.1 ho).1;have:=h.len;omega,g1,g2⟩
  · obtain ⟨_,g2⟩:=lentQ_get (hst j hj).lent mm o ho
    have:=g2 id hid
    exact ⟨_,List.getElem?_eq_getElem (by have:=(hst j hj).len;omega)⟩
  · obtain ⟨g1,g2⟩:=hkeepT j hj id hid
    rw [lentL_eq (hst j hj).len]
    exact ⟨g1,hasg_keys g2⟩
  · rw [lentL_eq (hst j hj).len]
    obtain ⟨o',ho'⟩:=lentA_keys (hs:=hs) (n:=n+1) (L:=hl j) (k:=0) (m:=mm) (List.getElem?_eq_some_iff.1 ho).1
    rw [Nat.zero_add] at ho'
    exact hasg_ex (List.mem_append_right _ ho')
  · exact idsH_mem hend _ (hasg_mem ho)
  · have:=hround j hj
    simp only [rStart,← lentL_eq (hst j hj).len] at this
    exact this
def lentR (S:St) (hf:Nat→Option AObj) (hs:List Nat) (n:Nat):Nat→List AObj→Prop
  |_,[]=>True
  |k,o :: os=>(match S.h (callRen hs n k) with|some ob=>AObj.le hf (fun j=>some (callRen hs n j)) ob o|none=>False)∧lentR S hf hs n (k+1) os
theorem lentR_get {S:St} {hf:Nat→Option AObj} {hs:List Nat} {n:Nat}:∀ {L:List AObj} {k:Nat},lentR S hf hs n k L→∀ (q:Nat) (o:AObj),L[q]?=some o→∃ ob,S.h (callRen hs n (k+q))=some ob∧AObj.le hf (fun j=>some (callRen hs n j)) ob o
  |o :: os,k,h,0,o',ho=>by
    simp only [List.getElem?_cons_zero,Option.some.injEq] at ho
    subst ho
    have h1:=h.1
    split at h1
    · rename_i ob hob;exact ⟨ob,hob,h1⟩
    · exact h1.elim
  |o :: os,k,h,q+1,o',ho=>by
    have:=lentR_get h.2 q o' (by simpa using ho)
    rwa [show k+1+q=k+(q+1) by omega] at this
def rensL (hs:List Nat) (n:Nat):Nat→List AObj→List Nat
  |_,[]=>[]
  |k,_ :: os=>callRen hs n k :: rensL hs n (k+1) os
theorem rensL_get {hs:List Nat} {n:Nat}:∀ {L:List AObj} {k q:Nat},q < L.length→callRen hs n (k+q) ∈ rensL hs n k L
  |o :: os,k,0,_=>List.mem_cons_self
  |o :: os,k,q+1,h=>by
    have:=rensL_get (hs:=hs) (n:=n) (L:=os) (k:=k+1) (q:=q) (by simpa using h)
    rw [show k+1+q=k+(q+1) by omega] at this
    exact List.mem_cons_of_mem _ this
structure RFinOK (S:St) (hs:List Nat) (n:Nat) (own:List (Nat × AObj)) (Lt:List AObj) (kp:List Nat) (σ:Nat→Option Nat) (fz:List Nat):Prop where
  h:leH S (fun i=>if i ∈ fz then S.h i else none) σ own
  l:lentR S (fun i=>if i ∈ fz then S.h i else none) hs n 0 Lt
  img:(imgs σ own).Nodup
  apart:∀ i ∈ imgs σ own,i ∉ rensL hs n 0 Lt
  frz:∀ i ∈ fz,i ∉ imgs σ own∧i ∉ rensL hs n 0 Lt
  pin:∀ i ∈ kp,σ i=some i
theorem RFin.ok {S:St} {L:List (Nat × AV)} {hs:List Nat} {n m:Nat} {d:List ADf} {own:List (Nat × AObj)} {Lt:List AObj} (σ:Nat→Option Nat) (fz:List Nat) (h:RFinOK S hs (n+1) own Lt (List.range m++(hs++(idsTL L++(ADf.mark n :: d).flatMap ADf.ids))) σ fz) :
    RFin S hs (n+1) own (nth Lt) (keepId (asg L) hs n m d) σ (fun i=>if i ∈ fz then S.h i else none):=by
  refine ⟨fun i o1 ho=>leH_mem h.h _ (hasg_mem ho),fun q o0 ho=>?_,fun i o k o' c h1 h2 e1 e2=>?_,fun i o q o0 h1 h2 e=>?_,fun i o hi=>?_,fun id hid=>?_⟩
  · have:=lentR_get h.l q o0 ho
    rwa [Nat.zero_add] at this
  · rcases imgs_inj h.img _ (hasg_mem h1) _ (hasg_mem h2) c e1 e2 with h|h|h
    · exact congrArg (·.1) h
    · exact h
    · exact h.elim
  · have hm:=rensL_get (hs:=hs) (n:=n+1) (L:=Lt) (k:=0) (q:=q) (List.getElem?_eq_some_iff.1 h2).1
    rw [Nat.zero_add] at hm
    exact h.apart _ (List.mem_filterMap.2 ⟨_,hasg_mem h1,e⟩) hm
  · by_cases hm:i ∈ fz
    · rw [if_pos hm] at hi
      refine ⟨hi,fun j o1 hj hs=>(h.frz i hm).1 (List.mem_filterMap.2 ⟨_,hasg_mem hj,hs⟩),fun q o0 hq e=>?_⟩
      have hm':=rensL_get (hs:=hs) (n:=n+1) (L:=Lt) (k:=0) (q:=q) (List.getElem?_eq_some_iff.1 hq).1
      rw [Nat.zero_add,e] at hm'
      exact (h.frz i hm).2 hm'
    · rw [if_neg hm] at hi;cases hi
  · refine h.pin id ?_
    simp only [List.mem_append,List.mem_range]
    rcases hid with h|h|⟨t,h⟩|h
    · exact .inl h
    · exact .inr (.inl h)
    · refine .inr (.inr (.inl ?_))
      rcases asg_mem L t with e|⟨p,hp,_,e⟩
      · rw [e] at h;simp [AV.ids] at h
      · rw [e] at h;exact idsTL_mem hp h
    · exact .inr (.inr (.inr h))
end Go.Sym
namespace Go.Sym
open Go Go.RowKit
variable {P : Program}
inductive Sp where
  |int (k:IntKind)
  |bool
  |sl (es:List Sp)
inductive Fl (P:Program):TypeId→List Sp→Prop
  |int {t:TypeId} {k:IntKind}:P.underlying t=some (.int k)→Fl P t [.int k]
  |bool {t:TypeId}:P.underlying t=some .bool→Fl P t [.bool]
  |sl {t e:TypeId} {es:List Sp}:P.underlying t=some (.slice e)→P.cellsOf e=es.length→0 < es.length→Fl P e es→Fl P t [.sl es]
  |struct {t:TypeId} {fs:Array Field} {L:List (List Sp)}:P.underlying t=some (.struct fs)→P.cellsOf t=L.flatten.length→L.length=fs.size →
      (∀ (i:Nat) (f:Field) (l:List Sp),fs[i]?=some f→L[i]?=some l→Fl P f.type l) →
      (∀ (i:Nat) (f:Field) (l:List Sp),fs[i]?=some f→L[i]?=some l→f.offset=(L.take i).flatten.length∧P.cellsOf f.type=l.length)→Fl P t L.flatten
inductive D1:Sp→DV→Prop
  |int {k:IntKind} {n:Int}:(Lit.int k n).wf=true→D1 (.int k) (.v (.int k n))
  |bool {b:Bool}:D1 .bool (.v (.bool b))
  |sl {es:List Sp} {xs:List (List DV)}:(∀ r ∈ xs,r.length=es.length)→(∀ r ∈ xs,∀ (j:Nat) (s:Sp) (d:DV),es[j]?=some s→r[j]?=some d→D1 s d)→xs.length≤maxLen→D1 (.sl es) (.sl xs)
structure DRow (w:World) (sps:List Sp) (ds:List DV) (cs:List Value):Prop where
  len:ds.length=sps.length
  clen:cs.length=sps.length
  shape:∀ (j:Nat) (s:Sp) (d:DV),sps[j]?=some s→ds[j]?=some d→D1 s d
  rel:∀ (j:Nat) (d:DV) (v:Value),ds[j]?=some d→cs[j]?=some v→DRel w (okW w) d v
theorem DRow.one {w:World} {s:Sp} {d:DV} {v:Value} (h:D1 s d) (hr:DRel w (okW w) d v):DRow w [s] [d] [v] :=
  ⟨rfl,rfl,fun j s' d' hs hd=>by
    cases j with
    |zero=>cases hs;cases hd;exact h
    |succ j=>simp at hs,fun j d' v' hd hv=>by
    cases j with
    |zero=>cases hd;cases hv;exact hr
    |succ j=>simp at hd⟩
theorem flatten_get {α:Type}:∀ {L:List (List α)} {q:Nat} {a:α},L.flatten[q]?=some a→∃ i l,L[i]?=some l∧(L.take i).flatten.length≤q∧l[q - (L.take i).flatten.length]?=some a
  |[],q,a,h=>by simp at h
  |x :: L,q,a,h=>by
    rw [List.flatten_cons] at h
    by_cases hq:q < x.length
    · rw [List.getElem?_append_left hq] at h
      exact ⟨0,x,rfl,by simp,by simpa using h⟩
    · rw [List.getElem?_append_right (by omega)] at h
      obtain ⟨i,l,h1,h2,h3⟩:=flatten_get h
      refine ⟨i+1,l,by simpa using h1,?_,?_⟩
      · rw [List.take_succ_cons,List.flatten_cons,List.length_append];omega
      · rw [List.take_succ_cons,List.flatten_cons,List.length_append,show q - (x.length+(L.take i).flatten.length)=q - x.length - (L.take i).flatten.length by omega];exact h3
theorem flatten_at {α:Type} {L:List (List α)} {i j:Nat} {l:List α} (h:L[i]?=some l) (hj:j < l.length):L.flatten[(L.take i).flatten.length+j]?=l[j]?:=by
  have hlt:=(List.getElem?_eq_some_iff.1 h).1
  have:L.flatten=(L.take i).flatten++(L.drop i).flatten:=by rw [← List.flatten_append,List.take_append_drop]
  rw [this,List.getElem?_append_right (by omega),List.drop_eq_getElem_cons hlt,List.flatten_cons]
  rw [List.getElem?_eq_getElem hlt] at h
  cases h
  rw [show (L.take i).flatten.length+j - (L.take i).flatten.length=j by omega,List.getElem?_append_left hj]
theorem choose_list {α:Type} {p:Nat→α→Prop}:∀ (n:Nat),(∀ i,i < n→∃ a,p i a)→∃ l:List α,l.length=n∧∀ (i:Nat) (a:α),l[i]?=some a→p i a
  |0,_=>⟨[],rfl,by simp⟩
  |n+1,h=>by
    obtain ⟨l,hl,hp⟩:=choose_list n fun i hi=>h i (by omega)
    obtain ⟨a,ha⟩:=h n (by omega)
    refine ⟨l++[a],by simp [hl],fun i b hb=>?_⟩
    by_cases hi:i < l.length
    · rw [List.getElem?_append_left hi] at hb;exact hp i b hb
    · rw [List.getElem?_append_right (by omega)] at hb
      have:i - l.length=0:=by
        have:=(List.getElem?_eq_some_iff.1 hb).1
        simp at this;omega
      rw [this] at hb
      simp only [List.getElem?_cons_zero,Option.some.injEq] at hb
      subst hb
      rw [show i=n by omega]
      exact ha
theorem cell_block {w:World} {a:Addr} {v:Value} (h:w.cell? a=some v):a.block < w.heap.size:=by
  rcases Nat.lt_or_ge a.block w.heap.size with h6|h6
  · exact h6
  · simp [World.cell?,Array.getElem?_eq_none h6] at h
theorem open_fl {H:Type} {enc:TypeId × Value→H} {w:World} {base:Nat} {spare:Nat→Bool} {held:Bool} {t:TypeId} {sps:List Sp} (hf:Fl P t sps) :
    ∀ {fuel:Nat} {cs:List Value} {x:DataW H × List MemPlace},DataW.trod enc P w base spare held fuel t cs=some x→∃ ds,DRow w sps ds cs:=by
  induction hf with
  |@int t k ht =>
    intro fuel cs x h
    cases fuel with
    |zero=>simp [DataW.trod] at h
    |succ n =>
      unfold DataW.trod at h
      rw [ht] at h
      split at h <;> simp_all
      exact ⟨_,.one (.int h.1.2) (.v rfl)⟩
  |@bool t ht =>
    intro fuel cs x h
    cases fuel with
    |zero=>simp [DataW.trod] at h
    |succ n =>
      unfold DataW.trod at h
      rw [ht] at h
      split at h <;> simp_all
      exact ⟨_,.one .bool (.v rfl)⟩
  |@sl t e es ht hce hpos hfe ih =>
    intro fuel cs x h
    rcases DataW.trod_slice ht h with ⟨rfl,_⟩|⟨a,len,cap,elems,rest,n,_,rfl,_,hb,hl,hm,hlen,hel,_,_⟩
    · exact ⟨_,.one (.sl (xs:=[]) (by simp) (by simp) (Nat.zero_le _)) (.sl0 (Nat.zero_le _))⟩
    · obtain ⟨rows,hrl,hrow⟩:=choose_list (p:=fun i (r:List DV × List Value)=>DRow w es r.1 r.2∧∀ j,j < es.length→w.cell? (a.add (i * es.length+j))=r.2[j]?) len fun i hi=>by
        have h1:=hel i hi
        rw [List.getElem?_eq_getElem (by omega)] at h1
        obtain ⟨cs',hc,ht'⟩:=Option.bind_eq_some_iff.1 h1
        obtain ⟨ds,hd⟩:=ih ht'
        refine ⟨(ds,cs'),hd,fun j hj=>?_⟩
        rw [hce] at hc
        have:=(World.cells?_some hc).2.2 j hj
        rwa [add_add'] at this
      have get:∀ (i:Nat) (r:List DV),(rows.map (·.1))[i]?=some r→∃ q,rows[i]?=some q∧q.1=r:=fun i r hr=>by
        rw [List.getElem?_map] at hr
        exact Option.map_eq_some_iff.1 hr
      have hrowl:∀ r ∈ rows.map (·.1),r.length=es.length:=fun r hr=>by
        obtain ⟨i,hi⟩:=List.getElem?_of_mem hr
        obtain ⟨q,hq,rfl⟩:=get i r hi
        exact (hrow i q hq).1.len
      refine ⟨[.sl (rows.map (·.1))],.one (.sl hrowl (fun r hr j s d hs hd=>?_) (by simp [hrl];omega)) ?_⟩
      · obtain ⟨i,hi⟩:=List.getElem?_of_mem hr
        obtain ⟨q,hq,rfl⟩:=get i r hi
        exact (hrow i q hq).1.shape j s d hs hd
      · rcases Nat.eq_zero_or_pos len with rfl|hp
        · have:rows=[]:=List.length_eq_zero_iff.1 hrl
          subst this
          exact .sl0 hm
        · have cell:∀ (i:Nat) (r:List DV) (j:Nat) (d:DV),(rows.map (·.1))[i]?=some r→r[j]?=some d→∃ v,w.cell? (a.add (i * es.length+j))=some v∧DRel w (okW w) d v:=fun i r j d hr hd=>by
            obtain ⟨q,hq,rfl⟩:=get i r hr
            obtain ⟨hR,hc⟩:=hrow i q hq
            have hj:j < es.length:=by rw [← hR.len];exact (List.getElem?_eq_some_iff.1 hd).1
            have h1:=hc j hj
            have hj2:j < q.2.length:=by rw [hR.clen];exact hj
            exact ⟨q.2[j],by rw [h1,List.getElem?_eq_getElem hj2],hR.rel j d _ hd (List.getElem?_eq_getElem hj2)⟩
          have hblk:a.block < w.heap.size:=by
            have h0:0 < rows.length:=by omega
            obtain ⟨hR,hc⟩:=hrow 0 _ (List.getElem?_eq_getElem h0)
            have h1:=hc 0 hpos
            have hj2:0 < rows[0].2.length:=by rw [hR.clen];exact hpos
            rw [List.getElem?_eq_getElem hj2] at h1
            have:=cell_block h1
            rwa [block_add] at this
          refine .sl (k:=es.length) (fun i j=>(w.cell? (a.add (i * es.length+j))).getD undef) (by simp [hrl]) hp hl hm hpos (fun i r hr=>hrowl r (List.mem_of_getElem? hr)) (fun i r j d hr hd=>?_) (fun i r j d hr hd=>?_) (okW_of hblk)
          · obtain ⟨v,hv,_⟩:=cell i r j d hr hd
            rw [hv];rfl
          · obtain ⟨v,hv,hd⟩:=cell i r j d hr hd
            rw [hv];exact hd
  |@struct t fs L ht hct hL _ hoff ih =>
    intro fuel cs x h
    obtain ⟨xs,n,_,_,hcl,hxl,hx⟩:=DataW.trod_struct ht h
    have hlen:cs.length=L.flatten.length:=by rw [hcl,hct]
    obtain ⟨dss,hdl,hds⟩:=choose_list (p:=fun i (d:List DV)=>∀ l,L[i]?=some l→DRow w l d ((cs.drop (L.take i).flatten.length).take l.length)) L.length fun i hi=>by
      have hfi:i < fs.size:=by omega
      obtain ⟨h1,h2⟩:=hoff i _ _ (Array.getElem?_eq_getElem hfi) (List.getElem?_eq_getElem hi)
      have h3:=hx i _ (Array.getElem?_eq_getElem hfi)
      rw [List.getElem?_eq_getElem (by omega),h1,h2] at h3
      obtain ⟨ds,hd⟩:=ih i _ _ (Array.getElem?_eq_getElem hfi) (List.getElem?_eq_getElem hi) h3
      refine ⟨ds,fun l hl=>?_⟩
      rw [List.getElem?_eq_getElem hi] at hl
      cases hl
      exact hd
    have hlens:∀ (i:Nat) (d:List DV) (l:List Sp),dss[i]?=some d→L[i]?=some l→d.length=l.length:=fun i d l hd hl=>(hds i d hd l hl).len
    have htake:∀ i,i≤L.length→(dss.take i).flatten.length=(L.take i).flatten.length:=by
      intro i
      induction i with
      |zero=>intro _;rfl
      |succ i ihi =>
        intro hi
        have h1:i < dss.length:=by omega
        have h2:i < L.length:=by omega
        rw [List.take_succ_eq_append_getElem h1,List.take_succ_eq_append_getElem h2,List.flatten_append,List.flatten_append,List.length_append,List.length_append,ihi (by omega)]
        simp only [List.flatten_cons,List.flatten_nil,List.append_nil]
        rw [hlens i _ _ (List.getElem?_eq_getElem h1) (List.getElem?_eq_getElem h2)]
    have hfl:dss.flatten.length=L.flatten.length:=by
      have:=htake L.length (Nat.le_refl _)
      rwa [List.take_of_length_le (by omega),List.take_of_length_le (Nat.le_refl _)] at this
    refine ⟨dss.flatten,hfl,hlen,fun q s d hs hd=>?_,fun q d v hd hv=>?_⟩
    · obtain ⟨i,l,h1,h2,h3⟩:=flatten_get hs
      have hi:=(List.getElem?_eq_some_iff.1 h1).1
      have hdi:i < dss.length:=by omega
      have hR:=hds i _ (List.getElem?_eq_getElem hdi) l h1
      have hj:q - (L.take i).flatten.length < l.length:=(List.getElem?_eq_some_iff.1 h3).1
      have h4:=flatten_at (L:=dss) (List.getElem?_eq_getElem hdi) (j:=q - (L.take i).flatten.length) (by rw [hR.len];exact hj)
      rw [htake i (by omega),show (L.take i).flatten.length+(q - (L.take i).flatten.length)=q by omega,hd] at h4
      exact hR.shape _ s d h3 h4.symm
    · obtain ⟨i,dl,h1,h2,h3⟩:=flatten_get hd
      have hi:=(List.getElem?_eq_some_iff.1 h1).1
      have hLi:i < L.length:=by omega
      rw [htake i (by omega)] at h2 h3
      have hR:=hds i dl h1 _ (List.getElem?_eq_getElem hLi)
      have hj:q - (L.take i).flatten.length < L[i].length:=by rw [← hR.len];exact (List.getElem?_eq_some_iff.1 h3).1
      refine hR.rel _ d v h3 ?_
      rw [List.getElem?_take,if_pos hj,List.getElem?_drop,show (L.take i).flatten.length+(q - (L.take i).flatten.length)=q by omega]
      exact hv
theorem rows_of {α:Type} {e:α→List DV} {p:List DV→Prop}:∀ {xs:List (List DV)},(∀ r ∈ xs,∃ a,r=e a)→∃ l:List α,xs=l.map e
  |[],_=>⟨[],rfl⟩
  |r :: xs,h=>by
    obtain ⟨a,rfl⟩:=h r (by simp)
    obtain ⟨l,rfl⟩:=rows_of (p:=p) fun r hr=>h r (List.mem_cons_of_mem _ hr)
    exact ⟨a :: l,rfl⟩
end Go.Sym
namespace Go.Sym
open Go Go.RowKit
variable {P : Program}
def flB (P:Program):Nat→TypeId→Option (List Sp)
  |0,_=>none
  |n+1,t=>match P.underlying t with
    |some (.int k)=>some [.int k]
    |some .bool=>some [.bool]
    |some (.slice e)=>match flB P n e with
      |some es=>if P.cellsOf e=es.length∧0 < es.length then some [.sl es] else none
      |none=>none
    |some (.struct fs)=>match fs.toList.mapM fun f=>flB P n f.type with
      |some L=>if P.cellsOf t=L.flatten.length∧(List.range fs.size).all (fun i=>match fs[i]?,L[i]? with|some f,some l=>f.offset == (L.take i).flatten.length && P.cellsOf f.type == l.length|_,_=>false)=true then some L.flatten else none
      |none=>none
    |_=>none
theorem flB_sound:∀ {n:Nat} {t:TypeId} {sps:List Sp},flB P n t=some sps→Fl P t sps
  |0,t,sps,h=>by simp [flB] at h
  |n+1,t,sps,h=>by
    unfold flB at h
    split at h
    · rename_i k hu;cases h;exact .int hu
    · rename_i hu;cases h;exact .bool hu
    · rename_i e hu
      split at h
      · rename_i es he
        split at h
        · rename_i hc;cases h;exact .sl hu hc.1 hc.2 (flB_sound he)
        · cases h
      · cases h
    · rename_i fs hu
      split at h
      · rename_i L hL
        split at h
        · rename_i hc
          cases h
          have hlen:L.length=fs.size:=by simpa using mapM_some_length hL
          refine .struct hu hc.1 hlen (fun i f l hf hl=>?_) fun i f l hf hl=>?_
          · have:=mapM_some_get hL i f (by simpa using hf)
            rw [hl] at this
            exact flB_sound this
          · have h1:=List.all_eq_true.1 hc.2 i (List.mem_range.2 (Array.getElem?_eq_some_iff.1 hf).1)
            rw [hf,hl] at h1
            simpa using h1
        · cases h
      · cases h
    · cases h
def toAV:DV→AV
  |.v x=>.v x
  |.sl xs=>.sl xs
theorem toAV_rel {w:World} {d:DV} {v:Value} {ρ:Nat→Value} {y:Value} (h:DRel w (okW w) d v):ARel w (okW w) ρ y (toAV d) v:=by
  cases h with
  |v h=>exact .v h
  |sl0 h=>exact .sl (.sl0 h)
  |sl f h1 h2 h3 h4 h5 h6 h7 h8 h9=>exact .sl (.sl f h1 h2 h3 h4 h5 h6 h7 h8 h9)
theorem DRow.agg {w:World} {sps:List Sp} {ds:List DV} {cs:Array Value} {ρ:Nat→Value} {y:Value} (h:DRow w sps ds cs.toList):ARel w (okW w) ρ y (.agg (ds.map toAV)) (.agg cs):=by
  refine .agg (by have:=h.len;have:=h.clen;simp at this ⊢;omega) fun i c hc=>?_
  rw [List.getElem?_map] at hc
  obtain ⟨d,hd,rfl⟩:=Option.map_eq_some_iff.1 hc
  have hi:=(List.getElem?_eq_some_iff.1 hd).1
  have h2:i < cs.size:=by have:=h.len;have:=h.clen;simp at this;omega
  have:=h.rel i d cs[i] hd (by simp [h2])
  simpa [h2] using toAV_rel this
theorem DRow.one_inv {w:World} {s:Sp} {ds:List DV} {v:Value} (h:DRow w [s] ds [v]):∃ d,ds=[d]∧D1 s d∧DRel w (okW w) d v:=by
  obtain ⟨d,rfl⟩:=List.length_eq_one_iff.1 h.len
  exact ⟨d,rfl,h.shape 0 s d rfl rfl,h.rel 0 d v rfl rfl⟩
theorem D1.int_inv {k:IntKind} {d:DV} (h:D1 (.int k) d):∃ n,d=.v (.int k n)∧(Lit.int k n).wf=true:=by
  cases h with
  |int h=>exact ⟨_,rfl,h⟩
theorem D1.sl_inv {α:Type} {es:List Sp} {d:DV} (e:α→List DV) (h:D1 (.sl es) d) (he:∀ r:List DV,r.length=es.length→(∀ (j:Nat) (s:Sp) (d:DV),es[j]?=some s→r[j]?=some d→D1 s d)→∃ a,r=e a):∃ l:List α,d=.sl (l.map e)∧l.length≤maxLen:=by
  cases h with
  |@sl _ xs h1 h2 h3 =>
    obtain ⟨l,rfl⟩:=rows_of (p:=fun _=>True) (e:=e) (xs:=xs) fun r hr=>he r (h1 r hr) (h2 r hr)
    exact ⟨l,rfl,by simpa using h3⟩
end Go.Sym
namespace Go.Sym
open Go
inductive Nx:Prop→Prop
  |s0 {A:Frm→Prop} {P:Program} {x y:Code} {S:St} {K:Exit→St→Prop} (h:Sym A P x S (thenK (fun S'=>Sym A P y S' K) K)):Nx (Sym A P (.seq x y) S K)
  |s1 {A:Frm→Prop} {P:Program} {id:Nat} {c:Code} {S:St} {K:Exit→St→Prop} (h:Sym A P c S (blockK id K)):Nx (Sym A P (.block id c) S K)
  |s2 {A:Frm→Prop} {P:Program} {S:St} {K:Exit→St→Prop} (h:K .normal S):Nx (Sym A P .skip S K)
  |s3 {A:Frm→Prop} {P:Program} {l:Nat} {S:St} {K:Exit→St→Prop} (h:K .normal S):Nx (Sym A P (.label l) S K)
  |s4 {A:Frm→Prop} {P:Program} {id:Nat} {S:St} {K:Exit→St→Prop} (h:K (.exit id) S):Nx (Sym A P (.exit id) S K)
  |s5 {A:Frm→Prop} {P:Program} {S:St} {K:Exit→St→Prop} (h:K .ret S):Nx (Sym A P .ret S K)
  |tn {N:St→Prop} {K:Exit→St→Prop} {S:St} (h:N S):Nx (thenK N K .normal S)
  |tx {N:St→Prop} {K:Exit→St→Prop} {S:St} {id:Nat} (h:K (.exit id) S):Nx (thenK N K (.exit id) S)
  |tr {N:St→Prop} {K:Exit→St→Prop} {S:St} (h:K .ret S):Nx (thenK N K .ret S)
  |bn {K:Exit→St→Prop} {S:St} {id:Nat} (h:K .normal S):Nx (blockK id K .normal S)
  |br {K:Exit→St→Prop} {S:St} {id:Nat} (h:K .ret S):Nx (blockK id K .ret S)
  |bh {K:Exit→St→Prop} {S:St} {id:Nat} (h:K .normal S):Nx (blockK id K (.exit id) S)
theorem nx {p:Prop} (h:Nx p):p:=by
  cases h with
  |s0 h=>exact zq0 h
  |s1 h=>exact zq1 h
  |s2 h=>exact zq2 h
  |s3 h=>exact zq3 h
  |s4 h=>exact zq4 h
  |s5 h=>exact zq5 h
  |tn h=>exact thenK_n h
  |tx h=>exact thenK_x h
  |tr h=>exact thenK_r h
  |bn h=>exact blockK_n h
  |br h=>exact blockK_r h
  |bh h=>exact blockK_hit h
end Go.Sym
