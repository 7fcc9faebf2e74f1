/- Walks and what they compute, joined: part 3. -/
import Derived.ControlIn
import Derived.CallsIn
import Derived.OrdersIn
import Derived.RangeFuncRecord
import Derived.Maps.AppendAt
import Derived.OwnWalk
import Derived.Below
import Derived.Laws.StructEq
import Derived.Laws.Cells
import Derived.Laws.CopyRow
import Derived.Laws.Slices
import Derived.Laws.MakeOwn
import Derived.RangeFuncLeaves
import Derived.Maps.Keyed
import Derived.ChangeSlices
import Derived.WideShapes
import Derived.DataReads
import Derived.Scope
import Derived.Test.YtfljkbcphmnjkaaGreatMS2
set_option linter.all false
namespace Go.Sym
open Go
def vk3:=And.intro @maxE.eq_1 (And.intro @maxE.eq_2 (And.intro @zu.eq_1 (And.intro @zu.eq_2 (And.intro @zu.eq_3 (And.intro @slE.eq_1 (And.intro @slE.eq_2 (And.intro @slE.eq_3 (And.intro @slE.eq_4 (And.intro @Zw.eq_1 (And.intro @Zw.eq_2 (And.intro @Zw.eq_3 (And.intro @VN.eq_1 (And.intro @KX.eq_1 (And.intro @KX.eq_2 (And.intro @Qho.eq_1 (And.intro @Qho.eq_2 (And.intro @Qdf.eq_1 (And.intro @Qdf.eq_2 (And.intro @Kr.eq_1 (And.intro @Kr.eq_2 (And.intro @isNil.eq_1 (And.intro @isNil.eq_2 (And.intro @KT.eq_def (And.intro @KT.eq_2 (And.intro @yD.eq_1 (And.intro @yD.eq_2 (And.intro @yD.eq_3 (And.intro @yD.eq_4 (And.intro @Qil.eq_1 (And.intro @Qil.eq_2 (And.intro @Qil.eq_3 (And.intro @yJ.eq_1 (And.intro @yJ.eq_2 (And.intro @R3.eq_1 (And.intro @R3.eq_2 (And.intro @dvE.eq_1 (And.intro @dvE.eq_2 (And.intro @dvE.eq_3 (And.intro @dvE.eq_4 (And.intro @dvE.eq_5 (@dvE.eq_6)))))))))))))))))))))))))))))))))))))))))
def vk4:=And.intro @vB.eq_1 (And.intro @vB.eq_2 (And.intro @bsE.eq_1 (And.intro @bsE.eq_2 (And.intro @Zf.eq_1 (And.intro @zO.eq_1 (And.intro @zO.eq_2 (And.intro @zO.eq_3 (And.intro @zA.eq_1 (And.intro @zA.eq_2 (And.intro @TD.elem.eq_1 (And.intro @TD.elem.eq_2 (And.intro @TD.elem.eq_3 (And.intro @TD.agg.eq_1 (And.intro @TD.agg.eq_2 (And.intro @TD.agg.eq_3 (And.intro @TD.agg.eq_4 (And.intro @TD.agg.eq_5 (And.intro @TD.agg.eq_6 (And.intro @TD.agg.eq_7 (And.intro @TD.agg.eq_8 (And.intro @TD.agg.eq_9 (And.intro @TD.agg.eq_10 (And.intro @TD.agg.eq_11 (And.intro @yC.eq_1 (And.intro @cellsOf.eq_1 (And.intro @cellsOf.eq_2 (And.intro @cellsOf.eq_3 (And.intro @cellsOf.eq_4 (And.intro @cellsOf.eq_5 (And.intro @cellsOf.eq_6 (And.intro @cellsOf.eq_7 (And.intro @cellsOf.eq_8 (And.intro @cellsOf.eq_9 (And.intro @cellsOf.eq_10 (And.intro @cellsOf.eq_11 (And.intro @cellsOf.eq_12 (And.intro @cellsOf.eq_13 (And.intro @cellsOf.eq_14 (@cellsOf.eq_15)))))))))))))))))))))))))))))))))))))))
def vk5:=And.intro @cellsOf.eq_16 (And.intro @wJ.eq_1 (And.intro @wJ.eq_2 (And.intro @wJ.eq_3 (And.intro @wJ.eq_4 (And.intro @wJ.eq_5 (And.intro @wJ.eq_6 (And.intro @wJ.eq_7 (And.intro @wJ.eq_8 (And.intro @wJ.eq_9 (And.intro @wJ.eq_10 (And.intro @wJ.eq_11 (And.intro @wJ.eq_12 (And.intro @wJ.eq_13 (And.intro @wJ.eq_14 (And.intro @wJ.eq_15 (And.intro @wJ.eq_16 (And.intro @dvZ.eq_1 (And.intro @dvL.eq_1 (And.intro @dvL.eq_2 (And.intro @AV.dv.eq_1 (And.intro @AV.dv.eq_2 (And.intro @AV.dv.eq_3 (And.intro @AV.dv.eq_4 (And.intro @AV.dv.eq_5 (And.intro @AV.dv.eq_6 (And.intro @AV.dv.eq_7 (And.intro @AV.dv.eq_8 (And.intro @AV.dv.eq_9 (And.intro @AV.dv.eq_10 (And.intro @AV.dv.eq_11 (And.intro @AV.dv.eq_12 (And.intro @AV.dv.eq_13 (And.intro @AV.dv.eq_14 (And.intro @AV.dv.eq_15 (And.intro @AV.dv.eq_16 (And.intro @DV.av.eq_1 (And.intro @DV.av.eq_2 (And.intro @ev.eq_1 (@ev.eq_2)))))))))))))))))))))))))))))))))))))))
def vk6:=And.intro @ev.eq_3 (And.intro @ev.eq_4 (And.intro @cAV.eq_1 (And.intro @cAV.eq_2 (And.intro @yO.eq_1 (And.intro @yO.eq_2 (And.intro @yO.eq_3 (And.intro @yO.eq_4 (And.intro @yO.eq_5 (And.intro @yO.eq_6 (And.intro @yO.eq_7 (And.intro @yO.eq_8 (And.intro @yO.eq_9 (And.intro @yO.eq_10 (And.intro @yO.eq_11 (And.intro @yO.eq_12 (And.intro @yO.eq_13 (And.intro @yO.eq_14 (And.intro @yO.eq_15 (And.intro @yO.eq_16 (And.intro @yO.eq_17 (And.intro @yO.eq_18 (And.intro @Jf.eq_1 (And.intro @Jf.eq_2 (And.intro @Zb.eq_1 (And.intro @Zb.eq_2 (And.intro @Zb.eq_3 (And.intro @St.lit.eq_1 (And.intro @St.app.eq_1 (And.intro @put.eq_1 (And.intro @put.eq_2 (And.intro @upd_same (And.intro @upd_ne (And.intro @zo.eq_1 (And.intro @zo.eq_2 (And.intro @QfX (And.intro @Qhl (And.intro @Qjd (And.intro @Ro.eq_1 (@Ro.eq_2)))))))))))))))))))))))))))))))))))))))
def vk7:=And.intro @qX.eq_1 (And.intro @Wt.eq_1 (And.intro @yE.eq_1 (And.intro @zeros.eq_1 (And.intro @zeros.eq_2 (And.intro @chunk.eq_1 (And.intro @chunk.eq_2 (And.intro @yM.eq_1 (And.intro @yM.eq_2 (And.intro @QT.eq_1 (And.intro @QT.eq_2 (And.intro @q9.eq_1 (And.intro @ZM.eq_1 (And.intro @ZM.eq_2 (And.intro @ZM.eq_3 (And.intro @bad.eq_1 (And.intro @noH.eq_1 (And.intro @Qfg (And.intro @QiN (And.intro @Qhy (And.intro @fnE.eq_1 (And.intro @Pk.ok.eq_1 (And.intro @Pk.eff.eq_1 (And.intro @Pk.hf.eq_1 (And.intro @KF.eq_1 (And.intro @KF.eq_2 (And.intro @KF.eq_3 (And.intro @QgF.eq_1 (And.intro @QgF.eq_2 (And.intro @Qbz.eq_1 (And.intro @Qbz.eq_2 (And.intro @Qbz.eq_3 (And.intro @Xi.eq_1 (And.intro @Xi.eq_2 (And.intro @Xi.eq_3 (And.intro @hwL.eq_1 (And.intro @hwL.eq_2 (And.intro @Vz.eq_1 (And.intro @Vz.eq_2 (@qo.eq_1)))))))))))))))))))))))))))))))))))))))
def vk8:=And.intro @AV.ren.eq_1 (And.intro @AV.ren.eq_2 (And.intro @AV.ren.eq_3 (And.intro @AV.ren.eq_4 (And.intro @AV.ren.eq_5 (And.intro @AV.ren.eq_6 (And.intro @AV.ren.eq_7 (And.intro @AV.ren.eq_8 (And.intro @AV.ren.eq_9 (And.intro @AV.ren.eq_10 (And.intro @AV.ren.eq_11 (And.intro @AV.ren.eq_12 (And.intro @AV.ren.eq_13 (And.intro @AV.ren.eq_14 (And.intro @AV.ren.eq_15 (And.intro @AV.ren.eq_16 (And.intro @AV.renL.eq_1 (And.intro @AV.renL.eq_2 (And.intro @AObj.ren.eq_1 (And.intro @AObj.ren.eq_2 (And.intro @AObj.ren.eq_3 (And.intro @AObj.ren.eq_4 (And.intro @AV.le.eq_1 (And.intro @AV.le.eq_2 (And.intro @AV.le.eq_3 (And.intro @AV.le.eq_4 (And.intro @AV.le.eq_5 (And.intro @AV.le.eq_6 (And.intro @AV.le.eq_7 (And.intro @AV.le.eq_8 (And.intro @AV.le.eq_9 (And.intro @AV.le.eq_10 (And.intro @AV.le.eq_11 (And.intro @AV.le.eq_12 (And.intro @AV.le.eq_13 (And.intro @AV.le.eq_14 (And.intro @AV.le.eq_15 (And.intro @AV.le.eq_16 (And.intro @AV.le.eq_17 (@AV.le.eq_18)))))))))))))))))))))))))))))))))))))))
def vk9:=And.intro @AV.le.eq_19 (And.intro @AV.le.eq_20 (And.intro @AV.le.eq_21 (And.intro @AV.le.eq_22 (And.intro @AV.leL.eq_1 (And.intro @AV.leL.eq_2 (And.intro @AV.leL.eq_3 (And.intro @AObj.le.eq_1 (And.intro @AObj.le.eq_2 (And.intro @AObj.le.eq_3 (And.intro @AObj.le.eq_4 (And.intro @AObj.le.eq_5 (And.intro @AV.ids.eq_1 (And.intro @AV.ids.eq_2 (And.intro @AV.ids.eq_3 (And.intro @AV.ids.eq_4 (And.intro @AV.ids.eq_5 (And.intro @AV.ids.eq_6 (And.intro @AV.ids.eq_7 (And.intro @AV.ids.eq_8 (And.intro @AV.ids.eq_9 (And.intro @AV.ids.eq_10 (And.intro @AV.ids.eq_11 (And.intro @AV.ids.eq_12 (And.intro @AV.ids.eq_13 (And.intro @AV.ids.eq_14 (And.intro @AV.ids.eq_15 (And.intro @AV.ids.eq_16 (And.intro @AV.idsL.eq_1 (And.intro @AV.idsL.eq_2 (And.intro @AObj.ids.eq_1 (And.intro @AObj.ids.eq_2 (And.intro @AObj.ids.eq_3 (And.intro @AObj.ids.eq_4 (And.intro @AV.flat.eq_1 (And.intro @AV.flat.eq_2 (And.intro @AV.flat.eq_3 (And.intro @AV.flat.eq_4 (And.intro @AV.flat.eq_5 (@AV.flat.eq_6)))))))))))))))))))))))))))))))))))))))
def vk10:=And.intro @AV.flat.eq_7 (And.intro @AV.flat.eq_8 (And.intro @AV.flat.eq_9 (And.intro @AV.flat.eq_10 (And.intro @AV.flat.eq_11 (And.intro @AV.flat.eq_12 (And.intro @AV.flat.eq_13 (And.intro @AV.flat.eq_14 (And.intro @AV.flat.eq_15 (And.intro @AV.flat.eq_16 (And.intro @AV.flatL.eq_1 (And.intro @AV.flatL.eq_2 (And.intro @AObj.flat.eq_1 (And.intro @AObj.flat.eq_2 (And.intro @AObj.flat.eq_3 (And.intro @AObj.flat.eq_4 (And.intro @qD.eq_1 (And.intro @qD.eq_2 (And.intro @zm.eq_1 (And.intro @zm.eq_2 (And.intro @zm.eq_3 (And.intro @tab.eq_1 (And.intro @tab.eq_2 (And.intro @QdR.eq_1 (And.intro @QdR.eq_2 (And.intro @qG.eq_1 (And.intro @AV.view.eq_1 (And.intro @AV.view.eq_2 (And.intro @AV.view.eq_3 (And.intro @AV.view.eq_4 (And.intro @AV.view.eq_5 (And.intro @AV.view.eq_6 (And.intro @AV.view.eq_7 (And.intro @AV.view.eq_8 (And.intro @AV.view.eq_9 (And.intro @AV.view.eq_10 (And.intro @AV.view.eq_11 (And.intro @AV.view.eq_12 (And.intro @AV.view.eq_13 (@AV.view.eq_14)))))))))))))))))))))))))))))))))))))))
def vk11:=And.intro @AV.view.eq_15 (And.intro @AV.view.eq_16 (And.intro @AV.viewL.eq_1 (And.intro @AV.viewL.eq_2 (And.intro @AV.rows.eq_1 (And.intro @AV.rows.eq_2 (And.intro @AV.rows.eq_3 (And.intro @AV.rows.eq_4 (And.intro @AV.rows.eq_5 (And.intro @AV.rows.eq_6 (And.intro @AV.rows.eq_7 (And.intro @AV.rows.eq_8 (And.intro @AV.rows.eq_9 (And.intro @AV.rows.eq_10 (And.intro @AV.rows.eq_11 (And.intro @AV.rows.eq_12 (And.intro @AV.rows.eq_13 (And.intro @AV.rows.eq_14 (And.intro @AV.rows.eq_15 (And.intro @AV.rows.eq_16 (And.intro @AV.rowsL.eq_1 (And.intro @AV.rowsL.eq_2 (And.intro @AV.plain.eq_1 (And.intro @AV.plain.eq_2 (And.intro @AV.plain.eq_3 (And.intro @AV.plain.eq_4 (And.intro @AV.plain.eq_5 (And.intro @AV.plain.eq_6 (And.intro @AV.plain.eq_7 (And.intro @AV.plain.eq_8 (And.intro @AV.plain.eq_9 (And.intro @AV.plain.eq_10 (And.intro @AV.plain.eq_11 (And.intro @AV.plain.eq_12 (And.intro @AV.plain.eq_13 (And.intro @AV.plain.eq_14 (And.intro @AV.plain.eq_15 (And.intro @AV.plain.eq_16 (And.intro @AV.plainL.eq_1 (@AV.plainL.eq_2)))))))))))))))))))))))))))))))))))))))
def vk12:=And.intro @ne_eq.{1} (And.intro @z1 (And.intro @z2 (And.intro @z3 (And.intro @z4 (And.intro @z5.{0} (And.intro @true_and (And.intro @and_true (And.intro @cond_true.{1} (And.intro @cond_false.{1} (And.intro @z6 (And.intro @z7 (And.intro @z8.{0} (And.intro @z9 (And.intro @z10 (And.intro @z11 (And.intro @z12 (And.intro @z13 (And.intro @z14.{0} (And.intro @z15.{0} (And.intro @z16.{0} (And.intro @z17.{0} (And.intro @z18.{0,0} (And.intro @z19.{0} (And.intro @z20 (And.intro @z21 (And.intro @z22 (And.intro @z23 (And.intro @z24.{0} (And.intro @z25.{0} (And.intro @z26 (And.intro @z27 (And.intro @z28 (And.intro @z29.{0} (And.intro @z30.{0} (And.intro @z31.{0} (And.intro @z32.{0} (And.intro @z33.{0} (And.intro @z34.{0} (@z35.{0})))))))))))))))))))))))))))))))))))))))
def vk13:=And.intro @z36.{0} (And.intro @z37.{0,0} (And.intro @z38.{0,0} (And.intro @z39.{0} (And.intro @z40.{0} (And.intro @z41.{0} (And.intro @z42.{0} (And.intro @z43 (And.intro @z44 (And.intro @z45 (And.intro @z46 (And.intro @z47 (And.intro @z48 (And.intro @z49.{0} (And.intro @z50.{0,0} (And.intro @z51.{0,0} (And.intro @z52.{0,0} (And.intro @z53.{0} (And.intro @z54.{0} (And.intro @z55.{0} (And.intro @z56.{0} (And.intro @z57.{0} (And.intro @or_false (And.intro @false_or (And.intro @z58 (And.intro @z59.{1} (And.intro @z59.{0} (And.intro @z60.{1} (And.intro @forall_eq.{1} (And.intro @z61.{1} (And.intro @if_false.{1} (And.intro @if_true.{1} (And.intro @z62.{0} (And.intro @z63 (And.intro @z64 (And.intro @eq_self.{1} (And.intro @z65 (And.intro @z66 (@z67))))))))))))))))))))))))))))))))))))))
def vk14:=And.intro @Xk.eq_1 (And.intro @QgX.eq_1 (And.intro @QcZ.eq_1 (And.intro @QcZ.eq_2 (And.intro @appR.eq_1 (And.intro @opE.eq_26 (And.intro @Kt.eq_1 (And.intro @Kt.eq_2 (And.intro @boolT.eq_1 (And.intro @Qhh.eq_1 (And.intro @QgD.eq_1 (And.intro @QaZ (And.intro @Qau (And.intro @QbH (And.intro @vTL (And.intro @YY.eq_1 (And.intro @Qa5.eq_1 (And.intro @arrB.eq_1 (And.intro @arrB.eq_2 (And.intro @opE.eq_24 (And.intro @opE.eq_25 (And.intro @V3.eq_1 (And.intro @La.eq_1 (And.intro @AV.dv.eq_17 (And.intro @AV.ids.eq_17 (And.intro @AV.flat.eq_17 (And.intro @AV.le.eq_23 (And.intro @AV.le.eq_24 (And.intro @AV.le.eq_25 (And.intro @AV.le.eq_26 (And.intro @AV.ids.eq_19 (And.intro @AV.ren.eq_19 (And.intro @AV.flat.eq_19 (And.intro @AV.dv.eq_19 (And.intro @cellsOf.eq_19 (And.intro @wJ.eq_19 (And.intro @zO.eq_4 (And.intro @Zg.eq_1 (And.intro @Zg.eq_2 (And.intro @QhU.eq_1 (And.intro @QhU.eq_2 (And.intro @AV.view.eq_17 (And.intro @AV.view.eq_18 (And.intro @AV.view.eq_19 (And.intro @AV.rows.eq_19 (And.intro @AV.plain.eq_19 (And.intro @AV.ids.eq_18 (And.intro @AV.ren.eq_18 (And.intro @AV.flat.eq_18 (And.intro @AV.dv.eq_18 (And.intro @cellsOf.eq_18 (And.intro @wJ.eq_18 (And.intro @AV.ren.eq_17 (And.intro @cellsOf.eq_17 (And.intro @wJ.eq_17 (And.intro @opE.eq_21 (And.intro @opE.eq_22 (And.intro @opE.eq_23 (And.intro @QbQ.eq_1 (And.intro @Qdn.eq_1 (And.intro @Qdn.eq_2 (And.intro @QaL.eq_1 (And.intro @Qim.eq_1 (And.intro @Qf1.eq_1 (And.intro @Qf1.eq_2 (And.intro @QcS.eq_1 (And.intro @QaH.eq_1 (And.intro @Qf7.eq_1 (And.intro @AV.toV.eq_1 (And.intro @AV.toV.eq_2 (And.intro @Wv.eq_1 (And.intro @Wv.eq_2 (And.intro @wX.eq_1 (And.intro @wX.eq_2 (And.intro @vAV.eq_1 (And.intro @vAV.eq_2 (And.intro @Vq.eq_1 (And.intro @Vq.eq_3 (And.intro @KD.Q.eq_1 (And.intro @KD.Q.eq_2 (And.intro @dvP.eq_1 (@dvP.eq_2)))))))))))))))))))))))))))))))))))))))))))))))))))))))))))))))))))))))))))))))))
def vks:=And.intro vk14 (And.intro vk0 (And.intro vk1 (And.intro vk2 (And.intro vk3 (And.intro vk4 (And.intro vk5 (And.intro vk6 (And.intro vk7 (And.intro vk8 (And.intro vk9 (And.intro vk10 (And.intro vk11 (And.intro vk12 (vk13))))))))))))))
def KI (acc:List Nat):List Nat→Nat
 |[]=>0
 |d :: ds=>2 ^ d ||| acc.getD d 0 ||| KI acc ds
def Qc0:List Oper→List Nat→List Nat
 |[],acc=>acc
 |o :: r,acc=>Qc0 r (acc++[KI acc (deps o)])
def QfT (acc:List (List Nat)) (b:List Nat):Prop:=acc.length=b.length∧∀ j i,(acc.getD j []).contains i=(b.getD j 0).testBit i
theorem XL {acc:List (List Nat)} {b:List Nat} (h:QfT acc b) (i:Nat):∀ ds:List Nat,(ds.flatMap fun d=>d :: acc.getD d []).contains i=(KI b ds).testBit i
 |[]=>by simp [KI]
 |d :: ds=>by
  rw [List.flatMap_cons,KI,Nat.testBit_or,Nat.testBit_or,← XL h i ds,← h.2 d i,Nat.testBit_two_pow]
  rw [Bool.eq_iff_iff]
  simp only [List.contains_iff_mem,Bool.or_eq_true,decide_eq_true_eq,List.mem_append,List.mem_cons]
  constructor
  ·rintro ((rfl|h)|h)
   ·exact .inl (.inl rfl)
   ·exact .inl (.inr h)
   ·exact .inr h
  ·rintro ((rfl|h)|h)
   ·exact .inl (.inl rfl)
   ·exact .inl (.inr h)
   ·exact .inr h
theorem XZ:∀ (l:List Oper) {acc:List (List Nat)} {b:List Nat},QfT acc b→QfT (Wm l acc) (Qc0 l b)
 |[],_,_,h=>h
 |o :: r,acc,b,h=>by
  rw [Wm,Qc0]
  refine XZ r ⟨by simp [h.1],fun j i=>?_⟩
  rcases Nat.lt_trichotomy j acc.length with hj|hj|hj
  ·have:=h.2 j i
   have hb:j < b.length:=by rw [← h.1];exact hj
   simp only [List.getD_eq_getElem?_getD,List.getElem?_append_left hj,List.getElem?_append_left hb] at this ⊢
   exact this
  ·have hb:j=b.length:=by rw [← h.1];exact hj
   have:=XL h i (deps o)
   simp only [List.getD_eq_getElem?_getD] at this ⊢
   rw [List.getElem?_append_right (by omega),List.getElem?_append_right (by omega),show j - acc.length=0 by omega,show j - b.length=0 by omega]
   exact this
  ·rw [show (acc ++ [(deps o).flatMap fun d => d :: acc.getD d []]).getD j [] = [] by
     rw [List.getD_eq_getElem?_getD,List.getElem?_eq_none (by simp;omega)];rfl,
    show (b++[KI b (deps o)]).getD j 0=0 by
     have:=h.1
     rw [List.getD_eq_getElem?_getD,List.getElem?_eq_none (by simp;omega)];rfl]
   simp
def QkK (ops:Array Oper) (es:List Eff):Bool :=
 let an:=Qc0 ops.toList []
 (List.range ops.size).all fun j =>
  match ops[j]? with
  |none=>true
  |some oj=>(deps oj).all (· < j) && (List.range j).all fun i =>
    (an.getD j 0).testBit i ||
    match ops[i]? with
    |none=>true
    |some oi=>oi.apart ops oj && Ui (es.getD i { av:=.junk }) (es.getD j { av:=.junk })
theorem Lu {ops:Array Oper} {es:List Eff} (h:QkK ops es=true):kw ops es=true:=by
 have hs:=(XZ ops.toList (acc:=[]) (b:=[]) ⟨rfl,fun j i=>by simp⟩).2
 unfold QkK at h
 unfold kw
 simp only [hs]
 exact h
structure DrwS where
 ids:List Nat
 hr:List Nat
 keys:List Nat
 news:List Nat
 dj:Nat
 dd:Bool
variable {A : Frm → Prop} {P : Program}
def QgG (Q:Bool→Prop):Option Bool→Prop
 |some b=>Q b
 |none=>False
theorem Qij {c:Operand} {x y:Code} {S:St} {K:Exit→St→Prop} (h:∀ Q:Bool→Prop,(∀ b,(b=true→Sym A P x S K)→(b=false→Sym A P y S K)→Q b)→QgG Q (Jf (ev S c))):Sym A P (.cond c x y) S K:=by
 have h1:=h (fun b=>Jf (ev S c)=some b→Sym A P (.cond c x y) S K) fun b h1 h2 hb=>wQ hb h1 h2
 cases ho:Jf (ev S c) with
 |none=>rw [ho] at h1;exact h1.elim
 |some b=>rw [ho] at h1;exact h1 rfl
def vkt:=And.intro vks (And.intro @QgG.eq_1 @QgG.eq_2)
def vki:=And.intro @decide_eq_true_eq (And.intro @decide_eq_false_iff_not (And.intro @Bool.not_eq_true' (And.intro @Bool.not_eq_false' (And.intro @Bool.and_eq_true (And.intro @Bool.or_eq_false_iff (And.intro @Bool.and_eq_false_iff (And.intro @Bool.or_eq_true (And.intro @not_true_eq_false @not_false_eq_true))))))))
theorem zq0 {x y:Code} {S:St} {K:Exit→St→Prop} (h:Sym A P x S (Qn (fun S'=>Sym A P y S' K) K)):Sym A P (.seq x y) S K:=Qkq h
theorem zq1 {id:Nat} {c:Code} {S:St} {K:Exit→St→Prop} (h:Sym A P c S (yZ id K)):Sym A P (.block id c) S K:=Qd0 h
theorem zq2 {S:St} {K:Exit→St→Prop} (h:K .normal S):Sym A P .skip S K:=QgR h
theorem zq3 {l:Nat} {S:St} {K:Exit→St→Prop} (h:K .normal S):Sym A P (.label l) S K:=Qfs h
theorem zq4 {id:Nat} {S:St} {K:Exit→St→Prop} (h:K (.exit id) S):Sym A P (.exit id) S K:=Qhw h
theorem zq5 {S:St} {K:Exit→St→Prop} (h:K .ret S):Sym A P .ret S K:=QiL h
def vle:=And.intro @leT.eq_1 (And.intro @leT.eq_2 (And.intro @leH.eq_1 (And.intro @leH.eq_2 (And.intro @leO.eq_1 (And.intro @leO.eq_2 (And.intro @ADf.leL.eq_1 (And.intro @ADf.leL.eq_2 (And.intro @ADf.leL.eq_3 (And.intro @Jw.eq_1 (And.intro @WV.eq_1 (And.intro @WV.eq_2 (And.intro @xJ.eq_1 (And.intro @xJ.eq_2 (And.intro (@List.filterMap_cons (Nat × AObj) Nat) (And.intro (@List.filterMap_nil (Nat × AObj) Nat) (And.intro (@List.flatMap_nil ADf Nat) (And.intro @Nat.lt_irrefl (@Nat.not_lt_zero))))))))))))))))))
def vrt:=And.intro @wK.eq_1 (And.intro @wK.eq_2 (And.intro @wK.eq_3 (And.intro @Qx.eq_1 (And.intro @Qx.eq_2 (And.intro @Qx.eq_3 (And.intro @WU.eq_1 (And.intro @WU.eq_2 (And.intro @WU.eq_3 (And.intro @Yy.eq_1 (And.intro @Yy.eq_2 (And.intro @Yy.eq_3 (And.intro @rd.eq_1 (And.intro @rd.eq_2 (And.intro @rd.eq_3 (And.intro @rd.eq_4 (And.intro @Lc (@QeI)))))))))))))))))
end Go.Sym
namespace Go.Sym
open Go
inductive Nx:Prop→Prop
 |s0 {A:Frm→Prop} {P:Program} {x y:Code} {S:St} {K:Exit→St→Prop} (h:Sym A P x S (Qn (fun S'=>Sym A P y S' K) K)):Nx (Sym A P (.seq x y) S K)
 |s1 {A:Frm→Prop} {P:Program} {id:Nat} {c:Code} {S:St} {K:Exit→St→Prop} (h:Sym A P c S (yZ id K)):Nx (Sym A P (.block id c) S K)
 |s2 {A:Frm→Prop} {P:Program} {S:St} {K:Exit→St→Prop} (h:K .normal S):Nx (Sym A P .skip S K)
 |s3 {A:Frm→Prop} {P:Program} {l:Nat} {S:St} {K:Exit→St→Prop} (h:K .normal S):Nx (Sym A P (.label l) S K)
 |s4 {A:Frm→Prop} {P:Program} {id:Nat} {S:St} {K:Exit→St→Prop} (h:K (.exit id) S):Nx (Sym A P (.exit id) S K)
 |s5 {A:Frm→Prop} {P:Program} {S:St} {K:Exit→St→Prop} (h:K .ret S):Nx (Sym A P .ret S K)
 |tn {N:St→Prop} {K:Exit→St→Prop} {S:St} (h:N S):Nx (Qn N K .normal S)
 |tx {N:St→Prop} {K:Exit→St→Prop} {S:St} {id:Nat} (h:K (.exit id) S):Nx (Qn N K (.exit id) S)
 |tr {N:St→Prop} {K:Exit→St→Prop} {S:St} (h:K .ret S):Nx (Qn N K .ret S)
 |bn {K:Exit→St→Prop} {S:St} {id:Nat} (h:K .normal S):Nx (yZ id K .normal S)
 |br {K:Exit→St→Prop} {S:St} {id:Nat} (h:K .ret S):Nx (yZ id K .ret S)
 |bh {K:Exit→St→Prop} {S:St} {id:Nat} (h:K .normal S):Nx (yZ id K (.exit id) S)
theorem nx {p:Prop} (h:Nx p):p:=by
 cases h with
 |s0 h=>exact zq0 h
 |s1 h=>exact zq1 h
 |s2 h=>exact zq2 h
 |s3 h=>exact zq3 h
 |s4 h=>exact zq4 h
 |s5 h=>exact zq5 h
 |tn h=>exact RI h
 |tx h=>exact Ul h
 |tr h=>exact UC h
 |bn h=>exact VY h
 |br h=>exact Y0 h
 |bh h=>exact Ws h
variable {A : Frm → Prop} {P : Program}
theorem QkF {J:JJ} {s j k:Nat} {Pr Pr':Nat→Prop} {w0 w1 w2:World} {own:Own} (hh:∀ b,Pr b→w1.heap[b]?=w0.heap[b]?) (h:Jc (Jc J s Pr w0) j Pr' w1 k own w2) :
  Jc J (s+j) (fun b=>Pr' b∨Pr b) w1 k own w2:=by
 obtain ⟨o1,⟨o2,hj,a1,a2,a3⟩,b1,b2,b3⟩:=h
 refine ⟨o2,by rw [Nat.add_assoc];exact hj,fun b=>?_,fun b=>?_, ?_⟩
 ·rw [b1,a1];constructor
  ·rintro ((h|h)|h)
   ·exact .inl h
   ·exact .inr (.inr h)
   ·exact .inr (.inl h)
  ·rintro (h|h|h)
   ·exact .inl (.inl h)
   ·exact .inr h
   ·exact .inl (.inr h)
 ·rw [b2,a2];constructor
  ·rintro ((h|h)|h)
   ·exact .inl h
   ·exact .inr (.inr h)
   ·exact .inr (.inl h)
  ·rintro (h|h|h)
   ·exact .inl (.inl h)
   ·exact .inr h
   ·exact .inl (.inr h)
 ·rintro b (h|h)
  ·obtain ⟨c1,c2,c3⟩:=b3 b h
   exact ⟨fun hn=>c1 ((a1 b).2 (.inl hn)),c2,c3⟩
  ·obtain ⟨c1,c2,c3⟩:=a3 b h
   exact ⟨c1,c2,c3.trans (hh b h).symm⟩
theorem QfC {J:JJ} {s j k:Nat} {Pr Pr':Nat→Prop} {w0 w1 w2:World} {own:Own} (hh:∀ b,Pr b→w1.heap[b]?=w0.heap[b]?) (hd:∀ b,Pr' b→¬ Pr b) (h:Jc J (s+j) (fun b=>Pr' b∨Pr b) w1 k own w2) :
  Jc (Jc J s Pr w0) j Pr' w1 k own w2:=by
 obtain ⟨o2,hj,b1,b2,b3⟩:=h
 refine ⟨kG o2 Pr,⟨o2,by rw [← Nat.add_assoc];exact hj,fun b=>Iff.rfl,fun b=>Iff.rfl,fun b hb=>?_⟩,fun b=>?_,fun b=>?_,fun b hb=>?_⟩
 ·obtain ⟨c1,c2,c3⟩:=b3 b (.inr hb)
  exact ⟨c1,c2,c3.trans (hh b hb)⟩
 ·rw [b1];show _ ↔ (o2.all b∨Pr b)∨Pr' b;constructor
  ·rintro (h|h|h)
   ·exact .inl (.inl h)
   ·exact .inr h
   ·exact .inl (.inr h)
  ·rintro ((h|h)|h)
   ·exact .inl h
   ·exact .inr (.inr h)
   ·exact .inr (.inl h)
 ·rw [b2];show _ ↔ (o2.prv b∨Pr b)∨Pr' b;constructor
  ·rintro (h|h|h)
   ·exact .inl (.inl h)
   ·exact .inr h
   ·exact .inl (.inr h)
  ·rintro ((h|h)|h)
   ·exact .inl h
   ·exact .inr (.inr h)
   ·exact .inr (.inl h)
 ·obtain ⟨c1,c2,c3⟩:=b3 b (.inl hb)
  exact ⟨fun hn=>hn.elim c1 (hd b hb),c2,c3⟩
theorem Bcb.pass {F:Frm} {S:St} {a:Act} {w:World} {ρ:Nat→Value} {own:Own} (H:Holds F S a w ρ own) {hp h0 h0':Nat→Option AObj} {ys:Nat→List AV} {hl:Nat→Nat→Option AObj} {ans:Nat→Bool} {R R':Nat}
  (hA:Acb P hp h0 ys hl ans R F) {hs bo:List Nat} (hpin:∀ i o,hp i=some o→hs[i]?=some i)
  (hob:∀ i o,h0' i=some o→∃ c ob,hs[i]?=some c∧S.h c=some ob) (hR:S.j+R'≤R) :
  Bcc P hp h0' (fun j=>ys (S.j+j)) (fun j=>hl (S.j+j)) (fun j=>ans (S.j+j)) R' (Rq F S hs bo ρ own w):=by
 obtain ⟨hH0,hsub,hB⟩:=hA
 have hown0:∀ b,F.owns0 b ↔ ∃ i o,h0 i=some o∧blk (F.ρ0 i)=some b:=fun b=>by simp only [Frm.owns0,hH0]
 have hPr:∀ b,vk S hs bo ρ b→F.w0.heap.size≤b∨∃ i o,h0 i=some o∧blk (F.ρ0 i)=some b:=by
  rintro b ⟨i,ob,hi,_,_,hb⟩
  exact ((H.blkOK i ob b hi hb).2).imp id fun h=>(hown0 b).1 h
 have h0p:∀ i o b,h0' i=some o→blk (qP hs ρ i)=some b→F.w0.heap.size≤b∨∃ i o,h0 i=some o∧blk (F.ρ0 i)=some b:=by
  intro i o b hi hb
  obtain ⟨c,ob,e1,e2⟩:=hob i o hi
  simp only [qP,e1] at hb
  exact ((H.blkOK c ob b e2 hb).2).imp id fun h=>(hown0 b).1 h
 intro j hj Pr' own1 w1 ρ1 vs hHp hpins hext hnew hprv hsz hrel
 simp only [Rq] at hHp hpins hext hnew hprv hrel ⊢
 have hjay:=hHp.1
 have hh:∀ b,vk S hs bo ρ b→w1.heap[b]?=w.heap[b]?:=fun b hb=>by
  obtain ⟨_,⟨_,_,_,_,a3⟩,_⟩:=hjay
  exact (a3 b hb).2.2
 have hd:∀ b,Pr' b→¬ vk S hs bo ρ b:=fun b hb hn=>by
  obtain ⟨o1,⟨o2,_,a1,_,_⟩,_,_,b3⟩:=hjay
  exact (b3 b hb).1 ((a1 b).2 (.inr hn))
 have hans:=hB (S.j+j) (by omega) (fun b=>Pr' b∨vk S hs bo ρ b) own1 w1 ρ1 vs ⟨QkF hh hHp.1,hHp.2,hHp.3,hHp.4⟩
  (fun i o hi=>by
   obtain ⟨o',ho'⟩:=hsub i o hi
   rw [hpins i o hi]
   simp only [qP,hpin i o hi]
   exact H.pins i o' (by rw [hH0];exact ho'))
  ((H.ext.weaken fun b _ h=>h.imp id fun h=>(hown0 b).1 h).trans hext fun b hlt hb=>by
   rcases hb with (hb|hb)|⟨i,o,hi,hb⟩
   ·rcases H.ownsub b hb with h|h
    ·exact .inl h
    ·omega
   ·rcases hPr b hb with h|h
    ·omega
    ·exact .inr h
   ·rcases h0p i o b hi hb with h|h
    ·omega
    ·exact .inr h)
  (fun i o b hi hb=>by
   rcases hnew i o b hi hb with h|⟨k,o',hk,hb'⟩
   ·exact .inl (Nat.le_trans H.ext.size h)
   ·exact h0p k o' b hk hb')
  (fun b hb=>by
   rcases hprv b hb with (h|h)|h|⟨k,o',hk,hb'⟩
   ·rcases H.ownsub b h with h|h
    ·exact .inl h
    ·exact .inr (.inl h)
   ·exact .inr (hPr b h)
   ·exact .inr (.inl (Nat.le_trans H.ext.size h))
   ·exact .inr (h0p k o' b hk hb')) hsz hrel
 refine ZT.mono hans ?_
 rintro e w' ⟨he,own',hp',hx',hpv'⟩
 exact ⟨he,own',⟨QfC hh hd hp'.1,hp'.2,hp'.3,hp'.4⟩,hx',hpv'⟩
end Go.Sym
namespace Go.Sym
open Go
variable {A : Frm → Prop} {P : Program}
structure PkI where
 q:Pk
 dj:Nat
def J8:Nat→List Nat→List AObj→Prop
 |_,_,[]=>True
 |k,c :: cs,_ :: os=>c=k∧J8 (k+1) cs os
 |_,[],_ :: _=>False
theorem U6:∀ {os:List AObj} {k:Nat} {cs:List Nat},J8 k cs os→∀ i o,os[i]?=some o→cs[i]?=some (k+i)
 |[],_,_,_,i,o,h=>by simp at h
 |_ :: os,k,c :: cs,h,i,o,hi=>by
  obtain ⟨rfl,h⟩:=h
  cases i with
  |zero=>simp
  |succ i =>
   have:=U6 h i o (by simpa using hi)
   rw [List.getElem?_cons_succ,this]
   congr 1
   omega
 |_ :: _,_,[],h,_,_,_=>h.elim
def fnI (Lp:List AObj) (R:Nat) (spec:St→List AV→Option PkI) (S:St) (bs:List AV):Ans:=match spec S bs with
 |none=>bad
 |some q=>(q.q.ok S bs∧q.q.fl=false∧J8 0 q.q.hs Lp∧S.j+q.dj≤R,{ q.q.eff S with dj:=q.dj })
theorem Qfb {f:FuncId} {Lp:List AObj} {ys:Nat→List AV} {hl:Nat→Nat→Option AObj} {ans:Nat→Bool} {R:Nat} {spec:St→List AV→Option PkI} {h0:Nat→Option AObj} (hA:∀ F,A F→Acb P (qc (qD 0 Lp)) h0 ys hl ans R F)
  (hf:∀ S bs q,spec S bs=some q→q.q.pre→Fn (Bcc P (qc (qD 0 Lp)) (qc (qD 0 q.q.L0)) (fun j=>ys (S.j+j)) (fun j=>hl (S.j+j)) (fun j=>ans (S.j+j)) q.dj) P f q.q.ar (qc (qD 0 q.q.L0)) q.q.v (qc (zm 0 q.q.L1)) q.dj)
  {S:St} {bs:List AV} (h:(fnI Lp R spec S bs).1) (hS:Wf S) {ops:Array Oper} {o:Oper} {g:Operand} {args:Array Operand} {tys:Array TypeId} {caps:List AV} (hw:Want ops o S)
  (ho:o.op=.call { callee:=.value g,args:=args,argTypes:=tys }) (hg:zO (ev S g)=some (some f,caps)) (hb:Zg (ev S g)++(args.toList.map (ev S)++caps)=bs):VE A P ops o (fnI Lp R spec S bs).2 S:=by
 unfold fnI at h ⊢
 cases hq:spec S bs with
 |none=>rw [hq] at h;exact h.elim
 |some qi =>
  obtain ⟨q,dj⟩:=qi
  rw [hq] at h
  simp only at h ⊢
  obtain ⟨⟨h1,h2,h3,h4,h5,h6,h7,h8,h9⟩,hfl,hpin,hR⟩:=h
  have heff:{ q.eff S with dj:=dj }=za S q.hs q.bo q.bo q.v (qc (zm 0 q.L1)) (q.L1.length - q.hs.length) dj:=by
   rw [q.eff_eq S h6,hfl];rfl
  rw [heff]
  have hgc:=QN hg
  obtain ⟨g1,g2⟩:=ZN h3
  have hlen:q.hs.length+(q.L1.length - q.hs.length)=q.L1.length:=by omega
  have get1:∀ i o,qc (zm 0 q.L1) i=some o→q.L1[i]?=some (some o):=fun i o hi=>by
   rw [xP,if_neg (by omega),Nat.sub_zero] at hi
   cases hh:q.L1[i]? with
   |none=>rw [hh] at hi;cases hi
   |some x=>rw [hh] at hi;simp only [Option.join_some] at hi;rw [hi]
  have get0:∀ i o,qc (qD 0 q.L0) i=some o→q.L0[i]?=some o:=fun i o hi=>by
   rwa [zX,if_neg (by omega),Nat.sub_zero] at hi
  have hfn:=hf S bs _ hq h1
  refine Us hS hw ho hgc hfn (fun _=>rfl) (fun F S2 a w ρ own hF hjj hS2 H=>?_) (hf:=q.hf S) (by rw [hb];exact h2) (fun i o0 hi=>g2 i o0 (get0 i o0 hi)) (fun j hj=>?_) h4 (fun i ob hi=>?_) (xh h5) (.inl rfl) (by rw [hlen];exact h7) (fun i ob hi=>?_)
  ·by_cases hd0:dj=0
   ·subst hd0
    intro j hj
    exact absurd hj (Nat.not_lt_zero _)
   ·have hjs:=hjj hd0
    have hB:=Bcb.pass (S:=S2) (hs:=q.hs) (bo:=q.bo) (h0':=qc (qD 0 q.L0)) (R':=dj) H (hA F hF) (fun i o hi=>?_) (fun i o hi=>?_) (by rw [hjs];exact hR)
    ·rw [hjs] at hB;exact hB
    ·have hi':Lp[i]?=some o:=by rwa [zX,if_neg (by omega),Nat.sub_zero] at hi
     have hc:=U6 hpin i o hi'
     rw [Nat.zero_add] at hc
     exact hc
    ·obtain ⟨c,ob,e1,e2,_⟩:=g2 i o (get0 i o hi)
     exact ⟨c,ob,e1,(hS2 c (.inl (List.mem_of_getElem? e1))).trans e2⟩
  ·rw [zX,if_neg (by omega),Nat.sub_zero]
   exact ⟨_,List.getElem?_eq_getElem (l:=q.L0) (by omega)⟩
  ·unfold Pk.hf at hi
   by_cases hm:i ∈ q.bo
   ·rw [if_pos hm] at hi;exact ⟨hi,(xh h5 i hm).2,hm⟩
   ·rw [if_neg hm] at hi;cases hi
  ·rw [hlen]
   have:=get1 i ob hi
   exact ⟨(List.getElem?_eq_some_iff.1 this).1,Zl h8 i ob this⟩
theorem Ri {f:FuncId} {Lp:List AObj} {ys:Nat→List AV} {hl:Nat→Nat→Option AObj} {ans:Nat→Bool} {R:Nat} {spec:St→List AV→Option PkI} {h0:Nat→Option AObj} (hA:∀ F,A F→Acb P (qc (qD 0 Lp)) h0 ys hl ans R F)
  (hf:∀ S bs q,spec S bs=some q→q.q.pre→Fn (Bcc P (qc (qD 0 Lp)) (qc (qD 0 q.q.L0)) (fun j=>ys (S.j+j)) (fun j=>hl (S.j+j)) (fun j=>ans (S.j+j)) q.dj) P f q.q.ar (qc (qD 0 q.q.L0)) q.q.v (qc (zm 0 q.q.L1)) q.dj):qm A P f (fnI Lp R spec) :=
 fun _ _ h hS _ _ _ _ _ _ hw ho hg hb=>Qfb hA hf h hS hw ho hg hb
def cbX (hs:List Nat) (ys:Nat→List AV) (hl:Nat→List AObj) (ans:Nat→Bool) (R:Nat) (S:St) (bs:List AV):Ans :=
 (S.j < R∧AV.leL (fun _=>none) (fun j=>hs[j]?) bs (ys S.j)∧vo S hs hs (hl S.j)∧(∀ o ∈ hl S.j,∀ id ∈ o.ids,id < hs.length),
  {av:=.v (.bool (ans S.j)),hw:=hwL (qo hs S.n) 0 ((hl S.j).map some),hr:=hs,n:=S.n,dj:=1 })
theorem JP {hp hp0:Nat→Option AObj} {ys:Nat→List AV} {hl:Nat→List AObj} {ans:Nat→Bool} {R:Nat} {hs:List Nat} (hA:∀ F,A F→Acb P hp hp0 ys (fun j=>nth (hl j)) ans R F) (hpin:∀ i o,hp i=some o→hs[i]?=some i) (hnd:hs.Nodup)
  {S:St} {bs:List AV} (h:(cbX hs ys hl ans R S bs).1) (hS:Wf S) {ops:Array Oper} {o:Oper} {g:Operand} {args:Array Operand} {tys:Array TypeId} {caps:List AV} (hw:Want ops o S)
  (ho:o.op=.call { callee:=.value g,args:=args,argTypes:=tys }) (hg:zO (ev S g)=some (none,caps)) (hb:args.toList.map (ev S)++caps=bs):VE A P ops o (cbX hs ys hl ans R S bs).2 S:=by
 have hv:=QdN (hs:=hs) (hl:=hl) hA hpin hnd (S:=S) (bs:=bs) h hS hw ho hg hb
 have hlen:=(WK h.2.2.1).1
 have e:(cbE hs ys hl ans R S bs).2=(cbX hs ys hl ans R S bs).2:=by
  simp only [cbE,cbX,za,RG,List.length_map,Nat.add_zero,Nat.zero_add,hlen,List.range_zero,List.map_nil,List.append_nil,AV.ren,nth,q9]
  congr 1
  refine List.map_congr_left fun j hj=>?_
  rw [List.getElem?_map]
  cases (hl S.j)[j]? <;> rfl
 rw [← e];exact hv
end Go.Sym
namespace Go.Sym
open Go
variable {A : Frm → Prop} {P : Program}
def qN (hs:List Nat) (n:Nat):Nat→List AObj→List (Nat × AObj)
 |_,[]=>[]
 |k,o :: os=>(qo hs n k,o.ren (qo hs n)) :: qN hs n (k+1) os
theorem QaP (hs:List Nat) (n:Nat):∀ (L:List AObj) (k:Nat) (f:Nat→Option AObj),(∀ i,f (k+i)=L[i]?)→(List.range L.length).filterMap (fun i=>(f (k+i)).map fun o=>(qo hs n (k+i),o.ren (qo hs n)))=qN hs n k L
 |[],k,f,_=>rfl
 |o :: os,k,f,h=>by
  rw [List.length_cons,List.range_succ_eq_map,List.filterMap_cons]
  have h0:=h 0
  simp only [Nat.add_zero,List.getElem?_cons_zero] at h0
  simp only [Nat.add_zero,h0,Option.map_some,qN]
  congr 1
  rw [List.filterMap_map]
  have:=QaP hs n os (k+1) f fun i=>by
   have:=h (i+1)
   rw [List.getElem?_cons_succ] at this
   rw [← this];congr 1;omega
  rw [← this]
  congr 1
  funext i
  simp only [Function.comp_apply,Nat.succ_eq_add_one]
  rw [show k+(i+1)=k+1+i by omega]
theorem Qi {hs:List Nat} {n nl:Nat} {L:List AObj} (h:L.length=hs.length+nl):zk hs n nl (nth L)=qN hs n 0 L:=by
 rw [← QaP hs n L 0 (nth L) (fun i=>by simp [nth])]
 simp only [zk,← h,Nat.zero_add]
theorem Y3 {hs:List Nat} {n:Nat}:∀ {L:List AObj} {k m:Nat},m < L.length→∃ o,(qo hs n (k+m),o) ∈ qN hs n k L
 |o :: os,k,0,_=>⟨_,List.mem_cons_self⟩
 |o :: os,k,m+1,h=>by
  obtain ⟨o',ho⟩:=Y3 (hs:=hs) (n:=n) (L:=os) (k:=k+1) (m:=m) (by simpa using h)
  rw [show k+1+m=k+(m+1) by omega] at ho
  exact ⟨o',List.mem_cons_of_mem _ ho⟩
def Zn (hs:List Nat) (n:Nat):List AObj→Prop
 |[]=>True
 |o :: os=>(o.nocb∧(∀ id ∈ o.ids,id < hs.length)∧AObj.le (fun _=>none) (fun j=>hs[j]?) (o.ren (qo hs n)) o)∧Zn hs n os
theorem XH {hs:List Nat} {n:Nat}:∀ {L:List AObj},Zn hs n L→∀ (q:Nat) (o:AObj),L[q]?=some o→o.nocb∧(∀ id ∈ o.ids,id < hs.length)∧AObj.le (fun _=>none) (fun j=>hs[j]?) (o.ren (qo hs n)) o
 |o :: os,h,0,o',ho=>by simp only [List.getElem?_cons_zero,Option.some.injEq] at ho;subst ho;exact h.1
 |o :: os,h,q+1,o',ho=>XH h.2 q o' (by simpa using ho)
def QW (N:Nat):List AObj→Prop
 |[]=>True
 |o :: os=>(o.nocb∧∀ id ∈ o.ids,id < N)∧QW N os
theorem J5 {N:Nat}:∀ {L:List AObj},QW N L→∀ (q:Nat) (o:AObj),L[q]?=some o→o.nocb∧∀ id ∈ o.ids,id < N
 |o :: os,h,0,o',ho=>by simp only [List.getElem?_cons_zero,Option.some.injEq] at ho;subst ho;exact h.1
 |o :: os,h,q+1,o',ho=>J5 h.2 q o' (by simpa using ho)
def Yx (N:Nat):List AV→Prop
 |[]=>True
 |c :: cs=>(c.nocb∧∀ id ∈ c.ids,id < N)∧Yx N cs
theorem QaK {N:Nat}:∀ {L:List AV},Yx N L→∀ c ∈ L,c.nocb∧∀ id ∈ c.ids,id < N
 |a :: cs,h,c,hc=>by
  rcases List.mem_cons.1 hc with rfl|hc
  ·exact h.1
  ·exact QaK h.2 c hc
def Q7 (n:Nat) (H:List (Nat × AObj)) (id:Nat):Prop:=id < n∧id ∈ H.map (·.1)
def xy (n:Nat) (H:List (Nat × AObj)):List Nat→Prop
 |[]=>True
 |i :: r=>Q7 n H i∧xy n H r
theorem Vk {n:Nat} {H:List (Nat × AObj)}:∀ {l:List Nat},xy n H l→∀ i ∈ l,Q7 n H i
 |j :: r,h,i,hi=>by
  rcases List.mem_cons.1 hi with rfl|hi
  ·exact h.1
  ·exact Vk h.2 i hi
def yT:List (Nat × AV)→List Nat
 |[]=>[]
 |p :: r=>p.2.ids++yT r
theorem JM {id:Nat}:∀ {L:List (Nat × AV)} {p:Nat × AV},p ∈ L→id ∈ p.2.ids→id ∈ yT L
 |q :: r,p,hp,hid=>by
  rcases List.mem_cons.1 hp with rfl|hp
  ·exact List.mem_append_left _ hid
  ·exact List.mem_append_right _ (JM hp hid)
theorem Qfu {H:List (Nat × AObj)} {i:Nat} (h:i ∈ H.map (·.1)):∃ o,qc H i=some o:=by
 obtain ⟨p,hp,rfl⟩:=List.mem_map.1 h
 exact UD (o:=p.2) hp
structure RangeJ (L:List (Nat × AV)) (ps hs:List Nat) (n m nl:Nat) (d:List ADf) (H:List (Nat × AObj)) (Lt:List AObj) (y:List AV):Prop where
 own:xJ (n+1) ((n,.mark) :: H)
 len:Lt.length=hs.length+nl
 lent:QW (hs.length+nl) Lt
 args:Yx (hs.length+nl) y
 plen:ps.length=y.length
 keys:xy (n+1) ((n,.mark) :: H++qN hs (n+1) 0 Lt) (List.range m++(hs++(yT L++(ADf.mark n :: d).flatMap ADf.ids)))
def zU (L:List (Nat × AV)) (ps hs:List Nat) (n nl:Nat) (y:List AV) (H:List (Nat × AObj)) (Lt:List AObj):St :=
 {t:=kQ (asg L) (ps.zip (y.map (AV.ren (qo hs (n+1))))),h:=qc ((n,.mark) :: H++qN hs (n+1) 0 Lt),n:=n+1+nl,m:=n+1+nl }
def yw (S:St) (hf:Nat→Option AObj) (hs:List Nat) (n:Nat):Nat→List AObj→Prop
 |_,[]=>True
 |k,o :: os=>(match S.h (qo hs n k) with|some ob=>AObj.le hf (fun j=>some (qo hs n j)) ob o|none=>False)∧yw S hf hs n (k+1) os
theorem XP {S:St} {hf:Nat→Option AObj} {hs:List Nat} {n:Nat}:∀ {L:List AObj} {k:Nat},yw S hf hs n k L→∀ (q:Nat) (o:AObj),L[q]?=some o→∃ ob,S.h (qo hs n (k+q))=some ob∧AObj.le hf (fun j=>some (qo hs n j)) ob o
 |o :: os,k,h,0,o',ho=>by
  simp only [List.getElem?_cons_zero,Option.some.injEq] at ho
  subst ho
  have h1:=h.1
  split at h1
  ·rename_i ob hob;exact ⟨ob,hob,h1⟩
  ·exact h1.elim
 |o :: os,k,h,q+1,o',ho=>by
  have:=XP h.2 q o' (by simpa using ho)
  rwa [show k+1+q=k+(q+1) by omega] at this
def j5 (hs:List Nat) (n:Nat):Nat→List AObj→List Nat
 |_,[]=>[]
 |k,_ :: os=>qo hs n k :: j5 hs n (k+1) os
theorem J6 {hs:List Nat} {n:Nat}:∀ {L:List AObj} {k q:Nat},q < L.length→qo hs n (k+q) ∈ j5 hs n k L
 |o :: os,k,0,_=>List.mem_cons_self
 |o :: os,k,q+1,h=>by
  have:=J6 (hs:=hs) (n:=n) (L:=os) (k:=k+1) (q:=q) (by simpa using h)
  rw [show k+1+q=k+(q+1) by omega] at this
  exact List.mem_cons_of_mem _ this
structure RFinOK (S:St) (hs:List Nat) (n:Nat) (own:List (Nat × AObj)) (Lt:List AObj) (kp:List Nat) (σ:Nat→Option Nat) (fz:List Nat):Prop where
 h:leH S (fun i=>if i ∈ fz then S.h i else none) σ own
 l:yw S (fun i=>if i ∈ fz then S.h i else none) hs n 0 Lt
 img:(Jw σ own).Nodup
 apart:∀ i ∈ Jw σ own,i ∉ j5 hs n 0 Lt
 frz:∀ i ∈ fz,i ∉ Jw σ own∧i ∉ j5 hs n 0 Lt
 pin:∀ i ∈ kp,σ i=some i
theorem RFin.ok {S:St} {L:List (Nat × AV)} {hs:List Nat} {n m:Nat} {d:List ADf} {own:List (Nat × AObj)} {Lt:List AObj} (σ:Nat→Option Nat) (fz:List Nat) (h:RFinOK S hs (n+1) own Lt (List.range m++(hs++(yT L++(ADf.mark n :: d).flatMap ADf.ids))) σ fz) :
  RFin S hs (n+1) own (nth Lt) (QlE (asg L) hs n m d) σ (fun i=>if i ∈ fz then S.h i else none):=by
 refine ⟨fun i o1 ho=>YP h.h _ (qF ho),fun q o0 ho=>?_,fun i o k o' c h1 h2 e1 e2=>?_,fun i o q o0 h1 h2 e=>?_,fun i o hi=>?_,fun id hid=>?_⟩
 ·have:=XP h.l q o0 ho
  rwa [Nat.zero_add] at this
 ·rcases Jn h.img _ (qF h1) _ (qF h2) c e1 e2 with h|h|h
  ·exact congrArg (·.1) h
  ·exact h
  ·exact h.elim
 ·have hm:=J6 (hs:=hs) (n:=n+1) (L:=Lt) (k:=0) (q:=q) (List.getElem?_eq_some_iff.1 h2).1
  rw [Nat.zero_add] at hm
  exact h.apart _ (List.mem_filterMap.2 ⟨_,qF h1,e⟩) hm
 ·by_cases hm:i ∈ fz
  ·rw [if_pos hm] at hi
   refine ⟨hi,fun j o1 hj hs=>(h.frz i hm).1 (List.mem_filterMap.2 ⟨_,qF hj,hs⟩),fun q o0 hq e=>?_⟩
   have hm':=J6 (hs:=hs) (n:=n+1) (L:=Lt) (k:=0) (q:=q) (List.getElem?_eq_some_iff.1 hq).1
   rw [Nat.zero_add,e] at hm'
   exact (h.frz i hm).2 hm'
  ·rw [if_neg hm] at hi;cases hi
 ·refine h.pin id ?_
  simp only [List.mem_append,List.mem_range]
  rcases hid with h|h|⟨t,h⟩|h
  ·exact .inl h
  ·exact .inr (.inl h)
  ·refine .inr (.inr (.inl ?_))
   rcases ZP L t with e|⟨p,hp,_,e⟩
   ·rw [e] at h;simp [AV.ids] at h
   ·rw [e] at h;exact JM hp h
  ·exact .inr (.inr (.inr h))
end Go.Sym
namespace Go.Sym
open Go
variable {A : Frm → Prop} {P : Program}
def LP (P:Program) (f:FuncId) (az:List AV) (hp h0:Nat→Option AObj) (ys:Nat→List AV) (N:Nat) (hl:Nat→Nat→Option AObj) (v:Nat→(Nat→Bool)→AV):Prop :=
 ∀ ans R,Rounds ans R N→Fn (Bcc P hp h0 ys hl ans R) P f az h0 (v R ans) h0 R
structure RoundOf (F:Frm) (j:Nat) (H:Nat→Option AObj) (F':Frm):Prop where
 y:F'.y=F.y
 r:∃ l,F'.r=some l
 H0:F'.H0=H
 jay:∃ Pr wj,F'.J=Jc F.J j Pr wj
 rho:∀ i o,F.H0 i=some o→(∃ o',H i=some o')→F'.ρ0 i=F.ρ0 i
 ext:Ext (fun b=>F.own0.prv b∨F.owns0 b) F.w0 F'.w0
 prv:∀ b,F'.own0.prv b→F.own0.prv b∨F.w0.heap.size≤b∨F.owns0 b
 owns:∀ b,F'.owns0 b→F.w0.heap.size≤b∨F.owns0 b
theorem X8 {F F':Frm} {hp h0:Nat→Option AObj} {ys:Nat→List AV} {hl:Nat→Nat→Option AObj} {ans:Nat→Bool} {R j:Nat} {H:Nat→Option AObj} (hA:Acb P hp h0 ys hl ans R F) (hR:RoundOf F j H F') (hsub':∀ i o,hp i=some o→∃ o',H i=some o') :
  Acb P hp H (fun k=>ys (j+k)) (fun k=>hl (j+k)) (fun k=>ans (j+k)) (R - j) F':=by
 obtain ⟨hH0,hsub,hB⟩:=hA
 refine ⟨hR.H0,hsub', ?_⟩
 have hown0:∀ b,F.owns0 b ↔ ∃ i o,h0 i=some o∧blk (F.ρ0 i)=some b:=fun b=>by simp only [Frm.owns0,hH0]
 have hown1:∀ b,F'.owns0 b ↔ ∃ i o,H i=some o∧blk (F'.ρ0 i)=some b:=fun b=>by simp only [Frm.owns0,hR.H0]
 obtain ⟨Pr,wj,hJ⟩:=hR.jay
 intro k hk Pr' own1 w1 ρ1 vs hHp hpins hext hnew hprv hsz hrel
 simp only at hHp hpins hext hnew hprv hrel ⊢
 rw [hR.y] at hHp hrel ⊢
 rw [hJ] at hHp ⊢
 have hjay:=hHp.1
 have hh:∀ b,Pr b→w1.heap[b]?=wj.heap[b]?:=fun b hb=>by
  obtain ⟨_,⟨_,_,_,_,a3⟩,_⟩:=hjay
  exact (a3 b hb).2.2
 have hd:∀ b,Pr' b→¬ Pr b:=fun b hb hn=>by
  obtain ⟨o1,⟨o2,_,a1,_,_⟩,_,_,b3⟩:=hjay
  exact (b3 b hb).1 ((a1 b).2 (.inr hn))
 have hans:=hB (j+k) (by omega) (fun b=>Pr' b∨Pr b) own1 w1 ρ1 vs ⟨QkF hh hHp.1,hHp.2,hHp.3,hHp.4⟩
  (fun i o hi=>by
   obtain ⟨o',ho'⟩:=hsub i o hi
   rw [hpins i o hi]
   exact hR.rho i o' (by rw [hH0];exact ho') (hsub' i o hi))
  ((hR.ext.weaken fun b _ h=>h.imp id (hown0 b).1).trans hext fun b hlt hb=>by
   rcases hb with hb|hb
   ·rcases hR.prv b hb with h|h|h
    ·exact .inl h
    ·omega
    ·exact .inr ((hown0 b).1 h)
   ·rcases hR.owns b ((hown1 b).2 hb) with h|h
    ·omega
    ·exact .inr ((hown0 b).1 h))
  (fun i o b hi hb=>by
   rcases hnew i o b hi hb with h|h
   ·exact .inl (Nat.le_trans hR.ext.size h)
   ·exact (hR.owns b ((hown1 b).2 h)).imp id (hown0 b).1)
  (fun b hb=>by
   rcases hprv b hb with h|h|h
   ·rcases hR.prv b h with h|h|h
    ·exact .inl h
    ·exact .inr (.inl h)
    ·exact .inr (.inr ((hown0 b).1 h))
   ·exact .inr (.inl (Nat.le_trans hR.ext.size h))
   ·exact .inr ((hR.owns b ((hown1 b).2 h)).imp id (hown0 b).1)) hsz hrel
 refine ZT.mono hans ?_
 rintro e w' ⟨he,own',hp',hx',hpv'⟩
 exact ⟨he,own',⟨QfC hh hd hp'.1,hp'.2,hp'.3,hp'.4⟩,hx',hpv'⟩
theorem QbU {F:Frm} {ws:World} {ρs:Nat→Value} {oks keep:Nat→Prop} {l:Nat} {rec0:Loop} {ans:Nat→Bool} {ex:Exit} {R N:Nat} {T:Nat→AV} {a0:Act} {hs hq:List Nat} {n nl:Nat} {ys:Nat→List AV} {hc:Nat→List (Nat × AObj)} {hl:Nat→Nat→Option AObj} {hp h0:Nat→Option AObj} {jj:Nat→Nat} {A':Nat→Frm→Prop} {own0:Own}
  (hRo:Rounds ans R N) (hex:ex=.ret∨(∃ id,ex=.exit id)∨∃ g,ex=.goto g) (hrec0:rec0.state=.ready∧rec0.pending=none∧rec0.tmps=a0.tmps)
  (hst:∀ j,j < R→RStat F T rec0.params.toList hq n nl (ys j) (hc j) (hl j) keep) (hT:∀ t,ARel ws oks ρs F.y (T t) (a0.tmps.getD t undef)) (hsz:a0.tmps.size=F.nt)
  (hlids:∀ j,j < R→∀ m o,hl j m=some o→∀ id ∈ o.ids,∃ o',hl j id=some o') (hkeep:∀ j,j < R→∀ id,keep id→id < n∧∃ o,qc (hc j++zk hq n nl (hl j)) id=some o)
  (hlast:∀ j,j < R→∀ m o0,hl j m=some o0→∃ o,qc (hc j++zk hq n nl (hl j)) (qo hq n m)=some o)
  (hdom:∀ m,m < hq.length→∃ o,hp m=some o) (hpre:∀ (m c:Nat),hq[m]?=some c→hs[m]?=some c) (hhs:∀ (m c:Nat),hq[m]?=some c→keep c)
  (hd1:yU F.nt rec0.assign=true) (hd2:yU F.nt rec0.body=true) (hA':∀ j,j < R→∀ F',RoundOf F (jj j) (qc (hc j++zk hq n nl (hl j))) F'→A' j F')
  (hpin0:∀ i o,F.H0 i=some o→ρs i=F.ρ0 i∧(keep i∨∀ j,j < R→qc (hc j++zk hq n nl (hl j)) i=none)) (hx0:Ext (fun b=>F.own0.prv b∨F.owns0 b) F.w0 ws) (hl0:F.w0.heap.size≤l)
  (hb0:∀ i o b,h0 i=some o→blk (qP hs ρs i)=some b→F.w0.heap.size≤b∨F.owns0 b) (ho0:∀ b,own0.prv b→F.own0.prv b∨F.w0.heap.size≤b∨F.owns0 b)
  (hround:∀ j,j < R→Sym (A' j) P rec0.assign (J9 T rec0.params.toList hq n nl (ys j) (hc j) (hl j)) (Qn (fun S1=>Sym (A' j) P rec0.body S1 (endK ans ex jj hq n hc hl keep j)) fun _ _=>False))
  {yv:Value} (hyv:yv=.func (.yield l) #[] #[]) :
  Bcc P hp h0 ys hl ans R ⟨yv,RJ F ws ρs oks keep l (recAt rec0 ans ex) (fun k=>qc (hc k)) jj,own0,ws,qP hs ρs⟩:=by
 intro j hj Pr own w ρ vs hHp hpins hext hlb hprv hvs hargs
 simp only at hHp hpins hext hlb hprv hargs ⊢
 obtain ⟨ownr,⟨ρk,ownk,fz,hR⟩,hxa,hxp,hPr⟩:=hHp.jay
 simp only [Nat.add_zero] at hR
 have hrj:recAt rec0 ans ex j=rec0:=by
  unfold recAt
  rw [if_neg]
  rintro ⟨h1,h2⟩
  have:=hRo.yes (j - 1) (by omega)
  rw [h2] at this;cases this
 rw [hrj] at hR
 have hs1:=hst j hj
 have hpin:∀ (m c:Nat),hq[m]?=some c→ρ m=ρk c:=fun m c hc=>by
  obtain ⟨o,ho⟩:=hdom m (List.getElem?_eq_some_iff.1 hc).1
  rw [hpins m o ho]
  simp only [qP,hpre m c hc]
  exact (hR.keep c (hhs m c hc)).symm
 have hb1:∀ b,(∃ k o',h0 k=some o'∧blk (qP hs ρs k)=some b)→F.w0.heap.size≤b∨F.owns0 b:=fun b ⟨k,o',h1,h2⟩=>hb0 k o' b h1 h2
 have hRO:∀ (wj:World) (hrec:∃ rc,wj.heap[l]?=some (.loop rc)),RoundOf F (jj j) (qc (hc j++zk hq n nl (hl j))) (VC F l (jj j) (fun b=>Pr b∨b=l) wj (.inr rfl) hrec w (zn hq n nl ρk ρ) (qc (hc j++zk hq n nl (hl j))) (kG ownk fun b=>Pr b∨b=l) (n+nl) (QG hs1.hsn hs1.own)):=fun wj hrec=>by
  refine ⟨rfl,⟨l,rfl⟩,rfl,⟨_,_,rfl⟩,fun i o hi hex'=>?_,hx0.trans hext fun b hlt hb=>?_,fun b hb=>?_, ?_⟩
  ·obtain ⟨h2,h1⟩:=hpin0 i o hi
   obtain ⟨o',hex'⟩:=hex'
   have h1:=h1.resolve_right fun h=>by rw [h j hj] at hex';cases hex'
   show zn hq n nl ρk ρ i=F.ρ0 i
   rw [zC (hkeep j hj i h1).1,hR.keep i h1,h2]
  ·rcases hb with hb|hb
   ·rcases ho0 b hb with h|h|h
    ·exact .inl h
    ·omega
    ·exact .inr h
   ·rcases hb1 b hb with h|h
    ·omega
    ·exact .inr h
  ·rcases hb with hb|hb|rfl
   ·rcases hR.psub b hb with h|h
    ·exact .inl h
    ·exact .inr (.inl h)
   ·rcases hprv b ((hxp b).2 (.inr hb)) with h|h|h
    ·exact ho0 b h
    ·exact .inr (.inl (Nat.le_trans hx0.size h))
    ·exact .inr (hb1 b h)
   ·exact .inr (.inl hl0)
  ·rintro b ⟨i,o,hi,hb⟩
   have hi:qc (hc j++zk hq n nl (hl j)) i=some o:=hi
   have hb:blk (zn hq n nl ρk ρ i)=some b:=hb
   rw [jS] at hi
   cases ho:qc (hc j) i with
   |some o1 =>
    rw [zC (hs1.own i o1 ho).1] at hb
    exact hR.prov i o1 b ho hb
   |none =>
    rw [ho] at hi
    obtain ⟨m,o0,hm,h0',rfl,_⟩:=xN hi
    rw [QQ hs1.hsn hpin hm] at hb
    rcases hlb m o0 b h0' hb with h|h
    ·exact .inl (Nat.le_trans hx0.size h)
    ·exact hb1 b h
 have hPr':∀ b,Pr b→¬ ownr.all b∧b < w.heap.size:=fun b hb=>⟨(hPr b hb).1,(hPr b hb).2.1⟩
 have H0:=Qaq (yv:=yv) hs1 hR hPr' hxa hxp hHp.obj hHp.inj hHp.off hpin hvs hargs hT hsz
 have hll:l < w.heap.size:=(Array.getElem?_eq_some_iff.1 hR.rcd).1
 refine ⟨l,rec0.fn,_,rec0.assign,rec0.body,hyv,run_yield hR.rcd (by rw [hvs,← hs1.plen];simp), ?_⟩
 rw [QeJ,hrec0.2.2]
 refine roundIn_of_wpIn trivial ?_
 have hw0:=fun h1 h2=>hround j hj _ h1 h2 _ w ⟨_,_,H0⟩
 have hw1:=hw0 (hA' j hj _ (hRO _ _)) hd1
 refine wpIn_mono hw1 ?_
 rintro e a1 w1 ⟨S1,hk,ρ1,own1,H1⟩
 cases e with
 |normal =>
  obtain ⟨ownk1,_,_,_,hpr1⟩:=H1.jay
  have hrc1:w1.heap[l]?=some (.loop rec0):=(hpr1 l (.inr rfl)).2.2.trans hR.rcd
  have hl1:l < w1.heap.size:=(hpr1 l (.inr rfl)).2.1
  refine ⟨_,run_beginRound hrc1 hrec0.1, ?_⟩
  have H2:=UU (rc:={ rec0 with state:=.busy }) H1 (.inr (.inr rfl)) hl1
  have hw3:=fun h1 h2=>hk _ h1 h2 a1 _ ⟨_,_,H2⟩
  have hw2:=hw3 (hA' j hj _ (hRO _ _)) hd2
  refine wpIn_mono hw2 ?_
  rintro e a2 w3 ⟨S2,⟨he,hjj,σ,hf,hF⟩,ρ3,own3,H3⟩
  obtain ⟨ownk3,_,_,_,hpr3⟩:=H3.jay
  have hPl:∀ b,Pr b→b ≠ l:=fun b hb e=>(hPr b hb).1 (e ▸ (hR.all l).2 (.inr (.inr (.inl rfl))))
  have hw2c:∀ b,Pr b→(w1.putObj l (.loop { rec0 with state:=.busy })).heap[b]?=w.heap[b]?:=fun b hb=>by
   rw [xe,if_neg (fun e=>hPl b hb e.1)]
   exact (hpr1 b (.inl hb)).2.2
  have hrc3:w3.heap[l]?=some (.loop { rec0 with state:=.busy }):=by
   rw [(hpr3 l (.inr rfl)).2.2,xe,if_pos ⟨rfl,hl1⟩]
  have fin:∀ (jump:Option Code),({ ({ rec0 with state:=.busy }:Loop) with state:=if jump.isNone then .ready else .done,pending:=jump }:Loop)=recAt rec0 ans ex (j+1)→jump.isNone=ans j →
    ∃ v w',(Instr.endRound l jump).run P w3=.ok v w'∧(Ending.returned v=.returned (.bool (ans j))∧∃ own',Hp (Jc (RJ F ws ρs oks keep l (recAt rec0 ans ex) (fun k=>qc (hc k)) jj) j Pr w) yv (hl j) 1 own' w' ρ∧Ext (fun b=>own.prv b∨∃ i o,hl j i=some o∧blk (ρ i)=some b) w w'∧∀ b,own'.prv b→own.prv b∨w.heap.size≤b):=by
   intro jump hjr hja
   refine ⟨_,_,run_endRound jump hrc3,by rw [hja], ?_⟩
   obtain ⟨ownk',fz',ownr',ownx',q1,q2,q3,q4,q5,q6,q7,q8⟩:=QeS (rc':=recAt rec0 ans ex (j+1)) (yv:=yv) hs1 hR hPr' hxa hxp (fun m o h b hb=>(hHp.obj m o h).lt hb) hHp.inj hHp.off (hlids j hj) hpin (hkeep j hj) (hlast j hj) hw2c H3 hF
   rw [hjr]
   rw [← hjj] at q1
   exact ⟨ownx',⟨⟨ownr',⟨_,ownk',fz',q1⟩,q2,q3,q4⟩,fun m o h=>(q5 m o h).chy (hs1.lent m o h).2.1,hHp.inj,q6⟩,q7,q8⟩
  by_cases hans:ans j=true
  ·rw [if_pos hans] at he
   subst he
   refine fin none ?_ (by rw [hans];rfl)
   unfold recAt
   have hc2:¬ (0 < j+1∧ans (j+1 - 1)=false):=by simp [hans]
   rw [if_neg hc2]
   obtain ⟨h1,h2,_⟩:=hrec0
   cases rec0
   simp only at h1 h2
   subst h1 h2
   rfl
  ·rw [if_neg hans] at he
   have hans:ans j=false:=by simpa using hans
   have hra:∀ c,QbN ex=some c→({ ({ rec0 with state:=.busy }:Loop) with state:=if (some c:Option Code).isNone then .ready else .done,pending:=some c }:Loop)=recAt rec0 ans ex (j+1):=fun c hc=>by
    unfold recAt
    have hc2:0 < j+1∧ans (j+1 - 1)=false:=⟨by omega,by simpa using hans⟩
    rw [if_pos hc2,hc]
    rfl
   rcases hex with rfl|⟨id,rfl⟩|⟨g,rfl⟩ <;> subst he
   ·exact fin (some .ret) (hra _ rfl) (by rw [hans];rfl)
   ·exact fin (some (.exit id)) (hra _ rfl) (by rw [hans];rfl)
   ·exact fin (some (.goto g)) (hra _ rfl) (by rw [hans];rfl)
 |exit id=>exact hk.elim
 |goto g=>exact hk.elim
 |ret=>exact hk.elim
 |panic c=>exact hk.elim
 |outgrown=>exact hk.elim
theorem Qb8 {F:Frm} {ws:World} {ρs:Nat→Value} {oks keep:Nat→Prop} {l:Nat} {rc rc':Loop} {ownr own':Own} {w:World} {ρk:Nat→Value} {ownk:Own} {fz:Nat→Prop} {T:Nat→AV} {a1:Act} {hs:List Nat} {n m:Nat} {hm:Nat→List (Nat × AObj)} {h0:Nat→Option AObj} {jj:Nat→Nat} {k:Nat} {d:List ADf} {ρx:Nat→Value} {yv:Value}
  (hR:RH F ws ρs oks keep l rc (qc (hm k)) (jj k) ownr w ρk ownk fz) (hown:own'=ownr)
  (lobj:∀ m o,h0 m=some o→ORel w (okB w own' ρx h0) ρx yv o (ρx m)) (linj:∀ i k o o' b,h0 i=some o→h0 k=some o'→blk (ρx i)=some b→blk (ρx k)=some b→i=k) (loff:∀ m o b,h0 m=some o→blk (ρx m)=some b→¬ own'.all b)
  (lprov:∀ m o b,h0 m=some o→blk (ρx m)=some b→F.w0.heap.size≤b∨F.owns0 b) (hpin:∀ (m c:Nat),hs[m]?=some c→ρx m=ρs c) (hsR:∀ c ∈ hs,qc (hm k) c=none) (hoR:∀ i o,qc (hm k) i=some o→∀ id ∈ o.ids,id ∈ hs→keep id)
  (hnc:∀ m o,h0 m=some o→o.nocb∧m < hs.length∧∀ id ∈ o.ids,id < hs.length) (hsn:∀ c ∈ hs,c < n+1) (hmn:∀ i o,qc (hm k) i=some o→i < n+1∧∀ id ∈ o.ids,id < n+1)
  (hTn:∀ t,∀ id ∈ (T t).ids,id < n+1∧keep id) (hdn:∀ id ∈ (ADf.mark n :: d).flatMap ADf.ids,id < n+1∧keep id)
  (hT:∀ t,ARel ws oks ρs F.y (T t) (a1.tmps.getD t undef)) (hD:DfsRel ws oks ρs F.y (.mark n :: d) a1.defers) (hsz:a1.tmps.size=F.nt)
  (hmm:F.n0=m) (hmk:∀ id,id < m→keep id∨id ∈ hs) (hpins:∀ i o,F.H0 i=some o→ρs i=F.ρ0 i) (hmn1:m≤n+1)
  (hlnew:F.w0.heap.size≤l) (hext:Ext (fun b=>F.own0.prv b∨F.owns0 b) F.w0 w) :
  Gam F (QbY T hs n hm h0 jj d m k) a1 (w.putObj l (.loop rc')):=by
 subst hown
 have hx:Ext (fun k=>k=l) w (w.putObj l (.loop rc')):=Ext.putObj _ _ _ rfl
 let ρf:Nat→Value:=fun id=>if id ∈ hs then ρs id else ρk id
 have hfs:∀ id,keep id→ρf id=ρs id:=fun id h=>by
  by_cases hm:id ∈ hs
  ·exact if_pos hm
  ·exact (if_neg hm).trans (hR.keep id h)
 have hkey:∀ i o,qc (hm k) i=some o→ρf i=ρk i:=fun i o h=>if_neg fun hn=>by rw [hsR i hn] at h;cases h
 have hoid:∀ i o,qc (hm k) i=some o→∀ id ∈ o.ids,ρf id=ρk id:=fun i o h id hid=>by
  by_cases hn:id ∈ hs
  ·have hk:=hoR i o h id hid hn
   exact (hfs id hk).trans (hR.keep id hk).symm
  ·exact if_neg hn
 have hren:∀ q o,h0 q=some o→ρf (qo hs (n+1) q)=ρx q:=fun q o h=>by
  obtain ⟨c,hc⟩:∃ c,hs[q]?=some c:=⟨hs[q]'(hnc q o h).2.1,List.getElem?_eq_getElem (hnc q o h).2.1⟩
  simp only [qo,hc]
  exact (if_pos (List.mem_of_getElem? hc)).trans (hpin q c hc).symm
 have hlook:∀ {i o},qc (hm k++zk hs (n+1) 0 h0) i=some o→qc (hm k) i=some o∨∃ q o0,h0 q=some o0∧i=qo hs (n+1) q∧o=o0.ren (qo hs (n+1)):=fun {i o} hi=>by
  rw [jS] at hi
  cases ho:qc (hm k) i with
  |some o1=>rw [ho] at hi;exact .inl hi
  |none=>rw [ho] at hi;obtain ⟨q,o0,_,h1,e1,e2⟩:=xN hi;exact .inr ⟨q,o0,h1,e1,e2⟩
 have hfzok:∀ b,fz b→okB (w.putObj l (.loop rc')) ownk ρf (qc (hm k++zk hs (n+1) 0 h0)) b∧(w.putObj l (.loop rc')).heap[b]?=w.heap[b]?:=fun b hb=>by
  obtain ⟨g1,g2,g3,g4⟩:=hR.fzok b hb
  refine ⟨⟨Nat.lt_of_lt_of_le g1 hx.size,g2,fun i o hi hbi=>?_⟩,hx.block b g1 g4⟩
  rcases hlook hi with h|⟨q,o0,h1,rfl,_⟩
  ·rw [hkey i o h] at hbi;exact g3 ⟨i,o,h,hbi⟩
  ·rw [hren q o0 h1] at hbi;exact loff q o0 b h1 hbi ((hR.all b).2 (.inr (.inr (.inr hb))))
 have hlok:∀ b,okB w own' ρx h0 b→okB (w.putObj l (.loop rc')) ownk ρf (qc (hm k++zk hs (n+1) 0 h0)) b∧(w.putObj l (.loop rc')).heap[b]?=w.heap[b]?:=fun b ⟨g1,g2,g3⟩=>by
  refine ⟨⟨Nat.lt_of_lt_of_le g1 hx.size,fun h=>g2 ((hR.prv b).2 (.inl h)),fun i o hi hbi=>?_⟩,hx.block b g1 fun e=>g2 ((hR.prv b).2 (.inr (.inr e)))⟩
  rcases hlook hi with h|⟨q,o0,h1,rfl,_⟩
  ·rw [hkey i o h] at hbi;exact g2 ((hR.prv b).2 (.inr (.inl ⟨i,o,h,hbi⟩)))
  ·rw [hren q o0 h1] at hbi;exact g3 q o0 h1 hbi
 have hoks:∀ b,oks b→okB (w.putObj l (.loop rc')) ownk ρf (qc (hm k++zk hs (n+1) 0 h0)) b∧(w.putObj l (.loop rc')).heap[b]?=ws.heap[b]?:=fun b hb=>by
  obtain ⟨g1,g2⟩:=hR.oks b hb
  exact ⟨(hfzok b g1).1,(hfzok b g1).2.trans g2⟩
 refine ⟨ρf,ownk,(F.stable _ _ _ hR.jay).2 _ (hx.weaken fun b _ e ho=>hR.lown (e ▸ ho)),fun t=>(hT t).mono hoks fun id hid=>hfs id (hTn t id hid).2,fun i o hi=>?_,fun i q o o' b hi hq hbi hbq=>?_,fun i o b hi hb=>?_,fun id hid=>?_, ?_,hmm,hsz,fun i o hi=>?_, ?_,hR.psub,hR.still,hD.mono hoks fun id hid=>hfs id (hdn id hid).2⟩
 ·rcases hlook hi with h|⟨q,o0,h1,rfl,rfl⟩
  ·rw [hkey i o h]
   exact (hR.obj i o h).mono hfzok (fun b hb=>hx.block b ((hR.obj i o h).lt hb) (hR.off i o b h hb).2) fun id hid=>hoid i o h id hid
  ·rw [hren q o0 h1]
   have h2:=((lobj q o0 h1).chy (y':=F.y) (hnc q o0 h1).1).mono (ρ':=ρx) hlok (fun b hb=>hx.block b ((lobj q o0 h1).lt hb) fun e=>loff q o0 b h1 hb ((hR.all b).2 (.inr (.inr (.inl e))))) fun _ _=>rfl
   exact AObj.ren_rel h2 (.inr fun b hb=>hb) fun id hid=>by
    obtain ⟨c,hc⟩:∃ c,hs[id]?=some c:=⟨_,List.getElem?_eq_getElem ((hnc q o0 h1).2.2 id hid)⟩
    simp only [qo,hc]
    exact (if_pos (List.mem_of_getElem? hc)).trans (hpin id c hc).symm
 ·have cross:∀ {i o q o0},qc (hm k) i=some o→h0 q=some o0→blk (ρk i)=some b→blk (ρx q)=some b→False:=fun {i o q o0} h h1 hb hb' =>
   loff q o0 b h1 hb' ((hR.all b).2 (.inr (.inl ⟨i,o,h,hb⟩)))
  rcases hlook hi with h|⟨q1,o1,h1,rfl,rfl⟩
  ·rcases hlook hq with h'|⟨q2,o2,h2,rfl,rfl⟩
   ·rw [hkey i o h] at hbi
    rw [hkey q o' h'] at hbq
    exact hR.inj i q o o' b h h' hbi hbq
   ·rw [hren q2 o2 h2] at hbq;rw [hkey i o h] at hbi;exact (cross h h2 hbi hbq).elim
  ·rw [hren q1 o1 h1] at hbi
   rcases hlook hq with h'|⟨q2,o2,h2,rfl,rfl⟩
   ·rw [hkey q o' h'] at hbq;exact (cross h' h1 hbq hbi).elim
   ·rw [hren q2 o2 h2] at hbq;rw [linj q1 q2 o1 o2 b h1 h2 hbi hbq]
 ·rcases hlook hi with h|⟨q,o0,h1,rfl,rfl⟩
  ·rw [hkey i o h] at hb;exact ⟨(hR.off i o b h hb).1,hR.prov i o b h hb⟩
  ·rw [hren q o0 h1] at hb;exact ⟨fun ho=>loff q o0 b h1 hb ((hR.all b).2 (.inl ho)),lprov q o0 b h1 hb⟩
 ·have hid:n+1≤id:=hid
  refine ⟨?_,fun t hm'=>?_,fun i o hi hm'=>?_,fun hm'=>?_⟩
  ·show qc (hm k++zk hs (n+1) 0 h0) id=none
   cases ho:qc (hm k++zk hs (n+1) 0 h0) id with
   |none=>rfl
   |some o =>
    rcases hlook ho with h|⟨q,o0,h1,e,_⟩
    ·have:=(hmn id o h).1;omega
    ·have:=xU (nl:=0) hsn (show q < hs.length+0 from (hnc q o0 h1).2.1);omega
  ·have:=(hTn t id hm').1;omega
  ·rcases hlook hi with h|⟨q,o0,h1,rfl,rfl⟩
   ·have:=(hmn i o h).2 id hm';omega
   ·rw [AObj.ren_ids] at hm'
    obtain ⟨z,hz,rfl⟩:=List.mem_map.1 hm'
    have:=xU (nl:=0) hsn (show z < hs.length+0 from (hnc q o0 h1).2.2 z hz);omega
  ·have:=(hdn id hm').1;omega
 ·show F.n0≤n+1;omega
 ·have e:ρf i=ρs i:=(hmk i (by rw [← hmm];exact F.pinn i o hi)).elim (hfs i) fun h=>if_pos h
  rw [e];exact hpins i o hi
 ·refine hext.trans hx fun b hb e=>?_
  exfalso;omega
def Zp (T:Nat→AV) (hs xs:List Nat) (n m:Nat) (d:List ADf) (id:Nat):Prop:=(id < m∧id ∉ xs)∨id ∈ hs∨(∃ t,id ∈ (T t).ids)∨id ∈ (ADf.mark n :: d).flatMap ADf.ids
theorem Qcg (hAr:∀ F,A F→F.r=none) {A':Nat→Frm→Prop} {g:Operand} {ps:Array Tmp} {assign body:Code} {T T':Nat→AV} {hs hq xs:List Nat} {n m nl:Nat} {hc:Nat→List (Nat × AObj)} {hp h0:Nat→Option AObj} {jj:Nat→Nat} {d:List ADf} {K:Exit→St→Prop}
  {f:FuncId} {caps caps0:List AV} {ys:Nat→List AV} {N R:Nat} {hl:Nat→Nat→Option AObj} {vv:Nat→(Nat→Bool)→AV} {ans:Nat→Bool} {ex:Exit}
  (hg:ev { t:=T,h:=qc (hc 0++zk hs (n+1) 0 h0),n:=n,j:=jj 0,d:=d,m:=m } g=.clo f caps) (hit:LP P f (.cb :: caps0) hp h0 ys N hl vv)
  (hA':∀ F,A F→∀ j,j < R→∀ F',RoundOf F (jj j) (qc (((n,.mark) :: hc j)++zk hq (n+1) nl (hl j))) F'→A' j F') (hTT:∀ t,T' t=T t∨T' t=.junk) (hxs:∀ x ∈ xs,x ∈ hs∧∀ j,j < R→qc (((n,.mark) :: hc j)++zk hq (n+1) nl (hl j)) x=none) (hpre:∀ (m c:Nat),hq[m]?=some c→hs[m]?=some c) (hpd:∀ m,m < hq.length→∃ o,hp m=some o) (hRo:Rounds ans R N) (hex:ex=.ret∨(∃ id,ex=.exit id)∨∃ g,ex=.goto g)
  (hcaps:AV.leL (fun _=>none) (fun j=>hs[j]?) caps caps0) (hcn:AV.nocbL caps0)
  (hobj:∀ q o0,h0 q=some o0→q < hs.length∧o0.nocb∧(∀ id ∈ o0.ids,id < hs.length)∧AObj.le (fun _=>none) (fun j=>hs[j]?) (o0.ren (qo hs (n+1))) o0)
  (hdom:∀ q,q < hs.length→∃ o,h0 q=some o) (hnd:hs.Nodup) (hsn:∀ c ∈ hs,qc (hc 0) c=none)
  (hst:∀ F,A F→∀ j,j < R→RStat F T' ps.toList hq (n+1) nl (ys j) ((n,.mark) :: hc j) (hl j) (Zp T' hq xs n m d))
  (hlids:∀ j,j < R→∀ m o,hl j m=some o→∀ id ∈ o.ids,∃ o',hl j id=some o') (hkeep:∀ j,j < R→∀ id,Zp T' hq xs n m d id→id < n+1∧∃ o,qc (((n,.mark) :: hc j)++zk hq (n+1) nl (hl j)) id=some o)
  (hlast:∀ j,j < R→∀ m o0,hl j m=some o0→∃ o,qc (((n,.mark) :: hc j)++zk hq (n+1) nl (hl j)) (qo hq (n+1) m)=some o)
  (hend:∀ i o,qc ((n,.mark) :: hc R) i=some o→i < n+1∧∀ id ∈ o.ids,id < n+1)
  (hsR:∀ c ∈ hs,qc ((n,.mark) :: hc R) c=none) (hoR:∀ i o,qc ((n,.mark) :: hc R) i=some o→∀ id ∈ o.ids,id ∈ hs→id ∈ hq)
  (hround:∀ j,j < R→Sym (A' j) P assign (J9 T' ps.toList hq (n+1) nl (ys j) ((n,.mark) :: hc j) (hl j)) (Qn (fun S1=>Sym (A' j) P body S1 (endK ans ex jj hq (n+1) (fun k=>(n,.mark) :: hc k) hl (Zp T' hq xs n m d) j)) fun _ _=>False))
  (hKn:(∀ k,k < R→ans k=true)→K .normal (QbY T' hs n (fun k=>(n,.mark) :: hc k) h0 jj d m R)) (hKx:0 < R→ans (R - 1)=false→K ex (QbY T' hs n (fun k=>(n,.mark) :: hc k) h0 jj d m R)) :
  Sym A P (.rangeFunc g ps assign body) { t:=T,h:=qc (hc 0++zk hs (n+1) 0 h0),n:=n,j:=jj 0,d:=d,m:=m } K:=by
 intro F hF hd a w ⟨ρ,own,H⟩
 have hFr:=hAr F hF
 simp only [yU,Bool.and_eq_true] at hd
 have hgv:=qL H g
 rw [hg] at hgv
 generalize hgv':a.eval g=gv at hgv
 cases hgv with
 |@clo _ _ cvs hcs hcr =>
 refine wpIn_rangeFunc fun fn _=>?_
 let l:=w.heap.size+1
 let rec0:Loop:={ state:=.ready,pending:=none,fn,tmps:=a.tmps,params:=ps,assign,body,defers:=w.heap.size }
 let w1:=(w.alloc (.deferred (some []))).alloc (.loop rec0)
 let yv:Value:=.func (.yield l) #[] #[]
 have hFn:=hit ans R hRo
 have hent:(Instr.enterLoop fn a.tmps ps assign body (W F.r).round).run P w=.ok (l,[{ target:=.collected w.heap.size,args:=#[] }]) w1:=by
  show (Instr.enterLoop fn a.tmps ps assign body F.r).run P w=_
  rw [hFr];exact run_enterLoop_outer ..
 refine ⟨l,[{ target:=.collected w.heap.size,args:=#[] }],w1,{ target:=.fn (.func f) cvs,args:=#[yv] },w1,f,#[yv]++cvs,w1,hent, ?_,fun _ _=>trivial, ?_,fun h=>by simp [W] at h, ?_⟩
 ·have hcv:a.eval (.const (.func (.yield l) #[] #[]))=yv:=rfl
  simp [resolve,rangeCall,Deferred.ofValue,hgv',hcv]
 ·simp [invoke,hFn.enter]
 have hwf:Wf { t:=T,h:=qc (hc 0++zk hs (n+1) 0 h0),n:=n,j:=jj 0,d:=d,m:=m }:=H.fresh
 have hnone:qc (hc 0++zk hs (n+1) 0 h0) n=none:=(hwf n (Nat.le_refl _)).1
 have hTlt0:∀ t,∀ id ∈ (T t).ids,id < n:=fun t id hid=>Nat.lt_of_not_le fun hn=>(hwf id hn).2.1 t hid
 have hTlt:∀ t,∀ id ∈ (T' t).ids,id < n:=fun t id hid=>(hTT t).elim (fun e=>hTlt0 t id (e ▸ hid)) fun e=>by rw [e] at hid;simp [AV.ids] at hid
 have hdlt:∀ id ∈ d.flatMap ADf.ids,id < n:=fun id hid=>Nat.lt_of_not_le fun hn=>(hwf id hn).2.2.2 hid
 have hclt:∀ i o,qc (hc 0) i=some o→qc (hc 0++zk hs (n+1) 0 h0) i=some o∧i < n∧∀ id ∈ o.ids,id < n:=fun i o hi=>by
  have hi':qc (hc 0++zk hs (n+1) 0 h0) i=some o:=by rw [jS,hi]
  exact ⟨hi',Nat.lt_of_not_le fun hn=>(by
   have h2:qc (hc 0++zk hs (n+1) 0 h0) i=none:=(hwf i hn).1
   rw [h2] at hi';cases hi'),fun id hid=>Nat.lt_of_not_le fun hn=>(hwf id hn).2.2.1 i o hi' hid⟩
 have hlen:∀ q o0,h0 q=some o0→∃ c,hs[q]?=some c∧qc (hc 0++zk hs (n+1) 0 h0) c=some (o0.ren (qo hs (n+1))):=fun q o0 hq=>by
  obtain ⟨g1,_⟩:=hobj q o0 hq
  refine ⟨hs[q],List.getElem?_eq_getElem g1, ?_⟩
  rw [jS,hsn _ (List.getElem_mem g1)]
  have:=QbK (n:=n+1) hnd hq g1
  simpa [qo,List.getElem?_eq_getElem g1] using this
 have hx1:Ext (fun _=>False) w w1:=(Ext.alloc _ _ _).trans (Ext.alloc _ _ _) fun _ _ h=>h
 have hsz1:w1.heap.size=w.heap.size+2:=by simp [w1]
 have hmb:w1.heap[w.heap.size]?=some (.deferred (some [])):=by
  have:=(Ext.alloc (fun _=>False) (w.alloc (.deferred (some []))) (.loop rec0)).block w.heap.size (by simp) (by simp)
  rw [show w1.heap[w.heap.size]?=_ from this];exact ky _ _
 have hlb:w1.heap[l]?=some (.loop rec0):=by
  have:=ky (w.alloc (.deferred (some []))) (.loop rec0)
  simpa [w1,l] using this
 let ρ1:Nat→Value:=upd ρ n (.chan (some w.heap.size))
 have hρ1:∀ id,id < n→ρ1 id=ρ id:=fun id h=>upd_ne _ _ _ _ (by omega)
 let fz0:Nat→Prop:=okB w own ρ (qc (hc 0++zk hs (n+1) 0 h0))
 have hfz1:∀ b,fz0 b→fz0 b∧w1.heap[b]?=w.heap[b]?:=fun b hb=>⟨hb,hx1.block b hb.1 (by simp)⟩
 have hm0:∀ {i o},qc ((n,AObj.mark) :: hc 0) i=some o→(i=n∧o=.mark)∨(i < n∧qc (hc 0) i=some o):=fun {i o} hi=>by
  simp only [qc] at hi
  split at hi
  ·rename_i h;cases hi;exact .inl ⟨h,rfl⟩
  ·exact .inr ⟨(hclt i o hi).2.1,hi⟩
 have hb0:∀ b,yR (qc ((n,AObj.mark) :: hc 0)) ρ1 b→b=w.heap.size∨∃ i o,qc (hc 0) i=some o∧blk (ρ i)=some b:=by
  rintro b ⟨i,o,hi,hb⟩
  rcases hm0 hi with ⟨rfl,_⟩|⟨h1,h2⟩
  ·simp only [ρ1,upd_same,blk,Option.some.injEq] at hb;exact .inl hb.symm
  ·rw [hρ1 i h1] at hb;exact .inr ⟨i,o,h2,hb⟩
 let ownr0:Own:=⟨fun b=>own.all b∨yR (qc ((n,AObj.mark) :: hc 0)) ρ1 b∨b=l∨fz0 b,fun b=>own.prv b∨yR (qc ((n,AObj.mark) :: hc 0)) ρ1 b∨b=l,fun b h=>h.imp (own.sub b) fun h=>h.imp id .inl⟩
 have hownlt:∀ b,own.all b→b < w.heap.size:=(F.stable _ _ _ H.jay).1
 have hRH:RH F w1 ρ1 fz0 (Zp T' hq xs n m d) l rec0 (qc ((n,AObj.mark) :: hc 0)) (jj 0) ownr0 w1 ρ1 own fz0:=by
  refine ⟨(F.stable _ _ _ H.jay).2 w1 (hx1.weaken fun _ _ h=>h.elim),fun b=>Iff.rfl,fun b=>Iff.rfl,fun b hb=>⟨Nat.lt_of_lt_of_le hb.1 hx1.size,hb.2.1,fun h=>?_,by have:=hb.1;simp only [l];omega⟩,fun i o hi=>?_,fun i k o o' b hi hk hbi hbk=>?_,fun i o b hi hb=>?_,fun h=>by have:=hownlt l h;simp only [l] at this;omega,hlb,fun b hb=>⟨hb,rfl⟩,fun _ _=>rfl,fun i o b hi hb=>?_,H.ownsub,H.still,Nat.le_trans H.ext.size hx1.size⟩
  ·rcases hb0 b h with h|⟨i,o,h1,h2⟩
   ·have:=hb.1;omega
   ·exact hb.2.2 i o (hclt i o h1).1 h2
  ·rcases hm0 hi with ⟨rfl,rfl⟩|⟨h1,h2⟩
   ·simp only [ρ1,upd_same];exact .mark hmb
   ·rw [hρ1 i h1]
    obtain ⟨g1,_,g3⟩:=hclt i o h2
    exact (H.obj i o g1).mono hfz1 (fun b hb=>hx1.block b ((H.obj i o g1).lt hb) (by simp)) fun id hid=>hρ1 id (g3 id hid)
  ·rcases hm0 hi with ⟨rfl,rfl⟩|⟨h1,h2⟩
   ·rcases hm0 hk with ⟨rfl,rfl⟩|⟨h3,h4⟩
    ·rfl
    ·simp only [ρ1,upd_same,blk,Option.some.injEq] at hbi
     rw [hρ1 k h3] at hbk
     have:=(H.obj k o' (hclt k o' h4).1).lt hbk;omega
   ·rw [hρ1 i h1] at hbi
    rcases hm0 hk with ⟨rfl,rfl⟩|⟨h3,h4⟩
    ·simp only [ρ1,upd_same,blk,Option.some.injEq] at hbk
     have:=(H.obj i o (hclt i o h2).1).lt hbi;omega
    ·rw [hρ1 k h3] at hbk
     exact H.inj i k o o' b (hclt i o h2).1 (hclt k o' h4).1 hbi hbk
  ·rcases hb0 b ⟨i,o,hi,hb⟩ with h|⟨q,oq,h1,h2⟩
   ·exact ⟨fun ho=>by have:=hownlt b ho;omega,by simp only [l];omega⟩
   ·exact ⟨(H.blkOK q oq b (hclt q oq h1).1 h2).1,by have:=(H.obj q oq (hclt q oq h1).1).lt h2;simp only [l];omega⟩
  ·rcases hb0 b ⟨i,o,hi,hb⟩ with h|⟨q,oq,h1,h2⟩
   ·exact .inl (by rw [h];exact H.ext.size)
   ·exact (H.blkOK q oq b (hclt q oq h1).1 h2).2
 have hr0:recAt rec0 ans ex 0=rec0:=by simp [recAt]
 have hcn':∀ (q c:Nat),hs[q]?=some c→c < n:=fun q c hq=>by
  obtain ⟨o,ho⟩:=hdom q (List.getElem?_eq_some_iff.1 hq).1
  obtain ⟨c',hc',hob⟩:=hlen q o ho
  rw [hq] at hc';cases hc'
  refine Nat.lt_of_not_le fun hn=>?_
  have h2:qc (hc 0++zk hs (n+1) 0 h0) c=none:=(hwf c hn).1
  rw [h2] at hob;cases hob
 have hrho:∀ (q c:Nat),hs[q]?=some c→qP hs ρ1 q=ρ c:=fun q c hq=>by simp only [qP,hq];exact hρ1 c (hcn' q c hq)
 have hlb0:∀ q o0 b,h0 q=some o0→blk (qP hs ρ1 q)=some b→∃ c,hs[q]?=some c∧qc (hc 0++zk hs (n+1) 0 h0) c=some (o0.ren (qo hs (n+1)))∧blk (ρ c)=some b:=fun q o0 b hq hb=>by
  obtain ⟨c,h1,h2⟩:=hlen q o0 hq
  rw [hrho q c h1] at hb
  exact ⟨c,h1,h2,hb⟩
 have hfzx:∀ b,fz0 b→okB w1 ownr0 (qP hs ρ1) h0 b∧w1.heap[b]?=w.heap[b]?:=fun b hb=>by
  refine ⟨⟨Nat.lt_of_lt_of_le hb.1 hx1.size, ?_,fun q o0 hq hbq=>?_⟩,(hfz1 b hb).2⟩
  ·rintro (h|h|h)
   ·exact hb.2.1 h
   ·exact (hRH.fzok b hb).2.2.1 h
   ·exact (hRH.fzok b hb).2.2.2 h
  ·obtain ⟨c,_,h2,h3⟩:=hlb0 q o0 b hq hbq
   exact hb.2.2 c _ h2 h3
 have hσ:∀ (j i:Nat),hs[j]?=some i→qP hs ρ1 j=ρ i:=hrho
 have hσ0:∀ j,hs[j]?=none→qP hs ρ1 j=.slice none 0 0:=fun j h=>by simp only [qP,h]
 have hHp:Hp (RJ F w1 ρ1 fz0 (Zp T' hq xs n m d) l (recAt rec0 ans ex) (fun k=>qc ((n,AObj.mark) :: hc k)) jj) yv h0 0 ownr0 w1 (qP hs ρ1):=by
  refine ⟨⟨ρ1,own,fz0,by rw [hr0];exact hRH⟩,fun q o0 hq=>?_,fun i k o o' b hi hk hbi hbk=>?_,fun q o0 b hq hb=>?_⟩
  ·obtain ⟨c,h1,h2⟩:=hlen q o0 hq
   obtain ⟨g1,g2,g3,g4⟩:=hobj q o0 hq
   have:=AObj.le_rel (ok':=fz0) (h:=fun _=>none) (σ:=fun j=>hs[j]?) (ρ':=qP hs ρ1) (fun i o h=>by cases h) (fun b hb=>hb) (fun i ox b h=>by cases h) hσ hσ0 (H.obj c _ h2) g4
   rw [hrho q c h1]
   exact (this.chy g2).mono hfzx (fun b hb=>hx1.block b ((H.obj c _ h2).lt hb) (by simp)) fun _ _=>rfl
  ·obtain ⟨c,h1,h2,h3⟩:=hlb0 i o b hi hbi
   obtain ⟨c',h1',h2',h3'⟩:=hlb0 k o' b hk hbk
   have:=H.inj c c' _ _ b h2 h2' h3 h3'
   subst this
   obtain ⟨hi1,hi2⟩:=List.getElem?_eq_some_iff.1 h1
   obtain ⟨hk1,hk2⟩:=List.getElem?_eq_some_iff.1 h1'
   exact (List.getElem_inj (h₀:=hi1) (h₁:=hk1) hnd).1 (hi2.trans hk2.symm)
  ·obtain ⟨c,h1,h2,h3⟩:=hlb0 q o0 b hq hb
   have hlt:=(H.obj c _ h2).lt h3
   rintro (h|h|h|h)
   ·exact (H.blkOK c _ b h2 h3).1 h
   ·rcases hb0 b h with h|⟨i,o,h4,h5⟩
    ·omega
    ·have:=H.inj i c o _ b (hclt i o h4).1 h2 h5 h3
     subst this
     rw [hsn _ (List.mem_of_getElem? h1)] at h4;cases h4
   ·simp only [l] at h;omega
   ·exact h.2.2 c _ h2 h3
 have hmkeep:∀ id,Zp T' hq xs n m d id→id < n+1:=fun id hid=>by
  rcases hid with ⟨h,_⟩|h|⟨t,h⟩|h
  ·have h1:F.n0=m:=H.meq
   have h2:F.n0≤n:=H.nle
   omega
  ·obtain ⟨q,hq'⟩:=List.getElem?_of_mem h
   have:=hcn' q id (hpre q id hq');omega
  ·have:=hTlt t id h;omega
  ·rw [List.flatMap_cons,List.mem_append] at h
   rcases h with h|h
   ·simp [ADf.ids] at h;omega
   ·have:=hdlt id h;omega
 have hT1:∀ t,ARel w1 fz0 ρ1 F.y (T' t) (a.tmps.getD t undef):=fun t=>by
  rcases hTT t with e|e
  ·rw [e];exact (H.temps t).mono hfz1 fun id hid=>hρ1 id (hTlt0 t id hid)
  ·rw [e];exact .junk
 have hx0:Ext (fun b=>F.own0.prv b∨F.owns0 b) F.w0 w1:=H.ext.trans hx1 fun _ _ h=>h.elim
 have hsz00:F.w0.heap.size≤w.heap.size:=H.ext.size
 have hpin0:∀ i o,F.H0 i=some o→ρ1 i=F.ρ0 i∧(Zp T' hq xs n m d i∨∀ j,j < R→qc (((n,.mark) :: hc j)++zk hq (n+1) nl (hl j)) i=none):=fun i o hi=>by
  have h1:F.n0=m:=H.meq
  have h2:F.n0≤n:=H.nle
  have h3:=F.pinn i o hi
  exact ⟨by rw [hρ1 i (by omega)];exact H.pins i o hi,(Classical.em (i ∈ xs)).elim (fun h=>.inr (hxs i h).2) fun h=>.inl (.inl ⟨by omega,h⟩)⟩
 have hb0':∀ i o b,h0 i=some o→blk (qP hs ρ1 i)=some b→F.w0.heap.size≤b∨F.owns0 b:=fun i o b hi hb=>by
  obtain ⟨c,_,h2,h3⟩:=hlb0 i o b hi hb
  exact (H.blkOK c _ b h2 h3).2
 have ho0:∀ b,ownr0.prv b→F.own0.prv b∨F.w0.heap.size≤b∨F.owns0 b:=fun b hb=>by
  rcases hb with h|h|h
  ·rcases H.ownsub b h with h|h
   ·exact .inl h
   ·exact .inr (.inl h)
  ·rcases hb0 b h with h|⟨i,o,h4,h5⟩
   ·exact .inr (.inl (by omega))
   ·exact .inr (H.blkOK i o b (hclt i o h4).1 h5).2
  ·exact .inr (.inl (by simp only [l] at h;omega))
 have hB:=QbU (P:=P) (hp:=hp) (hq:=hq) (F:=F) (ws:=w1) (ρs:=ρ1) (oks:=fz0) (keep:=Zp T' hq xs n m d) (l:=l) (rec0:=rec0) (ans:=ans) (ex:=ex) (T:=T') (a0:=a) (hs:=hs) (n:=n+1) (nl:=nl) (ys:=ys) (hc:=fun k=>(n,AObj.mark) :: hc k) (hl:=hl) (h0:=h0) (jj:=jj) (A':=A') (own0:=ownr0) hRo hex ⟨rfl,rfl,rfl⟩
  (hst F hF) hT1 H.tsz hlids hkeep hlast hpd hpre (fun q c hq'=>.inr (.inl (List.mem_of_getElem? hq'))) hd.1.2 hd.2 (hA' F hF) hpin0 hx0 (by simp only [l];have:F.w0.heap.size≤w.heap.size:=H.ext.size;omega) hb0' ho0 hround (yv:=yv) rfl
 refine XI (WL (hFn.calls yv _ (RJ.stable _ _ _ _ _ _ _ _ _) ownr0 w1 (qP hs ρ1) (#[yv]++cvs) hB hHp ?_ ?_) ?_)
 ·have:=AV.leL_length hcaps
  simp;omega
 ·intro i c hi
  cases i with
  |zero =>
   simp only [List.getElem?_cons_zero,Option.some.injEq] at hi
   subst hi
   have:(#[yv]++cvs).getD 0 undef=yv:=by simp [Array.getElem?_append]
   rw [this];exact .cb rfl rfl
  |succ i =>
   simp only [List.getElem?_cons_succ] at hi
   obtain ⟨b,hb,hle⟩:=AV.leL_get hcaps i c hi
   have h1:=hcr i b hb
   have h2:=AV.le_rel (ok':=fz0) (h:=fun _=>none) (σ:=fun j=>hs[j]?) (ρ':=qP hs ρ1) (fun i o h=>by cases h) (fun b hb=>hb) (fun i ox b h=>by cases h) hσ hσ0 h1 c hle
   have h3:(#[yv]++cvs).getD (i+1) undef=cvs.getD i undef:=by simp [Array.getElem?_append]
   rw [h3]
   exact (h2.chy (AV.nocbL_mem hcn c (List.mem_of_getElem? hi))).mono hfzx fun _ _=>rfl
 rintro e w' ⟨v',own',ρ',rfl,q1,q2,q3,q4,q5,q6,q7⟩
 obtain ⟨ρk,ownk,fz,hR⟩:=q1.jay
 have hnb:(recAt rec0 ans ex R).state ≠ .busy:=by
  unfold recAt
  split
  ·simp
  ·simp [rec0]
 have hpinR:∀ (q c:Nat),hs[q]?=some c→ρ' q=ρ1 c:=fun q c hq'=>by
  obtain ⟨o,ho⟩:=hdom q (List.getElem?_eq_some_iff.1 hq').1
  rw [q6 q o ho]
  simp only [qP,hq']
 have hlprov:∀ q o b,h0 q=some o→blk (ρ' q)=some b→F.w0.heap.size≤b∨F.owns0 b:=fun q o b hq hb=>by
  rw [q6 q o hq] at hb
  obtain ⟨c,_,h2,h3⟩:=hlb0 q o b hq hb
  exact (H.blkOK c _ b h2 h3).2
 have hsz0:F.w0.heap.size≤w.heap.size:=H.ext.size
 have hextR:Ext (fun b=>F.own0.prv b∨F.owns0 b) F.w0 w':=by
  refine ((H.ext.trans hx1 fun _ _ h=>h.elim).trans q3 fun b hb h=>?_)
  rcases h with (h|h|h)|⟨q,o,hq,hbq⟩
  ·rcases H.ownsub b h with h|h
   ·exact .inl h
   ·omega
  ·rcases hb0 b h with h|⟨i,o,h4,h5⟩
   ·omega
   ·rcases (H.blkOK i o b (hclt i o h4).1 h5).2 with h|h
    ·omega
    ·exact .inr h
  ·simp only [l] at h;omega
  ·obtain ⟨c,_,h2,h3⟩:=hlb0 q o b hq hbq
   rcases (H.blkOK c _ b h2 h3).2 with h|h
   ·omega
   ·exact .inr h
 have hGam:=Qb8 (T:=T') (a1:={ a with defers:=[{ target:=.collected w.heap.size,args:=#[] }]++a.defers }) (hs:=hs) (n:=n) (m:=m) (hm:=fun k=>(n,AObj.mark) :: hc k) (h0:=h0) (jj:=jj) (k:=R) (d:=d) (rc':={ recAt rec0 ans ex R with state:=.exhausted }) hR rfl q1.obj q1.inj q1.off hlprov hpinR hsR (fun i o hi id hid hm'=>.inr (.inl (hoR i o hi id hid hm')))
  (fun q o hq=>let ⟨g1,g2,g3,_⟩:=hobj q o hq;⟨g2,g1,g3⟩) (fun c hc'=>by obtain ⟨q,hq⟩:=List.getElem?_of_mem hc';have:=hcn' q c hq;omega) hend (fun t id hid=>⟨by have:=hTlt t id hid;omega,.inr (.inr (.inl ⟨t,hid⟩))⟩) (fun id hid=>⟨hmkeep id (.inr (.inr (.inr hid))),.inr (.inr (.inr hid))⟩)
  hT1 (.cons (.mark (upd_same _ _ _)) (H.defs.mono hfz1 fun id hid=>hρ1 id (hdlt id hid))) H.tsz H.meq (fun id hid=>(Classical.em (id ∈ xs)).elim (fun h=>.inr (hxs id h).1) fun h=>.inl (.inl ⟨hid,h⟩)) (fun i o hi=>by
   have h1:F.n0=m:=H.meq
   have h2:F.n0≤n:=H.nle
   have h3:=F.pinn i o hi
   rw [hρ1 i (by omega)];exact H.pins i o hi) (by have h1:F.n0=m:=H.meq;have h2:F.n0≤n:=H.nle;omega) (by simp only [l];omega) hextR
 refine ⟨_,_,run_endLoop hR.rcd hnb, ?_⟩
 by_cases hstop:0 < R∧ans (R - 1)=false
 ·have hpd:(recAt rec0 ans ex R).pending=QbN ex:=by unfold recAt;rw [if_pos hstop]
  rw [hpd]
  have hk:=hKx hstop.1 hstop.2
  rcases hex with rfl|⟨id,rfl⟩|⟨g,rfl⟩
  ·exact wpIn_ret ⟨_,hk,by simpa only [hpd] using hGam⟩
  ·exact wpIn_exit ⟨_,hk,by simpa only [hpd] using hGam⟩
  ·exact wpIn_goto ⟨_,hk,by simpa only [hpd] using hGam⟩
 ·have hpd:(recAt rec0 ans ex R).pending=none:=by unfold recAt;rw [if_neg hstop]
  rw [hpd]
  refine ⟨_,hKn (fun k hk=>?_),by simpa only [hpd] using hGam⟩
  by_cases hl:k+1 < R
  ·exact hRo.yes k hl
  ·have:k=R - 1:=by omega
   subst this
   cases h:ans (R - 1) with
   |true=>rfl
   |false=>exact absurd ⟨by omega,h⟩ hstop
end Go.Sym
namespace Go.Sym
open Go
variable {A : Frm → Prop} {P : Program}
structure RangeQ (L:List (Nat × AV)) (xs ps hs:List Nat) (n m nl:Nat) (d:List ADf) (H:List (Nat × AObj)) (Lt:List AObj) (y:List AV):Prop where
 own:xJ (n+1) ((n,.mark) :: H)
 len:Lt.length=hs.length+nl
 lent:QW (hs.length+nl) Lt
 args:Yx (hs.length+nl) y
 plen:ps.length=y.length
 keys:xy (n+1) ((n,.mark) :: H++qN hs (n+1) 0 Lt) ((List.range m).filter (fun i=>!xs.contains i)++(hs++(yT L++(ADf.mark n :: d).flatMap ADf.ids)))
def KW (L L':List (Nat × AV)):Prop:=∀ p ∈ L',asg L p.1=asg L' p.1
theorem QfY {L L':List (Nat × AV)} (h:KW L L') (t:Nat):asg L' t=asg L t∨asg L' t=.junk:=by
 rcases ZP L' t with e|⟨p,hp,rfl,e⟩
 ·exact .inr e
 ·exact .inl (h p hp).symm
def LY (hs xs:List Nat):Prop:=∀ x ∈ xs,x ∈ hs
def absent (xs:List Nat) (H:List (Nat × AObj)):Prop:=∀ p ∈ H,p.1 ∉ xs
theorem Qcc {xs:List Nat} {H:List (Nat × AObj)} (h:absent xs H) (x:Nat) (hx:x ∈ xs):qc H x=none:=by
 cases ho:qc H x with
 |none=>rfl
 |some o=>exact absurd hx (h _ (qF ho))
theorem RFin.okQ {S:St} {L:List (Nat × AV)} {hs xs:List Nat} {n m:Nat} {d:List ADf} {own:List (Nat × AObj)} {Lt:List AObj} (σ:Nat→Option Nat) (fz:List Nat) (h:RFinOK S hs (n+1) own Lt ((List.range m).filter (fun i=>!xs.contains i)++(hs++(yT L++(ADf.mark n :: d).flatMap ADf.ids))) σ fz) :
  RFin S hs (n+1) own (nth Lt) (Zp (asg L) hs xs n m d) σ (fun i=>if i ∈ fz then S.h i else none):=by
 have h0:=RFin.ok (m:=0) (L:=L) (d:=d) σ fz (n:=n) ⟨h.h,h.l,h.img,h.apart,h.frz,fun i hi=>h.pin i (List.mem_append_right _ (by simpa using hi))⟩
 refine ⟨h0.fown,h0.flent,h0.inj,h0.apart,h0.frz,fun id hid=>?_⟩
 rcases hid with ⟨g1,g2⟩|g
 ·exact h.pin id (List.mem_append_left _ (List.mem_filter.2 ⟨List.mem_range.2 g1,by simpa using g2⟩))
 ·exact h0.fkeep id (.inr g)
theorem jN (hAr:∀ F,A F→F.r=none) {A':Nat→Frm→Prop} (p:Nat) {tg:Tmp} {ps:Array Tmp} {assign body:Code} {L L':List (Nat × AV)} {hs xs:List Nat} {n m nl:Nat} {hc:Nat→List (Nat × AObj)} {Lp:List AObj} {jj:Nat→Nat} {d:List ADf} {K:Exit→St→Prop}
  {f:FuncId} {caps caps0:List AV} {ys:Nat→List AV} {N R:Nat} {hl:Nat→List AObj} {vv:Nat→(Nat→Bool)→AV} {ans:Nat→Bool} {ex:Exit}
  (hg:asg L tg=.clo f caps) (hit:LP P f (.cb :: caps0) (nth (Lp.take p)) (nth Lp) ys N (fun j=>nth (hl j)) vv) (hRo:Rounds ans R N) (hex:ex=.ret∨(∃ id,ex=.exit id)∨∃ g,ex=.goto g)
  (hcaps:AV.leL (fun _=>none) (fun j=>hs[j]?) caps caps0) (hcn:AV.nocbL caps0) (hobj:Zn hs (n+1) Lp) (hlen:Lp.length=hs.length) (hnd:hs.Nodup) (hsn:∀ c ∈ hs,qc (hc 0) c=none) (hsl:∀ c ∈ hs,c < n+1)
  (hA':∀ F,A F→∀ j,j < R→∀ F',RoundOf F (jj j) (qc ((n,.mark) :: hc j++qN (hs.take p) (n+1) 0 (hl j))) F'→A' j F')
  (hsR:∀ c ∈ hs,qc ((n,.mark) :: hc R) c=none) (hoR:∀ q ∈ (n,AObj.mark) :: hc R,∀ id ∈ q.2.ids,id ∈ hs→id ∈ hs.take p)
  (hLL:KW L L') (hxs:LY hs xs) (hxn:∀ j,j < R→absent xs ((n,.mark) :: hc j++qN (hs.take p) (n+1) 0 (hl j))) (hidt:WV (n+1) L') (hst:∀ j,j < R→RangeQ L' xs ps.toList (hs.take p) n m nl d (hc j) (hl j) (ys j)) (hend:xJ (n+1) ((n,.mark) :: hc R))
  (hround:∀ j,j < R→Sym (A' j) P assign (zU L' ps.toList (hs.take p) n nl (ys j) (hc j) (hl j)) (Qn (fun S1=>Sym (A' j) P body S1 (endK ans ex jj (hs.take p) (n+1) (fun k=>(n,.mark) :: hc k) (fun j=>nth (hl j)) (Zp (asg L') (hs.take p) xs n m d) j)) fun _ _=>False))
  (hKn:(∀ k,k < R→ans k=true)→K .normal { t:=asg L',h:=qc ((n,.mark) :: hc R++qN hs (n+1) 0 Lp),n:=n+1,j:=jj R,d:=.mark n :: d,m:=m })
  (hKx:0 < R→ans (R - 1)=false→K ex { t:=asg L',h:=qc ((n,.mark) :: hc R++qN hs (n+1) 0 Lp),n:=n+1,j:=jj R,d:=.mark n :: d,m:=m }) :
  Sym A P (.rangeFunc (.tmp tg) ps assign body) { t:=asg L,h:=qc (hc 0++qN hs (n+1) 0 Lp),n:=n,j:=jj 0,d:=d,m:=m } K:=by
 have e0:=Qi (n:=n+1) (nl:=0) (L:=Lp) (hs:=hs) hlen
 rw [← e0] at hKn hKx ⊢
 have hkeepT:∀ j,j < R→∀ id,Zp (asg L') (hs.take p) xs n m d id→Q7 (n+1) ((n,.mark) :: hc j++qN (hs.take p) (n+1) 0 (hl j)) id:=fun j hj id hid=>by
  refine Vk (hst j hj).keys id ?_
  simp only [List.mem_append,List.mem_filter,List.mem_range]
  rcases hid with ⟨h,h'⟩|h|⟨t,h⟩|h
  ·exact .inl ⟨h,by simpa using h'⟩
  ·exact .inr (.inl h)
  ·refine .inr (.inr (.inl ?_))
   rcases ZP L' t with e|⟨p,hp,_,e⟩
   ·rw [e] at h;simp [AV.ids] at h
   ·rw [e] at h;exact JM hp h
  ·exact .inr (.inr (.inr h))
 intro F0 hF0 hd0
 have hps:∀ p ∈ ps.toList,p < F0.nt:=fun p hp=>by
  simp only [yU,Bool.and_eq_true] at hd0
  have:=List.all_eq_true.1 hd0.1.1 p hp
  simpa using this
 refine Qcg (A:=fun F=>F=F0) (A':=A') (hq:=hs.take p) (hp:=nth (Lp.take p)) (fun F hF=>hF ▸ hAr F0 hF0) (h0:=nth Lp) (hl:=fun j=>nth (hl j)) (nl:=nl) (vv:=vv) (N:=N) (by simpa [ev] using hg) hit (fun F hF j hj F' hF'=>hA' F0 hF0 j hj F' (by rw [← Qi (hst j hj).len];rw [hF] at hF';exact hF')) (QfY hLL) (fun x hx=>⟨hxs x hx,fun j hj=>?_⟩) (fun m c hm=>?_) (fun m hm=>?_) hRo hex hcaps hcn (fun q o0 ho=>?_) (fun q hq=>⟨_,List.getElem?_eq_getElem (by omega)⟩) hnd hsn (fun F hF j hj=>?_) (fun j hj mm o ho id hid=>?_) (fun j hj id hid=>?_) (fun j hj mm o0 ho=>?_) (fun i o ho=>?_) hsR (fun i o ho id hid hm=>hoR _ (qF ho) id hid hm) (fun j hj=>?_) hKn hKx F0 rfl hd0
 ·rw [Qi (hst j hj).len]
  exact Qcc (hxn j hj) x hx
 ·rw [List.getElem?_take] at hm
  split at hm
  ·exact hm
  ·cases hm
 ·rw [List.length_take] at hm
  exact ⟨_,List.getElem?_eq_getElem (l:=Lp.take p) (by rw [List.length_take];omega)⟩
 ·obtain ⟨g1,g2,g3⟩:=XH hobj q o0 ho
  exact ⟨by have:=(List.getElem?_eq_some_iff.1 ho).1;omega,g1,g2,g3⟩
 ·have h:=hst j hj
  refine ⟨fun c hc=>hsl c (List.mem_of_mem_take hc),fun t id hid=>?_,fun i o ho=>Ja h.own _ (qF ho),fun mm o ho=>?_,QaK h.args,h.plen,fun p hp=>by rw [hF];exact hps p hp⟩
  ·rcases ZP L' t with e|⟨p,hp,_,e⟩
   ·rw [e] at hid;simp [AV.ids] at hid
   ·have:id ∈ p.2.ids:=by rw [e] at hid;exact hid
    exact ⟨Vf hidt p hp id this,.inr (.inr (.inl ⟨t,hid⟩))⟩
  ·obtain ⟨g1,g2⟩:=J5 h.lent mm o ho
   exact ⟨by have:=(List.getElem?_eq_some_iff.1 ho).1;have:=h.len;omega,g1,g2⟩
 ·obtain ⟨_,g2⟩:=J5 (hst j hj).lent mm o ho
  have:=g2 id hid
  exact ⟨_,List.getElem?_eq_getElem (by have:=(hst j hj).len;omega)⟩
 ·obtain ⟨g1,g2⟩:=hkeepT j hj id hid
  rw [Qi (hst j hj).len]
  exact ⟨g1,Qfu g2⟩
 ·rw [Qi (hst j hj).len]
  obtain ⟨o',ho'⟩:=Y3 (hs:=hs.take p) (n:=n+1) (L:=hl j) (k:=0) (m:=mm) (List.getElem?_eq_some_iff.1 ho).1
  rw [Nat.zero_add] at ho'
  exact UD (List.mem_append_right _ ho')
 ·exact Ja hend _ (qF ho)
 ·have:=hround j hj
  simp only [zU,← Qi (hst j hj).len] at this
  exact this
structure FnD (P:Program) (f:FuncId) (az:List AV) (h0:Nat→Option AObj) (v:AV) (h1:Nat→Option AObj):Prop where
 enter:∀ vs w,(callFunc f vs).run P w=.ok (.enter f vs) w
 calls:∀ (y:Value) (J:JJ),J.Stable→∀ (own:Own) (w:World) (ρ:Nat→Value) (vs:Array Value),Hp J y h0 0 own w ρ→vs.size=az.length →
  (∀ i c,az[i]?=some c→ARel w (okB w own ρ h0) ρ y c (vs.getD i undef)) →
  CallsDIn (W none) 0 P f vs .returning w fun e u w'=>u=.returning∧∃ v' own' ρ',e=.returned v'∧Hp J y h1 0 own' w' ρ'∧ARel w' (okB w' own' ρ' h1) ρ' y v v'∧Ext (fun b=>own.prv b∨∃ i o,h0 i=some o∧blk (ρ i)=some b) w w' ∧
   (∀ b,own'.prv b→own.prv b∨w.heap.size≤b)∧own'=own∧(∀ i o,h0 i=some o→ρ' i=ρ i)∧(∀ i o b,h1 i=some o→blk (ρ' i)=some b→w.heap.size≤b∨∃ k o',h0 k=some o'∧blk (ρ k)=some b)
def Qgv (Γ:Tys) (fn:Func) (Q:St→AV→Prop):Exit→St→Prop
 |.normal,S=>S.d=[]∧WU Γ S fn.results.toList fun vs=>Q S (Yy vs)
 |.ret,S=>S.d=[]∧WU Γ S fn.results.toList fun vs=>Q S (Yy vs)
 |_,_=>False
theorem FnD.of {Γ:Tys} {f:FuncId} {fn:Func} {c:Code} (hd:FnData P Γ f fn c) {az:List AV} {n0:Nat} {h0:Nat→Option AObj} {v:AV} {h1:Nat→Option AObj}
  (has:az.length≤fn.ntmps) (hids:∀ a ∈ az,∀ id ∈ a.ids,id < n0) (hh0:∀ i o,h0 i=some o→i < n0∧∀ id ∈ o.ids,id < n0)
  (hs:Sym (fun F=>F.r=none) P c (qX az n0 h0) (Qgv Γ fn fun S rv=>Fin S rv v n0 h1 0)):FnD P f az h0 v h1:=by
 refine ⟨hd.enter,fun y J hJ own w ρ vs hp hsz hrel=>?_⟩
 let F:Frm:={ r:=none,y,J,stable:=hJ,w0:=w,ρ0:=ρ,H0:=h0,own0:=own,n0,nt:=fn.ntmps,pinn:=fun i o h=>(hh0 i o h).1,recs:=fun _ h=>by cases h }
 have hlen:vs.size≤fn.ntmps:=by omega
 let a:Act:={ tmps:=vs++Array.replicate (fn.ntmps - vs.size) undef,defers:=[] }
 have hg:Gam F (qX az n0 h0) a w:=by
  refine ⟨ρ,own,hp.jay,fun t=>?_,hp.obj,hp.inj,fun i o b hi hb=>⟨hp.off i o b hi hb,.inr ⟨i,o,hi,hb⟩⟩,fun id hid=>⟨?_,fun t hm=>?_,fun i o hi hm=>?_,by simp [qX]⟩,Nat.le_refl _,rfl,by simp [a,F];omega,fun _ _ _=>rfl,Ext.refl _ _,fun b hb=>.inl hb,fun _=>rfl,.nil⟩
  ·show ARel w _ ρ y (asg (Ro 0 az) t) _
   rw [Q4 0 az 0 t (Nat.zero_le _),Nat.sub_zero]
   cases hc:az[t]? with
   |none=>exact .junk
   |some c =>
    have ht:t < vs.size:=by rw [hsz];exact (List.getElem?_eq_some_iff.1 hc).1
    have e:a.tmps.getD t undef=vs.getD t undef:=by simp [a,Array.getElem?_append,ht]
    rw [e];exact hrel t c hc
  ·show h0 id=none
   cases ho:h0 id with
   |none=>rfl
   |some o=>have:=(hh0 id o ho).1;have:n0≤id:=hid;omega
  ·simp only [qX] at hm
   rw [Q4 0 az 0 t (Nat.zero_le _),Nat.sub_zero] at hm
   cases hc:az[t]? with
   |none=>rw [hc] at hm;simp [AV.ids] at hm
   |some c=>rw [hc] at hm;have:=hids c (List.mem_of_getElem? hc) id hm;have:n0≤id:=hid;omega
  ·have:=(hh0 i o hi).2 id hm;have:n0≤id:=hid;omega
 have hbody:=hs F rfl hd.dst a w hg
 have hlv:∀ S' (a':Act) w',Gam F S' a' w'→(S'.d=[]∧WU Γ S' fn.results.toList fun vs=>Fin S' (Yy vs) v n0 h1 0)→a'.defers=[]∧∃ v',(results fn a'.tmps).run P w'=.ok v' w'∧∃ v'' own' ρ',Ending.returned v'=.returned v''∧Hp J y h1 0 own' w' ρ'∧ARel w' (okB w' own' ρ' h1) ρ' y v v''∧Ext (fun b=>own.prv b∨∃ i o,h0 i=some o∧blk (ρ i)=some b) w w' ∧
   (∀ b,own'.prv b→own.prv b∨w.heap.size≤b)∧own'=own∧(∀ i o,h0 i=some o→ρ' i=ρ i)∧(∀ i o b,h1 i=some o→blk (ρ' i)=some b→w.heap.size≤b∨∃ k o',h0 k=some o'∧blk (ρ k)=some b):=by
  rintro S' a' w' ⟨ρ2,own2,H2⟩ ⟨hd0,hres⟩
  have hdf:=H2.defs
  rw [hd0] at hdf
  have hnil:a'.defers=[]:=by
   generalize a'.defers=l at hdf
   cases hdf;rfl
  obtain ⟨avs,v',hQ,hrun,hrv⟩:=Ym hd.ok H2 hres
  obtain ⟨ρ3,hp3,hv3,hpin3,hbl3⟩:=QfM H2 hQ fun i o hi=>(hh0 i o hi).1
  obtain ⟨_,_,_,_,_,_,_,hj3⟩:=hQ
  exact ⟨hnil,v',hrun,v',own2,ρ3,rfl,hp3,hv3 _ hrv,H2.ext,H2.ownsub,H2.still hj3,hpin3,hbl3⟩
 refine callsDIn_of_wp hd.func hd.body trivial (wpIn_mono hbody ?_)
 rintro e a' w' ⟨S',hk,hg'⟩
 cases e with
 |normal=>exact hlv S' a' w' hg' hk
 |ret=>exact hlv S' a' w' hg' hk
 |_=>exact hk.elim
def dfE (f0:FuncId) (spec:St→List AV→Option Pk):kR:=fun f caps S K=>f=f0∧match spec S caps with
 |none=>False
 |some q=>q.ok S caps∧K (S.app none (q.eff S))
theorem QgZ {f0:FuncId} {spec:St→List AV→Option Pk} (hf:∀ S bs q,spec S bs=some q→q.pre→FnD P f0 q.ar (qc (qD 0 q.L0)) q.v (qc (zm 0 q.L1))):kR.OK A P (dfE f0 spec):=by
 rintro f caps S K ⟨rfl,h⟩
 cases hq:spec S caps with
 |none=>rw [hq] at h;exact h.elim
 |some q =>
  rw [hq] at h
  simp only at h
  obtain ⟨⟨h1,h2,h3,h4,h5,h6,h7,h8,h9⟩,hK⟩:=h
  have hfn:=hf S caps q hq h1
  refine ⟨hfn.enter,fun F hF a w ρ own H vs hsz hrel=>?_⟩
  have hS:Wf S:=H.fresh
  rw [q.eff_eq S h6] at hK
  obtain ⟨g1,g2⟩:=ZN h3
  have hlen:q.hs.length+(q.L1.length - q.hs.length)=q.L1.length:=by omega
  have get1:∀ i o,qc (zm 0 q.L1) i=some o→q.L1[i]?=some (some o):=fun i o hi=>by
   rw [xP,if_neg (by omega),Nat.sub_zero] at hi
   cases hh:q.L1[i]? with
   |none=>rw [hh] at hi;cases hi
   |some x=>rw [hh] at hi;simp only [Option.join_some] at hi;rw [hi]
  have hobj:∀ i o0,qc (qD 0 q.L0) i=some o0→∃ c ob,q.hs[i]?=some c∧S.h c=some ob∧AObj.le (q.hf S) (fun j=>q.hs[j]?) ob o0:=fun i o0 hi=>by
   rw [zX,if_neg (by omega),Nat.sub_zero] at hi
   exact g2 i o0 hi
  have hdom:∀ j,j < q.hs.length→∃ o0,qc (qD 0 q.L0) j=some o0:=fun j hj=>by
   rw [zX,if_neg (by omega),Nat.sub_zero]
   exact ⟨_,List.getElem?_eq_getElem (by omega)⟩
  have hfr:∀ i ob,q.hf S i=some ob→S.h i=some ob∧i ∉ q.hs∧i ∈ q.bo:=fun i ob hi=>by
   unfold Pk.hf at hi
   by_cases hm:i ∈ q.bo
   ·rw [if_pos hm] at hi;exact ⟨hi,(xh h5 i hm).2,hm⟩
   ·rw [if_neg hm] at hi;cases hi
  have hdr:(bif q.fl then [] else q.bo)=q.bo∨((bif q.fl then [] else q.bo)=[]∧q.v.flat∧∀ i ob,qc (zm 0 q.L1) i=some ob→ob.flat):=by
   cases hfl:q.fl with
   |false=>exact .inl rfl
   |true =>
    obtain ⟨e1,e2⟩:=h9 hfl
    exact .inr ⟨rfl,e1,fun i ob hi=>Z5 e2 i ob (get1 i ob hi)⟩
  have hh1:∀ i ob,qc (zm 0 q.L1) i=some ob→i < q.hs.length+(q.L1.length - q.hs.length)∧∀ id ∈ ob.ids,id < q.hs.length+(q.L1.length - q.hs.length):=fun i ob hi=>by
   rw [hlen]
   have:=get1 i ob hi
   exact ⟨(List.getElem?_eq_some_iff.1 this).1,Zl h8 i ob this⟩
  obtain ⟨_,_,_,hN⟩:=Vx (dj:=0) hS h2 hobj hdom h4 hfr (xh h5) hdr (by rw [hlen];exact h7) hh1
  obtain ⟨c1,c2,c3,c4⟩:=Ye (dj:=0) hS h2 hobj hdom h4 hfr (xh h5) hdr (by rw [hlen];exact h7) hh1 H (fun h=>absurd rfl h) (fun _ _=>rfl) (fun id hid=>⟨hS id (hN id hid),Nat.le_trans H.nle (hN id hid)⟩) hsz hrel (dst:=none) (fun _ h=>by cases h)
  have hcalls:=hfn.calls F.y (Jc F.J S.j (vk S q.hs q.bo ρ) w) (Jc.stable F.stable _ _ _) _ w (qP q.hs ρ) vs c1 c2 c3
  refine CallsDIn.mono hcalls ?_
  rintro e u w' ⟨rfl,v',ownc',ρc',rfl,q1,q2,q3,q4,q7,q5,q6⟩
  obtain ⟨ρ',own',HH⟩:=c4 v' w' ownc' ρc' q1 q2 q3 q4 (fun _=>q7) q5 q6
  refine ⟨v',_,rfl,rfl,hK,ρ',own', ?_⟩
  simpa [Act.put] using HH
end Go.Sym
namespace Go.Sym
open Go
variable {A : Frm → Prop} {P : Program}
theorem Qip (hAr:∀ F,A F→F.r=none) {ops:Array Oper} {o:Oper} {S:St} (hS:Wf S) (hw:Want ops o S) {g:Operand} {tys:Array TypeId} (ho:o.op=.defer { callee:=.value g,args:=#[],argTypes:=tys }) {f:FuncId} {caps:List AV} (hg:ev S g=.clo f caps) :
  VE A P ops o { av:=.junk,n:=S.n,dd:=[.call f caps] } S:=by
 have hids:∀ id ∈ AV.idsL caps,id < S.n:=fun id hid=>jO hS g id (by rw [hg];exact hid)
 refine ⟨fun F hF hds S2 a w hag hfr2 ⟨ρ,own,H⟩=>?_,fun id hid=>hids id (by simpa [Eff.ids,AV.ids,zK,ADf.ids] using hid),by simp⟩
 rw [wy hw hag H,if_pos rfl]
 have hgv:=qL H g
 rw [hag.ev (x:=g) (by simp [ho,Op.operands,Call.operands]),hg] at hgv
 generalize hgv':a.eval g=gv at hgv
 cases hgv with
 |@clo _ _ cvs hcs hcr =>
  have hexec:(execOp a.eval o).run P w=.ok (.defer ⟨.fn (.func f) cvs,#[]⟩) w:=by
   simp [execOp,ho,resolve,Deferred.ofValue,hgv']
  refine ⟨kg o a w F.r, ?_⟩
  rw [hAr F hF]
  show o.uponIn _ _ _ _ _ _ ((execOp a.eval o).run P w)
  rw [hexec,Oper.uponIn_defer]
  have:=H.app (dst:=o.dst) (e:={ av:=.junk,n:=S.n,dd:=[.call f caps] }) (w':=w) (ρ':=ρ) (own':=own) (v':=undef) (ds:=[⟨.fn (.func f) cvs,#[]⟩]) (yQ hds) H.jay (Ext.refl _ _) (.inl rfl) (by simp) (fun _ _=>rfl) (by simp) .junk
   (fun i o hi _=>by simp [Eff.keys] at hi) (fun i k o o' b hi=>by simp [Eff.keys] at hi)
   (fun id hid=>Nat.lt_of_lt_of_le (hids id (by simpa [Eff.ids,AV.ids,zK,ADf.ids] using hid)) (Nat.le_max_right _ _)) (.cons (.call hcs hcr) .nil)
  refine ⟨ρ,own, ?_⟩
  have e:({ a with defers:=({ target:=.fn (.func f) cvs,args:=#[] }:Deferred) :: a.defers }:Act).put o.dst undef={ (a.put o.dst undef) with defers:=[⟨.fn (.func f) cvs,#[]⟩]++a.defers }:=by
   cases o.dst <;> rfl
  rw [e]
  exact this
theorem Qas {ops:Array Oper} {K:St→List Eff→Prop} {o:Oper}:∀ (l:List Oper) (S:St) (es:List Eff),Run A P ops l S es (fun S' es'=>∃ e,VE A P ops o e S'∧K (S'.app o.dst e) (e :: es'))→Run A P ops (l++[o]) S es K
 |[],_,_,h=>h
 |_ :: l,_,_,⟨e,hv,hr⟩=>⟨e,hv,Qas l _ _ hr⟩
theorem QaN (hAr:∀ F,A F→F.r=none) {Γ:Tys} {Φ:Ctr} (hE:Env A P Γ Φ) {id:Nat} {ops:Array Oper} {S:St} {K:Exit→St→Prop} {o:Oper} {g:Operand} {tys:Array TypeId} (hl:ops.toList=ops.toList.dropLast++[o])
  (ho:o.op=.defer { callee:=.value g,args:=#[],argTypes:=tys }) (hgd:o.guard=none)
  (h:∀ Q:St→Prop,(∀ S' f caps,ev S' g=.clo f caps→K .normal { t:=put S'.t o.dst .junk,h:=S'.h,n:=S'.n,j:=S'.j,d:=.call f caps :: S'.d,m:=S'.m }→Q S')→Zq Γ Φ ops false Q ops.toList.dropLast S []):Sym A P (.region id ops false) S K:=fun F hF hd a w hg=>by
 refine Y9 (A:=A) ?_ F hF hd a w hg
 rw [hl]
 have hr:=vW (A:=A) (P:=P) hE.tys hE.ctr ops.toList.dropLast S [] hg.wf (h (fun S'=>∃ f caps,ev S' g=.clo f caps∧K .normal { t:=put S'.t o.dst .junk,h:=S'.h,n:=S'.n,j:=S'.j,d:=.call f caps :: S'.d,m:=S'.m }) fun S' f caps h1 h2=>⟨f,caps,h1,h2⟩)
 have hwf:Run A P ops ops.toList.dropLast S [] fun S' _=>Wf S'∧∃ f caps,ev S' g=.clo f caps∧K .normal { t:=put S'.t o.dst .junk,h:=S'.h,n:=S'.n,j:=S'.j,d:=.call f caps :: S'.d,m:=S'.m }:=by
  have key:∀ (l:List Oper) (S:St) (es:List Eff),Wf S→Run A P ops l S es (fun S' es'=>(false=true→kw ops es'.reverse=true)∧∃ f caps,ev S' g=.clo f caps∧K .normal { t:=put S'.t o.dst .junk,h:=S'.h,n:=S'.n,j:=S'.j,d:=.call f caps :: S'.d,m:=S'.m }) →
    Run A P ops l S es fun S' _=>Wf S'∧∃ f caps,ev S' g=.clo f caps∧K .normal { t:=put S'.t o.dst .junk,h:=S'.h,n:=S'.n,j:=S'.j,d:=.call f caps :: S'.d,m:=S'.m }:=by
   intro l
   induction l with
   |nil=>intro S es hS h;exact ⟨hS,h.2⟩
   |cons o1 l ih=>rintro S es hS ⟨e,hv,hr⟩;exact ⟨e,hv,ih _ _ (hS.app hv.ids) hr⟩
  exact key _ _ _ hg.wf hr
 refine Qas _ _ _ (Qf (fun S' es' h=>?_) _ _ _ hwf)
 obtain ⟨hS',f,caps,h1,h2⟩:=h
 refine ⟨_,Qip hAr hS' (.inl hgd) ho h1, ?_⟩
 have e:S'.app o.dst { av:=.junk,n:=S'.n,dd:=[.call f caps] }={ t:=put S'.t o.dst .junk,h:=S'.h,n:=S'.n,j:=S'.j,d:=.call f caps :: S'.d,m:=S'.m }:=by
  simp [St.app,zo]
 rw [e]
 exact h2
end Go.Sym
namespace Go.Sym
open Go
variable {A : Frm → Prop} {P : Program}
theorem KS {h:Nat→Option AObj}:∀ {ps:List (Nat × Option AObj)},(∀ p ∈ ps,h p.1=p.2)→zo h ps=h
 |[],_=>rfl
 |p :: ps,hs=>by
  have e:upd h p.1 p.2=h:=by
   funext i
   by_cases hi:i=p.1
   ·subst hi;rw [upd_same];exact (hs p List.mem_cons_self).symm
   ·rw [upd_ne _ _ _ _ hi]
  rw [zo,e,KS fun q hq=>hs q (List.mem_cons_of_mem _ hq)]
theorem VE.thin {ops:Array Oper} {o:Oper} {e:Eff} {S:St} (h:VE A P ops o e S) (hs:∀ p ∈ e.hw,p.1 ∈ e.hr∧S.h p.1=p.2):VE A P ops o { e with hw:=[] } S:=by
 refine ⟨fun F hF hd S2 a w hag hfr hg=>?_,fun id hid=>h.ids id ?_,h.news⟩
 ·have:=h.valid F hF hd S2 a w ⟨hag.1,hag.2.1,hag.2.2⟩ hfr hg
  have e1:S2.app o.dst { e with hw:=[] }=S2.app o.dst e:=by
   simp only [St.app]
   rw [KS (h:=S2.h) (ps:=e.hw) fun p hp=>by rw [hag.2.1 _ (hs p hp).1];exact (hs p hp).2]
   rfl
  rw [e1]
  exact this
 ·simp only [Eff.ids,zK,List.append_nil,List.mem_append] at hid ⊢
  rcases hid with hid|hid
  ·exact .inl (.inl hid)
  ·exact .inr hid
def Qfw (S:St) (τ:Nat→Nat):List Nat→List (Option AObj)→Prop
 |[],[]=>True
 |c :: cs,some o :: os=>S.h c=some (o.ren τ)∧Qfw S τ cs os
 |_,_=>False
theorem Qaz {S:St} {τ:Nat→Nat}:∀ {cs:List Nat} {os:List (Option AObj)},Qfw S τ cs os→cs.length=os.length∧∀ (i:Nat) (o:Option AObj),os[i]?=some o→∃ c,cs[i]?=some c∧S.h c=o.map (AObj.ren τ)
 |[],[],_=>by simp
 |c :: cs,some o :: os,h=>by
  obtain ⟨h1,h2⟩:=h
  obtain ⟨g1,g2⟩:=Qaz h2
  refine ⟨by simp [g1],fun i o' ho=>?_⟩
  cases i with
  |zero=>cases ho;exact ⟨c,rfl,h1⟩
  |succ i=>simpa using g2 i o' (by simpa using ho)
 |[],_ :: _,h=>h.elim
 |_ :: _,[],h=>h.elim
 |_ :: _,none :: _,h=>h.elim
def fnQ (spec:St→List AV→Option Pk) (S:St) (bs:List AV):Ans:=match spec S bs with
 |none=>bad
 |some q=>(q.ok S bs∧q.bo=[]∧Qfw S (qo q.hs S.n) q.hs q.L1,{ av:=q.v.ren (qo q.hs S.n),hr:=q.hs,n:=S.n })
theorem QlM {f:FuncId} {spec:St→List AV→Option Pk} (hf:∀ S bs q,spec S bs=some q→q.pre→Fn noB P f q.ar (qc (qD 0 q.L0)) q.v (qc (zm 0 q.L1)) 0):qm A P f (fnQ spec):=by
 intro S bs h hS ops o g args tys caps hw ho hg hb
 unfold fnQ at h ⊢
 cases hq:spec S bs with
 |none=>rw [hq] at h;exact h.elim
 |some q =>
  rw [hq] at h
  simp only at h ⊢
  obtain ⟨h1,h2,h3⟩:=h
  obtain ⟨g1,g2⟩:=Qaz h3
  have hv:=XQ (A:=A) hf (S:=S) (bs:=bs) (by unfold fnE;rw [hq];exact h1) hS hw ho hg hb
  unfold fnE at hv
  rw [hq] at hv
  simp only at hv
  have e:({ q.eff S with hw:=[] }:Eff)={ av:=q.v.ren (qo q.hs S.n),hr:=q.hs,n:=S.n }:=by
   simp only [Pk.eff,h2,List.append_nil,g1,Nat.sub_self,Nat.add_zero,Vz]
  rw [← e]
  refine hv.thin fun p hp=>?_
  have hd:q9 (bif q.fl then [] else q.bo)=[]:=by rw [h2];cases q.fl <;> rfl
  simp only [Pk.eff,hd,List.append_nil] at hp ⊢
  rw [RG] at hp
  obtain ⟨j,hj,rfl⟩:=List.mem_map.1 hp
  rw [List.mem_range] at hj
  obtain ⟨x,hx⟩:∃ x,q.L1[j]?=some x:=⟨_,List.getElem?_eq_getElem hj⟩
  obtain ⟨c,hc,hSc⟩:=g2 j x hx
  have hr:qo q.hs S.n (0+j)=c:=by rw [Nat.zero_add];simp only [qo,hc]
  simp only [hr,hx,Option.join_some]
  exact ⟨List.mem_append_left _ (List.mem_of_getElem? hc),hSc⟩
end Go.Sym
namespace Go.Sym
open Go Go.RowKit
variable {P : Program}
def own0:Own:=⟨fun _=>False,fun _=>False,fun _ h=>h⟩
def JD:Nat→Value:=fun _=>undef
def okW (w:World):Nat→Prop:=okB w own0 JD noH
theorem QhV {w:World} {b:Nat} (h:b < w.heap.size):okW w b:=⟨h,fun h=>h,fun i o h=>by cases h⟩
theorem law_calls {f:FuncId} {az:List AV} (hf:FnV P f az (.v (.bool true))) (w:World) (vs:Array Value) (hs:vs.size=az.length)
  (ha:∀ i c,az[i]?=some c→ARel w (okW w) JD undef c (vs.getD i undef)):Calls P f vs w fun e w'=>e=.returned (.bool true)∧Below w.heap.size w w':=by
 refine WL (hf.calls undef (fun _ own _=>∀ b,¬ own.all b) (fun j own w h=>⟨fun b hb=>absurd hb (h b),fun _ _=>h⟩) own0 w JD vs trivial ⟨fun b h=>h,fun i o h=>(by cases h),fun i k o o' b h=>(by cases h),fun i o b h=>(by cases h)⟩ hs ha) ?_
 rintro e w' ⟨v',own',ρ',rfl,_,hr,hx,_,_,_,_⟩
 refine ⟨?_,hx.os,hx.tape,hx.output,hx.size,fun k hk=>hx.block k hk ?_⟩
 ·cases hr with
  |v _=>rfl
 ·rintro (h|⟨i,o,h,_⟩)
  ·exact h
  ·cases h
end Go.Sym
namespace Go.Sym
open Go Go.RowKit
variable {P : Program}
inductive Sp where
 |int (k:IntKind)
 |bool
 |sl (es:List Sp)
inductive Fl (P:Program):TypeId→List Sp→Prop
 |int {t:TypeId} {k:IntKind}:P.underlying t=some (.int k)→Fl P t [.int k]
 |bool {t:TypeId}:P.underlying t=some .bool→Fl P t [.bool]
 |sl {t e:TypeId} {es:List Sp}:P.underlying t=some (.slice e)→P.cellsOf e=es.length→0 < es.length→Fl P e es→Fl P t [.sl es]
 |struct {t:TypeId} {fs:Array Field} {L:List (List Sp)}:P.underlying t=some (.struct fs)→P.cellsOf t=L.flatten.length→L.length=fs.size →
   (∀ (i:Nat) (f:Field) (l:List Sp),fs[i]?=some f→L[i]?=some l→Fl P f.type l) →
   (∀ (i:Nat) (f:Field) (l:List Sp),fs[i]?=some f→L[i]?=some l→f.offset=(L.take i).flatten.length∧P.cellsOf f.type=l.length)→Fl P t L.flatten
inductive D1:Sp→DV→Prop
 |int {k:IntKind} {n:Int}:(Lit.int k n).wf=true→D1 (.int k) (.v (.int k n))
 |bool {b:Bool}:D1 .bool (.v (.bool b))
 |sl {es:List Sp} {xs:List (List DV)}:(∀ r ∈ xs,r.length=es.length)→(∀ r ∈ xs,∀ (j:Nat) (s:Sp) (d:DV),es[j]?=some s→r[j]?=some d→D1 s d)→xs.length≤maxLen→D1 (.sl es) (.sl xs)
structure DRow (w:World) (sps:List Sp) (ds:List DV) (cs:List Value):Prop where
 len:ds.length=sps.length
 clen:cs.length=sps.length
 shape:∀ (j:Nat) (s:Sp) (d:DV),sps[j]?=some s→ds[j]?=some d→D1 s d
 rel:∀ (j:Nat) (d:DV) (v:Value),ds[j]?=some d→cs[j]?=some v→DRel w (okW w) d v
theorem DRow.one {w:World} {s:Sp} {d:DV} {v:Value} (h:D1 s d) (hr:DRel w (okW w) d v):DRow w [s] [d] [v] :=
 ⟨rfl,rfl,fun j s' d' hs hd=>by
  cases j with
  |zero=>cases hs;cases hd;exact h
  |succ j=>simp at hs,fun j d' v' hd hv=>by
  cases j with
  |zero=>cases hd;cases hv;exact hr
  |succ j=>simp at hd⟩
theorem vP {α:Type}:∀ {L:List (List α)} {q:Nat} {a:α},L.flatten[q]?=some a→∃ i l,L[i]?=some l∧(L.take i).flatten.length≤q∧l[q - (L.take i).flatten.length]?=some a
 |[],q,a,h=>by simp at h
 |x :: L,q,a,h=>by
  rw [List.flatten_cons] at h
  by_cases hq:q < x.length
  ·rw [List.getElem?_append_left hq] at h
   exact ⟨0,x,rfl,by simp,by simpa using h⟩
  ·rw [List.getElem?_append_right (by omega)] at h
   obtain ⟨i,l,h1,h2,h3⟩:=vP h
   refine ⟨i+1,l,by simpa using h1, ?_, ?_⟩
   ·rw [List.take_succ_cons,List.flatten_cons,List.length_append];omega
   ·rw [List.take_succ_cons,List.flatten_cons,List.length_append,show q - (x.length+(L.take i).flatten.length)=q - x.length - (L.take i).flatten.length by omega];exact h3
theorem Xc {α:Type} {L:List (List α)} {i j:Nat} {l:List α} (h:L[i]?=some l) (hj:j < l.length):L.flatten[(L.take i).flatten.length+j]?=l[j]?:=by
 have hlt:=(List.getElem?_eq_some_iff.1 h).1
 have:L.flatten=(L.take i).flatten++(L.drop i).flatten:=by rw [← List.flatten_append,List.take_append_drop]
 rw [this,List.getElem?_append_right (by omega),List.drop_eq_getElem_cons hlt,List.flatten_cons]
 rw [List.getElem?_eq_getElem hlt] at h
 cases h
 rw [show (L.take i).flatten.length+j - (L.take i).flatten.length=j by omega,List.getElem?_append_left hj]
theorem xc {α:Type} {p:Nat→α→Prop}:∀ (n:Nat),(∀ i,i < n→∃ a,p i a)→∃ l:List α,l.length=n∧∀ (i:Nat) (a:α),l[i]?=some a→p i a
 |0,_=>⟨[],rfl,by simp⟩
 |n+1,h=>by
  obtain ⟨l,hl,hp⟩:=xc n fun i hi=>h i (by omega)
  obtain ⟨a,ha⟩:=h n (by omega)
  refine ⟨l++[a],by simp [hl],fun i b hb=>?_⟩
  by_cases hi:i < l.length
  ·rw [List.getElem?_append_left hi] at hb;exact hp i b hb
  ·rw [List.getElem?_append_right (by omega)] at hb
   have:i - l.length=0:=by
    have:=(List.getElem?_eq_some_iff.1 hb).1
    simp at this;omega
   rw [this] at hb
   simp only [List.getElem?_cons_zero,Option.some.injEq] at hb
   subst hb
   rw [show i=n by omega]
   exact ha
theorem Vl {w:World} {a:Addr} {v:Value} (h:w.cell? a=some v):a.block < w.heap.size:=by
 rcases Nat.lt_or_ge a.block w.heap.size with h6|h6
 ·exact h6
 ·simp [World.cell?,Array.getElem?_eq_none h6] at h
theorem ZV {H:Type} {enc:TypeId × Value→H} {w:World} {base:Nat} {spare:Nat→Bool} {held:Bool} {t:TypeId} {sps:List Sp} (hf:Fl P t sps) :
  ∀ {fuel:Nat} {cs:List Value} {x:DataW H × List MemPlace},DataW.trod enc P w base spare held fuel t cs=some x→∃ ds,DRow w sps ds cs:=by
 induction hf with
 |@int t k ht =>
  intro fuel cs x h
  cases fuel with
  |zero=>simp [DataW.trod] at h
  |succ n =>
   unfold DataW.trod at h
   rw [ht] at h
   split at h <;> simp_all
   exact ⟨_,.one (.int h.1.2) (.v rfl)⟩
 |@bool t ht =>
  intro fuel cs x h
  cases fuel with
  |zero=>simp [DataW.trod] at h
  |succ n =>
   unfold DataW.trod at h
   rw [ht] at h
   split at h <;> simp_all
   exact ⟨_,.one .bool (.v rfl)⟩
 |@sl t e es ht hce hpos hfe ih =>
  intro fuel cs x h
  rcases DataW.trod_slice ht h with ⟨rfl,_⟩|⟨a,len,cap,elems,rest,n,_,rfl,_,hb,hl,hm,hlen,hel,_,_⟩
  ·exact ⟨_,.one (.sl (xs:=[]) (by simp) (by simp) (Nat.zero_le _)) (.sl0 (Nat.zero_le _))⟩
  ·obtain ⟨rows,hrl,hrow⟩:=xc (p:=fun i (r:List DV × List Value)=>DRow w es r.1 r.2∧∀ j,j < es.length→w.cell? (a.add (i * es.length+j))=r.2[j]?) len fun i hi=>by
    have h1:=hel i hi
    rw [List.getElem?_eq_getElem (by omega)] at h1
    obtain ⟨cs',hc,ht'⟩:=Option.bind_eq_some_iff.1 h1
    obtain ⟨ds,hd⟩:=ih ht'
    refine ⟨(ds,cs'),hd,fun j hj=>?_⟩
    rw [hce] at hc
    have:=(World.cells?_some hc).2.2 j hj
    rwa [add_add'] at this
   have get:∀ (i:Nat) (r:List DV),(rows.map (·.1))[i]?=some r→∃ q,rows[i]?=some q∧q.1=r:=fun i r hr=>by
    rw [List.getElem?_map] at hr
    exact Option.map_eq_some_iff.1 hr
   have hrowl:∀ r ∈ rows.map (·.1),r.length=es.length:=fun r hr=>by
    obtain ⟨i,hi⟩:=List.getElem?_of_mem hr
    obtain ⟨q,hq,rfl⟩:=get i r hi
    exact (hrow i q hq).1.len
   refine ⟨[.sl (rows.map (·.1))],.one (.sl hrowl (fun r hr j s d hs hd=>?_) (by simp [hrl];omega)) ?_⟩
   ·obtain ⟨i,hi⟩:=List.getElem?_of_mem hr
    obtain ⟨q,hq,rfl⟩:=get i r hi
    exact (hrow i q hq).1.shape j s d hs hd
   ·rcases Nat.eq_zero_or_pos len with rfl|hp
    ·have:rows=[]:=List.length_eq_zero_iff.1 hrl
     subst this
     exact .sl0 hm
    ·have cell:∀ (i:Nat) (r:List DV) (j:Nat) (d:DV),(rows.map (·.1))[i]?=some r→r[j]?=some d→∃ v,w.cell? (a.add (i * es.length+j))=some v∧DRel w (okW w) d v:=fun i r j d hr hd=>by
      obtain ⟨q,hq,rfl⟩:=get i r hr
      obtain ⟨hR,hc⟩:=hrow i q hq
      have hj:j < es.length:=by rw [← hR.len];exact (List.getElem?_eq_some_iff.1 hd).1
      have h1:=hc j hj
      have hj2:j < q.2.length:=by rw [hR.clen];exact hj
      exact ⟨q.2[j],by rw [h1,List.getElem?_eq_getElem hj2],hR.rel j d _ hd (List.getElem?_eq_getElem hj2)⟩
     have hblk:a.block < w.heap.size:=by
      have h0:0 < rows.length:=by omega
      obtain ⟨hR,hc⟩:=hrow 0 _ (List.getElem?_eq_getElem h0)
      have h1:=hc 0 hpos
      have hj2:0 < rows[0].2.length:=by rw [hR.clen];exact hpos
      rw [List.getElem?_eq_getElem hj2] at h1
      have:=Vl h1
      rwa [block_add] at this
     refine .sl (k:=es.length) (fun i j=>(w.cell? (a.add (i * es.length+j))).getD undef) (by simp [hrl]) hp hl hm hpos (fun i r hr=>hrowl r (List.mem_of_getElem? hr)) (fun i r j d hr hd=>?_) (fun i r j d hr hd=>?_) (QhV hblk)
     ·obtain ⟨v,hv,_⟩:=cell i r j d hr hd
      rw [hv];rfl
     ·obtain ⟨v,hv,hd⟩:=cell i r j d hr hd
      rw [hv];exact hd
 |@struct t fs L ht hct hL _ hoff ih =>
  intro fuel cs x h
  obtain ⟨xs,n,_,_,hcl,hxl,hx⟩:=DataW.trod_struct ht h
  have hlen:cs.length=L.flatten.length:=by rw [hcl,hct]
  obtain ⟨dss,hdl,hds⟩:=xc (p:=fun i (d:List DV)=>∀ l,L[i]?=some l→DRow w l d ((cs.drop (L.take i).flatten.length).take l.length)) L.length fun i hi=>by
   have hfi:i < fs.size:=by omega
   obtain ⟨h1,h2⟩:=hoff i _ _ (Array.getElem?_eq_getElem hfi) (List.getElem?_eq_getElem hi)
   have h3:=hx i _ (Array.getElem?_eq_getElem hfi)
   rw [List.getElem?_eq_getElem (by omega),h1,h2] at h3
   obtain ⟨ds,hd⟩:=ih i _ _ (Array.getElem?_eq_getElem hfi) (List.getElem?_eq_getElem hi) h3
   refine ⟨ds,fun l hl=>?_⟩
   rw [List.getElem?_eq_getElem hi] at hl
   cases hl
   exact hd
  have hlens:∀ (i:Nat) (d:List DV) (l:List Sp),dss[i]?=some d→L[i]?=some l→d.length=l.length:=fun i d l hd hl=>(hds i d hd l hl).len
  have htake:∀ i,i≤L.length→(dss.take i).flatten.length=(L.take i).flatten.length:=by
   intro i
   induction i with
   |zero=>intro _;rfl
   |succ i ihi =>
    intro hi
    have h1:i < dss.length:=by omega
    have h2:i < L.length:=by omega
    rw [List.take_succ_eq_append_getElem h1,List.take_succ_eq_append_getElem h2,List.flatten_append,List.flatten_append,List.length_append,List.length_append,ihi (by omega)]
    simp only [List.flatten_cons,List.flatten_nil,List.append_nil]
    rw [hlens i _ _ (List.getElem?_eq_getElem h1) (List.getElem?_eq_getElem h2)]
  have hfl:dss.flatten.length=L.flatten.length:=by
   have:=htake L.length (Nat.le_refl _)
   rwa [List.take_of_length_le (by omega),List.take_of_length_le (Nat.le_refl _)] at this
  refine ⟨dss.flatten,hfl,hlen,fun q s d hs hd=>?_,fun q d v hd hv=>?_⟩
  ·obtain ⟨i,l,h1,h2,h3⟩:=vP hs
   have hi:=(List.getElem?_eq_some_iff.1 h1).1
   have hdi:i < dss.length:=by omega
   have hR:=hds i _ (List.getElem?_eq_getElem hdi) l h1
   have hj:q - (L.take i).flatten.length < l.length:=(List.getElem?_eq_some_iff.1 h3).1
   have h4:=Xc (L:=dss) (List.getElem?_eq_getElem hdi) (j:=q - (L.take i).flatten.length) (by rw [hR.len];exact hj)
   rw [htake i (by omega),show (L.take i).flatten.length+(q - (L.take i).flatten.length)=q by omega,hd] at h4
   exact hR.shape _ s d h3 h4.symm
  ·obtain ⟨i,dl,h1,h2,h3⟩:=vP hd
   have hi:=(List.getElem?_eq_some_iff.1 h1).1
   have hLi:i < L.length:=by omega
   rw [htake i (by omega)] at h2 h3
   have hR:=hds i dl h1 _ (List.getElem?_eq_getElem hLi)
   have hj:q - (L.take i).flatten.length < L[i].length:=by rw [← hR.len];exact (List.getElem?_eq_some_iff.1 h3).1
   refine hR.rel _ d v h3 ?_
   rw [List.getElem?_take,if_pos hj,List.getElem?_drop,show (L.take i).flatten.length+(q - (L.take i).flatten.length)=q by omega]
   exact hv
theorem Qdy {α:Type} {e:α→List DV} {p:List DV→Prop}:∀ {xs:List (List DV)},(∀ r ∈ xs,∃ a,r=e a)→∃ l:List α,xs=l.map e
 |[],_=>⟨[],rfl⟩
 |r :: xs,h=>by
  obtain ⟨a,rfl⟩:=h r (by simp)
  obtain ⟨l,rfl⟩:=Qdy (p:=p) fun r hr=>h r (List.mem_cons_of_mem _ hr)
  exact ⟨a :: l,rfl⟩
end Go.Sym
namespace Go.Sym
open Go Go.RowKit
variable {P : Program}
def flB (P:Program):Nat→TypeId→Option (List Sp)
 |0,_=>none
 |n+1,t=>match P.underlying t with
  |some (.int k)=>some [.int k]
  |some .bool=>some [.bool]
  |some (.slice e)=>match flB P n e with
   |some es=>if P.cellsOf e=es.length∧0 < es.length then some [.sl es] else none
   |none=>none
  |some (.struct fs)=>match fs.toList.mapM fun f=>flB P n f.type with
   |some L=>if P.cellsOf t=L.flatten.length∧(List.range fs.size).all (fun i=>match fs[i]?,L[i]? with|some f,some l=>f.offset == (L.take i).flatten.length && P.cellsOf f.type == l.length|_,_=>false)=true then some L.flatten else none
   |none=>none
  |_=>none
theorem vF:∀ {n:Nat} {t:TypeId} {sps:List Sp},flB P n t=some sps→Fl P t sps
 |0,t,sps,h=>by simp [flB] at h
 |n+1,t,sps,h=>by
  unfold flB at h
  split at h
  ·rename_i k hu;cases h;exact .int hu
  ·rename_i hu;cases h;exact .bool hu
  ·rename_i e hu
   split at h
   ·rename_i es he
    split at h
    ·rename_i hc;cases h;exact .sl hu hc.1 hc.2 (vF he)
    ·cases h
   ·cases h
  ·rename_i fs hu
   split at h
   ·rename_i L hL
    split at h
    ·rename_i hc
     cases h
     have hlen:L.length=fs.size:=by simpa using mapM_some_length hL
     refine .struct hu hc.1 hlen (fun i f l hf hl=>?_) fun i f l hf hl=>?_
     ·have:=mapM_some_get hL i f (by simpa using hf)
      rw [hl] at this
      exact vF this
     ·have h1:=List.all_eq_true.1 hc.2 i (List.mem_range.2 (Array.getElem?_eq_some_iff.1 hf).1)
      rw [hf,hl] at h1
      simpa using h1
    ·cases h
   ·cases h
  ·cases h
def toAV:DV→AV
 |.v x=>.v x
 |.sl xs=>.sl xs
theorem Jm {w:World} {d:DV} {v:Value} {ρ:Nat→Value} {y:Value} (h:DRel w (okW w) d v):ARel w (okW w) ρ y (toAV d) v:=by
 cases h with
 |v h=>exact .v h
 |sl0 h=>exact .sl (.sl0 h)
 |sl f h1 h2 h3 h4 h5 h6 h7 h8 h9=>exact .sl (.sl f h1 h2 h3 h4 h5 h6 h7 h8 h9)
theorem DRow.agg {w:World} {sps:List Sp} {ds:List DV} {cs:Array Value} {ρ:Nat→Value} {y:Value} (h:DRow w sps ds cs.toList):ARel w (okW w) ρ y (.agg (ds.map toAV)) (.agg cs):=by
 refine .agg (by have:=h.len;have:=h.clen;simp at this ⊢;omega) fun i c hc=>?_
 rw [List.getElem?_map] at hc
 obtain ⟨d,hd,rfl⟩:=Option.map_eq_some_iff.1 hc
 have hi:=(List.getElem?_eq_some_iff.1 hd).1
 have h2:i < cs.size:=by have:=h.len;have:=h.clen;simp at this;omega
 have:=h.rel i d cs[i] hd (by simp [h2])
 simpa [h2] using Jm this
theorem DRow.one_inv {w:World} {s:Sp} {ds:List DV} {v:Value} (h:DRow w [s] ds [v]):∃ d,ds=[d]∧D1 s d∧DRel w (okW w) d v:=by
 obtain ⟨d,rfl⟩:=List.length_eq_one_iff.1 h.len
 exact ⟨d,rfl,h.shape 0 s d rfl rfl,h.rel 0 d v rfl rfl⟩
theorem D1.int_inv {k:IntKind} {d:DV} (h:D1 (.int k) d):∃ n,d=.v (.int k n)∧(Lit.int k n).wf=true:=by
 cases h with
 |int h=>exact ⟨_,rfl,h⟩
theorem D1.bool_inv {d:DV} (h:D1 .bool d):∃ b,d=.v (.bool b):=by
 cases h with
 |bool=>exact ⟨_,rfl⟩
theorem D1.sl_inv {α:Type} {es:List Sp} {d:DV} (e:α→List DV) (h:D1 (.sl es) d) (he:∀ r:List DV,r.length=es.length→(∀ (j:Nat) (s:Sp) (d:DV),es[j]?=some s→r[j]?=some d→D1 s d)→∃ a,r=e a):∃ l:List α,d=.sl (l.map e)∧l.length≤maxLen:=by
 cases h with
 |@sl _ xs h1 h2 h3 =>
  obtain ⟨l,rfl⟩:=Qdy (p:=fun _=>True) (e:=e) (xs:=xs) fun r hr=>he r (h1 r hr) (h2 r hr)
  exact ⟨l,rfl,by simpa using h3⟩
end Go.Sym
namespace Go.Sym
open Go
set_option linter.all false
variable {A : Frm → Prop} {P : Program}
section
variable {b : Frame} {a : Act} {k : List Item} {cs : List Frame} {w : World} {F : Fence} {n : Nat} {Q : Exit → Act → World → Prop}
theorem jY {c:Code}:step P (lone (b.atR a (.code (.scope c) :: k)) cs w)=.next (lone (b.atR a (.code c :: .inScope c :: k)) cs w) :=
 step_lone_go (by simp [stepG,stepG.exec,Frame.atR])
theorem VF {c:Code}:step P (lone (b.atR a (.inScope c :: k)) cs w)=.next (lone (b.atR a k) cs w) :=
 step_lone_go (by simp [stepG,stepG.exec,Frame.atR])
theorem Qcd {c:Code} (h:c.wpIn F n P (Exit.noGoto Q) a w):(Code.scope c).wpIn F n P Q a w:=by
 intro b k cs hro hb hr
 have h0:(lone (b.atR a (.code (.scope c) :: k)) cs w).fenced P F:=fenced_calm hb hr rfl
 obtain ⟨e,a₁,w₁,hq,harr⟩:=h b (.inScope c :: k) cs hro hb hr
 cases e with
 |normal=>exact ⟨.normal,a₁,w₁,hq,.head h0 jY (StepsIn.trans harr (.one (fenced_calm hb hr rfl) VF))⟩
 |exit id =>
  have hx:exitTo id (.inScope c :: k)=exitTo id k:=by simp [exitTo]
  exact ⟨_,a₁,w₁,hq,fun k' hk=>.head h0 jY (harr.1 k' (by rw [hx];exact hk)),
   fun hr' hk=>let ⟨k₁,h1,h2⟩:=harr.2 hr' (by rw [hx];exact hk);⟨k₁,h1,.head h0 jY h2⟩⟩
 |goto l=>exact hq.elim
 |ret=>exact ⟨_,a₁,w₁,hq,.of_steps (.one h0 jY) harr⟩
 |panic ch=>exact ⟨_,a₁,w₁,hq,.of_steps (.one h0 jY) harr⟩
 |outgrown=>exact ⟨_,a₁,w₁,hq,.of_steps (.one h0 jY) harr⟩
end
def Ue (K:Exit→St→Prop):Exit→St→Prop
 |.goto _,_=>False
 |.normal,S=>K .normal S
 |.exit id,S=>K (.exit id) S
 |.ret,S=>K .ret S
 |.panic c,S=>K (.panic c) S
 |.outgrown,S=>K .outgrown S
theorem zF {c:Code} {S:St} {K:Exit→St→Prop} (h:Sym A P c S (Ue K)):Sym A P (.scope c) S K:=fun F hF hd a w hg=>by
 refine Qcd (wpIn_mono (h F hF hd a w hg) ?_)
 rintro e a' w' ⟨S',hk,hg'⟩
 cases e with
 |goto l=>exact hk.elim
 |_=>exact ⟨S',hk,hg'⟩
theorem zR {K:Exit→St→Prop} {S:St} (h:K .normal S):Ue K .normal S:=h
theorem zV {K:Exit→St→Prop} {S:St} {id:Nat} (h:K (.exit id) S):Ue K (.exit id) S:=h
theorem zS {K:Exit→St→Prop} {S:St} (h:K .ret S):Ue K .ret S:=h
end Go.Sym
namespace Go.Sym
open Go
variable {P : Program}
theorem WC:∀ {ks:List (Option IntKind)} {xs:List Value},qE ks xs→∀ x ∈ xs,(∃ k n,x=.int k n)∨∃ b,x=.bool b
 |[],[],_,x,hx=>by simp at hx
 |[],_ :: _,h,_,_=>h.elim
 |some k :: ks,[],h,_,_=>h.elim
 |none :: ks,[],h,_,_=>h.elim
 |some k :: ks,y :: xs,h,x,hx=>by
  obtain ⟨⟨n,rfl⟩,h⟩:=h
  rcases List.mem_cons.1 hx with rfl|hx
  ·exact .inl ⟨k,n,rfl⟩
  ·exact WC h x hx
 |none :: ks,y :: xs,h,x,hx=>by
  obtain ⟨⟨n,rfl⟩,h⟩:=h
  rcases List.mem_cons.1 hx with rfl|hx
  ·exact .inr ⟨n,rfl⟩
  ·exact WC h x hx
theorem QdU {n:Nat} {x:Value} (h:(∃ k n,x=.int k n)∨∃ b,x=.bool b):Instr.sameBits n x x=true:=by
 rcases h with ⟨k,m,rfl⟩|⟨b,rfl⟩ <;> cases n <;> simp [Instr.sameBits]
theorem UY {n:Nat}:∀ {xs:List Value},(∀ x ∈ xs,(∃ k n,x=.int k n)∨∃ b,x=.bool b)→((xs.zip xs).all fun (x,y)=>Instr.sameBits n x y)=true
 |[],_=>rfl
 |x :: xs,h=>by
  rw [List.zip_cons_cons,List.all_cons,Bool.and_eq_true]
  exact ⟨QdU (h x List.mem_cons_self),UY fun y hy=>h y (List.mem_cons_of_mem _ hy)⟩
theorem Wz:∀ {ks:List (Option IntKind)} {xs ys:List Value},qE ks xs→qE ks ys→(yY xs ys=true ↔ ys=xs)
 |[],[],[],_,_=>by simp [yY]
 |[],[],_ :: _,_,h=>h.elim
 |[],_ :: _,_,h,_=>h.elim
 |some _ :: _,[],_,h,_=>h.elim
 |none :: _,[],_,h,_=>h.elim
 |some _ :: _,_ :: _,[],_,h=>h.elim
 |none :: _,_ :: _,[],_,h=>h.elim
 |some k :: ks,x :: xs,y :: ys,h1,h2=>by
  obtain ⟨⟨n,rfl⟩,h1⟩:=h1
  obtain ⟨⟨m,rfl⟩,h2⟩:=h2
  rw [yY,Bool.and_eq_true,Wz h1 h2]
  simp only [veq,beq_iff_eq,List.cons.injEq,Value.int.injEq,true_and]
  constructor
  ·rintro ⟨rfl,rfl⟩;exact ⟨rfl,rfl⟩
  ·rintro ⟨rfl,rfl⟩;exact ⟨rfl,rfl⟩
 |none :: ks,x :: xs,y :: ys,h1,h2=>by
  obtain ⟨⟨n,rfl⟩,h1⟩:=h1
  obtain ⟨⟨m,rfl⟩,h2⟩:=h2
  rw [yY,Bool.and_eq_true,Wz h1 h2]
  simp only [veq,beq_iff_eq,List.cons.injEq,Value.bool.injEq]
  constructor
  ·rintro ⟨rfl,rfl⟩;exact ⟨rfl,rfl⟩
  ·rintro ⟨rfl,rfl⟩;exact ⟨rfl,rfl⟩
theorem Xq {k:TypeId} {x:Value} {w:World}:∀ (es:List MapEntry) (i:Nat),(∀ e ∈ es,∃ r,(Op.equal k x e.key).run P w=.ok r w∧(r=true ↔ e.key=x)) →
  ((Instr.findAsking k x es i).run P w=.ok none w∧∀ e ∈ es,e.key ≠ x)∨∃ j e,(Instr.findAsking k x es i).run P w=.ok (some (i+j,e.val)) w∧es[j]?=some e∧e.key=x
 |[],_,_=>.inl ⟨by simp [Instr.findAsking],by simp⟩
 |e :: es,i,h=>by
  obtain ⟨r,hr,hrx⟩:=h e List.mem_cons_self
  cases r with
  |true =>
   refine .inr ⟨0,e, ?_,rfl,hrx.1 rfl⟩
   simp [Instr.findAsking,hr,Result.andThen]
  |false =>
   have hne:e.key ≠ x:=fun hh=>by simpa using hrx.2 hh
   rcases Xq es (i+1) (fun e he=>h e (List.mem_cons_of_mem _ he)) with ⟨h1,h2⟩|⟨j,e',h1,h2,h3⟩
   ·refine .inl ⟨by simp [Instr.findAsking,hr,Result.andThen,h1],fun y hy=>?_⟩
    rcases List.mem_cons.1 hy with rfl|hy
    ·exact hne
    ·exact h2 y hy
   ·refine .inr ⟨j+1,e', ?_,by simpa using h2,h3⟩
    simp [Instr.findAsking,hr,Result.andThen,h1]
    omega
theorem Ls {d:TypeDesc} {cs:Array Value} {v:Value}:Instr.sameNow d (.agg cs) v=none:=by
 cases d <;> rfl
theorem LF {k:TypeId} {ks:List (Option IntKind)} {d:TypeDesc} (hu:P.underlying k=some d)
  (he:∀ (w:World) (xs ys:List Value),qE ks xs→qE ks ys→(Op.equalIn 10000 k (.agg xs.toArray) (.agg ys.toArray)).run P w=.ok (yY xs ys) w)
  (hc:∀ (w:World) (em:Bool) (xs:List Value),qE ks xs→(Instr.checkKey em 10000 k (.agg xs.toArray)).run P w=.ok () w):MKey P k (KD.Q (.agg ks)) where
 check w em v h:=by
  cases v <;> first|exact h.elim|skip
  rename_i cs
  exact hc w em cs.toList h
 find w x hx es hes:=by
  cases x <;> first|exact hx.elim|skip
  rename_i cs
  cases es with
  |nil=>exact .inl ⟨by simp [Instr.findKey,run_underlying hu,Instr.findNow,Result.andThen],by simp⟩
  |cons e es =>
   have hfn:Instr.findNow d (.agg cs) (e :: es) 0=none:=by simp [Instr.findNow,Ls]
   have hk:(Instr.findKey k (.agg cs) (e :: es)).run P w=(Instr.findAsking k (.agg cs) (e :: es)).run P w:=by
    simp [Instr.findKey,run_underlying hu,hfn,Result.andThen]
   rw [hk]
   have:=Xq (P:=P) (k:=k) (x:=.agg cs) (w:=w) (e :: es) 0 fun e' he'=>by
    have hq:=hes e' he'
    generalize e'.key=v at hq
    cases v <;> first|exact hq.elim|skip
    rename_i cs'
    have hx':qE ks cs.toList:=hx
    have hq':qE ks cs'.toList:=hq
    refine ⟨_,he w cs.toList cs'.toList hx' hq', ?_⟩
    rw [Wz hx' hq']
    constructor
    ·intro h;rw [Array.toList_inj.1 h]
    ·intro h;injection h with h;rw [h]
   simpa using this
 stays w v h:=by
  cases v <;> first|exact h.elim|skip
  rename_i cs
  have h':qE ks cs.toList:=h
  have:Instr.sameBits 10000 (.agg cs) (.agg cs)=true:=by
   show (cs.size == cs.size && (cs.toList.zip cs.toList).all fun (x,y)=>Instr.sameBits 9999 x y)=true
   rw [UY (WC h')];simp
  simp [Instr.keyThatStays,this]
end Go.Sym
