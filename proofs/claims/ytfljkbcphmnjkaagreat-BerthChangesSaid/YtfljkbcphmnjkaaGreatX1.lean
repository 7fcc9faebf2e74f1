/- Walks and what they compute, joined: part 1. -/
import Derived.Test.YtfljkbcphmnjkaaGreatXB3
set_option linter.all false
namespace Go.Sym.B
open Go Go.Sym Go.Proofs Go.Sym.C
theorem _root_.Go.Sym.vj {a b:Prop} (x:a) (y:b):a∧b:=⟨x,y⟩
def _root_.Go.Sym.uq:=@VI
def _root_.Go.Sym.ux:=@Yh
def _root_.Go.Sym.uz:=@Xo
def _root_.Go.Sym.uj:=@Xw
def _root_.Go.Sym.uk:=@UW
def _root_.Go.Sym.uw:=@RX
def _root_.Go.Sym.uv:=@U4
def _root_.Go.Sym.vq:=@QaW
def _root_.Go.Sym.vx:=@QcL
def _root_.Go.Sym.vz:=@QfB
def Q9 (a:Ask) (l:List Bunk) (k:Nat):List Tk:=(List.range k).map fun i=>kS a i (l.getD i default)
theorem Qaa (a:Ask) (l:List Bunk) (k:Nat):Q9 a l (k+1)=Q9 a l k++[kS a k (l.getD k default)]:=by
 unfold Q9
 rw [List.range_succ,List.map_append];rfl
theorem Qc4 (a:Ask) (l:List Bunk) (k:Nat):(Q9 a l k).length=k:=by simp [Q9]
def rmT (sex frm to:Int) (b:Bunk):Tk:=⟨0,sex,b.cab,b.bed,frm,to,false⟩
def rmB (c:Chart) (sex frm to:Int) (b:Bunk):Bool:=decide (zB (rmT sex frm to b) c.sold=0)
def rmN (c:Chart) (sex frm to:Int) (j:Nat):Nat:=(((qN c.cabins).take j).filter (rmB c sex frm to)).length
theorem QaQ (c:Chart) (sex frm to:Int) {j:Nat} (h:j < (qN c.cabins).length):rmN c sex frm to (j+1)=rmN c sex frm to j+if rmB c sex frm to ((qN c.cabins).getD j default) then 1 else 0:=by
 unfold rmN
 rw [List.take_succ_eq_append_getElem h,List.filter_append,List.length_append,List.getD_eq_getElem?_getD,List.getElem?_eq_getElem h]
 show _+(List.filter _ [_]).length=_
 cases hb:rmB c sex frm to (qN c.cabins)[j] <;> simp [hb]
theorem Qgy (c:Chart) (sex frm to:Int) (j:Nat):rmN c sex frm to j≤j:=by
 unfold rmN
 exact Nat.le_trans (List.length_filter_le _ _) (by rw [List.length_take];omega)
def QcO (c:Chart) (sex frm to:Int):Nat:=rmN c sex frm to (qN c.cabins).length
def vX (c:Chart) (sex frm to:Int):Int × Int:=if zW c ≠ 0 then (0,zW c) else if inB sex 1 2=false then (0,8) else if kJ c.secs frm to ≠ 0 then (0,kJ c.secs frm to) else ((QcO c sex frm to:Int),0)
theorem QiM {cs:List Cabin} (h2:∀ x ∈ cs,1≤x.beds∧x.beds≤3):(qN cs).length≤3 * cs.length:=by
 rw [KP]
 induction cs with
 |nil=>simp [Z4]
 |cons x l ih =>
  have h3:=ih fun y hy=>h2 y (List.mem_cons_of_mem _ hy)
  have h4:=h2 x (List.mem_cons_self ..)
  simp only [Z4,List.map_cons,List.sum_cons,List.length_cons] at h3 ⊢
  omega
theorem V4 {cs:List Cabin} (h1:cs.length≤3) (h2:∀ x ∈ cs,1≤x.beds∧x.beds≤3):(qN cs).length≤9:=by
 have:=QiM h2
 omega
def rmL:List (Nat × AV):=[(5,.ptr 1 0),(6,.ptr 2 0),(7,.ptr 3 0),(12,.ptr 6 0),(13,.ptr 7 0),(33,.clo 117 [.ptr 8 0])]
def rmH (c:Chart) (sex frm to:Int) (j:Nat):List (Nat × AObj):=[(1,.cells [aI sex]),(2,.cells [aI frm]),(3,.cells [aI to]),(4,qm c.cabins c.secs 5),(5,qp c.sold),(6,.cells [.ptr 4 0]),(7,.cells [aI (rmN c sex frm to j)])]
theorem RS (cs:List Cabin) (s:Int):zh [8] 10 0 [buO cs s]=[(8,buO cs s)]:=rfl
def jW:=vj @ty3 (vj @yj (vj @Zj (vj @vU (vj @vo (vj @YL (vj @ti3.eq_1 (vj @jP.eq_1 (vj @Qy.eq_1 (vj @vF.eq_1 (vj @yK.eq_1 @Jm.eq_1))))))))))
def Qd:=vj @aI.eq_1 (vj @aB.eq_1 (vj @Q5 (@Kr)))
set_option maxHeartbeats 4000000 in
theorem QiL (c:Chart) (sex frm to:Int) (hc:c.cabins.length≤maxLen):FnV Tryz.prog 29 [qa c,aI sex,aI frm,aI to] (.tup [aI (vX c sex frm to).1,aI (vX c sex frm to).2]):=by
 have env:Env (fun F=>F.r=none) Tryz.prog tyB (tab [(76,qR true zF),(77,qR true sin),(78,qR true yn),(79,fnE jN),(80,fnE zg)]):=qL ⟨Xb,ein,eway,QbE,Uw,trivial⟩
 refine Fn.of (A:=fun F=>F.r=none) (n0:=0) (D:=noD) (Fn0 Tryz.func29 rfl (fun vs w=>by kernel_rfl) (by kernel_rfl)) (by simp) (by simp [AV.ids,AV.idsL,qa,qb,aI]) (fun i o h=>by cases h) (fun _ _ _ h=>h) qI ?_
 have ec:(⟨c.cabins,c.secs,c.sold⟩:Chart)=c:=rfl
 by_cases h0:zW c=0
 ·cases h1:inB sex 1 2 with
  |false =>
   have hr:vX c sex frm to=(0,8):=by unfold vX;rw [if_neg (fun h=>h h0),if_pos h1]
   rw [hr]
   repeat' (first|(apply nx;with_reducible constructor)|refine uq (by decide) ?_|refine zM ?_|refine wy ?_|refine wC ?_|refine wz ?_|((first|refine vx env fun Q hQ=>?_|refine vz fun Q hQ=>?_);simp only [vkt,seval,jW,Qd,qf,aTk,cTk,mTk,qd,qa,qb,qm,qp,qy,buO,rmL,rmH,zF,sin,yn,jN,zg,jd,List.length_map,ec,h0,h1,decide_true];(try simp only [ite_and]);(repeat' (first|with_reducible assumption|refine And.intro ?_ ?_|intro hp));all_goals (first|(refine hQ _ ?_;clear hQ Q)|(refine hQ _ (fun h=>?_) (fun h=>?_) <;> clear hQ Q <;> (try simp only [vki,reduceCtorEq] at h))|(refine vq ?_;kernel_rfl)|omega|assumption|with_reducible rfl|skip)))
   (simp only [vrt,Tryz.results29,vkt,seval,jW,Qd,qf,aTk,cTk,mTk,qd,qa,qb,qm,qp,qy,buO,rmL,rmH,zF,sin,yn,jN,zg,jd,List.length_map];refine Fin.val rfl ?_;(try simp only [AV.le,AV.leL]))
   all_goals first|rfl|(simp;done)
  |true =>
   obtain ⟨w,hw⟩:∃ w,kJ c.secs frm to=w:=⟨_,rfl⟩
   by_cases h2:w=0
   ·rw [h2] at hw
    have hr:vX c sex frm to=((QcO c sex frm to:Int),0):=by unfold vX;rw [if_neg (fun h=>h h0),if_neg (by rw [h1];decide),if_neg (fun h=>h hw)]
    rw [hr]
    have hv:=xR h0
    have b1:=hv.car.cabs
    have b2:=hv.many
    have b3:c.sold.length≤100000:=by omega
    have b4:c.cabins.length≤100000:=by omega
    have b5:c.sold.length≤100:=by omega
    have b6:=V4 b1.2 hv.car.beds
    repeat' (first|(apply nx;with_reducible constructor)|refine uq (by decide) ?_|refine zM ?_|refine wy ?_|refine wC ?_|refine wz ?_|((first|refine vx env fun Q hQ=>?_|refine vz fun Q hQ=>?_);simp only [vkt,seval,jW,Qd,qf,aTk,cTk,mTk,qd,qa,qb,qm,qp,qy,buO,rmL,rmH,zF,sin,yn,jN,zg,jd,List.length_map,ec,h0,h1,hw,b3,b4,decide_true];(try simp only [ite_and]);(repeat' (first|with_reducible assumption|refine And.intro ?_ ?_|intro hp));all_goals (first|(refine hQ _ ?_;clear hQ Q)|(refine hQ _ (fun h=>?_) (fun h=>?_) <;> clear hQ Q <;> (try simp only [vki,reduceCtorEq] at h))|(refine vq ?_;kernel_rfl)|omega|assumption|with_reducible rfl|skip)))
    refine kE (S':={ t:=asg rmL,h:=ql (rmH c sex frm to 0++[(8,buO c.cabins c.secs)]),n:=9,j:=0,d:=[],m:=0 }) ?_ ?_
    ·show Le _ { t:=asg [(5,.ptr 1 0),(6,.ptr 2 0),(7,.ptr 3 0),(12,.ptr 6 0),(13,.ptr 7 0),(33,.clo 117 [.ptr 8 0])],h:=ql [(1,.cells [aI sex]),(2,.cells [aI frm]),(3,.cells [aI to]),(4,qm c.cabins c.secs 5),(5,qp c.sold),(6,.cells [.ptr 4 0]),(7,.cells [aI 0]),(8,buO c.cabins c.secs)],n:=9,j:=0,d:=[],m:=0 }
     (refine Le.ok some [] ?_;constructor;all_goals (try simp only [vle,vkt,seval,jW,Qd,qf,aTk,cTk,mTk,qd,qa,qb,qm,qp,qy,buO,rmL,rmH,zF,sin,yn,jN,zg,jd,List.length_map]))
     all_goals first|rfl|(simp;done)
    rw [← RS c.cabins c.secs]
    have hRo:Rounds (fun _=>true) (qN c.cabins).length (qN c.cabins).length:=⟨Nat.le_refl _,fun _ _=>rfl,fun h=>absurd h (Nat.lt_irrefl _)⟩
    refine xC (fun F h=>h) 1 (L:=rmL) (L':=rmL) (xs:=[]) (hs:=[8]) (n:=9) (nl:=0) (hc:=rmH c sex frm to) (Lp:=[buO c.cabins c.secs]) (jj:=fun _=>0) (d:=[]) (ys:=buY c.cabins) (hl:=fun _=>[buO c.cabins c.secs]) (ans:=fun _=>true) (ex:=.ret) (caps:=[.ptr 8 0]) (caps0:=[.ptr 0 0]) (N:=(qN c.cabins).length) (R:=(qN c.cabins).length) (A':=fun _ _=>True) rfl (Xi c.cabins c.secs ⟨by omega,fun x hx=>by have:=hv.car.beds x hx;omega⟩) hRo (.inl rfl) ?_ ?_ ?_ rfl (by simp) ?_ (by simp) (fun _ _ _ _ _ _=>trivial) ?_ ?_ (fun _ _=>rfl) (fun x hx=>by cases hx) (fun j hj p _ h=>by cases h) ?_ (fun j hj=>?_) ?_ (fun j hj=>?_) (fun hall=>?_) (fun hpos hlast=>by cases hlast)
    ·simp [AV.leL,AV.le]
    ·simp [AV.nocbL,AV.nocb]
    ·simp [JA,buO,AObj.nocb,AV.nocbL,AV.nocb,AObj.ids,AV.ids,AV.idsL,AObj.ren,AV.renL,AV.ren,AObj.le,AV.leL,AV.le,yO]
    ·simp [rmH,ql]
    ·simp [rmH,ql]
    ·simp [rmH,AObj.ids,AV.ids,AV.idsL,qm,qp,aI]
    ·simp [Yv,rmL,AV.ids,AV.idsL]
    ·refine ⟨?_,rfl, ?_, ?_,rfl, ?_⟩
     ·simp [Zi,rmH,AObj.ids,AV.ids,AV.idsL,qm,qp,aI]
     ·simp [WR,buO,AObj.nocb,AV.nocbL,AV.nocb,AObj.ids,AV.ids,AV.idsL]
     ·simp [VO,buY,qf,AV.nocb,AV.nocbL,AV.ids,AV.idsL]
     ·simp [Q8,Jb,zh,qD,rmH,rmL,kV,AV.ids,AV.idsL,ADf.ids,List.range_succ]
    ·simp [Zi,rmH,AObj.ids,AV.ids,AV.idsL,qm,qp,aI]
    ·have env:Env (fun _:Frm=>True) Tryz.prog tyB (tab [(81,fnE jd)]):=qL ⟨Qi4,trivial⟩
     have hs:=QaQ c sex frm to hj
     have hle:=Qgy c sex frm to j
     obtain ⟨b,hb⟩:∃ b,(qN c.cabins).getD j default=b:=⟨_,rfl⟩
     obtain ⟨n,hn⟩:∃ n,rmN c sex frm to j=n:=⟨_,rfl⟩
     rw [hb,hn] at hs
     rw [hn] at hle
     have et:(⟨0,sex,b.cab,b.bed,frm,to,false⟩:Tk)=rmT sex frm to b:=rfl
     have hrb:rmB c sex frm to b=decide (zB (rmT sex frm to b) c.sold=0):=rfl
     have w1:IntKind.wrap .i64 ((n:Int)+1)=((n+1:Nat):Int):=by rw [wrap64 (by omega) (by omega)];rfl
     have hst:jM rmL [34] [8] 9 0 (buY c.cabins j) (rmH c sex frm to j) [buO c.cabins c.secs]={ t:=asg [(34,qf b),(5,.ptr 1 0),(6,.ptr 2 0),(7,.ptr 3 0),(12,.ptr 6 0),(13,.ptr 7 0),(33,.clo 117 [.ptr 8 0])],h:=ql [(9,.mark),(1,.cells [aI sex]),(2,.cells [aI frm]),(3,.cells [aI to]),(4,qm c.cabins c.secs 5),(5,qp c.sold),(6,.cells [.ptr 4 0]),(7,.cells [aI n]),(8,buO c.cabins c.secs)],n:=10,m:=10 }:=by
      simp only [jM,buY,hb,qf,List.map_cons,List.map_nil,AV.ren,AV.renL,List.zip_cons_cons,List.zip_nil_right,rmH,hn,rmL,ZT,List.cons_append,List.nil_append,RS]
      rfl
     show Sym _ _ _ (jM rmL [34] [8] 9 0 (buY c.cabins j) (rmH c sex frm to j) [buO c.cabins c.secs]) _
     rw [hst]
     cases hq:rmB c sex frm to b with
     |true =>
      rw [hq] at hs hrb
      have hrb:=hrb.symm
      have hs:rmN c sex frm to (j+1)=n+1:=hs
      repeat' (first|(apply nx;with_reducible constructor)|refine uq (by decide) ?_|refine zM ?_|refine wy ?_|refine wC ?_|refine wz ?_|((first|refine vx env fun Q hQ=>?_|refine vz fun Q hQ=>?_);simp only [vkt,seval,jW,Qd,qf,aTk,cTk,mTk,qd,qa,qb,qm,qp,qy,buO,rmL,rmH,zF,sin,yn,jN,zg,jd,List.length_map,et,hrb,b5,w1];(try simp only [ite_and]);(repeat' (first|with_reducible assumption|refine And.intro ?_ ?_|intro hp));all_goals (first|(refine hQ _ ?_;clear hQ Q)|(refine hQ _ (fun h=>?_) (fun h=>?_) <;> clear hQ Q <;> (try simp only [vki,reduceCtorEq] at h))|(refine vq ?_;kernel_rfl)|omega|assumption|with_reducible rfl|skip)))
      refine ⟨rfl,rfl,some,_,RFin.okQ some [] ?_⟩
      constructor
      all_goals (try simp only [vle,xV,xQ,qD,hs,vkt,seval,jW,Qd,qf,aTk,cTk,mTk,qd,qa,qb,qm,qp,qy,buO,rmL,rmH,zF,sin,yn,jN,zg,jd,List.length_map])
      all_goals first|rfl|(simp;done)
     |false =>
      rw [hq] at hs hrb
      have hrb:=hrb.symm
      have hs:rmN c sex frm to (j+1)=n:=hs
      repeat' (first|(apply nx;with_reducible constructor)|refine uq (by decide) ?_|refine zM ?_|refine wy ?_|refine wC ?_|refine wz ?_|((first|refine vx env fun Q hQ=>?_|refine vz fun Q hQ=>?_);simp only [vkt,seval,jW,Qd,qf,aTk,cTk,mTk,qd,qa,qb,qm,qp,qy,buO,rmL,rmH,zF,sin,yn,jN,zg,jd,List.length_map,et,hrb,b5];(try simp only [ite_and]);(repeat' (first|with_reducible assumption|refine And.intro ?_ ?_|intro hp));all_goals (first|(refine hQ _ ?_;clear hQ Q)|(refine hQ _ (fun h=>?_) (fun h=>?_) <;> clear hQ Q <;> (try simp only [vki,reduceCtorEq] at h))|(refine vq ?_;kernel_rfl)|omega|assumption|with_reducible rfl|skip)))
      refine ⟨rfl,rfl,some,_,RFin.okQ some [] ?_⟩
      constructor
      all_goals (try simp only [vle,xV,xQ,qD,hs,vkt,seval,jW,Qd,qf,aTk,cTk,mTk,qd,qa,qb,qm,qp,qy,buO,rmL,rmH,zF,sin,yn,jN,zg,jd,List.length_map])
      all_goals first|rfl|(simp;done)
    ·have eh:ql ((9,AObj.mark) :: rmH c sex frm to (qN c.cabins).length++zh [8] (9+1) 0 [buO c.cabins c.secs])=ql [(9,.mark),(7,.cells [aI (QcO c sex frm to)]),(1,.cells [aI sex]),(2,.cells [aI frm]),(3,.cells [aI to]),(4,qm c.cabins c.secs 5),(5,qp c.sold),(6,.cells [.ptr 4 0]),(8,buO c.cabins c.secs)]:=by
      rw [show zh [8] (9+1) 0 [buO c.cabins c.secs]=zh [8] 10 0 [buO c.cabins c.secs] from rfl,RS]
      funext i
      simp only [rmH,List.cons_append,List.nil_append,ql,QcO]
      repeat' split
      all_goals first|rfl|omega
     rw [eh]
     simp only [rmL]
     repeat' (first|(apply nx;with_reducible constructor)|refine uq (by decide) ?_|refine zM ?_|refine wy ?_|refine wC ?_|refine wz ?_|((first|refine vx env fun Q hQ=>?_|refine vz fun Q hQ=>?_);simp only [vkt,seval,jW,Qd,qf,aTk,cTk,mTk,qd,qa,qb,qm,qp,qy,buO,rmL,rmH,zF,sin,yn,jN,zg,jd,List.length_map];(try simp only [ite_and]);(repeat' (first|with_reducible assumption|refine And.intro ?_ ?_|intro hp));all_goals (first|(refine hQ _ ?_;clear hQ Q)|(refine hQ _ (fun h=>?_) (fun h=>?_) <;> clear hQ Q <;> (try simp only [vki,reduceCtorEq] at h))|(refine vq ?_;kernel_rfl)|omega|assumption|with_reducible rfl|skip)))
     (simp only [vrt,Tryz.results29,vkt,seval,jW,Qd,qf,aTk,cTk,mTk,qd,qa,qb,qm,qp,qy,buO,rmL,rmH,zF,sin,yn,jN,zg,jd,List.length_map];refine Fin.val rfl ?_;(try simp only [AV.le,AV.leL]))
     all_goals first|rfl|(simp;done)
   ·have hr:vX c sex frm to=(0,w):=by unfold vX;rw [if_neg (fun h=>h h0),if_neg (by rw [h1];decide),hw,if_pos h2]
    rw [hr]
    have d2:decide (w=0)=false:=decide_eq_false h2
    repeat' (first|(apply nx;with_reducible constructor)|refine uq (by decide) ?_|refine zM ?_|refine wy ?_|refine wC ?_|refine wz ?_|((first|refine vx env fun Q hQ=>?_|refine vz fun Q hQ=>?_);simp only [vkt,seval,jW,Qd,qf,aTk,cTk,mTk,qd,qa,qb,qm,qp,qy,buO,rmL,rmH,zF,sin,yn,jN,zg,jd,List.length_map,ec,h0,h1,hw,d2,decide_true];(try simp only [ite_and]);(repeat' (first|with_reducible assumption|refine And.intro ?_ ?_|intro hp));all_goals (first|(refine hQ _ ?_;clear hQ Q)|(refine hQ _ (fun h=>?_) (fun h=>?_) <;> clear hQ Q <;> (try simp only [vki,reduceCtorEq] at h))|(refine vq ?_;kernel_rfl)|omega|assumption|with_reducible rfl|skip)))
    (simp only [vrt,Tryz.results29,vkt,seval,jW,Qd,qf,aTk,cTk,mTk,qd,qa,qb,qm,qp,qy,buO,rmL,rmH,zF,sin,yn,jN,zg,jd,List.length_map];refine Fin.val rfl ?_;(try simp only [AV.le,AV.leL]))
    all_goals first|rfl|(simp;done)
 ·obtain ⟨e,he⟩:∃ e,zW c=e:=⟨_,rfl⟩
  rw [he] at h0
  have hr:vX c sex frm to=(0,e):=by unfold vX;rw [he,if_pos h0]
  rw [hr]
  have d0:decide (e=0)=false:=decide_eq_false h0
  repeat' (first|(apply nx;with_reducible constructor)|refine uq (by decide) ?_|refine zM ?_|refine wy ?_|refine wC ?_|refine wz ?_|((first|refine vx env fun Q hQ=>?_|refine vz fun Q hQ=>?_);simp only [vkt,seval,jW,Qd,qf,aTk,cTk,mTk,qd,qa,qb,qm,qp,qy,buO,rmL,rmH,zF,sin,yn,jN,zg,jd,List.length_map,ec,he,d0];(try simp only [ite_and]);(repeat' (first|with_reducible assumption|refine And.intro ?_ ?_|intro hp));all_goals (first|(refine hQ _ ?_;clear hQ Q)|(refine hQ _ (fun h=>?_) (fun h=>?_) <;> clear hQ Q <;> (try simp only [vki,reduceCtorEq] at h))|(refine vq ?_;kernel_rfl)|omega|assumption|with_reducible rfl|skip)))
  (simp only [vrt,Tryz.results29,vkt,seval,jW,Qd,qf,aTk,cTk,mTk,qd,qa,qb,qm,qp,qy,buO,rmL,rmH,zF,sin,yn,jN,zg,jd,List.length_map];refine Fin.val rfl ?_;(try simp only [AV.le,AV.leL]))
  all_goals first|rfl|(simp;done)
theorem ZQ {t:Tk} {l:List Tk}:zB t l=0 ↔ ∀ x ∈ l,yw t x=false∧xS x t=true:=by
 unfold zB
 constructor
 ·intro h x hx
  split at h
  ·exact absurd h (by decide)
  rename_i h1
  split at h
  ·exact absurd h (by decide)
  rename_i h2
  refine ⟨?_, ?_⟩
  ·cases hq:yw t x with
   |false=>rfl
   |true=>exact absurd (List.any_eq_true.2 ⟨x,hx,hq⟩) h1
  ·cases hq:xS x t with
   |true=>rfl
   |false=>exact absurd (List.any_eq_true.2 ⟨x,hx,by rw [hq];rfl⟩) h2
 ·intro h
  rw [if_neg,if_neg]
  ·rw [List.any_eq_true]
   rintro ⟨x,hx,h1⟩
   rw [(h x hx).2] at h1
   exact absurd h1 (by decide)
  ·rw [List.any_eq_true]
   rintro ⟨x,hx,h1⟩
   rw [(h x hx).1] at h1
   exact absurd h1 (by decide)
theorem QfX (cs:List Cabin) (b:Bunk):QN cs [b]=true:=by
 unfold QN
 simp
structure RmInv (C:Chart) (a:Ask) (i:Nat) (c:Chart):Prop where
 chk:zW c=0
 cabs:c.cabins=C.cabins
 secs:c.secs=C.secs
 len:c.sold.length=C.sold.length+i
 lt:∀ t ∈ c.sold,t.party < 60+(i:Int)
def bkF (i k:Nat):List Bunk:=(List.range k).map fun (m:Nat)=>⟨(i:Int),(m:Int)⟩
def bkP (cs:List Cabin) (i:Nat):List Bunk:=(List.range i).flatMap fun i=>bkF i (cs.getD i default).beds.toNat
theorem QgR (i k:Nat):bkF i (k+1)=bkF i k++[⟨(i:Int),(k:Int)⟩]:=by
 unfold bkF
 rw [List.range_succ,List.map_append];rfl
theorem QcN (i k:Nat):(bkF i k).length=k:=by simp [bkF]
theorem Lc (cs:List Cabin) (i:Nat):bkP cs (i+1)=bkP cs i++bkF i (cs.getD i default).beds.toNat:=by
 unfold bkP
 rw [List.range_succ,List.flatMap_append]
 simp
theorem Qda {cs:List Cabin} (hb:∀ x ∈ cs,x.beds≤3):∀ i,i≤cs.length→(bkP cs i).length≤3 * i
 |0,_=>by simp [bkP]
 |i+1,h=>by
  have h1:=Qda hb i (by omega)
  have h2:=hb _ (vG (d:=default) (show i < cs.length by omega))
  rw [Lc,List.length_append,QcN]
  omega
def bkS (c:Chart) (T:List (Nat × AV)) (l:List Bunk):St:={ t:=asg (T++[(1,.ptr 0 0),(3,.row 1)]),h:=ql [(0,.cells (qb c)),(1,.row 62 2 (l.map qj))],n:=2 }
def jJ:=vj @ty3 (vj @J2 (vj @yj (vj @ZJ (vj @vU (vj @J6 (vj @ti3.eq_1 (vj @WN.eq_1 (vj @jP.eq_1 (vj @QY.eq_1 (vj @vF.eq_1 @WM.eq_1))))))))))
def QG:=vj @aI.eq_1 (@aB.eq_1)
theorem Qej (c:Chart) (hc:c.cabins.length≤3) (hb:∀ x ∈ c.cabins,x.beds≤3):FnV Tryz.prog 70 [qa c] (qc (qN c.cabins)):=by
 have env:Env (fun _=>True) Tryz.prog tyB (tab []):=qL trivial
 refine Fn.of (A:=fun _=>True) (n0:=0) (D:=noD) (Fn0 Tryz.func70 rfl (fun vs w=>by kernel_rfl) (by kernel_rfl)) (by simp) (by simp [AV.ids,AV.idsL,qa,qb]) (fun i o h=>by cases h) (fun _ _ _ _=>trivial) qI ?_
 have hmx:(100000:Nat)≤maxLen:=by decide
 rw [show qN c.cabins=bkP c.cabins c.cabins.length from rfl]
 repeat' (first|(apply nx;with_reducible constructor)|refine uq (by decide) ?_|((first|refine vx env fun Q hQ=>?_|refine vz fun Q hQ=>?_);simp only [vkt,seval,jJ,QG,qf,qc,qj,qA,qJ,qh,qC,qF,qd,mTk,qa,qb,bkS,List.length_map];(try simp only [ite_and]);(repeat' (first|with_reducible assumption|refine And.intro ?_ ?_|intro hp));all_goals (first|(refine hQ _ ?_;clear hQ Q)|(refine hQ _ (fun h=>?_) (fun h=>?_) <;> clear hQ Q <;> (try simp only [vki,reduceCtorEq] at h))|(refine vq ?_;kernel_rfl)|omega|assumption|with_reducible rfl|skip)))
 refine qQ (fun i:{ i:Nat // i≤c.cabins.length }=>bkS c [(4,aI i.1)] (bkP c.cabins i.1)) (fun i=>c.cabins.length - i.1) ⟨0,Nat.zero_le _⟩ ?_ fun ⟨i,hi⟩=>?_
 ·simp only [bkS,show bkP c.cabins 0=[] from rfl,List.cons_append,List.nil_append]
  (refine Le.ok (fun i=>if i=1 then none else some i) [] ?_;constructor;all_goals (try simp only [vle,vkt,seval,jJ,QG,qf,qc,qj,qA,qJ,qh,qC,qF,qd,mTk,qa,qb,bkS,List.length_map]))
  all_goals first|rfl|(simp;done)
 simp only at hi ⊢
 have hL:=Qda hb i hi
 have hS:=Lc c.cabins i
 obtain ⟨L,hLe⟩:∃ L,bkP c.cabins i=L:=⟨_,rfl⟩
 rw [hLe] at hL hS
 rw [hLe]
 by_cases hil:i < c.cabins.length
 ·have d1:decide ((i:Int) < (c.cabins.length:Int))=true:=decide_eq_true (by omega)
  have e9:IntKind.wrap .i64 ((i:Int)+1)=((i+1:Nat):Int):=by rw [wrap64 (by omega) (by omega)];rfl
  have i0:((i:Int)).toNat=i:=rfl
  obtain ⟨x,hx⟩:∃ x,c.cabins.getD i default=x:=⟨_,rfl⟩
  have hxb:=hb x (by rw [← hx];exact vG hil)
  rw [hx] at hS
  simp only [bkS,List.cons_append,List.nil_append]
  repeat' (first|(apply nx;with_reducible constructor)|refine uq (by decide) ?_|((first|refine vx env fun Q hQ=>?_|refine vz fun Q hQ=>?_);simp only [vkt,seval,jJ,QG,qf,qc,qj,qA,qJ,qh,qC,qF,qd,mTk,qa,qb,bkS,List.length_map,d1,i0];(try simp only [ite_and]);(repeat' (first|with_reducible assumption|refine And.intro ?_ ?_|intro hp));all_goals (first|(refine hQ _ ?_;clear hQ Q)|(refine hQ _ (fun h=>?_) (fun h=>?_) <;> clear hQ Q <;> (try simp only [vki,reduceCtorEq] at h))|(refine vq ?_;kernel_rfl)|omega|assumption|with_reducible rfl|skip)))
  refine qQ (fun k:{ k:Nat // k≤x.beds.toNat }=>bkS c [(4,aI i),(5,aI k.1)] (L++bkF i k.1)) (fun k=>x.beds.toNat - k.1) ⟨0,Nat.zero_le _⟩ ?_ fun ⟨k,hk⟩=>?_
  ·simp only [bkS,show bkF i 0=[] from rfl,List.append_nil,List.cons_append,List.nil_append]
   (refine Le.ok some [] ?_;constructor;all_goals (try simp only [vle,vkt,seval,jJ,QG,qf,qc,qj,qA,qJ,qh,qC,qF,qd,mTk,qa,qb,bkS,List.length_map]))
   all_goals first|rfl|(simp;done)
  simp only at hk ⊢
  have hF:=QgR i k
  have hFl:(L++bkF i k).length≤100:=by rw [List.length_append,QcN];omega
  obtain ⟨M,hM⟩:∃ M,L++bkF i k=M:=⟨_,rfl⟩
  have hMS:L++bkF i (k+1)=M++[⟨(i:Int),(k:Int)⟩]:=by rw [hF,← List.append_assoc,hM]
  rw [hM] at hFl
  simp only [bkS,hM,List.cons_append,List.nil_append]
  by_cases hkl:k < x.beds.toNat
  ·have d2:decide ((k:Int) < x.beds)=true:=decide_eq_true (by omega)
   have e8:IntKind.wrap .i64 ((k:Int)+1)=((k+1:Nat):Int):=by rw [wrap64 (by omega) (by omega)];rfl
   have hm:M.length+1≤maxLen:=by omega
   repeat' (first|(apply nx;with_reducible constructor)|refine uq (by decide) ?_|((first|refine vx env fun Q hQ=>?_|refine vz fun Q hQ=>?_);simp only [vkt,seval,jJ,QG,qf,qc,qj,qA,qJ,qh,qC,qF,qd,mTk,qa,qb,bkS,List.length_map,i0,hil,hx,d2,e8,hm];(try simp only [ite_and]);(repeat' (first|with_reducible assumption|refine And.intro ?_ ?_|intro hp));all_goals (first|(refine hQ _ ?_;clear hQ Q)|(refine hQ _ (fun h=>?_) (fun h=>?_) <;> clear hQ Q <;> (try simp only [vki,reduceCtorEq] at h))|(refine vq ?_;kernel_rfl)|omega|assumption|with_reducible rfl|skip)))
   refine ⟨⟨k+1,hkl⟩,by show x.beds.toNat - (k+1) < x.beds.toNat - k;omega, ?_⟩
   simp only [bkS,hMS,List.cons_append,List.nil_append]
   (refine Le.ok (fun i=>if i=1 then some 3 else some i) [] ?_;constructor;all_goals (try simp only [vle,vkt,seval,jJ,QG,qf,qc,qj,qA,qJ,qh,qC,qF,qd,mTk,qa,qb,bkS,List.length_map]))
   all_goals first|rfl|(rw [List.map_append];rfl)|(simp;done)|(intro i hi;rw [if_neg (by omega)];done)
  ·have d2:decide ((k:Int) < x.beds)=false:=decide_eq_false (by omega)
   obtain rfl:k=x.beds.toNat:=by omega
   repeat' (first|(apply nx;with_reducible constructor)|refine uq (by decide) ?_|((first|refine vx env fun Q hQ=>?_|refine vz fun Q hQ=>?_);simp only [vkt,seval,jJ,QG,qf,qc,qj,qA,qJ,qh,qC,qF,qd,mTk,qa,qb,bkS,List.length_map,i0,hil,hx,d2,e9];(try simp only [ite_and]);(repeat' (first|with_reducible assumption|refine And.intro ?_ ?_|intro hp));all_goals (first|(refine hQ _ ?_;clear hQ Q)|(refine hQ _ (fun h=>?_) (fun h=>?_) <;> clear hQ Q <;> (try simp only [vki,reduceCtorEq] at h))|(refine vq ?_;kernel_rfl)|omega|assumption|with_reducible rfl|skip)))
   refine ⟨⟨i+1,hil⟩,by show c.cabins.length - (i+1) < c.cabins.length - i;omega, ?_⟩
   simp only [bkS,hS,hM,List.cons_append,List.nil_append]
   (refine Le.ok some [] ?_;constructor;all_goals (try simp only [vle,vkt,seval,jJ,QG,qf,qc,qj,qA,qJ,qh,qC,qF,qd,mTk,qa,qb,bkS,List.length_map]))
   all_goals first|rfl|(simp;done)
 ·have d1:decide ((i:Int) < (c.cabins.length:Int))=false:=decide_eq_false (by omega)
  obtain rfl:i=c.cabins.length:=by omega
  rw [hLe]
  simp only [bkS,List.cons_append,List.nil_append]
  repeat' (first|(apply nx;with_reducible constructor)|refine uq (by decide) ?_|((first|refine vx env fun Q hQ=>?_|refine vz fun Q hQ=>?_);simp only [vkt,seval,jJ,QG,qf,qc,qj,qA,qJ,qh,qC,qF,qd,mTk,qa,qb,bkS,List.length_map,d1];(try simp only [ite_and]);(repeat' (first|with_reducible assumption|refine And.intro ?_ ?_|intro hp));all_goals (first|(refine hQ _ ?_;clear hQ Q)|(refine hQ _ (fun h=>?_) (fun h=>?_) <;> clear hQ Q <;> (try simp only [vki,reduceCtorEq] at h))|(refine vq ?_;kernel_rfl)|omega|assumption|with_reducible rfl|skip)))
  (simp only [vrt,Tryz.results70,vkt,seval,jJ,QG,qf,qc,qj,qA,qJ,qh,qC,qF,qd,mTk,qa,qb,bkS,List.length_map];refine Fin.val rfl ?_;(try simp only [AV.le,AV.leL]))
  all_goals first|rfl|(simp;done)|exact ⟨_,_,rfl⟩
def wU:List AV→Prop × AV
 |[.agg [.sl c0,.v (.int .i64 c1),.sl c2]]=>(c0=(c0.map qx).map qh∧c2=(c2.map dTk).map eTk∧((⟨(c0.map qx),c1,(c2.map dTk)⟩:Chart)).cabins.length≤3∧∀ x ∈ ((⟨(c0.map qx),c1,(c2.map dTk)⟩:Chart)).cabins,x.beds≤3,qc (qN ((⟨(c0.map qx),c1,(c2.map dTk)⟩:Chart)).cabins))
 |_=>(False,.junk)
theorem QcU {A:Frm→Prop}:qE A Tryz.prog 70 (qR false wU):=qV fun vs hv h=>by
 clear hv
 unfold wU at h ⊢
 split at h
 ·rename_i c0 c1 c2;obtain ⟨q0,q1,k0,k1⟩:=h
  refine ⟨by first|trivial|(simp [AV.plain,AV.plainL,aI,aB,qB,qc,qo,qf,aTk,cTk];done)|(repeat' split) <;> simp [AV.plain,AV.plainL,aI,aB,qB,qc,qo,qf,aTk,cTk],fun h=>absurd h (by decide), ?_⟩
  have:=Qej ((⟨(c0.map qx),c1,(c2.map dTk)⟩:Chart)) k0 k1
  simp only [qW,qa,aI,qo,qb,← q0,← q1] at this
  first|exact this|(simp only [qW,qa,aI,qo,qb,← q0,← q1];exact this)
 ·exact h.elim
def alL (bs:List Bunk):Nat→List (List Bunk)
 |0=>[[]]
 |m+1=>bs.flatMap fun b=>(alL bs m).map (b :: ·)
theorem U7 (bs:List Bunk):∀ m,(alL bs m).length=bs.length ^ m
 |0=>rfl
 |m+1=>by
  rw [alL,List.length_flatMap]
  simp only [List.length_map,U7 bs m]
  rw [List.map_const',List.sum_replicate_nat,Nat.pow_succ,Nat.mul_comm]
theorem ZM {bs:List Bunk}:∀ {m},∀ p ∈ alL bs m,p.length=m
 |0,p,hp=>by rw [List.mem_singleton.1 hp];rfl
 |m+1,p,hp=>by
  obtain ⟨b,_,hp⟩:=List.mem_flatMap.1 hp
  obtain ⟨q,hq,rfl⟩:=List.mem_map.1 hp
  rw [List.length_cons,ZM q hq]
def alP (bs:List Bunk) (R:List (List Bunk)) (i:Nat):List (List Bunk):=(bs.take i).flatMap fun b=>R.map (b :: ·)
theorem QaE {bs:List Bunk} (R:List (List Bunk)) {i:Nat} (h:i < bs.length):alP bs R (i+1)=alP bs R i++R.map ((bs.getD i default) :: ·):=by
 unfold alP
 rw [List.take_succ_eq_append_getElem h,List.flatMap_append,List.getD_eq_getElem?_getD,List.getElem?_eq_getElem h]
 simp
theorem Qdx (bs:List Bunk) (R:List (List Bunk)) (i:Nat):(alP bs R i).length≤i * R.length:=by
 unfold alP
 rw [List.length_flatMap]
 simp only [List.length_map]
 rw [List.map_const',List.sum_replicate_nat]
 exact Nat.mul_le_mul_right _ (by rw [List.length_take];omega)
def QgQ (m:Nat):Prop:=∀ bs:List Bunk,bs.length≤9→m≤3→Fn noB Tryz.prog 69 [qc bs,aI m] noH (.row 0) (ql [(0,.row 44 1 ((alL bs m).map qz))]) 0
def pAl (m:Nat) (_:St):List AV→Option Pk
 |[.sl bs,.v (.int .i64 n)]=>some { pre:=bs=(bs.map zA).map qj∧n=m∧bs.length≤9∧m≤3,ar:=[.sl bs,.v (.int .i64 n)],v:=.row 0,L1:=[some (.row 44 1 ((alL (bs.map zA) m).map qz))] }
 |_=>none
theorem eAl {A:Frm→Prop} {m:Nat} (ih:QgQ m):qE A Tryz.prog 69 (fnE (pAl m)):=wI fun S bs q h hp=>by
 unfold pAl at h
 split at h
 ·rename_i bs n
  cases h
  obtain ⟨h1,rfl,h3,h4⟩:=hp
  have:=ih (bs.map zA) (by rw [List.length_map];exact h3) h4
  rw [qc,← h1] at this
  exact this
 ·cases h
def alS (bs:List Bunk) (R M:List (List Bunk)) (T:List (Nat × AV)):St:={ t:=asg (T++[(0,qc bs),(5,.row 1),(6,.row 0)]),h:=ql [(0,.row 44 1 (R.map qz)),(1,.row 44 1 (M.map qz))],n:=2 }
def wB:=vj @ty3 (vj @UE (vj @ZJ (vj @vU (vj @ti3.eq_1 (vj @VR.eq_1 (vj @QY.eq_1 @vF.eq_1))))))
def xu:=vj @aI.eq_1 (@aB.eq_1)
theorem QiP:QgQ 0:=by
 intro bs _ _
 have env:Env (fun _=>True) Tryz.prog tyB (tab []):=qL trivial
 refine Fn.of (A:=fun _=>True) (n0:=0) (D:=noD) (Fn0 Tryz.func69 rfl (fun vs w=>by kernel_rfl) (by kernel_rfl)) (by simp) (by simp [AV.ids,AV.idsL,qc,aI]) (fun i o h=>by cases h) (fun _ _ _ _=>trivial) qI ?_
 show Sym _ _ _ (zV [qc bs,aI 0] 0 noH) (x8 tyB noD Tryz.f69 fun S rv=>Fin S rv (.row 0) 0 (ql [(0,.row 44 1 [qz []])]) 0)
 repeat' (first|(apply nx;with_reducible constructor)|refine uq (by decide) ?_|((first|refine vx env fun Q hQ=>?_|refine vz fun Q hQ=>?_);simp only [vkt,seval,wB,xu,qf,qc,qj,qz,qA,qG,qJ,qH,qF,pAl,alS,List.length_map,decide_true];(try simp only [ite_and]);(repeat' (first|with_reducible assumption|refine And.intro ?_ ?_|intro hp));all_goals (first|(refine hQ _ ?_;clear hQ Q)|(refine hQ _ (fun h=>?_) (fun h=>?_) <;> clear hQ Q <;> (try simp only [vki,reduceCtorEq] at h))|(refine vq ?_;kernel_rfl)|omega|assumption|with_reducible rfl|skip)))
 (simp only [vrt,Tryz.results69,vkt,seval,wB,xu,qf,qc,qj,qz,qA,qG,qJ,qH,qF,pAl,alS,List.length_map];refine Fin.ok some [] ?_ ?_ ?_ ?_ ?_ rfl;all_goals (try simp only [vle,vkt,seval,wB,xu,qf,qc,qj,qz,qA,qG,qJ,qH,qF,pAl,alS,List.length_map]))
 all_goals first|rfl|(simp;done)
theorem QiE (m:Nat) (ih:QgQ m):QgQ (m+1):=by
 intro bs hbs hm3
 have env:Env (fun _=>True) Tryz.prog tyB (tab [(69,fnE (pAl m))]):=qL ⟨eAl ih,trivial⟩
 refine Fn.of (A:=fun _=>True) (n0:=0) (D:=noD) (Fn0 Tryz.func69 rfl (fun vs w=>by kernel_rfl) (by kernel_rfl)) (by simp) (by simp [AV.ids,AV.idsL,qc,aI]) (fun i o h=>by cases h) (fun _ _ _ _=>trivial) qI ?_
 have hmx:(100000:Nat)≤maxLen:=by decide
 obtain ⟨R,hR⟩:∃ R,alL bs m=R:=⟨_,rfl⟩
 have hRl:R.length≤1000:=by
  rw [← hR,U7]
  have h1:bs.length ^ m≤9 ^ m:=Nat.pow_le_pow_left hbs m
  have h2:9 ^ m≤9 ^ 3:=Nat.pow_le_pow_right (by decide) (by omega)
  omega
 have hR1:∀ p ∈ R,p.length≤3:=fun p hp=>by
  rw [← hR] at hp
  have:=ZM p hp
  omega
 have hF:alL bs (m+1)=alP bs R bs.length:=by unfold alP;rw [List.take_length,← hR];rfl
 rw [hF]
 have d0:decide (((m+1:Nat):Int)=0)=false:=decide_eq_false (by omega)
 have w0:IntKind.wrap .i64 (((m+1:Nat):Int) - 1)=(m:Int):=by rw [wrap64 (by omega) (by omega)];omega
 have hm3':m≤3:=by omega
 repeat' (first|(apply nx;with_reducible constructor)|refine uq (by decide) ?_|((first|refine vx env fun Q hQ=>?_|refine vz fun Q hQ=>?_);simp only [vkt,seval,wB,xu,qf,qc,qj,qz,qA,qG,qJ,qH,qF,pAl,alS,List.length_map,d0,w0,hbs,hm3',hR];(try simp only [ite_and]);(repeat' (first|with_reducible assumption|refine And.intro ?_ ?_|intro hp));all_goals (first|(refine hQ _ ?_;clear hQ Q)|(refine hQ _ (fun h=>?_) (fun h=>?_) <;> clear hQ Q <;> (try simp only [vki,reduceCtorEq] at h))|(refine vq ?_;kernel_rfl)|omega|assumption|with_reducible rfl|skip)))
 refine qQ (fun i:{ i:Nat // i≤bs.length }=>alS bs R (alP bs R i.1) [(7,aI i.1)]) (fun i=>bs.length - i.1) ⟨0,Nat.zero_le _⟩ ?_ fun ⟨i,hi⟩=>?_
 ·simp only [alS,show alP bs R 0=[] from rfl,List.cons_append,List.nil_append]
  (refine Le.ok (fun i=>if i=1 then none else some i) [] ?_;constructor;all_goals (try simp only [vle,vkt,seval,wB,xu,qf,qc,qj,qz,qA,qG,qJ,qH,qF,pAl,alS,List.length_map]))
  all_goals first|rfl|(simp;done)
 simp only at hi ⊢
 have hL:=Qdx bs R i
 have hL2:i * R.length≤9 * 1000:=Nat.mul_le_mul (by omega) hRl
 obtain ⟨L,hLe⟩:∃ L,alP bs R i=L:=⟨_,rfl⟩
 rw [hLe] at hL
 rw [hLe]
 by_cases hil:i < bs.length
 ·have d1:decide ((i:Int) < (bs.length:Int))=true:=decide_eq_true (by omega)
  have e9:IntKind.wrap .i64 ((i:Int)+1)=((i+1:Nat):Int):=by rw [wrap64 (by omega) (by omega)];rfl
  have i0:((i:Int)).toNat=i:=rfl
  obtain ⟨b,hbe⟩:∃ b,bs.getD i default=b:=⟨_,rfl⟩
  have hS:=QaE R hil
  rw [hLe,hbe] at hS
  simp only [alS,List.cons_append,List.nil_append]
  repeat' (first|(apply nx;with_reducible constructor)|refine uq (by decide) ?_|((first|refine vx env fun Q hQ=>?_|refine vz fun Q hQ=>?_);simp only [vkt,seval,wB,xu,qf,qc,qj,qz,qA,qG,qJ,qH,qF,pAl,alS,List.length_map,d1,i0];(try simp only [ite_and]);(repeat' (first|with_reducible assumption|refine And.intro ?_ ?_|intro hp));all_goals (first|(refine hQ _ ?_;clear hQ Q)|(refine hQ _ (fun h=>?_) (fun h=>?_) <;> clear hQ Q <;> (try simp only [vki,reduceCtorEq] at h))|(refine vq ?_;kernel_rfl)|omega|assumption|with_reducible rfl|skip)))
  refine qQ (fun k:{ k:Nat // k≤R.length }=>alS bs R (L++(R.take k.1).map (b :: ·)) [(7,aI i),(8,aI k.1)]) (fun k=>R.length - k.1) ⟨0,Nat.zero_le _⟩ ?_ fun ⟨k,hk⟩=>?_
  ·simp only [alS,List.take_zero,List.map_nil,List.append_nil,List.cons_append,List.nil_append]
   (refine Le.ok some [] ?_;constructor;all_goals (try simp only [vle,vkt,seval,wB,xu,qf,qc,qj,qz,qA,qG,qJ,qH,qF,pAl,alS,List.length_map]))
   all_goals first|rfl|(simp;done)
  simp only at hk ⊢
  obtain ⟨M,hM⟩:∃ M,L++(R.take k).map (b :: ·)=M:=⟨_,rfl⟩
  have hMl:M.length≤10000:=by rw [← hM,List.length_append,List.length_map,List.length_take];omega
  simp only [alS,hM,List.cons_append,List.nil_append]
  by_cases hkl:k < R.length
  ·have d2:decide ((k:Int) < (R.length:Int))=true:=decide_eq_true (by omega)
   have e8:IntKind.wrap .i64 ((k:Int)+1)=((k+1:Nat):Int):=by rw [wrap64 (by omega) (by omega)];rfl
   have k0:((k:Int)).toNat=k:=rfl
   have hm:M.length+1≤maxLen:=by omega
   obtain ⟨p,hp⟩:∃ p,R.getD k []=p:=⟨_,rfl⟩
   have hg:=Wx hkl
   rw [hp] at hg
   have hpl:=hR1 p (by rw [← hp];exact vG hkl)
   have hpm:1+p.length≤maxLen:=by omega
   have hMS:L++(R.take (k+1)).map (b :: ·)=M++[b :: p]:=by
    rw [List.take_succ_eq_append_getElem hkl,List.map_append,← List.append_assoc,hM,← hp]
    simp [List.getD_eq_getElem?_getD,hkl]
   repeat' (first|(apply nx;with_reducible constructor)|refine uq (by decide) ?_|((first|refine vx env fun Q hQ=>?_|refine vz fun Q hQ=>?_);simp only [vkt,seval,wB,xu,qf,qc,qj,qz,qA,qG,qJ,qH,qF,pAl,alS,List.length_map,i0,k0,hil,hkl,hbe,hp,hg,d2,e8,hm,hpm];(try simp only [ite_and]);(repeat' (first|with_reducible assumption|refine And.intro ?_ ?_|intro hp));all_goals (first|(refine hQ _ ?_;clear hQ Q)|(refine hQ _ (fun h=>?_) (fun h=>?_) <;> clear hQ Q <;> (try simp only [vki,reduceCtorEq] at h))|(refine vq ?_;kernel_rfl)|omega|assumption|with_reducible rfl|skip)))
   refine ⟨⟨k+1,hkl⟩,by show R.length - (k+1) < R.length - k;omega, ?_⟩
   simp only [alS,hMS,List.cons_append,List.nil_append]
   (refine Le.ok (fun i=>if i=1 then some 5 else some i) [] ?_;constructor;all_goals (try simp only [vle,vkt,seval,wB,xu,qf,qc,qj,qz,qA,qG,qJ,qH,qF,pAl,alS,List.length_map]))
   all_goals first|rfl|(rw [List.map_append];rfl)|(simp;done)|(intro i hi;rw [if_neg (by omega)];done)
  ·have d2:decide ((k:Int) < (R.length:Int))=false:=decide_eq_false (by omega)
   obtain rfl:k=R.length:=by omega
   rw [List.take_length] at hM
   repeat' (first|(apply nx;with_reducible constructor)|refine uq (by decide) ?_|((first|refine vx env fun Q hQ=>?_|refine vz fun Q hQ=>?_);simp only [vkt,seval,wB,xu,qf,qc,qj,qz,qA,qG,qJ,qH,qF,pAl,alS,List.length_map,d2,e9];(try simp only [ite_and]);(repeat' (first|with_reducible assumption|refine And.intro ?_ ?_|intro hp));all_goals (first|(refine hQ _ ?_;clear hQ Q)|(refine hQ _ (fun h=>?_) (fun h=>?_) <;> clear hQ Q <;> (try simp only [vki,reduceCtorEq] at h))|(refine vq ?_;kernel_rfl)|omega|assumption|with_reducible rfl|skip)))
   refine ⟨⟨i+1,hil⟩,by show bs.length - (i+1) < bs.length - i;omega, ?_⟩
   simp only [alS,hS,hM,List.cons_append,List.nil_append]
   (refine Le.ok some [] ?_;constructor;all_goals (try simp only [vle,vkt,seval,wB,xu,qf,qc,qj,qz,qA,qG,qJ,qH,qF,pAl,alS,List.length_map]))
   all_goals first|rfl|(simp;done)
 ·have d1:decide ((i:Int) < (bs.length:Int))=false:=decide_eq_false (by omega)
  obtain rfl:i=bs.length:=by omega
  rw [hLe]
  simp only [alS,List.cons_append,List.nil_append]
  repeat' (first|(apply nx;with_reducible constructor)|refine uq (by decide) ?_|((first|refine vx env fun Q hQ=>?_|refine vz fun Q hQ=>?_);simp only [vkt,seval,wB,xu,qf,qc,qj,qz,qA,qG,qJ,qH,qF,pAl,alS,List.length_map,d1];(try simp only [ite_and]);(repeat' (first|with_reducible assumption|refine And.intro ?_ ?_|intro hp));all_goals (first|(refine hQ _ ?_;clear hQ Q)|(refine hQ _ (fun h=>?_) (fun h=>?_) <;> clear hQ Q <;> (try simp only [vki,reduceCtorEq] at h))|(refine vq ?_;kernel_rfl)|omega|assumption|with_reducible rfl|skip)))
  (simp only [vrt,Tryz.results69,vkt,seval,wB,xu,qf,qc,qj,qz,qA,qG,qJ,qH,qF,pAl,alS,List.length_map];refine Fin.ok (fun j=>[1][j]?) [] ?_ ?_ ?_ ?_ ?_ rfl;all_goals (try simp only [vle,vkt,seval,wB,xu,qf,qc,qj,qz,qA,qG,qJ,qH,qF,pAl,alS,List.length_map]))
  all_goals first|rfl|(simp;done)
theorem Qgs:∀ m,QgQ m
 |0=>QiP
 |m+1=>QiE m (Qgs m)
def Ze:=vj @ty3 (vj @J2 (vj @yj (vj @vU (vj @J6 (vj @ti3.eq_1 (vj @WN.eq_1 (vj @jP.eq_1 (vj @vF.eq_1 @WM.eq_1))))))))
def VV:=vj @aI.eq_1 (@aB.eq_1)
theorem QeB (c:Chart) (b:Bunk) (hc:CarOk c):FnV Tryz.prog 133 [qa c,qf b] (aB (jT c.cabins b.cab b.bed)):=by
 have env:Env (fun _=>True) Tryz.prog tyB (tab [(83,qR true zb)]):=qL ⟨Lr,trivial⟩
 refine Fn.of (A:=fun _=>True) (n0:=0) (D:=noD) (Fn0 Tryz.func133 rfl (fun vs w=>by kernel_rfl) (by kernel_rfl)) (by simp) (by simp [AV.ids,AV.idsL,qa,qb,qf]) (fun i o h=>by cases h) (fun _ _ _ _=>trivial) qI ?_
 have hcl:=hc.cabs
 have w1:IntKind.wrap .i64 ((c.cabins.length:Int) - 1)=(c.cabins.length:Int) - 1:=wrap64 (by omega) (by omega)
 have hE:jT c.cabins b.cab b.bed=(inB b.cab 0 ((c.cabins.length:Int) - 1) && inB b.bed 0 ((c.cabins.getD b.cab.toNat default).beds - 1)):=rfl
 cases h3:inB b.cab 0 ((c.cabins.length:Int) - 1) with
 |false =>
  rw [hE,h3]
  repeat' (first|(apply nx;with_reducible constructor)|refine uq (by decide) ?_|((first|refine vx env fun Q hQ=>?_|refine vz fun Q hQ=>?_);simp only [vkt,seval,Ze,VV,qf,qj,qa,qb,qh,qC,qd,zb,List.length_map,h3,w1];(try simp only [ite_and]);(repeat' (first|with_reducible assumption|refine And.intro ?_ ?_|intro hp));all_goals (first|(refine hQ _ ?_;clear hQ Q)|(refine hQ _ (fun h=>?_) (fun h=>?_) <;> clear hQ Q <;> (try simp only [vki,reduceCtorEq] at h))|(refine vq ?_;kernel_rfl)|omega|assumption|with_reducible rfl|skip)))
  (simp only [vrt,Tryz.results133,vkt,seval,Ze,VV,qf,qj,qa,qb,qh,qC,qd,zb,List.length_map];refine Fin.val rfl ?_;(try simp only [AV.le,AV.leL]))
  all_goals first|rfl|(simp;done)
 |true =>
  have b3:=jr.1 h3
  have g1:0≤b.cab:=b3.1
  have g2:b.cab.toNat < c.cabins.length:=by omega
  obtain ⟨x,hx⟩:∃ x,c.cabins.getD b.cab.toNat default=x:=⟨_,rfl⟩
  have hxb:=hc.beds _ (vG (d:=default) g2)
  rw [hx] at hxb
  have w2:IntKind.wrap .i64 (x.beds - 1)=x.beds - 1:=wrap64 (by omega) (by omega)
  rw [hE,h3,hx,Bool.true_and]
  repeat' (first|(apply nx;with_reducible constructor)|refine uq (by decide) ?_|((first|refine vx env fun Q hQ=>?_|refine vz fun Q hQ=>?_);simp only [vkt,seval,Ze,VV,qf,qj,qa,qb,qh,qC,qd,zb,List.length_map,h3,w1,w2,hx,g1,g2];(try simp only [ite_and]);(repeat' (first|with_reducible assumption|refine And.intro ?_ ?_|intro hp));all_goals (first|(refine hQ _ ?_;clear hQ Q)|(refine hQ _ (fun h=>?_) (fun h=>?_) <;> clear hQ Q <;> (try simp only [vki,reduceCtorEq] at h))|(refine vq ?_;kernel_rfl)|omega|assumption|with_reducible rfl|skip)))
  (simp only [vrt,Tryz.results133,vkt,seval,Ze,VV,qf,qj,qa,qb,qh,qC,qd,zb,List.length_map];refine Fin.val rfl ?_;(try simp only [AV.le,AV.leL]))
  all_goals first|rfl|(simp;done)
def zw:List AV→Prop × AV
 |[.agg [.sl c0,.v (.int .i64 c1),.sl c2],.agg [.v (.int .i64 b0),.v (.int .i64 b1)]]=>(c0=(c0.map qx).map qh∧c2=(c2.map dTk).map eTk∧CarOk ((⟨(c0.map qx),c1,(c2.map dTk)⟩:Chart)),aB (jT ((⟨(c0.map qx),c1,(c2.map dTk)⟩:Chart)).cabins ((⟨b0,b1⟩:Bunk)).cab ((⟨b0,b1⟩:Bunk)).bed))
 |_=>(False,.junk)
theorem Qdj {A:Frm→Prop}:qE A Tryz.prog 133 (qR true zw):=qV fun vs hv h=>by
 clear hv
 unfold zw at h ⊢
 split at h
 ·rename_i c0 c1 c2 b0 b1;obtain ⟨q0,q1,k0⟩:=h
  refine ⟨by first|trivial|(simp [AV.plain,AV.plainL,aI,aB,qB,qc,qo,qf,aTk,cTk];done)|(repeat' split) <;> simp [AV.plain,AV.plainL,aI,aB,qB,qc,qo,qf,aTk,cTk],fun _=>(by simp [AV.flat,AV.flatL,aI,aB]), ?_⟩
  have:=QeB ((⟨(c0.map qx),c1,(c2.map dTk)⟩:Chart)) ((⟨b0,b1⟩:Bunk)) k0
  simp only [qf,qW,qa,aI,qo,qb,← q0,← q1] at this
  first|exact this|(simp only [qf,qW,qa,aI,qo,qb,← q0,← q1];exact this)
 ·exact h.elim
def rnS (c:Chart) (l:List Bunk) (k:Nat) (lo hi:Int):St:={ t:=asg [(1,qc l),(2,.ptr 0 0),(4,aB false),(5,aI lo),(6,aI hi),(7,aI k)],h:=ql [(0,.cells (qb c))],n:=1 }
def yA:=vj @ty3 (vj @ty4 (vj @J2 (vj @yj (vj @ZJ (vj @vU (vj @J6 (vj @ti3.eq_1 (vj @ti4.eq_1 (vj @WN.eq_1 (vj @jP.eq_1 (vj @QY.eq_1 (vj @vF.eq_1 @WM.eq_1))))))))))))
def QF:=vj @aI.eq_1 (@aB.eq_1)
theorem Qgi (c:Chart) (l:List Bunk) (ok:NearOk c.cabins l):FnV Tryz.prog 134 [qa c,qc l] (aB (QN c.cabins l)):=by
 have env:Env (fun _=>True) Tryz.prog tyB (tab []):=qL trivial
 refine Fn.of (A:=fun _=>True) (n0:=0) (D:=noD) (Fn0 Tryz.func134 rfl (fun vs w=>by kernel_rfl) (by kernel_rfl)) (by simp) (by simp [AV.ids,AV.idsL,qa,qb,qc]) (fun i o h=>by cases h) (fun _ _ _ _=>trivial) qI ?_
 have hne:=ok.ne
 have hll:=ok.len
 have hcl:=ok.cabs
 have hbd:=Rj ok
 obtain ⟨x0,hx0⟩:∃ x,l.getD 0 default=x:=⟨_,rfl⟩
 have l0:loK l 0=x0.cab:=by rw [← hx0];rfl
 have h0:hiK l 0=x0.cab:=by rw [← hx0];rfl
 rw [Qdm]
 repeat' (first|(apply nx;with_reducible constructor)|refine uq (by decide) ?_|((first|refine vx env fun Q hQ=>?_|refine vz fun Q hQ=>?_);simp only [vkt,seval,yA,QF,qf,qc,qj,qA,qh,qC,qa,qb,rnS,List.length_map,hx0,hne];(try simp only [ite_and]);(repeat' (first|with_reducible assumption|refine And.intro ?_ ?_|intro hp));all_goals (first|(refine hQ _ ?_;clear hQ Q)|(refine hQ _ (fun h=>?_) (fun h=>?_) <;> clear hQ Q <;> (try simp only [vki,reduceCtorEq] at h))|(refine vq ?_;kernel_rfl)|omega|assumption|with_reducible rfl|skip)))
 refine qQ (fun k:{ k:Nat // k≤l.length }=>rnS c l k.1 (loK l k.1) (hiK l k.1)) (fun k=>l.length - k.1) ⟨0,Nat.zero_le _⟩ ?_ fun ⟨k,hk⟩=>?_
 ·simp only [l0,h0]
  (refine Le.ok some [] ?_;constructor;all_goals (try simp only [vle,vkt,seval,yA,QF,qf,qc,qj,qA,qh,qC,qa,qb,rnS,List.length_map]))
  all_goals first|rfl|(simp;done)
 simp only at hk ⊢
 by_cases hlt:k < l.length
 ·have d1:decide ((k:Int) < (l.length:Int))=true:=decide_eq_true (by omega)
  have e9:IntKind.wrap .i64 ((k:Int)+1)=((k+1:Nat):Int):=by rw [wrap64 (by omega) (by omega)];rfl
  have k0:((k:Int)).toNat=k:=rfl
  obtain ⟨x,hx⟩:∃ x,l.getD k default=x:=⟨_,rfl⟩
  have hl1:=XO hlt
  have hh1:=Xz hlt
  rw [hx] at hl1 hh1
  repeat' (first|(apply nx;with_reducible constructor)|refine uq (by decide) ?_|((first|refine vx env fun Q hQ=>?_|refine vz fun Q hQ=>?_);simp only [vkt,seval,yA,QF,qf,qc,qj,qA,qh,qC,qa,qb,rnS,List.length_map,d1,k0,hx,hlt,e9];(try simp only [ite_and]);(repeat' (first|with_reducible assumption|refine And.intro ?_ ?_|intro hp));all_goals (first|(refine hQ _ ?_;clear hQ Q)|(refine hQ _ (fun h=>?_) (fun h=>?_) <;> clear hQ Q <;> (try simp only [vki,reduceCtorEq] at h))|(refine vq ?_;kernel_rfl)|omega|assumption|with_reducible rfl|skip)))
  refine ⟨⟨k+1,hlt⟩,by show l.length - (k+1) < l.length - k;omega, ?_⟩
  simp only [hl1,hh1]
  (refine Le.ok some [] ?_;constructor;all_goals (try simp only [vle,vkt,seval,yA,QF,qf,qc,qj,qA,qh,qC,qa,qb,rnS,List.length_map]))
  all_goals first|rfl|(simp;done)
 ·have d0:decide ((k:Int) < (l.length:Int))=false:=decide_eq_false (by omega)
  have hke:k=l.length:=by omega
  subst hke
  obtain ⟨g1,g2,g3,g4⟩:=hbd l.length (Nat.le_refl _)
  obtain ⟨lo,hlo⟩:∃ x,loK l l.length=x:=⟨_,rfl⟩
  obtain ⟨hi,hhi⟩:∃ x,hiK l l.length=x:=⟨_,rfl⟩
  rw [hlo] at g1 g2
  rw [hhi] at g3 g4
  obtain ⟨x,hx⟩:∃ x,c.cabins.getD lo.toNat default=x:=⟨_,rfl⟩
  have w1:IntKind.wrap .i64 (lo+1)=lo+1:=wrap64 (by omega) (by omega)
  simp only [hlo,hhi]
  by_cases c1:lo=hi
  ·rw [show (decide (lo=hi) || (decide (lo+1=hi) && (c.cabins.getD lo.toNat default).door))=true by simp [c1]]
   have d1:decide (lo=hi)=true:=decide_eq_true c1
   have d1':(lo == hi)=true:=by simpa using c1
   repeat' (first|(apply nx;with_reducible constructor)|refine uq (by decide) ?_|((first|refine vx env fun Q hQ=>?_|refine vz fun Q hQ=>?_);simp only [vkt,seval,yA,QF,qf,qc,qj,qA,qh,qC,qa,qb,rnS,List.length_map,d0,d1,d1',w1,hx,g1,g2];(try simp only [ite_and]);(repeat' (first|with_reducible assumption|refine And.intro ?_ ?_|intro hp));all_goals (first|(refine hQ _ ?_;clear hQ Q)|(refine hQ _ (fun h=>?_) (fun h=>?_) <;> clear hQ Q <;> (try simp only [vki,reduceCtorEq] at h))|(refine vq ?_;kernel_rfl)|omega|assumption|with_reducible rfl|skip)))
   (simp only [vrt,Tryz.results134,vkt,seval,yA,QF,qf,qc,qj,qA,qh,qC,qa,qb,rnS,List.length_map];refine Fin.val rfl ?_;(try simp only [AV.le,AV.leL]))
   all_goals first|rfl|(simp;done)
  ·have d1:decide (lo=hi)=false:=decide_eq_false c1
   have d1':(lo == hi)=false:=by simpa using c1
   by_cases c2:lo+1=hi
   ·rw [show (decide (lo=hi) || (decide (lo+1=hi) && (c.cabins.getD lo.toNat default).door))=x.door by rw [d1,hx,decide_eq_true c2];simp]
    have d2:decide (hi=lo+1)=true:=decide_eq_true c2.symm
    repeat' (first|(apply nx;with_reducible constructor)|refine uq (by decide) ?_|((first|refine vx env fun Q hQ=>?_|refine vz fun Q hQ=>?_);simp only [vkt,seval,yA,QF,qf,qc,qj,qA,qh,qC,qa,qb,rnS,List.length_map,d0,d1,d1',d2,w1,hx,g1,g2];(try simp only [ite_and]);(repeat' (first|with_reducible assumption|refine And.intro ?_ ?_|intro hp));all_goals (first|(refine hQ _ ?_;clear hQ Q)|(refine hQ _ (fun h=>?_) (fun h=>?_) <;> clear hQ Q <;> (try simp only [vki,reduceCtorEq] at h))|(refine vq ?_;kernel_rfl)|omega|assumption|with_reducible rfl|skip)))
    (simp only [vrt,Tryz.results134,vkt,seval,yA,QF,qf,qc,qj,qA,qh,qC,qa,qb,rnS,List.length_map];refine Fin.val rfl ?_;(try simp only [AV.le,AV.leL]))
    all_goals first|rfl|(simp;done)
   ·rw [show (decide (lo=hi) || (decide (lo+1=hi) && (c.cabins.getD lo.toNat default).door))=false by rw [d1,decide_eq_false c2];simp]
    have d2:decide (hi=lo+1)=false:=decide_eq_false fun h=>c2 h.symm
    repeat' (first|(apply nx;with_reducible constructor)|refine uq (by decide) ?_|((first|refine vx env fun Q hQ=>?_|refine vz fun Q hQ=>?_);simp only [vkt,seval,yA,QF,qf,qc,qj,qA,qh,qC,qa,qb,rnS,List.length_map,d0,d1,d1',d2,w1,hx,g1,g2];(try simp only [ite_and]);(repeat' (first|with_reducible assumption|refine And.intro ?_ ?_|intro hp));all_goals (first|(refine hQ _ ?_;clear hQ Q)|(refine hQ _ (fun h=>?_) (fun h=>?_) <;> clear hQ Q <;> (try simp only [vki,reduceCtorEq] at h))|(refine vq ?_;kernel_rfl)|omega|assumption|with_reducible rfl|skip)))
    (simp only [vrt,Tryz.results134,vkt,seval,yA,QF,qf,qc,qj,qA,qh,qC,qa,qb,rnS,List.length_map];refine Fin.val rfl ?_;(try simp only [AV.le,AV.leL]))
    all_goals first|rfl|(simp;done)
def kG:List AV→Prop × AV
 |[.agg [.sl c0,.v (.int .i64 c1),.sl c2],.sl l]=>(c0=(c0.map qx).map qh∧c2=(c2.map dTk).map eTk∧l=(l.map zA).map qj∧NearOk ((⟨(c0.map qx),c1,(c2.map dTk)⟩:Chart)).cabins (l.map zA),aB (QN ((⟨(c0.map qx),c1,(c2.map dTk)⟩:Chart)).cabins (l.map zA)))
 |_=>(False,.junk)
theorem QjF {A:Frm→Prop}:qE A Tryz.prog 134 (qR true kG):=qV fun vs hv h=>by
 clear hv
 unfold kG at h ⊢
 split at h
 ·rename_i c0 c1 c2 l;obtain ⟨q0,q1,q2,k0⟩:=h
  refine ⟨by first|trivial|(simp [AV.plain,AV.plainL,aI,aB,qB,qc,qo,qf,aTk,cTk];done)|(repeat' split) <;> simp [AV.plain,AV.plainL,aI,aB,qB,qc,qo,qf,aTk,cTk],fun _=>(by simp [AV.flat,AV.flatL,aI,aB]), ?_⟩
  have:=Qgi ((⟨(c0.map qx),c1,(c2.map dTk)⟩:Chart)) (l.map zA) k0
  simp only [qc,qW,qa,aI,qo,qb,← q0,← q1,← q2] at this
  first|exact this|(simp only [qc,qW,qa,aI,qo,qb,← q0,← q1,← q2];exact this)
 ·exact h.elim
def rtS (a:Ask) (l:List Bunk) (k:Nat):St:={ t:=asg [(1,qc l),(2,.ptr 0 0),(5,.row 1),(6,aI k)],h:=ql [(0,.cells (qg a)),(1,qp (Q9 a l k))],n:=2 }
def Qs:=vj @ty3 (vj @ty4 (vj @Qh (vj @QT (vj @QQ (vj @ZJ (vj @vU (vj @vo (vj @ti3.eq_1 (vj @ti4.eq_1 (vj @xW.eq_1 (vj @Qg.eq_1 (vj @kX.eq_1 (vj @QY.eq_1 (vj @vF.eq_1 @yK.eq_1))))))))))))))
def JH:=vj @aI.eq_1 (vj @aB.eq_1 (vj @zG.eq_1 (vj @Kr (@Q5))))
theorem Qh7 (a:Ask) (l:List Bunk) (hl:l.length≤100) (ha:a.sexes.length=l.length):FnV Tryz.prog 61 [qw a,qc l] (qo (Q9 a l l.length)):=by
 have env:Env (fun _=>True) Tryz.prog tyB (tab []):=qL trivial
 refine Fn.of (A:=fun _=>True) (n0:=0) (D:=noD) (Fn0 Tryz.func61 rfl (fun vs w=>by kernel_rfl) (by kernel_rfl)) (by simp) (by simp [AV.ids,AV.idsL,qw,qg,qc]) (fun i o h=>by cases h) (fun _ _ _ _=>trivial) qI ?_
 have hmx:(100000:Nat)≤maxLen:=by decide
 repeat' (first|(apply nx;with_reducible constructor)|refine uq (by decide) ?_|((first|refine vx env fun Q hQ=>?_|refine vz fun Q hQ=>?_);simp only [vkt,seval,Qs,JH,qf,qc,qj,qA,aTk,cTk,qo,eTk,rTk,qw,qg,qp,rtS,List.length_map];(try simp only [ite_and]);(repeat' (first|with_reducible assumption|refine And.intro ?_ ?_|intro hp));all_goals (first|(refine hQ _ ?_;clear hQ Q)|(refine hQ _ (fun h=>?_) (fun h=>?_) <;> clear hQ Q <;> (try simp only [vki,reduceCtorEq] at h))|(refine vq ?_;kernel_rfl)|omega|assumption|with_reducible rfl|skip)))
 refine qQ (fun k:{ k:Nat // k≤l.length }=>rtS a l k.1) (fun k=>l.length - k.1) ⟨0,Nat.zero_le _⟩ ?_ fun ⟨k,hk⟩=>?_
 ·simp only [rtS,show Q9 a l 0=[] from rfl]
  (refine Le.ok (fun i=>if i=1 then none else some i) [] ?_;constructor;all_goals (try simp only [vle,vkt,seval,Qs,JH,qf,qc,qj,qA,aTk,cTk,qo,eTk,rTk,qw,qg,qp,rtS,List.length_map]))
  all_goals first|rfl|(simp;done)
 simp only at hk ⊢
 have hS:=Qaa a l k
 have hT:=Qc4 a l k
 obtain ⟨T,hTe⟩:∃ T,Q9 a l k=T:=⟨_,rfl⟩
 rw [hTe] at hS hT
 simp only [rtS,hTe]
 by_cases hkl:k < l.length
 ·have d1:decide ((k:Int) < (l.length:Int))=true:=decide_eq_true (by omega)
  have d2:decide ((k:Int) < (a.sexes.length:Int))=true:=decide_eq_true (by omega)
  have e9:IntKind.wrap .i64 ((k:Int)+1)=((k+1:Nat):Int):=by rw [wrap64 (by omega) (by omega)];rfl
  have k0:((k:Int)).toNat=k:=rfl
  have hka:k < a.sexes.length:=by omega
  obtain ⟨b,hb⟩:∃ b,l.getD k default=b:=⟨_,rfl⟩
  rw [hb] at hS
  have hm:T.length+1≤maxLen:=by omega
  repeat' (first|(apply nx;with_reducible constructor)|refine uq (by decide) ?_|((first|refine vx env fun Q hQ=>?_|refine vz fun Q hQ=>?_);simp only [vkt,seval,Qs,JH,qf,qc,qj,qA,aTk,cTk,qo,eTk,rTk,qw,qg,qp,rtS,List.length_map,d1,d2,e9,k0,hkl,hka,hb,hm];(try simp only [ite_and]);(repeat' (first|with_reducible assumption|refine And.intro ?_ ?_|intro hp));all_goals (first|(refine hQ _ ?_;clear hQ Q)|(refine hQ _ (fun h=>?_) (fun h=>?_) <;> clear hQ Q <;> (try simp only [vki,reduceCtorEq] at h))|(refine vq ?_;kernel_rfl)|omega|assumption|with_reducible rfl|skip)))
  refine ⟨⟨k+1,hkl⟩,by show l.length - (k+1) < l.length - k;omega, ?_⟩
  simp only [rtS,hS]
  (refine Le.ok (fun i=>if i=1 then some 3 else some i) [] ?_;constructor;all_goals (try simp only [vle,vkt,seval,Qs,JH,qf,qc,qj,qA,aTk,cTk,qo,eTk,rTk,qw,qg,qp,rtS,List.length_map]))
  all_goals first|rfl|(rw [List.map_append];rfl)|(simp;done)|(intro i hi;rw [if_neg (by omega)];done)
 ·have d1:decide ((k:Int) < (l.length:Int))=false:=decide_eq_false (by omega)
  obtain rfl:k=l.length:=by omega
  rw [hTe]
  repeat' (first|(apply nx;with_reducible constructor)|refine uq (by decide) ?_|((first|refine vx env fun Q hQ=>?_|refine vz fun Q hQ=>?_);simp only [vkt,seval,Qs,JH,qf,qc,qj,qA,aTk,cTk,qo,eTk,rTk,qw,qg,qp,rtS,List.length_map,d1];(try simp only [ite_and]);(repeat' (first|with_reducible assumption|refine And.intro ?_ ?_|intro hp));all_goals (first|(refine hQ _ ?_;clear hQ Q)|(refine hQ _ (fun h=>?_) (fun h=>?_) <;> clear hQ Q <;> (try simp only [vki,reduceCtorEq] at h))|(refine vq ?_;kernel_rfl)|omega|assumption|with_reducible rfl|skip)))
  (simp only [vrt,Tryz.results61,vkt,seval,Qs,JH,qf,qc,qj,qA,aTk,cTk,qo,eTk,rTk,qw,qg,qp,rtS,List.length_map];refine Fin.val rfl ?_;(try simp only [AV.le,AV.leL]))
  all_goals first|rfl|(simp;done)|exact ⟨_,_,rfl⟩
def Zu:List AV→Prop × AV
 |[.agg [.v (.int .i64 a0),.v (.int .i64 a1),.v (.int .i64 a2),.sl a3,.v (.bool a4)],.sl l]=>(a3=(a3.map zf).map zG∧l=(l.map zA).map qj∧(l.map zA).length≤100∧((⟨a0,a1,a2,(a3.map zf),a4⟩:Ask)).sexes.length=(l.map zA).length,qo (Q9 ((⟨a0,a1,a2,(a3.map zf),a4⟩:Ask)) (l.map zA) (l.map zA).length))
 |_=>(False,.junk)
theorem erTks {A:Frm→Prop}:qE A Tryz.prog 61 (qR false Zu):=qV fun vs hv h=>by
 clear hv
 unfold Zu at h ⊢
 split at h
 ·rename_i a0 a1 a2 a3 a4 l;obtain ⟨q0,q1,k0,k1⟩:=h
  refine ⟨by first|trivial|(simp [AV.plain,AV.plainL,aI,aB,qB,qc,qo,qf,aTk,cTk];done)|(repeat' split) <;> simp [AV.plain,AV.plainL,aI,aB,qB,qc,qo,qf,aTk,cTk],fun h=>absurd h (by decide), ?_⟩
  have:=Qh7 ((⟨a0,a1,a2,(a3.map zf),a4⟩:Ask)) (l.map zA) k0 k1
  simp only [qw,aB,qc,aI,qB,qg,← q0,← q1] at this
  first|exact this|(simp only [qw,aB,qc,aI,qB,qg,← q0,← q1];exact this)
 ·exact h.elim
theorem Qi5 {α:Type} [Inhabited α] {l:List α} {p:α→Bool} (h:∀ j,j < l.length→p (l.getD j default)=false):l.any p=false:=List.any_eq_false.2 fun x hx=>by
 obtain ⟨j,hj,rfl⟩:=List.mem_iff_getElem.1 hx
 have:=h j hj
 rw [show l.getD j default=l[j] by simp [List.getD_eq_getElem?_getD,hj]] at this
 rw [this];simp
theorem Qfn {α:Type} [Inhabited α] {l:List α} {p:α→Bool} {k:Nat} (hk:k < l.length) (h:p (l.getD k default)=true):l.any p=true:=List.any_eq_true.2 ⟨_,vG hk,h⟩
def rsA (c:Chart) (t:Tk) (l:List Tk) (T:List (Nat × AV)):St:={ t:=asg (T++[(2,qo l),(4,.ptr 1 0),(6,aI 0)]),h:=ql [(0,.cells (qb c)),(1,.cells (cTk t))],n:=2 }
def zi:=vj @ty3 (vj @Qh (vj @yj (vj @Zj (vj @vU (vj @vo (vj @ti3.eq_1 (vj @xW.eq_1 (vj @jP.eq_1 (vj @Qy.eq_1 (vj @vF.eq_1 @yK.eq_1))))))))))
def jc:=vj @aI.eq_1 (@aB.eq_1)
theorem QfU (c:Chart) (t:Tk) (l:List Tk) (hc:CarOk c) (hl:l.length≤100):FnV Tryz.prog 135 [qa c,aTk t,qo l] (aI (zK c t l)):=by
 have env:Env (fun _=>True) Tryz.prog tyB (tab [(83,qR true zb),(133,qR true zw),(84,qR true zz),(120,qR true zx),(121,qR true wT)]):=qL ⟨Lr,Qdj,QgP,Qbc,Qi9,trivial⟩
 refine Fn.of (A:=fun _=>True) (n0:=0) (D:=noD) (Fn0 Tryz.func135 rfl (fun vs w=>by kernel_rfl) (by kernel_rfl)) (by simp) (by simp [AV.ids,AV.idsL,qa,qb,aTk,cTk,qo]) (fun i o h=>by cases h) (fun _ _ _ _=>trivial) qI ?_
 have et:(⟨t.party,t.sex,t.cab,t.bed,t.frm,t.to,t.dog⟩:Tk)=t:=rfl
 have ec:(⟨c.cabins,c.secs,c.sold⟩:Chart)=c:=rfl
 have eb:(⟨t.cab,t.bed⟩:Bunk)=⟨t.cab,t.bed⟩:=rfl
 have hc':=hc
 cases h1:inB t.party 1 99
 ·rw [show zK c t l=1 by simp [zK,h1]]
  repeat' (first|(apply nx;with_reducible constructor)|refine uq (by decide) ?_|((first|refine vx env fun Q hQ=>?_|refine vz fun Q hQ=>?_);simp only [vkt,seval,zi,jc,qf,aTk,cTk,qo,eTk,gTk,mTk,qd,qa,qb,rsA,zb,zw,zz,zx,wT,List.length_map,h1,et,ec];(try simp only [ite_and]);(repeat' (first|with_reducible assumption|refine And.intro ?_ ?_|intro hp));all_goals (first|(refine hQ _ ?_;clear hQ Q)|(refine hQ _ (fun h=>?_) (fun h=>?_) <;> clear hQ Q <;> (try simp only [vki,reduceCtorEq] at h))|(refine vq ?_;kernel_rfl)|omega|assumption|with_reducible rfl|skip)))
  (simp only [vrt,Tryz.results135,vkt,seval,zi,jc,qf,aTk,cTk,qo,eTk,gTk,mTk,qd,qa,qb,rsA,zb,zw,zz,zx,wT,List.length_map];refine Fin.val rfl ?_;(try simp only [AV.le,AV.leL]))
  all_goals first|rfl|(simp;done)
 cases h2:inB t.sex 1 2
 ·rw [show zK c t l=8 by simp [zK,h1,h2]]
  repeat' (first|(apply nx;with_reducible constructor)|refine uq (by decide) ?_|((first|refine vx env fun Q hQ=>?_|refine vz fun Q hQ=>?_);simp only [vkt,seval,zi,jc,qf,aTk,cTk,qo,eTk,gTk,mTk,qd,qa,qb,rsA,zb,zw,zz,zx,wT,List.length_map,h1,h2,et,ec];(try simp only [ite_and]);(repeat' (first|with_reducible assumption|refine And.intro ?_ ?_|intro hp));all_goals (first|(refine hQ _ ?_;clear hQ Q)|(refine hQ _ (fun h=>?_) (fun h=>?_) <;> clear hQ Q <;> (try simp only [vki,reduceCtorEq] at h))|(refine vq ?_;kernel_rfl)|omega|assumption|with_reducible rfl|skip)))
  (simp only [vrt,Tryz.results135,vkt,seval,zi,jc,qf,aTk,cTk,qo,eTk,gTk,mTk,qd,qa,qb,rsA,zb,zw,zz,zx,wT,List.length_map];refine Fin.val rfl ?_;(try simp only [AV.le,AV.leL]))
  all_goals first|rfl|(simp;done)
 cases h3:jT c.cabins t.cab t.bed
 ·rw [show zK c t l=3 by simp [zK,h1,h2,h3]]
  repeat' (first|(apply nx;with_reducible constructor)|refine uq (by decide) ?_|((first|refine vx env fun Q hQ=>?_|refine vz fun Q hQ=>?_);simp only [vkt,seval,zi,jc,qf,aTk,cTk,qo,eTk,gTk,mTk,qd,qa,qb,rsA,zb,zw,zz,zx,wT,List.length_map,h1,h2,h3,et,ec];(try simp only [ite_and]);(repeat' (first|with_reducible assumption|refine And.intro ?_ ?_|intro hp));all_goals (first|(refine hQ _ ?_;clear hQ Q)|(refine hQ _ (fun h=>?_) (fun h=>?_) <;> clear hQ Q <;> (try simp only [vki,reduceCtorEq] at h))|(refine vq ?_;kernel_rfl)|omega|assumption|with_reducible rfl|skip)))
  (simp only [vrt,Tryz.results135,vkt,seval,zi,jc,qf,aTk,cTk,qo,eTk,gTk,mTk,qd,qa,qb,rsA,zb,zw,zz,zx,wT,List.length_map];refine Fin.val rfl ?_;(try simp only [AV.le,AV.leL]))
  all_goals first|rfl|(simp;done)
 have hr:zK c t l=if kJ c.secs t.frm t.to ≠ 0 then kJ c.secs t.frm t.to else zB t l:=by unfold zK;simp [h1,h2,h3]
 rw [hr]
 obtain ⟨w,hw⟩:∃ w,kJ c.secs t.frm t.to=w:=⟨_,rfl⟩
 rw [hw]
 by_cases h5:w=0
 ·rw [if_neg (fun h=>h h5)]
  rw [h5] at hw
  unfold zB
  repeat' (first|(apply nx;with_reducible constructor)|refine uq (by decide) ?_|((first|refine vx env fun Q hQ=>?_|refine vz fun Q hQ=>?_);simp only [vkt,seval,zi,jc,qf,aTk,cTk,qo,eTk,gTk,mTk,qd,qa,qb,rsA,zb,zw,zz,zx,wT,List.length_map,h1,h2,h3,hw,et,ec,decide_true];(try simp only [ite_and]);(repeat' (first|with_reducible assumption|refine And.intro ?_ ?_|intro hp));all_goals (first|(refine hQ _ ?_;clear hQ Q)|(refine hQ _ (fun h=>?_) (fun h=>?_) <;> clear hQ Q <;> (try simp only [vki,reduceCtorEq] at h))|(refine vq ?_;kernel_rfl)|omega|assumption|with_reducible rfl|skip)))
  refine qQ (fun k:{ k:Nat // k≤l.length∧∀ j,j < k→yw t (l.getD j default)=false }=>rsA c t l [(8,aI k.1)]) (fun k=>l.length - k.1) ⟨0,Nat.zero_le _,fun j h=>absurd h (Nat.not_lt_zero _)⟩ ?_ fun ⟨k,hk,hno⟩=>?_
  ·simp only [rsA,List.cons_append,List.nil_append]
   (refine Le.ok some [] ?_;constructor;all_goals (try simp only [vle,vkt,seval,zi,jc,qf,aTk,cTk,qo,eTk,gTk,mTk,qd,qa,qb,rsA,zb,zw,zz,zx,wT,List.length_map]))
   all_goals first|rfl|(simp;done)
  simp only at hk hno ⊢
  simp only [rsA,List.cons_append,List.nil_append]
  by_cases hkl:k < l.length
  ·have d1:decide ((k:Int) < (l.length:Int))=true:=decide_eq_true (by omega)
   have e9:IntKind.wrap .i64 ((k:Int)+1)=((k+1:Nat):Int):=by rw [wrap64 (by omega) (by omega)];rfl
   have k0:((k:Int)).toNat=k:=rfl
   obtain ⟨x,hx⟩:∃ x,l.getD k default=x:=⟨_,rfl⟩
   have ex:(⟨x.party,x.sex,x.cab,x.bed,x.frm,x.to,x.dog⟩:Tk)=x:=rfl
   have hT:yw t x=(decide (x.cab=t.cab) && decide (x.bed=t.bed) && vT x t):=rfl
   cases q1:(decide (x.cab=t.cab) && decide (x.bed=t.bed)) with
   |false =>
    rw [q1,Bool.false_and] at hT
    repeat' (first|(apply nx;with_reducible constructor)|refine uq (by decide) ?_|((first|refine vx env fun Q hQ=>?_|refine vz fun Q hQ=>?_);simp only [vkt,seval,zi,jc,qf,aTk,cTk,qo,eTk,gTk,mTk,qd,qa,qb,rsA,zb,zw,zz,zx,wT,List.length_map,d1,e9,k0,hkl,hx,q1,et,ex];(try simp only [ite_and]);(repeat' (first|with_reducible assumption|refine And.intro ?_ ?_|intro hp));all_goals (first|(refine hQ _ ?_;clear hQ Q)|(refine hQ _ (fun h=>?_) (fun h=>?_) <;> clear hQ Q <;> (try simp only [vki,reduceCtorEq] at h))|(refine vq ?_;kernel_rfl)|omega|assumption|with_reducible rfl|skip)))
    refine ⟨⟨k+1,hkl,fun j hj=>?_⟩,by show l.length - (k+1) < l.length - k;omega, ?_⟩
    ·rcases Nat.lt_or_eq_of_le (Nat.le_of_lt_succ hj) with h|h
     ·exact hno j h
     ·rw [h,hx];exact hT
    simp only [rsA,List.cons_append,List.nil_append]
    (refine Le.ok some [] ?_;constructor;all_goals (try simp only [vle,vkt,seval,zi,jc,qf,aTk,cTk,qo,eTk,gTk,mTk,qd,qa,qb,rsA,zb,zw,zz,zx,wT,List.length_map]))
    all_goals first|rfl|(simp;done)
   |true =>
    cases q2:vT x t with
    |false =>
     rw [q1,q2,Bool.true_and] at hT
     repeat' (first|(apply nx;with_reducible constructor)|refine uq (by decide) ?_|((first|refine vx env fun Q hQ=>?_|refine vz fun Q hQ=>?_);simp only [vkt,seval,zi,jc,qf,aTk,cTk,qo,eTk,gTk,mTk,qd,qa,qb,rsA,zb,zw,zz,zx,wT,List.length_map,d1,e9,k0,hkl,hx,q1,q2,et,ex];(try simp only [ite_and]);(repeat' (first|with_reducible assumption|refine And.intro ?_ ?_|intro hp));all_goals (first|(refine hQ _ ?_;clear hQ Q)|(refine hQ _ (fun h=>?_) (fun h=>?_) <;> clear hQ Q <;> (try simp only [vki,reduceCtorEq] at h))|(refine vq ?_;kernel_rfl)|omega|assumption|with_reducible rfl|skip)))
     refine ⟨⟨k+1,hkl,fun j hj=>?_⟩,by show l.length - (k+1) < l.length - k;omega, ?_⟩
     ·rcases Nat.lt_or_eq_of_le (Nat.le_of_lt_succ hj) with h|h
      ·exact hno j h
      ·rw [h,hx];exact hT
     simp only [rsA,List.cons_append,List.nil_append]
     (refine Le.ok some [] ?_;constructor;all_goals (try simp only [vle,vkt,seval,zi,jc,qf,aTk,cTk,qo,eTk,gTk,mTk,qd,qa,qb,rsA,zb,zw,zz,zx,wT,List.length_map]))
     all_goals first|rfl|(simp;done)
    |true =>
     rw [q1,q2,Bool.true_and] at hT
     rw [if_pos (Qfn hkl (by rw [hx];exact hT))]
     repeat' (first|(apply nx;with_reducible constructor)|refine uq (by decide) ?_|((first|refine vx env fun Q hQ=>?_|refine vz fun Q hQ=>?_);simp only [vkt,seval,zi,jc,qf,aTk,cTk,qo,eTk,gTk,mTk,qd,qa,qb,rsA,zb,zw,zz,zx,wT,List.length_map,d1,e9,k0,hkl,hx,q1,q2,et,ex];(try simp only [ite_and]);(repeat' (first|with_reducible assumption|refine And.intro ?_ ?_|intro hp));all_goals (first|(refine hQ _ ?_;clear hQ Q)|(refine hQ _ (fun h=>?_) (fun h=>?_) <;> clear hQ Q <;> (try simp only [vki,reduceCtorEq] at h))|(refine vq ?_;kernel_rfl)|omega|assumption|with_reducible rfl|skip)))
     (simp only [vrt,Tryz.results135,vkt,seval,zi,jc,qf,aTk,cTk,qo,eTk,gTk,mTk,qd,qa,qb,rsA,zb,zw,zz,zx,wT,List.length_map];refine Fin.val rfl ?_;(try simp only [AV.le,AV.leL]))
     all_goals first|rfl|(simp;done)
  ·have d1:decide ((k:Int) < (l.length:Int))=false:=decide_eq_false (by omega)
   obtain rfl:k=l.length:=by omega
   rw [if_neg (by rw [Qi5 hno];decide)]
   repeat' (first|(apply nx;with_reducible constructor)|refine uq (by decide) ?_|((first|refine vx env fun Q hQ=>?_|refine vz fun Q hQ=>?_);simp only [vkt,seval,zi,jc,qf,aTk,cTk,qo,eTk,gTk,mTk,qd,qa,qb,rsA,zb,zw,zz,zx,wT,List.length_map,d1];(try simp only [ite_and]);(repeat' (first|with_reducible assumption|refine And.intro ?_ ?_|intro hp));all_goals (first|(refine hQ _ ?_;clear hQ Q)|(refine hQ _ (fun h=>?_) (fun h=>?_) <;> clear hQ Q <;> (try simp only [vki,reduceCtorEq] at h))|(refine vq ?_;kernel_rfl)|omega|assumption|with_reducible rfl|skip)))
   refine qQ (fun k:{ k:Nat // k≤l.length∧∀ j,j < k→(!xS (l.getD j default) t)=false }=>rsA c t l [(9,aI k.1)]) (fun k=>l.length - k.1) ⟨0,Nat.zero_le _,fun j h=>absurd h (Nat.not_lt_zero _)⟩ ?_ fun ⟨k,hk,hno⟩=>?_
   ·simp only [rsA,List.cons_append,List.nil_append]
    (refine Le.ok some [] ?_;constructor;all_goals (try simp only [vle,vkt,seval,zi,jc,qf,aTk,cTk,qo,eTk,gTk,mTk,qd,qa,qb,rsA,zb,zw,zz,zx,wT,List.length_map]))
    all_goals first|rfl|(simp;done)
   simp only at hk hno ⊢
   simp only [rsA,List.cons_append,List.nil_append]
   by_cases hkl:k < l.length
   ·have d1:decide ((k:Int) < (l.length:Int))=true:=decide_eq_true (by omega)
    have e9:IntKind.wrap .i64 ((k:Int)+1)=((k+1:Nat):Int):=by rw [wrap64 (by omega) (by omega)];rfl
    have k0:((k:Int)).toNat=k:=rfl
    obtain ⟨x,hx⟩:∃ x,l.getD k default=x:=⟨_,rfl⟩
    have ex:(⟨x.party,x.sex,x.cab,x.bed,x.frm,x.to,x.dog⟩:Tk)=x:=rfl
    cases q2:xS x t with
    |true =>
     repeat' (first|(apply nx;with_reducible constructor)|refine uq (by decide) ?_|((first|refine vx env fun Q hQ=>?_|refine vz fun Q hQ=>?_);simp only [vkt,seval,zi,jc,qf,aTk,cTk,qo,eTk,gTk,mTk,qd,qa,qb,rsA,zb,zw,zz,zx,wT,List.length_map,d1,e9,k0,hkl,hx,q2,et,ex];(try simp only [ite_and]);(repeat' (first|with_reducible assumption|refine And.intro ?_ ?_|intro hp));all_goals (first|(refine hQ _ ?_;clear hQ Q)|(refine hQ _ (fun h=>?_) (fun h=>?_) <;> clear hQ Q <;> (try simp only [vki,reduceCtorEq] at h))|(refine vq ?_;kernel_rfl)|omega|assumption|with_reducible rfl|skip)))
     refine ⟨⟨k+1,hkl,fun j hj=>?_⟩,by show l.length - (k+1) < l.length - k;omega, ?_⟩
     ·rcases Nat.lt_or_eq_of_le (Nat.le_of_lt_succ hj) with h|h
      ·exact hno j h
      ·rw [h,hx,q2];rfl
     simp only [rsA,List.cons_append,List.nil_append]
     (refine Le.ok some [] ?_;constructor;all_goals (try simp only [vle,vkt,seval,zi,jc,qf,aTk,cTk,qo,eTk,gTk,mTk,qd,qa,qb,rsA,zb,zw,zz,zx,wT,List.length_map]))
     all_goals first|rfl|(simp;done)
    |false =>
     rw [if_pos (Qfn (p:=fun x=>!xS x t) hkl (by rw [hx,q2];rfl))]
     repeat' (first|(apply nx;with_reducible constructor)|refine uq (by decide) ?_|((first|refine vx env fun Q hQ=>?_|refine vz fun Q hQ=>?_);simp only [vkt,seval,zi,jc,qf,aTk,cTk,qo,eTk,gTk,mTk,qd,qa,qb,rsA,zb,zw,zz,zx,wT,List.length_map,d1,e9,k0,hkl,hx,q2,et,ex];(try simp only [ite_and]);(repeat' (first|with_reducible assumption|refine And.intro ?_ ?_|intro hp));all_goals (first|(refine hQ _ ?_;clear hQ Q)|(refine hQ _ (fun h=>?_) (fun h=>?_) <;> clear hQ Q <;> (try simp only [vki,reduceCtorEq] at h))|(refine vq ?_;kernel_rfl)|omega|assumption|with_reducible rfl|skip)))
     (simp only [vrt,Tryz.results135,vkt,seval,zi,jc,qf,aTk,cTk,qo,eTk,gTk,mTk,qd,qa,qb,rsA,zb,zw,zz,zx,wT,List.length_map];refine Fin.val rfl ?_;(try simp only [AV.le,AV.leL]))
     all_goals first|rfl|(simp;done)
   ·have d1:decide ((k:Int) < (l.length:Int))=false:=decide_eq_false (by omega)
    obtain rfl:k=l.length:=by omega
    rw [if_neg (by rw [Qi5 (p:=fun x=>!xS x t) hno];decide)]
    repeat' (first|(apply nx;with_reducible constructor)|refine uq (by decide) ?_|((first|refine vx env fun Q hQ=>?_|refine vz fun Q hQ=>?_);simp only [vkt,seval,zi,jc,qf,aTk,cTk,qo,eTk,gTk,mTk,qd,qa,qb,rsA,zb,zw,zz,zx,wT,List.length_map,d1];(try simp only [ite_and]);(repeat' (first|with_reducible assumption|refine And.intro ?_ ?_|intro hp));all_goals (first|(refine hQ _ ?_;clear hQ Q)|(refine hQ _ (fun h=>?_) (fun h=>?_) <;> clear hQ Q <;> (try simp only [vki,reduceCtorEq] at h))|(refine vq ?_;kernel_rfl)|omega|assumption|with_reducible rfl|skip)))
    (simp only [vrt,Tryz.results135,vkt,seval,zi,jc,qf,aTk,cTk,qo,eTk,gTk,mTk,qd,qa,qb,rsA,zb,zw,zz,zx,wT,List.length_map];refine Fin.val rfl ?_;(try simp only [AV.le,AV.leL]))
    all_goals first|rfl|(simp;done)
 ·rw [if_pos h5]
  have d5:decide (w=0)=false:=decide_eq_false h5
  repeat' (first|(apply nx;with_reducible constructor)|refine uq (by decide) ?_|((first|refine vx env fun Q hQ=>?_|refine vz fun Q hQ=>?_);simp only [vkt,seval,zi,jc,qf,aTk,cTk,qo,eTk,gTk,mTk,qd,qa,qb,rsA,zb,zw,zz,zx,wT,List.length_map,h1,h2,h3,hw,d5,et,ec];(try simp only [ite_and]);(repeat' (first|with_reducible assumption|refine And.intro ?_ ?_|intro hp));all_goals (first|(refine hQ _ ?_;clear hQ Q)|(refine hQ _ (fun h=>?_) (fun h=>?_) <;> clear hQ Q <;> (try simp only [vki,reduceCtorEq] at h))|(refine vq ?_;kernel_rfl)|omega|assumption|with_reducible rfl|skip)))
  (simp only [vrt,Tryz.results135,vkt,seval,zi,jc,qf,aTk,cTk,qo,eTk,gTk,mTk,qd,qa,qb,rsA,zb,zw,zz,zx,wT,List.length_map];refine Fin.val rfl ?_;(try simp only [AV.le,AV.leL]))
  all_goals first|rfl|(simp;done)
def ZE:List AV→Prop × AV
 |[.agg [.sl c0,.v (.int .i64 c1),.sl c2],.agg [.v (.int .i64 t0),.v (.int .i64 t1),.v (.int .i64 t2),.v (.int .i64 t3),.v (.int .i64 t4),.v (.int .i64 t5),.v (.bool t6)],.sl l]=>(c0=(c0.map qx).map qh∧c2=(c2.map dTk).map eTk∧l=(l.map dTk).map eTk∧CarOk ((⟨(c0.map qx),c1,(c2.map dTk)⟩:Chart))∧(l.map dTk).length≤100,aI (zK ((⟨(c0.map qx),c1,(c2.map dTk)⟩:Chart)) (⟨t0,t1,t2,t3,t4,t5,t6⟩:Tk) (l.map dTk)))
 |_=>(False,.junk)
theorem Qkm {A:Frm→Prop}:qE A Tryz.prog 135 (qR true ZE):=qV fun vs hv h=>by
 clear hv
 unfold ZE at h ⊢
 split at h
 ·rename_i c0 c1 c2 t0 t1 t2 t3 t4 t5 t6 l;obtain ⟨q0,q1,q2,k0,k1⟩:=h
  refine ⟨by first|trivial|(simp [AV.plain,AV.plainL,aI,aB,qB,qc,qo,qf,aTk,cTk];done)|(repeat' split) <;> simp [AV.plain,AV.plainL,aI,aB,qB,qc,qo,qf,aTk,cTk],fun _=>(by simp [AV.flat,AV.flatL,aI,aB]), ?_⟩
  have:=QfU ((⟨(c0.map qx),c1,(c2.map dTk)⟩:Chart)) (⟨t0,t1,t2,t3,t4,t5,t6⟩:Tk) (l.map dTk) k0 k1
  simp only [aB,qW,qa,aI,aTk,qo,qb,cTk,← q0,← q1,← q2] at this
  first|exact this|(simp only [aB,qW,qa,aI,aTk,qo,qb,cTk,← q0,← q1,← q2];exact this)
 ·exact h.elim
def rkS (c:Chart) (l:List Tk) (k:Nat):St:={ t:=asg [(1,qo l),(2,.ptr 0 0),(4,aI 0),(5,aI k)],h:=ql [(0,.cells (qb c))],n:=1 }
def xE:=vj @ty3 (vj @Qh (vj @yj (vj @Zj (vj @vo (vj @ti3.eq_1 (vj @xW.eq_1 (vj @jP.eq_1 (vj @Qy.eq_1 @yK.eq_1))))))))
def ZP:=vj @aI.eq_1 (@aB.eq_1)
theorem QhR (c:Chart) (l:List Tk) (hc:CarOk c) (hl:l.length≤100):FnV Tryz.prog 112 [qa c,qo l] (aI (jO c l)):=by
 have env:Env (fun _=>True) Tryz.prog tyB (tab [(135,qR true ZE)]):=qL ⟨Qkm,trivial⟩
 refine Fn.of (A:=fun _=>True) (n0:=0) (D:=noD) (Fn0 Tryz.func112 rfl (fun vs w=>by kernel_rfl) (by kernel_rfl)) (by simp) (by simp [AV.ids,AV.idsL,qa,qb,qo]) (fun i o h=>by cases h) (fun _ _ _ _=>trivial) qI ?_
 have ec:(⟨c.cabins,c.secs,c.sold⟩:Chart)=c:=rfl
 repeat' (first|(apply nx;with_reducible constructor)|refine uq (by decide) ?_|((first|refine vx env fun Q hQ=>?_|refine vz fun Q hQ=>?_);simp only [vkt,seval,xE,ZP,aTk,cTk,qo,eTk,gTk,rTk,mTk,qd,qa,qb,rkS,ZE,List.length_map];(try simp only [ite_and]);(repeat' (first|with_reducible assumption|refine And.intro ?_ ?_|intro hp));all_goals (first|(refine hQ _ ?_;clear hQ Q)|(refine hQ _ (fun h=>?_) (fun h=>?_) <;> clear hQ Q <;> (try simp only [vki,reduceCtorEq] at h))|(refine vq ?_;kernel_rfl)|omega|assumption|with_reducible rfl|skip)))
 refine qQ (fun k:{ k:Nat // k≤l.length∧∀ j,j < k→zK c (l.getD j default) (l.take j)=0 }=>rkS c l k.1) (fun k=>l.length - k.1) ⟨0,Nat.zero_le _,fun j h=>absurd h (Nat.not_lt_zero _)⟩ ?_ fun ⟨k,hk,hno⟩=>?_
 ·(refine Le.ok some [] ?_;constructor;all_goals (try simp only [vle,vkt,seval,xE,ZP,aTk,cTk,qo,eTk,gTk,rTk,mTk,qd,qa,qb,rkS,ZE,List.length_map]))
  all_goals first|rfl|(simp;done)
 simp only at hk hno ⊢
 simp only [rkS]
 by_cases hlt:k < l.length
 ·have d1:decide ((k:Int) < (l.length:Int))=true:=decide_eq_true (by omega)
  have e9:IntKind.wrap .i64 ((k:Int)+1)=((k+1:Nat):Int):=by rw [wrap64 (by omega) (by omega)];rfl
  have k0:((k:Int)).toNat=k:=rfl
  obtain ⟨x,hx⟩:∃ x,l.getD k default=x:=⟨_,rfl⟩
  have ex:(⟨x.party,x.sex,x.cab,x.bed,x.frm,x.to,x.dog⟩:Tk)=x:=rfl
  have tk:List.take k (l.map eTk)=(l.take k).map eTk:=List.map_take.symm
  have t100:(l.take k).length≤100:=by rw [List.length_take];omega
  have hkl:k≤l.length:=hk
  have hg:=QdX (f:=fun i=>zK c (l.getD i default) (l.take i)) hlt
  obtain ⟨e,he⟩:∃ e,zK c x (l.take k)=e:=⟨_,rfl⟩
  by_cases h2:e=0
  ·rw [h2] at he
   repeat' (first|(apply nx;with_reducible constructor)|refine uq (by decide) ?_|((first|refine vx env fun Q hQ=>?_|refine vz fun Q hQ=>?_);simp only [vkt,seval,xE,ZP,aTk,cTk,qo,eTk,gTk,rTk,mTk,qd,qa,qb,rkS,ZE,List.length_map,d1,k0,hlt,hkl,hx,ex,ec,tk,he,e9,decide_true];(try simp only [ite_and]);(repeat' (first|with_reducible assumption|refine And.intro ?_ ?_|intro hp));all_goals (first|(refine hQ _ ?_;clear hQ Q)|(refine hQ _ (fun h=>?_) (fun h=>?_) <;> clear hQ Q <;> (try simp only [vki,reduceCtorEq] at h))|(refine vq ?_;kernel_rfl)|omega|assumption|with_reducible rfl|skip)))
   refine ⟨⟨k+1,hlt,fun j hj=>?_⟩,by show l.length - (k+1) < l.length - k;omega, ?_⟩
   ·rcases Nat.lt_or_eq_of_le (Nat.le_of_lt_succ hj) with h3|h3
    ·exact hno j h3
    ·rw [h3,hx];exact he
   ·(refine Le.ok some [] ?_;constructor;all_goals (try simp only [vle,vkt,seval,xE,ZP,aTk,cTk,qo,eTk,gTk,rTk,mTk,qd,qa,qb,rkS,ZE,List.length_map]))
    all_goals first|rfl|(simp;done)
  ·have hf:jO c l=e:=by
    unfold jO
    rw [kR (k:=k) (fun j hj=>by rw [QdX (by omega)];exact hno j hj) (by simpa using hlt) (by rw [hg,hx,he];exact h2),hg,hx,he]
   rw [hf]
   have d2:decide (e=0)=false:=decide_eq_false h2
   repeat' (first|(apply nx;with_reducible constructor)|refine uq (by decide) ?_|((first|refine vx env fun Q hQ=>?_|refine vz fun Q hQ=>?_);simp only [vkt,seval,xE,ZP,aTk,cTk,qo,eTk,gTk,rTk,mTk,qd,qa,qb,rkS,ZE,List.length_map,d1,k0,hlt,hkl,hx,ex,ec,tk,he,d2];(try simp only [ite_and]);(repeat' (first|with_reducible assumption|refine And.intro ?_ ?_|intro hp));all_goals (first|(refine hQ _ ?_;clear hQ Q)|(refine hQ _ (fun h=>?_) (fun h=>?_) <;> clear hQ Q <;> (try simp only [vki,reduceCtorEq] at h))|(refine vq ?_;kernel_rfl)|omega|assumption|with_reducible rfl|skip)))
   (simp only [vrt,Tryz.results112,vkt,seval,xE,ZP,aTk,cTk,qo,eTk,gTk,rTk,mTk,qd,qa,qb,rkS,ZE,List.length_map];refine Fin.val rfl ?_;(try simp only [AV.le,AV.leL]))
   all_goals first|rfl|(simp;done)
 ·have d1:decide ((k:Int) < (l.length:Int))=false:=decide_eq_false (by omega)
  have hke:k=l.length:=by omega
  subst hke
  rw [show jO c l=0 from y9 fun j hj=>by
   have hj':j < l.length:=by simpa using hj
   rw [QdX hj'];exact hno j hj']
  repeat' (first|(apply nx;with_reducible constructor)|refine uq (by decide) ?_|((first|refine vx env fun Q hQ=>?_|refine vz fun Q hQ=>?_);simp only [vkt,seval,xE,ZP,aTk,cTk,qo,eTk,gTk,rTk,mTk,qd,qa,qb,rkS,ZE,List.length_map,d1];(try simp only [ite_and]);(repeat' (first|with_reducible assumption|refine And.intro ?_ ?_|intro hp));all_goals (first|(refine hQ _ ?_;clear hQ Q)|(refine hQ _ (fun h=>?_) (fun h=>?_) <;> clear hQ Q <;> (try simp only [vki,reduceCtorEq] at h))|(refine vq ?_;kernel_rfl)|omega|assumption|with_reducible rfl|skip)))
  (simp only [vrt,Tryz.results112,vkt,seval,xE,ZP,aTk,cTk,qo,eTk,gTk,rTk,mTk,qd,qa,qb,rkS,ZE,List.length_map];refine Fin.val rfl ?_;(try simp only [AV.le,AV.leL]))
  all_goals first|rfl|(simp;done)
def xO:List AV→Prop × AV
 |[.agg [.sl c0,.v (.int .i64 c1),.sl c2],.sl l]=>(c0=(c0.map qx).map qh∧c2=(c2.map dTk).map eTk∧l=(l.map dTk).map eTk∧CarOk ((⟨(c0.map qx),c1,(c2.map dTk)⟩:Chart))∧(l.map dTk).length≤100,aI (jO ((⟨(c0.map qx),c1,(c2.map dTk)⟩:Chart)) (l.map dTk)))
 |_=>(False,.junk)
theorem QiX {A:Frm→Prop}:qE A Tryz.prog 112 (qR true xO):=qV fun vs hv h=>by
 clear hv
 unfold xO at h ⊢
 split at h
 ·rename_i c0 c1 c2 l;obtain ⟨q0,q1,q2,k0,k1⟩:=h
  refine ⟨by first|trivial|(simp [AV.plain,AV.plainL,aI,aB,qB,qc,qo,qf,aTk,cTk];done)|(repeat' split) <;> simp [AV.plain,AV.plainL,aI,aB,qB,qc,qo,qf,aTk,cTk],fun _=>(by simp [AV.flat,AV.flatL,aI,aB]), ?_⟩
  have:=QhR ((⟨(c0.map qx),c1,(c2.map dTk)⟩:Chart)) (l.map dTk) k0 k1
  simp only [qW,qa,aI,qo,qb,← q0,← q1,← q2] at this
  first|exact this|(simp only [qW,qa,aI,qo,qb,← q0,← q1,← q2];exact this)
 ·exact h.elim
def wO (c:Chart) (a:Ask) (l:List Bunk):Bool:=decide (l.length=a.sexes.length) && l.all (fun b=>jT c.cabins b.cab b.bed) && decide (jO c (c.sold++Q9 a l l.length)=0) && QN c.cabins l
theorem QbB {c:Chart} {a:Ask} {l:List Bunk} {k:Nat} (hk:k < l.length) (h:jT c.cabins (l.getD k default).cab (l.getD k default).bed=false):wO c a l=false:=by
 have:l.all (fun b=>jT c.cabins b.cab b.bed)=false:=by
  rw [List.all_eq_false]
  exact ⟨_,vG hk,by rw [h];decide⟩
 unfold wO
 rw [this];simp
def ipS (c:Chart) (a:Ask) (l:List Bunk) (k:Nat):St:={ t:=asg [(2,qc l),(3,.ptr 0 0),(4,.ptr 1 0),(6,aB false),(7,aI k)],h:=ql [(0,.cells (qb c)),(1,.cells (qg a))],n:=2 }
def wJ:=vj @ty3 (vj @Qh (vj @yj (vj @QT (vj @QQ (vj @Zj (vj @ZJ (vj @vU (vj @vo (vj @ti3.eq_1 (vj @xW.eq_1 (vj @jP.eq_1 (vj @Qg.eq_1 (vj @kX.eq_1 (vj @Qy.eq_1 (vj @QY.eq_1 (vj @vF.eq_1 @yK.eq_1))))))))))))))))
def kw:=vj @aI.eq_1 (vj @aB.eq_1 (@Q5))
theorem Qce (c:Chart) (a:Ask) (l:List Bunk) (hc:CarOk c) (hs:c.sold.length≤20) (ha:0 < a.sexes.length∧a.sexes.length≤20) (hl:l.length≤maxLen):FnV Tryz.prog 106 [qa c,qw a,qc l] (aB (wO c a l)):=by
 have env:Env (fun _=>True) Tryz.prog tyB (tab [(133,qR true zw),(61,qR false Zu),(112,qR true xO),(134,qR true kG)]):=qL ⟨Qdj,erTks,QiX,QjF,trivial⟩
 refine Fn.of (A:=fun _=>True) (n0:=0) (D:=noD) (Fn0 Tryz.func106 rfl (fun vs w=>by kernel_rfl) (by kernel_rfl)) (by simp) (by simp [AV.ids,AV.idsL,qa,qb,qw,qg,qc]) (fun i o h=>by cases h) (fun _ _ _ _=>trivial) qI ?_
 have ec:(⟨c.cabins,c.secs,c.sold⟩:Chart)=c:=rfl
 have ea:(⟨a.party,a.frm,a.to,a.sexes,a.dog⟩:Ask)=a:=rfl
 have hmx:(100000:Nat)≤maxLen:=by decide
 by_cases hn:l.length=a.sexes.length
 ·have d0:decide ((l.length:Int)=(a.sexes.length:Int))=true:=decide_eq_true (by omega)
  repeat' (first|(apply nx;with_reducible constructor)|refine uq (by decide) ?_|((first|refine vx env fun Q hQ=>?_|refine vz fun Q hQ=>?_);simp only [vkt,seval,wJ,kw,qf,qc,qj,qA,qF,qo,eTk,rTk,mTk,qd,qa,qb,qw,qg,ipS,zw,Zu,xO,kG,List.length_map,d0];(try simp only [ite_and]);(repeat' (first|with_reducible assumption|refine And.intro ?_ ?_|intro hp));all_goals (first|(refine hQ _ ?_;clear hQ Q)|(refine hQ _ (fun h=>?_) (fun h=>?_) <;> clear hQ Q <;> (try simp only [vki,reduceCtorEq] at h))|(refine vq ?_;kernel_rfl)|omega|assumption|with_reducible rfl|skip)))
  refine qQ (fun k:{ k:Nat // k≤l.length∧∀ j,j < k→jT c.cabins (l.getD j default).cab (l.getD j default).bed=true }=>ipS c a l k.1) (fun k=>l.length - k.1) ⟨0,Nat.zero_le _,fun j h=>absurd h (Nat.not_lt_zero _)⟩ ?_ fun ⟨k,hk,hno⟩=>?_
  ·(refine Le.ok some [] ?_;constructor;all_goals (try simp only [vle,vkt,seval,wJ,kw,qf,qc,qj,qA,qF,qo,eTk,rTk,mTk,qd,qa,qb,qw,qg,ipS,zw,Zu,xO,kG,List.length_map]))
   all_goals first|rfl|(simp;done)
  simp only at hk hno ⊢
  simp only [ipS]
  by_cases hlt:k < l.length
  ·have d1:decide ((k:Int) < (l.length:Int))=true:=decide_eq_true (by omega)
   have e9:IntKind.wrap .i64 ((k:Int)+1)=((k+1:Nat):Int):=by rw [wrap64 (by omega) (by omega)];rfl
   have k0:((k:Int)).toNat=k:=rfl
   have hP:=QbB (c:=c) (a:=a) hlt
   have hnk:=hno
   obtain ⟨x,hx⟩:∃ x,l.getD k default=x:=⟨_,rfl⟩
   rw [hx] at hP
   cases q:jT c.cabins x.cab x.bed with
   |true =>
    repeat' (first|(apply nx;with_reducible constructor)|refine uq (by decide) ?_|((first|refine vx env fun Q hQ=>?_|refine vz fun Q hQ=>?_);simp only [vkt,seval,wJ,kw,qf,qc,qj,qA,qF,qo,eTk,rTk,mTk,qd,qa,qb,qw,qg,ipS,zw,Zu,xO,kG,List.length_map,d1,k0,hlt,hx,ec,q,e9];(try simp only [ite_and]);(repeat' (first|with_reducible assumption|refine And.intro ?_ ?_|intro hp));all_goals (first|(refine hQ _ ?_;clear hQ Q)|(refine hQ _ (fun h=>?_) (fun h=>?_) <;> clear hQ Q <;> (try simp only [vki,reduceCtorEq] at h))|(refine vq ?_;kernel_rfl)|omega|assumption|with_reducible rfl|skip)))
    refine ⟨⟨k+1,hlt,fun j hj=>?_⟩,by show l.length - (k+1) < l.length - k;omega, ?_⟩
    ·rcases Nat.lt_or_eq_of_le (Nat.le_of_lt_succ hj) with h3|h3
     ·exact hno j h3
     ·rw [h3,hx];exact q
    ·(refine Le.ok some [] ?_;constructor;all_goals (try simp only [vle,vkt,seval,wJ,kw,qf,qc,qj,qA,qF,qo,eTk,rTk,mTk,qd,qa,qb,qw,qg,ipS,zw,Zu,xO,kG,List.length_map]))
     all_goals first|rfl|(simp;done)
   |false =>
    rw [hP q]
    repeat' (first|(apply nx;with_reducible constructor)|refine uq (by decide) ?_|((first|refine vx env fun Q hQ=>?_|refine vz fun Q hQ=>?_);simp only [vkt,seval,wJ,kw,qf,qc,qj,qA,qF,qo,eTk,rTk,mTk,qd,qa,qb,qw,qg,ipS,zw,Zu,xO,kG,List.length_map,d1,k0,hlt,hx,ec,q];(try simp only [ite_and]);(repeat' (first|with_reducible assumption|refine And.intro ?_ ?_|intro hp));all_goals (first|(refine hQ _ ?_;clear hQ Q)|(refine hQ _ (fun h=>?_) (fun h=>?_) <;> clear hQ Q <;> (try simp only [vki,reduceCtorEq] at h))|(refine vq ?_;kernel_rfl)|omega|assumption|with_reducible rfl|skip)))
    (simp only [vrt,Tryz.results106,vkt,seval,wJ,kw,qf,qc,qj,qA,qF,qo,eTk,rTk,mTk,qd,qa,qb,qw,qg,ipS,zw,Zu,xO,kG,List.length_map];refine Fin.val rfl ?_;(try simp only [AV.le,AV.leL]))
    all_goals first|rfl|(simp;done)
  ·have d1:decide ((k:Int) < (l.length:Int))=false:=decide_eq_false (by omega)
   obtain rfl:k=l.length:=by omega
   have hall:l.all (fun b=>jT c.cabins b.cab b.bed)=true:=by
    rw [List.all_eq_true]
    intro b hb
    obtain ⟨j,hj,rfl⟩:=List.mem_iff_getElem.1 hb
    have:=hno j hj
    rw [show l.getD j default=l[j] by simp [List.getD_eq_getElem?_getD,hj]] at this
    exact this
   have hcl:=hc.cabs
   have hnear:NearOk c.cabins l:=⟨by omega,by omega,by omega,fun b hb=>by
    have:=List.all_eq_true.1 hall b hb
    have:=KS this
    exact ⟨this.1,this.2.1⟩⟩
   have b1:l.length≤100:=by omega
   have b2:a.sexes.length=l.length:=hn.symm
   have hTl:=Qc4 a l l.length
   obtain ⟨T,hT⟩:∃ T,Q9 a l l.length=T:=⟨_,rfl⟩
   rw [hT] at hTl
   have b3:c.sold.length≤maxLen:=by omega
   have b4:c.sold.length+T.length≤maxLen:=by omega
   have b5:(c.sold++T).length≤100:=by rw [List.length_append];omega
   have hE:wO c a l=(decide (jO c (c.sold++T)=0) && QN c.cabins l):=by
    unfold wO
    rw [hall,decide_eq_true hn,hT];rfl
   rw [hE]
   have ma:List.map eTk c.sold++List.map eTk T=List.map eTk (c.sold++T):=by rw [List.map_append]
   cases q:decide (jO c (c.sold++T)=0) with
   |true =>
    repeat' (first|(apply nx;with_reducible constructor)|refine uq (by decide) ?_|((first|refine vx env fun Q hQ=>?_|refine vz fun Q hQ=>?_);simp only [vkt,seval,wJ,kw,qf,qc,qj,qA,qF,qo,eTk,rTk,mTk,qd,qa,qb,qw,qg,ipS,zw,Zu,xO,kG,List.length_map,d1,ec,ea,b1,b2,hT,b3,b4,b5,ma,q,hnear];(try simp only [ite_and]);(repeat' (first|with_reducible assumption|refine And.intro ?_ ?_|intro hp));all_goals (first|(refine hQ _ ?_;clear hQ Q)|(refine hQ _ (fun h=>?_) (fun h=>?_) <;> clear hQ Q <;> (try simp only [vki,reduceCtorEq] at h))|(refine vq ?_;kernel_rfl)|omega|assumption|with_reducible rfl|skip)))
    (simp only [vrt,Tryz.results106,vkt,seval,wJ,kw,qf,qc,qj,qA,qF,qo,eTk,rTk,mTk,qd,qa,qb,qw,qg,ipS,zw,Zu,xO,kG,List.length_map];refine Fin.val rfl ?_;(try simp only [AV.le,AV.leL]))
    all_goals first|rfl|(simp;done)
   |false =>
    repeat' (first|(apply nx;with_reducible constructor)|refine uq (by decide) ?_|((first|refine vx env fun Q hQ=>?_|refine vz fun Q hQ=>?_);simp only [vkt,seval,wJ,kw,qf,qc,qj,qA,qF,qo,eTk,rTk,mTk,qd,qa,qb,qw,qg,ipS,zw,Zu,xO,kG,List.length_map,d1,ec,ea,b1,b2,hT,b3,b4,b5,ma,q,hnear];(try simp only [ite_and]);(repeat' (first|with_reducible assumption|refine And.intro ?_ ?_|intro hp));all_goals (first|(refine hQ _ ?_;clear hQ Q)|(refine hQ _ (fun h=>?_) (fun h=>?_) <;> clear hQ Q <;> (try simp only [vki,reduceCtorEq] at h))|(refine vq ?_;kernel_rfl)|omega|assumption|with_reducible rfl|skip)))
    (simp only [vrt,Tryz.results106,vkt,seval,wJ,kw,qf,qc,qj,qA,qF,qo,eTk,rTk,mTk,qd,qa,qb,qw,qg,ipS,zw,Zu,xO,kG,List.length_map];refine Fin.val rfl ?_;(try simp only [AV.le,AV.leL]))
    all_goals first|rfl|(simp;done)
 ·have d0:decide ((l.length:Int)=(a.sexes.length:Int))=false:=decide_eq_false (by omega)
  have hE:wO c a l=false:=by unfold wO;rw [decide_eq_false hn];rfl
  rw [hE]
  repeat' (first|(apply nx;with_reducible constructor)|refine uq (by decide) ?_|((first|refine vx env fun Q hQ=>?_|refine vz fun Q hQ=>?_);simp only [vkt,seval,wJ,kw,qf,qc,qj,qA,qF,qo,eTk,rTk,mTk,qd,qa,qb,qw,qg,ipS,zw,Zu,xO,kG,List.length_map,d0];(try simp only [ite_and]);(repeat' (first|with_reducible assumption|refine And.intro ?_ ?_|intro hp));all_goals (first|(refine hQ _ ?_;clear hQ Q)|(refine hQ _ (fun h=>?_) (fun h=>?_) <;> clear hQ Q <;> (try simp only [vki,reduceCtorEq] at h))|(refine vq ?_;kernel_rfl)|omega|assumption|with_reducible rfl|skip)))
  (simp only [vrt,Tryz.results106,vkt,seval,wJ,kw,qf,qc,qj,qA,qF,qo,eTk,rTk,mTk,qd,qa,qb,qw,qg,ipS,zw,Zu,xO,kG,List.length_map];refine Fin.val rfl ?_;(try simp only [AV.le,AV.leL]))
  all_goals first|rfl|(simp;done)
def xG:List AV→Prop × AV
 |[.agg [.sl c0,.v (.int .i64 c1),.sl c2],.agg [.v (.int .i64 a0),.v (.int .i64 a1),.v (.int .i64 a2),.sl a3,.v (.bool a4)],.sl l]=>(c0=(c0.map qx).map qh∧c2=(c2.map dTk).map eTk∧a3=(a3.map zf).map zG∧l=(l.map zA).map qj∧CarOk ((⟨(c0.map qx),c1,(c2.map dTk)⟩:Chart))∧((⟨(c0.map qx),c1,(c2.map dTk)⟩:Chart)).sold.length≤20∧0 < ((⟨a0,a1,a2,(a3.map zf),a4⟩:Ask)).sexes.length∧((⟨a0,a1,a2,(a3.map zf),a4⟩:Ask)).sexes.length≤20∧(l.map zA).length≤maxLen,aB (wO ((⟨(c0.map qx),c1,(c2.map dTk)⟩:Chart)) ((⟨a0,a1,a2,(a3.map zf),a4⟩:Ask)) (l.map zA)))
 |_=>(False,.junk)
theorem Qgc {A:Frm→Prop}:qE A Tryz.prog 106 (qR true xG):=qV fun vs hv h=>by
 clear hv
 unfold xG at h ⊢
 split at h
 ·rename_i c0 c1 c2 a0 a1 a2 a3 a4 l;obtain ⟨q0,q1,q2,q3,k0,k1,k2,k3,k4⟩:=h
  refine ⟨by first|trivial|(simp [AV.plain,AV.plainL,aI,aB,qB,qc,qo,qf,aTk,cTk];done)|(repeat' split) <;> simp [AV.plain,AV.plainL,aI,aB,qB,qc,qo,qf,aTk,cTk],fun _=>(by simp [AV.flat,AV.flatL,aI,aB]), ?_⟩
  have:=Qce ((⟨(c0.map qx),c1,(c2.map dTk)⟩:Chart)) ((⟨a0,a1,a2,(a3.map zf),a4⟩:Ask)) (l.map zA) k0 k1 ⟨k2,k3⟩ k4
  simp only [qw,aB,qc,qW,qa,aI,qB,qo,qg,qb,← q0,← q1,← q2,← q3] at this
  first|exact this|(simp only [qw,aB,qc,qW,qa,aI,qB,qo,qg,qb,← q0,← q1,← q2,← q3];exact this)
 ·exact h.elim
def stB (a b:Tk) (s:Int):Bool:=decide (a.cab=b.cab) && !decide (s < a.frm) && !decide (a.to≤s) && !decide (s < b.frm) && !decide (b.to≤s) && (decide (a.bed=b.bed) || (!decide (a.party=b.party) && (!decide (a.sex=b.sex) || a.dog || b.dog)))
def prB (c:Chart) (a b:Tk):Bool:=(List.range c.secs.toNat).any fun (s:Nat)=>stB a b s
def rwB (c:Chart) (i:Nat):Bool:=(List.range i).any fun k=>prB c (c.sold.getD i default) (c.sold.getD k default)
def strB (c:Chart):Bool:=(List.range c.sold.length).any (rwB c)
def Wz (c:Chart) (a:Ask) (l:List Bunk):Bool:=QN c.cabins l && !strB ⟨c.cabins,c.secs,c.sold++Q9 a l l.length⟩
def YD (cs:List Cabin) (a:Ask):List Tk→List Bunk→List Bunk→Bool
 |_,_,[]=>true
 |sold,begun,b :: r=>goB cs a sold begun b && YD cs a (sold++[kS a begun.length b]) (begun++[b]) r
theorem QaB (cs:List Cabin) (a:Ask):∀ (m:Nat) (sold:List Tk) (begun:List Bunk),(wZ cs a m sold begun).map (·.1)=((alL (qN cs) m).filter (YD cs a sold begun)).map (begun++·)
 |0,sold,begun=>by
  show [begun]=(([[]]:List (List Bunk)).filter (YD cs a sold begun)).map (begun++·)
  rw [List.filter_cons_of_pos (by rfl)]
  simp
 |m+1,sold,begun=>by
  rw [Qv,alL,List.map_flatMap,List.filter_flatMap,List.map_flatMap]
  refine congrArg (List.flatMap · (qN cs)) (funext fun b=>?_)
  unfold gbL
  cases h:goB cs a sold begun b with
  |true =>
   rw [if_pos rfl,QaB cs a m,List.filter_map,List.map_map]
   have e1:(YD cs a sold begun ∘ fun x=>b :: x)=YD cs a (sold++[kS a begun.length b]) (begun++[b]):=funext fun r=>by
    show YD cs a sold begun (b :: r)=_
    rw [YD,h,Bool.true_and]
   rw [e1]
   refine congrArg (List.map · _) (funext fun r=>?_)
   show (begun++[b])++r=begun++b :: r
   simp
  |false =>
   rw [if_neg (by decide),List.filter_map]
   have e1:(YD cs a sold begun ∘ fun x=>b :: x)=fun _=>false:=funext fun r=>by
    show YD cs a sold begun (b :: r)=_
    rw [YD,h,Bool.false_and]
   rw [e1]
   simp
def PWr:List Tk→List Tk→Prop
 |_,[]=>True
 |s,t :: ts=>zB t s=0∧PWr (s++[t]) ts
theorem Qdq:∀ (s l r:List Tk),PWr s (l++r) ↔ PWr s l∧PWr (s++l) r
 |s,[],r=>by simp [PWr]
 |s,t :: l,r=>by
  show zB t s=0∧PWr (s++[t]) (l++r) ↔ (zB t s=0∧PWr (s++[t]) l)∧PWr (s++t :: l) r
  rw [Qdq (s++[t]) l r,and_assoc]
  simp
theorem YS:∀ (s l:List Tk),PWr s l ↔ ∀ i,i < l.length→zB (l.getD i default) (s++l.take i)=0
 |s,[]=>by simp [PWr]
 |s,t :: l=>by
  show zB t s=0∧PWr (s++[t]) l ↔ _
  rw [YS (s++[t]) l]
  constructor
  ·rintro ⟨h1,h2⟩ i hi
   cases i with
   |zero=>simpa using h1
   |succ i =>
    have:=h2 i (by simpa using hi)
    simpa using this
  ·intro h
   refine ⟨by simpa using h 0 (by simp),fun i hi=>?_⟩
   have:=h (i+1) (by simpa using hi)
   simpa using this
def tkR (a:Ask):Nat→List Bunk→List Tk
 |_,[]=>[]
 |n,b :: r=>kS a n b :: tkR a (n+1) r
theorem Qdz (a:Ask):∀ (n:Nat) (l r:List Bunk),tkR a n (l++r)=tkR a n l++tkR a (n+l.length) r
 |n,[],r=>by simp [tkR]
 |n,b :: l,r=>by
  show kS a n b :: tkR a (n+1) (l++r)=_
  rw [Qdz a (n+1) l r]
  simp [tkR,Nat.add_assoc,Nat.add_comm 1]
theorem Uk (a:Ask) (l:List Bunk):∀ k,k≤l.length→Q9 a l k=tkR a 0 (l.take k)
 |0,_=>by simp [Q9,tkR]
 |k+1,h=>by
  rw [Qaa,Uk a l k (by omega),List.take_succ_eq_append_getElem h,Qdz,List.length_take]
  have hk:k < l.length:=h
  simp [tkR,List.getD_eq_getElem?_getD,hk,Nat.min_eq_left (show k≤l.length by omega)]
theorem V3 {a:Ask} {t:Tk}:∀ {n:Nat} {l:List Bunk},t ∈ tkR a n l→∃ i b,i < l.length∧b ∈ l∧t=kS a (n+i) b
 |n,[],h=>by simp [tkR] at h
 |n,b :: l,h=>by
  rcases List.mem_cons.1 h with rfl|h
  ·exact ⟨0,b,by simp,by simp,rfl⟩
  ·obtain ⟨i,b',h1,h2,h3⟩:=V3 h
   exact ⟨i+1,b',by simpa using h1,List.mem_cons_of_mem _ h2,by rw [h3,show n+1+i=n+(i+1) by omega]⟩
theorem Qdn (l:List Bunk):∀ m:Int,l.foldl (fun m b=>min m b.cab) m≤m:=by
 induction l with
 |nil=>intro m;exact Int.le_refl _
 |cons b l ih=>intro m;have:=ih (min m b.cab);rw [List.foldl_cons];omega
theorem Qdb (l:List Bunk):∀ m:Int,m≤l.foldl (fun m b=>max m b.cab) m:=by
 induction l with
 |nil=>intro m;exact Int.le_refl _
 |cons b l ih=>intro m;have:=ih (max m b.cab);rw [List.foldl_cons];omega
theorem QfM {cs:List Cabin} {l r:List Bunk} (h:QN cs (l++r)=true) (hl:l ≠ []):QN cs l=true:=by
 have h0:(l++r).getD 0 default=l.getD 0 default:=by
  cases l with
  |nil=>exact absurd rfl hl
  |cons b l=>rfl
 unfold QN at h ⊢
 simp only [h0,List.foldl_append] at h ⊢
 have g1:=Qdn r (l.foldl (fun m b=>min m b.cab) (l.getD 0 default).cab)
 have g2:=Qdb r (l.foldl (fun m b=>max m b.cab) (l.getD 0 default).cab)
 have g3:=Qdn l (l.getD 0 default).cab
 have g4:=Qdb l (l.getD 0 default).cab
 generalize l.foldl (fun m b=>min m b.cab) (l.getD 0 default).cab=lo at *
 generalize l.foldl (fun m b=>max m b.cab) (l.getD 0 default).cab=hi at *
 generalize r.foldl (fun m b=>min m b.cab) lo=lo2 at *
 generalize r.foldl (fun m b=>max m b.cab) hi=hi2 at *
 rw [Bool.or_eq_true,Bool.and_eq_true,decide_eq_true_eq,decide_eq_true_eq] at h ⊢
 rcases h with h|⟨h,hd⟩
 ·exact .inl (by omega)
 ·by_cases he:lo=hi
  ·exact .inl he
  ·have:lo=lo2:=by omega
   exact .inr ⟨by omega,by rw [this];exact hd⟩
theorem Qdy {cs:List Cabin} {a:Ask} (hw:a.frm < a.to):∀ (r:List Bunk) (sold:List Tk) (begun:List Bunk),(∀ b ∈ begun,∃ x ∈ sold,x.cab=b.cab∧x.bed=b.bed∧x.frm=a.frm∧x.to=a.to) →
  (YD cs a sold begun r=true ↔ PWr sold (tkR a begun.length r)∧(r ≠ []→QN cs (begun++r)=true))
 |[],sold,begun,_=>by simp [YD,tkR,PWr]
 |b :: r,sold,begun,hb=>by
  have hb':∀ b' ∈ begun++[b],∃ x ∈ sold++[kS a begun.length b],x.cab=b'.cab∧x.bed=b'.bed∧x.frm=a.frm∧x.to=a.to:=fun b' h=>by
   rcases List.mem_append.1 h with h|h
   ·obtain ⟨x,h1,h2⟩:=hb b' h
    exact ⟨x,List.mem_append.2 (.inl h1),h2⟩
   ·rw [List.mem_singleton.1 h]
    exact ⟨_,List.mem_append.2 (.inr (List.mem_singleton.2 rfl)),rfl,rfl,rfl,rfl⟩
  have ih:=Qdy (cs:=cs) hw r (sold++[kS a begun.length b]) (begun++[b]) hb'
  rw [YD,Bool.and_eq_true,ih]
  have el:(begun++[b]).length=begun.length+1:=by simp
  rw [el]
  show _ ↔ (zB (kS a begun.length b) sold=0∧PWr (sold++[kS a begun.length b]) (tkR a (begun.length+1) r))∧_
  have ea:begun++[b]++r=begun++b :: r:=by simp
  rw [ea]
  unfold goB
  rw [Bool.and_eq_true,Bool.and_eq_true,decide_eq_true_eq]
  constructor
  ·rintro ⟨⟨⟨_,h2⟩,h3⟩,h4,h5⟩
   refine ⟨⟨h3,h4⟩,fun _=>?_⟩
   cases r with
   |nil=>exact h2
   |cons b2 r=>exact h5 (by simp)
  ·rintro ⟨⟨h3,h4⟩,h5⟩
   have h5:=h5 (by simp)
   refine ⟨⟨⟨?_, ?_⟩,h3⟩,h4,fun _=>h5⟩
   ·cases hc:begun.contains b with
    |false=>rfl
    |true =>
     obtain ⟨x,hx,g1,g2,g3,g4⟩:=hb b (by simpa using hc)
     have:=(ZQ.1 h3 x hx).1
     unfold yw vT kS at this
     simp [g1,g2,g3,g4,hw] at this
   ·refine QfM (r:=r) ?_ (by simp)
    rw [ea];exact h5
theorem Qi1 {secs:Int} {t x:Tk} (ht:0≤t.frm∧t.frm < t.to∧t.to≤secs) (hx:0≤x.frm∧x.frm < x.to∧x.to≤secs):(∀ s:Nat,s < secs.toNat→stB t x s=false) ↔ yw t x=false∧xS x t=true:=by
 constructor
 ·intro h
  cases hm:vT x t with
  |false =>
   unfold yw xS
   rw [hm];simp
  |true =>
   have hm2:=hm
   unfold vT at hm2
   rw [Bool.and_eq_true,decide_eq_true_eq,decide_eq_true_eq] at hm2
   obtain ⟨s,hs⟩:∃ s:Nat,(s:Int)=max t.frm x.frm:=⟨(max t.frm x.frm).toNat,by omega⟩
   have:=h s (by omega)
   unfold stB at this
   rw [decide_eq_false (show ¬ (s:Int) < t.frm by omega),decide_eq_false (show ¬ t.to≤(s:Int) by omega),decide_eq_false (show ¬ (s:Int) < x.frm by omega),decide_eq_false (show ¬ x.to≤(s:Int) by omega)] at this
   have e1:decide (x.cab=t.cab)=decide (t.cab=x.cab):=by rw [decide_eq_decide];exact eq_comm
   have e2:decide (x.bed=t.bed)=decide (t.bed=x.bed):=by rw [decide_eq_decide];exact eq_comm
   have e3:decide (x.party=t.party)=decide (t.party=x.party):=by rw [decide_eq_decide];exact eq_comm
   have e4:decide (x.sex=t.sex)=decide (t.sex=x.sex):=by rw [decide_eq_decide];exact eq_comm
   have e5:decide (x.cab ≠ t.cab)=!decide (t.cab=x.cab):=by rw [decide_not,e1]
   unfold yw xS
   rw [hm,e5,e1,e2,e3,e4]
   revert this
   generalize decide (t.cab=x.cab)=A
   generalize decide (t.bed=x.bed)=B
   generalize decide (t.party=x.party)=C
   generalize decide (t.sex=x.sex)=D
   generalize x.dog=E
   generalize t.dog=F
   revert A B C D E F
   decide
 ·rintro ⟨h1,h2⟩ s _
  have e1:decide (x.cab=t.cab)=decide (t.cab=x.cab):=by rw [decide_eq_decide];exact eq_comm
  have e2:decide (x.bed=t.bed)=decide (t.bed=x.bed):=by rw [decide_eq_decide];exact eq_comm
  have e3:decide (x.party=t.party)=decide (t.party=x.party):=by rw [decide_eq_decide];exact eq_comm
  have e4:decide (x.sex=t.sex)=decide (t.sex=x.sex):=by rw [decide_eq_decide];exact eq_comm
  have e5:decide (x.cab ≠ t.cab)=!decide (t.cab=x.cab):=by rw [decide_not,e1]
  cases hm:vT x t with
  |false =>
   unfold stB
   by_cases g1:(s:Int) < t.frm
   ·simp [g1]
   by_cases g2:t.to≤(s:Int)
   ·simp [g2]
   by_cases g3:(s:Int) < x.frm
   ·simp [g3]
   by_cases g4:x.to≤(s:Int)
   ·simp [g4]
   exfalso
   unfold vT at hm
   rw [decide_eq_true (show x.frm < t.to by omega),decide_eq_true (show t.frm < x.to by omega)] at hm
   exact absurd hm (by decide)
  |true =>
   unfold yw at h1
   unfold xS at h2
   rw [hm,e1,e2] at h1
   rw [hm,e5,e3,e4] at h2
   unfold stB
   generalize decide ((s:Int) < t.frm)=G
   generalize decide (t.to≤(s:Int))=H
   generalize decide ((s:Int) < x.frm)=I
   generalize decide (x.to≤(s:Int))=J
   revert h1 h2
   generalize decide (t.cab=x.cab)=A
   generalize decide (t.bed=x.bed)=B
   generalize decide (t.party=x.party)=C
   generalize decide (t.sex=x.sex)=D
   generalize x.dog=E
   generalize t.dog=F
   revert A B C D E F G H I J
   decide
theorem UM {cs:List Cabin} {secs:Int} {l:List Tk} (h:∀ t ∈ l,0≤t.frm∧t.frm < t.to∧t.to≤secs):strB ⟨cs,secs,l⟩=false ↔ PWr [] l:=by
 rw [YS]
 unfold strB
 rw [List.any_eq_false]
 have hg:∀ {i:Nat},i < l.length→l.getD i default ∈ l:=fun hi=>vG hi
 constructor
 ·intro hs i hi
  rw [List.nil_append,ZQ]
  intro x hx
  obtain ⟨k,hk,rfl⟩:=List.mem_iff_getElem.1 hx
  rw [List.length_take] at hk
  have h1:=hs i (List.mem_range.2 hi)
  unfold rwB at h1
  rw [Bool.not_eq_true,List.any_eq_false] at h1
  have h2:=h1 k (List.mem_range.2 (by omega))
  have ek:l.getD k default=(l.take i)[k]'(by rw [List.length_take];omega):=by simp [List.getD_eq_getElem?_getD,show k < l.length by omega]
  unfold prB at h2
  rw [Bool.not_eq_true,List.any_eq_false] at h2
  simp only at h2
  rw [← ek]
  refine (Qi1 (h _ (hg hi)) (h _ (hg (show k < l.length by omega)))).1 fun s hs=>?_
  have:=h2 s (List.mem_range.2 hs)
  simpa using this
 ·intro hp i hi
  have hi:=List.mem_range.1 hi
  unfold rwB
  rw [Bool.not_eq_true,List.any_eq_false]
  intro k hk
  have hk:=List.mem_range.1 hk
  unfold prB
  rw [Bool.not_eq_true,List.any_eq_false]
  intro s hs
  have hi':i < l.length:=hi
  have h1:=hp i hi'
  rw [List.nil_append,ZQ] at h1
  have hkl:k < l.length:=by omega
  have h2:=h1 (l.getD k default) (by
   rw [List.mem_iff_getElem]
   exact ⟨k,by rw [List.length_take];omega,by simp [List.getD_eq_getElem?_getD,hkl]⟩)
  have:=(Qi1 (h _ (hg hi')) (h _ (hg hkl))).2 h2 s (List.mem_range.1 hs)
  simpa using this
theorem Qgw {c:Chart} (hv:Val c):∀ t ∈ c.sold,0≤t.frm∧t.frm < t.to∧t.to≤c.secs:=fun t ht=>by
 have:=hv.tk t ht
 exact ⟨this.frm,this.way,this.to⟩
theorem Qia {c:Chart} (h:zW c=0):PWr [] c.sold:=by
 rw [YS]
 intro i hi
 unfold zW at h
 split at h
 ·exact absurd h ‹_›
 rw [List.nil_append]
 exact (Yl h i hi).2
theorem UK {bs:List Bunk}:∀ {m:Nat} {l:List Bunk},l ∈ alL bs m→∀ b ∈ l,b ∈ bs
 |0,l,hl,b,hb=>by rw [List.mem_singleton.1 hl] at hb;simp at hb
 |m+1,l,hl,b,hb=>by
  obtain ⟨b0,h0,hl⟩:=List.mem_flatMap.1 hl
  obtain ⟨q,hq,rfl⟩:=List.mem_map.1 hl
  rcases List.mem_cons.1 hb with rfl|hb
  ·exact h0
  ·exact UK hq b hb
theorem QfP {c:Chart} {a:Ask} (h:zN c a=0) {l:List Bunk} (hl:l ∈ alL (qN c.cabins) a.sexes.length) (hne:l ≠ []):YD c.cabins a c.sold [] l=Wz c a l:=by
 have hc:=(yZ h).1
 have hv:=xR hc
 have hw:=JZ h
 have hll:=ZM l hl
 have hT:Q9 a l l.length=tkR a 0 l:=by rw [Uk a l l.length (Nat.le_refl _),List.take_length]
 have hways:∀ t ∈ c.sold++Q9 a l l.length,0≤t.frm∧t.frm < t.to∧t.to≤c.secs:=fun t ht=>by
  rcases List.mem_append.1 ht with ht|ht
  ·exact Qgw hv t ht
  ·rw [hT] at ht
   obtain ⟨i,b,_,_,rfl⟩:=V3 ht
   exact hw
 rw [Bool.eq_iff_iff,Qdy hw.2.1 l c.sold [] (fun b hb=>by simp at hb)]
 unfold Wz
 rw [Bool.and_eq_true]
 have e1:(!strB ⟨c.cabins,c.secs,c.sold++Q9 a l l.length⟩)=true ↔ PWr [] (c.sold++Q9 a l l.length):=by
  rw [← UM (cs:=c.cabins) hways]
  simp
 rw [e1,Qdq,hT]
 simp only [List.nil_append]
 constructor
 ·rintro ⟨h1,h2⟩
  exact ⟨h2 hne,Qia hc,h1⟩
 ·rintro ⟨h1,_,h3⟩
  exact ⟨h3,fun _=>h1⟩
theorem Jg {c:Chart} {a:Ask} (h:zN c a=0) (hs:1≤a.sexes.length):vQ c a=(alL (qN c.cabins) a.sexes.length).filter (Wz c a):=by
 have e1:vQ c a=(plP c a).map (·.1):=by unfold vQ;rw [if_pos h]
 rw [e1]
 unfold plP
 rw [QaB]
 simp only [List.nil_append,List.map_id']
 refine List.filter_congr fun l hl=>QfP h hl ?_
 rintro rfl
 have:=ZM _ hl
 simp at this
 omega
theorem Qbt {c:Chart} {a:Ask} (h:zN c a=0) (hs:1≤a.sexes.length) {l:List Bunk} (hl:l ∈ vQ c a):wO c a l=true:=by
 rw [Jg h hs] at hl
 obtain ⟨h1,h2⟩:=List.mem_filter.1 hl
 have hll:=ZM l h1
 have hc:=(yZ h).1
 have hv:=xR hc
 have hw:=JZ h
 have hT:Q9 a l l.length=tkR a 0 l:=by rw [Uk a l l.length (Nat.le_refl _),List.take_length]
 have hway:∀ t ∈ c.sold++Q9 a l l.length,TkOk c t:=fun t ht=>by
  rcases List.mem_append.1 ht with ht|ht
  ·exact hv.tk t ht
  ·rw [hT] at ht
   obtain ⟨i,b,hi,hb,rfl⟩:=V3 ht
   exact Qa7 h (by omega) (UK h1 b hb)
 unfold Wz at h2
 rw [Bool.and_eq_true] at h2
 have hp:PWr [] (c.sold++Q9 a l l.length):=(UM (cs:=c.cabins) (secs:=c.secs) (fun t ht=>⟨(hway t ht).frm,(hway t ht).way,(hway t ht).to⟩)).1 (by simpa using h2.2)
 rw [YS] at hp
 unfold wO
 rw [h2.1,decide_eq_true hll,Bool.and_true,Bool.true_and,Bool.and_eq_true,List.all_eq_true,decide_eq_true_eq]
 refine ⟨fun b hb=>?_, ?_⟩
 ·obtain ⟨i,k,g1,g2,rfl⟩:=Yy.1 (UK h1 b hb)
  unfold jT
  rw [Bool.and_eq_true,jr,jr]
  refine ⟨⟨by simp only;omega,by simp only;omega⟩,by simp only;omega, ?_⟩
  simp only [Int.toNat_natCast]
  omega
 ·unfold jO
  refine y9 fun j hj=>?_
  rw [List.length_map,List.length_range] at hj
  rw [List.getD_eq_getElem?_getD,List.getElem?_map,List.getElem?_range hj]
  have hk:=hway _ (vG (d:=default) hj)
  exact VL (cs:=c.cabins) (secs:=c.secs) hk.party hk.sex hk.cab hk.bed ⟨hk.frm,hk.way,hk.to⟩ (by have:=hp j hj;rwa [List.nil_append] at this)
theorem QeM {l m:List Int} (h0:l.length=m.length) (h:∀ j,j < l.length→l.getD j 0=m.getD j 0):l=m:=W9 h0 h
theorem Qh8 {a b c d e f:Int} {g:Bool} {a' b' c' d' e' f':Int} {g':Bool}:decide ((⟨a,b,c,d,e,f,g⟩:Tk)=⟨a',b',c',d',e',f',g'⟩)=(decide (a=a') && (decide (b=b') && (decide (c=c') && (decide (d=d') && (decide (e=e') && (decide (f=f') && (g == g'))))))):=by
 rw [Bool.eq_iff_iff];simp
theorem Qh4 {a:Int} {g:Bool} {a':Int} {g':Bool}:decide ((⟨a,g⟩:Cabin)=⟨a',g'⟩)=(decide (a=a') && (g == g')):=by
 rw [Bool.eq_iff_iff];simp
def VU (l m:List Int) (k:Nat):St:={ t:=asg [(0,qB l),(1,qB m),(4,aB false),(5,aI k)],h:=ql [],n:=0 }
def xe:=vj @ty3 (vj @QT (vj @ti3.eq_1 @Qg.eq_1))
def QB:=vj @aI.eq_1 (vj @aB.eq_1 (vj @qB.eq_1 (vj @zG.eq_1 (@Kr))))
theorem Qkk (l m:List Int) (hl:l.length≤maxLen) (hm:m.length≤maxLen):FnV Tryz.prog 41 [qB l,qB m] (aB (decide (l=m))):=by
 have env:Env (fun _=>True) Tryz.prog tyB (tab []):=qL trivial
 refine Fn.of (A:=fun _=>True) (n0:=0) (D:=noD) (Fn0 Tryz.func41 rfl (fun vs w=>by kernel_rfl) (by kernel_rfl)) (by simp) (by simp [AV.ids,qB]) (fun i o h=>by cases h) (fun _ _ _ _=>trivial) qI ?_
 have hmx:maxLen=9223372036854775807:=by decide
 by_cases h0:l.length=m.length
 ·have d0:decide ((l.length:Int)=(m.length:Int))=true:=decide_eq_true (by omega)
  repeat' (first|(apply nx;with_reducible constructor)|refine uq (by decide) ?_|((first|refine vx env fun Q hQ=>?_|refine vz fun Q hQ=>?_);simp only [vkt,seval,xe,QB,VU,Bool.true_and,Bool.false_and,d0];(try simp only [ite_and]);(repeat' (first|with_reducible assumption|refine And.intro ?_ ?_|intro hp));all_goals (first|(refine hQ _ ?_;clear hQ Q)|(refine hQ _ (fun h=>?_) (fun h=>?_) <;> clear hQ Q <;> (try simp only [vki,reduceCtorEq] at h))|(refine vq ?_;kernel_rfl)|omega|assumption|with_reducible rfl|skip)))
  refine qQ (fun k:{ k:Nat // k≤l.length∧∀ j,j < k→l.getD j 0=m.getD j 0 }=>VU l m k.1) (fun k=>l.length - k.1) ⟨0,Nat.zero_le _,fun j h=>absurd h (Nat.not_lt_zero _)⟩ ?_ fun ⟨k,hk,hno⟩=>?_
  ·(refine Le.ok some [] ?_;constructor;all_goals (try simp only [vle,vkt,seval,xe,QB,VU,Bool.true_and,Bool.false_and]))
   all_goals first|rfl|(simp;done)
  simp only at hk hno ⊢
  simp only [VU]
  by_cases hlt:k < l.length
  ·have d1:decide ((k:Int) < (l.length:Int))=true:=decide_eq_true (by omega)
   have hlm:k < m.length:=by omega
   have k0:((k:Int)).toNat=k:=rfl
   have e9:IntKind.wrap .i64 ((k:Int)+1)=((k+1:Nat):Int):=by rw [wrap64 (by omega) (by omega)];rfl
   obtain ⟨x,hx⟩:∃ x,l.getD k 0=x:=⟨_,rfl⟩
   obtain ⟨y,hy⟩:∃ x,m.getD k 0=x:=⟨_,rfl⟩
   have hxy:(decide (x=y))=decide (x=y):=by rfl
   have hne:¬ x=y→decide (l=m)=false:=fun h=>decide_eq_false fun e=>h (by rw [← hx,← hy,e])
   cases q:decide (x=y) with
   |false =>
    rw [hne (of_decide_eq_false q)]
    repeat' (first|(apply nx;with_reducible constructor)|refine uq (by decide) ?_|((first|refine vx env fun Q hQ=>?_|refine vz fun Q hQ=>?_);simp only [vkt,seval,xe,QB,VU,Bool.true_and,Bool.false_and,d1,k0,hlt,hlm,hx,hy,hxy,q];(try simp only [ite_and]);(repeat' (first|with_reducible assumption|refine And.intro ?_ ?_|intro hp));all_goals (first|(refine hQ _ ?_;clear hQ Q)|(refine hQ _ (fun h=>?_) (fun h=>?_) <;> clear hQ Q <;> (try simp only [vki,reduceCtorEq] at h))|(refine vq ?_;kernel_rfl)|omega|assumption|with_reducible rfl|skip)))
    (simp only [vrt,Tryz.results41,vkt,seval,xe,QB,VU,Bool.true_and,Bool.false_and];refine Fin.val rfl ?_;(try simp only [AV.le,AV.leL]))
    all_goals first|rfl|(simp;done)
   |true =>
    repeat' (first|(apply nx;with_reducible constructor)|refine uq (by decide) ?_|((first|refine vx env fun Q hQ=>?_|refine vz fun Q hQ=>?_);simp only [vkt,seval,xe,QB,VU,Bool.true_and,Bool.false_and,d1,k0,hlt,hlm,hx,hy,hxy,q,e9];(try simp only [ite_and]);(repeat' (first|with_reducible assumption|refine And.intro ?_ ?_|intro hp));all_goals (first|(refine hQ _ ?_;clear hQ Q)|(refine hQ _ (fun h=>?_) (fun h=>?_) <;> clear hQ Q <;> (try simp only [vki,reduceCtorEq] at h))|(refine vq ?_;kernel_rfl)|omega|assumption|with_reducible rfl|skip)))
    refine ⟨⟨k+1,hlt,fun j hj=>?_⟩,by show l.length - (k+1) < l.length - k;omega, ?_⟩
    ·rcases Nat.lt_or_eq_of_le (Nat.le_of_lt_succ hj) with h1|h1
     ·exact hno j h1
     ·rw [h1,hx,hy];exact of_decide_eq_true q
    ·(refine Le.ok some [] ?_;constructor;all_goals (try simp only [vle,vkt,seval,xe,QB,VU,Bool.true_and,Bool.false_and]))
     all_goals first|rfl|(simp;done)
  ·have d1:decide ((k:Int) < (l.length:Int))=false:=decide_eq_false (by omega)
   obtain rfl:k=l.length:=by omega
   rw [decide_eq_true (QeM h0 hno)]
   repeat' (first|(apply nx;with_reducible constructor)|refine uq (by decide) ?_|((first|refine vx env fun Q hQ=>?_|refine vz fun Q hQ=>?_);simp only [vkt,seval,xe,QB,VU,Bool.true_and,Bool.false_and,d1];(try simp only [ite_and]);(repeat' (first|with_reducible assumption|refine And.intro ?_ ?_|intro hp));all_goals (first|(refine hQ _ ?_;clear hQ Q)|(refine hQ _ (fun h=>?_) (fun h=>?_) <;> clear hQ Q <;> (try simp only [vki,reduceCtorEq] at h))|(refine vq ?_;kernel_rfl)|omega|assumption|with_reducible rfl|skip)))
   (simp only [vrt,Tryz.results41,vkt,seval,xe,QB,VU,Bool.true_and,Bool.false_and];refine Fin.val rfl ?_;(try simp only [AV.le,AV.leL]))
   all_goals first|rfl|(simp;done)
 ·have d0:decide ((l.length:Int)=(m.length:Int))=false:=decide_eq_false (by omega)
  rw [decide_eq_false (fun e=>h0 (by rw [e]))]
  repeat' (first|(apply nx;with_reducible constructor)|refine uq (by decide) ?_|((first|refine vx env fun Q hQ=>?_|refine vz fun Q hQ=>?_);simp only [vkt,seval,xe,QB,VU,Bool.true_and,Bool.false_and,d0];(try simp only [ite_and]);(repeat' (first|with_reducible assumption|refine And.intro ?_ ?_|intro hp));all_goals (first|(refine hQ _ ?_;clear hQ Q)|(refine hQ _ (fun h=>?_) (fun h=>?_) <;> clear hQ Q <;> (try simp only [vki,reduceCtorEq] at h))|(refine vq ?_;kernel_rfl)|omega|assumption|with_reducible rfl|skip)))
  (simp only [vrt,Tryz.results41,vkt,seval,xe,QB,VU,Bool.true_and,Bool.false_and];refine Fin.val rfl ?_;(try simp only [AV.le,AV.leL]))
  all_goals first|rfl|(simp;done)
def Vg:List AV→Prop × AV
 |[.sl l,.sl m]=>(l=(l.map zf).map zG∧m=(m.map zf).map zG∧(l.map zf).length≤maxLen∧(m.map zf).length≤maxLen,aB (decide ((l.map zf)=(m.map zf))))
 |_=>(False,.junk)
theorem eeqI {A:Frm→Prop}:qE A Tryz.prog 41 (qR true Vg):=qV fun vs hv h=>by
 clear hv
 unfold Vg at h ⊢
 split at h
 ·rename_i l m;obtain ⟨q0,q1,k0,k1⟩:=h
  refine ⟨by first|trivial|(simp [AV.plain,AV.plainL,aI,aB,qB,qc,qo,qf,aTk,cTk];done)|(repeat' split) <;> simp [AV.plain,AV.plainL,aI,aB,qB,qc,qo,qf,aTk,cTk],fun _=>(by simp [AV.flat,AV.flatL,aI,aB]), ?_⟩
  have:=Qkk (l.map zf) (m.map zf) k0 k1
  simp only [qB,← q0,← q1] at this
  first|exact this|(simp only [qB,← q0,← q1];exact this)
 ·exact h.elim
def VT (l m:List Tk) (k:Nat):St:={ t:=asg [(0,qo l),(1,qo m),(4,aB false),(5,aI k)],h:=ql [],n:=0 }
def xc:=vj @ty3 (vj @Qh (vj @vo (vj @ti3.eq_1 (vj @xW.eq_1 @yK.eq_1))))
def QD:=vj @aI.eq_1 (@aB.eq_1)
theorem QjR (l m:List Tk) (hl:l.length≤maxLen) (hm:m.length≤maxLen):FnV Tryz.prog 62 [qo l,qo m] (aB (decide (l=m))):=by
 have env:Env (fun _=>True) Tryz.prog tyB (tab []):=qL trivial
 refine Fn.of (A:=fun _=>True) (n0:=0) (D:=noD) (Fn0 Tryz.func62 rfl (fun vs w=>by kernel_rfl) (by kernel_rfl)) (by simp) (by simp [AV.ids,qo]) (fun i o h=>by cases h) (fun _ _ _ _=>trivial) qI ?_
 have hmx:maxLen=9223372036854775807:=by decide
 by_cases h0:l.length=m.length
 ·have d0:decide ((l.length:Int)=(m.length:Int))=true:=decide_eq_true (by omega)
  repeat' (first|(apply nx;with_reducible constructor)|refine uq (by decide) ?_|((first|refine vx env fun Q hQ=>?_|refine vz fun Q hQ=>?_);simp only [vkt,seval,xc,QD,qo,eTk,gTk,VT,Bool.true_and,Bool.false_and,d0];(try simp only [ite_and]);(repeat' (first|with_reducible assumption|refine And.intro ?_ ?_|intro hp));all_goals (first|(refine hQ _ ?_;clear hQ Q)|(refine hQ _ (fun h=>?_) (fun h=>?_) <;> clear hQ Q <;> (try simp only [vki,reduceCtorEq] at h))|(refine vq ?_;kernel_rfl)|omega|assumption|with_reducible rfl|skip)))
  refine qQ (fun k:{ k:Nat // k≤l.length∧∀ j,j < k→l.getD j default=m.getD j default }=>VT l m k.1) (fun k=>l.length - k.1) ⟨0,Nat.zero_le _,fun j h=>absurd h (Nat.not_lt_zero _)⟩ ?_ fun ⟨k,hk,hno⟩=>?_
  ·(refine Le.ok some [] ?_;constructor;all_goals (try simp only [vle,vkt,seval,xc,QD,qo,eTk,gTk,VT,Bool.true_and,Bool.false_and]))
   all_goals first|rfl|(simp;done)
  simp only at hk hno ⊢
  simp only [VT]
  by_cases hlt:k < l.length
  ·have d1:decide ((k:Int) < (l.length:Int))=true:=decide_eq_true (by omega)
   have hlm:k < m.length:=by omega
   have k0:((k:Int)).toNat=k:=rfl
   have e9:IntKind.wrap .i64 ((k:Int)+1)=((k+1:Nat):Int):=by rw [wrap64 (by omega) (by omega)];rfl
   obtain ⟨x,hx⟩:∃ x,l.getD k default=x:=⟨_,rfl⟩
   obtain ⟨y,hy⟩:∃ x,m.getD k default=x:=⟨_,rfl⟩
   have hxy:(decide (x.party=y.party) && (decide (x.sex=y.sex) && (decide (x.cab=y.cab) && (decide (x.bed=y.bed) && (decide (x.frm=y.frm) && (decide (x.to=y.to) && ((x.dog == y.dog))))))))=decide (x=y):=by cases x;cases y;rw [Qh8]
   have hne:¬ x=y→decide (l=m)=false:=fun h=>decide_eq_false fun e=>h (by rw [← hx,← hy,e])
   cases q:decide (x=y) with
   |false =>
    rw [hne (of_decide_eq_false q)]
    repeat' (first|(apply nx;with_reducible constructor)|refine uq (by decide) ?_|((first|refine vx env fun Q hQ=>?_|refine vz fun Q hQ=>?_);simp only [vkt,seval,xc,QD,qo,eTk,gTk,VT,Bool.true_and,Bool.false_and,d1,k0,hlt,hlm,hx,hy,hxy,q];(try simp only [ite_and]);(repeat' (first|with_reducible assumption|refine And.intro ?_ ?_|intro hp));all_goals (first|(refine hQ _ ?_;clear hQ Q)|(refine hQ _ (fun h=>?_) (fun h=>?_) <;> clear hQ Q <;> (try simp only [vki,reduceCtorEq] at h))|(refine vq ?_;kernel_rfl)|omega|assumption|with_reducible rfl|skip)))
    (simp only [vrt,Tryz.results62,vkt,seval,xc,QD,qo,eTk,gTk,VT,Bool.true_and,Bool.false_and];refine Fin.val rfl ?_;(try simp only [AV.le,AV.leL]))
    all_goals first|rfl|(simp;done)
   |true =>
    repeat' (first|(apply nx;with_reducible constructor)|refine uq (by decide) ?_|((first|refine vx env fun Q hQ=>?_|refine vz fun Q hQ=>?_);simp only [vkt,seval,xc,QD,qo,eTk,gTk,VT,Bool.true_and,Bool.false_and,d1,k0,hlt,hlm,hx,hy,hxy,q,e9];(try simp only [ite_and]);(repeat' (first|with_reducible assumption|refine And.intro ?_ ?_|intro hp));all_goals (first|(refine hQ _ ?_;clear hQ Q)|(refine hQ _ (fun h=>?_) (fun h=>?_) <;> clear hQ Q <;> (try simp only [vki,reduceCtorEq] at h))|(refine vq ?_;kernel_rfl)|omega|assumption|with_reducible rfl|skip)))
    refine ⟨⟨k+1,hlt,fun j hj=>?_⟩,by show l.length - (k+1) < l.length - k;omega, ?_⟩
    ·rcases Nat.lt_or_eq_of_le (Nat.le_of_lt_succ hj) with h1|h1
     ·exact hno j h1
     ·rw [h1,hx,hy];exact of_decide_eq_true q
    ·(refine Le.ok some [] ?_;constructor;all_goals (try simp only [vle,vkt,seval,xc,QD,qo,eTk,gTk,VT,Bool.true_and,Bool.false_and]))
     all_goals first|rfl|(simp;done)
  ·have d1:decide ((k:Int) < (l.length:Int))=false:=decide_eq_false (by omega)
   obtain rfl:k=l.length:=by omega
   rw [decide_eq_true (W9 h0 hno)]
   repeat' (first|(apply nx;with_reducible constructor)|refine uq (by decide) ?_|((first|refine vx env fun Q hQ=>?_|refine vz fun Q hQ=>?_);simp only [vkt,seval,xc,QD,qo,eTk,gTk,VT,Bool.true_and,Bool.false_and,d1];(try simp only [ite_and]);(repeat' (first|with_reducible assumption|refine And.intro ?_ ?_|intro hp));all_goals (first|(refine hQ _ ?_;clear hQ Q)|(refine hQ _ (fun h=>?_) (fun h=>?_) <;> clear hQ Q <;> (try simp only [vki,reduceCtorEq] at h))|(refine vq ?_;kernel_rfl)|omega|assumption|with_reducible rfl|skip)))
   (simp only [vrt,Tryz.results62,vkt,seval,xc,QD,qo,eTk,gTk,VT,Bool.true_and,Bool.false_and];refine Fin.val rfl ?_;(try simp only [AV.le,AV.leL]))
   all_goals first|rfl|(simp;done)
 ·have d0:decide ((l.length:Int)=(m.length:Int))=false:=decide_eq_false (by omega)
  rw [decide_eq_false (fun e=>h0 (by rw [e]))]
  repeat' (first|(apply nx;with_reducible constructor)|refine uq (by decide) ?_|((first|refine vx env fun Q hQ=>?_|refine vz fun Q hQ=>?_);simp only [vkt,seval,xc,QD,qo,eTk,gTk,VT,Bool.true_and,Bool.false_and,d0];(try simp only [ite_and]);(repeat' (first|with_reducible assumption|refine And.intro ?_ ?_|intro hp));all_goals (first|(refine hQ _ ?_;clear hQ Q)|(refine hQ _ (fun h=>?_) (fun h=>?_) <;> clear hQ Q <;> (try simp only [vki,reduceCtorEq] at h))|(refine vq ?_;kernel_rfl)|omega|assumption|with_reducible rfl|skip)))
  (simp only [vrt,Tryz.results62,vkt,seval,xc,QD,qo,eTk,gTk,VT,Bool.true_and,Bool.false_and];refine Fin.val rfl ?_;(try simp only [AV.le,AV.leL]))
  all_goals first|rfl|(simp;done)
def Yk:List AV→Prop × AV
 |[.sl l,.sl m]=>(l=(l.map dTk).map eTk∧m=(m.map dTk).map eTk∧(l.map dTk).length≤maxLen∧(m.map dTk).length≤maxLen,aB (decide ((l.map dTk)=(m.map dTk))))
 |_=>(False,.junk)
theorem eeqK {A:Frm→Prop}:qE A Tryz.prog 62 (qR true Yk):=qV fun vs hv h=>by
 clear hv
 unfold Yk at h ⊢
 split at h
 ·rename_i l m;obtain ⟨q0,q1,k0,k1⟩:=h
  refine ⟨by first|trivial|(simp [AV.plain,AV.plainL,aI,aB,qB,qc,qo,qf,aTk,cTk];done)|(repeat' split) <;> simp [AV.plain,AV.plainL,aI,aB,qB,qc,qo,qf,aTk,cTk],fun _=>(by simp [AV.flat,AV.flatL,aI,aB]), ?_⟩
  have:=QjR (l.map dTk) (m.map dTk) k0 k1
  simp only [qo,← q0,← q1] at this
  first|exact this|(simp only [qo,← q0,← q1];exact this)
 ·exact h.elim
def ecS (c d:Chart) (k:Nat):St:={ t:=asg [(2,.ptr 0 0),(3,.ptr 1 0),(4,aB false),(5,aI k)],h:=ql [(0,.cells (qb c)),(1,.cells (qb d))],n:=2 }
def yU:=vj @ty3 (vj @J2 (vj @Qh (vj @yj (vj @vo (vj @J6 (vj @ti3.eq_1 (vj @WN.eq_1 (vj @xW.eq_1 (vj @jP.eq_1 (vj @yK.eq_1 @WM.eq_1))))))))))
def kg:=vj @aI.eq_1 (@aB.eq_1)
theorem Qj6 (c d:Chart) (h1:c.cabins.length≤maxLen) (h2:c.sold.length≤maxLen) (h4:d.sold.length≤maxLen):FnV Tryz.prog 21 [qa c,qa d] (aB (decide (c=d))):=by
 have env:Env (fun _=>True) Tryz.prog tyB (tab [(62,qR true Yk)]):=qL ⟨eeqK,trivial⟩
 refine Fn.of (A:=fun _=>True) (n0:=0) (D:=noD) (Fn0 Tryz.func21 rfl (fun vs w=>by kernel_rfl) (by kernel_rfl)) (by simp) (by simp [AV.ids,AV.idsL,qa,qb]) (fun i o h=>by cases h) (fun _ _ _ _=>trivial) qI ?_
 have hmx:maxLen=9223372036854775807:=by decide
 have hE:decide (c=d)=(decide (c.cabins=d.cabins) && (decide (c.secs=d.secs) && decide (c.sold=d.sold))):=by
  cases c;cases d;rw [Bool.eq_iff_iff];simp
 rw [hE]
 by_cases h0:c.cabins.length=d.cabins.length
 ·have d0:decide ((c.cabins.length:Int)=(d.cabins.length:Int))=true:=decide_eq_true (by omega)
  cases q0:decide (c.secs=d.secs) with
  |false =>
   rw [Bool.false_and,Bool.and_false]
   repeat' (first|(apply nx;with_reducible constructor)|refine uq (by decide) ?_|((first|refine vx env fun Q hQ=>?_|refine vz fun Q hQ=>?_);simp only [vkt,seval,yU,kg,qo,qa,qb,qh,qC,mTk,ecS,Yk,Bool.true_and,Bool.false_and,List.length_map,d0,q0];(try simp only [ite_and]);(repeat' (first|with_reducible assumption|refine And.intro ?_ ?_|intro hp));all_goals (first|(refine hQ _ ?_;clear hQ Q)|(refine hQ _ (fun h=>?_) (fun h=>?_) <;> clear hQ Q <;> (try simp only [vki,reduceCtorEq] at h))|(refine vq ?_;kernel_rfl)|omega|assumption|with_reducible rfl|skip)))
   (simp only [vrt,Tryz.results21,vkt,seval,yU,kg,qo,qa,qb,qh,qC,mTk,ecS,Yk,Bool.true_and,Bool.false_and,List.length_map];refine Fin.val rfl ?_;(try simp only [AV.le,AV.leL]))
   all_goals first|rfl|(simp;done)
  |true =>
   rw [Bool.true_and]
   repeat' (first|(apply nx;with_reducible constructor)|refine uq (by decide) ?_|((first|refine vx env fun Q hQ=>?_|refine vz fun Q hQ=>?_);simp only [vkt,seval,yU,kg,qo,qa,qb,qh,qC,mTk,ecS,Yk,Bool.true_and,Bool.false_and,List.length_map,d0,q0];(try simp only [ite_and]);(repeat' (first|with_reducible assumption|refine And.intro ?_ ?_|intro hp));all_goals (first|(refine hQ _ ?_;clear hQ Q)|(refine hQ _ (fun h=>?_) (fun h=>?_) <;> clear hQ Q <;> (try simp only [vki,reduceCtorEq] at h))|(refine vq ?_;kernel_rfl)|omega|assumption|with_reducible rfl|skip)))
   refine qQ (fun k:{ k:Nat // k≤c.cabins.length∧∀ j,j < k→c.cabins.getD j default=d.cabins.getD j default }=>ecS c d k.1) (fun k=>c.cabins.length - k.1) ⟨0,Nat.zero_le _,fun j h=>absurd h (Nat.not_lt_zero _)⟩ ?_ fun ⟨k,hk,hno⟩=>?_
   ·simp only [ecS]
    (refine Le.ok some [] ?_;constructor;all_goals (try simp only [vle,vkt,seval,yU,kg,qo,qa,qb,qh,qC,mTk,ecS,Yk,Bool.true_and,Bool.false_and,List.length_map]))
    all_goals first|rfl|(simp;done)
   simp only at hk hno ⊢
   simp only [ecS]
   by_cases hlt:k < c.cabins.length
   ·have d1:decide ((k:Int) < (c.cabins.length:Int))=true:=decide_eq_true (by omega)
    have hlm:k < d.cabins.length:=by omega
    have k0:((k:Int)).toNat=k:=rfl
    have e9:IntKind.wrap .i64 ((k:Int)+1)=((k+1:Nat):Int):=by rw [wrap64 (by omega) (by omega)];rfl
    obtain ⟨x,hx⟩:∃ x,c.cabins.getD k default=x:=⟨_,rfl⟩
    obtain ⟨y,hy⟩:∃ x,d.cabins.getD k default=x:=⟨_,rfl⟩
    have hxy:(decide (x.beds=y.beds) && (x.door == y.door))=decide (x=y):=by cases x;cases y;rw [Qh4]
    have hne:¬ x=y→decide (c.cabins=d.cabins)=false:=fun h=>decide_eq_false fun e=>h (by rw [← hx,← hy,e])
    cases q:decide (x=y) with
    |false =>
     rw [hne (of_decide_eq_false q),Bool.false_and]
     repeat' (first|(apply nx;with_reducible constructor)|refine uq (by decide) ?_|((first|refine vx env fun Q hQ=>?_|refine vz fun Q hQ=>?_);simp only [vkt,seval,yU,kg,qo,qa,qb,qh,qC,mTk,ecS,Yk,Bool.true_and,Bool.false_and,List.length_map,d1,k0,hlt,hlm,hx,hy,hxy,q];(try simp only [ite_and]);(repeat' (first|with_reducible assumption|refine And.intro ?_ ?_|intro hp));all_goals (first|(refine hQ _ ?_;clear hQ Q)|(refine hQ _ (fun h=>?_) (fun h=>?_) <;> clear hQ Q <;> (try simp only [vki,reduceCtorEq] at h))|(refine vq ?_;kernel_rfl)|omega|assumption|with_reducible rfl|skip)))
     (simp only [vrt,Tryz.results21,vkt,seval,yU,kg,qo,qa,qb,qh,qC,mTk,ecS,Yk,Bool.true_and,Bool.false_and,List.length_map];refine Fin.val rfl ?_;(try simp only [AV.le,AV.leL]))
     all_goals first|rfl|(simp;done)
    |true =>
     repeat' (first|(apply nx;with_reducible constructor)|refine uq (by decide) ?_|((first|refine vx env fun Q hQ=>?_|refine vz fun Q hQ=>?_);simp only [vkt,seval,yU,kg,qo,qa,qb,qh,qC,mTk,ecS,Yk,Bool.true_and,Bool.false_and,List.length_map,d1,k0,hlt,hlm,hx,hy,hxy,q,e9];(try simp only [ite_and]);(repeat' (first|with_reducible assumption|refine And.intro ?_ ?_|intro hp));all_goals (first|(refine hQ _ ?_;clear hQ Q)|(refine hQ _ (fun h=>?_) (fun h=>?_) <;> clear hQ Q <;> (try simp only [vki,reduceCtorEq] at h))|(refine vq ?_;kernel_rfl)|omega|assumption|with_reducible rfl|skip)))
     refine ⟨⟨k+1,hlt,fun j hj=>?_⟩,by show c.cabins.length - (k+1) < c.cabins.length - k;omega, ?_⟩
     ·rcases Nat.lt_or_eq_of_le (Nat.le_of_lt_succ hj) with h1|h1
      ·exact hno j h1
      ·rw [h1,hx,hy];exact of_decide_eq_true q
     ·simp only [ecS]
      (refine Le.ok some [] ?_;constructor;all_goals (try simp only [vle,vkt,seval,yU,kg,qo,qa,qb,qh,qC,mTk,ecS,Yk,Bool.true_and,Bool.false_and,List.length_map]))
      all_goals first|rfl|(simp;done)
   ·have d1:decide ((k:Int) < (c.cabins.length:Int))=false:=decide_eq_false (by omega)
    obtain rfl:k=c.cabins.length:=by omega
    rw [decide_eq_true (W9 h0 hno),Bool.true_and]
    repeat' (first|(apply nx;with_reducible constructor)|refine uq (by decide) ?_|((first|refine vx env fun Q hQ=>?_|refine vz fun Q hQ=>?_);simp only [vkt,seval,yU,kg,qo,qa,qb,qh,qC,mTk,ecS,Yk,Bool.true_and,Bool.false_and,List.length_map,d1,h2,h4];(try simp only [ite_and]);(repeat' (first|with_reducible assumption|refine And.intro ?_ ?_|intro hp));all_goals (first|(refine hQ _ ?_;clear hQ Q)|(refine hQ _ (fun h=>?_) (fun h=>?_) <;> clear hQ Q <;> (try simp only [vki,reduceCtorEq] at h))|(refine vq ?_;kernel_rfl)|omega|assumption|with_reducible rfl|skip)))
    (simp only [vrt,Tryz.results21,vkt,seval,yU,kg,qo,qa,qb,qh,qC,mTk,ecS,Yk,Bool.true_and,Bool.false_and,List.length_map];refine Fin.val rfl ?_;(try simp only [AV.le,AV.leL]))
    all_goals first|rfl|(simp;done)
 ·have d0:decide ((c.cabins.length:Int)=(d.cabins.length:Int))=false:=decide_eq_false (by omega)
  rw [decide_eq_false (fun e:c.cabins=d.cabins=>h0 (by rw [e])),Bool.false_and]
  repeat' (first|(apply nx;with_reducible constructor)|refine uq (by decide) ?_|((first|refine vx env fun Q hQ=>?_|refine vz fun Q hQ=>?_);simp only [vkt,seval,yU,kg,qo,qa,qb,qh,qC,mTk,ecS,Yk,Bool.true_and,Bool.false_and,List.length_map,d0];(try simp only [ite_and]);(repeat' (first|with_reducible assumption|refine And.intro ?_ ?_|intro hp));all_goals (first|(refine hQ _ ?_;clear hQ Q)|(refine hQ _ (fun h=>?_) (fun h=>?_) <;> clear hQ Q <;> (try simp only [vki,reduceCtorEq] at h))|(refine vq ?_;kernel_rfl)|omega|assumption|with_reducible rfl|skip)))
  (simp only [vrt,Tryz.results21,vkt,seval,yU,kg,qo,qa,qb,qh,qC,mTk,ecS,Yk,Bool.true_and,Bool.false_and,List.length_map];refine Fin.val rfl ?_;(try simp only [AV.le,AV.leL]))
  all_goals first|rfl|(simp;done)
def Q3:List AV→Prop × AV
 |[.agg [.sl c0,.v (.int .i64 c1),.sl c2],.agg [.sl d0,.v (.int .i64 d1),.sl d2]]=>(c0=(c0.map qx).map qh∧c2=(c2.map dTk).map eTk∧d0=(d0.map qx).map qh∧d2=(d2.map dTk).map eTk∧((⟨(c0.map qx),c1,(c2.map dTk)⟩:Chart)).cabins.length≤maxLen∧((⟨(c0.map qx),c1,(c2.map dTk)⟩:Chart)).sold.length≤maxLen∧((⟨(d0.map qx),d1,(d2.map dTk)⟩:Chart)).sold.length≤maxLen,aB (decide (((⟨(c0.map qx),c1,(c2.map dTk)⟩:Chart))=((⟨(d0.map qx),d1,(d2.map dTk)⟩:Chart)))))
 |_=>(False,.junk)
theorem eeqC {A:Frm→Prop}:qE A Tryz.prog 21 (qR true Q3):=qV fun vs hv h=>by
 clear hv
 unfold Q3 at h ⊢
 split at h
 ·rename_i c0 c1 c2 d0 d1 d2;obtain ⟨q0,q1,q2,q3,k0,k1,k2⟩:=h
  refine ⟨by first|trivial|(simp [AV.plain,AV.plainL,aI,aB,qB,qc,qo,qf,aTk,cTk];done)|(repeat' split) <;> simp [AV.plain,AV.plainL,aI,aB,qB,qc,qo,qf,aTk,cTk],fun _=>(by simp [AV.flat,AV.flatL,aI,aB]), ?_⟩
  have:=Qj6 ((⟨(c0.map qx),c1,(c2.map dTk)⟩:Chart)) ((⟨(d0.map qx),d1,(d2.map dTk)⟩:Chart)) k0 k1 k2
  simp only [qW,qa,aI,qo,qb,← q0,← q1,← q2,← q3] at this
  first|exact this|(simp only [qW,qa,aI,qo,qb,← q0,← q1,← q2,← q3];exact this)
 ·exact h.elim
theorem VQ {c:Chart} {a:Ask} (h:zN c a=0) {l:List Bunk} (hl:l ∈ alL (qN c.cabins) a.sexes.length):∀ t ∈ c.sold++Q9 a l l.length,TkOk c t:=fun t ht=>by
 have hll:=ZM l hl
 have hT:Q9 a l l.length=tkR a 0 l:=by rw [Uk a l l.length (Nat.le_refl _),List.take_length]
 rcases List.mem_append.1 ht with ht|ht
 ·exact (xR (yZ h).1).tk t ht
 ·rw [hT] at ht
  obtain ⟨i,b,hi,hb,rfl⟩:=V3 ht
  exact Qa7 h (by omega) (UK hl b hb)
theorem Qbv {c:Chart} {a:Ask} (h:zN c a=0) (hs:1≤a.sexes.length) {l:List Bunk} (hl:l ∈ alL (qN c.cabins) a.sexes.length):wO c a l=Wz c a l:=by
 cases hq:Wz c a l with
 |true=>exact Qbt h hs (by rw [Jg h hs];exact List.mem_filter.2 ⟨hl,hq⟩)
 |false =>
  cases hp:wO c a l with
  |false=>rfl
  |true =>
   have hway:=VQ h hl
   unfold wO at hp
   simp only [Bool.and_eq_true,decide_eq_true_eq] at hp
   obtain ⟨⟨_,h3⟩,h4⟩:=hp
   have h5:=Yl h3
   have hpw:PWr [] (c.sold++Q9 a l l.length):=(YS _ _).2 fun i hi=>by rw [List.nil_append];exact (h5 i hi).2
   have hst:=(UM (cs:=c.cabins) (secs:=c.secs) (fun t ht=>⟨(hway t ht).frm,(hway t ht).way,(hway t ht).to⟩)).2 hpw
   unfold Wz at hq
   rw [h4,hst] at hq
   exact absurd hq (by decide)
theorem U2 {c:Chart} {a:Ask} (h:zN c a=0) (hs:1≤a.sexes.length):vQ c a=(alL (qN c.cabins) a.sexes.length).filter (wO c a):=by
 rw [Jg h hs]
 exact List.filter_congr fun l hl=>(Qbv h hs hl).symm
def fitB (c:Chart) (a:Ask) (b:Bunk):Bool:=decide (zB (kS a 0 b) c.sold=0)
theorem QjK {c:Chart} {a:Ask} (h:a.sexes.length=1):(plP c a).map (·.1)=((qN c.cabins).filter (fitB c a)).map fun b=>[b]:=by
 unfold plP
 rw [h,Qv,List.map_flatMap]
 have key:∀ l:List Bunk,(l.flatMap fun b=>(gbL c.cabins a 0 c.sold [] b).map (·.1))=(l.filter (fitB c a)).map fun b=>[b]:=fun l=>by
  induction l with
  |nil=>rfl
  |cons b l ih =>
   rw [List.flatMap_cons,ih]
   unfold gbL goB fitB
   rw [show ([]:List Bunk)++[b]=[b] from rfl,QfX,show ([]:List Bunk).length=0 from rfl]
   simp only [List.contains_nil,Bool.not_false,Bool.true_and]
   cases hq:decide (zB (kS a 0 b) c.sold=0) with
   |true =>
    rw [if_pos rfl,List.filter_cons_of_pos (by simpa using hq)]
    rfl
   |false =>
    rw [if_neg (by decide),List.filter_cons_of_neg (by simpa using hq)]
    rfl
 exact key _
theorem Qf2 {c:Chart} {a:Ask} (h:a.sexes.length=1) (s:Int):vE c a s=(qN c.cabins).filter (fitB c (Qp a s)):=by
 have h1:(plP c (Qp a s)).map (·.1)=_:=QjK (a:=Qp a s) h
 unfold vE
 rw [show (plP c (Qp a s)).map (fun x=>x.1.getD 0 default)=((plP c (Qp a s)).map (·.1)).map (fun l=>l.getD 0 default) by rw [List.map_map];rfl,h1,List.map_map]
 simp [Function.comp_def]
theorem RY {f:Bunk→Int} {l:List Bunk}:∀ i,0 < i→i≤l.length→(pkK f l i).1 ∈ l∧(pkK f l i).2=f (pkK f l i).1
 |0,h,_=>absurd h (Nat.lt_irrefl _)
 |i+1,_,hi=>by
  rw [pkK]
  by_cases hq:i=0∨f (l.getD i default) < (pkK f l i).2
  ·rw [if_pos hq]
   exact ⟨vG (by omega),rfl⟩
  ·rw [if_neg hq]
   exact RY i (by omega) (by omega)
def YY (b:Bunk):List Bunk→Int
 |[]=>0
 |y :: r=>(if y=b then 0 else 1)+YY y r
theorem XP:∀ {L:List (List Bunk)} (b:Bunk),L.any (·.isEmpty)=false→YY b (xH L b)=(jA L b).2
 |[],_,_=>rfl
 |l :: rest,b,h=>by
  have h1:l ≠ []:=by rintro rfl;simp at h
  have h2:rest.any (·.isEmpty)=false:=by
   rw [List.any_cons,Bool.or_eq_false_iff] at h;exact h.2
  obtain ⟨g1,g2⟩:=RY (f:=fun y=>(jA rest y).2+if y=b then 0 else 1) l.length (List.length_pos_iff.2 h1) (Nat.le_refl _)
  rw [xH,YY,XP _ h2]
  rw [jA]
  rw [g2]
  omega
def rpS (c:Chart) (a:Ask) (Al M:List (List Bunk)) (T:List (Nat × AV)):St:={ t:=asg (T++[(2,.ptr 0 0),(3,.ptr 1 0),(5,.row 3),(6,.row 2)]),h:=ql [(0,.cells (qb c)),(1,.cells (qg a)),(2,.row 44 1 (Al.map qz)),(3,.row 44 1 (M.map qz))],n:=4 }
theorem QdZ {α:Type} {p:α→Bool} {d:α} {l:List α} {i:Nat} (h:i < l.length):(l.take (i+1)).filter p=(l.take i).filter p++if p (l.getD i d) then [l.getD i d] else []:=by
 rw [List.take_succ_eq_append_getElem h,List.filter_append,List.getD_eq_getElem?_getD,List.getElem?_eq_getElem h]
 cases hp:p l[i] <;> simp [hp]
def yC:=vj @ty3 (vj @yj (vj @QT (vj @QQ (vj @UE (vj @ZJ (vj @vU (vj @ti3.eq_1 (vj @jP.eq_1 (vj @Qg.eq_1 (vj @kX.eq_1 (vj @VR.eq_1 (vj @QY.eq_1 @vF.eq_1))))))))))))
def ZV:=vj @aI.eq_1 (vj @aB.eq_1 (@Q5))
theorem QbG (c:Chart) (a:Ask) (hc:CarOk c) (hs:c.sold.length≤20) (ha:0 < a.sexes.length∧a.sexes.length≤3):FnV Tryz.prog 54 [qa c,qw a] (qZ ((alL (qN c.cabins) a.sexes.length).filter (wO c a))):=by
 have env:Env (fun _=>True) Tryz.prog tyB (tab [(70,qR false wU),(69,fnE (pAl a.sexes.length)),(106,qR true xG)]):=qL ⟨QcU,eAl (Qgs _),Qgc,trivial⟩
 refine Fn.of (A:=fun _=>True) (n0:=0) (D:=noD) (Fn0 Tryz.func54 rfl (fun vs w=>by kernel_rfl) (by kernel_rfl)) (by simp) (by simp [AV.ids,AV.idsL,qa,qb,qw,qg]) (fun i o h=>by cases h) (fun _ _ _ _=>trivial) qI ?_
 have eC:(⟨c.cabins,c.secs,c.sold⟩:Chart)=c:=rfl
 have eA:(⟨a.party,a.frm,a.to,a.sexes,a.dog⟩:Ask)=a:=rfl
 have hmx:(100000:Nat)≤maxLen:=by decide
 have hbds:=hc.beds
 have hCar:=hc
 obtain ⟨ha1,ha2⟩:=ha
 have c6:c.cabins.length≤3:=hc.cabs.2
 have c7:∀ x ∈ c.cabins,x.beds≤3:=fun x hx=>(hbds x hx).2
 have c8:(qN c.cabins).length≤9:=V4 c6 hbds
 have c5:a.sexes.length≤20:=by omega
 have hA1:∀ p ∈ alL (qN c.cabins) a.sexes.length,p.length=a.sexes.length:=fun p hp=>ZM p hp
 obtain ⟨Al,hAl⟩:∃ Al,alL (qN c.cabins) a.sexes.length=Al:=⟨_,rfl⟩
 have hAll:Al.length≤1000:=by
  rw [← hAl,U7]
  have h1:(qN c.cabins).length ^ a.sexes.length≤9 ^ a.sexes.length:=Nat.pow_le_pow_left c8 _
  have h2:9 ^ a.sexes.length≤9 ^ 3:=Nat.pow_le_pow_right (by decide) ha2
  omega
 rw [hAl] at hA1
 rw [hAl]
 repeat' (first|(apply nx;with_reducible constructor)|refine uq (by decide) ?_|((first|refine vx env fun Q hQ=>?_|refine vz fun Q hQ=>?_);simp only [vkt,seval,yC,ZV,qf,qc,qZ,qj,qz,qA,qG,qJ,qH,qh,qC,qF,qd,mTk,qa,qb,qw,qg,rpS,wU,pAl,xG,List.length_map,eC,eA,c6,c7,c8,ha2,hAl];(try simp only [ite_and]);(repeat' (first|with_reducible assumption|refine And.intro ?_ ?_|intro hp));all_goals (first|(refine hQ _ ?_;clear hQ Q)|(refine hQ _ (fun h=>?_) (fun h=>?_) <;> clear hQ Q <;> (try simp only [vki,reduceCtorEq] at h))|(refine vq ?_;kernel_rfl)|omega|assumption|with_reducible rfl|skip)))
 refine qQ (fun i:{ i:Nat // i≤Al.length }=>rpS c a Al ((Al.take i.1).filter (wO c a)) [(7,aI i.1)]) (fun i=>Al.length - i.1) ⟨0,Nat.zero_le _⟩ ?_ fun ⟨i,hi⟩=>?_
 ·simp only [rpS,List.take_zero,List.filter_nil,List.cons_append,List.nil_append]
  (refine Le.ok (fun i=>if i=3 then none else some i) [] ?_;constructor;all_goals (try simp only [vle,vkt,seval,yC,ZV,qf,qc,qZ,qj,qz,qA,qG,qJ,qH,qh,qC,qF,qd,mTk,qa,qb,qw,qg,rpS,wU,pAl,xG,List.length_map]))
  all_goals first|rfl|(simp;done)|(intro i hi;rw [if_neg (by omega)];done)
 simp only at hi ⊢
 have hMl:((Al.take i).filter (wO c a)).length≤i:=Nat.le_trans (List.length_filter_le _ _) (by rw [List.length_take];omega)
 by_cases hil:i < Al.length
 ·have d1:decide ((i:Int) < (Al.length:Int))=true:=decide_eq_true (by omega)
  have e9:IntKind.wrap .i64 ((i:Int)+1)=((i+1:Nat):Int):=by rw [wrap64 (by omega) (by omega)];rfl
  have i0:((i:Int)).toNat=i:=rfl
  have hS:=QdZ (p:=wO c a) (d:=[]) hil
  have hg:=Wx hil
  have hpl:=hA1 (Al.getD i []) (vG hil)
  obtain ⟨p,hp⟩:∃ p,Al.getD i []=p:=⟨_,rfl⟩
  obtain ⟨M,hM⟩:∃ M,(Al.take i).filter (wO c a)=M:=⟨_,rfl⟩
  rw [hp] at hg hS hpl
  rw [hM] at hS hMl
  have hm:M.length+1≤maxLen:=by omega
  have p1:p.length≤maxLen:=by omega
  simp only [rpS,hM,List.cons_append,List.nil_append]
  cases q:wO c a p with
  |true =>
   rw [q,if_pos rfl] at hS
   repeat' (first|(apply nx;with_reducible constructor)|refine uq (by decide) ?_|((first|refine vx env fun Q hQ=>?_|refine vz fun Q hQ=>?_);simp only [vkt,seval,yC,ZV,qf,qc,qZ,qj,qz,qA,qG,qJ,qH,qh,qC,qF,qd,mTk,qa,qb,qw,qg,rpS,wU,pAl,xG,List.length_map,d1,i0,hil,hp,hg,eC,eA,hCar,hs,ha1,c5,p1,q,e9,hm];(try simp only [ite_and]);(repeat' (first|with_reducible assumption|refine And.intro ?_ ?_|intro hp));all_goals (first|(refine hQ _ ?_;clear hQ Q)|(refine hQ _ (fun h=>?_) (fun h=>?_) <;> clear hQ Q <;> (try simp only [vki,reduceCtorEq] at h))|(refine vq ?_;kernel_rfl)|omega|assumption|with_reducible rfl|skip)))
   refine ⟨⟨i+1,hil⟩,by show Al.length - (i+1) < Al.length - i;omega, ?_⟩
   simp only [rpS,hS,List.cons_append,List.nil_append]
   (refine Le.ok (fun i=>if i=3 then some 5 else some i) [] ?_;constructor;all_goals (try simp only [vle,vkt,seval,yC,ZV,qf,qc,qZ,qj,qz,qA,qG,qJ,qH,qh,qC,qF,qd,mTk,qa,qb,qw,qg,rpS,wU,pAl,xG,List.length_map]))
   all_goals first|rfl|(rw [List.map_append];rfl)|(simp;done)|(intro i hi;rw [if_neg (by omega)];done)
  |false =>
   rw [q,if_neg (by decide),List.append_nil] at hS
   repeat' (first|(apply nx;with_reducible constructor)|refine uq (by decide) ?_|((first|refine vx env fun Q hQ=>?_|refine vz fun Q hQ=>?_);simp only [vkt,seval,yC,ZV,qf,qc,qZ,qj,qz,qA,qG,qJ,qH,qh,qC,qF,qd,mTk,qa,qb,qw,qg,rpS,wU,pAl,xG,List.length_map,d1,i0,hil,hp,hg,eC,eA,hCar,hs,ha1,c5,p1,q,e9];(try simp only [ite_and]);(repeat' (first|with_reducible assumption|refine And.intro ?_ ?_|intro hp));all_goals (first|(refine hQ _ ?_;clear hQ Q)|(refine hQ _ (fun h=>?_) (fun h=>?_) <;> clear hQ Q <;> (try simp only [vki,reduceCtorEq] at h))|(refine vq ?_;kernel_rfl)|omega|assumption|with_reducible rfl|skip)))
   refine ⟨⟨i+1,hil⟩,by show Al.length - (i+1) < Al.length - i;omega, ?_⟩
   simp only [rpS,hS,List.cons_append,List.nil_append]
   (refine Le.ok some [] ?_;constructor;all_goals (try simp only [vle,vkt,seval,yC,ZV,qf,qc,qZ,qj,qz,qA,qG,qJ,qH,qh,qC,qF,qd,mTk,qa,qb,qw,qg,rpS,wU,pAl,xG,List.length_map]))
   all_goals first|rfl|(simp;done)
 ·have d1:decide ((i:Int) < (Al.length:Int))=false:=decide_eq_false (by omega)
  obtain rfl:i=Al.length:=by omega
  rw [List.take_length]
  simp only [rpS,List.cons_append,List.nil_append]
  repeat' (first|(apply nx;with_reducible constructor)|refine uq (by decide) ?_|((first|refine vx env fun Q hQ=>?_|refine vz fun Q hQ=>?_);simp only [vkt,seval,yC,ZV,qf,qc,qZ,qj,qz,qA,qG,qJ,qH,qh,qC,qF,qd,mTk,qa,qb,qw,qg,rpS,wU,pAl,xG,List.length_map,d1];(try simp only [ite_and]);(repeat' (first|with_reducible assumption|refine And.intro ?_ ?_|intro hp));all_goals (first|(refine hQ _ ?_;clear hQ Q)|(refine hQ _ (fun h=>?_) (fun h=>?_) <;> clear hQ Q <;> (try simp only [vki,reduceCtorEq] at h))|(refine vq ?_;kernel_rfl)|omega|assumption|with_reducible rfl|skip)))
  (simp only [vrt,Tryz.results54,vkt,seval,yC,ZV,qf,qc,qZ,qj,qz,qA,qG,qJ,qH,qh,qC,qF,qd,mTk,qa,qb,qw,qg,rpS,wU,pAl,xG,List.length_map];refine Fin.val rfl ?_;(try simp only [AV.le,AV.leL]))
  all_goals first|rfl|(simp;done)|exact ⟨_,_,rfl⟩
def Qf:List AV→Prop × AV
 |[.agg [.sl c0,.v (.int .i64 c1),.sl c2],.agg [.v (.int .i64 a0),.v (.int .i64 a1),.v (.int .i64 a2),.sl a3,.v (.bool a4)]]=>(c0=(c0.map qx).map qh∧c2=(c2.map dTk).map eTk∧a3=(a3.map zf).map zG∧CarOk ((⟨(c0.map qx),c1,(c2.map dTk)⟩:Chart))∧((⟨(c0.map qx),c1,(c2.map dTk)⟩:Chart)).sold.length≤20∧0 < ((⟨a0,a1,a2,(a3.map zf),a4⟩:Ask)).sexes.length∧((⟨a0,a1,a2,(a3.map zf),a4⟩:Ask)).sexes.length≤3,qZ ((alL (qN ((⟨(c0.map qx),c1,(c2.map dTk)⟩:Chart)).cabins) ((⟨a0,a1,a2,(a3.map zf),a4⟩:Ask)).sexes.length).filter (wO ((⟨(c0.map qx),c1,(c2.map dTk)⟩:Chart)) ((⟨a0,a1,a2,(a3.map zf),a4⟩:Ask)))))
 |_=>(False,.junk)
theorem Qf4 {A:Frm→Prop}:qE A Tryz.prog 54 (qR false Qf):=qV fun vs hv h=>by
 clear hv
 unfold Qf at h ⊢
 split at h
 ·rename_i c0 c1 c2 a0 a1 a2 a3 a4;obtain ⟨q0,q1,q2,k0,k1,k2,k3⟩:=h
  refine ⟨by first|trivial|(simp [AV.plain,AV.plainL,aI,aB,qB,qc,qo,qf,aTk,cTk];done)|(repeat' split) <;> simp [AV.plain,AV.plainL,aI,aB,qB,qc,qo,qf,aTk,cTk],fun h=>absurd h (by decide), ?_⟩
  have:=QbG ((⟨(c0.map qx),c1,(c2.map dTk)⟩:Chart)) ((⟨a0,a1,a2,(a3.map zf),a4⟩:Ask)) k0 k1 ⟨k2,k3⟩
  simp only [qw,aB,qW,qa,aI,qB,qo,qg,qb,← q0,← q1,← q2] at this
  first|exact this|(simp only [qw,aB,qW,qa,aI,qB,qo,qg,qb,← q0,← q1,← q2];exact this)
 ·exact h.elim
theorem Qky {c:Chart} {a:Ask} (h:zN c a=0) {s:Int} (h1:a.frm≤s) (h2:s < a.to):zN c (Qp a s)=0:=by
 have hw:=JZ h
 obtain ⟨g1,g2⟩:=yZ h
 unfold zN
 rw [g1,if_neg (by decide)]
 unfold xy Qp at *
 split at g2
 ·exact absurd g2 (by decide)
 rename_i k1
 split at g2
 ·exact absurd g2 (by decide)
 rename_i k2
 split at g2
 ·exact absurd g2 ‹_›
 have k4:kJ c.secs s (s+1)=0:=by unfold kJ;rw [if_neg (by omega)]
 rw [if_neg k1,if_neg k2,k4,if_neg (by decide)]
 exact g2
def opS (c:Chart) (a:Ask) (P:List (List Bunk)) (M:List Bunk) (T:List (Nat × AV)):St:={ t:=asg (T++[(7,qZ P),(8,.row 3)]),h:=ql [(3,.row 62 2 (M.map qj))],n:=4 }
def kN:=vj @ty3 (vj @yj (vj @QQ (vj @UE (vj @ZJ (vj @vU (vj @ti3.eq_1 (vj @jP.eq_1 (vj @kX.eq_1 (vj @VR.eq_1 (vj @QY.eq_1 @vF.eq_1))))))))))
def JQ:=vj @aI.eq_1 (vj @aB.eq_1 (@Q5))
theorem Qg3 (c:Chart) (a:Ask) (s:Int) (h:zN c (Qp a s)=0) (hs:0≤s∧s≤100):FnV Tryz.prog 73 [qa c,qw a,aI s] (qc (vE c a s)):=by
 have env:Env (fun _=>True) Tryz.prog tyB (tab [(54,qR false Qf)]):=qL ⟨Qf4,trivial⟩
 refine Fn.of (A:=fun _=>True) (n0:=0) (D:=noD) (Fn0 Tryz.func73 rfl (fun vs w=>by kernel_rfl) (by kernel_rfl)) (by simp) (by simp [AV.ids,AV.idsL,qa,qb,qw,qg,aI]) (fun i o h=>by cases h) (fun _ _ _ _=>trivial) qI ?_
 have eC:(⟨c.cabins,c.secs,c.sold⟩:Chart)=c:=rfl
 have eA:(⟨a.party,s,s+1,a.sexes,a.dog⟩:Ask)=Qp a s:=rfl
 have hmx:(100000:Nat)≤maxLen:=by decide
 have hv:=xR (yZ h).1
 have hCar:=hv.car
 have c1:c.sold.length≤20:=by have:=hv.many;omega
 obtain ⟨hx1,hx2⟩:=QaT (yZ h).2
 have a1:0 < (Qp a s).sexes.length:=by omega
 have hP:=U2 h hx2
 have hb:=UJ (ZO h)
 have hP2:vQ c (Qp a s)=(plP c (Qp a s)).map (·.1):=by unfold vQ;rw [if_pos h]
 have hO:vE c a s=(vQ c (Qp a s)).map fun p=>p.getD 0 default:=by
  rw [hP2,List.map_map];rfl
 have hl:(vQ c (Qp a s)).length≤1000:=by rw [hP2,List.length_map];omega
 have hne:∀ p ∈ vQ c (Qp a s),0 < p.length:=fun p hp=>by
  rw [hP] at hp
  have:=ZM p (List.mem_filter.1 hp).1
  omega
 obtain ⟨P,hPe⟩:∃ P,vQ c (Qp a s)=P:=⟨_,rfl⟩
 rw [hPe] at hP hO hl hne
 rw [hO]
 have hP:(alL (qN c.cabins) a.sexes.length).filter (wO c (Qp a s))=P:=hP.symm
 have w1:IntKind.wrap .i64 (s+1)=s+1:=wrap64 (by omega) (by omega)
 repeat' (first|(apply nx;with_reducible constructor)|refine uq (by decide) ?_|((first|refine vx env fun Q hQ=>?_|refine vz fun Q hQ=>?_);simp only [vkt,seval,kN,JQ,qf,qc,qZ,qj,qz,qA,qG,qJ,qH,qh,qC,qF,qd,mTk,qa,qb,qw,qg,opS,Qf,List.length_map,w1,eC,eA,hCar,c1,a1,hx1,hP];(try simp only [ite_and]);(repeat' (first|with_reducible assumption|refine And.intro ?_ ?_|intro hp));all_goals (first|(refine hQ _ ?_;clear hQ Q)|(refine hQ _ (fun h=>?_) (fun h=>?_) <;> clear hQ Q <;> (try simp only [vki,reduceCtorEq] at h))|(refine vq ?_;kernel_rfl)|omega|assumption|with_reducible rfl|skip)))
 refine qQ (fun i:{ i:Nat // i≤P.length }=>opS c a P ((P.take i.1).map fun p=>p.getD 0 default) [(9,aI i.1)]) (fun i=>P.length - i.1) ⟨0,Nat.zero_le _⟩ ?_ fun ⟨i,hi⟩=>?_
 ·simp only [opS,List.take_zero,List.map_nil,List.cons_append,List.nil_append]
  (refine Le.ok (fun i=>none) [] ?_;constructor;all_goals (try simp only [vle,vkt,seval,kN,JQ,qf,qc,qZ,qj,qz,qA,qG,qJ,qH,qh,qC,qF,qd,mTk,qa,qb,qw,qg,opS,Qf,List.length_map]))
  all_goals first|rfl|(simp;done)|(intro i hi;rw [if_neg (by omega)];done)
 simp only at hi ⊢
 by_cases hil:i < P.length
 ·have d1:decide ((i:Int) < (P.length:Int))=true:=decide_eq_true (by omega)
  have e9:IntKind.wrap .i64 ((i:Int)+1)=((i+1:Nat):Int):=by rw [wrap64 (by omega) (by omega)];rfl
  have i0:((i:Int)).toNat=i:=rfl
  have hg:=Wx hil
  have hpl:=hne (P.getD i []) (vG hil)
  obtain ⟨p,hp⟩:∃ p,P.getD i []=p:=⟨_,rfl⟩
  rw [hp] at hg hpl
  have hS:(P.take (i+1)).map (fun p=>p.getD 0 default)=(P.take i).map (fun p=>p.getD 0 default)++[p.getD 0 default]:=by
   rw [List.take_succ_eq_append_getElem hil,List.map_append,← hp]
   simp [List.getD_eq_getElem?_getD,hil]
  have hMl:((P.take i).map fun p=>p.getD 0 default).length≤i:=by rw [List.length_map,List.length_take];omega
  obtain ⟨M,hM⟩:∃ M,(P.take i).map (fun p=>p.getD 0 default)=M:=⟨_,rfl⟩
  obtain ⟨b,hb⟩:∃ b,p.getD 0 default=b:=⟨_,rfl⟩
  rw [hM,hb] at hS
  rw [hM] at hMl
  have hm:M.length+1≤maxLen:=by omega
  simp only [opS,hM,List.cons_append,List.nil_append]
  repeat' (first|(apply nx;with_reducible constructor)|refine uq (by decide) ?_|((first|refine vx env fun Q hQ=>?_|refine vz fun Q hQ=>?_);simp only [vkt,seval,kN,JQ,qf,qc,qZ,qj,qz,qA,qG,qJ,qH,qh,qC,qF,qd,mTk,qa,qb,qw,qg,opS,Qf,List.length_map,d1,i0,hil,hp,hg,hpl,hb,e9,hm];(try simp only [ite_and]);(repeat' (first|with_reducible assumption|refine And.intro ?_ ?_|intro hp));all_goals (first|(refine hQ _ ?_;clear hQ Q)|(refine hQ _ (fun h=>?_) (fun h=>?_) <;> clear hQ Q <;> (try simp only [vki,reduceCtorEq] at h))|(refine vq ?_;kernel_rfl)|omega|assumption|with_reducible rfl|skip)))
  refine ⟨⟨i+1,hil⟩,by show P.length - (i+1) < P.length - i;omega, ?_⟩
  simp only [opS,hS,List.cons_append,List.nil_append]
  (refine Le.ok (fun i=>if i=3 then some 5 else none) [] ?_;constructor;all_goals (try simp only [vle,vkt,seval,kN,JQ,qf,qc,qZ,qj,qz,qA,qG,qJ,qH,qh,qC,qF,qd,mTk,qa,qb,qw,qg,opS,Qf,List.length_map]))
  all_goals first|rfl|(rw [List.map_append];rfl)|(simp;done)|(intro i hi;rw [if_neg (by omega)];done)
 ·have d1:decide ((i:Int) < (P.length:Int))=false:=decide_eq_false (by omega)
  obtain rfl:i=P.length:=by omega
  rw [List.take_length]
  simp only [opS,List.cons_append,List.nil_append]
  repeat' (first|(apply nx;with_reducible constructor)|refine uq (by decide) ?_|((first|refine vx env fun Q hQ=>?_|refine vz fun Q hQ=>?_);simp only [vkt,seval,kN,JQ,qf,qc,qZ,qj,qz,qA,qG,qJ,qH,qh,qC,qF,qd,mTk,qa,qb,qw,qg,opS,Qf,List.length_map,d1];(try simp only [ite_and]);(repeat' (first|with_reducible assumption|refine And.intro ?_ ?_|intro hp));all_goals (first|(refine hQ _ ?_;clear hQ Q)|(refine hQ _ (fun h=>?_) (fun h=>?_) <;> clear hQ Q <;> (try simp only [vki,reduceCtorEq] at h))|(refine vq ?_;kernel_rfl)|omega|assumption|with_reducible rfl|skip)))
  (simp only [vrt,Tryz.results73,vkt,seval,kN,JQ,qf,qc,qZ,qj,qz,qA,qG,qJ,qH,qh,qC,qF,qd,mTk,qa,qb,qw,qg,opS,Qf,List.length_map];refine Fin.val rfl ?_;(try simp only [AV.le,AV.leL]))
  all_goals first|rfl|(simp;done)|exact ⟨_,_,rfl⟩
def yx:List AV→Prop × AV
 |[.agg [.sl c0,.v (.int .i64 c1),.sl c2],.agg [.v (.int .i64 a0),.v (.int .i64 a1),.v (.int .i64 a2),.sl a3,.v (.bool a4)],.v (.int .i64 s)]=>(c0=(c0.map qx).map qh∧c2=(c2.map dTk).map eTk∧a3=(a3.map zf).map zG∧zN ((⟨(c0.map qx),c1,(c2.map dTk)⟩:Chart)) (Qp ((⟨a0,a1,a2,(a3.map zf),a4⟩:Ask)) s)=0∧0≤s∧s≤100,qc (vE ((⟨(c0.map qx),c1,(c2.map dTk)⟩:Chart)) ((⟨a0,a1,a2,(a3.map zf),a4⟩:Ask)) s))
 |_=>(False,.junk)
theorem QgH {A:Frm→Prop}:qE A Tryz.prog 73 (qR false yx):=qV fun vs hv h=>by
 clear hv
 unfold yx at h ⊢
 split at h
 ·rename_i c0 c1 c2 a0 a1 a2 a3 a4 s;obtain ⟨q0,q1,q2,k0,k1,k2⟩:=h
  refine ⟨by first|trivial|(simp [AV.plain,AV.plainL,aI,aB,qB,qc,qo,qf,aTk,cTk];done)|(repeat' split) <;> simp [AV.plain,AV.plainL,aI,aB,qB,qc,qo,qf,aTk,cTk],fun h=>absurd h (by decide), ?_⟩
  have:=Qg3 ((⟨(c0.map qx),c1,(c2.map dTk)⟩:Chart)) ((⟨a0,a1,a2,(a3.map zf),a4⟩:Ask)) s k0 ⟨k1,k2⟩
  simp only [qw,aB,qW,qa,aI,qB,qo,qg,qb,← q0,← q1,← q2] at this
  first|exact this|(simp only [qw,aB,qW,qa,aI,qB,qo,qg,qb,← q0,← q1,← q2];exact this)
 ·exact h.elim
def rcS (c:Chart) (k:Nat):St:={ t:=asg [(1,.ptr 0 0),(2,aI 0),(3,aI k)],h:=ql [(0,.cells (qb c))],n:=1 }
def ZX (c:Chart):Int:=if c.cabins.length=0 then 7 else if 3 < c.cabins.length then 6 else if yL (c.cabins.map Qo) ≠ 0 then yL (c.cabins.map Qo) else if !inB c.secs 1 5 then 1 else 0
theorem Qbz (c:Chart):zW c=if ZX c ≠ 0 then ZX c else if 8 < c.sold.length then 6 else jO c c.sold:=by
 unfold zW WL ZX zJ
 by_cases h1:c.cabins.length=0
 ·rw [if_pos (show (c.cabins.length:Int) < 1 by omega),if_pos h1];simp
 rw [if_neg (show ¬ (c.cabins.length:Int) < 1 by omega),if_neg h1]
 by_cases h2:3 < c.cabins.length
 ·rw [if_pos (show (3:Int) < (c.cabins.length:Int) by omega),if_pos h2];simp
 rw [if_neg (show ¬ (3:Int) < (c.cabins.length:Int) by omega),if_neg h2]
 simp only [ne_eq,not_true_eq_false,if_false]
 by_cases h3:yL (c.cabins.map Qo)=0
 ·rw [h3]
  simp only [not_true_eq_false,if_false]
  cases inB c.secs 1 5 with
  |false=>simp
  |true =>
   simp only [Bool.not_true,Bool.false_eq_true,if_false,not_true_eq_false]
   by_cases h4:8 < c.sold.length
   ·rw [if_neg (show ¬ (c.sold.length:Int) < 0 by omega),if_pos (show (8:Int) < (c.sold.length:Int) by omega),if_pos h4];simp
   ·rw [if_neg (show ¬ (c.sold.length:Int) < 0 by omega),if_neg (show ¬ (8:Int) < (c.sold.length:Int) by omega),if_neg h4];simp
 ·simp [h3]
theorem Qhz {c:Chart} (h:ZX c=0):CarOk c:=by
 unfold ZX at h
 split at h
 ·exact absurd h (by decide)
 split at h
 ·exact absurd h (by decide)
 split at h
 ·exact absurd h ‹_›
 rename_i h3
 split at h
 ·exact absurd h (by decide)
 rename_i h4
 refine ⟨by omega,fun x hx=>?_,jr.1 (by simpa using h4)⟩
 have:=ZY (Decidable.not_not.1 h3) _ (List.mem_map.2 ⟨x,hx,rfl⟩)
 unfold Qo at this
 split at this
 ·exact absurd this (by decide)
 ·rename_i h5;exact jr.1 (by simpa using h5)
def je:=vj @ty3 (vj @J2 (vj @yj (vj @J6 (vj @ti3.eq_1 (vj @WN.eq_1 (vj @jP.eq_1 @WM.eq_1))))))
def xq:=vj @aI.eq_1 (@aB.eq_1)
theorem Qh2 (c:Chart) (hc:c.cabins.length≤maxLen):FnV Tryz.prog 119 [qa c] (aI (ZX c)):=by
 have env:Env (fun _=>True) Tryz.prog tyB (tab [(83,qR true zb)]):=qL ⟨Lr,trivial⟩
 refine Fn.of (A:=fun _=>True) (n0:=0) (D:=noD) (Fn0 Tryz.func119 rfl (fun vs w=>by kernel_rfl) (by kernel_rfl)) (by simp) (by simp [AV.ids,AV.idsL,qa,qb]) (fun i o h=>by cases h) (fun _ _ _ _=>trivial) qI ?_
 by_cases h1:c.cabins.length=0
 ·rw [show ZX c=7 by unfold ZX;rw [if_pos h1]]
  have d1:decide ((c.cabins.length:Int)=0)=true:=decide_eq_true (by omega)
  repeat' (first|(apply nx;with_reducible constructor)|refine uq (by decide) ?_|((first|refine vx env fun Q hQ=>?_|refine vz fun Q hQ=>?_);simp only [vkt,seval,je,xq,qa,qb,qh,qC,rcS,zb,List.length_map,d1];(try simp only [ite_and]);(repeat' (first|with_reducible assumption|refine And.intro ?_ ?_|intro hp));all_goals (first|(refine hQ _ ?_;clear hQ Q)|(refine hQ _ (fun h=>?_) (fun h=>?_) <;> clear hQ Q <;> (try simp only [vki,reduceCtorEq] at h))|(refine vq ?_;kernel_rfl)|omega|assumption|with_reducible rfl|skip)))
  (simp only [vrt,Tryz.results119,vkt,seval,je,xq,qa,qb,qh,qC,rcS,zb,List.length_map];refine Fin.val rfl ?_;(try simp only [AV.le,AV.leL]))
  all_goals first|rfl|(simp;done)
 have d1:decide ((c.cabins.length:Int)=0)=false:=decide_eq_false (by omega)
 by_cases h2:3 < c.cabins.length
 ·rw [show ZX c=6 by unfold ZX;rw [if_neg h1,if_pos h2]]
  have d2:decide ((3:Int) < (c.cabins.length:Int))=true:=decide_eq_true (by omega)
  repeat' (first|(apply nx;with_reducible constructor)|refine uq (by decide) ?_|((first|refine vx env fun Q hQ=>?_|refine vz fun Q hQ=>?_);simp only [vkt,seval,je,xq,qa,qb,qh,qC,rcS,zb,List.length_map,d1,d2];(try simp only [ite_and]);(repeat' (first|with_reducible assumption|refine And.intro ?_ ?_|intro hp));all_goals (first|(refine hQ _ ?_;clear hQ Q)|(refine hQ _ (fun h=>?_) (fun h=>?_) <;> clear hQ Q <;> (try simp only [vki,reduceCtorEq] at h))|(refine vq ?_;kernel_rfl)|omega|assumption|with_reducible rfl|skip)))
  (simp only [vrt,Tryz.results119,vkt,seval,je,xq,qa,qb,qh,qC,rcS,zb,List.length_map];refine Fin.val rfl ?_;(try simp only [AV.le,AV.leL]))
  all_goals first|rfl|(simp;done)
 have d2:decide ((3:Int) < (c.cabins.length:Int))=false:=decide_eq_false (by omega)
 have hE:ZX c=if yL (c.cabins.map Qo) ≠ 0 then yL (c.cabins.map Qo) else if !inB c.secs 1 5 then 1 else 0:=by unfold ZX;rw [if_neg h1,if_neg h2]
 rw [hE]
 repeat' (first|(apply nx;with_reducible constructor)|refine uq (by decide) ?_|((first|refine vx env fun Q hQ=>?_|refine vz fun Q hQ=>?_);simp only [vkt,seval,je,xq,qa,qb,qh,qC,rcS,zb,List.length_map,d1,d2];(try simp only [ite_and]);(repeat' (first|with_reducible assumption|refine And.intro ?_ ?_|intro hp));all_goals (first|(refine hQ _ ?_;clear hQ Q)|(refine hQ _ (fun h=>?_) (fun h=>?_) <;> clear hQ Q <;> (try simp only [vki,reduceCtorEq] at h))|(refine vq ?_;kernel_rfl)|omega|assumption|with_reducible rfl|skip)))
 refine qQ (fun k:{ k:Nat // k≤c.cabins.length∧∀ j,j < k→(c.cabins.map Qo).getD j 0=0 }=>rcS c k.1) (fun k=>c.cabins.length - k.1) ⟨0,Nat.zero_le _,fun j h=>absurd h (Nat.not_lt_zero _)⟩ ?_ fun ⟨k,hk,hno⟩=>?_
 ·simp only [rcS]
  (refine Le.ok some [] ?_;constructor;all_goals (try simp only [vle,vkt,seval,je,xq,qa,qb,qh,qC,rcS,zb,List.length_map]))
  all_goals first|rfl|(simp;done)
 simp only at hk hno ⊢
 simp only [rcS]
 by_cases hlt:k < c.cabins.length
 ·have d3:decide ((k:Int) < (c.cabins.length:Int))=true:=decide_eq_true (by omega)
  have k0:((k:Int)).toNat=k:=rfl
  have e9:IntKind.wrap .i64 ((k:Int)+1)=((k+1:Nat):Int):=by rw [wrap64 (by omega) (by omega)];rfl
  obtain ⟨x,hx⟩:∃ x,c.cabins.getD k default=x:=⟨_,rfl⟩
  have hm:(c.cabins.map Qo).getD k 0=Qo x:=by rw [mapD hlt,hx]
  cases hb:inB x.beds 1 3 with
  |false =>
   have hE:Qo x=1:=by simp [Qo,hb]
   have hf:=kR hno (by simpa using hlt) (by rw [hm,hE];decide)
   rw [hm,hE] at hf
   rw [hf,if_pos (by decide)]
   repeat' (first|(apply nx;with_reducible constructor)|refine uq (by decide) ?_|((first|refine vx env fun Q hQ=>?_|refine vz fun Q hQ=>?_);simp only [vkt,seval,je,xq,qa,qb,qh,qC,rcS,zb,List.length_map,d3,k0,hlt,hx,hb];(try simp only [ite_and]);(repeat' (first|with_reducible assumption|refine And.intro ?_ ?_|intro hp));all_goals (first|(refine hQ _ ?_;clear hQ Q)|(refine hQ _ (fun h=>?_) (fun h=>?_) <;> clear hQ Q <;> (try simp only [vki,reduceCtorEq] at h))|(refine vq ?_;kernel_rfl)|omega|assumption|with_reducible rfl|skip)))
   (simp only [vrt,Tryz.results119,vkt,seval,je,xq,qa,qb,qh,qC,rcS,zb,List.length_map];refine Fin.val rfl ?_;(try simp only [AV.le,AV.leL]))
   all_goals first|rfl|(simp;done)
  |true =>
   have hE:Qo x=0:=by simp [Qo,hb]
   repeat' (first|(apply nx;with_reducible constructor)|refine uq (by decide) ?_|((first|refine vx env fun Q hQ=>?_|refine vz fun Q hQ=>?_);simp only [vkt,seval,je,xq,qa,qb,qh,qC,rcS,zb,List.length_map,d3,k0,hlt,hx,hb,e9];(try simp only [ite_and]);(repeat' (first|with_reducible assumption|refine And.intro ?_ ?_|intro hp));all_goals (first|(refine hQ _ ?_;clear hQ Q)|(refine hQ _ (fun h=>?_) (fun h=>?_) <;> clear hQ Q <;> (try simp only [vki,reduceCtorEq] at h))|(refine vq ?_;kernel_rfl)|omega|assumption|with_reducible rfl|skip)))
   refine ⟨⟨k+1,hlt,fun j hj=>?_⟩,by show c.cabins.length - (k+1) < c.cabins.length - k;omega, ?_⟩
   ·rcases Nat.lt_or_eq_of_le (Nat.le_of_lt_succ hj) with h2|h2
    ·exact hno j h2
    ·rw [h2,hm,hE]
   ·simp only [rcS]
    (refine Le.ok some [] ?_;constructor;all_goals (try simp only [vle,vkt,seval,je,xq,qa,qb,qh,qC,rcS,zb,List.length_map]))
    all_goals first|rfl|(simp;done)
 ·have d3:decide ((k:Int) < (c.cabins.length:Int))=false:=decide_eq_false (by omega)
  obtain rfl:k=c.cabins.length:=by omega
  have hf:yL (c.cabins.map Qo)=0:=y9 (by simpa using hno)
  rw [hf,if_neg (by decide)]
  cases hs:inB c.secs 1 5 with
  |false =>
   repeat' (first|(apply nx;with_reducible constructor)|refine uq (by decide) ?_|((first|refine vx env fun Q hQ=>?_|refine vz fun Q hQ=>?_);simp only [vkt,seval,je,xq,qa,qb,qh,qC,rcS,zb,List.length_map,d3,hs];(try simp only [ite_and]);(repeat' (first|with_reducible assumption|refine And.intro ?_ ?_|intro hp));all_goals (first|(refine hQ _ ?_;clear hQ Q)|(refine hQ _ (fun h=>?_) (fun h=>?_) <;> clear hQ Q <;> (try simp only [vki,reduceCtorEq] at h))|(refine vq ?_;kernel_rfl)|omega|assumption|with_reducible rfl|skip)))
   (simp only [vrt,Tryz.results119,vkt,seval,je,xq,qa,qb,qh,qC,rcS,zb,List.length_map];refine Fin.val rfl ?_;(try simp only [AV.le,AV.leL]))
   all_goals first|rfl|(simp;done)
  |true =>
   repeat' (first|(apply nx;with_reducible constructor)|refine uq (by decide) ?_|((first|refine vx env fun Q hQ=>?_|refine vz fun Q hQ=>?_);simp only [vkt,seval,je,xq,qa,qb,qh,qC,rcS,zb,List.length_map,d3,hs];(try simp only [ite_and]);(repeat' (first|with_reducible assumption|refine And.intro ?_ ?_|intro hp));all_goals (first|(refine hQ _ ?_;clear hQ Q)|(refine hQ _ (fun h=>?_) (fun h=>?_) <;> clear hQ Q <;> (try simp only [vki,reduceCtorEq] at h))|(refine vq ?_;kernel_rfl)|omega|assumption|with_reducible rfl|skip)))
   (simp only [vrt,Tryz.results119,vkt,seval,je,xq,qa,qb,qh,qC,rcS,zb,List.length_map];refine Fin.val rfl ?_;(try simp only [AV.le,AV.leL]))
   all_goals first|rfl|(simp;done)
def Yw:List AV→Prop × AV
 |[.agg [.sl c0,.v (.int .i64 c1),.sl c2]]=>(c0=(c0.map qx).map qh∧c2=(c2.map dTk).map eTk∧((⟨(c0.map qx),c1,(c2.map dTk)⟩:Chart)).cabins.length≤maxLen,aI (ZX ((⟨(c0.map qx),c1,(c2.map dTk)⟩:Chart))))
 |_=>(False,.junk)
theorem ercar {A:Frm→Prop}:qE A Tryz.prog 119 (qR true Yw):=qV fun vs hv h=>by
 clear hv
 unfold Yw at h ⊢
 split at h
 ·rename_i c0 c1 c2;obtain ⟨q0,q1,k0⟩:=h
  refine ⟨by first|trivial|(simp [AV.plain,AV.plainL,aI,aB,qB,qc,qo,qf,aTk,cTk];done)|(repeat' split) <;> simp [AV.plain,AV.plainL,aI,aB,qB,qc,qo,qf,aTk,cTk],fun _=>(by simp [AV.flat,AV.flatL,aI,aB]), ?_⟩
  have:=Qh2 ((⟨(c0.map qx),c1,(c2.map dTk)⟩:Chart)) k0
  simp only [qW,qa,aI,qo,qb,← q0,← q1] at this
  first|exact this|(simp only [qW,qa,aI,qo,qb,← q0,← q1];exact this)
 ·exact h.elim
def xJ:=vj @ty3 (vj @Qh (vj @yj (vj @Zj (vj @vo (vj @ti3.eq_1 (vj @xW.eq_1 (vj @jP.eq_1 (vj @Qy.eq_1 @yK.eq_1))))))))
def JW:=vj @aI.eq_1 (@aB.eq_1)
theorem QeV (c:Chart) (hc:c.cabins.length≤maxLen) (hs:c.sold.length≤100000):FnV Tryz.prog 82 [qa c] (aI (zW c)):=by
 have env:Env (fun _=>True) Tryz.prog tyB (tab [(119,qR true Yw),(112,qR true xO)]):=qL ⟨ercar,QiX,trivial⟩
 refine Fn.of (A:=fun _=>True) (n0:=0) (D:=noD) (Fn0 Tryz.func82 rfl (fun vs w=>by kernel_rfl) (by kernel_rfl)) (by simp) (by simp [AV.ids,AV.idsL,qa,qb]) (fun i o h=>by cases h) (fun _ _ _ _=>trivial) qI ?_
 have ec:(⟨c.cabins,c.secs,c.sold⟩:Chart)=c:=rfl
 rw [Qbz]
 obtain ⟨e,he⟩:∃ e,ZX c=e:=⟨_,rfl⟩
 by_cases h0:e=0
 ·have hok:=Qhz (he.trans h0)
  rw [h0] at he
  rw [he,if_neg (by decide)]
  by_cases h8:8 < c.sold.length
  ·rw [if_pos h8]
   have d1:decide ((8:Int) < (c.sold.length:Int))=true:=decide_eq_true (by omega)
   repeat' (first|(apply nx;with_reducible constructor)|refine uq (by decide) ?_|((first|refine vx env fun Q hQ=>?_|refine vz fun Q hQ=>?_);simp only [vkt,seval,xJ,JW,qa,qb,qo,mTk,qd,Yw,xO,List.length_map,hc,ec,he,d1,decide_true];(try simp only [ite_and]);(repeat' (first|with_reducible assumption|refine And.intro ?_ ?_|intro hp));all_goals (first|(refine hQ _ ?_;clear hQ Q)|(refine hQ _ (fun h=>?_) (fun h=>?_) <;> clear hQ Q <;> (try simp only [vki,reduceCtorEq] at h))|(refine vq ?_;kernel_rfl)|omega|assumption|with_reducible rfl|skip)))
   (simp only [vrt,Tryz.results82,vkt,seval,xJ,JW,qa,qb,qo,mTk,qd,Yw,xO,List.length_map];refine Fin.val rfl ?_;(try simp only [AV.le,AV.leL]))
   all_goals first|rfl|(simp;done)
  ·rw [if_neg h8]
   have d1:decide ((8:Int) < (c.sold.length:Int))=false:=decide_eq_false (by omega)
   have h100:c.sold.length≤100:=by omega
   repeat' (first|(apply nx;with_reducible constructor)|refine uq (by decide) ?_|((first|refine vx env fun Q hQ=>?_|refine vz fun Q hQ=>?_);simp only [vkt,seval,xJ,JW,qa,qb,qo,mTk,qd,Yw,xO,List.length_map,hc,ec,he,d1,hok,h100,decide_true];(try simp only [ite_and]);(repeat' (first|with_reducible assumption|refine And.intro ?_ ?_|intro hp));all_goals (first|(refine hQ _ ?_;clear hQ Q)|(refine hQ _ (fun h=>?_) (fun h=>?_) <;> clear hQ Q <;> (try simp only [vki,reduceCtorEq] at h))|(refine vq ?_;kernel_rfl)|omega|assumption|with_reducible rfl|skip)))
   (simp only [vrt,Tryz.results82,vkt,seval,xJ,JW,qa,qb,qo,mTk,qd,Yw,xO,List.length_map];refine Fin.val rfl ?_;(try simp only [AV.le,AV.leL]))
   all_goals first|rfl|(simp;done)
 ·rw [he,if_pos h0]
  have d0:decide (e=0)=false:=decide_eq_false h0
  repeat' (first|(apply nx;with_reducible constructor)|refine uq (by decide) ?_|((first|refine vx env fun Q hQ=>?_|refine vz fun Q hQ=>?_);simp only [vkt,seval,xJ,JW,qa,qb,qo,mTk,qd,Yw,xO,List.length_map,hc,ec,he,d0];(try simp only [ite_and]);(repeat' (first|with_reducible assumption|refine And.intro ?_ ?_|intro hp));all_goals (first|(refine hQ _ ?_;clear hQ Q)|(refine hQ _ (fun h=>?_) (fun h=>?_) <;> clear hQ Q <;> (try simp only [vki,reduceCtorEq] at h))|(refine vq ?_;kernel_rfl)|omega|assumption|with_reducible rfl|skip)))
  (simp only [vrt,Tryz.results82,vkt,seval,xJ,JW,qa,qb,qo,mTk,qd,Yw,xO,List.length_map];refine Fin.val rfl ?_;(try simp only [AV.le,AV.leL]))
  all_goals first|rfl|(simp;done)
def jy:List AV→Prop × AV
 |[.agg [.sl c0,.v (.int .i64 c1),.sl c2]]=>(c0=(c0.map qx).map qh∧c2=(c2.map dTk).map eTk∧((⟨(c0.map qx),c1,(c2.map dTk)⟩:Chart)).cabins.length≤maxLen∧((⟨(c0.map qx),c1,(c2.map dTk)⟩:Chart)).sold.length≤100000,aI (zW ((⟨(c0.map qx),c1,(c2.map dTk)⟩:Chart))))
 |_=>(False,.junk)
theorem QcK {A:Frm→Prop}:qE A Tryz.prog 82 (qR true jy):=qV fun vs hv h=>by
 clear hv
 unfold jy at h ⊢
 split at h
 ·rename_i c0 c1 c2;obtain ⟨q0,q1,k0,k1⟩:=h
  refine ⟨by first|trivial|(simp [AV.plain,AV.plainL,aI,aB,qB,qc,qo,qf,aTk,cTk];done)|(repeat' split) <;> simp [AV.plain,AV.plainL,aI,aB,qB,qc,qo,qf,aTk,cTk],fun _=>(by simp [AV.flat,AV.flatL,aI,aB]), ?_⟩
  have:=QeV ((⟨(c0.map qx),c1,(c2.map dTk)⟩:Chart)) k0 k1
  simp only [qW,qa,aI,qo,qb,← q0,← q1] at this
  first|exact this|(simp only [qW,qa,aI,qo,qb,← q0,← q1];exact this)
 ·exact h.elim
def VH:=vj @J2 (vj @Qh (vj @yj (vj @vo (vj @J6 (vj @WN.eq_1 (vj @xW.eq_1 (vj @jP.eq_1 (vj @yK.eq_1 @WM.eq_1))))))))
def QcG:=vj @aI.eq_1 (@aB.eq_1)
theorem QfV (c:Chart) (h3:c.cabins.length≤100000) (h4:c.sold.length≤100000):FnV Tryz.prog 14 [qa c] (qa c):=by
 have env:Env (fun _=>True) Tryz.prog tyB (tab []):=qL trivial
 obtain ⟨b1,b2,b3,b5,b4⟩:=b47 h3
 obtain ⟨c1,c2,c3,c5,c4⟩:=b47 h4
 refine Fn.of (A:=fun _=>True) (n0:=0) (D:=noD) (Fn0 Tryz.func14 rfl (fun vs w=>by kernel_rfl) (by kernel_rfl)) (by simp) (by simp [AV.ids,AV.idsL,qa,qb]) (fun i o h=>by cases h) (fun _ _ _ _=>trivial) qI ?_
 repeat' (first|(apply nx;with_reducible constructor)|refine uq (by decide) ?_|((first|refine vx env fun Q hQ=>?_|refine vz fun Q hQ=>?_);simp only [vkt,seval,VH,QcG,qa,qb,rTk,zq,mTk,qd,List.nil_append,List.length_map,b4,c4];(try simp only [ite_and]);(repeat' (first|with_reducible assumption|refine And.intro ?_ ?_|intro hp));all_goals (first|(refine hQ _ ?_;clear hQ Q)|(refine hQ _ (fun h=>?_) (fun h=>?_) <;> clear hQ Q <;> (try simp only [vki,reduceCtorEq] at h))|(refine vq ?_;kernel_rfl)|omega|assumption|with_reducible rfl|skip)))
 (simp only [vrt,Tryz.results14,vkt,seval,VH,QcG,qa,qb,rTk,zq,mTk,qd,List.nil_append,List.length_map];refine Fin.val rfl ?_;(try simp only [AV.le,AV.leL]))
 all_goals first|rfl|(simp;done)|exact ⟨⟨_,_,rfl⟩,trivial,⟨_,_,rfl⟩,trivial⟩
def yc:List AV→Prop × AV
 |[.agg [.sl c0,.v (.int .i64 c1),.sl c2]]=>(c0=(c0.map qx).map qh∧c2=(c2.map dTk).map eTk∧((⟨(c0.map qx),c1,(c2.map dTk)⟩:Chart)).cabins.length≤100000∧((⟨(c0.map qx),c1,(c2.map dTk)⟩:Chart)).sold.length≤100000,qa ((⟨(c0.map qx),c1,(c2.map dTk)⟩:Chart)))
 |_=>(False,.junk)
theorem QjT {A:Frm→Prop}:qE A Tryz.prog 14 (qR false yc):=qV fun vs hv h=>by
 clear hv
 unfold yc at h ⊢
 split at h
 ·rename_i c0 c1 c2;obtain ⟨q0,q1,k0,k1⟩:=h
  refine ⟨by first|trivial|(simp [AV.plain,AV.plainL,aI,aB,qB,qc,qo,qf,aTk,cTk];done)|(repeat' split) <;> simp [AV.plain,AV.plainL,aI,aB,qB,qc,qo,qf,aTk,cTk],fun h=>absurd h (by decide), ?_⟩
  have:=QfV ((⟨(c0.map qx),c1,(c2.map dTk)⟩:Chart)) k0 k1
  simp only [qW,qa,aI,qo,qb,← q0,← q1] at this
  first|exact this|(simp only [qW,qa,aI,qo,qb,← q0,← q1];exact this)
 ·exact h.elim
def VJ:=vj @ty3 (vj @QT (vj @ti3.eq_1 @Qg.eq_1))
def QcR:=vj @aI.eq_1 (vj @aB.eq_1 (vj @qB.eq_1 (@Qau)))
theorem Qhu (l:List Int) (h:l.length≤100000):FnV Tryz.prog 49 [qB l] (qB l):=by
 have env:Env (fun _=>True) Tryz.prog tyB (tab []):=qL trivial
 refine Fn.of (A:=fun _=>True) (n0:=0) (D:=noD) (Fn0 Tryz.func49 rfl (fun vs w=>by kernel_rfl) (by kernel_rfl)) (by simp) (by simp [AV.ids,qB]) (fun i o h=>by cases h) (fun _ _ _ _=>trivial) qI ?_
 have hmx:(100000:Nat)≤maxLen:=by decide
 have h5:l.length≤maxLen:=by omega
 repeat' (first|(apply nx;with_reducible constructor)|refine uq (by decide) ?_|((first|refine vx env fun Q hQ=>?_|refine vz fun Q hQ=>?_);simp only [vkt,seval,VJ,QcR,List.nil_append,List.length_map,h,h5];(try simp only [ite_and]);(repeat' (first|with_reducible assumption|refine And.intro ?_ ?_|intro hp));all_goals (first|(refine hQ _ ?_;clear hQ Q)|(refine hQ _ (fun h=>?_) (fun h=>?_) <;> clear hQ Q <;> (try simp only [vki,reduceCtorEq] at h))|(refine vq ?_;kernel_rfl)|omega|assumption|with_reducible rfl|skip)))
 (simp only [vrt,Tryz.results49,vkt,seval,VJ,QcR,List.nil_append,List.length_map];refine Fin.val rfl ?_;(try simp only [AV.le,AV.leL]))
 all_goals first|rfl|(simp;done)|exact ⟨_,_,rfl⟩
def XJ:List AV→Prop × AV
 |[.sl l]=>(l=(l.map zf).map zG∧(l.map zf).length≤100000,qB (l.map zf))
 |_=>(False,.junk)
theorem Qkw {A:Frm→Prop}:qE A Tryz.prog 49 (qR false XJ):=qV fun vs hv h=>by
 clear hv
 unfold XJ at h ⊢
 split at h
 ·rename_i l;obtain ⟨q0,k0⟩:=h
  refine ⟨by first|trivial|(simp [AV.plain,AV.plainL,aI,aB,qB,qc,qo,qf,aTk,cTk];done)|(repeat' split) <;> simp [AV.plain,AV.plainL,aI,aB,qB,qc,qo,qf,aTk,cTk],fun h=>absurd h (by decide), ?_⟩
  have:=Qhu (l.map zf) k0
  simp only [qB,← q0] at this
  first|exact this|(simp only [qB,← q0];exact this)
 ·exact h.elim
def VM:=vj @ty3 (vj @QT (vj @QQ (vj @ti3.eq_1 (vj @Qg.eq_1 @kX.eq_1))))
def Qdf:=vj @aI.eq_1 (vj @aB.eq_1 (vj @qB.eq_1 (@Q5)))
theorem QfN (a:Ask) (h:a.sexes.length≤100000):FnV Tryz.prog 15 [qw a] (qw a):=by
 have env:Env (fun _=>True) Tryz.prog tyB (tab [(49,qR false XJ)]):=qL ⟨Qkw,trivial⟩
 refine Fn.of (A:=fun _=>True) (n0:=0) (D:=noD) (Fn0 Tryz.func15 rfl (fun vs w=>by kernel_rfl) (by kernel_rfl)) (by simp) (by simp [AV.ids,AV.idsL,qw,qg]) (fun i o h=>by cases h) (fun _ _ _ _=>trivial) qI ?_
 repeat' (first|(apply nx;with_reducible constructor)|refine uq (by decide) ?_|((first|refine vx env fun Q hQ=>?_|refine vz fun Q hQ=>?_);simp only [vkt,seval,VM,Qdf,qw,qg,XJ,List.length_map,h];(try simp only [ite_and]);(repeat' (first|with_reducible assumption|refine And.intro ?_ ?_|intro hp));all_goals (first|(refine hQ _ ?_;clear hQ Q)|(refine hQ _ (fun h=>?_) (fun h=>?_) <;> clear hQ Q <;> (try simp only [vki,reduceCtorEq] at h))|(refine vq ?_;kernel_rfl)|omega|assumption|with_reducible rfl|skip)))
 (simp only [vrt,Tryz.results15,vkt,seval,VM,Qdf,qw,qg,XJ,List.length_map];refine Fin.val rfl ?_;(try simp only [AV.le,AV.leL]))
 all_goals first|rfl|(simp;done)|exact ⟨_,_,rfl⟩
def yg:List AV→Prop × AV
 |[.agg [.v (.int .i64 a0),.v (.int .i64 a1),.v (.int .i64 a2),.sl a3,.v (.bool a4)]]=>(a3=(a3.map zf).map zG∧((⟨a0,a1,a2,(a3.map zf),a4⟩:Ask)).sexes.length≤100000,qw ((⟨a0,a1,a2,(a3.map zf),a4⟩:Ask)))
 |_=>(False,.junk)
theorem QjU {A:Frm→Prop}:qE A Tryz.prog 15 (qR false yg):=qV fun vs hv h=>by
 clear hv
 unfold yg at h ⊢
 split at h
 ·rename_i a0 a1 a2 a3 a4;obtain ⟨q0,k0⟩:=h
  refine ⟨by first|trivial|(simp [AV.plain,AV.plainL,aI,aB,qB,qc,qo,qf,aTk,cTk];done)|(repeat' split) <;> simp [AV.plain,AV.plainL,aI,aB,qB,qc,qo,qf,aTk,cTk],fun h=>absurd h (by decide), ?_⟩
  have:=QfN ((⟨a0,a1,a2,(a3.map zf),a4⟩:Ask)) k0
  simp only [qw,aB,aI,qB,qg,← q0] at this
  first|exact this|(simp only [qw,aB,aI,qB,qg,← q0];exact this)
 ·exact h.elim
def ZU:=vj @ty3 (vj @J2 (vj @Qh (vj @yj (vj @vo (vj @J6 (vj @ti3.eq_1 (vj @WN.eq_1 (vj @xW.eq_1 (vj @jP.eq_1 (vj @yK.eq_1 @WM.eq_1))))))))))
def V5:=vj @aI.eq_1 (@aB.eq_1)
theorem QfJ (c:Chart):FnV Tryz.prog 8 [qa c] (aB (decide (20 < (c.cabins.length:Int)) || decide (20 < (c.sold.length:Int)))):=by
 have env:Env (fun _=>True) Tryz.prog tyB (tab []):=qL trivial
 refine Fn.of (A:=fun _=>True) (n0:=0) (D:=noD) (Fn0 Tryz.func8 rfl (fun vs w=>by kernel_rfl) (by kernel_rfl)) (by simp) (by simp [AV.ids,AV.idsL,qa,qb]) (fun i o h=>by cases h) (fun _ _ _ _=>trivial) qI ?_
 cases q:decide (20 < (c.cabins.length:Int)) with
 |true =>
  repeat' (first|(apply nx;with_reducible constructor)|refine uq (by decide) ?_|((first|refine vx env fun Q hQ=>?_|refine vz fun Q hQ=>?_);simp only [vkt,seval,ZU,V5,qa,qb,List.length_map,q];(try simp only [ite_and]);(repeat' (first|with_reducible assumption|refine And.intro ?_ ?_|intro hp));all_goals (first|(refine hQ _ ?_;clear hQ Q)|(refine hQ _ (fun h=>?_) (fun h=>?_) <;> clear hQ Q <;> (try simp only [vki,reduceCtorEq] at h))|(refine vq ?_;kernel_rfl)|omega|assumption|with_reducible rfl|skip)))
  (simp only [vrt,Tryz.results8,vkt,seval,ZU,V5,qa,qb,List.length_map];refine Fin.val rfl ?_;(try simp only [AV.le,AV.leL]))
  all_goals first|rfl|(simp;done)
 |false =>
  repeat' (first|(apply nx;with_reducible constructor)|refine uq (by decide) ?_|((first|refine vx env fun Q hQ=>?_|refine vz fun Q hQ=>?_);simp only [vkt,seval,ZU,V5,qa,qb,List.length_map,q];(try simp only [ite_and]);(repeat' (first|with_reducible assumption|refine And.intro ?_ ?_|intro hp));all_goals (first|(refine hQ _ ?_;clear hQ Q)|(refine hQ _ (fun h=>?_) (fun h=>?_) <;> clear hQ Q <;> (try simp only [vki,reduceCtorEq] at h))|(refine vq ?_;kernel_rfl)|omega|assumption|with_reducible rfl|skip)))
  (simp only [vrt,Tryz.results8,vkt,seval,ZU,V5,qa,qb,List.length_map];refine Fin.val rfl ?_;(try simp only [AV.le,AV.leL]))
  all_goals first|rfl|(simp;done)
def j3:List AV→Prop × AV
 |[.agg [.sl c0,.v (.int .i64 c1),.sl c2]]=>(c0=(c0.map qx).map qh∧c2=(c2.map dTk).map eTk,aB (decide (20 < ((((⟨(c0.map qx),c1,(c2.map dTk)⟩:Chart)).cabins.length:Nat):Int)) || decide (20 < ((((⟨(c0.map qx),c1,(c2.map dTk)⟩:Chart)).sold.length:Nat):Int))))
 |_=>(False,.junk)
theorem Qjz {A:Frm→Prop}:qE A Tryz.prog 8 (qR true j3):=qV fun vs hv h=>by
 clear hv
 unfold j3 at h ⊢
 split at h
 ·rename_i c0 c1 c2;obtain ⟨q0,q1⟩:=h
  refine ⟨by first|trivial|(simp [AV.plain,AV.plainL,aI,aB,qB,qc,qo,qf,aTk,cTk];done)|(repeat' split) <;> simp [AV.plain,AV.plainL,aI,aB,qB,qc,qo,qf,aTk,cTk],fun _=>(by simp [AV.flat,AV.flatL,aI,aB]), ?_⟩
  have:=QfJ ((⟨(c0.map qx),c1,(c2.map dTk)⟩:Chart))
  simp only [qW,qa,aI,qo,qb,← q0,← q1] at this
  first|exact this|(simp only [qW,qa,aI,qo,qb,← q0,← q1];exact this)
 ·exact h.elim
def InW:List Bunk→List (List Bunk)→Prop
 |[],[]=>True
 |b :: w,l :: L=>b ∈ l∧InW w L
 |_,_=>False
def inC:List Bunk→Int
 |[]=>0
 |[_]=>0
 |x :: y :: r=>(if y=x then 0 else 1)+inC (y :: r)
theorem Qkn (b x:Bunk) (r:List Bunk):YY b (x :: r)=(if x=b then 0 else 1)+inC (x :: r):=by
 rw [YY]
 congr 1
 induction r generalizing x with
 |nil=>rfl
 |cons y r ih=>rw [YY,ih y,inC]
theorem Qaw:∀ {L:List (List Bunk)} (b:Bunk),L.any (·.isEmpty)=false→InW (xH L b) L
 |[],_,_=>trivial
 |l :: rest,b,h=>by
  have h1:l ≠ []:=by rintro rfl;simp at h
  have h2:rest.any (·.isEmpty)=false:=by
   rw [List.any_cons,Bool.or_eq_false_iff] at h;exact h.2
  obtain ⟨g1,g2⟩:=RY (f:=fun y=>(jA rest y).2+if y=b then 0 else 1) l.length (List.length_pos_iff.2 h1) (Nat.le_refl _)
  exact ⟨g1,Qaw _ h2⟩
def raS (c:Chart) (a:Ask) (T:List (Nat × AV)):St:={ t:=asg (T++[(2,.ptr 0 0),(3,.ptr 1 0),(4,aI 0)]),h:=ql [(0,.cells (qb c)),(1,.cells (qg a))],n:=2 }
theorem Qff {α:Type} {p:α→Bool} {l:List α} {k:Nat} {d:α} (h:k < l.length) (hp:p (l.getD k d)=true):l.any p=true:=List.any_eq_true.2 ⟨_,vG h,hp⟩
theorem Qf9 {α:Type} {p:α→Bool} {l:List α} {d:α} (h:∀ j,j < l.length→p (l.getD j d)=false):l.any p=false:=by
 rw [List.any_eq_false]
 intro x hx
 obtain ⟨j,hj,rfl⟩:=List.getElem_of_mem hx
 have:=h j hj
 rw [List.getD_eq_getElem?_getD,List.getElem?_eq_getElem hj] at this
 simpa using this
def zT:=vj @ty3 (vj @Qh (vj @yj (vj @QT (vj @QQ (vj @Zj (vj @vo (vj @ti3.eq_1 (vj @xW.eq_1 (vj @jP.eq_1 (vj @Qg.eq_1 (vj @kX.eq_1 (vj @Qy.eq_1 @yK.eq_1))))))))))))
def yP:=vj @aI.eq_1 (vj @aB.eq_1 (vj @qB.eq_1 (vj @zG.eq_1 (vj @Kr (@Q5)))))
theorem QhZ (c:Chart) (a:Ask) (hs:c.sold.length≤100) (ha:a.sexes.length≤maxLen):FnV Tryz.prog 105 [qa c,qw a] (aI (xy c a)):=by
 have env:Env (fun _=>True) Tryz.prog tyB (tab [(83,qR true zb),(84,qR true zz)]):=qL ⟨Lr,QgP,trivial⟩
 refine Fn.of (A:=fun _=>True) (n0:=0) (D:=noD) (Fn0 Tryz.func105 rfl (fun vs w=>by kernel_rfl) (by kernel_rfl)) (by simp) (by simp [AV.ids,AV.idsL,qa,qb,qw,qg]) (fun i o h=>by cases h) (fun _ _ _ _=>trivial) qI ?_
 have ec:(⟨c.cabins,c.secs,c.sold⟩:Chart)=c:=rfl
 have hmx:maxLen=9223372036854775807:=by decide
 cases h1:inB a.party 1 99 with
 |false =>
  rw [show xy c a=1 by simp [xy,h1]]
  repeat' (first|(apply nx;with_reducible constructor)|refine uq (by decide) ?_|((first|refine vx env fun Q hQ=>?_|refine vz fun Q hQ=>?_);simp only [vkt,seval,zT,yP,aTk,cTk,gTk,eTk,mTk,qd,qa,qb,qw,qg,raS,zb,zz,List.length_map,h1];(try simp only [ite_and]);(repeat' (first|with_reducible assumption|refine And.intro ?_ ?_|intro hp));all_goals (first|(refine hQ _ ?_;clear hQ Q)|(refine hQ _ (fun h=>?_) (fun h=>?_) <;> clear hQ Q <;> (try simp only [vki,reduceCtorEq] at h))|(refine vq ?_;kernel_rfl)|omega|assumption|with_reducible rfl|skip)))
  (simp only [vrt,Tryz.results105,vkt,seval,zT,yP,aTk,cTk,gTk,eTk,mTk,qd,qa,qb,qw,qg,raS,zb,zz,List.length_map];refine Fin.val rfl ?_;(try simp only [AV.le,AV.leL]))
  all_goals first|rfl|(simp;done)
 |true =>
 repeat' (first|(apply nx;with_reducible constructor)|refine uq (by decide) ?_|((first|refine vx env fun Q hQ=>?_|refine vz fun Q hQ=>?_);simp only [vkt,seval,zT,yP,aTk,cTk,gTk,eTk,mTk,qd,qa,qb,qw,qg,raS,zb,zz,List.length_map,h1];(try simp only [ite_and]);(repeat' (first|with_reducible assumption|refine And.intro ?_ ?_|intro hp));all_goals (first|(refine hQ _ ?_;clear hQ Q)|(refine hQ _ (fun h=>?_) (fun h=>?_) <;> clear hQ Q <;> (try simp only [vki,reduceCtorEq] at h))|(refine vq ?_;kernel_rfl)|omega|assumption|with_reducible rfl|skip)))
 refine qQ (fun k:{ k:Nat // k≤c.sold.length∧∀ j,j < k→decide ((c.sold.getD j default).party=a.party)=false }=>raS c a [(5,aI k.1)]) (fun k=>c.sold.length - k.1) ⟨0,Nat.zero_le _,fun j h=>absurd h (Nat.not_lt_zero _)⟩ ?_ fun ⟨k,hk,hno⟩=>?_
 ·simp only [raS,List.cons_append,List.nil_append]
  (refine Le.ok some [] ?_;constructor;all_goals (try simp only [vle,vkt,seval,zT,yP,aTk,cTk,gTk,eTk,mTk,qd,qa,qb,qw,qg,raS,zb,zz,List.length_map]))
  all_goals first|rfl|(simp;done)
 simp only at hk hno ⊢
 simp only [raS,List.cons_append,List.nil_append]
 by_cases hlt:k < c.sold.length
 ·have d1:decide ((k:Int) < (c.sold.length:Int))=true:=decide_eq_true (by omega)
  have k0:((k:Int)).toNat=k:=rfl
  have e9:IntKind.wrap .i64 ((k:Int)+1)=((k+1:Nat):Int):=by rw [wrap64 (by omega) (by omega)];rfl
  have hg:=hTk hlt
  obtain ⟨x,hx⟩:∃ x,c.sold.getD k default=x:=⟨_,rfl⟩
  rw [hx] at hg
  cases hp:decide (x.party=a.party) with
  |true =>
   have h2:c.sold.any (fun t=>decide (t.party=a.party))=true:=Qff (d:=default) hlt (by rw [hx];exact hp)
   rw [show xy c a=4 by simp only [xy,h1,h2];rfl]
   repeat' (first|(apply nx;with_reducible constructor)|refine uq (by decide) ?_|((first|refine vx env fun Q hQ=>?_|refine vz fun Q hQ=>?_);simp only [vkt,seval,zT,yP,aTk,cTk,gTk,eTk,mTk,qd,qa,qb,qw,qg,raS,zb,zz,List.length_map,d1,k0,hlt,hg,hx,hp];(try simp only [ite_and]);(repeat' (first|with_reducible assumption|refine And.intro ?_ ?_|intro hp));all_goals (first|(refine hQ _ ?_;clear hQ Q)|(refine hQ _ (fun h=>?_) (fun h=>?_) <;> clear hQ Q <;> (try simp only [vki,reduceCtorEq] at h))|(refine vq ?_;kernel_rfl)|omega|assumption|with_reducible rfl|skip)))
   (simp only [vrt,Tryz.results105,vkt,seval,zT,yP,aTk,cTk,gTk,eTk,mTk,qd,qa,qb,qw,qg,raS,zb,zz,List.length_map];refine Fin.val rfl ?_;(try simp only [AV.le,AV.leL]))
   all_goals first|rfl|(simp;done)
  |false =>
   repeat' (first|(apply nx;with_reducible constructor)|refine uq (by decide) ?_|((first|refine vx env fun Q hQ=>?_|refine vz fun Q hQ=>?_);simp only [vkt,seval,zT,yP,aTk,cTk,gTk,eTk,mTk,qd,qa,qb,qw,qg,raS,zb,zz,List.length_map,d1,k0,hlt,hg,hx,hp,e9];(try simp only [ite_and]);(repeat' (first|with_reducible assumption|refine And.intro ?_ ?_|intro hp));all_goals (first|(refine hQ _ ?_;clear hQ Q)|(refine hQ _ (fun h=>?_) (fun h=>?_) <;> clear hQ Q <;> (try simp only [vki,reduceCtorEq] at h))|(refine vq ?_;kernel_rfl)|omega|assumption|with_reducible rfl|skip)))
   refine ⟨⟨k+1,hlt,fun j hj=>?_⟩,by show c.sold.length - (k+1) < c.sold.length - k;omega, ?_⟩
   ·rcases Nat.lt_or_eq_of_le (Nat.le_of_lt_succ hj) with h2|h2
    ·exact hno j h2
    ·rw [h2,hx];exact hp
   ·simp only [raS,List.cons_append,List.nil_append]
    (refine Le.ok some [] ?_;constructor;all_goals (try simp only [vle,vkt,seval,zT,yP,aTk,cTk,gTk,eTk,mTk,qd,qa,qb,qw,qg,raS,zb,zz,List.length_map]))
    all_goals first|rfl|(simp;done)
 ·have d1:decide ((k:Int) < (c.sold.length:Int))=false:=decide_eq_false (by omega)
  obtain rfl:k=c.sold.length:=by omega
  have h2:c.sold.any (fun t=>decide (t.party=a.party))=false:=Qf9 hno
  obtain ⟨w,hw⟩:∃ w,kJ c.secs a.frm a.to=w:=⟨_,rfl⟩
  by_cases hw0:w=0
  case neg =>
   rw [show xy c a=w by unfold xy;rw [h1,h2,hw];simp [hw0]]
   have d2:decide (w=0)=false:=decide_eq_false hw0
   repeat' (first|(apply nx;with_reducible constructor)|refine uq (by decide) ?_|((first|refine vx env fun Q hQ=>?_|refine vz fun Q hQ=>?_);simp only [vkt,seval,zT,yP,aTk,cTk,gTk,eTk,mTk,qd,qa,qb,qw,qg,raS,zb,zz,List.length_map,d1,ec,hw,d2];(try simp only [ite_and]);(repeat' (first|with_reducible assumption|refine And.intro ?_ ?_|intro hp));all_goals (first|(refine hQ _ ?_;clear hQ Q)|(refine hQ _ (fun h=>?_) (fun h=>?_) <;> clear hQ Q <;> (try simp only [vki,reduceCtorEq] at h))|(refine vq ?_;kernel_rfl)|omega|assumption|with_reducible rfl|skip)))
   (simp only [vrt,Tryz.results105,vkt,seval,zT,yP,aTk,cTk,gTk,eTk,mTk,qd,qa,qb,qw,qg,raS,zb,zz,List.length_map];refine Fin.val rfl ?_;(try simp only [AV.le,AV.leL]))
   all_goals first|rfl|(simp;done)
  rw [hw0] at hw
  by_cases h0:a.sexes.length=0
  ·rw [show xy c a=7 by unfold xy;rw [h1,h2,hw];simp [zJ,h0]]
   have d3:decide ((a.sexes.length:Int)=0)=true:=decide_eq_true (by omega)
   repeat' (first|(apply nx;with_reducible constructor)|refine uq (by decide) ?_|((first|refine vx env fun Q hQ=>?_|refine vz fun Q hQ=>?_);simp only [vkt,seval,zT,yP,aTk,cTk,gTk,eTk,mTk,qd,qa,qb,qw,qg,raS,zb,zz,List.length_map,d1,ec,hw,d3,decide_true,Bool.not_true];(try simp only [ite_and]);(repeat' (first|with_reducible assumption|refine And.intro ?_ ?_|intro hp));all_goals (first|(refine hQ _ ?_;clear hQ Q)|(refine hQ _ (fun h=>?_) (fun h=>?_) <;> clear hQ Q <;> (try simp only [vki,reduceCtorEq] at h))|(refine vq ?_;kernel_rfl)|omega|assumption|with_reducible rfl|skip)))
   (simp only [vrt,Tryz.results105,vkt,seval,zT,yP,aTk,cTk,gTk,eTk,mTk,qd,qa,qb,qw,qg,raS,zb,zz,List.length_map];refine Fin.val rfl ?_;(try simp only [AV.le,AV.leL]))
   all_goals first|rfl|(simp;done)
  have d3:decide ((a.sexes.length:Int)=0)=false:=decide_eq_false (by omega)
  by_cases h3:3 < a.sexes.length
  ·have d4:decide ((3:Int) < (a.sexes.length:Int))=true:=decide_eq_true (by omega)
   have hcnt:zJ a.sexes.length 1 3=6:=by unfold zJ;rw [if_neg (by omega),if_pos (by omega)]
   rw [show xy c a=6 by unfold xy;rw [h1,h2,hw,hcnt];rfl]
   repeat' (first|(apply nx;with_reducible constructor)|refine uq (by decide) ?_|((first|refine vx env fun Q hQ=>?_|refine vz fun Q hQ=>?_);simp only [vkt,seval,zT,yP,aTk,cTk,gTk,eTk,mTk,qd,qa,qb,qw,qg,raS,zb,zz,List.length_map,d1,ec,hw,d3,d4,decide_true,Bool.not_true];(try simp only [ite_and]);(repeat' (first|with_reducible assumption|refine And.intro ?_ ?_|intro hp));all_goals (first|(refine hQ _ ?_;clear hQ Q)|(refine hQ _ (fun h=>?_) (fun h=>?_) <;> clear hQ Q <;> (try simp only [vki,reduceCtorEq] at h))|(refine vq ?_;kernel_rfl)|omega|assumption|with_reducible rfl|skip)))
   (simp only [vrt,Tryz.results105,vkt,seval,zT,yP,aTk,cTk,gTk,eTk,mTk,qd,qa,qb,qw,qg,raS,zb,zz,List.length_map];refine Fin.val rfl ?_;(try simp only [AV.le,AV.leL]))
   all_goals first|rfl|(simp;done)
  have d4:decide ((3:Int) < (a.sexes.length:Int))=false:=decide_eq_false (by omega)
  have hcnt:zJ a.sexes.length 1 3=0:=by unfold zJ;rw [if_neg (by omega),if_neg (by omega)]
  rw [show xy c a=yL (a.sexes.map Z8) by unfold xy;rw [h1,h2,hw,hcnt];rfl]
  repeat' (first|(apply nx;with_reducible constructor)|refine uq (by decide) ?_|((first|refine vx env fun Q hQ=>?_|refine vz fun Q hQ=>?_);simp only [vkt,seval,zT,yP,aTk,cTk,gTk,eTk,mTk,qd,qa,qb,qw,qg,raS,zb,zz,List.length_map,d1,ec,hw,d3,d4,decide_true,Bool.not_true];(try simp only [ite_and]);(repeat' (first|with_reducible assumption|refine And.intro ?_ ?_|intro hp));all_goals (first|(refine hQ _ ?_;clear hQ Q)|(refine hQ _ (fun h=>?_) (fun h=>?_) <;> clear hQ Q <;> (try simp only [vki,reduceCtorEq] at h))|(refine vq ?_;kernel_rfl)|omega|assumption|with_reducible rfl|skip)))
  refine qQ (fun k:{ k:Nat // k≤a.sexes.length∧∀ j,j < k→(a.sexes.map Z8).getD j 0=0 }=>raS c a [(7,aI k.1)]) (fun k=>a.sexes.length - k.1) ⟨0,Nat.zero_le _,fun j h=>absurd h (Nat.not_lt_zero _)⟩ ?_ fun ⟨k,hk,hno⟩=>?_
  ·simp only [raS,List.cons_append,List.nil_append]
   (refine Le.ok some [] ?_;constructor;all_goals (try simp only [vle,vkt,seval,zT,yP,aTk,cTk,gTk,eTk,mTk,qd,qa,qb,qw,qg,raS,zb,zz,List.length_map]))
   all_goals first|rfl|(simp;done)
  simp only at hk hno ⊢
  simp only [raS,List.cons_append,List.nil_append]
  by_cases hlt:k < a.sexes.length
  ·have d5:decide ((k:Int) < (a.sexes.length:Int))=true:=decide_eq_true (by omega)
   have k0:((k:Int)).toNat=k:=rfl
   have e9:IntKind.wrap .i64 ((k:Int)+1)=((k+1:Nat):Int):=by rw [wrap64 (by omega) (by omega)];rfl
   have hg:=QfC hlt
   obtain ⟨x,hx⟩:∃ x,a.sexes.getD k 0=x:=⟨_,rfl⟩
   rw [hx] at hg
   have hm:(a.sexes.map Z8).getD k 0=Z8 x:=by rw [mapD hlt];exact congrArg Z8 hx
   cases hb:inB x 1 2 with
   |false =>
    have hE:Z8 x=8:=by simp [Z8,hb]
    have hf:=kR hno (by simpa using hlt) (by rw [hm,hE];decide)
    rw [hm,hE] at hf
    rw [hf]
    repeat' (first|(apply nx;with_reducible constructor)|refine uq (by decide) ?_|((first|refine vx env fun Q hQ=>?_|refine vz fun Q hQ=>?_);simp only [vkt,seval,zT,yP,aTk,cTk,gTk,eTk,mTk,qd,qa,qb,qw,qg,raS,zb,zz,List.length_map,d5,k0,hlt,hg,hx,hb];(try simp only [ite_and]);(repeat' (first|with_reducible assumption|refine And.intro ?_ ?_|intro hp));all_goals (first|(refine hQ _ ?_;clear hQ Q)|(refine hQ _ (fun h=>?_) (fun h=>?_) <;> clear hQ Q <;> (try simp only [vki,reduceCtorEq] at h))|(refine vq ?_;kernel_rfl)|omega|assumption|with_reducible rfl|skip)))
    (simp only [vrt,Tryz.results105,vkt,seval,zT,yP,aTk,cTk,gTk,eTk,mTk,qd,qa,qb,qw,qg,raS,zb,zz,List.length_map];refine Fin.val rfl ?_;(try simp only [AV.le,AV.leL]))
    all_goals first|rfl|(simp;done)
   |true =>
    have hE:Z8 x=0:=by simp [Z8,hb]
    repeat' (first|(apply nx;with_reducible constructor)|refine uq (by decide) ?_|((first|refine vx env fun Q hQ=>?_|refine vz fun Q hQ=>?_);simp only [vkt,seval,zT,yP,aTk,cTk,gTk,eTk,mTk,qd,qa,qb,qw,qg,raS,zb,zz,List.length_map,d5,k0,hlt,hg,hx,hb,e9];(try simp only [ite_and]);(repeat' (first|with_reducible assumption|refine And.intro ?_ ?_|intro hp));all_goals (first|(refine hQ _ ?_;clear hQ Q)|(refine hQ _ (fun h=>?_) (fun h=>?_) <;> clear hQ Q <;> (try simp only [vki,reduceCtorEq] at h))|(refine vq ?_;kernel_rfl)|omega|assumption|with_reducible rfl|skip)))
    refine ⟨⟨k+1,hlt,fun j hj=>?_⟩,by show a.sexes.length - (k+1) < a.sexes.length - k;omega, ?_⟩
    ·rcases Nat.lt_or_eq_of_le (Nat.le_of_lt_succ hj) with h2|h2
     ·exact hno j h2
     ·rw [h2,hm,hE]
    ·simp only [raS,List.cons_append,List.nil_append]
     (refine Le.ok some [] ?_;constructor;all_goals (try simp only [vle,vkt,seval,zT,yP,aTk,cTk,gTk,eTk,mTk,qd,qa,qb,qw,qg,raS,zb,zz,List.length_map]))
     all_goals first|rfl|(simp;done)
  ·have d5:decide ((k:Int) < (a.sexes.length:Int))=false:=decide_eq_false (by omega)
   obtain rfl:k=a.sexes.length:=by omega
   rw [y9 (l:=a.sexes.map Z8) (by simpa using hno)]
   repeat' (first|(apply nx;with_reducible constructor)|refine uq (by decide) ?_|((first|refine vx env fun Q hQ=>?_|refine vz fun Q hQ=>?_);simp only [vkt,seval,zT,yP,aTk,cTk,gTk,eTk,mTk,qd,qa,qb,qw,qg,raS,zb,zz,List.length_map,d5];(try simp only [ite_and]);(repeat' (first|with_reducible assumption|refine And.intro ?_ ?_|intro hp));all_goals (first|(refine hQ _ ?_;clear hQ Q)|(refine hQ _ (fun h=>?_) (fun h=>?_) <;> clear hQ Q <;> (try simp only [vki,reduceCtorEq] at h))|(refine vq ?_;kernel_rfl)|omega|assumption|with_reducible rfl|skip)))
   (simp only [vrt,Tryz.results105,vkt,seval,zT,yP,aTk,cTk,gTk,eTk,mTk,qd,qa,qb,qw,qg,raS,zb,zz,List.length_map];refine Fin.val rfl ?_;(try simp only [AV.le,AV.leL]))
   all_goals first|rfl|(simp;done)
def XB:List AV→Prop × AV
 |[.agg [.sl c0,.v (.int .i64 c1),.sl c2],.agg [.v (.int .i64 a0),.v (.int .i64 a1),.v (.int .i64 a2),.sl a3,.v (.bool a4)]]=>(c0=(c0.map qx).map qh∧c2=(c2.map dTk).map eTk∧a3=(a3.map zf).map zG∧((⟨(c0.map qx),c1,(c2.map dTk)⟩:Chart)).sold.length≤100∧((⟨a0,a1,a2,(a3.map zf),a4⟩:Ask)).sexes.length≤maxLen,aI (xy ((⟨(c0.map qx),c1,(c2.map dTk)⟩:Chart)) ((⟨a0,a1,a2,(a3.map zf),a4⟩:Ask))))
 |_=>(False,.junk)
theorem erask {A:Frm→Prop}:qE A Tryz.prog 105 (qR true XB):=qV fun vs hv h=>by
 clear hv
 unfold XB at h ⊢
 split at h
 ·rename_i c0 c1 c2 a0 a1 a2 a3 a4;obtain ⟨q0,q1,q2,k0,k1⟩:=h
  refine ⟨by first|trivial|(simp [AV.plain,AV.plainL,aI,aB,qB,qc,qo,qf,aTk,cTk];done)|(repeat' split) <;> simp [AV.plain,AV.plainL,aI,aB,qB,qc,qo,qf,aTk,cTk],fun _=>(by simp [AV.flat,AV.flatL,aI,aB]), ?_⟩
  have:=QhZ ((⟨(c0.map qx),c1,(c2.map dTk)⟩:Chart)) ((⟨a0,a1,a2,(a3.map zf),a4⟩:Ask)) k0 k1
  simp only [qw,aB,qW,qa,aI,qB,qo,qg,qb,← q0,← q1,← q2] at this
  first|exact this|(simp only [qw,aB,qW,qa,aI,qB,qo,qg,qb,← q0,← q1,← q2];exact this)
 ·exact h.elim
def WJ:=vj @yj (vj @QQ (vj @Zj (vj @jP.eq_1 (vj @kX.eq_1 @Qy.eq_1))))
def RQ:=vj @aI.eq_1 (vj @aB.eq_1 (vj @qB.eq_1 (@Q5)))
theorem Qf7 (c:Chart) (a:Ask) (hc:c.cabins.length≤maxLen) (hs:c.sold.length≤100) (ha:a.sexes.length≤maxLen):FnV Tryz.prog 53 [qa c,qw a] (aI (zN c a)):=by
 have env:Env (fun _=>True) Tryz.prog tyB (tab [(82,qR true jy),(105,qR true XB)]):=qL ⟨QcK,erask,trivial⟩
 refine Fn.of (A:=fun _=>True) (n0:=0) (D:=noD) (Fn0 Tryz.func53 rfl (fun vs w=>by kernel_rfl) (by kernel_rfl)) (by simp) (by simp [AV.ids,AV.idsL,qa,qb,qw,qg]) (fun i o h=>by cases h) (fun _ _ _ _=>trivial) qI ?_
 have ec:(⟨c.cabins,c.secs,c.sold⟩:Chart)=c:=rfl
 have ea:(⟨a.party,a.frm,a.to,a.sexes,a.dog⟩:Ask)=a:=rfl
 have hs2:c.sold.length≤100000:=by omega
 obtain ⟨e,he⟩:∃ e,zW c=e:=⟨_,rfl⟩
 by_cases h0:e=0
 ·rw [show zN c a=xy c a by unfold zN;rw [he,h0];rfl]
  rw [h0] at he
  repeat' (first|(apply nx;with_reducible constructor)|refine uq (by decide) ?_|((first|refine vx env fun Q hQ=>?_|refine vz fun Q hQ=>?_);simp only [vkt,seval,WJ,RQ,mTk,qd,qa,qb,qw,qg,jy,XB,List.length_map,ec,ea,hc,hs,hs2,ha,he,decide_true];(try simp only [ite_and]);(repeat' (first|with_reducible assumption|refine And.intro ?_ ?_|intro hp));all_goals (first|(refine hQ _ ?_;clear hQ Q)|(refine hQ _ (fun h=>?_) (fun h=>?_) <;> clear hQ Q <;> (try simp only [vki,reduceCtorEq] at h))|(refine vq ?_;kernel_rfl)|omega|assumption|with_reducible rfl|skip)))
  (simp only [vrt,Tryz.results53,vkt,seval,WJ,RQ,mTk,qd,qa,qb,qw,qg,jy,XB,List.length_map];refine Fin.val rfl ?_;(try simp only [AV.le,AV.leL]))
  all_goals first|rfl|(simp;done)
 ·rw [show zN c a=e by unfold zN;rw [he,if_pos h0]]
  have d0:decide (e=0)=false:=decide_eq_false h0
  repeat' (first|(apply nx;with_reducible constructor)|refine uq (by decide) ?_|((first|refine vx env fun Q hQ=>?_|refine vz fun Q hQ=>?_);simp only [vkt,seval,WJ,RQ,mTk,qd,qa,qb,qw,qg,jy,XB,List.length_map,ec,ea,hc,hs2,ha,he,d0];(try simp only [ite_and]);(repeat' (first|with_reducible assumption|refine And.intro ?_ ?_|intro hp));all_goals (first|(refine hQ _ ?_;clear hQ Q)|(refine hQ _ (fun h=>?_) (fun h=>?_) <;> clear hQ Q <;> (try simp only [vki,reduceCtorEq] at h))|(refine vq ?_;kernel_rfl)|omega|assumption|with_reducible rfl|skip)))
  (simp only [vrt,Tryz.results53,vkt,seval,WJ,RQ,mTk,qd,qa,qb,qw,qg,jy,XB,List.length_map];refine Fin.val rfl ?_;(try simp only [AV.le,AV.leL]))
  all_goals first|rfl|(simp;done)
def yt:List AV→Prop × AV
 |[.agg [.sl c0,.v (.int .i64 c1),.sl c2],.agg [.v (.int .i64 a0),.v (.int .i64 a1),.v (.int .i64 a2),.sl a3,.v (.bool a4)]]=>(c0=(c0.map qx).map qh∧c2=(c2.map dTk).map eTk∧a3=(a3.map zf).map zG∧((⟨(c0.map qx),c1,(c2.map dTk)⟩:Chart)).cabins.length≤maxLen∧((⟨(c0.map qx),c1,(c2.map dTk)⟩:Chart)).sold.length≤100∧((⟨a0,a1,a2,(a3.map zf),a4⟩:Ask)).sexes.length≤maxLen,aI (zN ((⟨(c0.map qx),c1,(c2.map dTk)⟩:Chart)) ((⟨a0,a1,a2,(a3.map zf),a4⟩:Ask))))
 |_=>(False,.junk)
theorem QfF {A:Frm→Prop}:qE A Tryz.prog 53 (qR true yt):=qV fun vs hv h=>by
 clear hv
 unfold yt at h ⊢
 split at h
 ·rename_i c0 c1 c2 a0 a1 a2 a3 a4;obtain ⟨q0,q1,q2,k0,k1,k2⟩:=h
  refine ⟨by first|trivial|(simp [AV.plain,AV.plainL,aI,aB,qB,qc,qo,qf,aTk,cTk];done)|(repeat' split) <;> simp [AV.plain,AV.plainL,aI,aB,qB,qc,qo,qf,aTk,cTk],fun _=>(by simp [AV.flat,AV.flatL,aI,aB]), ?_⟩
  have:=Qf7 ((⟨(c0.map qx),c1,(c2.map dTk)⟩:Chart)) ((⟨a0,a1,a2,(a3.map zf),a4⟩:Ask)) k0 k1 k2
  simp only [qw,aB,qW,qa,aI,qB,qo,qg,qb,← q0,← q1,← q2] at this
  first|exact this|(simp only [qw,aB,qW,qa,aI,qB,qo,qg,qb,← q0,← q1,← q2];exact this)
 ·exact h.elim
def xY:=vj @ty3 (vj @ty4 (vj @QT (vj @QQ (vj @ti3.eq_1 (vj @ti4.eq_1 (vj @Qg.eq_1 @kX.eq_1))))))
def Z0:=vj @aI.eq_1 (vj @aB.eq_1 (vj @qB.eq_1 (@Q5)))
theorem Qkf (a b:Ask) (h1:a.sexes.length≤maxLen) (h2:b.sexes.length≤maxLen):FnV Tryz.prog 22 [qw a,qw b] (aB (decide (a=b))):=by
 have env:Env (fun _=>True) Tryz.prog tyB (tab [(41,qR true Vg)]):=qL ⟨eeqI,trivial⟩
 refine Fn.of (A:=fun _=>True) (n0:=0) (D:=noD) (Fn0 Tryz.func22 rfl (fun vs w=>by kernel_rfl) (by kernel_rfl)) (by simp) (by simp [AV.ids,AV.idsL,qw,qg]) (fun i o h=>by cases h) (fun _ _ _ _=>trivial) qI ?_
 have hE:decide (a=b)=(decide (a.party=b.party) && (decide (a.frm=b.frm) && (decide (a.to=b.to) && ((a.dog == b.dog) && decide (a.sexes=b.sexes))))):=by
  cases a with|mk p f t s d=>cases b with|mk p' f' t' s' d' =>
  rw [Bool.eq_iff_iff]
  simp only [decide_eq_true_eq,Bool.and_eq_true,beq_iff_eq,Ask.mk.injEq]
  exact ⟨fun ⟨x1,x2,x3,x4,x5⟩=>⟨x1,x2,x3,x5,x4⟩,fun ⟨x1,x2,x3,x5,x4⟩=>⟨x1,x2,x3,x4,x5⟩⟩
 rw [hE]
 cases q0:decide (a.party=b.party) with
 |false =>
  rw [Bool.false_and]
  repeat' (first|(apply nx;with_reducible constructor)|refine uq (by decide) ?_|((first|refine vx env fun Q hQ=>?_|refine vz fun Q hQ=>?_);simp only [vkt,seval,xY,Z0,qw,qg,Vg,Bool.true_and,Bool.false_and,List.length_map,q0];(try simp only [ite_and]);(repeat' (first|with_reducible assumption|refine And.intro ?_ ?_|intro hp));all_goals (first|(refine hQ _ ?_;clear hQ Q)|(refine hQ _ (fun h=>?_) (fun h=>?_) <;> clear hQ Q <;> (try simp only [vki,reduceCtorEq] at h))|(refine vq ?_;kernel_rfl)|omega|assumption|with_reducible rfl|skip)))
  (simp only [vrt,Tryz.results22,vkt,seval,xY,Z0,qw,qg,Vg,Bool.true_and,Bool.false_and,List.length_map];refine Fin.val rfl ?_;(try simp only [AV.le,AV.leL]))
  all_goals first|rfl|(simp;done)
 |true =>
 cases q1:decide (a.frm=b.frm) with
 |false =>
  rw [Bool.false_and,Bool.and_false]
  repeat' (first|(apply nx;with_reducible constructor)|refine uq (by decide) ?_|((first|refine vx env fun Q hQ=>?_|refine vz fun Q hQ=>?_);simp only [vkt,seval,xY,Z0,qw,qg,Vg,Bool.true_and,Bool.false_and,List.length_map,q0,q1];(try simp only [ite_and]);(repeat' (first|with_reducible assumption|refine And.intro ?_ ?_|intro hp));all_goals (first|(refine hQ _ ?_;clear hQ Q)|(refine hQ _ (fun h=>?_) (fun h=>?_) <;> clear hQ Q <;> (try simp only [vki,reduceCtorEq] at h))|(refine vq ?_;kernel_rfl)|omega|assumption|with_reducible rfl|skip)))
  (simp only [vrt,Tryz.results22,vkt,seval,xY,Z0,qw,qg,Vg,Bool.true_and,Bool.false_and,List.length_map];refine Fin.val rfl ?_;(try simp only [AV.le,AV.leL]))
  all_goals first|rfl|(simp;done)
 |true =>
 cases q2:decide (a.to=b.to) with
 |false =>
  rw [Bool.false_and,Bool.and_false,Bool.and_false]
  repeat' (first|(apply nx;with_reducible constructor)|refine uq (by decide) ?_|((first|refine vx env fun Q hQ=>?_|refine vz fun Q hQ=>?_);simp only [vkt,seval,xY,Z0,qw,qg,Vg,Bool.true_and,Bool.false_and,List.length_map,q0,q1,q2];(try simp only [ite_and]);(repeat' (first|with_reducible assumption|refine And.intro ?_ ?_|intro hp));all_goals (first|(refine hQ _ ?_;clear hQ Q)|(refine hQ _ (fun h=>?_) (fun h=>?_) <;> clear hQ Q <;> (try simp only [vki,reduceCtorEq] at h))|(refine vq ?_;kernel_rfl)|omega|assumption|with_reducible rfl|skip)))
  (simp only [vrt,Tryz.results22,vkt,seval,xY,Z0,qw,qg,Vg,Bool.true_and,Bool.false_and,List.length_map];refine Fin.val rfl ?_;(try simp only [AV.le,AV.leL]))
  all_goals first|rfl|(simp;done)
 |true =>
 cases q3:(a.dog == b.dog) with
 |false =>
  rw [Bool.false_and,Bool.and_false,Bool.and_false,Bool.and_false]
  repeat' (first|(apply nx;with_reducible constructor)|refine uq (by decide) ?_|((first|refine vx env fun Q hQ=>?_|refine vz fun Q hQ=>?_);simp only [vkt,seval,xY,Z0,qw,qg,Vg,Bool.true_and,Bool.false_and,List.length_map,q0,q1,q2,q3];(try simp only [ite_and]);(repeat' (first|with_reducible assumption|refine And.intro ?_ ?_|intro hp));all_goals (first|(refine hQ _ ?_;clear hQ Q)|(refine hQ _ (fun h=>?_) (fun h=>?_) <;> clear hQ Q <;> (try simp only [vki,reduceCtorEq] at h))|(refine vq ?_;kernel_rfl)|omega|assumption|with_reducible rfl|skip)))
  (simp only [vrt,Tryz.results22,vkt,seval,xY,Z0,qw,qg,Vg,Bool.true_and,Bool.false_and,List.length_map];refine Fin.val rfl ?_;(try simp only [AV.le,AV.leL]))
  all_goals first|rfl|(simp;done)
 |true =>
 rw [Bool.true_and,Bool.true_and,Bool.true_and,Bool.true_and]
 repeat' (first|(apply nx;with_reducible constructor)|refine uq (by decide) ?_|((first|refine vx env fun Q hQ=>?_|refine vz fun Q hQ=>?_);simp only [vkt,seval,xY,Z0,qw,qg,Vg,Bool.true_and,Bool.false_and,List.length_map,q0,q1,q2,q3,h1,h2];(try simp only [ite_and]);(repeat' (first|with_reducible assumption|refine And.intro ?_ ?_|intro hp));all_goals (first|(refine hQ _ ?_;clear hQ Q)|(refine hQ _ (fun h=>?_) (fun h=>?_) <;> clear hQ Q <;> (try simp only [vki,reduceCtorEq] at h))|(refine vq ?_;kernel_rfl)|omega|assumption|with_reducible rfl|skip)))
 (simp only [vrt,Tryz.results22,vkt,seval,xY,Z0,qw,qg,Vg,Bool.true_and,Bool.false_and,List.length_map];refine Fin.val rfl ?_;(try simp only [AV.le,AV.leL]))
 all_goals first|rfl|(simp;done)
def Q4:List AV→Prop × AV
 |[.agg [.v (.int .i64 a0),.v (.int .i64 a1),.v (.int .i64 a2),.sl a3,.v (.bool a4)],.agg [.v (.int .i64 b0),.v (.int .i64 b1),.v (.int .i64 b2),.sl b3,.v (.bool b4)]]=>(a3=(a3.map zf).map zG∧b3=(b3.map zf).map zG∧((⟨a0,a1,a2,(a3.map zf),a4⟩:Ask)).sexes.length≤maxLen∧((⟨b0,b1,b2,(b3.map zf),b4⟩:Ask)).sexes.length≤maxLen,aB (decide (((⟨a0,a1,a2,(a3.map zf),a4⟩:Ask))=((⟨b0,b1,b2,(b3.map zf),b4⟩:Ask)))))
 |_=>(False,.junk)
theorem eeqA {A:Frm→Prop}:qE A Tryz.prog 22 (qR true Q4):=qV fun vs hv h=>by
 clear hv
 unfold Q4 at h ⊢
 split at h
 ·rename_i a0 a1 a2 a3 a4 b0 b1 b2 b3 b4;obtain ⟨q0,q1,k0,k1⟩:=h
  refine ⟨by first|trivial|(simp [AV.plain,AV.plainL,aI,aB,qB,qc,qo,qf,aTk,cTk];done)|(repeat' split) <;> simp [AV.plain,AV.plainL,aI,aB,qB,qc,qo,qf,aTk,cTk],fun _=>(by simp [AV.flat,AV.flatL,aI,aB]), ?_⟩
  have:=Qkf ((⟨a0,a1,a2,(a3.map zf),a4⟩:Ask)) ((⟨b0,b1,b2,(b3.map zf),b4⟩:Ask)) k0 k1
  simp only [qw,aB,aI,qB,qg,← q0,← q1] at this
  first|exact this|(simp only [qw,aB,aI,qB,qg,← q0,← q1];exact this)
 ·exact h.elim
def jU:List (List Bunk)→List (List Bunk)
 |[]=>[[]]
 |l :: L=>l.flatMap fun b=>(jU L).map (b :: ·)
def fmn {α:Type} (f:α→Int):List α→Option α
 |[]=>none
 |x :: l=>match fmn f l with
  |none=>some x
  |some y=>if f y < f x then some y else some x
def fcb {α:Type} (f:α→Int):Option α→Option α→Option α
 |none,b=>b
 |some x,none=>some x
 |some x,some y=>if f y < f x then some y else some x
theorem Zr {α:Type} (f:α→Int) (x:α) (l:List α):fmn f (x :: l)=fcb f (some x) (fmn f l):=by
 rw [fmn]
 cases fmn f l <;> rfl
theorem Ko {α:Type} (f:α→Int) (a:Option α):fcb f a none=a:=by cases a <;> rfl
theorem QjD {α:Type} (f:α→Int) (x y:α):fcb f (some x) (some y)=if f y < f x then some y else some x:=rfl
theorem QeT {α:Type} (f:α→Int) (a b c:Option α):fcb f (fcb f a b) c=fcb f a (fcb f b c):=by
 cases c with
 |none=>rw [Ko,Ko]
 |some z =>
  cases b with
  |none=>rw [Ko];rfl
  |some y =>
   cases a with
   |none=>rfl
   |some x =>
    by_cases h1:f y < f x <;> by_cases h2:f z < f y <;> by_cases h3:f z < f x <;> simp [QjD,h1,h2,h3] <;> (exfalso;omega)
theorem V7 {α:Type} (f:α→Int):∀ l r:List α,fmn f (l++r)=fcb f (fmn f l) (fmn f r)
 |[],r=>by rw [List.nil_append];rfl
 |x :: l,r=>by rw [List.cons_append,Zr,V7 f l r,Zr,QeT]
theorem Qdu {α β:Type} (f:β→Int) (g:α→β):∀ l:List α,fmn f (l.map g)=(fmn (fun x=>f (g x)) l).map g
 |[]=>rfl
 |x :: l=>by
  rw [List.map_cons,Zr,Zr,Qdu f g l]
  cases fmn (fun x=>f (g x)) l with
  |none=>rfl
  |some y =>
   simp only [Option.map_some,fcb]
   split <;> rfl
theorem Vr {α:Type} {f g:α→Int} {d:Int}:∀ {l:List α},(∀ x ∈ l,f x=d+g x)→fmn f l=fmn g l∧∀ y,fmn g l=some y→y ∈ l
 |[],_=>⟨rfl,fun y h=>by cases h⟩
 |x :: l,h=>by
  obtain ⟨h1,h2⟩:=Vr (l:=l) fun y hy=>h y (List.mem_cons_of_mem _ hy)
  rw [Zr,Zr,h1]
  have hx:=h x (List.mem_cons_self ..)
  cases hq:fmn g l with
  |none=>exact ⟨rfl,fun y hy=>by cases hy;exact List.mem_cons_self ..⟩
  |some y =>
   have hy:=h y (List.mem_cons_of_mem _ (h2 y hq))
   simp only [fcb]
   rw [hx,hy]
   by_cases hl:g y < g x
   ·rw [if_pos (by omega),if_pos hl]
    exact ⟨rfl,fun z hz=>by cases hz;exact List.mem_cons_of_mem _ (h2 y hq)⟩
   ·rw [if_neg (by omega),if_neg hl]
    exact ⟨rfl,fun z hz=>by cases hz;exact List.mem_cons_self ..⟩
theorem QaN {α β:Type} {f:β→Int} {k:α→List β} {g:α→β}:∀ {l:List α},(∀ x ∈ l,fmn f (k x)=some (g x))→fmn f (l.flatMap k)=(fmn (fun x=>f (g x)) l).map g
 |[],_=>rfl
 |x :: l,h=>by
  rw [List.flatMap_cons,V7,h x (List.mem_cons_self ..),QaN fun y hy=>h y (List.mem_cons_of_mem _ hy),Zr]
  cases fmn (fun x=>f (g x)) l with
  |none=>rfl
  |some y =>
   simp only [Option.map_some,fcb]
   split <;> rfl
theorem Qf3 {f:Bunk→Int} {l:List Bunk}:∀ i,0 < i→i≤l.length→fmn f (l.take i)=some (pkK f l i).1∧(pkK f l i).2=f (pkK f l i).1
 |0,h,_=>absurd h (Nat.lt_irrefl _)
 |i+1,_,hi=>by
  have hlt:i < l.length:=hi
  have hv:=(RY (f:=f) (l:=l) (i+1) (by omega) hi).2
  refine ⟨?_,hv⟩
  rw [List.take_succ_eq_append_getElem hlt,V7,pkK,show l[i]=l.getD i default by simp [List.getD_eq_getElem?_getD,hlt]]
  by_cases h0:i=0
  ·subst h0
   rw [if_pos (Or.inl rfl)];rfl
  ·obtain ⟨h1,h2⟩:=Qf3 (f:=f) (l:=l) i (by omega) (by omega)
   rw [h1]
   show (if f (l.getD i default) < f (pkK f l i).1 then _ else _)=_
   rw [← h2]
   by_cases h3:f (l.getD i default) < (pkK f l i).2
   ·rw [if_pos h3,if_pos (Or.inr h3)]
   ·rw [if_neg h3,if_neg (by rintro (h|h) <;> omega)]
theorem KZ:∀ {L:List (List Bunk)},L.any (·.isEmpty)=true→jU L=[]
 |[],h=>by simp at h
 |l :: L,h=>by
  rw [jU]
  cases l with
  |nil=>rfl
  |cons x l =>
   have h:L.any (·.isEmpty)=true:=by simpa using h
   rw [KZ h]
   simp
theorem Kv:∀ {L:List (List Bunk)} (b:Bunk),L.any (·.isEmpty)=false→fmn (YY b) (jU L)=some (xH L b)
 |[],_,_=>rfl
 |l :: L,b,h=>by
  have h1:l ≠ []:=by rintro rfl;simp at h
  have h2:L.any (·.isEmpty)=false:=by
   rw [List.any_cons,Bool.or_eq_false_iff] at h;exact h.2
  have hl:=List.length_pos_iff.2 h1
  have hk:∀ y ∈ l,fmn (YY b) ((jU L).map (y :: ·))=some (y :: xH L y):=fun y _=>by
   rw [Qdu,(Vr (d:=if y=b then 0 else 1) (g:=YY y) fun w _=>by rw [YY]).1,Kv y h2]
   rfl
  rw [jU,QaN hk]
  have he:(fun x=>YY b (x :: xH L x))=fun y=>(jA L y).2+if y=b then 0 else 1:=funext fun y=>by
   rw [YY,XP y h2];omega
  rw [he]
  have hp:=(Qf3 (f:=fun y=>(jA L y).2+if y=b then 0 else 1) (l:=l) l.length hl (Nat.le_refl _)).1
  rw [List.take_length] at hp
  rw [hp,xH,jA]
  rfl
theorem Qc2:∀ {L:List (List Bunk)} {w:List Bunk},w ∈ jU L→InW w L
 |[],w,h=>by
  rw [jU,List.mem_singleton] at h
  subst h;trivial
 |l :: L,w,h=>by
  rw [jU,List.mem_flatMap] at h
  obtain ⟨b,hb,h⟩:=h
  obtain ⟨v,hv,rfl⟩:=List.mem_map.1 h
  exact ⟨hb,Qc2 hv⟩
theorem Qfz {L:List (List Bunk)} (h:L.any (·.isEmpty)=false) (hc:∀ l ∈ L,∀ y ∈ l,y ≠ ⟨-1,0⟩) (hL:L ≠ []):fmn inC (jU L)=some (xH L ⟨-1,0⟩)∧inC (xH L ⟨-1,0⟩)=(jA L ⟨-1,0⟩).2 - 1:=by
 have hin:∀ w,InW w L→YY ⟨-1,0⟩ w=1+inC w:=fun w hw=>by
  match w,L,hw,hL with
  |[],[],_,hL=>exact absurd rfl hL
  |x :: w,l :: L,hw,_=>rw [Qkn,if_neg (hc l (List.mem_cons_self ..) x hw.1)]
 have h1:=(Vr (f:=YY ⟨-1,0⟩) (g:=inC) (d:=1) (l:=jU L) fun w hw=>hin w (Qc2 hw)).1
 rw [← h1]
 refine ⟨Kv _ h, ?_⟩
 have:=XP ⟨-1,0⟩ h
 have h3:=hin _ (Qaw ⟨-1,0⟩ h)
 omega
def mnK {α:Type} (f:α→Int) (l:List α) (d:α):Nat→Nat
 |0=>0
 |i+1=>if f (l.getD i d) < f (l.getD (mnK f l d i) d) then i else mnK f l d i
theorem Qe6 {α:Type} {f:α→Int} {l:List α} {d:α} (h0:0 < l.length):∀ i,i≤l.length→mnK f l d i < l.length
 |0,_=>h0
 |i+1,hi=>by
  rw [mnK]
  split
  ·exact hi
  ·exact Qe6 h0 i (by omega)
theorem Qc0 {α:Type} {f:α→Int} {l:List α} {d:α}:∀ i,0 < i→i≤l.length→fmn f (l.take i)=some (l.getD (mnK f l d i) d)
 |0,h,_=>absurd h (Nat.lt_irrefl _)
 |i+1,_,hi=>by
  have hlt:i < l.length:=hi
  rw [List.take_succ_eq_append_getElem hlt,V7,mnK,show l[i]=l.getD i d by simp [List.getD_eq_getElem?_getD,hlt]]
  by_cases h0:i=0
  ·subst h0
   rw [show mnK f l d 0=0 from rfl,if_neg (by omega)]
   rfl
  ·rw [Qc0 i (by omega) (by omega)]
   show (if f (l.getD i d) < f (l.getD (mnK f l d i) d) then _ else _)=_
   split <;> rfl
def icN (w:List Bunk):Nat→Int
 |0=>0
 |k+1=>icN w k+if w.getD (k+1) default=w.getD k default then 0 else 1
theorem LD (x:Bunk) (w:List Bunk):∀ k,icN (x :: w) (k+1)=(if w.getD 0 default=x then 0 else 1)+icN w k
 |0=>by show (0:Int)+(if w.getD 0 default=x then 0 else 1)=_+0;omega
 |k+1=>by
  rw [icN,LD x w k,icN]
  show _+_+(if w.getD (k+1) default=w.getD k default then 0 else 1)=_
  omega
theorem Qdg:∀ w:List Bunk,inC w=icN w (w.length - 1)
 |[]=>rfl
 |[_]=>rfl
 |x :: y :: r=>by
  show (if y=x then 0 else 1)+inC (y :: r)=icN (x :: y :: r) (r.length+1)
  rw [Qdg (y :: r),LD]
  rfl
theorem Qg7 (w:List Bunk):∀ k,0≤icN w k∧icN w k≤k
 |0=>⟨Int.le_refl 0,Int.le_refl 0⟩
 |k+1=>by
  have:=Qg7 w k
  rw [icN]
  split <;> omega
def Vl (w:List Bunk) (n i:Int):St:={ t:=asg [(0,qc w),(3,aI n),(4,aI i)],h:=ql [],n:=0 }
def y7:=vj @ty3 (vj @ZJ (vj @vU (vj @ti3.eq_1 (vj @QY.eq_1 @vF.eq_1))))
def Ja:=vj @aI.eq_1 (@aB.eq_1)
theorem Qbe (w:List Bunk) (h:w.length≤1000):FnV Tryz.prog 75 [qc w] (aI (inC w)):=by
 have env:Env (fun _=>True) Tryz.prog tyB (tab []):=qL trivial
 refine Fn.of (A:=fun _=>True) (n0:=0) (D:=noD) (Fn0 Tryz.func75 rfl (fun vs w=>by kernel_rfl) (by kernel_rfl)) (by simp) (by simp [AV.ids,AV.idsL,qc]) (fun i o h=>by cases h) (fun _ _ _ _=>trivial) qI ?_
 rw [Qdg]
 have hmx:(100000:Nat)≤maxLen:=by decide
 have hw:w.length≤maxLen:=by omega
 repeat' (first|(apply nx;with_reducible constructor)|refine uq (by decide) ?_|((first|refine vx env fun Q hQ=>?_|refine vz fun Q hQ=>?_);simp only [vkt,seval,y7,Ja,qf,qc,qj,qA,qF,Vl,List.length_map];(try simp only [ite_and]);(repeat' (first|with_reducible assumption|refine And.intro ?_ ?_|intro hp));all_goals (first|(refine hQ _ ?_;clear hQ Q)|(refine hQ _ (fun h=>?_) (fun h=>?_) <;> clear hQ Q <;> (try simp only [vki,reduceCtorEq] at h))|(refine vq ?_;kernel_rfl)|omega|assumption|with_reducible rfl|skip)))
 refine qQ (fun k:{ k:Nat // k≤w.length - 1 }=>Vl w (icN w k.1) ((k.1+1:Nat):Int)) (fun k=>w.length - 1 - k.1) ⟨0,Nat.zero_le _⟩ ?_ fun ⟨k,hk⟩=>?_
 ·simp only [Vl,show icN w 0=0 from rfl]
  (refine Le.ok some [] ?_;constructor;all_goals (try simp only [vle,vkt,seval,y7,Ja,qf,qc,qj,qA,qF,Vl,List.length_map]))
  all_goals first|rfl|(simp;done)
 simp only at hk ⊢
 have hb:=Qg7 w k
 have hS:icN w (k+1)=icN w k+if w.getD (k+1) default=w.getD k default then 0 else 1:=rfl
 obtain ⟨n,hn⟩:∃ n,icN w k=n:=⟨_,rfl⟩
 rw [hn] at hb hS
 simp only [Vl,hn]
 by_cases hlt:k+1 < w.length
 ·have d1:decide (((k+1:Nat):Int) < (w.length:Int))=true:=decide_eq_true (by omega)
  have k0:(((k+1:Nat):Int)).toNat=k+1:=rfl
  have k1:((k:Int)).toNat=k:=rfl
  have w0:IntKind.wrap .i64 (((k+1:Nat):Int) - 1)=(k:Int):=by rw [wrap64 (by omega) (by omega)];omega
  have e9:IntKind.wrap .i64 (((k+1:Nat):Int)+1)=((k+1+1:Nat):Int):=by rw [wrap64 (by omega) (by omega)];rfl
  have w1:IntKind.wrap .i64 (n+1)=n+1:=wrap64 (by omega) (by omega)
  have hlk:k < w.length:=by omega
  obtain ⟨x,hx⟩:∃ x,w.getD k default=x:=⟨_,rfl⟩
  obtain ⟨y,hy⟩:∃ y,w.getD (k+1) default=y:=⟨_,rfl⟩
  rw [hx,hy] at hS
  have hxy:decide (y=x)=(decide (y.cab=x.cab) && decide (y.bed=x.bed)):=by
   cases x;cases y;rw [Bool.eq_iff_iff];simp
  cases q:(decide (y.cab=x.cab) && decide (y.bed=x.bed)) with
  |true =>
   rw [q] at hxy
   rw [if_pos (of_decide_eq_true hxy),Int.add_zero] at hS
   repeat' (first|(apply nx;with_reducible constructor)|refine uq (by decide) ?_|((first|refine vx env fun Q hQ=>?_|refine vz fun Q hQ=>?_);simp only [vkt,seval,y7,Ja,qf,qc,qj,qA,qF,Vl,List.length_map,d1,k0,k1,w0,e9,hlt,hlk,hx,hy,q];(try simp only [ite_and]);(repeat' (first|with_reducible assumption|refine And.intro ?_ ?_|intro hp));all_goals (first|(refine hQ _ ?_;clear hQ Q)|(refine hQ _ (fun h=>?_) (fun h=>?_) <;> clear hQ Q <;> (try simp only [vki,reduceCtorEq] at h))|(refine vq ?_;kernel_rfl)|omega|assumption|with_reducible rfl|skip)))
   refine ⟨⟨k+1,by omega⟩,by show w.length - 1 - (k+1) < w.length - 1 - k;omega, ?_⟩
   simp only [Vl,hS]
   (refine Le.ok some [] ?_;constructor;all_goals (try simp only [vle,vkt,seval,y7,Ja,qf,qc,qj,qA,qF,Vl,List.length_map]))
   all_goals first|rfl|(simp;done)
  |false =>
   rw [q] at hxy
   rw [if_neg (of_decide_eq_false hxy)] at hS
   repeat' (first|(apply nx;with_reducible constructor)|refine uq (by decide) ?_|((first|refine vx env fun Q hQ=>?_|refine vz fun Q hQ=>?_);simp only [vkt,seval,y7,Ja,qf,qc,qj,qA,qF,Vl,List.length_map,d1,k0,k1,w0,e9,w1,hlt,hlk,hx,hy,q];(try simp only [ite_and]);(repeat' (first|with_reducible assumption|refine And.intro ?_ ?_|intro hp));all_goals (first|(refine hQ _ ?_;clear hQ Q)|(refine hQ _ (fun h=>?_) (fun h=>?_) <;> clear hQ Q <;> (try simp only [vki,reduceCtorEq] at h))|(refine vq ?_;kernel_rfl)|omega|assumption|with_reducible rfl|skip)))
   refine ⟨⟨k+1,by omega⟩,by show w.length - 1 - (k+1) < w.length - 1 - k;omega, ?_⟩
   simp only [Vl,hS]
   (refine Le.ok some [] ?_;constructor;all_goals (try simp only [vle,vkt,seval,y7,Ja,qf,qc,qj,qA,qF,Vl,List.length_map]))
   all_goals first|rfl|(simp;done)
 ·have d1:decide (((k+1:Nat):Int) < (w.length:Int))=false:=decide_eq_false (by omega)
  obtain rfl:k=w.length - 1:=by omega
  rw [hn]
  repeat' (first|(apply nx;with_reducible constructor)|refine uq (by decide) ?_|((first|refine vx env fun Q hQ=>?_|refine vz fun Q hQ=>?_);simp only [vkt,seval,y7,Ja,qf,qc,qj,qA,qF,Vl,List.length_map,d1];(try simp only [ite_and]);(repeat' (first|with_reducible assumption|refine And.intro ?_ ?_|intro hp));all_goals (first|(refine hQ _ ?_;clear hQ Q)|(refine hQ _ (fun h=>?_) (fun h=>?_) <;> clear hQ Q <;> (try simp only [vki,reduceCtorEq] at h))|(refine vq ?_;kernel_rfl)|omega|assumption|with_reducible rfl|skip)))
  (simp only [vrt,Tryz.results75,vkt,seval,y7,Ja,qf,qc,qj,qA,qF,Vl,List.length_map];refine Fin.val rfl ?_;(try simp only [AV.le,AV.leL]))
  all_goals first|rfl|(simp;done)
def wD:List AV→Prop × AV
 |[.sl w]=>(w=(w.map zA).map qj∧(w.map zA).length≤1000,aI (inC (w.map zA)))
 |_=>(False,.junk)
theorem LF {A:Frm→Prop}:qE A Tryz.prog 75 (qR true wD):=qV fun vs hv h=>by
 clear hv
 unfold wD at h ⊢
 split at h
 ·rename_i w;obtain ⟨q0,k0⟩:=h
  refine ⟨by first|trivial|(simp [AV.plain,AV.plainL,aI,aB,qB,qc,qo,qf,aTk,cTk];done)|(repeat' split) <;> simp [AV.plain,AV.plainL,aI,aB,qB,qc,qo,qf,aTk,cTk],fun _=>(by simp [AV.flat,AV.flatL,aI,aB]), ?_⟩
  have:=Qbe (w.map zA) k0
  simp only [qc,← q0] at this
  first|exact this|(simp only [qc,← q0];exact this)
 ·exact h.elim
theorem Qab {L:List (List Bunk)}:(∀ l ∈ L,l.length≤9)→(jU L).length≤9 ^ L.length:=by
 induction L with
 |nil=>intro _;exact Nat.le_refl 1
 |cons l L ih =>
  intro h
  have h1:=ih fun x hx=>h x (List.mem_cons_of_mem _ hx)
  have h2:=h l (List.mem_cons_self ..)
  rw [jU,List.length_flatMap]
  simp only [List.length_map]
  rw [List.map_const',List.sum_replicate_nat,List.length_cons,Nat.pow_succ,Nat.mul_comm (9 ^ L.length)]
  exact Nat.mul_le_mul h2 h1
theorem X5:∀ {L:List (List Bunk)} {p:List Bunk},p ∈ jU L→p.length=L.length
 |[],p,h=>by rw [jU,List.mem_singleton] at h;rw [h];rfl
 |l :: L,p,h=>by
  rw [jU,List.mem_flatMap] at h
  obtain ⟨b,_,h⟩:=h
  obtain ⟨q,hq,rfl⟩:=List.mem_map.1 h
  rw [List.length_cons,List.length_cons,X5 hq]
def Yd (L:List (List Bunk)):Prop:=FnV Tryz.prog 74 [qZ L] (qZ (jU L))
def jI (L:List (List Bunk)):List AV→Prop × AV
 |[.sl xs]=>(xs=L.map qz,qZ (jU L))
 |_=>(False,.junk)
theorem QiZ {A:Frm→Prop} {L:List (List Bunk)} (ih:Yd L):qE A Tryz.prog 74 (qR false (jI L)):=qV fun vs hv h=>by
 clear hv
 unfold jI at h ⊢
 split at h
 ·rename_i xs
  have h:xs=L.map qz:=h
  subst h
  refine ⟨by simp [AV.plain,qZ],fun h=>absurd h (by decide), ?_⟩
  exact ih
 ·exact h.elim
def wyS (l:List Bunk) (rest W M:List (List Bunk)) (T:List (Nat × AV)):St:={ t:=asg (T++[(0,.sl (qz l :: rest.map qz)),(3,.row 0),(4,qZ W)]),h:=ql [(0,.row 44 1 (M.map qz))],n:=1 }
def yT:=vj @ty3 (vj @UE (vj @ZJ (vj @vU (vj @ti3.eq_1 (vj @VR.eq_1 (vj @QY.eq_1 @vF.eq_1))))))
def Q7:=vj @aI.eq_1 (@aB.eq_1)
theorem ways_nil:Yd []:=by
 unfold Yd
 have env:Env (fun _=>True) Tryz.prog tyB (tab []):=qL trivial
 refine Fn.of (A:=fun _=>True) (n0:=0) (D:=noD) (Fn0 Tryz.func74 rfl (fun vs w=>by kernel_rfl) (by kernel_rfl)) (by simp) (by simp [AV.ids,AV.idsL,qZ]) (fun i o h=>by cases h) (fun _ _ _ _=>trivial) qI ?_
 have e0:qZ []=.sl []:=rfl
 have d0:decide (((([]:List (List DV)).length:Nat):Int)=0)=true:=rfl
 rw [e0]
 repeat' (first|(apply nx;with_reducible constructor)|refine uq (by decide) ?_|((first|refine vx env fun Q hQ=>?_|refine vz fun Q hQ=>?_);simp only [vkt,seval,yT,Q7,qf,qc,qZ,qj,qz,qA,qG,qJ,qH,ja,qF,wyS,jI,List.length_map,List.length_cons,List.map_cons,List.getD_cons_zero,List.drop_succ_cons,List.drop_zero,d0,List.length_nil,decide_true];(try simp only [ite_and]);(repeat' (first|with_reducible assumption|refine And.intro ?_ ?_|intro hp));all_goals (first|(refine hQ _ ?_;clear hQ Q)|(refine hQ _ (fun h=>?_) (fun h=>?_) <;> clear hQ Q <;> (try simp only [vki,reduceCtorEq] at h))|(refine vq ?_;kernel_rfl)|omega|assumption|with_reducible rfl|skip)))
 (simp only [vrt,Tryz.results74,vkt,seval,yT,Q7,qf,qc,qZ,qj,qz,qA,qG,qJ,qH,ja,qF,wyS,jI,List.length_map,List.length_cons,List.map_cons,List.getD_cons_zero,List.drop_succ_cons,List.drop_zero];refine Fin.val rfl ?_;(try simp only [AV.le,AV.leL]))
 all_goals first|rfl|(simp;done)|exact ⟨_,_,rfl⟩
set_option maxHeartbeats 4000000 in
theorem QeO (l:List Bunk) (rest:List (List Bunk)) (hl:l.length≤9) (hr:rest.length≤4) (hrl:∀ l ∈ rest,l.length≤9) (ih:Yd rest):Yd (l :: rest):=by
 unfold Yd
 have env:Env (fun _=>True) Tryz.prog tyB (tab [(74,qR false (jI rest))]):=qL ⟨QiZ ih,trivial⟩
 refine Fn.of (A:=fun _=>True) (n0:=0) (D:=noD) (Fn0 Tryz.func74 rfl (fun vs w=>by kernel_rfl) (by kernel_rfl)) (by simp) (by simp [AV.ids,AV.idsL,qZ]) (fun i o h=>by cases h) (fun _ _ _ _=>trivial) qI ?_
 have e0:qZ (l :: rest)=.sl (qz l :: rest.map qz):=rfl
 have hmx:(100000:Nat)≤maxLen:=by decide
 have hW:=Qab hrl
 have hW1:∀ p ∈ jU rest,p.length≤4:=fun p hp=>by rw [X5 hp];exact hr
 have e1:jU (l :: rest)=alP l (jU rest) l.length:=by unfold alP;rw [List.take_length];rfl
 have hWl:(jU rest).length≤6561:=Nat.le_trans hW (Nat.le_trans (Nat.pow_le_pow_right (by decide) hr) (by decide))
 obtain ⟨W,hWe⟩:∃ W,jU rest=W:=⟨_,rfl⟩
 rw [hWe] at hW1 e1 hWl
 have d0:decide ((((qz l :: rest.map qz).length:Nat):Int)=0)=false:=decide_eq_false (by rw [List.length_cons];omega)
 have d9:decide ((((rest.length+1):Nat):Int)=0)=false:=decide_eq_false (by omega)
 have z1:(0:Nat) < rest.length+1:=by omega
 have z2:(1:Int)≤((rest.length+1:Nat):Int):=by omega
 have z3:(List.take (rest.length+1) (qz l :: rest.map qz))=qz l :: rest.map qz:=List.take_of_length_le (by simp)
 have z5:List.take rest.length (rest.map qz)=rest.map qz:=List.take_of_length_le (by simp)
 have z4:(((rest.length+1:Nat):Int)).toNat=rest.length+1:=rfl
 have hlm:l.length≤maxLen:=by omega
 rw [e0,e1]
 repeat' (first|(apply nx;with_reducible constructor)|refine uq (by decide) ?_|((first|refine vx env fun Q hQ=>?_|refine vz fun Q hQ=>?_);simp only [vkt,seval,yT,Q7,qf,qc,qZ,qj,qz,qA,qG,qJ,qH,ja,qF,wyS,jI,List.length_map,List.length_cons,List.map_cons,List.getD_cons_zero,List.drop_succ_cons,List.drop_zero,d0,d9,z1,z2,z3,z4,z5,hWe];(try simp only [ite_and]);(repeat' (first|with_reducible assumption|refine And.intro ?_ ?_|intro hp));all_goals (first|(refine hQ _ ?_;clear hQ Q)|(refine hQ _ (fun h=>?_) (fun h=>?_) <;> clear hQ Q <;> (try simp only [vki,reduceCtorEq] at h))|(refine vq ?_;kernel_rfl)|omega|assumption|with_reducible rfl|skip)))
 refine qQ (fun i:{ i:Nat // i≤l.length }=>wyS l rest W (alP l W i.1) [(5,aI i.1)]) (fun i=>l.length - i.1) ⟨0,Nat.zero_le _⟩ ?_ fun ⟨i,hi⟩=>?_
 ·simp only [wyS,show alP l W 0=[] from rfl,List.cons_append,List.nil_append]
  (refine Le.ok (fun i=>if i=0 then none else some i) [] ?_;constructor;all_goals (try simp only [vle,vkt,seval,yT,Q7,qf,qc,qZ,qj,qz,qA,qG,qJ,qH,ja,qF,wyS,jI,List.length_map,List.length_cons,List.map_cons,List.getD_cons_zero,List.drop_succ_cons,List.drop_zero]))
  all_goals first|rfl|(simp;done)|(intro i hi;rw [if_neg (by omega)];done)
 simp only at hi ⊢
 have hL:=Qdx l W i
 have hL2:i * W.length≤9 * 6561:=Nat.mul_le_mul (by omega) hWl
 obtain ⟨L,hLe⟩:∃ L,alP l W i=L:=⟨_,rfl⟩
 rw [hLe] at hL
 rw [hLe]
 by_cases hil:i < l.length
 ·have d1:decide ((i:Int) < (l.length:Int))=true:=decide_eq_true (by omega)
  have e9:IntKind.wrap .i64 ((i:Int)+1)=((i+1:Nat):Int):=by rw [wrap64 (by omega) (by omega)];rfl
  have i0:((i:Int)).toNat=i:=rfl
  obtain ⟨b,hbe⟩:∃ b,l.getD i default=b:=⟨_,rfl⟩
  have hS:=QaE W hil
  rw [hLe,hbe] at hS
  simp only [wyS,List.cons_append,List.nil_append]
  repeat' (first|(apply nx;with_reducible constructor)|refine uq (by decide) ?_|((first|refine vx env fun Q hQ=>?_|refine vz fun Q hQ=>?_);simp only [vkt,seval,yT,Q7,qf,qc,qZ,qj,qz,qA,qG,qJ,qH,ja,qF,wyS,jI,List.length_map,List.length_cons,List.map_cons,List.getD_cons_zero,List.drop_succ_cons,List.drop_zero,d1,i0,z1,hlm];(try simp only [ite_and]);(repeat' (first|with_reducible assumption|refine And.intro ?_ ?_|intro hp));all_goals (first|(refine hQ _ ?_;clear hQ Q)|(refine hQ _ (fun h=>?_) (fun h=>?_) <;> clear hQ Q <;> (try simp only [vki,reduceCtorEq] at h))|(refine vq ?_;kernel_rfl)|omega|assumption|with_reducible rfl|skip)))
  refine qQ (fun k:{ k:Nat // k≤W.length }=>wyS l rest W (L++(W.take k.1).map (b :: ·)) [(5,aI i),(6,aI k.1)]) (fun k=>W.length - k.1) ⟨0,Nat.zero_le _⟩ ?_ fun ⟨k,hk⟩=>?_
  ·simp only [wyS,List.take_zero,List.map_nil,List.append_nil,List.cons_append,List.nil_append]
   (refine Le.ok some [] ?_;constructor;all_goals (try simp only [vle,vkt,seval,yT,Q7,qf,qc,qZ,qj,qz,qA,qG,qJ,qH,ja,qF,wyS,jI,List.length_map,List.length_cons,List.map_cons,List.getD_cons_zero,List.drop_succ_cons,List.drop_zero]))
   all_goals first|rfl|(simp;done)
  simp only at hk ⊢
  obtain ⟨M,hM⟩:∃ M,L++(W.take k).map (b :: ·)=M:=⟨_,rfl⟩
  have hMl:M.length≤100000:=by rw [← hM,List.length_append,List.length_map,List.length_take];omega
  simp only [wyS,hM,List.cons_append,List.nil_append]
  by_cases hkl:k < W.length
  ·have d2:decide ((k:Int) < (W.length:Int))=true:=decide_eq_true (by omega)
   have e8:IntKind.wrap .i64 ((k:Int)+1)=((k+1:Nat):Int):=by rw [wrap64 (by omega) (by omega)];rfl
   have k0:((k:Int)).toNat=k:=rfl
   have hm2:(200000:Nat)≤maxLen:=by decide
   have hm:M.length+1≤maxLen:=by omega
   obtain ⟨p,hp⟩:∃ p,W.getD k []=p:=⟨_,rfl⟩
   have hg:=Wx hkl
   rw [hp] at hg
   have hpl:=hW1 p (by rw [← hp];exact vG hkl)
   have hpm:1+p.length≤maxLen:=by omega
   have hMS:L++(W.take (k+1)).map (b :: ·)=M++[b :: p]:=by
    rw [List.take_succ_eq_append_getElem hkl,List.map_append,← List.append_assoc,hM,← hp]
    simp [List.getD_eq_getElem?_getD,hkl]
   repeat' (first|(apply nx;with_reducible constructor)|refine uq (by decide) ?_|((first|refine vx env fun Q hQ=>?_|refine vz fun Q hQ=>?_);simp only [vkt,seval,yT,Q7,qf,qc,qZ,qj,qz,qA,qG,qJ,qH,ja,qF,wyS,jI,List.length_map,List.length_cons,List.map_cons,List.getD_cons_zero,List.drop_succ_cons,List.drop_zero,i0,k0,hil,hkl,hbe,hp,hg,d2,e8,hm,hpm,z1,hlm];(try simp only [ite_and]);(repeat' (first|with_reducible assumption|refine And.intro ?_ ?_|intro hp));all_goals (first|(refine hQ _ ?_;clear hQ Q)|(refine hQ _ (fun h=>?_) (fun h=>?_) <;> clear hQ Q <;> (try simp only [vki,reduceCtorEq] at h))|(refine vq ?_;kernel_rfl)|omega|assumption|with_reducible rfl|skip)))
   refine ⟨⟨k+1,hkl⟩,by show W.length - (k+1) < W.length - k;omega, ?_⟩
   simp only [wyS,hMS,List.cons_append,List.nil_append]
   (refine Le.ok (fun i=>if i=0 then some 4 else some i) [] ?_;constructor;all_goals (try simp only [vle,vkt,seval,yT,Q7,qf,qc,qZ,qj,qz,qA,qG,qJ,qH,ja,qF,wyS,jI,List.length_map,List.length_cons,List.map_cons,List.getD_cons_zero,List.drop_succ_cons,List.drop_zero]))
   all_goals first|rfl|(rw [List.map_append];rfl)|(simp;done)|(intro i hi;rw [if_neg (by omega)];done)
  ·have d2:decide ((k:Int) < (W.length:Int))=false:=decide_eq_false (by omega)
   obtain rfl:k=W.length:=by omega
   rw [List.take_length] at hM
   repeat' (first|(apply nx;with_reducible constructor)|refine uq (by decide) ?_|((first|refine vx env fun Q hQ=>?_|refine vz fun Q hQ=>?_);simp only [vkt,seval,yT,Q7,qf,qc,qZ,qj,qz,qA,qG,qJ,qH,ja,qF,wyS,jI,List.length_map,List.length_cons,List.map_cons,List.getD_cons_zero,List.drop_succ_cons,List.drop_zero,d2,e9];(try simp only [ite_and]);(repeat' (first|with_reducible assumption|refine And.intro ?_ ?_|intro hp));all_goals (first|(refine hQ _ ?_;clear hQ Q)|(refine hQ _ (fun h=>?_) (fun h=>?_) <;> clear hQ Q <;> (try simp only [vki,reduceCtorEq] at h))|(refine vq ?_;kernel_rfl)|omega|assumption|with_reducible rfl|skip)))
   refine ⟨⟨i+1,hil⟩,by show l.length - (i+1) < l.length - i;omega, ?_⟩
   simp only [wyS,hS,hM,List.cons_append,List.nil_append]
   (refine Le.ok some [] ?_;constructor;all_goals (try simp only [vle,vkt,seval,yT,Q7,qf,qc,qZ,qj,qz,qA,qG,qJ,qH,ja,qF,wyS,jI,List.length_map,List.length_cons,List.map_cons,List.getD_cons_zero,List.drop_succ_cons,List.drop_zero]))
   all_goals first|rfl|(simp;done)
 ·have d1:decide ((i:Int) < (l.length:Int))=false:=decide_eq_false (by omega)
  obtain rfl:i=l.length:=by omega
  rw [hLe]
  simp only [wyS,List.cons_append,List.nil_append]
  repeat' (first|(apply nx;with_reducible constructor)|refine uq (by decide) ?_|((first|refine vx env fun Q hQ=>?_|refine vz fun Q hQ=>?_);simp only [vkt,seval,yT,Q7,qf,qc,qZ,qj,qz,qA,qG,qJ,qH,ja,qF,wyS,jI,List.length_map,List.length_cons,List.map_cons,List.getD_cons_zero,List.drop_succ_cons,List.drop_zero,d1,z1,hlm];(try simp only [ite_and]);(repeat' (first|with_reducible assumption|refine And.intro ?_ ?_|intro hp));all_goals (first|(refine hQ _ ?_;clear hQ Q)|(refine hQ _ (fun h=>?_) (fun h=>?_) <;> clear hQ Q <;> (try simp only [vki,reduceCtorEq] at h))|(refine vq ?_;kernel_rfl)|omega|assumption|with_reducible rfl|skip)))
  (simp only [vrt,Tryz.results74,vkt,seval,yT,Q7,qf,qc,qZ,qj,qz,qA,qG,qJ,qH,ja,qF,wyS,jI,List.length_map,List.length_cons,List.map_cons,List.getD_cons_zero,List.drop_succ_cons,List.drop_zero];refine Fin.val rfl ?_;(try simp only [AV.le,AV.leL]))
  all_goals first|rfl|(simp;done)|exact ⟨_,_,rfl⟩
theorem QaK:∀ L:List (List Bunk),L.length≤5→(∀ l ∈ L,l.length≤9)→Yd L
 |[],_,_=>ways_nil
 |l :: rest,h1,h2=>by
  have h3:∀ x ∈ rest,x.length≤9:=fun x hx=>h2 x (List.mem_cons_of_mem _ hx)
  rw [List.length_cons] at h1
  exact QeO l rest (h2 l (List.mem_cons_self ..)) (by omega) h3 (QaK rest (by omega) h3)
theorem Qfl {t:Tk} {l:List Tk}:decide (zB t l=0)=l.all fun x=>!yw t x && xS x t:=by
 rw [Bool.eq_iff_iff,decide_eq_true_eq,ZQ,List.all_eq_true]
 simp only [Bool.and_eq_true,Bool.not_eq_true']
theorem Qhm {α:Type} {p:α→Bool} {l:List α} {k:Nat} {d:α} (h:k < l.length) (hp:p (l.getD k d)=false):l.all p=false:=by
 rw [List.all_eq_false]
 exact ⟨_,vG h,by rw [hp];decide⟩
theorem QjL {α:Type} {p:α→Bool} {l:List α} {d:α} (h:∀ j,j < l.length→p (l.getD j d)=true):l.all p=true:=by
 rw [List.all_eq_true]
 intro x hx
 obtain ⟨j,hj,rfl⟩:=List.getElem_of_mem hx
 have:=h j hj
 rw [List.getD_eq_getElem?_getD,List.getElem?_eq_getElem hj] at this
 simpa using this
def rfS (c:Chart) (t:Tk) (k:Nat):St:={ t:=asg [(2,.ptr 0 0),(3,.ptr 1 0),(5,aI k)],h:=ql [(0,.cells (qb c)),(1,.cells (cTk t))],n:=2 }
def wS:=vj @ty3 (vj @Qh (vj @yj (vj @vU (vj @vo (vj @ti3.eq_1 (vj @xW.eq_1 (vj @jP.eq_1 (vj @vF.eq_1 @yK.eq_1))))))))
def xU:=vj @aI.eq_1 (@aB.eq_1)
theorem Qg1 (c:Chart) (t:Tk) (h:c.sold.length≤100):FnV Tryz.prog 85 [qa c,aTk t] (aB (decide (zB t c.sold=0))):=by
 have env:Env (fun _=>True) Tryz.prog tyB (tab [(120,qR true zx),(121,qR true wT)]):=qL ⟨Qbc,Qi9,trivial⟩
 refine Fn.of (A:=fun _=>True) (n0:=0) (D:=noD) (Fn0 Tryz.func85 rfl (fun vs w=>by kernel_rfl) (by kernel_rfl)) (by simp) (by simp [AV.ids,AV.idsL,qa,qb,aTk,cTk]) (fun i o h=>by cases h) (fun _ _ _ _=>trivial) qI ?_
 rw [Qfl]
 have et:(⟨t.party,t.sex,t.cab,t.bed,t.frm,t.to,t.dog⟩:Tk)=t:=rfl
 repeat' (first|(apply nx;with_reducible constructor)|refine uq (by decide) ?_|((first|refine vx env fun Q hQ=>?_|refine vz fun Q hQ=>?_);simp only [vkt,seval,wS,xU,aTk,cTk,gTk,eTk,mTk,qd,qa,qb,rfS,zx,wT,List.length_map];(try simp only [ite_and]);(repeat' (first|with_reducible assumption|refine And.intro ?_ ?_|intro hp));all_goals (first|(refine hQ _ ?_;clear hQ Q)|(refine hQ _ (fun h=>?_) (fun h=>?_) <;> clear hQ Q <;> (try simp only [vki,reduceCtorEq] at h))|(refine vq ?_;kernel_rfl)|omega|assumption|with_reducible rfl|skip)))
 refine qQ (fun k:{ k:Nat // k≤c.sold.length∧∀ j,j < k→(!yw t (c.sold.getD j default) && xS (c.sold.getD j default) t)=true }=>rfS c t k.1) (fun k=>c.sold.length - k.1) ⟨0,Nat.zero_le _,fun j h=>absurd h (Nat.not_lt_zero _)⟩ ?_ fun ⟨k,hk,hno⟩=>?_
 ·simp only [rfS]
  (refine Le.ok some [] ?_;constructor;all_goals (try simp only [vle,vkt,seval,wS,xU,aTk,cTk,gTk,eTk,mTk,qd,qa,qb,rfS,zx,wT,List.length_map]))
  all_goals first|rfl|(simp;done)
 simp only at hk hno ⊢
 simp only [rfS]
 by_cases hkl:k < c.sold.length
 ·have d1:decide ((k:Int) < (c.sold.length:Int))=true:=decide_eq_true (by omega)
  have e9:IntKind.wrap .i64 ((k:Int)+1)=((k+1:Nat):Int):=by rw [wrap64 (by omega) (by omega)];rfl
  have k0:((k:Int)).toNat=k:=rfl
  have hg:=hTk hkl
  obtain ⟨x,hx⟩:∃ x,c.sold.getD k default=x:=⟨_,rfl⟩
  rw [hx] at hg
  have ex:(⟨x.party,x.sex,x.cab,x.bed,x.frm,x.to,x.dog⟩:Tk)=x:=rfl
  have htw:yw t x=(decide (x.cab=t.cab) && decide (x.bed=t.bed) && vT x t):=rfl
  have next:(!yw t x && xS x t)=true→∀ S,Le S (rfS c t (k+1))→∃ y:{ k:Nat // k≤c.sold.length∧∀ j,j < k→(!yw t (c.sold.getD j default) && xS (c.sold.getD j default) t)=true },(c.sold.length - y.1 < c.sold.length - k)∧Le S (rfS c t y.1):=fun hq S hle=>⟨⟨k+1,hkl,fun j hj=>by
   rcases Nat.lt_or_eq_of_le (Nat.le_of_lt_succ hj) with h|h
   ·exact hno j h
   ·rw [h,hx];exact hq⟩,by show c.sold.length - (k+1) < c.sold.length - k;omega,hle⟩
  have stop:(!yw t x && xS x t)=false→(c.sold.all fun x=>!yw t x && xS x t)=false:=fun hq=>Qhm (d:=default) hkl (by rw [hx];exact hq)
  cases q3:xS x t with
  |false =>
   rw [stop (by rw [q3,Bool.and_false])]
   cases q1:(decide (x.cab=t.cab) && decide (x.bed=t.bed)) with
   |false =>
    repeat' (first|(apply nx;with_reducible constructor)|refine uq (by decide) ?_|((first|refine vx env fun Q hQ=>?_|refine vz fun Q hQ=>?_);simp only [vkt,seval,wS,xU,aTk,cTk,gTk,eTk,mTk,qd,qa,qb,rfS,zx,wT,List.length_map,d1,k0,hkl,hg,hx,q1,q3,et,ex];(try simp only [ite_and]);(repeat' (first|with_reducible assumption|refine And.intro ?_ ?_|intro hp));all_goals (first|(refine hQ _ ?_;clear hQ Q)|(refine hQ _ (fun h=>?_) (fun h=>?_) <;> clear hQ Q <;> (try simp only [vki,reduceCtorEq] at h))|(refine vq ?_;kernel_rfl)|omega|assumption|with_reducible rfl|skip)))
    (simp only [vrt,Tryz.results85,vkt,seval,wS,xU,aTk,cTk,gTk,eTk,mTk,qd,qa,qb,rfS,zx,wT,List.length_map];refine Fin.val rfl ?_;(try simp only [AV.le,AV.leL]))
    all_goals first|rfl|(simp;done)
   |true =>
    cases q2:vT x t with
    |false =>
     repeat' (first|(apply nx;with_reducible constructor)|refine uq (by decide) ?_|((first|refine vx env fun Q hQ=>?_|refine vz fun Q hQ=>?_);simp only [vkt,seval,wS,xU,aTk,cTk,gTk,eTk,mTk,qd,qa,qb,rfS,zx,wT,List.length_map,d1,k0,hkl,hg,hx,q1,q2,q3,et,ex];(try simp only [ite_and]);(repeat' (first|with_reducible assumption|refine And.intro ?_ ?_|intro hp));all_goals (first|(refine hQ _ ?_;clear hQ Q)|(refine hQ _ (fun h=>?_) (fun h=>?_) <;> clear hQ Q <;> (try simp only [vki,reduceCtorEq] at h))|(refine vq ?_;kernel_rfl)|omega|assumption|with_reducible rfl|skip)))
     (simp only [vrt,Tryz.results85,vkt,seval,wS,xU,aTk,cTk,gTk,eTk,mTk,qd,qa,qb,rfS,zx,wT,List.length_map];refine Fin.val rfl ?_;(try simp only [AV.le,AV.leL]))
     all_goals first|rfl|(simp;done)
    |true =>
     repeat' (first|(apply nx;with_reducible constructor)|refine uq (by decide) ?_|((first|refine vx env fun Q hQ=>?_|refine vz fun Q hQ=>?_);simp only [vkt,seval,wS,xU,aTk,cTk,gTk,eTk,mTk,qd,qa,qb,rfS,zx,wT,List.length_map,d1,k0,hkl,hg,hx,q1,q2,q3,et,ex];(try simp only [ite_and]);(repeat' (first|with_reducible assumption|refine And.intro ?_ ?_|intro hp));all_goals (first|(refine hQ _ ?_;clear hQ Q)|(refine hQ _ (fun h=>?_) (fun h=>?_) <;> clear hQ Q <;> (try simp only [vki,reduceCtorEq] at h))|(refine vq ?_;kernel_rfl)|omega|assumption|with_reducible rfl|skip)))
     (simp only [vrt,Tryz.results85,vkt,seval,wS,xU,aTk,cTk,gTk,eTk,mTk,qd,qa,qb,rfS,zx,wT,List.length_map];refine Fin.val rfl ?_;(try simp only [AV.le,AV.leL]))
     all_goals first|rfl|(simp;done)
  |true =>
   cases q1:(decide (x.cab=t.cab) && decide (x.bed=t.bed)) with
   |false =>
    have hn:=next (by rw [htw,q1,q3];rfl)
    repeat' (first|(apply nx;with_reducible constructor)|refine uq (by decide) ?_|((first|refine vx env fun Q hQ=>?_|refine vz fun Q hQ=>?_);simp only [vkt,seval,wS,xU,aTk,cTk,gTk,eTk,mTk,qd,qa,qb,rfS,zx,wT,List.length_map,d1,k0,hkl,hg,hx,q1,q3,et,ex,e9];(try simp only [ite_and]);(repeat' (first|with_reducible assumption|refine And.intro ?_ ?_|intro hp));all_goals (first|(refine hQ _ ?_;clear hQ Q)|(refine hQ _ (fun h=>?_) (fun h=>?_) <;> clear hQ Q <;> (try simp only [vki,reduceCtorEq] at h))|(refine vq ?_;kernel_rfl)|omega|assumption|with_reducible rfl|skip)))
    refine hn _ ?_
    simp only [rfS]
    (refine Le.ok some [] ?_;constructor;all_goals (try simp only [vle,vkt,seval,wS,xU,aTk,cTk,gTk,eTk,mTk,qd,qa,qb,rfS,zx,wT,List.length_map]))
    all_goals first|rfl|(simp;done)
   |true =>
    cases q2:vT x t with
    |false =>
     have hn:=next (by rw [htw,q1,q2,q3];rfl)
     repeat' (first|(apply nx;with_reducible constructor)|refine uq (by decide) ?_|((first|refine vx env fun Q hQ=>?_|refine vz fun Q hQ=>?_);simp only [vkt,seval,wS,xU,aTk,cTk,gTk,eTk,mTk,qd,qa,qb,rfS,zx,wT,List.length_map,d1,k0,hkl,hg,hx,q1,q2,q3,et,ex,e9];(try simp only [ite_and]);(repeat' (first|with_reducible assumption|refine And.intro ?_ ?_|intro hp));all_goals (first|(refine hQ _ ?_;clear hQ Q)|(refine hQ _ (fun h=>?_) (fun h=>?_) <;> clear hQ Q <;> (try simp only [vki,reduceCtorEq] at h))|(refine vq ?_;kernel_rfl)|omega|assumption|with_reducible rfl|skip)))
     refine hn _ ?_
     simp only [rfS]
     (refine Le.ok some [] ?_;constructor;all_goals (try simp only [vle,vkt,seval,wS,xU,aTk,cTk,gTk,eTk,mTk,qd,qa,qb,rfS,zx,wT,List.length_map]))
     all_goals first|rfl|(simp;done)
    |true =>
     rw [stop (by rw [htw,q1,q2,q3];rfl)]
     repeat' (first|(apply nx;with_reducible constructor)|refine uq (by decide) ?_|((first|refine vx env fun Q hQ=>?_|refine vz fun Q hQ=>?_);simp only [vkt,seval,wS,xU,aTk,cTk,gTk,eTk,mTk,qd,qa,qb,rfS,zx,wT,List.length_map,d1,k0,hkl,hg,hx,q1,q2,q3,et,ex];(try simp only [ite_and]);(repeat' (first|with_reducible assumption|refine And.intro ?_ ?_|intro hp));all_goals (first|(refine hQ _ ?_;clear hQ Q)|(refine hQ _ (fun h=>?_) (fun h=>?_) <;> clear hQ Q <;> (try simp only [vki,reduceCtorEq] at h))|(refine vq ?_;kernel_rfl)|omega|assumption|with_reducible rfl|skip)))
     (simp only [vrt,Tryz.results85,vkt,seval,wS,xU,aTk,cTk,gTk,eTk,mTk,qd,qa,qb,rfS,zx,wT,List.length_map];refine Fin.val rfl ?_;(try simp only [AV.le,AV.leL]))
     all_goals first|rfl|(simp;done)
 ·have d1:decide ((k:Int) < (c.sold.length:Int))=false:=decide_eq_false (by omega)
  obtain rfl:k=c.sold.length:=by omega
  rw [QjL hno]
  repeat' (first|(apply nx;with_reducible constructor)|refine uq (by decide) ?_|((first|refine vx env fun Q hQ=>?_|refine vz fun Q hQ=>?_);simp only [vkt,seval,wS,xU,aTk,cTk,gTk,eTk,mTk,qd,qa,qb,rfS,zx,wT,List.length_map,d1];(try simp only [ite_and]);(repeat' (first|with_reducible assumption|refine And.intro ?_ ?_|intro hp));all_goals (first|(refine hQ _ ?_;clear hQ Q)|(refine hQ _ (fun h=>?_) (fun h=>?_) <;> clear hQ Q <;> (try simp only [vki,reduceCtorEq] at h))|(refine vq ?_;kernel_rfl)|omega|assumption|with_reducible rfl|skip)))
  (simp only [vrt,Tryz.results85,vkt,seval,wS,xU,aTk,cTk,gTk,eTk,mTk,qd,qa,qb,rfS,zx,wT,List.length_map];refine Fin.val rfl ?_;(try simp only [AV.le,AV.leL]))
  all_goals first|rfl|(simp;done)
def xD:List AV→Prop × AV
 |[.agg [.sl c0,.v (.int .i64 c1),.sl c2],.agg [.v (.int .i64 t0),.v (.int .i64 t1),.v (.int .i64 t2),.v (.int .i64 t3),.v (.int .i64 t4),.v (.int .i64 t5),.v (.bool t6)]]=>(c0=(c0.map qx).map qh∧c2=(c2.map dTk).map eTk∧((⟨(c0.map qx),c1,(c2.map dTk)⟩:Chart)).sold.length≤100,aB (decide (zB ((⟨t0,t1,t2,t3,t4,t5,t6⟩:Tk)) ((⟨(c0.map qx),c1,(c2.map dTk)⟩:Chart)).sold=0)))
 |_=>(False,.junk)
theorem QjA {A:Frm→Prop}:qE A Tryz.prog 85 (qR true xD):=qV fun vs hv h=>by
 clear hv
 unfold xD at h ⊢
 split at h
 ·rename_i c0 c1 c2 t0 t1 t2 t3 t4 t5 t6;obtain ⟨q0,q1,k0⟩:=h
  refine ⟨by first|trivial|(simp [AV.plain,AV.plainL,aI,aB,qB,qc,qo,qf,aTk,cTk];done)|(repeat' split) <;> simp [AV.plain,AV.plainL,aI,aB,qB,qc,qo,qf,aTk,cTk],fun _=>(by simp [AV.flat,AV.flatL,aI,aB]), ?_⟩
  have:=Qg1 ((⟨(c0.map qx),c1,(c2.map dTk)⟩:Chart)) ((⟨t0,t1,t2,t3,t4,t5,t6⟩:Tk)) k0
  simp only [aB,qW,qa,aI,aTk,qo,qb,cTk,← q0,← q1] at this
  first|exact this|(simp only [aB,qW,qa,aI,aTk,qo,qb,cTk,← q0,← q1];exact this)
 ·exact h.elim
def Wp (c:Chart) (sex frm to:Int) (BS:List Bunk) (n i:Nat):St:={ t:=asg [(1,aI sex),(2,aI frm),(3,aI to),(4,.ptr 0 0),(12,aI n),(13,qc BS),(14,aI i)],h:=ql [(0,.cells (qb c))],n:=1 }
def jg:=vj @ty3 (vj @yj (vj @Zj (vj @ZJ (vj @vU (vj @vo (vj @ti3.eq_1 (vj @jP.eq_1 (vj @Qy.eq_1 (vj @QY.eq_1 (vj @vF.eq_1 @yK.eq_1))))))))))
def Qe:=vj @aI.eq_1 (@aB.eq_1)
end Go.Sym.B
