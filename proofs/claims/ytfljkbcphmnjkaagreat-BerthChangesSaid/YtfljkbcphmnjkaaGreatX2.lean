/- Walks and what they compute, joined: part 2. -/
import Derived.Test.YtfljkbcphmnjkaaGreatXB3
import Derived.Test.YtfljkbcphmnjkaaGreatX1
set_option linter.all false
namespace Go.Sym.B
open Go Go.Sym Go.Proofs Go.Sym.C
set_option maxHeartbeats 4000000 in
theorem Qfg (c:Chart) (sex frm to:Int) (hc:c.cabins.length≤maxLen) (hs:c.sold.length≤100000):FnV Tryz.prog 30 [qa c,aI sex,aI frm,aI to] (.tup [aI (vX c sex frm to).1,aI (vX c sex frm to).2]):=by
 have env:Env (fun _=>True) Tryz.prog tyB (tab [(82,qR true jy),(83,qR true zb),(84,qR true zz),(70,qR false wU),(85,qR true xD)]):=qL ⟨QcK,Lr,QgP,QcU,QjA,trivial⟩
 refine Fn.of (A:=fun _=>True) (n0:=0) (D:=noD) (Fn0 Tryz.func30 rfl (fun vs w=>by kernel_rfl) (by kernel_rfl)) (by simp) (by simp [AV.ids,AV.idsL,qa,qb,aI]) (fun i o h=>by cases h) (fun _ _ _ _=>trivial) qI ?_
 have ec:(⟨c.cabins,c.secs,c.sold⟩:Chart)=c:=rfl
 have hmx:(100000:Nat)≤maxLen:=by decide
 obtain ⟨e,he⟩:∃ e,zW c=e:=⟨_,rfl⟩
 by_cases h0:e=0
 case neg =>
  rw [show vX c sex frm to=(0,e) by unfold vX;rw [he,if_pos h0]]
  have d0:decide (e=0)=false:=decide_eq_false h0
  repeat' (first|(apply nx;with_reducible constructor)|refine uq (by decide) ?_|((first|refine vx env fun Q hQ=>?_|refine vz fun Q hQ=>?_);simp only [vkt,seval,jg,Qe,aTk,cTk,qf,qc,qj,qA,qF,mTk,qd,qa,qb,Wp,jy,zb,zz,wU,xD,List.length_map,ec,hc,hs,he,d0];(try simp only [ite_and]);(repeat' (first|with_reducible assumption|refine And.intro ?_ ?_|intro hp));all_goals (first|(refine hQ _ ?_;clear hQ Q)|(refine hQ _ (fun h=>?_) (fun h=>?_) <;> clear hQ Q <;> (try simp only [vki,reduceCtorEq] at h))|(refine vq ?_;kernel_rfl)|omega|assumption|with_reducible rfl|skip)))
  (simp only [vrt,Tryz.results30,vkt,seval,jg,Qe,aTk,cTk,qf,qc,qj,qA,qF,mTk,qd,qa,qb,Wp,jy,zb,zz,wU,xD,List.length_map];refine Fin.val rfl ?_;(try simp only [AV.le,AV.leL]))
  all_goals first|rfl|(simp;done)
 rw [h0] at he
 cases h1:inB sex 1 2 with
 |false =>
  rw [show vX c sex frm to=(0,8) by unfold vX;rw [he,h1];rfl]
  repeat' (first|(apply nx;with_reducible constructor)|refine uq (by decide) ?_|((first|refine vx env fun Q hQ=>?_|refine vz fun Q hQ=>?_);simp only [vkt,seval,jg,Qe,aTk,cTk,qf,qc,qj,qA,qF,mTk,qd,qa,qb,Wp,jy,zb,zz,wU,xD,List.length_map,ec,hc,hs,he,h1,decide_true];(try simp only [ite_and]);(repeat' (first|with_reducible assumption|refine And.intro ?_ ?_|intro hp));all_goals (first|(refine hQ _ ?_;clear hQ Q)|(refine hQ _ (fun h=>?_) (fun h=>?_) <;> clear hQ Q <;> (try simp only [vki,reduceCtorEq] at h))|(refine vq ?_;kernel_rfl)|omega|assumption|with_reducible rfl|skip)))
  (simp only [vrt,Tryz.results30,vkt,seval,jg,Qe,aTk,cTk,qf,qc,qj,qA,qF,mTk,qd,qa,qb,Wp,jy,zb,zz,wU,xD,List.length_map];refine Fin.val rfl ?_;(try simp only [AV.le,AV.leL]))
  all_goals first|rfl|(simp;done)
 |true =>
 obtain ⟨w,hw⟩:∃ w,kJ c.secs frm to=w:=⟨_,rfl⟩
 by_cases hw0:w=0
 case neg =>
  rw [show vX c sex frm to=(0,w) by unfold vX;rw [he,h1,hw];simp [hw0]]
  have d0:decide (w=0)=false:=decide_eq_false hw0
  repeat' (first|(apply nx;with_reducible constructor)|refine uq (by decide) ?_|((first|refine vx env fun Q hQ=>?_|refine vz fun Q hQ=>?_);simp only [vkt,seval,jg,Qe,aTk,cTk,qf,qc,qj,qA,qF,mTk,qd,qa,qb,Wp,jy,zb,zz,wU,xD,List.length_map,ec,hc,hs,he,h1,hw,d0,decide_true];(try simp only [ite_and]);(repeat' (first|with_reducible assumption|refine And.intro ?_ ?_|intro hp));all_goals (first|(refine hQ _ ?_;clear hQ Q)|(refine hQ _ (fun h=>?_) (fun h=>?_) <;> clear hQ Q <;> (try simp only [vki,reduceCtorEq] at h))|(refine vq ?_;kernel_rfl)|omega|assumption|with_reducible rfl|skip)))
  (simp only [vrt,Tryz.results30,vkt,seval,jg,Qe,aTk,cTk,qf,qc,qj,qA,qF,mTk,qd,qa,qb,Wp,jy,zb,zz,wU,xD,List.length_map];refine Fin.val rfl ?_;(try simp only [AV.le,AV.leL]))
  all_goals first|rfl|(simp;done)
 rw [hw0] at hw
 have hv:=xR he
 have b1:c.cabins.length≤3:=hv.car.cabs.2
 have b2:∀ x ∈ c.cabins,x.beds≤3:=fun x hx=>(hv.car.beds x hx).2
 have b3:c.sold.length≤100:=by have:=hv.many;omega
 have b4:=V4 b1 hv.car.beds
 rw [show vX c sex frm to=((rmN c sex frm to (qN c.cabins).length:Int),0) by unfold vX;rw [he,h1,hw];rfl]
 have hrl:=fun {j:Nat} (h:j < (qN c.cabins).length)=>QaQ c sex frm to h
 have hrn:=Qgy c sex frm to
 have hr0:rmN c sex frm to 0=0:=rfl
 obtain ⟨f,hf⟩:∃ f,rmN c sex frm to=f:=⟨_,rfl⟩
 rw [hf] at hrl hrn hr0
 rw [hf]
 obtain ⟨BS,hBS⟩:∃ l,qN c.cabins=l:=⟨_,rfl⟩
 rw [hBS] at b4
 simp only [hBS] at hrl
 rw [hBS]
 have b5:BS.length≤maxLen:=by omega
 repeat' (first|(apply nx;with_reducible constructor)|refine uq (by decide) ?_|((first|refine vx env fun Q hQ=>?_|refine vz fun Q hQ=>?_);simp only [vkt,seval,jg,Qe,aTk,cTk,qf,qc,qj,qA,qF,mTk,qd,qa,qb,Wp,jy,zb,zz,wU,xD,List.length_map,ec,hc,hs,he,h1,hw,b1,b2,hBS,decide_true];(try simp only [ite_and]);(repeat' (first|with_reducible assumption|refine And.intro ?_ ?_|intro hp));all_goals (first|(refine hQ _ ?_;clear hQ Q)|(refine hQ _ (fun h=>?_) (fun h=>?_) <;> clear hQ Q <;> (try simp only [vki,reduceCtorEq] at h))|(refine vq ?_;kernel_rfl)|omega|assumption|with_reducible rfl|skip)))
 refine qQ (fun i:{ i:Nat // i≤BS.length }=>Wp c sex frm to BS (f i.1) i.1) (fun i=>BS.length - i.1) ⟨0,Nat.zero_le _⟩ ?_ fun ⟨i,hi⟩=>?_
 ·simp only [Wp,hr0]
  (refine Le.ok some [] ?_;constructor;all_goals (try simp only [vle,vkt,seval,jg,Qe,aTk,cTk,qf,qc,qj,qA,qF,mTk,qd,qa,qb,Wp,jy,zb,zz,wU,xD,List.length_map]))
  all_goals first|rfl|(simp;done)
 simp only at hi ⊢
 have hn:=hrn i
 by_cases hil:i < BS.length
 ·have d1:decide ((i:Int) < (BS.length:Int))=true:=decide_eq_true (by omega)
  have e9:IntKind.wrap .i64 ((i:Int)+1)=((i+1:Nat):Int):=by rw [wrap64 (by omega) (by omega)];rfl
  have i0:((i:Int)).toNat=i:=rfl
  have hS:=hrl hil
  obtain ⟨n,hfn⟩:∃ n,f i=n:=⟨_,rfl⟩
  rw [hfn] at hS hn
  have w1:IntKind.wrap .i64 ((n:Int)+1)=((n+1:Nat):Int):=by rw [wrap64 (by omega) (by omega)];rfl
  obtain ⟨b,hb⟩:∃ b,BS.getD i default=b:=⟨_,rfl⟩
  rw [hb] at hS
  have hR:rmB c sex frm to b=decide (zB ⟨0,sex,b.cab,b.bed,frm,to,false⟩ c.sold=0):=rfl
  simp only [Wp,hfn]
  cases q:rmB c sex frm to b with
  |true =>
   rw [q,if_pos rfl] at hS
   have hR:=hR.symm.trans q
   repeat' (first|(apply nx;with_reducible constructor)|refine uq (by decide) ?_|((first|refine vx env fun Q hQ=>?_|refine vz fun Q hQ=>?_);simp only [vkt,seval,jg,Qe,aTk,cTk,qf,qc,qj,qA,qF,mTk,qd,qa,qb,Wp,jy,zb,zz,wU,xD,List.length_map,d1,e9,i0,hil,hb,ec,b3,hR,w1];(try simp only [ite_and]);(repeat' (first|with_reducible assumption|refine And.intro ?_ ?_|intro hp));all_goals (first|(refine hQ _ ?_;clear hQ Q)|(refine hQ _ (fun h=>?_) (fun h=>?_) <;> clear hQ Q <;> (try simp only [vki,reduceCtorEq] at h))|(refine vq ?_;kernel_rfl)|omega|assumption|with_reducible rfl|skip)))
   refine ⟨⟨i+1,hil⟩,by show BS.length - (i+1) < BS.length - i;omega, ?_⟩
   simp only [Wp,hS]
   (refine Le.ok some [] ?_;constructor;all_goals (try simp only [vle,vkt,seval,jg,Qe,aTk,cTk,qf,qc,qj,qA,qF,mTk,qd,qa,qb,Wp,jy,zb,zz,wU,xD,List.length_map]))
   all_goals first|rfl|(simp;done)
  |false =>
   rw [q,if_neg (by decide),Nat.add_zero] at hS
   have hR:=hR.symm.trans q
   repeat' (first|(apply nx;with_reducible constructor)|refine uq (by decide) ?_|((first|refine vx env fun Q hQ=>?_|refine vz fun Q hQ=>?_);simp only [vkt,seval,jg,Qe,aTk,cTk,qf,qc,qj,qA,qF,mTk,qd,qa,qb,Wp,jy,zb,zz,wU,xD,List.length_map,d1,e9,i0,hil,hb,ec,b3,hR];(try simp only [ite_and]);(repeat' (first|with_reducible assumption|refine And.intro ?_ ?_|intro hp));all_goals (first|(refine hQ _ ?_;clear hQ Q)|(refine hQ _ (fun h=>?_) (fun h=>?_) <;> clear hQ Q <;> (try simp only [vki,reduceCtorEq] at h))|(refine vq ?_;kernel_rfl)|omega|assumption|with_reducible rfl|skip)))
   refine ⟨⟨i+1,hil⟩,by show BS.length - (i+1) < BS.length - i;omega, ?_⟩
   simp only [Wp,hS]
   (refine Le.ok some [] ?_;constructor;all_goals (try simp only [vle,vkt,seval,jg,Qe,aTk,cTk,qf,qc,qj,qA,qF,mTk,qd,qa,qb,Wp,jy,zb,zz,wU,xD,List.length_map]))
   all_goals first|rfl|(simp;done)
 ·have d1:decide ((i:Int) < (BS.length:Int))=false:=decide_eq_false (by omega)
  obtain rfl:i=BS.length:=by omega
  simp only [Wp]
  repeat' (first|(apply nx;with_reducible constructor)|refine uq (by decide) ?_|((first|refine vx env fun Q hQ=>?_|refine vz fun Q hQ=>?_);simp only [vkt,seval,jg,Qe,aTk,cTk,qf,qc,qj,qA,qF,mTk,qd,qa,qb,Wp,jy,zb,zz,wU,xD,List.length_map,d1];(try simp only [ite_and]);(repeat' (first|with_reducible assumption|refine And.intro ?_ ?_|intro hp));all_goals (first|(refine hQ _ ?_;clear hQ Q)|(refine hQ _ (fun h=>?_) (fun h=>?_) <;> clear hQ Q <;> (try simp only [vki,reduceCtorEq] at h))|(refine vq ?_;kernel_rfl)|omega|assumption|with_reducible rfl|skip)))
  (simp only [vrt,Tryz.results30,vkt,seval,jg,Qe,aTk,cTk,qf,qc,qj,qA,qF,mTk,qd,qa,qb,Wp,jy,zb,zz,wU,xD,List.length_map];refine Fin.val rfl ?_;(try simp only [AV.le,AV.leL]))
  all_goals first|rfl|(simp;done)
def j4:List AV→Prop × AV
 |[.agg [.sl c0,.v (.int .i64 c1),.sl c2],.v (.int .i64 x),.v (.int .i64 f),.v (.int .i64 t)]=>(c0=(c0.map qx).map qh∧c2=(c2.map dTk).map eTk∧((⟨(c0.map qx),c1,(c2.map dTk)⟩:Chart)).cabins.length≤maxLen∧((⟨(c0.map qx),c1,(c2.map dTk)⟩:Chart)).sold.length≤100000,.tup [aI (vX ((⟨(c0.map qx),c1,(c2.map dTk)⟩:Chart)) x f t).1,aI (vX ((⟨(c0.map qx),c1,(c2.map dTk)⟩:Chart)) x f t).2])
 |_=>(False,.junk)
theorem Qkq {A:Frm→Prop}:qE A Tryz.prog 30 (qR true j4):=qV fun vs hv h=>by
 clear hv
 unfold j4 at h ⊢
 split at h
 ·rename_i c0 c1 c2 x f t;obtain ⟨q0,q1,k0,k1⟩:=h
  refine ⟨by first|trivial|(simp [AV.plain,AV.plainL,aI,aB,qB,qc,qo,qf,aTk,cTk];done)|(repeat' split) <;> simp [AV.plain,AV.plainL,aI,aB,qB,qc,qo,qf,aTk,cTk],fun _=>(by simp [AV.flat,AV.flatL,aI,aB]), ?_⟩
  have:=Qfg ((⟨(c0.map qx),c1,(c2.map dTk)⟩:Chart)) x f t k0 k1
  simp only [qW,qa,aI,qo,qb,← q0,← q1] at this
  first|exact this|(simp only [qW,qa,aI,qo,qb,← q0,← q1];exact this)
 ·exact h.elim
theorem QeP {c:Chart} {a:Ask} (hc:CarOk c) (h1:a.sexes.length=1):∀ l ∈ ji c a,l.length≤9∧∀ y ∈ l,y ≠ ⟨-1,0⟩:=fun l hl=>by
 obtain ⟨i,hi,rfl⟩:=List.mem_map.1 hl
 rw [Qf2 h1]
 refine ⟨Nat.le_trans (List.length_filter_le _ _) (V4 hc.cabs.2 hc.beds),fun y hy=>?_⟩
 obtain ⟨p,k,g1,g2,rfl⟩:=Yy.1 (List.mem_filter.1 hy).1
 intro h
 have:=congrArg Bunk.cab h
 simp only at this
 omega
def Zf (c:Chart) (a:Ask) (M:List (List Bunk)) (s:Int):St:={ t:=asg [(2,.ptr 0 0),(3,.ptr 1 0),(8,.row 2),(9,aI s)],h:=ql [(0,.cells (qb c)),(1,.cells (qg a)),(2,.row 44 1 (M.map qz))],n:=3 }
def rhS (W:List (List Bunk)) (K i:Nat):St:={ t:=asg [(10,qZ W),(11,aI K),(12,aI i)],h:=ql [],n:=0 }
def zt:=vj @ty3 (vj @ty4 (vj @yj (vj @QT (vj @QQ (vj @UE (vj @Zj (vj @ZJ (vj @vU (vj @ti3.eq_1 (vj @ti4.eq_1 (vj @jP.eq_1 (vj @Qg.eq_1 (vj @kX.eq_1 (vj @VR.eq_1 (vj @Qy.eq_1 (vj @QY.eq_1 @vF.eq_1))))))))))))))))
def vD:=vj @aI.eq_1 (vj @aB.eq_1 (vj @qB.eq_1 (@Q5)))
set_option maxRecDepth 100000 in
set_option maxHeartbeats 4000000 in
theorem Qch (c:Chart) (a:Ask) (hc:c.cabins.length≤maxLen) (hs:c.sold.length≤20) (ha:a.sexes.length≤maxLen):FnV Tryz.prog 28 [qa c,qw a] (.tup [qc (wY c a).1,aI (wY c a).2.1,aI (wY c a).2.2]):=by
 have ec:(⟨c.cabins,c.secs,c.sold⟩:Chart)=c:=rfl
 have ea:(⟨a.party,a.frm,a.to,a.sexes,a.dog⟩:Ask)=a:=rfl
 have hmx:(100000:Nat)≤maxLen:=by decide
 have hs2:c.sold.length≤100:=by omega
 obtain ⟨e,he⟩:∃ e,zN c a=e:=⟨_,rfl⟩
 by_cases hgo:e=0∧a.sexes.length≤1∧a.dog=false
 case neg =>
  have env:Env (fun _=>True) Tryz.prog tyB (tab [(53,qR true yt),(73,qR false yx),(75,qR true wD)]):=qL ⟨QfF,QgH,LF,trivial⟩
  refine Fn.of (A:=fun _=>True) (n0:=0) (D:=noD) (Fn0 Tryz.func28 rfl (fun vs w=>by kernel_rfl) (by kernel_rfl)) (by simp) (by simp [AV.ids,AV.idsL,qa,qb,qw,qg]) (fun i o h=>by cases h) (fun _ _ _ _=>trivial) qI ?_
  by_cases h0:e=0
  ·rw [h0] at he
   by_cases h1:1 < a.sexes.length
   ·rw [show wY c a=([],0,6) by unfold wY;rw [he,if_neg (fun h=>h rfl),if_pos h1]]
    have d1:decide ((1:Int) < (a.sexes.length:Int))=true:=decide_eq_true (by omega)
    repeat' (first|(apply nx;with_reducible constructor)|refine uq (by decide) ?_|((first|refine vx env fun Q hQ=>?_|refine vz fun Q hQ=>?_);simp only [vkt,seval,zt,vD,qf,qc,qZ,qj,qz,qA,qG,qJ,qH,qF,mTk,qd,qa,qb,qw,qg,Zf,rhS,yt,yx,jI,wD,List.length_map,ec,ea,hc,hs2,ha,he,d1,decide_true];(try simp only [ite_and]);(repeat' (first|with_reducible assumption|refine And.intro ?_ ?_|intro hp));all_goals (first|(refine hQ _ ?_;clear hQ Q)|(refine hQ _ (fun h=>?_) (fun h=>?_) <;> clear hQ Q <;> (try simp only [vki,reduceCtorEq] at h))|(refine vq ?_;kernel_rfl)|omega|assumption|with_reducible rfl|skip)))
    (simp only [vrt,Tryz.results28,vkt,seval,zt,vD,qf,qc,qZ,qj,qz,qA,qG,qJ,qH,qF,mTk,qd,qa,qb,qw,qg,Zf,rhS,yt,yx,jI,wD,List.length_map];refine Fin.val rfl ?_;(try simp only [AV.le,AV.leL]))
    all_goals first|rfl|(simp;done)
   ·have d1:decide ((1:Int) < (a.sexes.length:Int))=false:=decide_eq_false (by omega)
    have h2:a.dog=true:=by
     cases q:a.dog with
     |true=>rfl
     |false=>exact absurd ⟨h0,by omega,q⟩ hgo
    rw [show wY c a=([],0,9) by unfold wY;rw [he,if_neg (fun h=>h rfl),if_neg h1,h2];rfl]
    have ea:(⟨a.party,a.frm,a.to,a.sexes,true⟩:Ask)=a:=by rw [← h2]
    repeat' (first|(apply nx;with_reducible constructor)|refine uq (by decide) ?_|((first|refine vx env fun Q hQ=>?_|refine vz fun Q hQ=>?_);simp only [vkt,seval,zt,vD,qf,qc,qZ,qj,qz,qA,qG,qJ,qH,qF,mTk,qd,qa,qb,qw,qg,Zf,rhS,yt,yx,jI,wD,List.length_map,ec,ea,hc,hs2,ha,he,d1,h2,decide_true];(try simp only [ite_and]);(repeat' (first|with_reducible assumption|refine And.intro ?_ ?_));all_goals (first|(refine hQ _ ?_;clear hQ Q)|(refine hQ _ (fun h=>?_) (fun h=>?_) <;> clear hQ Q <;> (try simp only [vki,reduceCtorEq] at h))|(refine vq ?_;kernel_rfl)|omega|with_reducible assumption|with_reducible rfl|skip)))
    (simp only [vrt,Tryz.results28,vkt,seval,zt,vD,qf,qc,qZ,qj,qz,qA,qG,qJ,qH,qF,mTk,qd,qa,qb,qw,qg,Zf,rhS,yt,yx,jI,wD,List.length_map];refine Fin.val rfl ?_;(try simp only [AV.le,AV.leL]))
    all_goals first|rfl|(simp;done)
  ·rw [show wY c a=([],0,e) by unfold wY;rw [he,if_pos h0]]
   have d0:decide (e=0)=false:=decide_eq_false h0
   repeat' (first|(apply nx;with_reducible constructor)|refine uq (by decide) ?_|((first|refine vx env fun Q hQ=>?_|refine vz fun Q hQ=>?_);simp only [vkt,seval,zt,vD,qf,qc,qZ,qj,qz,qA,qG,qJ,qH,qF,mTk,qd,qa,qb,qw,qg,Zf,rhS,yt,yx,jI,wD,List.length_map,ec,ea,hc,hs2,ha,he,d0];(try simp only [ite_and]);(repeat' (first|with_reducible assumption|refine And.intro ?_ ?_|intro hp));all_goals (first|(refine hQ _ ?_;clear hQ Q)|(refine hQ _ (fun h=>?_) (fun h=>?_) <;> clear hQ Q <;> (try simp only [vki,reduceCtorEq] at h))|(refine vq ?_;kernel_rfl)|omega|assumption|with_reducible rfl|skip)))
   (simp only [vrt,Tryz.results28,vkt,seval,zt,vD,qf,qc,qZ,qj,qz,qA,qG,qJ,qH,qF,mTk,qd,qa,qb,qw,qg,Zf,rhS,yt,yx,jI,wD,List.length_map];refine Fin.val rfl ?_;(try simp only [AV.le,AV.leL]))
   all_goals first|rfl|(simp;done)
 obtain ⟨h0,h1,h2⟩:=hgo
 rw [h0] at he
 obtain ⟨hx1,hx2⟩:=QaT (yZ he).2
 have hx:a.sexes.length=1:=by omega
 have hV:=xR (yZ he).1
 have hsec:=hV.car.secs
 have hway:=JZ he
 have hO9:=QeP hV.car hx
 have hOl:=Vq c a
 have hone:=fun s h1 h2=>Qky (s:=s) he h1 h2
 have hA:wY c a=if (ji c a).any (·.isEmpty) then ([],0,11) else (xH (ji c a) ⟨-1,0⟩,(jA (ji c a) ⟨-1,0⟩).2 - 1,0):=by
  unfold wY
  rw [he,if_neg (fun h=>h rfl),if_neg (by omega),h2,if_neg (by decide)]
 have hK:ji c a=Qb c a (a.to - a.frm).toNat:=rfl
 have hWl:=Qab fun l hl=>(hO9 l hl).1
 have hW1:∀ p ∈ jU (ji c a),p.length≤5:=fun p hp=>by rw [X5 hp];omega
 have hWn:(ji c a).any (·.isEmpty)=true→jU (ji c a)=[]:=KZ
 have hWs:(ji c a).any (·.isEmpty)=false→0 < (jU (ji c a)).length∧(jU (ji c a)).getD (mnK inC (jU (ji c a)) [] (jU (ji c a)).length) []=xH (ji c a) ⟨-1,0⟩∧inC (xH (ji c a) ⟨-1,0⟩)=(jA (ji c a) ⟨-1,0⟩).2 - 1:=fun h=>by
  obtain ⟨g1,g2⟩:=Qfz h (fun l hl=>(hO9 l hl).2) (by intro h;rw [h] at hOl;simp at hOl;omega)
  have hp:0 < (jU (ji c a)).length:=by
   rcases Nat.eq_zero_or_pos (jU (ji c a)).length with h|h
   ·rw [List.eq_nil_of_length_eq_zero h] at g1;cases g1
   ·exact h
  have:=Qc0 (f:=inC) (l:=jU (ji c a)) (d:=[]) _ hp (Nat.le_refl _)
  rw [List.take_length,g1] at this
  exact ⟨hp,(Option.some.inj this).symm,g2⟩
 have hO5:(ji c a).length≤5:=by omega
 have hWfn:=QaK (ji c a) hO5 fun l hl=>(hO9 l hl).1
 have env:Env (fun _=>True) Tryz.prog tyB (tab [(53,qR true yt),(73,qR false yx),(74,qR false (jI (ji c a))),(75,qR true wD)]):=qL ⟨QfF,QgH,QiZ hWfn,LF,trivial⟩
 refine Fn.of (A:=fun _=>True) (n0:=0) (D:=noD) (Fn0 Tryz.func28 rfl (fun vs w=>by kernel_rfl) (by kernel_rfl)) (by simp) (by simp [AV.ids,AV.idsL,qa,qb,qw,qg]) (fun i o h=>by cases h) (fun _ _ _ _=>trivial) qI ?_
 have hWl2:(jU (ji c a)).length≤59049:=Nat.le_trans hWl (Nat.le_trans (Nat.pow_le_pow_right (by decide) hO5) (by decide))
 obtain ⟨W,hW⟩:∃ W,jU (ji c a)=W:=⟨_,rfl⟩
 rw [hW] at hWl2 hW1 hWn hWs
 clear hWfn hWl
 rw [hA]
 have d1:decide ((1:Int) < (a.sexes.length:Int))=false:=decide_eq_false (by omega)
 have ea:(⟨a.party,a.frm,a.to,a.sexes,false⟩:Ask)=a:=by rw [← h2]
 repeat' (first|(apply nx;with_reducible constructor)|refine uq (by decide) ?_|((first|refine vx env fun Q hQ=>?_|refine vz fun Q hQ=>?_);simp only [vkt,seval,zt,vD,qf,qc,qZ,qj,qz,qA,qG,qJ,qH,qF,mTk,qd,qa,qb,qw,qg,Zf,rhS,yt,yx,jI,wD,List.length_map,ec,ea,hc,hs2,ha,he,d1,h2,decide_true];(try simp only [ite_and]);(repeat' (first|with_reducible assumption|refine And.intro ?_ ?_));all_goals (first|(refine hQ _ ?_;clear hQ Q)|(refine hQ _ (fun h=>?_) (fun h=>?_) <;> clear hQ Q <;> (try simp only [vki,reduceCtorEq] at h))|(refine vq ?_;kernel_rfl)|omega|with_reducible assumption|with_reducible rfl|skip)))
 have hn0:∀ k,(Qb c a k).length=k:=Vn c a
 refine qQ (fun k:{ k:Nat // k≤(a.to - a.frm).toNat }=>Zf c a (Qb c a k.1) (a.frm+k.1)) (fun k=>(a.to - a.frm).toNat - k.1) ⟨0,Nat.zero_le _⟩ ?_ fun ⟨k,hk⟩=>?_
 ·simp only [Zf,show Qb c a 0=[] from rfl,show a.frm+((0:Nat):Int)=a.frm by omega]
  (refine Le.ok (fun i=>if i=2 then none else some i) [] ?_;constructor;all_goals (try simp only [vle,vkt,seval,zt,vD,qf,qc,qZ,qj,qz,qA,qG,qJ,qH,qF,mTk,qd,qa,qb,qw,qg,Zf,rhS,yt,yx,jI,wD,List.length_map]))
  all_goals first|rfl|(simp;done)|(intro i hi;rw [if_neg (by omega)];done)|(rw [h2];done)
 simp only at hk ⊢
 have hMl:=hn0 k
 have hS:=Xu c a k
 have hso:=hone (a.frm+k)
 obtain ⟨s,hsk⟩:∃ s,a.frm+(k:Int)=s:=⟨_,rfl⟩
 rw [hsk] at hS hso
 simp only [Zf,hsk]
 by_cases hkl:k < (a.to - a.frm).toNat
 ·have d2:decide (s < a.to)=true:=decide_eq_true (by omega)
  have e9:IntKind.wrap .i64 (s+1)=a.frm+((k+1:Nat):Int):=by rw [wrap64 (by omega) (by omega)];omega
  have hbo:=hso (by omega) (by omega)
  have s1:0≤s:=by omega
  have s2:s≤100:=by omega
  obtain ⟨M,hM⟩:∃ M,Qb c a k=M:=⟨_,rfl⟩
  rw [hM] at hMl hS
  have hm:M.length+1≤maxLen:=by omega
  simp only [hM]
  repeat' (first|(apply nx;with_reducible constructor)|refine uq (by decide) ?_|((first|refine vx env fun Q hQ=>?_|refine vz fun Q hQ=>?_);simp only [vkt,seval,zt,vD,qf,qc,qZ,qj,qz,qA,qG,qJ,qH,qF,mTk,qd,qa,qb,qw,qg,Zf,rhS,yt,yx,jI,wD,List.length_map,ec,ea,d2,hbo,s1,s2,hm,e9];(try simp only [ite_and]);(repeat' (first|with_reducible assumption|refine And.intro ?_ ?_|intro hp));all_goals (first|(refine hQ _ ?_;clear hQ Q)|(refine hQ _ (fun h=>?_) (fun h=>?_) <;> clear hQ Q <;> (try simp only [vki,reduceCtorEq] at h))|(refine vq ?_;kernel_rfl)|omega|assumption|with_reducible rfl|skip)))
  refine ⟨⟨k+1,hkl⟩,by show (a.to - a.frm).toNat - (k+1) < (a.to - a.frm).toNat - k;omega, ?_⟩
  simp only [Zf,hS]
  (refine Le.ok (fun i=>if i=2 then some 4 else some i) [] ?_;constructor;all_goals (try simp only [vle,vkt,seval,zt,vD,qf,qc,qZ,qj,qz,qA,qG,qJ,qH,qF,mTk,qd,qa,qb,qw,qg,Zf,rhS,yt,yx,jI,wD,List.length_map]))
  all_goals first|rfl|(rw [List.map_append];rfl)|(simp;done)|(intro i hi;rw [if_neg (by omega)];done)
 ·have d2:decide (s < a.to)=false:=decide_eq_false (by omega)
  obtain rfl:k=(a.to - a.frm).toNat:=by omega
  simp only [← hK]
  cases hq:(ji c a).any (·.isEmpty) with
  |true =>
   rw [if_pos rfl]
   have hWn:=hWn hq
   subst hWn
   repeat' (first|(apply nx;with_reducible constructor)|refine uq (by decide) ?_|((first|refine vx env fun Q hQ=>?_|refine vz fun Q hQ=>?_);simp only [vkt,seval,zt,vD,qf,qc,qZ,qj,qz,qA,qG,qJ,qH,qF,mTk,qd,qa,qb,qw,qg,Zf,rhS,yt,yx,jI,wD,List.length_map,d2,hW,List.length_nil,decide_true];(try simp only [ite_and]);(repeat' (first|with_reducible assumption|refine And.intro ?_ ?_|intro hp));all_goals (first|(refine hQ _ ?_;clear hQ Q)|(refine hQ _ (fun h=>?_) (fun h=>?_) <;> clear hQ Q <;> (try simp only [vki,reduceCtorEq] at h))|(refine vq ?_;kernel_rfl)|omega|assumption|with_reducible rfl|skip)))
   (simp only [vrt,Tryz.results28,vkt,seval,zt,vD,qf,qc,qZ,qj,qz,qA,qG,qJ,qH,qF,mTk,qd,qa,qb,qw,qg,Zf,rhS,yt,yx,jI,wD,List.length_map];refine Fin.val rfl ?_;(try simp only [AV.le,AV.leL]))
   all_goals first|rfl|(simp;done)
  |false =>
   rw [if_neg (by decide)]
   obtain ⟨hp0,g1,g2⟩:=hWs hq
   have d3:decide ((W.length:Int)=0)=false:=decide_eq_false (by omega)
   obtain ⟨wk,hwk⟩:∃ w,xH (ji c a) ⟨-1,0⟩=w:=⟨_,rfl⟩
   rw [hwk] at g1 g2
   rw [hwk,← g2]
   repeat' (first|(apply nx;with_reducible constructor)|refine uq (by decide) ?_|((first|refine vx env fun Q hQ=>?_|refine vz fun Q hQ=>?_);simp only [vkt,seval,zt,vD,qf,qc,qZ,qj,qz,qA,qG,qJ,qH,qF,mTk,qd,qa,qb,qw,qg,Zf,rhS,yt,yx,jI,wD,List.length_map,d2,hW,d3];(try simp only [ite_and]);(repeat' (first|with_reducible assumption|refine And.intro ?_ ?_|intro hp));all_goals (first|(refine hQ _ ?_;clear hQ Q)|(refine hQ _ (fun h=>?_) (fun h=>?_) <;> clear hQ Q <;> (try simp only [vki,reduceCtorEq] at h))|(refine vq ?_;kernel_rfl)|omega|assumption|with_reducible rfl|skip)))
   refine qQ (fun i:{ i:Nat // i≤W.length }=>rhS W (mnK inC W [] i.1) i.1) (fun i=>W.length - i.1) ⟨0,Nat.zero_le _⟩ ?_ fun ⟨i,hi⟩=>?_
   ·simp only [rhS,show mnK inC W [] 0=0 from rfl]
    (refine Le.ok (fun _=>none) [] ?_;constructor;all_goals (try simp only [vle,vkt,seval,zt,vD,qf,qc,qZ,qj,qz,qA,qG,qJ,qH,qF,mTk,qd,qa,qb,qw,qg,Zf,rhS,yt,yx,jI,wD,List.length_map]))
    all_goals first|rfl|(simp;done)
   simp only at hi ⊢
   have hKl:=Qe6 (f:=inC) (d:=[]) hp0 i hi
   have hS2:mnK inC W [] (i+1)=if inC (W.getD i []) < inC (W.getD (mnK inC W [] i) []) then i else mnK inC W [] i:=rfl
   by_cases hil:i < W.length
   ·obtain ⟨K,hKe⟩:∃ K,mnK inC W [] i=K:=⟨_,rfl⟩
    rw [hKe] at hKl hS2
    simp only [rhS,hKe]
    have d4:decide ((i:Int) < (W.length:Int))=true:=decide_eq_true (by omega)
    have e8:IntKind.wrap .i64 ((i:Int)+1)=((i+1:Nat):Int):=by rw [wrap64 (by omega) (by omega)];rfl
    have i0:((i:Int)).toNat=i:=rfl
    have k0:((K:Int)).toNat=K:=rfl
    have hg:=Wx hil
    have hgK:=Wx hKl
    have hpl:=hW1 _ (vG (d:=[]) hil)
    have hql:=hW1 _ (vG (d:=[]) hKl)
    obtain ⟨p,hp⟩:∃ p,W.getD i []=p:=⟨_,rfl⟩
    obtain ⟨q,hqe⟩:∃ p,W.getD K []=p:=⟨_,rfl⟩
    rw [hp] at hg hpl hS2
    rw [hqe] at hgK hql hS2
    have p1:p.length≤1000:=by omega
    have p2:q.length≤1000:=by omega
    have p3:p.length≤maxLen:=by omega
    have p4:q.length≤maxLen:=by omega
    by_cases hlt:inC p < inC q
    ·have d5:decide (inC p < inC q)=true:=decide_eq_true hlt
     rw [if_pos hlt] at hS2
     repeat' (first|(apply nx;with_reducible constructor)|refine uq (by decide) ?_|((first|refine vx env fun Q hQ=>?_|refine vz fun Q hQ=>?_);simp only [vkt,seval,zt,vD,qf,qc,qZ,qj,qz,qA,qG,qJ,qH,qF,mTk,qd,qa,qb,qw,qg,Zf,rhS,yt,yx,jI,wD,List.length_map,d4,e8,i0,k0,hil,hKl,hg,hgK,hp,hqe,p1,p2,p3,p4,d5];(try simp only [ite_and]);(repeat' (first|with_reducible assumption|refine And.intro ?_ ?_|intro hp));all_goals (first|(refine hQ _ ?_;clear hQ Q)|(refine hQ _ (fun h=>?_) (fun h=>?_) <;> clear hQ Q <;> (try simp only [vki,reduceCtorEq] at h))|(refine vq ?_;kernel_rfl)|omega|assumption|with_reducible rfl|skip)))
     refine ⟨⟨i+1,hil⟩,by show W.length - (i+1) < W.length - i;omega, ?_⟩
     simp only [rhS,hS2]
     (refine Le.ok some [] ?_;constructor;all_goals (try simp only [vle,vkt,seval,zt,vD,qf,qc,qZ,qj,qz,qA,qG,qJ,qH,qF,mTk,qd,qa,qb,qw,qg,Zf,rhS,yt,yx,jI,wD,List.length_map]))
     all_goals first|rfl|(simp;done)
    ·have d5:decide (inC p < inC q)=false:=decide_eq_false hlt
     rw [if_neg hlt] at hS2
     repeat' (first|(apply nx;with_reducible constructor)|refine uq (by decide) ?_|((first|refine vx env fun Q hQ=>?_|refine vz fun Q hQ=>?_);simp only [vkt,seval,zt,vD,qf,qc,qZ,qj,qz,qA,qG,qJ,qH,qF,mTk,qd,qa,qb,qw,qg,Zf,rhS,yt,yx,jI,wD,List.length_map,d4,e8,i0,k0,hil,hKl,hg,hgK,hp,hqe,p1,p2,p3,p4,d5];(try simp only [ite_and]);(repeat' (first|with_reducible assumption|refine And.intro ?_ ?_|intro hp));all_goals (first|(refine hQ _ ?_;clear hQ Q)|(refine hQ _ (fun h=>?_) (fun h=>?_) <;> clear hQ Q <;> (try simp only [vki,reduceCtorEq] at h))|(refine vq ?_;kernel_rfl)|omega|assumption|with_reducible rfl|skip)))
     refine ⟨⟨i+1,hil⟩,by show W.length - (i+1) < W.length - i;omega, ?_⟩
     simp only [rhS,hS2]
     (refine Le.ok some [] ?_;constructor;all_goals (try simp only [vle,vkt,seval,zt,vD,qf,qc,qZ,qj,qz,qA,qG,qJ,qH,qF,mTk,qd,qa,qb,qw,qg,Zf,rhS,yt,yx,jI,wD,List.length_map]))
     all_goals first|rfl|(simp;done)
   ·have d4:decide ((i:Int) < (W.length:Int))=false:=decide_eq_false (by omega)
    obtain rfl:i=W.length:=by omega
    obtain ⟨K,hKe⟩:∃ K,mnK inC W [] W.length=K:=⟨_,rfl⟩
    rw [hKe] at hKl g1
    simp only [rhS,hKe]
    have k0:((K:Int)).toNat=K:=rfl
    have hgK:=Wx hKl
    have hql:=hW1 _ (vG (d:=[]) hKl)
    rw [g1] at hgK hql
    have p2:wk.length≤1000:=by omega
    have p4:wk.length≤maxLen:=by omega
    repeat' (first|(apply nx;with_reducible constructor)|refine uq (by decide) ?_|((first|refine vx env fun Q hQ=>?_|refine vz fun Q hQ=>?_);simp only [vkt,seval,zt,vD,qf,qc,qZ,qj,qz,qA,qG,qJ,qH,qF,mTk,qd,qa,qb,qw,qg,Zf,rhS,yt,yx,jI,wD,List.length_map,d4,k0,hKl,hgK,g1,p2,p4];(try simp only [ite_and]);(repeat' (first|with_reducible assumption|refine And.intro ?_ ?_|intro hp));all_goals (first|(refine hQ _ ?_;clear hQ Q)|(refine hQ _ (fun h=>?_) (fun h=>?_) <;> clear hQ Q <;> (try simp only [vki,reduceCtorEq] at h))|(refine vq ?_;kernel_rfl)|omega|assumption|with_reducible rfl|skip)))
    (simp only [vrt,Tryz.results28,vkt,seval,zt,vD,qf,qc,qZ,qj,qz,qA,qG,qJ,qH,qF,mTk,qd,qa,qb,qw,qg,Zf,rhS,yt,yx,jI,wD,List.length_map];refine Fin.val rfl ?_;(try simp only [AV.le,AV.leL]))
    all_goals first|rfl|(simp;done)
def zY:List AV→Prop × AV
 |[.agg [.sl c0,.v (.int .i64 c1),.sl c2],.agg [.v (.int .i64 a0),.v (.int .i64 a1),.v (.int .i64 a2),.sl a3,.v (.bool a4)]]=>(c0=(c0.map qx).map qh∧c2=(c2.map dTk).map eTk∧a3=(a3.map zf).map zG∧((⟨(c0.map qx),c1,(c2.map dTk)⟩:Chart)).cabins.length≤maxLen∧((⟨(c0.map qx),c1,(c2.map dTk)⟩:Chart)).sold.length≤20∧((⟨a0,a1,a2,(a3.map zf),a4⟩:Ask)).sexes.length≤maxLen,.tup [qc (wY ((⟨(c0.map qx),c1,(c2.map dTk)⟩:Chart)) ((⟨a0,a1,a2,(a3.map zf),a4⟩:Ask))).1,aI (wY ((⟨(c0.map qx),c1,(c2.map dTk)⟩:Chart)) ((⟨a0,a1,a2,(a3.map zf),a4⟩:Ask))).2.1,aI (wY ((⟨(c0.map qx),c1,(c2.map dTk)⟩:Chart)) ((⟨a0,a1,a2,(a3.map zf),a4⟩:Ask))).2.2])
 |_=>(False,.junk)
theorem QgW {A:Frm→Prop}:qE A Tryz.prog 28 (qR false zY):=qV fun vs hv h=>by
 clear hv
 unfold zY at h ⊢
 split at h
 ·rename_i c0 c1 c2 a0 a1 a2 a3 a4;obtain ⟨q0,q1,q2,k0,k1,k2⟩:=h
  refine ⟨by first|trivial|(simp [AV.plain,AV.plainL,aI,aB,qB,qc,qo,qf,aTk,cTk];done)|(repeat' split) <;> simp [AV.plain,AV.plainL,aI,aB,qB,qc,qo,qf,aTk,cTk],fun h=>absurd h (by decide), ?_⟩
  have:=Qch ((⟨(c0.map qx),c1,(c2.map dTk)⟩:Chart)) ((⟨a0,a1,a2,(a3.map zf),a4⟩:Ask)) k0 k1 k2
  simp only [qw,aB,qW,qa,aI,qB,qo,qg,qb,← q0,← q1,← q2] at this
  first|exact this|(simp only [qw,aB,qW,qa,aI,qB,qo,qg,qb,← q0,← q1,← q2];exact this)
 ·exact h.elim
end Go.Sym.B
namespace Go.Sym.B
open Go Go.Sym Go.Proofs Go.RowKit
def spI:Sp:=.int .i64
def spB:Sp:=.bool
theorem Qjh (r:List DV) (h:r.length=1) (hs:∀ (j:Nat) (s:Sp) (d:DV),[spI][j]?=some s→r[j]?=some d→D1 s d):∃ a,r=zG a:=by
 obtain ⟨d,rfl⟩:=List.length_eq_one_iff.1 h
 obtain ⟨n,rfl,_⟩:=(hs 0 spI d rfl rfl).int_inv
 exact ⟨n,rfl⟩
theorem Qkg (r:List DV) (h:r.length=2) (hs:∀ (j:Nat) (s:Sp) (d:DV),[spI,spB][j]?=some s→r[j]?=some d→D1 s d):∃ a,r=qh a:=by
 match r,h with
 |[a,b],_ =>
  obtain ⟨n,rfl,_⟩:=(hs 0 spI a rfl rfl).int_inv
  obtain ⟨m,rfl⟩:=(hs 1 spB b rfl rfl).bool_inv
  exact ⟨⟨n,m⟩,rfl⟩
theorem eT_of (r:List DV) (h:r.length=7) (hs:∀ (j:Nat) (s:Sp) (d:DV),[spI,spI,spI,spI,spI,spI,spB][j]?=some s→r[j]?=some d→D1 s d):∃ a,r=eTk a:=by
 match r,h with
 |[a,b,c,d,e,f,g],_ =>
  obtain ⟨n1,rfl,_⟩:=(hs 0 spI a rfl rfl).int_inv
  obtain ⟨n2,rfl,_⟩:=(hs 1 spI b rfl rfl).int_inv
  obtain ⟨n3,rfl,_⟩:=(hs 2 spI c rfl rfl).int_inv
  obtain ⟨n4,rfl,_⟩:=(hs 3 spI d rfl rfl).int_inv
  obtain ⟨n5,rfl,_⟩:=(hs 4 spI e rfl rfl).int_inv
  obtain ⟨n6,rfl,_⟩:=(hs 5 spI f rfl rfl).int_inv
  obtain ⟨n7,rfl⟩:=(hs 6 spB g rfl rfl).bool_inv
  exact ⟨⟨n1,n2,n3,n4,n5,n6,n7⟩,rfl⟩
def spC:List Sp:=[.sl [spI,spB],spI,.sl [spI,spI,spI,spI,spI,spI,spB]]
def spA:List Sp:=[spI,spI,spI,.sl [spI],spB]
theorem flI:Fl Tryz.prog 3 [spI]:=Zm (n:=6) (by kernel_rfl)
theorem flN:Fl Tryz.prog 26 [.sl [spI]]:=Zm (n:=6) (by kernel_rfl)
theorem flC:Fl Tryz.prog 25 spC:=Zm (n:=6) (by kernel_rfl)
theorem flA:Fl Tryz.prog 28 spA:=Zm (n:=6) (by kernel_rfl)
variable {H : Type} {enc : TypeId × Value → H} {W : World} {base : Nat} {spare : Nat → Bool} {held : Bool}
theorem QhJ {fuel:Nat} {v:Value} {x:DataW H × List MemPlace} (h:DataW.trod enc Tryz.prog W base spare held fuel 3 [v]=some x):∃ n,ARel W (okW W) Xa undef (aI n) v:=by
 obtain ⟨ds,hd⟩:=JX flI h
 obtain ⟨d,rfl,h1,h2⟩:=hd.one_inv
 obtain ⟨n,rfl,_⟩:=h1.int_inv
 exact ⟨n,XC h2⟩
theorem Qfe {fuel:Nat} {v:Value} {x:DataW H × List MemPlace} (h:DataW.trod enc Tryz.prog W base spare held fuel 26 [v]=some x):∃ l:List Int,ARel W (okW W) Xa undef (qB l) v∧l.length≤maxLen:=by
 obtain ⟨ds,hd⟩:=JX flN h
 obtain ⟨d,rfl,h1,h2⟩:=hd.one_inv
 obtain ⟨l,rfl,hl⟩:=h1.sl_inv zG Qjh
 exact ⟨l,XC h2,hl⟩
theorem QdC {fuel:Nat} {cs:Array Value} {x:DataW H × List MemPlace} (h:DataW.trod enc Tryz.prog W base spare held fuel 25 cs.toList=some x):∃ l:Chart,ARel W (okW W) Xa undef (qa l) (.agg cs):=by
 obtain ⟨ds,hd⟩:=JX flC h
 match ds,hd with
 |[a,b,c],hd =>
  obtain ⟨l1,rfl,_⟩:=(hd.shape 0 _ a rfl rfl).sl_inv qh Qkg
  obtain ⟨n,rfl,_⟩:=(hd.shape 1 _ b rfl rfl).int_inv
  obtain ⟨l3,rfl,_⟩:=(hd.shape 2 _ c rfl rfl).sl_inv eTk eT_of
  exact ⟨⟨l1,n,l3⟩,hd.agg⟩
 |[],hd=>exact absurd hd.len (by simp [spC])
 |[_],hd=>exact absurd hd.len (by simp [spC])
 |[_,_],hd=>exact absurd hd.len (by simp [spC])
 |_ :: _ :: _ :: _ :: _,hd=>exact absurd hd.len (by simp [spC])
theorem QhQ {fuel:Nat} {cs:Array Value} {x:DataW H × List MemPlace} (h:DataW.trod enc Tryz.prog W base spare held fuel 28 cs.toList=some x):∃ l:Ask,ARel W (okW W) Xa undef (qw l) (.agg cs)∧l.sexes.length≤maxLen:=by
 obtain ⟨ds,hd⟩:=JX flA h
 match ds,hd with
 |[a,b,c,d,e],hd =>
  obtain ⟨n1,rfl,_⟩:=(hd.shape 0 _ a rfl rfl).int_inv
  obtain ⟨n2,rfl,_⟩:=(hd.shape 1 _ b rfl rfl).int_inv
  obtain ⟨n3,rfl,_⟩:=(hd.shape 2 _ c rfl rfl).int_inv
  obtain ⟨l3,rfl,hl⟩:=(hd.shape 3 _ d rfl rfl).sl_inv zG Qjh
  obtain ⟨n5,rfl⟩:=(hd.shape 4 _ e rfl rfl).bool_inv
  exact ⟨⟨n1,n2,n3,l3,n5⟩,hd.agg,hl⟩
 |[],hd=>exact absurd hd.len (by simp [spA])
 |[_],hd=>exact absurd hd.len (by simp [spA])
 |[_,_],hd=>exact absurd hd.len (by simp [spA])
 |[_,_,_],hd=>exact absurd hd.len (by simp [spA])
 |[_,_,_,_],hd=>exact absurd hd.len (by simp [spA])
 |_ :: _ :: _ :: _ :: _ :: _ :: _,hd=>exact absurd hd.len (by simp [spA])
theorem Rt {v:Value} (h:v.cells.toList.length ≠ 1):∃ cs,v=.agg cs:=by
 cases v <;> first|exact ⟨_,rfl⟩|(simp [Value.cells] at h)
theorem chart_of {v:Value} {d:DataW H} {p:List MemPlace} (h:DataW.Trod enc Tryz.prog W base spare held 25 v d p):∃ l:Chart,ARel W (okW W) Xa undef (qa l) v:=by
 obtain ⟨fuel,hf⟩:=h
 obtain ⟨ds,hd⟩:=JX flC hf
 obtain ⟨cs,rfl⟩:=Rt (v:=v) (by rw [hd.clen];simp [spC])
 exact QdC hf
theorem ask_of {v:Value} {d:DataW H} {p:List MemPlace} (h:DataW.Trod enc Tryz.prog W base spare held 28 v d p):∃ l:Ask,ARel W (okW W) Xa undef (qw l) v∧l.sexes.length≤maxLen:=by
 obtain ⟨fuel,hf⟩:=h
 obtain ⟨ds,hd⟩:=JX flA hf
 obtain ⟨cs,rfl⟩:=Rt (v:=v) (by rw [hd.clen];simp [spA])
 exact QhQ hf
set_option maxRecDepth 100000 in
theorem int_of {v:Value} {d:DataW H} {p:List MemPlace} {r:Reach} {b0:Nat} (h:DataW.Trod enc Tryz.prog W base spare held 3 v d p) (hu:Tryz.prog.underlying 3=some (.int .i64)) (hv:Value.okWide Tryz.prog W r b0 3 v):∃ n:Int,ARel W (okW W) Xa undef (aI n) v:=by
 obtain ⟨fuel,hf⟩:=h
 obtain ⟨n,rfl⟩:=WideShapes.okWide_int hu hv
 exact QhJ hf
set_option maxRecDepth 100000 in
theorem ints_of {v:Value} {d:DataW H} {p:List MemPlace} {r:Reach} {b0:Nat} (h:DataW.Trod enc Tryz.prog W base spare held 26 v d p) (hu:Tryz.prog.underlying 26=some (.slice 3)) (hv:Value.okWide Tryz.prog W r b0 26 v):∃ l:List Int,ARel W (okW W) Xa undef (qB l) v∧l.length≤maxLen:=by
 obtain ⟨fuel,hf⟩:=h
 obtain ⟨a,n,c,rfl⟩:=WideShapes.okWide_slice hu hv
 exact Qfe hf
end Go.Sym.B
namespace Go.Sym.B
open Go Go.Sym Go.Proofs Go.Sym.C
def jZ:List AV→Prop × AV
 |[.agg [.sl x0,.v (.int .i64 x1),.sl x2],.v (.int .i64 a),.v (.int .i64 b),.v (.int .i64 d)]=>(x0=(x0.map qx).map qh∧x2=(x2.map dTk).map eTk∧((⟨(x0.map qx),x1,(x2.map dTk)⟩:Chart)).cabins.length≤maxLen,.tup [aI (vX ((⟨(x0.map qx),x1,(x2.map dTk)⟩:Chart)) a b d).1,aI (vX ((⟨(x0.map qx),x1,(x2.map dTk)⟩:Chart)) a b d).2])
 |_=>(False,.junk)
theorem Qke {A:Frm→Prop}:qE A Tryz.prog 29 (qR false jZ):=qV fun vs hv h=>by
 clear hv
 unfold jZ at h ⊢
 split at h
 ·rename_i x0 x1 x2 a b d;obtain ⟨q0,q1,k0⟩:=h
  refine ⟨by first|trivial|(simp [AV.plain,AV.plainL,aI,aB,qB,qc,qo,qf,aTk,cTk];done)|(repeat' split) <;> simp [AV.plain,AV.plainL,aI,aB,qB,qc,qo,qf,aTk,cTk],fun h=>absurd h (by decide), ?_⟩
  have:=QiL ((⟨(x0.map qx),x1,(x2.map dTk)⟩:Chart)) a b d k0
  simp only [qW,qa,aI,qo,qb,← q0,← q1] at this
  first|exact this|(simp only [qW,qa,aI,qo,qb,← q0,← q1];exact this)
 ·exact h.elim
theorem QeD (c:Chart) (a:Ask):(wY c a).1.length≤5:=by
 unfold wY
 split
 ·simp
 rename_i h
 split
 ·simp
 split
 ·simp
 split
 ·simp
 ·show (xH (ji c a) ⟨-1,0⟩).length≤5
  have h0:=Decidable.not_not.1 h
  have:=JZ h0
  have:=(xR (yZ h0).1).car.secs
  rw [Rn,Vq];omega
def QJ (c C:Chart) (a:Ask) (sx f t:Int) (A:Ask) (q:Bool):St:={ t:=asg [(2,aI sx),(3,aI f),(4,aI t),(6,.ptr 0 0),(7,.ptr 1 0),(14,.ptr 3 0),(15,.ptr 4 0)],h:=ql [(0,.cells (qb c)),(1,.cells (qg a)),(3,.cells (qb C)),(4,.cells [aI A.party,aI A.frm,aI A.to,.sl (A.sexes.map zG),aB q])],n:=5 }
def lcS (CL:List Chart) (AL:List Ask) (SL FL TL:List Int) (i:Nat):St:={ t:=asg [(16,.row 9),(17,.row 10),(18,.row 11),(19,.row 12),(20,.row 13),(21,aI i)],h:=ql [(9,.row 25 3 (CL.map jG)),(10,.row 28 5 (AL.map Qx)),(11,.row 3 1 (SL.map zG)),(12,.row 3 1 (FL.map zG)),(13,.row 3 1 (TL.map zG))],n:=14 }
def wM:=vj @ty3 (vj @ty4 (vj @yj (vj @QT (vj @QQ (vj @ty34 (vj @ty37 (vj @Zj (vj @ti3.eq_1 (vj @ti4.eq_1 (vj @jP.eq_1 (vj @Qg.eq_1 (vj @kX.eq_1 (vj @ti34.eq_1 (vj @ti37.eq_1 @Qy.eq_1))))))))))))))
def yQ:=vj @aI.eq_1 (vj @aB.eq_1 (vj @qB.eq_1 (vj @zG.eq_1 (vj @Kr (vj @Qau (@Q5))))))
set_option maxRecDepth 100000 in
set_option maxHeartbeats 40000000 in
theorem changesLaw_fn (c:Chart) (a:Ask) (sx f t:Int) (nums:List Int) (hnums:nums.length≤maxLen):FnV Tryz.prog 5 [qa c,qw a,aI sx,aI f,aI t,qB nums] (aB true):=by
 have env:Env (fun _=>True) Tryz.prog tyB (tab [(8,qR true j3),(10,fnE Zb),(26,fnE qY),(11,fnE zX),(12,fnE wo),(14,qR false yc),(15,qR false yg),(27,qR false zo),(28,qR false zY),(29,qR false jZ),(30,qR true j4),(20,qR true seqB),(21,qR true Q3),(22,qR true Q4),(9,qR true zZ)]):=qL ⟨Qjz,eBag,UB,QgD,Qfu,QjT,QjU,Qaz,QgW,Qke,Qkq,eeqB,eeqC,eeqA,Qfa,trivial⟩
 refine Fn.of (A:=fun _=>True) (n0:=0) (D:=noD) (Fn0 Tryz.func5 rfl (fun vs w=>by kernel_rfl) (by kernel_rfl)) (by simp) (by simp [AV.ids,AV.idsL,aI,qB,qa,qb,qw,qg]) (fun i o h=>by cases h) (fun _ _ _ _=>trivial) qI ?_
 cases q0:decide (20 < (c.cabins.length:Int)) with
 |true =>
  repeat' (first|(apply nx;with_reducible constructor)|refine uq (by decide) ?_|((first|refine vx env fun Q hQ=>?_|refine vz fun Q hQ=>?_);simp only [vkt,seval,wM,yQ,qf,qc,qj,qF,qh,eTk,jG,Qx,yM,ZL,rTk,zq,mTk,qd,qa,qb,qw,qg,QJ,lcS,j3,Zb,qY,zX,wo,yc,yg,zo,zY,jZ,j4,seqB,Q3,Q4,zZ,List.length_map,q0,Bool.true_or];(try simp only [ite_and]);(repeat' (first|with_reducible assumption|refine And.intro ?_ ?_|intro hp));all_goals (first|(refine hQ _ ?_;clear hQ Q)|(refine hQ _ (fun h=>?_) (fun h=>?_) <;> clear hQ Q <;> (try simp only [vki,reduceCtorEq] at h))|(refine vq ?_;kernel_rfl)|omega|assumption|with_reducible rfl|skip)))
  (simp only [vrt,Tryz.results5,vkt,seval,wM,yQ,qf,qc,qj,qF,qh,eTk,jG,Qx,yM,ZL,rTk,zq,mTk,qd,qa,qb,qw,qg,QJ,lcS,j3,Zb,qY,zX,wo,yc,yg,zo,zY,jZ,j4,seqB,Q3,Q4,zZ,List.length_map];refine Fin.val rfl ?_;(try simp only [AV.le,AV.leL]))
  all_goals first|rfl|(simp;done)
 |false =>
 cases q1:decide (20 < (c.sold.length:Int)) with
 |true =>
  repeat' (first|(apply nx;with_reducible constructor)|refine uq (by decide) ?_|((first|refine vx env fun Q hQ=>?_|refine vz fun Q hQ=>?_);simp only [vkt,seval,wM,yQ,qf,qc,qj,qF,qh,eTk,jG,Qx,yM,ZL,rTk,zq,mTk,qd,qa,qb,qw,qg,QJ,lcS,j3,Zb,qY,zX,wo,yc,yg,zo,zY,jZ,j4,seqB,Q3,Q4,zZ,List.length_map,q0,q1,Bool.false_or];(try simp only [ite_and]);(repeat' (first|with_reducible assumption|refine And.intro ?_ ?_|intro hp));all_goals (first|(refine hQ _ ?_;clear hQ Q)|(refine hQ _ (fun h=>?_) (fun h=>?_) <;> clear hQ Q <;> (try simp only [vki,reduceCtorEq] at h))|(refine vq ?_;kernel_rfl)|omega|assumption|with_reducible rfl|skip)))
  (simp only [vrt,Tryz.results5,vkt,seval,wM,yQ,qf,qc,qj,qF,qh,eTk,jG,Qx,yM,ZL,rTk,zq,mTk,qd,qa,qb,qw,qg,QJ,lcS,j3,Zb,qY,zX,wo,yc,yg,zo,zY,jZ,j4,seqB,Q3,Q4,zZ,List.length_map];refine Fin.val rfl ?_;(try simp only [AV.le,AV.leL]))
  all_goals first|rfl|(simp;done)
 |false =>
 cases q2:decide (20 < (a.sexes.length:Int)) with
 |true =>
  repeat' (first|(apply nx;with_reducible constructor)|refine uq (by decide) ?_|((first|refine vx env fun Q hQ=>?_|refine vz fun Q hQ=>?_);simp only [vkt,seval,wM,yQ,qf,qc,qj,qF,qh,eTk,jG,Qx,yM,ZL,rTk,zq,mTk,qd,qa,qb,qw,qg,QJ,lcS,j3,Zb,qY,zX,wo,yc,yg,zo,zY,jZ,j4,seqB,Q3,Q4,zZ,List.length_map,q0,q1,q2,Bool.false_or];(try simp only [ite_and]);(repeat' (first|with_reducible assumption|refine And.intro ?_ ?_|intro hp));all_goals (first|(refine hQ _ ?_;clear hQ Q)|(refine hQ _ (fun h=>?_) (fun h=>?_) <;> clear hQ Q <;> (try simp only [vki,reduceCtorEq] at h))|(refine vq ?_;kernel_rfl)|omega|assumption|with_reducible rfl|skip)))
  (simp only [vrt,Tryz.results5,vkt,seval,wM,yQ,qf,qc,qj,qF,qh,eTk,jG,Qx,yM,ZL,rTk,zq,mTk,qd,qa,qb,qw,qg,QJ,lcS,j3,Zb,qY,zX,wo,yc,yg,zo,zY,jZ,j4,seqB,Q3,Q4,zZ,List.length_map];refine Fin.val rfl ?_;(try simp only [AV.le,AV.leL]))
  all_goals first|rfl|(simp;done)
 |false =>
 have g0:=of_decide_eq_false q0
 have g1:=of_decide_eq_false q1
 have g2:=of_decide_eq_false q2
 obtain ⟨x0,hx0⟩:∃ x,nbS nums=x:=⟨_,rfl⟩
 obtain ⟨hC0,hCp,hCs,hCc,hCg⟩:=co_ok (x:=x0) (a:=2) (g:=4) (s:=8) (by decide) (by decide) (by decide)
 obtain ⟨C,hC⟩:∃ C,coC x0 2 4 8=C:=⟨_,rfl⟩
 obtain ⟨x1,hx1⟩:∃ x,coX x0 2 4 8=x:=⟨_,rfl⟩
 rw [hC] at hC0 hCp hCs hCc hCg
 obtain ⟨hA0,hA1,hA2⟩:=ao_ok (x:=x1) (n:=1) hC0 hCp (by decide)
 obtain ⟨A,hA⟩:∃ A,aoA x1 C.secs 1=A:=⟨_,rfl⟩
 obtain ⟨x2,hx2⟩:∃ x,aoX x1 C.secs 1=x:=⟨_,rfl⟩
 rw [hA] at hA0 hA1 hA2
 have hsec:=(xR hC0).car.secs
 have h31:(3:Int) - 1=2:=rfl
 have hmx:(100000:Nat)≤maxLen:=by decide
 have c1:C.cabins.length≤maxLen:=by omega
 have c2:C.sold.length≤maxLen:=by omega
 have c3:c.cabins.length≤maxLen:=by omega
 have c4:c.sold.length≤maxLen:=by omega
 have c5:a.sexes.length≤maxLen:=by omega
 have c6:A.sexes.length≤maxLen:=by omega
 have eC:(⟨C.cabins,C.secs,C.sold⟩:Chart)=C:=rfl
 repeat' (first|(apply nx;with_reducible constructor)|refine uq (by decide) ?_)
 ((first|refine vx env fun Q hQ=>?_|refine vz fun Q hQ=>?_);simp only [vkt,seval,wM,yQ,qf,qc,qj,qF,qh,eTk,jG,Qx,yM,ZL,rTk,zq,mTk,qd,qa,qb,qw,qg,QJ,lcS,j3,Zb,qY,zX,wo,yc,yg,zo,zY,jZ,j4,seqB,Q3,Q4,zZ,List.length_map];(try simp only [ite_and]);(repeat' (first|with_reducible assumption|refine And.intro ?_ ?_|intro hp));all_goals (first|(refine hQ _ ?_;clear hQ Q)|(refine hQ _ (fun h=>?_) (fun h=>?_) <;> clear hQ Q <;> (try simp only [vki,reduceCtorEq] at h))|(refine vq ?_;kernel_rfl)|omega|assumption|with_reducible rfl|skip))
 repeat' (first|(apply nx;with_reducible constructor)|refine uq (by decide) ?_)
 ((first|refine vx env fun Q hQ=>?_|refine vz fun Q hQ=>?_);simp only [vkt,seval,wM,yQ,qf,qc,qj,qF,qh,eTk,jG,Qx,yM,ZL,rTk,zq,mTk,qd,qa,qb,qw,qg,QJ,lcS,j3,Zb,qY,zX,wo,yc,yg,zo,zY,jZ,j4,seqB,Q3,Q4,zZ,List.length_map,q0,q1,q2,Bool.false_or];(try simp only [ite_and]);(repeat' (first|with_reducible assumption|refine And.intro ?_ ?_|intro hp));all_goals (first|(refine hQ _ ?_;clear hQ Q)|(refine hQ _ (fun h=>?_) (fun h=>?_) <;> clear hQ Q <;> (try simp only [vki,reduceCtorEq] at h))|(refine vq ?_;kernel_rfl)|omega|assumption|with_reducible rfl|skip))
 repeat' (first|(apply nx;with_reducible constructor)|refine uq (by decide) ?_)
 ((first|refine vx env fun Q hQ=>?_|refine vz fun Q hQ=>?_);simp only [vkt,seval,wM,yQ,qf,qc,qj,qF,qh,eTk,jG,Qx,yM,ZL,rTk,zq,mTk,qd,qa,qb,qw,qg,QJ,lcS,j3,Zb,qY,zX,wo,yc,yg,zo,zY,jZ,j4,seqB,Q3,Q4,zZ,List.length_map];(try simp only [ite_and]);(repeat' (first|with_reducible assumption|refine And.intro ?_ ?_|intro hp));all_goals (first|(refine hQ _ ?_;clear hQ Q)|(refine hQ _ (fun h=>?_) (fun h=>?_) <;> clear hQ Q <;> (try simp only [vki,reduceCtorEq] at h))|(refine vq ?_;kernel_rfl)|omega|assumption|with_reducible rfl|skip))
 repeat' (first|(apply nx;with_reducible constructor)|refine uq (by decide) ?_)
 ((first|refine vx env fun Q hQ=>?_|refine vz fun Q hQ=>?_);simp only [vkt,seval,wM,yQ,qf,qc,qj,qF,qh,eTk,jG,Qx,yM,ZL,rTk,zq,mTk,qd,qa,qb,qw,qg,QJ,lcS,j3,Zb,qY,zX,wo,yc,yg,zo,zY,jZ,j4,seqB,Q3,Q4,zZ,List.length_map,hx0];(try simp only [ite_and]);(repeat' (first|with_reducible assumption|refine And.intro ?_ ?_|intro hp));all_goals (first|(refine hQ _ ?_;clear hQ Q)|(refine hQ _ (fun h=>?_) (fun h=>?_) <;> clear hQ Q <;> (try simp only [vki,reduceCtorEq] at h))|(refine vq ?_;kernel_rfl)|omega|assumption|with_reducible rfl|skip))
 repeat' (first|(apply nx;with_reducible constructor)|refine uq (by decide) ?_)
 ((first|refine vx env fun Q hQ=>?_|refine vz fun Q hQ=>?_);simp only [vkt,seval,wM,yQ,qf,qc,qj,qF,qh,eTk,jG,Qx,yM,ZL,rTk,zq,mTk,qd,qa,qb,qw,qg,QJ,lcS,j3,Zb,qY,zX,wo,yc,yg,zo,zY,jZ,j4,seqB,Q3,Q4,zZ,List.length_map,hC,hx1];(try simp only [ite_and]);(repeat' (first|with_reducible assumption|refine And.intro ?_ ?_|intro hp));all_goals (first|(refine hQ _ ?_;clear hQ Q)|(refine hQ _ (fun h=>?_) (fun h=>?_) <;> clear hQ Q <;> (try simp only [vki,reduceCtorEq] at h))|(refine vq ?_;kernel_rfl)|omega|assumption|with_reducible rfl|skip))
 repeat' (first|(apply nx;with_reducible constructor)|refine uq (by decide) ?_)
 ((first|refine vx env fun Q hQ=>?_|refine vz fun Q hQ=>?_);simp only [vkt,seval,wM,yQ,qf,qc,qj,qF,qh,eTk,jG,Qx,yM,ZL,rTk,zq,mTk,qd,qa,qb,qw,qg,QJ,lcS,j3,Zb,qY,zX,wo,yc,yg,zo,zY,jZ,j4,seqB,Q3,Q4,zZ,List.length_map,hA,hx2,hsec,eC];(try simp only [ite_and]);(repeat' (first|with_reducible assumption|refine And.intro ?_ ?_|intro hp));all_goals (first|(refine hQ _ ?_;clear hQ Q)|(refine hQ _ (fun h=>?_) (fun h=>?_) <;> clear hQ Q <;> (try simp only [vki,reduceCtorEq] at h))|(refine vq ?_;kernel_rfl)|omega|assumption|with_reducible rfl|skip))
 repeat' (first|(apply nx;with_reducible constructor)|refine uq (by decide) ?_)
 refine Sym.mono (K:=fun e S1=>e=.normal∧∃ q,Le S1 (QJ c C a sx f t A q)) ?_ ?_
 ·cases hd:A.dog with
  |false =>
   ((first|refine vx env fun Q hQ=>?_|refine vz fun Q hQ=>?_);simp only [vkt,seval,wM,yQ,qf,qc,qj,qF,qh,eTk,jG,Qx,yM,ZL,rTk,zq,mTk,qd,qa,qb,qw,qg,QJ,lcS,j3,Zb,qY,zX,wo,yc,yg,zo,zY,jZ,j4,seqB,Q3,Q4,zZ,List.length_map,hd];(try simp only [ite_and]);(repeat' (first|with_reducible assumption|refine And.intro ?_ ?_|intro hp));all_goals (first|(refine hQ _ ?_;clear hQ Q)|(refine hQ _ (fun h=>?_) (fun h=>?_) <;> clear hQ Q <;> (try simp only [vki,reduceCtorEq] at h))|(refine vq ?_;kernel_rfl)|omega|assumption|with_reducible rfl|skip))
   refine ⟨rfl,false, ?_⟩
   simp only [QJ]
   (refine Le.ok some [] ?_;constructor;all_goals (try simp only [vle,vkt,seval,wM,yQ,qf,qc,qj,qF,qh,eTk,jG,Qx,yM,ZL,rTk,zq,mTk,qd,qa,qb,qw,qg,QJ,lcS,j3,Zb,qY,zX,wo,yc,yg,zo,zY,jZ,j4,seqB,Q3,Q4,zZ,List.length_map]))
   all_goals first|rfl|(simp;done)
  |true =>
   ((first|refine vx env fun Q hQ=>?_|refine vz fun Q hQ=>?_);simp only [vkt,seval,wM,yQ,qf,qc,qj,qF,qh,eTk,jG,Qx,yM,ZL,rTk,zq,mTk,qd,qa,qb,qw,qg,QJ,lcS,j3,Zb,qY,zX,wo,yc,yg,zo,zY,jZ,j4,seqB,Q3,Q4,zZ,List.length_map,hd,h31];(try simp only [ite_and]);(repeat' (first|with_reducible assumption|refine And.intro ?_ ?_|intro hp));all_goals (first|(refine hQ _ ?_;clear hQ Q)|(refine hQ _ (fun h=>?_) (fun h=>?_) <;> clear hQ Q <;> (try simp only [vki,reduceCtorEq] at h))|(refine vq ?_;kernel_rfl)|omega|assumption|with_reducible rfl|skip))
   refine ⟨rfl,decide (upV x2 2 < 1), ?_⟩
   simp only [QJ]
   (refine Le.ok some [] ?_;constructor;all_goals (try simp only [vle,vkt,seval,wM,yQ,qf,qc,qj,qF,qh,eTk,jG,Qx,yM,ZL,rTk,zq,mTk,qd,qa,qb,qw,qg,QJ,lcS,j3,Zb,qY,zX,wo,yc,yg,zo,zY,jZ,j4,seqB,Q3,Q4,zZ,List.length_map]))
   all_goals first|rfl|(simp;done)
 rintro e1 S1 ⟨rfl,q,hle⟩
 refine (kE hle ?_:Sym _ _ _ S1 _)
 clear hle S1
 simp only [QJ]
 have hA3:0 < A.sexes.length:=hA2
 have hgs:=QfC hA3
 obtain ⟨s0,hs0⟩:∃ s,A.sexes.getD 0 0=s:=⟨_,rfl⟩
 rw [hs0] at hgs
 obtain ⟨CL,hCL⟩:∃ CL,[c,C,C]=CL:=⟨_,rfl⟩
 obtain ⟨AL,hAL⟩:∃ AL,[a,(⟨A.party,A.frm,A.to,A.sexes,q⟩:Ask),a]=AL:=⟨_,rfl⟩
 obtain ⟨SL,hSL⟩:∃ NL,[sx,s0,sx]=NL:=⟨_,rfl⟩
 obtain ⟨FL,hFL⟩:∃ NL,[f,A.frm,f]=NL:=⟨_,rfl⟩
 obtain ⟨TL,hTL⟩:∃ NL,[t,A.to,t]=NL:=⟨_,rfl⟩
 have hCl:CL.length=3:=by rw [← hCL];rfl
 have hAl:AL.length=3:=by rw [← hAL];rfl
 have hSl:SL.length=3:=by rw [← hSL];rfl
 have hFl:FL.length=3:=by rw [← hFL];rfl
 have hTl:TL.length=3:=by rw [← hTL];rfl
 have hCb:∀ x ∈ CL,x.cabins.length≤20∧x.sold.length≤20:=by
  rw [← hCL]
  intro x hx
  simp only [List.mem_cons,List.not_mem_nil,or_false] at hx
  rcases hx with rfl|rfl|rfl <;> omega
 have hAb:∀ x ∈ AL,x.sexes.length≤20:=by
  rw [← hAL]
  intro x hx
  simp only [List.mem_cons,List.not_mem_nil,or_false] at hx
  rcases hx with rfl|rfl|rfl
  ·omega
  ·show A.sexes.length≤20
   omega
  ·omega
 repeat' (first|(apply nx;with_reducible constructor)|refine uq (by decide) ?_|((first|refine vx env fun Q hQ=>?_|refine vz fun Q hQ=>?_);simp only [vkt,seval,wM,yQ,qf,qc,qj,qF,qh,eTk,jG,Qx,yM,ZL,rTk,zq,mTk,qd,qa,qb,qw,qg,QJ,lcS,j3,Zb,qY,zX,wo,yc,yg,zo,zY,jZ,j4,seqB,Q3,Q4,zZ,List.length_map,c1,c2,c3,c4,c5,c6,hA3,hgs,hs0];(try simp only [ite_and]);(repeat' (first|with_reducible assumption|refine And.intro ?_ ?_|intro hp));all_goals (first|(refine hQ _ ?_;clear hQ Q)|(refine hQ _ (fun h=>?_) (fun h=>?_) <;> clear hQ Q <;> (try simp only [vki,reduceCtorEq] at h))|(refine vq ?_;kernel_rfl)|omega|assumption|with_reducible rfl|skip)))
 refine qQ (fun i:{ i:Nat // i≤CL.length }=>lcS CL AL SL FL TL i.1) (fun i=>CL.length - i.1) ⟨0,Nat.zero_le _⟩ ?_ fun ⟨i,hi⟩=>?_
 ·simp only [lcS,← hCL,← hAL,← hSL,← hFL,← hTL]
  (refine Le.ok (fun i=>if i < 9 then none else if i < 14 then some (i - 4) else none) [] ?_;constructor;all_goals (try simp only [vle,vkt,seval,wM,yQ,qf,qc,qj,qF,qh,eTk,jG,Qx,yM,ZL,rTk,zq,mTk,qd,qa,qb,qw,qg,QJ,lcS,j3,Zb,qY,zX,wo,yc,yg,zo,zY,jZ,j4,seqB,Q3,Q4,zZ,List.length_map]))
  all_goals first|rfl|(simp;done)
 simp only at hi ⊢
 simp only [lcS]
 by_cases hil:i < CL.length
 ·have d1:decide ((i:Int) < (CL.length:Int))=true:=decide_eq_true (by omega)
  have e9:IntKind.wrap .i64 ((i:Int)+1)=((i+1:Nat):Int):=by rw [wrap64 (by omega) (by omega)];rfl
  have i0:((i:Int)).toNat=i:=rfl
  have hia:i < AL.length:=by omega
  have his:i < SL.length:=by omega
  have hif:i < FL.length:=by omega
  have hit:i < TL.length:=by omega
  have hg:=QjN hil
  have hga:=hAsk hia
  have hgS:=QfC his
  have hgF:=QfC hif
  have hgT:=QfC hit
  obtain ⟨b1,b2⟩:=hCb _ (vG (d:=default) hil)
  have b3:=hAb _ (vG (d:=default) hia)
  obtain ⟨x,hx⟩:∃ x,CL.getD i default=x:=⟨_,rfl⟩
  obtain ⟨y,hy⟩:∃ y,AL.getD i default=y:=⟨_,rfl⟩
  obtain ⟨n1,hn1⟩:∃ n,SL.getD i 0=n:=⟨_,rfl⟩
  obtain ⟨n2,hn2⟩:∃ n,FL.getD i 0=n:=⟨_,rfl⟩
  obtain ⟨n3,hn3⟩:∃ n,TL.getD i 0=n:=⟨_,rfl⟩
  rw [hx] at hg b1 b2
  rw [hy] at hga b3
  rw [hn1] at hgS
  rw [hn2] at hgF
  rw [hn3] at hgT
  have ex:(⟨x.cabins,x.secs,x.sold⟩:Chart)=x:=rfl
  have ey:(⟨y.party,y.frm,y.to,y.sexes,y.dog⟩:Ask)=y:=rfl
  have b4:x.cabins.length≤maxLen:=by omega
  have b5:x.sold.length≤maxLen:=by omega
  have b6:y.sexes.length≤maxLen:=by omega
  have b7:x.cabins.length≤100000:=by omega
  have b8:x.sold.length≤100000:=by omega
  have b9:y.sexes.length≤100000:=by omega
  have p1:=QeD x y
  obtain ⟨⟨D,E,F⟩,hD⟩:∃ p,wY x y=p:=⟨_,rfl⟩
  obtain ⟨⟨r,e⟩,hR⟩:∃ p,vX x n1 n2 n3=p:=⟨_,rfl⟩
  rw [hD] at p1
  simp only at p1
  have p2:D.length≤1000:=by omega
  have p3:D.length≤maxLen:=by omega
  repeat' (first|(apply nx;with_reducible constructor)|refine uq (by decide) ?_|((first|refine vx env fun Q hQ=>?_|refine vz fun Q hQ=>?_);simp only [vkt,seval,wM,yQ,qf,qc,qj,qF,qh,eTk,jG,Qx,yM,ZL,rTk,zq,mTk,qd,qa,qb,qw,qg,QJ,lcS,j3,Zb,qY,zX,wo,yc,yg,zo,zY,jZ,j4,seqB,Q3,Q4,zZ,List.length_map,d1,e9,i0,hil,hia,his,hif,hit,hg,hga,hgS,hgF,hgT,hx,hy,hn1,hn2,hn3,ex,ey,b1,b2,b3,b4,b5,b6,b7,b8,b9,hD,hR,p2,p3,decide_true,Bool.not_true,Bool.not_false];(try simp only [ite_and]);(repeat' (first|with_reducible assumption|refine And.intro ?_ ?_|intro hp));all_goals (first|(refine hQ _ ?_;clear hQ Q)|(refine hQ _ (fun h=>?_) (fun h=>?_) <;> clear hQ Q <;> (try simp only [vki,reduceCtorEq] at h))|(refine vq ?_;kernel_rfl)|omega|assumption|with_reducible rfl|skip)))
  refine ⟨⟨i+1,hil⟩,by show CL.length - (i+1) < CL.length - i;omega, ?_⟩
  simp only [lcS]
  (refine Le.ok some [] ?_;constructor;all_goals (try simp only [vle,vkt,seval,wM,yQ,qf,qc,qj,qF,qh,eTk,jG,Qx,yM,ZL,rTk,zq,mTk,qd,qa,qb,qw,qg,QJ,lcS,j3,Zb,qY,zX,wo,yc,yg,zo,zY,jZ,j4,seqB,Q3,Q4,zZ,List.length_map]))
  all_goals first|rfl|(simp;done)
 ·have d1:decide ((i:Int) < (CL.length:Int))=false:=decide_eq_false (by omega)
  repeat' (first|(apply nx;with_reducible constructor)|refine uq (by decide) ?_|((first|refine vx env fun Q hQ=>?_|refine vz fun Q hQ=>?_);simp only [vkt,seval,wM,yQ,qf,qc,qj,qF,qh,eTk,jG,Qx,yM,ZL,rTk,zq,mTk,qd,qa,qb,qw,qg,QJ,lcS,j3,Zb,qY,zX,wo,yc,yg,zo,zY,jZ,j4,seqB,Q3,Q4,zZ,List.length_map,d1];(try simp only [ite_and]);(repeat' (first|with_reducible assumption|refine And.intro ?_ ?_|intro hp));all_goals (first|(refine hQ _ ?_;clear hQ Q)|(refine hQ _ (fun h=>?_) (fun h=>?_) <;> clear hQ Q <;> (try simp only [vki,reduceCtorEq] at h))|(refine vq ?_;kernel_rfl)|omega|assumption|with_reducible rfl|skip)))
  (simp only [vrt,Tryz.results5,vkt,seval,wM,yQ,qf,qc,qj,qF,qh,eTk,jG,Qx,yM,ZL,rTk,zq,mTk,qd,qa,qb,qw,qg,QJ,lcS,j3,Zb,qY,zX,wo,yc,yg,zo,zY,jZ,j4,seqB,Q3,Q4,zZ,List.length_map];refine Fin.val rfl ?_;(try simp only [AV.le,AV.leL]))
  all_goals first|rfl|(simp;done)
end Go.Sym.B
