/- Walks and what they compute, joined: part 3. -/
import Derived.Test.YtfljkbcphmnjkaaGreatDoorZS3
import Derived.Test.YtfljkbcphmnjkaaGreatDoorProg
import Derived.KernelRfl
import Derived.Test.YtfljkbcphmnjkaaGreatDoorZB2
set_option linter.all false
namespace Go.Sym.B
open Go Go.Sym Go.Proofs Go.Sym.C
set_option maxHeartbeats 40000000 in
theorem QeQ (c:Chart) (a:Ask) (hc:c.cabins.length≤maxLen) (ha:a.sexes.length≤maxLen):FnV Tryz.prog 17 [qa c,qx a] (.tup [qd (Q9 c a).1,aI (Q9 c a).2.1,aI (Q9 c a).2.2]):=by
 have env:Env (fun F=>F.r=none) Tryz.prog tyB (tab [(34,fnE zn),(37,fnE qF),(41,fnQ xm)]):=qO ⟨VT,Yp,eNx1,trivial⟩
 refine Fn.of (A:=fun F=>F.r=none) (n0:=0) (D:=noD) (Fn0 Tryz.func17 rfl (fun vs w=>by kernel_rfl) (by kernel_rfl)) (by simp) (by simp [AV.ids,AV.idsL,qa,qb,qx,ql]) (fun i o h=>by cases h) (fun _ _ _ h=>h) qG ?_
 have ec:(⟨c.cabins,c.secs,c.sold⟩:Chart)=c:=rfl
 have ea:(⟨a.party,a.frm,a.to,a.sexes,a.dog⟩:Ask)=a:=rfl
 unfold Q9
 by_cases h0:wX c a=0
 ·rw [if_neg (by simpa using h0)]
  by_cases h1:1 < a.sexes.length
  ·rw [if_pos h1]
   have d1:decide ((1:Int) < (a.sexes.length:Int))=true:=decide_eq_true (by omega)
   repeat' (first|(apply nx;with_reducible constructor)|refine jq (by decide) ?_|((first|refine kz env fun Q hQ=>?_|refine kj fun Q hQ=>?_);simp only [vkt,seval,qN,wu,qh,qd,qy,qB,qR,zK,wo,zJ,qa,qb,qx,ql,mTk,qc,qg,qf,qm,plL,zn,qF,xm,nxL,jb,chT,chS,crL,c2O,c2T,c2S,c3S,c4S,jc,List.length_map,nth,hwL,Nat.zero_add,Nat.sub_zero,ec,ea,h0,d1];(try simp only [ite_and]);(repeat' (first|with_reducible assumption|refine And.intro ?_ ?_|intro hp));all_goals (first|(refine hQ _ ?_;clear hQ Q)|(refine hQ _ (fun h=>?_) (fun h=>?_) <;> clear hQ Q <;> (try simp only [vki,reduceCtorEq] at h))|(refine kx ?_;kernel_rfl)|omega|assumption|with_reducible rfl|skip)))
   (simp only [vrt,Tryz.results17,vkt,seval,qN,wu,qh,qd,qy,qB,qR,zK,wo,zJ,qa,qb,qx,ql,mTk,qc,qg,qf,qm,plL,zn,qF,xm,nxL,jb,chT,chS,crL,c2O,c2T,c2S,c3S,c4S,jc,List.length_map,nth,hwL,Nat.zero_add,Nat.sub_zero];refine Fin.val rfl ?_;(try simp only [AV.le,AV.leL]))
   all_goals first|rfl|(simp;done)
  rw [if_neg h1]
  have d1:decide ((1:Int) < (a.sexes.length:Int))=false:=decide_eq_false (by omega)
  cases hd:a.dog with
  |true =>
   rw [hd] at ea
   repeat' (first|(apply nx;with_reducible constructor)|refine jq (by decide) ?_|((first|refine kz env fun Q hQ=>?_|refine kj fun Q hQ=>?_);simp only [vkt,seval,qN,wu,qh,qd,qy,qB,qR,zK,wo,zJ,qa,qb,qx,ql,mTk,qc,qg,qf,qm,plL,zn,qF,xm,nxL,jb,chT,chS,crL,c2O,c2T,c2S,c3S,c4S,jc,List.length_map,nth,hwL,Nat.zero_add,Nat.sub_zero,ec,ea,h0,d1,hd];(try simp only [ite_and]);(repeat' (first|with_reducible assumption|refine And.intro ?_ ?_|intro hp));all_goals (first|(refine hQ _ ?_;clear hQ Q)|(refine hQ _ (fun h=>?_) (fun h=>?_) <;> clear hQ Q <;> (try simp only [vki,reduceCtorEq] at h))|(refine kx ?_;kernel_rfl)|omega|assumption|with_reducible rfl|skip)))
   (simp only [vrt,Tryz.results17,vkt,seval,qN,wu,qh,qd,qy,qB,qR,zK,wo,zJ,qa,qb,qx,ql,mTk,qc,qg,qf,qm,plL,zn,qF,xm,nxL,jb,chT,chS,crL,c2O,c2T,c2S,c3S,c4S,jc,List.length_map,nth,hwL,Nat.zero_add,Nat.sub_zero];refine Fin.val rfl ?_;(try simp only [AV.le,AV.leL]))
   all_goals first|rfl|(simp;done)
  |false =>
   rw [if_neg (by decide)]
   have hone:a.sexes.length=1:=by have:=(Qc5 (Q7 h0).2).2;omega
   have hway:=Qdh h0
   have hsec:=(Za h0).val.car.secs
   obtain ⟨M,hM⟩:∃ M,(a.to - a.frm).toNat=M:=⟨_,rfl⟩
   have ea':=ea
   rw [hd] at ea'
   repeat' (first|(apply nx;with_reducible constructor)|refine jq (by decide) ?_|((first|refine kz env fun Q hQ=>?_|refine kj fun Q hQ=>?_);simp only [vkt,seval,qN,wu,qh,qd,qy,qB,qR,zK,wo,zJ,qa,qb,qx,ql,mTk,qc,qg,qf,qm,plL,zn,qF,xm,nxL,jb,chT,chS,crL,c2O,c2T,c2S,c3S,c4S,jc,List.length_map,nth,hwL,Nat.zero_add,Nat.sub_zero,ec,ea',h0,d1,hd];(try simp only [ite_and]);(repeat' (first|with_reducible assumption|refine And.intro ?_ ?_|intro hp));all_goals (first|(refine hQ _ ?_;clear hQ Q)|(refine hQ _ (fun h=>?_) (fun h=>?_) <;> clear hQ Q <;> (try simp only [vki,reduceCtorEq] at h))|(refine kx ?_;kernel_rfl)|omega|assumption|with_reducible rfl|skip)))
   refine zt (fun i:{ i:Nat // i≤M∧∀ j,j < i→x8 c a (a.frm+j) ≠ [] }=>chS c a i.1) (fun i=>M - i.1) ⟨0,Nat.zero_le _,fun j h=>absurd h (Nat.not_lt_zero _)⟩ ?_ fun ⟨i,hi,hno⟩=>?_
   ·show Le _ { t:=asg (chT (a.frm+(0:Nat))),h:=qj [(1,.cells (ql a)),(2,qg c.cabins c.secs 3),(3,qf c.sold),(4,.cells [.row 5]),(5,.row 43 1 [])],n:=25 }
    (refine Le.ok (fun i=>if i=5 then none else some i) [] ?_;constructor;all_goals (try simp only [vle,vkt,seval,qN,wu,qh,qd,qy,qB,qR,zK,wo,zJ,qa,qb,qx,ql,mTk,qc,qg,qf,qm,plL,zn,qF,xm,nxL,jb,chT,chS,crL,c2O,c2T,c2S,c3S,c4S,jc,List.length_map,nth,hwL,Nat.zero_add,Nat.sub_zero]))
    all_goals first|rfl|(simp [hd,ZE,ql,AV.leL,AV.le,AV.idsL,AV.ids];done)|(intro i hi;rw [if_neg (by omega)];done)
   simp only at hi hno ⊢
   by_cases hlt:i < M
   ·have hi5:i=0∨i=1∨i=2∨i=3∨i=4:=by omega
    rcases hi5 with hi5|hi5|hi5|hi5|hi5
    all_goals
     have hmk:=congrArg mks hi5
     have hdk:=congrArg dks hi5
     simp only [mks,dks,Nat.reduceAdd] at hmk hdk
     have w1:IntKind.wrap .i64 (a.frm+(i:Int)+1)=a.frm+(i:Int)+1:=wrap64 (by omega) (by omega)
     obtain ⟨s,hs⟩:∃ s,a.frm+(i:Int)=s:=⟨_,rfl⟩
     have hoa:(⟨a.party,s,s+1,a.sexes,a.dog⟩:Ask)=X7 a s:=rfl
     have dlt:decide (s < a.to)=true:=decide_eq_true (by omega)
     rw [hs] at w1
     have hpo:=U9 h0 s
     unfold chS
     rw [hmk,hdk]
     repeat' (first|(apply nx;with_reducible constructor)|refine jq (by decide) ?_|((first|refine kz env fun Q hQ=>?_|refine kj fun Q hQ=>?_);simp only [vkt,seval,qN,wu,qh,qd,qy,qB,qR,zK,wo,zJ,qa,qb,qx,ql,mTk,qc,qg,qf,qm,plL,zn,qF,xm,nxL,jb,chT,chS,crL,c2O,c2T,c2S,c3S,c4S,jc,List.length_map,nth,hwL,Nat.zero_add,Nat.sub_zero,hs,w1,dlt,List.cons_append,List.nil_append];(try simp only [ite_and]);(repeat' (first|with_reducible assumption|refine And.intro ?_ ?_|intro hp));all_goals (first|(refine hQ _ ?_;clear hQ Q)|(refine hQ _ (fun h=>?_) (fun h=>?_) <;> clear hQ Q <;> (try simp only [vki,reduceCtorEq] at h))|(refine kx ?_;kernel_rfl)|omega|assumption|with_reducible rfl|skip)))
     obtain ⟨o,ho⟩:∃ o,X7 a s=o:=⟨_,rfl⟩
     rw [ho] at hpo hoa
     have hbd:=QbK hpo
     have hm:(729:Nat)+1≤maxLen:=by decide
     obtain ⟨N,hN⟩:∃ N,(plP c o).length=N:=⟨_,rfl⟩
     rw [hN] at hbd
     have hoc:ql o=[.v (.int .i64 a.party),.v (.int .i64 s),.v (.int .i64 (s+1)),.sl (a.sexes.map wz),.v (.bool a.dog)]:=by rw [← ho];rfl
     refine vM (S':={ t:=asg (crL0 s),h:=qj (crH c a (mks i) i 0++[(2,qg c.cabins c.secs 3),(3,qf c.sold),(27,.cells [.ptr 2 0]),(28,.cells (ql o))]),n:=30,j:=0,d:=dks i,m:=0 }) ?_ ?_
     ·show Le _ { t:=asg [(3,.ptr 1 0),(4,.nil),(5,aI 0),(6,aI 0),(7,.ptr 2 0),(8,.ptr 4 0),(9,aI s),(11,.ptr 26 0),(56,.clo 67 [.ptr 27 0,.ptr 28 0])],h:=qj (([(1,.cells (ql a)),(4,.cells [.row 5]),(5,.row 43 1 ((ZE c a i).map qB)),(26,.cells [.row 29]),(29,.row 28 2 [])]++mks i)++[(2,qg c.cabins c.secs 3),(3,qf c.sold),(27,.cells [.ptr 2 0]),(28,.cells (ql o))]),n:=30,j:=0,d:=dks i,m:=0 }
      rw [hoc,hmk,hdk]
      simp only [List.cons_append,List.nil_append]
      (refine Le.ok (fun i=>if i=29 then none else some i) [] ?_;constructor;all_goals (try simp only [vle,vkt,seval,qN,wu,qh,qd,qy,qB,qR,zK,wo,zJ,qa,qb,qx,ql,mTk,qc,qg,qf,qm,plL,zn,qF,xm,nxL,jb,chT,chS,crL,c2O,c2T,c2S,c3S,c4S,jc,List.length_map,nth,hwL,Nat.zero_add,Nat.sub_zero]))
      all_goals first|rfl|(simp [hd,AV.leL,AV.le,AV.idsL,AV.ids];done)|(intro i hi;rw [if_neg (by omega)];done)|(simp [ADf.le,ADf.ids];done)
     rw [← Ls c o]
     refine yQ (fun F h=>h) 1 (L:=crL0 s) (L':=crL s) (xs:=[3,27,28]) (hs:=[2,3,27,28]) (n:=30) (nl:=1) (hc:=crH c a (mks i) i) (Lp:=plL c o) (jj:=fun _=>0) (d:=dks i) (ys:=plY c o) (hl:=plH c o) (ans:=fun _=>true) (ex:=.ret) (caps:=[.ptr 27 0,.ptr 28 0]) (caps0:=[.ptr 2 0,.ptr 3 0]) (N:=(plP c o).length) (R:=N) (A':=fun _ _=>True) rfl (JA hpo) (by rw [hN];exact UM) (.inl rfl) ?_ ?_ ?_ rfl (by simp) ?_ (by simp) (fun _ _ _ _ _ _=>trivial) ?_ ?_ ?_ ?_ ?_ ?_ (fun j hj=>?_) ?_ (fun j hj=>?_) (fun _=>?_) (fun _ h=>by cases h)
     ·simp [AV.leL,AV.le]
     ·simp [AV.nocbL,AV.nocb]
     ·simp [Z5,plL,qg,qf,ql,AObj.nocb,AV.nocbL,AV.nocb,AObj.ids,AV.ids,AV.idsL,AObj.ren,AV.renL,AV.ren,AObj.le,AV.leL,AV.le,qz]
     ·simp [crH,qj,hmk]
     ·simp [crH,qj,hmk]
     ·simp [crH,AObj.ids,AV.ids,AV.idsL,ql,hmk]
     ·simp [X5,crL,crL0,chT,asg,upd]
     ·simp [LV]
     ·intro j hj
      simp [absent,crH,Ru,hmk]
     ·simp [JG,crL,chT,AV.ids,aI]
     ·refine ⟨?_,rfl, ?_, ?_,rfl, ?_⟩
      ·simp [Qg,crH,AObj.ids,AV.ids,AV.idsL,ql,hmk]
      ·simp [ZG,plH,qm,qg,qf,AObj.nocb,AV.nocbL,AV.nocb,AObj.ids,AV.ids,AV.idsL]
      ·simp [YI,plY,qd,AV.nocb,AV.ids]
      ·simp [Qf,ZP,Ru,crH,crL,chT,xQ,AV.ids,ADf.ids,List.range_succ,aI,hmk,hdk]
     ·simp [Qg,crH,AObj.ids,AV.ids,AV.idsL,ql,hmk]
     ·have env:Env (fun _:Frm=>True) Tryz.prog tyB (tab []):=qO trivial
      have hjl:j < (plP c (X7 a (a.frm+i))).length:=by rw [hs,ho];omega
      have h1x:((plP c o).getD j default).1=[((plP c o).getD j default).1.getD 0 default]:=QkB (by rw [← ho];exact hone) (by omega)
      have hS:=QgG hjl
      rw [hs,ho] at hS
      obtain ⟨b,hb⟩:∃ b,((plP c o).getD j default).1.getD 0 default=b:=⟨_,rfl⟩
      rw [hb] at h1x hS
      have hl:(opR c a s j).length≤729:=by
       unfold opR
       rw [List.length_map,List.length_take]
       omega
      have hl1:(opR c a s j).length+1≤maxLen:=by omega
      obtain ⟨r,hr⟩:∃ r,((plP c o).getD j default).2=r:=⟨_,rfl⟩
      have hst:jf (crL s) [57] [2] 30 1 (plY c o j) (crH c a (mks i) i j) (plH c o j)={ t:=asg [(57,qd [b]),(3,.ptr 1 0),(4,.nil),(5,aI 0),(6,aI 0),(7,.ptr 2 0),(8,.ptr 4 0),(9,aI s),(11,.ptr 26 0)],h:=qj ((30,.mark) :: ([(1,.cells (ql a)),(4,.cells [.row 5]),(5,.row 43 1 ((ZE c a i).map qB)),(26,.cells [.row 29]),(29,.row 28 2 (opR c a s j))]++mks i++[(2,qg c.cabins c.secs 31),(31,qf r)])),n:=32,m:=32 }:=by
       simp only [jf,Nat.reduceAdd,Ru,plY,h1x,hr,hs,qd,List.map_cons,List.map_nil,AV.ren,List.zip_cons_cons,List.zip_nil_right,crH,crL,chT,QY,List.cons_append,List.nil_append,List.append_assoc]
       rfl
      show Sym _ _ _ (jf (crL s) [57] [2] 30 1 (plY c o j) (crH c a (mks i) i j) (plH c o j)) _
      rw [hst,hmk]
      simp only [List.cons_append,List.nil_append]
      repeat' (first|(apply nx;with_reducible constructor)|refine jq (by decide) ?_|((first|refine kz env fun Q hQ=>?_|refine kj fun Q hQ=>?_);simp only [vkt,seval,qN,wu,qh,qd,qy,qB,qR,zK,wo,zJ,qa,qb,qx,ql,mTk,qc,qg,qf,qm,plL,zn,qF,xm,nxL,jb,chT,chS,crL,c2O,c2T,c2S,c3S,c4S,jc,List.length_map,nth,hwL,Nat.zero_add,Nat.sub_zero,hl1,List.getD_cons_zero];(try simp only [ite_and]);(repeat' (first|with_reducible assumption|refine And.intro ?_ ?_|intro hp));all_goals (first|(refine hQ _ ?_;clear hQ Q)|(refine hQ _ (fun h=>?_) (fun h=>?_) <;> clear hQ Q <;> (try simp only [vki,reduceCtorEq] at h))|(refine kx ?_;kernel_rfl)|omega|assumption|with_reducible rfl|skip)))
      refine ⟨rfl,rfl,(fun i=>if i=29 then some 33 else some i),_,RFin.okQ (fun i=>if i=29 then some 33 else some i) [] ?_⟩
      constructor
      all_goals (try simp only [vle,xn,vW,qz,plH,crH,hr,hs,hS,hmk,hdk,List.cons_append,List.nil_append,vkt,seval,qN,wu,qh,qd,qy,qB,qR,zK,wo,zJ,qa,qb,qx,ql,mTk,qc,qg,qf,qm,plL,zn,qF,xm,nxL,jb,chT,chS,crL,c2O,c2T,c2S,c3S,c4S,jc,List.length_map,nth,hwL,Nat.zero_add,Nat.sub_zero])
      all_goals first|rfl|(simp;done)|(simp [crL,chT,xQ,AV.ids,ADf.ids,List.range_succ,aI];done)|(simp [ql,AV.leL,AV.le];done)
     ·have eh:qj ((30,AObj.mark) :: crH c a (mks i) i N++zf [2,3,27,28] (30+1) 0 (plL c o))=qj ((30,.mark) :: ([(1,.cells (ql a)),(4,.cells [.row 5]),(5,.row 43 1 ((ZE c a i).map qB)),(26,.cells [.row 29]),(29,.row 28 2 (opR c a s N))]++mks i++[(2,qg c.cabins c.secs 3),(3,qf c.sold),(27,.cells [.ptr 2 0]),(28,.cells (ql o))])):=by
       rw [show zf [2,3,27,28] (30+1) 0 (plL c o)=zf [2,3,27,28] 31 0 (plL c o) from rfl,Ls,← hs];rfl
      rw [eh,hmk,hdk]
      simp only [List.cons_append,List.nil_append]
      have hNl:(x8 c a s).length=N:=by rw [Wz,ho];exact hN
      have hoN:opR c a s N=(x8 c a s).map qy:=by unfold opR;rw [← hNl,List.take_length]
      have hkl:(ZE c a i).length=i:=K9 c a i
      have hkm:i+1≤maxLen:=by omega
      have hkS:=Qa7 c a i
      rw [hoN]
      rw [hs] at hkS
      by_cases hN0:N=0
      ·have hoe:x8 c a s=[]:=List.eq_nil_of_length_eq_zero (by rw [hNl];exact hN0)
       rw [Qds (c:=c) (a:=a) (i:=i) (by omega) (by rw [hs];exact hoe)]
       rw [hoe]
       repeat' (first|(apply nx;with_reducible constructor)|refine jq (by decide) ?_|((first|refine kz env fun Q hQ=>?_|refine kj fun Q hQ=>?_);simp only [vkt,seval,qN,wu,qh,qd,qy,qB,qR,zK,wo,zJ,qa,qb,qx,ql,mTk,qc,qg,qf,qm,plL,zn,qF,xm,nxL,jb,chT,chS,crL,c2O,c2T,c2S,c3S,c4S,jc,List.length_map,nth,hwL,Nat.zero_add,Nat.sub_zero];(try simp only [ite_and]);(repeat' (first|with_reducible assumption|refine And.intro ?_ ?_|intro hp));all_goals (first|(refine hQ _ ?_;clear hQ Q)|(refine hQ _ (fun h=>?_) (fun h=>?_) <;> clear hQ Q <;> (try simp only [vki,reduceCtorEq] at h))|(refine kx ?_;kernel_rfl)|omega|assumption|with_reducible rfl|skip)))
       (simp only [vrt,Tryz.results17,vkt,seval,qN,wu,qh,qd,qy,qB,qR,zK,wo,zJ,qa,qb,qx,ql,mTk,qc,qg,qf,qm,plL,zn,qF,xm,nxL,jb,chT,chS,crL,c2O,c2T,c2S,c3S,c4S,jc,List.length_map,nth,hwL,Nat.zero_add,Nat.sub_zero];refine Fin.val rfl ?_;(try simp only [AV.le,AV.leL]))
       all_goals first|rfl|(simp;done)
      ·have d2:decide ((N:Int)=0)=false:=decide_eq_false (by omega)
       repeat' (first|(apply nx;with_reducible constructor)|refine jq (by decide) ?_|((first|refine kz env fun Q hQ=>?_|refine kj fun Q hQ=>?_);simp only [vkt,seval,qN,wu,qh,qd,qy,qB,qR,zK,wo,zJ,qa,qb,qx,ql,mTk,qc,qg,qf,qm,plL,zn,qF,xm,nxL,jb,chT,chS,crL,c2O,c2T,c2S,c3S,c4S,jc,List.length_map,nth,hwL,Nat.zero_add,Nat.sub_zero,hNl,d2,hkl,hkm,w1];(try simp only [ite_and]);(repeat' (first|with_reducible assumption|refine And.intro ?_ ?_|intro hp));all_goals (first|(refine hQ _ ?_;clear hQ Q)|(refine hQ _ (fun h=>?_) (fun h=>?_) <;> clear hQ Q <;> (try simp only [vki,reduceCtorEq] at h))|(refine kx ?_;kernel_rfl)|omega|assumption|with_reducible rfl|skip)))
       refine ⟨⟨i+1,hlt,fun j hj=>?_⟩,by show M - (i+1) < M - i;omega, ?_⟩
       ·rcases Nat.lt_or_eq_of_le (Nat.le_of_lt_succ hj) with h3|h3
        ·exact hno j h3
        ·subst h3;rw [hs];intro h4;rw [h4] at hNl;exact hN0 hNl.symm
       ·have hs1:a.frm+((i+1:Nat):Int)=s+1:=by omega
        show Le _ (chS c a (i+1))
        unfold chS
        rw [hkS,hs1]
        simp only [mks,dks,hmk,hdk,hi5,Nat.reduceAdd,List.cons_append,List.nil_append]
        refine Le.ok (fun k=>if k=5 then some 32 else if k=20+i then some 30 else some k) [] ?_
        constructor
        all_goals (try simp only [hi5,Nat.reduceAdd,vle,vkt,seval,qN,wu,qh,qd,qy,qB,qR,zK,wo,zJ,qa,qb,qx,ql,mTk,qc,qg,qf,qm,plL,zn,qF,xm,nxL,jb,chT,chS,crL,c2O,c2T,c2S,c3S,c4S,jc,List.length_map,nth,hwL,Nat.zero_add,Nat.sub_zero])
        all_goals first|rfl|(simp;done)|(simp [ADf.le,ADf.ids];done)
   ·have hie:i=M:=by omega
    subst hie
    have hns:(Jd c a).any (·.isEmpty)=false:=QeC (fun i hi=>hno i (by omega))
    rw [hns]
    have hLl:(Jd c a).length=i:=by rw [QeE];exact hM
    have hLe:ZE c a i=Jd c a:=by rw [← hM];rfl
    have hea:=Qdq h0
    obtain ⟨L,hL⟩:∃ L,Jd c a=L:=⟨_,rfl⟩
    rw [hL] at hLl hLe hea ⊢
    have hmx:(100000:Nat)≤maxLen:=by decide
    have hi5:i=1∨i=2∨i=3∨i=4∨i=5:=by omega
    have dlt:decide (a.frm+(i:Int) < a.to)=false:=decide_eq_false (by omega)
    have w2:IntKind.wrap .i64 ((i:Int) - 2)=((i - 1:Nat):Int) - 1:=by rw [wrap64 (by omega) (by omega)];omega
    rcases hi5 with hi5|hi5|hi5|hi5|hi5
    all_goals
     have hmk:=congrArg mks hi5
     have hdk:=congrArg dks hi5
     simp only [mks,dks,Nat.reduceAdd] at hmk hdk
     unfold chS
     rw [hmk,hdk,hLe]
     simp only [List.cons_append,List.nil_append]
     repeat' (first|(apply nx;with_reducible constructor)|refine jq (by decide) ?_|((first|refine kz env fun Q hQ=>?_|refine kj fun Q hQ=>?_);simp only [vkt,seval,qN,wu,qh,qd,qy,qB,qR,zK,wo,zJ,qa,qb,qx,ql,mTk,qc,qg,qf,qm,plL,zn,qF,xm,nxL,jb,chT,chS,crL,c2O,c2T,c2S,c3S,c4S,jc,List.length_map,nth,hwL,Nat.zero_add,Nat.sub_zero,dlt,hLl,w2];(try simp only [ite_and]);(repeat' (first|with_reducible assumption|refine And.intro ?_ ?_|intro hp));all_goals (first|(refine hQ _ ?_;clear hQ Q)|(refine hQ _ (fun h=>?_) (fun h=>?_) <;> clear hQ Q <;> (try simp only [vki,reduceCtorEq] at h))|(refine kx ?_;kernel_rfl)|omega|assumption|with_reducible rfl|skip)))
     refine zt (fun y:{ y:Nat × List (Value × Value) // y.1 < i∧BhOk L y.2 y.1∧y.2.length≤1000 * (i - y.1) }=>c2S (mks i) (dks i) L y.1.2 y.1.1) (fun y=>y.1.1) ⟨(i - 1,[]),by omega,by rw [← hLl];exact Qj6 L,Nat.zero_le _⟩ ?_ fun ⟨(y,es),hy,hB,hel⟩=>?_
     ·simp only [c2S,hmk,hdk,c2O,c2T,List.cons_append,List.nil_append]
      (refine Le.ok some [] ?_;constructor;all_goals (try simp only [vle,vkt,seval,qN,wu,qh,qd,qy,qB,qR,zK,wo,zJ,qa,qb,qx,ql,mTk,qc,qg,qf,qm,plL,zn,qF,xm,nxL,jb,chT,chS,crL,c2O,c2T,c2S,c3S,c4S,jc,List.length_map,nth,hwL,Nat.zero_add,Nat.sub_zero]))
      all_goals first|rfl|(simp [ADf.le,ADf.ids];done)
     simp only at hy hB hel ⊢
     simp only [c2S,hmk,hdk,c2O,c2T,List.cons_append,List.nil_append]
     cases y with
     |succ A =>
      have e1:((A+1:Nat):Int) - 1=(A:Int):=by omega
      have d3:decide ((0:Int)≤(A:Int))=true:=decide_eq_true (by omega)
      have hAl:A < L.length:=by omega
      have hg:=QfL hAl
      obtain ⟨l,hl⟩:∃ l,L.getD A []=l:=⟨_,rfl⟩
      rw [hl] at hg
      have hll:l.length≤1000:=hea l (by rw [← hl];exact xV hAl)
      have iA:((A:Int)).toNat=A:=rfl
      rw [e1]
      repeat' (first|(apply nx;with_reducible constructor)|refine jq (by decide) ?_|((first|refine kz env fun Q hQ=>?_|refine kj fun Q hQ=>?_);simp only [vkt,seval,qN,wu,qh,qd,qy,qB,qR,zK,wo,zJ,qa,qb,qx,ql,mTk,qc,qg,qf,qm,plL,zn,qF,xm,nxL,jb,chT,chS,crL,c2O,c2T,c2S,c3S,c4S,jc,List.length_map,nth,hwL,Nat.zero_add,Nat.sub_zero,d3,hg,iA,hAl];(try simp only [ite_and]);(repeat' (first|with_reducible assumption|refine And.intro ?_ ?_|intro hp));all_goals (first|(refine hQ _ ?_;clear hQ Q)|(refine hQ _ (fun h=>?_) (fun h=>?_) <;> clear hQ Q <;> (try simp only [vki,reduceCtorEq] at h))|(refine kx ?_;kernel_rfl)|omega|assumption|with_reducible rfl|skip)))
      refine zt (fun z:{ z:Nat × List (Value × Value) // z.1≤l.length∧BhIn L z.2 A z.1∧z.2.length≤1000 * (i - (A+1))+z.1 }=>c3S (mks i) (dks i) L z.1.2 A l z.1.1) (fun z=>l.length - z.1.1) ⟨(0,es),Nat.zero_le _,hB.inn,hel⟩ ?_ fun ⟨(k,es),hk,hI,hel⟩=>?_
      ·simp only [c3S,hmk,hdk,c2O,c2T,List.cons_append,List.nil_append]
       (refine Le.ok some [] ?_;constructor;all_goals (try simp only [vle,vkt,seval,qN,wu,qh,qd,qy,qB,qR,zK,wo,zJ,qa,qb,qx,ql,mTk,qc,qg,qf,qm,plL,zn,qF,xm,nxL,jb,chT,chS,crL,c2O,c2T,c2S,c3S,c4S,jc,List.length_map,nth,hwL,Nat.zero_add,Nat.sub_zero]))
       all_goals first|rfl|(simp [ADf.le,ADf.ids];done)
      simp only at hk hI hel ⊢
      simp only [c3S,hmk,hdk,c2O,c2T,List.cons_append,List.nil_append]
      by_cases hkl:k < l.length
      ·have d4:decide ((k:Int) < (l.length:Int))=true:=decide_eq_true (by omega)
       have e9:IntKind.wrap .i64 ((k:Int)+1)=((k+1:Nat):Int):=by rw [wrap64 (by omega) (by omega)];rfl
       have wA:IntKind.wrap .i64 ((A:Int)+1)=((A+1:Nat):Int):=by rw [wrap64 (by omega) (by omega)];rfl
       have iA1:(((A+1:Nat):Int)).toNat=A+1:=rfl
       obtain ⟨b,hb⟩:∃ b,l.getD k default=b:=⟨_,rfl⟩
       have eb:(⟨b.cab,b.bed⟩:Bunk)=b:=rfl
       obtain ⟨⟨q,v⟩,hv⟩:∃ p,yY (L.drop (A+1)) b=p:=⟨_,rfl⟩
       have hNx:NxOk L es (A+1):=⟨by omega,by omega,hea,hI.bh⟩
       have hM1:MOK (KD.Q (.agg [some .i64,some .i64,some .i64])) es:=hI.bh.ok
       have hml:(vN es (.agg #[.int .i64 (A:Int),.int .i64 b.cab,.int .i64 b.bed]) (.int .i64 v)).length≤maxLen:=by
        have:=Z7 (es:=es) (k:=.agg #[.int .i64 (A:Int),.int .i64 b.cab,.int .i64 b.bed]) (v:=.int .i64 v)
        omega
       repeat' (first|(apply nx;with_reducible constructor)|refine jq (by decide) ?_|((first|refine kz env fun Q hQ=>?_|refine kj fun Q hQ=>?_);simp only [vkt,seval,qN,wu,qh,qd,qy,qB,qR,zK,wo,zJ,qa,qb,qx,ql,mTk,qc,qg,qf,qm,plL,zn,qF,xm,nxL,jb,chT,chS,crL,c2O,c2T,c2S,c3S,c4S,jc,List.length_map,nth,hwL,Nat.zero_add,Nat.sub_zero,d4,e9,wA,iA1,hb,eb,hv,hNx,hM1,hml];(try simp only [ite_and]);(repeat' (first|with_reducible assumption|refine And.intro ?_ ?_|intro hp));all_goals (first|(refine hQ _ ?_;clear hQ Q)|(refine hQ _ (fun h=>?_) (fun h=>?_) <;> clear hQ Q <;> (try simp only [vki,reduceCtorEq] at h))|(refine kx ?_;kernel_rfl)|omega|assumption|with_reducible rfl|skip)))
       have hel':(vN es (ZQ A b) (.int .i64 v)).length≤1000 * (i - (A+1))+(k+1):=by
        have h2:=Z7 (es:=es) (k:=ZQ A b) (v:=.int .i64 v)
        omega
       refine ⟨⟨(k+1,vN es (ZQ A b) (.int .i64 v)),hkl,hI.step (by rw [hl];exact hb) (by rw [hv]),hel'⟩,by show l.length - (k+1) < l.length - k;omega, ?_⟩
       simp only [c3S,ZQ,hmk,hdk,c2O,c2T,List.cons_append,List.nil_append]
       (refine Le.ok some [] ?_;constructor;all_goals (try simp only [vle,vkt,seval,qN,wu,qh,qd,qy,qB,qR,zK,wo,zJ,qa,qb,qx,ql,mTk,qc,qg,qf,qm,plL,zn,qF,xm,nxL,jb,chT,chS,crL,c2O,c2T,c2S,c3S,c4S,jc,List.length_map,nth,hwL,Nat.zero_add,Nat.sub_zero]))
       all_goals first|rfl|(simp [ADf.le,ADf.ids];done)
      ·have d4:decide ((k:Int) < (l.length:Int))=false:=decide_eq_false (by omega)
       have hke:k=l.length:=by omega
       subst hke
       have wm:IntKind.wrap .i64 ((A:Int) - 1)=(A:Int) - 1:=wrap64 (by omega) (by omega)
       repeat' (first|(apply nx;with_reducible constructor)|refine jq (by decide) ?_|((first|refine kz env fun Q hQ=>?_|refine kj fun Q hQ=>?_);simp only [vkt,seval,qN,wu,qh,qd,qy,qB,qR,zK,wo,zJ,qa,qb,qx,ql,mTk,qc,qg,qf,qm,plL,zn,qF,xm,nxL,jb,chT,chS,crL,c2O,c2T,c2S,c3S,c4S,jc,List.length_map,nth,hwL,Nat.zero_add,Nat.sub_zero,d4,wm];(try simp only [ite_and]);(repeat' (first|with_reducible assumption|refine And.intro ?_ ?_|intro hp));all_goals (first|(refine hQ _ ?_;clear hQ Q)|(refine hQ _ (fun h=>?_) (fun h=>?_) <;> clear hQ Q <;> (try simp only [vki,reduceCtorEq] at h))|(refine kx ?_;kernel_rfl)|omega|assumption|with_reducible rfl|skip)))
       refine ⟨⟨(A,es),by omega,by rw [← hl] at hI;exact hI.out,by show es.length≤1000 * (i - A);omega⟩,Nat.lt_succ_self _, ?_⟩
       simp only [c2S,hmk,hdk,c2O,c2T,List.cons_append,List.nil_append]
       (refine Le.ok some [] ?_;constructor;all_goals (try simp only [vle,vkt,seval,qN,wu,qh,qd,qy,qB,qR,zK,wo,zJ,qa,qb,qx,ql,mTk,qc,qg,qf,qm,plL,zn,qF,xm,nxL,jb,chT,chS,crL,c2O,c2T,c2S,c3S,c4S,jc,List.length_map,nth,hwL,Nat.zero_add,Nat.sub_zero]))
       all_goals first|rfl|(simp [ADf.le,ADf.ids];done)
     |zero =>
      have d3:decide ((0:Int)≤((0:Nat):Int) - 1)=false:=by decide
      repeat' (first|(apply nx;with_reducible constructor)|refine jq (by decide) ?_|((first|refine kz env fun Q hQ=>?_|refine kj fun Q hQ=>?_);simp only [vkt,seval,qN,wu,qh,qd,qy,qB,qR,zK,wo,zJ,qa,qb,qx,ql,mTk,qc,qg,qf,qm,plL,zn,qF,xm,nxL,jb,chT,chS,crL,c2O,c2T,c2S,c3S,c4S,jc,List.length_map,nth,hwL,Nat.zero_add,Nat.sub_zero,d3,hLl];(try simp only [ite_and]);(repeat' (first|with_reducible assumption|refine And.intro ?_ ?_|intro hp));all_goals (first|(refine hQ _ ?_;clear hQ Q)|(refine hQ _ (fun h=>?_) (fun h=>?_) <;> clear hQ Q <;> (try simp only [vki,reduceCtorEq] at h))|(refine kx ?_;kernel_rfl)|omega|assumption|with_reducible rfl|skip)))
      refine zt (fun k:{ k:Nat // k≤i }=>c4S (mks i) (dks i) L es k.1) (fun k=>i - k.1) ⟨0,Nat.zero_le _⟩ ?_ fun ⟨k,hk⟩=>?_
      ·simp only [c4S,hmk,hdk,c2O,chC,wkK,List.cons_append,List.nil_append]
       (refine Le.ok (fun i=>if i=27 then none else some i) [] ?_;constructor;all_goals (try simp only [vle,vkt,seval,qN,wu,qh,qd,qy,qB,qR,zK,wo,zJ,qa,qb,qx,ql,mTk,qc,qg,qf,qm,plL,zn,qF,xm,nxL,jb,chT,chS,crL,c2O,c2T,c2S,c3S,c4S,jc,List.length_map,nth,hwL,Nat.zero_add,Nat.sub_zero]))
       all_goals first|rfl|(simp [hLl];done)|(simp [ADf.le,ADf.ids];done)|(intro i hi;rw [if_neg (by omega)];done)
      simp only at hk ⊢
      simp only [c4S,hmk,hdk,c2O,List.cons_append,List.nil_append,hLl]
      have hwl:=Un L k
      by_cases hkl:k < i
      ·have d4:decide ((k:Int) < (i:Int))=true:=decide_eq_true (by omega)
       have e9:IntKind.wrap .i64 ((k:Int)+1)=((k+1:Nat):Int):=by rw [wrap64 (by omega) (by omega)];rfl
       have hNx:NxOk L es k:=⟨by omega,by omega,hea,hB.mono (Nat.zero_le _)⟩
       have ik:((k:Int)).toNat=k:=rfl
       have hkm:k+1≤maxLen:=by omega
       have hS:=XR L k
       obtain ⟨⟨q,v⟩,hv⟩:∃ p,yY (L.drop k) (wkB L k)=p:=⟨_,rfl⟩
       rw [hv] at hS
       have hvb:=XE (L.drop k) (wkB L k)
       rw [hv,List.length_drop] at hvb
       have hvb:0≤v∧v≤1000:=by simp only at hvb;omega
       by_cases hk0:k=0
       ·have d5:decide ((0:Int) < (k:Int))=false:=decide_eq_false (by omega)
        have d6:decide ((k:Int)=0)=true:=decide_eq_true (by omega)
        have wv:IntKind.wrap .i64 (v - 1)=v - 1:=wrap64 (by omega) (by omega)
        have hwb:wkB L k=⟨-1,0⟩:=if_pos hk0
        rw [hwb] at hv
        have hc1:chC L (k+1)=v - 1:=by
         unfold chC
         rw [if_neg (by omega)]
         rw [hk0,List.drop_zero] at hv
         rw [hv]
        repeat' (first|(apply nx;with_reducible constructor)|refine jq (by decide) ?_|((first|refine kz env fun Q hQ=>?_|refine kj fun Q hQ=>?_);simp only [vkt,seval,qN,wu,qh,qd,qy,qB,qR,zK,wo,zJ,qa,qb,qx,ql,mTk,qc,qg,qf,qm,plL,zn,qF,xm,nxL,jb,chT,chS,crL,c2O,c2T,c2S,c3S,c4S,jc,List.length_map,nth,hwL,Nat.zero_add,Nat.sub_zero,d4,d5,d6,e9,ik,hv,hNx,wv,hwl,hkm];(try simp only [ite_and]);(repeat' (first|with_reducible assumption|refine And.intro ?_ ?_|intro hp));all_goals (first|(refine hQ _ ?_;clear hQ Q)|(refine hQ _ (fun h=>?_) (fun h=>?_) <;> clear hQ Q <;> (try simp only [vki,reduceCtorEq] at h))|(refine kx ?_;kernel_rfl)|omega|assumption|with_reducible rfl|skip)))
        refine ⟨⟨k+1,hkl⟩,by show i - (k+1) < i - k;omega, ?_⟩
        simp only [hS,hc1]
        (refine Le.ok (fun i=>if i=27 then some 31 else some i) [] ?_;constructor;all_goals (try simp only [vle,vkt,seval,qN,wu,qh,qd,qy,qB,qR,zK,wo,zJ,qa,qb,qx,ql,mTk,qc,qg,qf,qm,plL,zn,qF,xm,nxL,jb,chT,chS,crL,c2O,c2T,c2S,c3S,c4S,jc,List.length_map,nth,hwL,Nat.zero_add,Nat.sub_zero]))
        all_goals first|rfl|(rw [List.map_append];rfl)|(simp [ADf.le,ADf.ids];done)|(intro i hi;rw [if_neg (by omega)];done)
       ·have d5:decide ((0:Int) < (k:Int))=true:=decide_eq_true (by omega)
        have d6:decide ((k:Int)=0)=false:=decide_eq_false (by omega)
        have wk:IntKind.wrap .i64 ((k:Int) - 1)=((k - 1:Nat):Int):=by rw [wrap64 (by omega) (by omega)];omega
        have ik1:(((k - 1:Nat):Int)).toNat=k - 1:=rfl
        have hk1:k - 1 < k:=by omega
        have hgb:=hBunk (l:=wkK L k) (n:=k - 1) (by omega)
        obtain ⟨b,hb⟩:∃ b,wkB L k=b:=⟨_,rfl⟩
        rw [show (wkK L k).getD (k - 1) default=b by rw [← hb];unfold wkB;rw [if_neg hk0]] at hgb
        rw [hb] at hv
        have eb:(⟨b.cab,b.bed⟩:Bunk)=b:=rfl
        have hc1:chC L (k+1)=chC L k:=by
         unfold chC
         rw [if_neg (by omega),if_neg hk0]
        repeat' (first|(apply nx;with_reducible constructor)|refine jq (by decide) ?_|((first|refine kz env fun Q hQ=>?_|refine kj fun Q hQ=>?_);simp only [vkt,seval,qN,wu,qh,qd,qy,qB,qR,zK,wo,zJ,qa,qb,qx,ql,mTk,qc,qg,qf,qm,plL,zn,qF,xm,nxL,jb,chT,chS,crL,c2O,c2T,c2S,c3S,c4S,jc,List.length_map,nth,hwL,Nat.zero_add,Nat.sub_zero,d4,d5,d6,e9,ik,wk,ik1,hk1,hgb,eb,hv,hNx,hwl,hkm];(try simp only [ite_and]);(repeat' (first|with_reducible assumption|refine And.intro ?_ ?_|intro hp));all_goals (first|(refine hQ _ ?_;clear hQ Q)|(refine hQ _ (fun h=>?_) (fun h=>?_) <;> clear hQ Q <;> (try simp only [vki,reduceCtorEq] at h))|(refine kx ?_;kernel_rfl)|omega|assumption|with_reducible rfl|skip)))
        refine ⟨⟨k+1,hkl⟩,by show i - (k+1) < i - k;omega, ?_⟩
        simp only [hS,hc1]
        (refine Le.ok (fun i=>if i=27 then some 31 else some i) [] ?_;constructor;all_goals (try simp only [vle,vkt,seval,qN,wu,qh,qd,qy,qB,qR,zK,wo,zJ,qa,qb,qx,ql,mTk,qc,qg,qf,qm,plL,zn,qF,xm,nxL,jb,chT,chS,crL,c2O,c2T,c2S,c3S,c4S,jc,List.length_map,nth,hwL,Nat.zero_add,Nat.sub_zero]))
        all_goals first|rfl|(rw [List.map_append];rfl)|(simp [ADf.le,ADf.ids];done)|(intro i hi;rw [if_neg (by omega)];done)
      ·have d4:decide ((k:Int) < (i:Int))=false:=decide_eq_false (by omega)
       have hke:k=L.length:=by omega
       have hww:=QjD L
       have hcc:chC L L.length=(yY L ⟨-1,0⟩).2 - 1:=if_neg (by omega)
       rw [hke,hww,hcc]
       rw [hke] at d4
       repeat' (first|(apply nx;with_reducible constructor)|refine jq (by decide) ?_|((first|refine kz env fun Q hQ=>?_|refine kj fun Q hQ=>?_);simp only [vkt,seval,qN,wu,qh,qd,qy,qB,qR,zK,wo,zJ,qa,qb,qx,ql,mTk,qc,qg,qf,qm,plL,zn,qF,xm,nxL,jb,chT,chS,crL,c2O,c2T,c2S,c3S,c4S,jc,List.length_map,nth,hwL,Nat.zero_add,Nat.sub_zero,d4];(try simp only [ite_and]);(repeat' (first|with_reducible assumption|refine And.intro ?_ ?_|intro hp));all_goals (first|(refine hQ _ ?_;clear hQ Q)|(refine hQ _ (fun h=>?_) (fun h=>?_) <;> clear hQ Q <;> (try simp only [vki,reduceCtorEq] at h))|(refine kx ?_;kernel_rfl)|omega|assumption|with_reducible rfl|skip)))
       simp only [vrt,Tryz.results17,vkt,seval,qN,wu,qh,qd,qy,qB,qR,zK,wo,zJ,qa,qb,qx,ql,mTk,qc,qg,qf,qm,plL,zn,qF,xm,nxL,jb,chT,chS,crL,c2O,c2T,c2S,c3S,c4S,jc,List.length_map,nth,hwL,Nat.zero_add,Nat.sub_zero]
       show Fin _ _ _ 0 (qj []) 0
       refine Fin.ok some [27] ?_ ?_ ?_ ?_ ?_ rfl
       all_goals (try simp only [vle,vkt,seval,qN,wu,qh,qd,qy,qB,qR,zK,wo,zJ,qa,qb,qx,ql,mTk,qc,qg,qf,qm,plL,zn,qF,xm,nxL,jb,chT,chS,crL,c2O,c2T,c2S,c3S,c4S,jc,List.length_map,nth,hwL,Nat.zero_add,Nat.sub_zero])
       all_goals first|rfl|(simp;done)|(simp [ADf.le,ADf.ids];done)
 ·rw [if_pos (by simpa using h0)]
  repeat' (first|(apply nx;with_reducible constructor)|refine jq (by decide) ?_|((first|refine kz env fun Q hQ=>?_|refine kj fun Q hQ=>?_);simp only [vkt,seval,qN,wu,qh,qd,qy,qB,qR,zK,wo,zJ,qa,qb,qx,ql,mTk,qc,qg,qf,qm,plL,zn,qF,xm,nxL,jb,chT,chS,crL,c2O,c2T,c2S,c3S,c4S,jc,List.length_map,nth,hwL,Nat.zero_add,Nat.sub_zero,ec,ea,h0];(try simp only [ite_and]);(repeat' (first|with_reducible assumption|refine And.intro ?_ ?_|intro hp));all_goals (first|(refine hQ _ ?_;clear hQ Q)|(refine hQ _ (fun h=>?_) (fun h=>?_) <;> clear hQ Q <;> (try simp only [vki,reduceCtorEq] at h))|(refine kx ?_;kernel_rfl)|omega|assumption|with_reducible rfl|skip)))
  (simp only [vrt,Tryz.results17,vkt,seval,qN,wu,qh,qd,qy,qB,qR,zK,wo,zJ,qa,qb,qx,ql,mTk,qc,qg,qf,qm,plL,zn,qF,xm,nxL,jb,chT,chS,crL,c2O,c2T,c2S,c3S,c4S,jc,List.length_map,nth,hwL,Nat.zero_add,Nat.sub_zero];refine Fin.val rfl ?_;(try simp only [AV.le,AV.leL]))
  all_goals first|rfl|(simp;done)
def Y6 (l m:List Tr) (k:Nat):St:={ t:=asg [(0,qY l),(1,qY m),(4,aB false),(5,aI k)],h:=qj [],n:=0 }
def yI:=kk @ty3 (kk @Qd8 (kk @Qel (kk @ti3.eq_1 (kk @UX.eq_1 @UL.eq_1))))
def xX:=kk @aI.eq_1 (@aB.eq_1)
theorem Qke (l m:List Tr) (hl:l.length≤1000) (hm:m.length≤1000):FnV Tryz.prog 27 [qY l,qY m] (aB (decide (l=m))):=by
 have env:Env (fun _=>True) Tryz.prog tyB (tab []):=qO trivial
 refine Fn.of (A:=fun _=>True) (n0:=0) (D:=noD) (Fn0 Tryz.func27 rfl (fun vs w=>by kernel_rfl) (by kernel_rfl)) (by simp) (by simp [AV.ids,qY]) (fun i o h=>by cases h) (fun _ _ _ _=>trivial) qG ?_
 by_cases h0:l.length=m.length
 ·have d0:decide ((l.length:Int)=(m.length:Int))=true:=decide_eq_true (by omega)
  repeat' (first|(apply nx;with_reducible constructor)|refine jq (by decide) ?_|((first|refine kz env fun Q hQ=>?_|refine kj fun Q hQ=>?_);simp only [vkt,seval,yI,xX,qY,eTr,gTr,Y6,Bool.true_and,Bool.false_and,d0];(try simp only [ite_and]);(repeat' (first|with_reducible assumption|refine And.intro ?_ ?_|intro hp));all_goals (first|(refine hQ _ ?_;clear hQ Q)|(refine hQ _ (fun h=>?_) (fun h=>?_) <;> clear hQ Q <;> (try simp only [vki,reduceCtorEq] at h))|(refine kx ?_;kernel_rfl)|omega|assumption|with_reducible rfl|skip)))
  refine zt (fun k:{ k:Nat // k≤l.length∧∀ j,j < k→l.getD j default=m.getD j default }=>Y6 l m k.1) (fun k=>l.length - k.1) ⟨0,Nat.zero_le _,fun j h=>absurd h (Nat.not_lt_zero _)⟩ ?_ fun ⟨k,hk,hno⟩=>?_
  ·(refine Le.ok some [] ?_;constructor;all_goals (try simp only [vle,vkt,seval,yI,xX,qY,eTr,gTr,Y6,Bool.true_and,Bool.false_and]))
   all_goals first|rfl|(simp;done)
  ·repeat' (first|(apply nx;with_reducible constructor)|refine jq (by decide) ?_)
   (refine kz env fun Q hQ=>?_;simp only [vkt,seval,yI,xX,qY,eTr,gTr,Y6,Bool.true_and,Bool.false_and];(try simp only [ite_and]);(repeat' (first|with_reducible assumption|refine And.intro ?_ ?_|intro hp));all_goals (first|(refine hQ _ ?_;clear hQ Q)|(refine kx ?_;kernel_rfl)|omega|assumption|with_reducible rfl|skip))
   repeat' (first|(apply nx;with_reducible constructor)|refine jq (by decide) ?_)
   (refine yf (by simp only [vkt,seval,yI,xX,qY,eTr,gTr,Y6,Bool.true_and,Bool.false_and];rfl) (fun h=>?_) (fun h=>?_) <;> (try simp only [vki,reduceCtorEq] at h))
   ·have hlt:k < l.length:=by omega
    have hlm:k < m.length:=by omega
    have e9:IntKind.wrap .i64 ((k:Int)+1)=((k+1:Nat):Int):=by rw [wrap64 (by omega) (by omega)];rfl
    obtain ⟨x,hx⟩:∃ x,l.getD k default=x:=⟨_,rfl⟩
    obtain ⟨y,hy⟩:∃ x,m.getD k default=x:=⟨_,rfl⟩
    have hxy:(x=y)=(x.ticket=y.ticket∧x.cab=y.cab∧x.bed=y.bed):=by cases x;cases y;simp
    have hne:¬ x=y→decide (l=m)=false:=fun h=>decide_eq_false fun e=>h (by rw [← hx,← hy,e])
    by_cases hxe:x=y
    ·rw [hxe] at hx
     repeat' (first|(apply nx;with_reducible constructor)|refine jq (by decide) ?_|((first|refine kz env fun Q hQ=>?_|refine kj fun Q hQ=>?_);simp only [vkt,seval,yI,xX,qY,eTr,gTr,Y6,Bool.true_and,Bool.false_and,hx,hy,hlm,e9,decide_true];(try simp only [ite_and]);(repeat' (first|with_reducible assumption|refine And.intro ?_ ?_|intro hp));all_goals (first|(refine hQ _ ?_;clear hQ Q)|(refine hQ _ (fun h=>?_) (fun h=>?_) <;> clear hQ Q <;> (try simp only [vki,reduceCtorEq] at h))|(refine kx ?_;kernel_rfl)|omega|assumption|with_reducible rfl|skip)))
     refine ⟨⟨k+1,hlt,fun j hj=>?_⟩,by show l.length - (k+1) < l.length - k;omega, ?_⟩
     ·rcases Nat.lt_or_eq_of_le (Nat.le_of_lt_succ hj) with h1|h1
      ·exact hno j h1
      ·rw [h1,hx,hy]
     ·(refine Le.ok some [] ?_;constructor;all_goals (try simp only [vle,vkt,seval,yI,xX,qY,eTr,gTr,Y6,Bool.true_and,Bool.false_and]))
      all_goals first|rfl|(simp;done)
    ·rw [hne hxe]
     have q:(decide (x.ticket=y.ticket) && (decide (x.cab=y.cab) && decide (x.bed=y.bed)))=false:=by
      rw [hxy] at hxe
      simpa using hxe
     repeat' (first|(apply nx;with_reducible constructor)|refine jq (by decide) ?_|((first|refine kz env fun Q hQ=>?_|refine kj fun Q hQ=>?_);simp only [vkt,seval,yI,xX,qY,eTr,gTr,Y6,Bool.true_and,Bool.false_and,hx,hy,q,hlm,e9];(try simp only [ite_and]);(repeat' (first|with_reducible assumption|refine And.intro ?_ ?_|intro hp));all_goals (first|(refine hQ _ ?_;clear hQ Q)|(refine hQ _ (fun h=>?_) (fun h=>?_) <;> clear hQ Q <;> (try simp only [vki,reduceCtorEq] at h))|(refine kx ?_;kernel_rfl)|omega|assumption|with_reducible rfl|skip)))
     (simp only [vrt,Tryz.results27,vkt,seval,yI,xX,qY,eTr,gTr,Y6,Bool.true_and,Bool.false_and];refine Fin.val rfl ?_;(try simp only [AV.le,AV.leL]))
     all_goals first|rfl|(simp;done)
   ·have hke:k=l.length:=by omega
    subst hke
    rw [decide_eq_true (WM h0 hno)]
    repeat' (first|(apply nx;with_reducible constructor)|refine jq (by decide) ?_|((first|refine kz env fun Q hQ=>?_|refine kj fun Q hQ=>?_);simp only [vkt,seval,yI,xX,qY,eTr,gTr,Y6,Bool.true_and,Bool.false_and];(try simp only [ite_and]);(repeat' (first|with_reducible assumption|refine And.intro ?_ ?_|intro hp));all_goals (first|(refine hQ _ ?_;clear hQ Q)|(refine hQ _ (fun h=>?_) (fun h=>?_) <;> clear hQ Q <;> (try simp only [vki,reduceCtorEq] at h))|(refine kx ?_;kernel_rfl)|omega|assumption|with_reducible rfl|skip)))
    (simp only [vrt,Tryz.results27,vkt,seval,yI,xX,qY,eTr,gTr,Y6,Bool.true_and,Bool.false_and];refine Fin.val rfl ?_;(try simp only [AV.le,AV.leL]))
    all_goals first|rfl|(simp;done)
 ·have d0:decide ((l.length:Int)=(m.length:Int))=false:=decide_eq_false (by omega)
  rw [decide_eq_false (fun e=>h0 (by rw [e]))]
  repeat' (first|(apply nx;with_reducible constructor)|refine jq (by decide) ?_|((first|refine kz env fun Q hQ=>?_|refine kj fun Q hQ=>?_);simp only [vkt,seval,yI,xX,qY,eTr,gTr,Y6,Bool.true_and,Bool.false_and,d0];(try simp only [ite_and]);(repeat' (first|with_reducible assumption|refine And.intro ?_ ?_|intro hp));all_goals (first|(refine hQ _ ?_;clear hQ Q)|(refine hQ _ (fun h=>?_) (fun h=>?_) <;> clear hQ Q <;> (try simp only [vki,reduceCtorEq] at h))|(refine kx ?_;kernel_rfl)|omega|assumption|with_reducible rfl|skip)))
  (simp only [vrt,Tryz.results27,vkt,seval,yI,xX,qY,eTr,gTr,Y6,Bool.true_and,Bool.false_and];refine Fin.val rfl ?_;(try simp only [AV.le,AV.leL]))
  all_goals first|rfl|(simp;done)
def Vy:List AV→Prop × AV
 |[.sl l,.sl m]=>(l=(l.map dTr).map eTr∧m=(m.map dTr).map eTr∧(l.map dTr).length≤1000∧(m.map dTr).length≤1000,aB (decide ((l.map dTr)=(m.map dTr))))
 |_=>(False,.junk)
theorem eeqT {A:Frm→Prop}:qC A Tryz.prog 27 (za true Vy):=zx fun vs hv h=>by
 clear hv
 unfold Vy at h ⊢
 split at h
 ·rename_i l m;obtain ⟨q0,q1,k0,k1⟩:=h
  refine ⟨by first|trivial|(simp [AV.plain,AV.plainL,aI,aB,qD,qd,qw,qh,aTk,cTk];done)|(repeat' split) <;> simp [AV.plain,AV.plainL,aI,aB,qD,qd,qw,qh,aTk,cTk],fun _=>(by simp [AV.flat,AV.flatL,aI,aB]), ?_⟩
  have:=Qke (l.map dTr) (m.map dTr) k0 k1
  simp only [qY,← q0,← q1] at this
  first|exact this|(simp only [qY,← q0,← q1];exact this)
 ·exact h.elim
def zH:List AV→Prop × AV
 |[.sl m]=>(m=(m.map dTk).map eTk∧(m.map dTk).length≤100,qa (zw (m.map dTk)))
 |_=>(False,.junk)
theorem Qbs {A:Frm→Prop}:qC A Tryz.prog 4 (za false zH):=zx fun vs hv h=>by
 clear hv
 unfold zH at h ⊢
 split at h
 ·rename_i m;obtain ⟨q0,k0⟩:=h
  refine ⟨by first|trivial|(simp [AV.plain,AV.plainL,aI,aB,qD,qd,qw,qh,aTk,cTk];done)|(repeat' split) <;> simp [AV.plain,AV.plainL,aI,aB,qD,qd,qw,qh,aTk,cTk],fun h=>absurd h (by decide), ?_⟩
  have:=Qe2 (m.map dTk) k0
  simp only [qw,← q0] at this
  first|exact this|(simp only [qw,← q0];exact this)
 ·exact h.elim
def wO:List AV→Prop × AV
 |[.v (.int .i64 f),.v (.int .i64 t),.v (.bool d),.sl l]=>(l=(l.map zQ).map wz,qx ⟨9,f,t,(l.map zQ),d⟩)
 |_=>(False,.junk)
theorem Qjp {A:Frm→Prop}:qC A Tryz.prog 14 (za false wO):=zx fun vs hv h=>by
 clear hv
 unfold wO at h ⊢
 split at h
 ·rename_i f t d l;have q0:l=(l.map zQ).map wz:=h;clear h
  refine ⟨by first|trivial|(simp [AV.plain,AV.plainL,aI,aB,qD,qd,qw,qh,aTk,cTk];done)|(repeat' split) <;> simp [AV.plain,AV.plainL,aI,aB,qD,qd,qw,qh,aTk,cTk],fun h=>absurd h (by decide), ?_⟩
  have:=QhS f t d (l.map zQ)
  simp only [aB,aI,qD,← q0] at this
  first|exact this|(simp only [aB,aI,qD,← q0];exact this)
 ·exact h.elim
theorem zz (a b:Int):ji [.v (.int .i64 a),.v (.int .i64 b)]=⟨a,b⟩:=rfl
theorem wW (a b c:Int):dTr [.v (.int .i64 a),.v (.int .i64 b),.v (.int .i64 c)]=⟨a,b,c⟩:=rfl
theorem zU (a:Int):zQ [.v (.int .i64 a)]=a:=rfl
theorem Qi7 (a b c d e f:Int) (g:Bool):dTk [.v (.int .i64 a),.v (.int .i64 b),.v (.int .i64 c),.v (.int .i64 d),.v (.int .i64 e),.v (.int .i64 f),.v (.bool g)]=⟨a,b,c,d,e,f,g⟩:=rfl
def ZF:List Tk:=[⟨3,1,2,0,0,4,false⟩,⟨4,2,1,1,2,4,false⟩]
def YH:=kk @QV (kk @xg (kk @xB (kk @Qh.eq_1 (kk @y9.eq_1 @vJ.eq_1))))
def Qcw:=kk @aI.eq_1 (@aB.eq_1)
theorem Qex:FnV Tryz.prog 19 [] (qa (zw ZF)):=by
 have env:Env (fun _=>True) Tryz.prog tyB (tab [(12,za false wL),(4,za false zH)]):=qO ⟨QcV,Qbs,trivial⟩
 refine Fn.of (A:=fun _=>True) (n0:=0) (D:=noD) (Fn0 Tryz.func19 rfl (fun vs w=>by kernel_rfl) (by kernel_rfl)) (by simp) (by simp) (fun i o h=>by cases h) (fun _ _ _ _=>trivial) qG ?_
 have hlen:([⟨3,1,2,0,0,4,false⟩,⟨4,2,1,1,2,4,false⟩]:List Tk).length≤100:=by decide
 have hfl:([⟨3,1,2,0,0,4,false⟩,⟨4,2,1,1,2,4,false⟩]:List Tk)=ZF:=rfl
 repeat' (first|(apply nx;with_reducible constructor)|refine jq (by decide) ?_|((first|refine kz env fun Q hQ=>?_|refine kj fun Q hQ=>?_);simp only [vkt,seval,YH,Qcw,aTk,cTk,eTk,qw,qa,qb,wL,zH,Qi7,List.length_map,List.map_cons,List.map_nil,hlen,hfl];(try simp only [ite_and]);(repeat' (first|with_reducible assumption|refine And.intro ?_ ?_|intro hp));all_goals (first|(refine hQ _ ?_;clear hQ Q)|(refine hQ _ (fun h=>?_) (fun h=>?_) <;> clear hQ Q <;> (try simp only [vki,reduceCtorEq] at h))|(refine kx ?_;kernel_rfl)|omega|assumption|with_reducible rfl|skip)))
 ·rfl
 (simp only [vrt,Tryz.results19,vkt,seval,YH,Qcw,aTk,cTk,eTk,qw,qa,qb,wL,zH,Qi7,List.length_map,List.map_cons,List.map_nil];refine Fin.val rfl ?_;(try simp only [AV.le,AV.leL]))
 all_goals first|rfl|(simp;done)
def zl:List AV→Prop × AV
 |[]=>(True,qa (zw ZF))
 |_=>(False,.junk)
theorem Qdi {A:Frm→Prop}:qC A Tryz.prog 19 (za false zl):=zx fun vs hv h=>by
 clear hv
 unfold zl at h ⊢
 split at h
 ·clear h
  refine ⟨by first|trivial|(simp [AV.plain,AV.plainL,aI,aB,qD,qd,qw,qh,aTk,cTk];done)|(repeat' split) <;> simp [AV.plain,AV.plainL,aI,aB,qD,qd,qw,qh,aTk,cTk],fun h=>absurd h (by decide), ?_⟩
  have:=Qex
  first|exact this|(simp only [];exact this)
 ·exact h.elim
def QQ:List AV→Prop × AV
 |[.agg [.sl c0,.v (.int .i64 c1),.sl c2]]=>(c0=(c0.map qA).map qo∧c2=(c2.map dTk).map eTk∧((⟨(c0.map qA),c1,(c2.map dTk)⟩:Chart)).cabins.length≤maxLen,.tup [aI (QcQ ((⟨(c0.map qA),c1,(c2.map dTk)⟩:Chart))),aI (zS ((⟨(c0.map qA),c1,(c2.map dTk)⟩:Chart)))])
 |_=>(False,.junk)
theorem Qkj {A:Frm→Prop}:qC A Tryz.prog 26 (za true QQ):=zx fun vs hv h=>by
 clear hv
 unfold QQ at h ⊢
 split at h
 ·rename_i c0 c1 c2;obtain ⟨q0,q1,k0⟩:=h
  refine ⟨by first|trivial|(simp [AV.plain,AV.plainL,aI,aB,qD,qd,qw,qh,aTk,cTk];done)|(repeat' split) <;> simp [AV.plain,AV.plainL,aI,aB,qD,qd,qw,qh,aTk,cTk],fun _=>(by simp [AV.flat,AV.flatL,aI,aB]), ?_⟩
  have:=QiU ((⟨(c0.map qA),c1,(c2.map dTk)⟩:Chart)) k0
  simp only [zb,qa,aI,qw,qb,← q0,← q1] at this
  first|exact this|(simp only [zb,qa,aI,qw,qb,← q0,← q1];exact this)
 ·exact h.elim
def zo:List AV→Prop × AV
 |[.agg [.sl c0,.v (.int .i64 c1),.sl c2],.agg [.v (.int .i64 a0),.v (.int .i64 a1),.v (.int .i64 a2),.sl a3,.v (.bool a4)]]=>(c0=(c0.map qA).map qo∧c2=(c2.map dTk).map eTk∧a3=(a3.map zQ).map wz∧((⟨(c0.map qA),c1,(c2.map dTk)⟩:Chart)).cabins.length≤maxLen∧((⟨a0,a1,a2,(a3.map zQ),a4⟩:Ask)).sexes.length≤maxLen,.tup [qd (yV ((⟨(c0.map qA),c1,(c2.map dTk)⟩:Chart)) ((⟨a0,a1,a2,(a3.map zQ),a4⟩:Ask))).1,aI (yV ((⟨(c0.map qA),c1,(c2.map dTk)⟩:Chart)) ((⟨a0,a1,a2,(a3.map zQ),a4⟩:Ask))).2])
 |_=>(False,.junk)
theorem QbD {A:Frm→Prop}:qC A Tryz.prog 13 (za false zo):=zx fun vs hv h=>by
 clear hv
 unfold zo at h ⊢
 split at h
 ·rename_i c0 c1 c2 a0 a1 a2 a3 a4;obtain ⟨q0,q1,q2,k0,k1⟩:=h
  refine ⟨by first|trivial|(simp [AV.plain,AV.plainL,aI,aB,qD,qd,qw,qh,aTk,cTk];done)|(repeat' split) <;> simp [AV.plain,AV.plainL,aI,aB,qD,qd,qw,qh,aTk,cTk],fun h=>absurd h (by decide), ?_⟩
  have:=Qhq ((⟨(c0.map qA),c1,(c2.map dTk)⟩:Chart)) ((⟨a0,a1,a2,(a3.map zQ),a4⟩:Ask)) k0 k1
  simp only [qx,aB,zb,qa,aI,qD,qw,ql,qb,← q0,← q1,← q2] at this
  first|exact this|(simp only [qx,aB,zb,qa,aI,qD,qw,ql,qb,← q0,← q1,← q2];exact this)
 ·exact h.elim
def qW:List AV→Prop × AV
 |[.agg [.sl c0,.v (.int .i64 c1),.sl c2],.agg [.v (.int .i64 a0),.v (.int .i64 a1),.v (.int .i64 a2),.sl a3,.v (.bool a4)]]=>(c0=(c0.map qA).map qo∧c2=(c2.map dTk).map eTk∧a3=(a3.map zQ).map wz∧((⟨(c0.map qA),c1,(c2.map dTk)⟩:Chart)).cabins.length≤maxLen∧((⟨a0,a1,a2,(a3.map zQ),a4⟩:Ask)).sexes.length≤maxLen,.tup [qd (Q9 ((⟨(c0.map qA),c1,(c2.map dTk)⟩:Chart)) ((⟨a0,a1,a2,(a3.map zQ),a4⟩:Ask))).1,aI (Q9 ((⟨(c0.map qA),c1,(c2.map dTk)⟩:Chart)) ((⟨a0,a1,a2,(a3.map zQ),a4⟩:Ask))).2.1,aI (Q9 ((⟨(c0.map qA),c1,(c2.map dTk)⟩:Chart)) ((⟨a0,a1,a2,(a3.map zQ),a4⟩:Ask))).2.2])
 |_=>(False,.junk)
theorem Qap {A:Frm→Prop}:qC A Tryz.prog 17 (za false qW):=zx fun vs hv h=>by
 clear hv
 unfold qW at h ⊢
 split at h
 ·rename_i c0 c1 c2 a0 a1 a2 a3 a4;obtain ⟨q0,q1,q2,k0,k1⟩:=h
  refine ⟨by first|trivial|(simp [AV.plain,AV.plainL,aI,aB,qD,qd,qw,qh,aTk,cTk];done)|(repeat' split) <;> simp [AV.plain,AV.plainL,aI,aB,qD,qd,qw,qh,aTk,cTk],fun h=>absurd h (by decide), ?_⟩
  have:=QeQ ((⟨(c0.map qA),c1,(c2.map dTk)⟩:Chart)) ((⟨a0,a1,a2,(a3.map zQ),a4⟩:Ask)) k0 k1
  simp only [qx,aB,zb,qa,aI,qD,qw,ql,qb,← q0,← q1,← q2] at this
  first|exact this|(simp only [qx,aB,zb,qa,aI,qD,qw,ql,qb,← q0,← q1,← q2];exact this)
 ·exact h.elim
def zm:List AV→Prop × AV
 |[.agg [.sl c0,.v (.int .i64 c1),.sl c2],.agg [.v (.int .i64 a0),.v (.int .i64 a1),.v (.int .i64 a2),.sl a3,.v (.bool a4)]]=>(c0=(c0.map qA).map qo∧c2=(c2.map dTk).map eTk∧a3=(a3.map zQ).map wz∧((⟨(c0.map qA),c1,(c2.map dTk)⟩:Chart)).cabins.length≤maxLen∧((⟨a0,a1,a2,(a3.map zQ),a4⟩:Ask)).sexes.length≤maxLen,.tup [qY (QS ((⟨(c0.map qA),c1,(c2.map dTk)⟩:Chart)) ((⟨a0,a1,a2,(a3.map zQ),a4⟩:Ask))).1,aI (QS ((⟨(c0.map qA),c1,(c2.map dTk)⟩:Chart)) ((⟨a0,a1,a2,(a3.map zQ),a4⟩:Ask))).2])
 |_=>(False,.junk)
theorem QcK {A:Frm→Prop}:qC A Tryz.prog 21 (za false zm):=zx fun vs hv h=>by
 clear hv
 unfold zm at h ⊢
 split at h
 ·rename_i c0 c1 c2 a0 a1 a2 a3 a4;obtain ⟨q0,q1,q2,k0,k1⟩:=h
  refine ⟨by first|trivial|(simp [AV.plain,AV.plainL,aI,aB,qD,qd,qw,qh,aTk,cTk];done)|(repeat' split) <;> simp [AV.plain,AV.plainL,aI,aB,qD,qd,qw,qh,aTk,cTk],fun h=>absurd h (by decide), ?_⟩
  have:=Qg9 ((⟨(c0.map qA),c1,(c2.map dTk)⟩:Chart)) ((⟨a0,a1,a2,(a3.map zQ),a4⟩:Ask)) k0 k1
  simp only [qx,aB,zb,qa,aI,qD,qw,ql,qb,← q0,← q1,← q2] at this
  first|exact this|(simp only [qx,aB,zb,qa,aI,qD,qw,ql,qb,← q0,← q1,← q2];exact this)
 ·exact h.elim
def vX (_:St):List AV→Option Pk
 |[.agg [.sl cs,.v (.int .i64 s),.sl ts],.agg [.v (.int .i64 p),.v (.int .i64 f),.v (.int .i64 t),.sl xs,.v (.bool d)]]=>some { pre:=cs=(cs.map qA).map qo∧ts=(ts.map dTk).map eTk∧xs=(xs.map zQ).map wz∧cs.length≤maxLen∧xs.length≤maxLen,ar:=[.agg [.sl cs,.v (.int .i64 s),.sl ts],.agg [.v (.int .i64 p),.v (.int .i64 f),.v (.int .i64 t),.sl xs,.v (.bool d)]],v:=.tup [.row 0,aI (wX ⟨cs.map qA,s,ts.map dTk⟩ ⟨p,f,t,xs.map zQ,d⟩)],L1:=[some (.row 43 1 ((xZ ⟨cs.map qA,s,ts.map dTk⟩ ⟨p,f,t,xs.map zQ,d⟩).map qB))] }
 |_=>none
theorem Qfu {A:Frm→Prop}:qC A Tryz.prog 15 (fnE vX):=wK fun S bs q h hp=>by
 unfold vX at h
 split at h
 ·rename_i cs s ts p f t xs d
  cases h
  obtain ⟨h1,h2,h3,h4,h5⟩:=hp
  have:=Vn ⟨cs.map qA,s,ts.map dTk⟩ ⟨p,f,t,xs.map zQ,d⟩ (by simpa using h4) (by simpa using h5)
  simp only [qa,qb,qx,ql,← h1,← h2,← h3] at this
  exact this
 ·cases h
theorem Qhy:QcQ (zw [])=7∧zS (zw [])=0:=by decide +kernel
theorem Qey:wX (zw []) ⟨9,0,4,[1],false⟩=0∧xZ (zw []) ⟨9,0,4,[1],false⟩=[[⟨0,1⟩],[⟨2,0⟩]]:=by decide +kernel
theorem QhT:yV (zw []) ⟨9,2,4,[2,1],false⟩=([⟨0,0⟩,⟨0,1⟩],0):=by decide +kernel
theorem Qd4:Q9 (zw ZF) ⟨9,0,4,[2],false⟩=([⟨1,1⟩,⟨1,1⟩,⟨0,0⟩,⟨0,0⟩],1,0):=by decide +kernel
theorem QgA:QS (zw ZF) ⟨9,0,4,[1],true⟩=([⟨2,0,1⟩],0):=by decide +kernel
def jN:=kk @ty3 (kk @QU (kk @Zu (kk @WE (kk @YM (kk @Qfb (kk @Qd8 (kk @Qel (kk @ti3.eq_1 (kk @Qi.eq_1 (kk @QP.eq_1 (kk @Zr.eq_1 (kk @JN.eq_1 (kk @QaG.eq_1 (kk @UX.eq_1 @UL.eq_1))))))))))))))
def Q3:=kk @aI.eq_1 (kk @aB.eq_1 (kk @qD.eq_1 (kk @wz.eq_1 (@QJ))))
set_option maxRecDepth 100000 in
set_option maxHeartbeats 4000000 in
theorem QaX:FnV Tryz.prog 6 [] (aB true):=by
 have env:Env (fun _=>True) Tryz.prog tyB (tab [(4,za false zH),(19,za false zl),(14,za false wO),(26,za true QQ),(15,fnE vX),(13,za false zo),(17,za false qW),(21,za false zm),(5,za false wC),(16,za true seqB),(27,za true Vy)]):=qO ⟨Qbs,Qdi,Qjp,Qkj,Qfu,QbD,Qap,QcK,QcO,eeqB,eeqT,trivial⟩
 refine Fn.of (A:=fun _=>True) (n0:=0) (D:=noD) (Fn0 Tryz.func6 rfl (fun vs w=>by kernel_rfl) (by kernel_rfl)) (by simp) (by simp) (fun i o h=>by cases h) (fun _ _ _ _=>trivial) qG ?_
 have h1:=Qhy
 have h2:=Qey
 have h3:=QhT
 have h4:=Qd4
 have h5:=QgA
 obtain ⟨C,hC⟩:∃ C,zw []=C:=⟨_,rfl⟩
 obtain ⟨D,hD⟩:∃ D,zw ZF=D:=⟨_,rfl⟩
 have eC:(⟨C.cabins,C.secs,C.sold⟩:Chart)=C:=rfl
 have eD:(⟨D.cabins,D.secs,D.sold⟩:Chart)=D:=rfl
 have m1:(1:Nat)≤maxLen:=by decide
 have m2:(2:Nat)≤maxLen:=by decide
 have c1:C.cabins.length≤maxLen:=by rw [← hC];decide
 have c2:D.cabins.length≤maxLen:=by rw [← hD];decide
 rw [hC] at h1 h2 h3
 rw [hD] at h4 h5
 obtain ⟨h1a,h1b⟩:=h1
 obtain ⟨h2a,h2b⟩:=h2
 repeat' (first|(apply nx;with_reducible constructor)|refine jq (by decide) ?_)
 ((first|refine kz env fun Q hQ=>?_|refine kj fun Q hQ=>?_);simp only [vkt,seval,jN,Q3,qh,qd,qY,qy,qB,eTr,qa,qb,qx,ql,qc,mTk,zg,mTr,zz,wW,zU,QQ,vX,zo,qW,zm,zl,zH,wO,wC,seqB,Vy,List.length_map,List.map_cons,List.map_nil,List.getD_cons_zero,List.getD_cons_succ,List.length_cons,List.length_nil];(try simp only [ite_and]);(repeat' (first|with_reducible assumption|refine And.intro ?_ ?_|intro hp));all_goals (first|(refine hQ _ ?_;clear hQ Q)|(refine hQ _ (fun h=>?_) (fun h=>?_) <;> clear hQ Q <;> (try simp only [vki,reduceCtorEq] at h))|(refine kx ?_;kernel_rfl)|omega|assumption|with_reducible rfl|skip))
 repeat' (first|(apply nx;with_reducible constructor)|refine jq (by decide) ?_)
 ((first|refine kz env fun Q hQ=>?_|refine kj fun Q hQ=>?_);simp only [vkt,seval,jN,Q3,qh,qd,qY,qy,qB,eTr,qa,qb,qx,ql,qc,mTk,zg,mTr,zz,wW,zU,QQ,vX,zo,qW,zm,zl,zH,wO,wC,seqB,Vy,List.length_map,List.map_cons,List.map_nil,List.getD_cons_zero,List.getD_cons_succ,List.length_cons,List.length_nil,hC,eC,c1,h1a,h1b];(try simp only [ite_and]);(repeat' (first|with_reducible assumption|refine And.intro ?_ ?_|intro hp));all_goals (first|(refine hQ _ ?_;clear hQ Q)|(refine hQ _ (fun h=>?_) (fun h=>?_) <;> clear hQ Q <;> (try simp only [vki,reduceCtorEq] at h))|(refine kx ?_;kernel_rfl)|omega|assumption|with_reducible rfl|skip))
 repeat' (first|(apply nx;with_reducible constructor)|refine jq (by decide) ?_)
 ((first|refine kz env fun Q hQ=>?_|refine kj fun Q hQ=>?_);simp only [vkt,seval,jN,Q3,qh,qd,qY,qy,qB,eTr,qa,qb,qx,ql,qc,mTk,zg,mTr,zz,wW,zU,QQ,vX,zo,qW,zm,zl,zH,wO,wC,seqB,Vy,List.length_map,List.map_cons,List.map_nil,List.getD_cons_zero,List.getD_cons_succ,List.length_cons,List.length_nil,hC,eC,c1,h2a,h2b];(try simp only [ite_and]);(repeat' (first|with_reducible assumption|refine And.intro ?_ ?_|intro hp));all_goals (first|(refine hQ _ ?_;clear hQ Q)|(refine hQ _ (fun h=>?_) (fun h=>?_) <;> clear hQ Q <;> (try simp only [vki,reduceCtorEq] at h))|(refine kx ?_;kernel_rfl)|omega|assumption|with_reducible rfl|skip))
 repeat' (first|(apply nx;with_reducible constructor)|refine jq (by decide) ?_)
 ((first|refine kz env fun Q hQ=>?_|refine kj fun Q hQ=>?_);simp only [vkt,seval,jN,Q3,qh,qd,qY,qy,qB,eTr,qa,qb,qx,ql,qc,mTk,zg,mTr,zz,wW,zU,QQ,vX,zo,qW,zm,zl,zH,wO,wC,seqB,Vy,List.length_map,List.map_cons,List.map_nil,List.getD_cons_zero,List.getD_cons_succ,List.length_cons,List.length_nil,hC,eC,c1,h3];(try simp only [ite_and]);(repeat' (first|with_reducible assumption|refine And.intro ?_ ?_|intro hp));all_goals (first|(refine hQ _ ?_;clear hQ Q)|(refine hQ _ (fun h=>?_) (fun h=>?_) <;> clear hQ Q <;> (try simp only [vki,reduceCtorEq] at h))|(refine kx ?_;kernel_rfl)|omega|assumption|with_reducible rfl|skip))
 repeat' (first|(apply nx;with_reducible constructor)|refine jq (by decide) ?_)
 ((first|refine kz env fun Q hQ=>?_|refine kj fun Q hQ=>?_);simp only [vkt,seval,jN,Q3,qh,qd,qY,qy,qB,eTr,qa,qb,qx,ql,qc,mTk,zg,mTr,zz,wW,zU,QQ,vX,zo,qW,zm,zl,zH,wO,wC,seqB,Vy,List.length_map,List.map_cons,List.map_nil,List.getD_cons_zero,List.getD_cons_succ,List.length_cons,List.length_nil,hD,eD,c2,h4];(try simp only [ite_and]);(repeat' (first|with_reducible assumption|refine And.intro ?_ ?_|intro hp));all_goals (first|(refine hQ _ ?_;clear hQ Q)|(refine hQ _ (fun h=>?_) (fun h=>?_) <;> clear hQ Q <;> (try simp only [vki,reduceCtorEq] at h))|(refine kx ?_;kernel_rfl)|omega|assumption|with_reducible rfl|skip))
 repeat' (first|(apply nx;with_reducible constructor)|refine jq (by decide) ?_)
 ((first|refine kz env fun Q hQ=>?_|refine kj fun Q hQ=>?_);simp only [vkt,seval,jN,Q3,qh,qd,qY,qy,qB,eTr,qa,qb,qx,ql,qc,mTk,zg,mTr,zz,wW,zU,QQ,vX,zo,qW,zm,zl,zH,wO,wC,seqB,Vy,List.length_map,List.map_cons,List.map_nil,List.getD_cons_zero,List.getD_cons_succ,List.length_cons,List.length_nil,hD,eD,c2,h5];(try simp only [ite_and]);(repeat' (first|with_reducible assumption|refine And.intro ?_ ?_|intro hp));all_goals (first|(refine hQ _ ?_;clear hQ Q)|(refine hQ _ (fun h=>?_) (fun h=>?_) <;> clear hQ Q <;> (try simp only [vki,reduceCtorEq] at h))|(refine kx ?_;kernel_rfl)|omega|assumption|with_reducible rfl|skip))
 repeat' (first|(apply nx;with_reducible constructor)|refine jq (by decide) ?_)
 obtain ⟨p0,hp0⟩:∃ p:List Bunk,p=[⟨0,1⟩]:=⟨_,rfl⟩
 obtain ⟨p1,hp1⟩:∃ p:List Bunk,p=[⟨2,0⟩]:=⟨_,rfl⟩
 obtain ⟨p5,hp5⟩:∃ p:List Bunk,p=[⟨0,0⟩,⟨0,1⟩]:=⟨_,rfl⟩
 obtain ⟨p7,hp7⟩:∃ p:List Bunk,p=[⟨1,1⟩,⟨1,1⟩,⟨0,0⟩,⟨0,0⟩]:=⟨_,rfl⟩
 obtain ⟨p10,hp10⟩:∃ p:List Tr,p=[⟨2,0,1⟩]:=⟨_,rfl⟩
 refine vM (S':={ t:=asg [(0,aB false),(1,aI 7),(2,aI 0),(3,.row 1),(4,aI 0),(5,qd p5),(6,aI 0),(7,qd p7),(8,aI 1),(9,aI 0),(10,qY p10),(11,aI 0)],h:=qj [(1,.row 43 1 [qB p0,qB p1])],n:=2,j:=0,d:=[],m:=0 }) ?_ ?_
 ·rw [hp0,hp1,hp5,hp7,hp10]
  (refine Le.ok some [] ?_;constructor;all_goals (try simp only [vle,vkt,seval,jN,Q3,qh,qd,qY,qy,qB,eTr,qa,qb,qx,ql,qc,mTk,zg,mTr,zz,wW,zU,QQ,vX,zo,qW,zm,zl,zH,wO,wC,seqB,Vy,List.length_map,List.map_cons,List.map_nil,List.getD_cons_zero,List.getD_cons_succ,List.length_cons,List.length_nil]))
  all_goals first|rfl|(simp;done)
 have q0:decide (p0=[⟨0,1⟩])=true:=decide_eq_true hp0
 have q1:decide (p1=[⟨2,0⟩])=true:=decide_eq_true hp1
 have q5:decide (p5=[⟨0,0⟩,⟨0,1⟩])=true:=decide_eq_true hp5
 have q7:decide (p7=[⟨1,1⟩,⟨1,1⟩,⟨0,0⟩,⟨0,0⟩])=true:=decide_eq_true hp7
 have q10:decide (p10=[⟨2,0,1⟩])=true:=decide_eq_true hp10
 have l0:p0.length≤1000:=by rw [hp0];decide
 have l1:p1.length≤1000:=by rw [hp1];decide
 have l5:p5.length≤1000:=by rw [hp5];decide
 have l7:p7.length≤1000:=by rw [hp7];decide
 have l10:p10.length≤1000:=by rw [hp10];decide
 clear hp0 hp1 hp5 hp7 hp10 h1a h1b h2a h2b h3 h4 h5
 refine kz env fun Q hQ=>?_
 simp only [vkt,seval,jN,Q3,qh,qd,qY,qy,qB,eTr,qa,qb,qx,ql,qc,mTk,zg,mTr,zz,wW,zU,QQ,vX,zo,qW,zm,zl,zH,wO,wC,seqB,Vy,List.length_map,List.map_cons,List.map_nil,List.getD_cons_zero,List.getD_cons_succ,List.length_cons,List.length_nil,q0,q1,q5,q7,q10,l0,l1,l5,l7,l10,List.append_eq,List.cons_append,List.nil_append]
 refine And.intro ?_ ?_
 ·refine kx ?_
  kernel_rfl
 refine hQ _ ?_
 clear hQ Q
 repeat' (first|(apply nx;with_reducible constructor)|refine jq (by decide) ?_)
 (simp only [vrt,Tryz.results6,vkt,seval,jN,Q3,qh,qd,qY,qy,qB,eTr,qa,qb,qx,ql,qc,mTk,zg,mTr,zz,wW,zU,QQ,vX,zo,qW,zm,zl,zH,wO,wC,seqB,Vy,List.length_map,List.map_cons,List.map_nil,List.getD_cons_zero,List.getD_cons_succ,List.length_cons,List.length_nil];refine Fin.val rfl ?_;(try simp only [AV.le,AV.leL]))
 all_goals first|rfl|(simp;done)
def onB (b:Bunk) (s:Int) (t:Tk):Bool:=decide (t.cab=b.cab) && decide (t.bed=b.bed) && inB s t.frm (t.to - 1)
def Yy (l:List Tk) (b:Bunk) (s:Int):Bool:=l.any (onB b s)
def zq:List AV→Prop × AV
 |[]=>(True,aB true)
 |_=>(False,.junk)
theorem Qe5 {A:Frm→Prop}:qC A Tryz.prog 6 (za true zq):=zx fun vs hv h=>by
 clear hv
 unfold zq at h ⊢
 split at h
 ·clear h
  refine ⟨by first|trivial|(simp [AV.plain,AV.plainL,aI,aB,qD,qd,qw,qh,aTk,cTk];done)|(repeat' split) <;> simp [AV.plain,AV.plainL,aI,aB,qD,qd,qw,qh,aTk,cTk],fun _=>(by simp [AV.flat,AV.flatL,aI,aB]), ?_⟩
  have:=QaX
  first|exact this|(simp only [];exact this)
 ·exact h.elim
end Go.Sym.B
