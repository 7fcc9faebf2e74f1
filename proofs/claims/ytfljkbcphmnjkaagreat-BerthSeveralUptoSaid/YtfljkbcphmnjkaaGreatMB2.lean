/- Walks and what they compute, joined: part 2. -/
import Derived.Test.YtfljkbcphmnjkaaGreatMS3
import Derived.Test.YtfljkbcphmnjkaaGreatProg
import Derived.KernelRfl
import Derived.Test.YtfljkbcphmnjkaaGreatMB1
set_option linter.all false
namespace Go.Sym.B
open Go Go.Sym Go.Proofs Go.Sym.C
theorem QdH (cs:List Cabin) (s:Int) (a:Ask) (m:Nat) (ih:QbR cs s a m):VB cs s a (m+1):=by
 intro sold begun ys hl ans R ok
 obtain ⟨A0,hA0⟩:∃ A0:Frm→Prop,A0=fun F=>F.r=none∧Acb Tryz.prog (qc (qD 0 [qf cs s 1])) (qc (qD 0 (qJ cs s sold))) ys (fun j=>nth (hl j)) ans R F:=⟨_,rfl⟩
 have hr0:∀ F,A0 F→F.r=none:=fun F h=>by rw [hA0] at h;exact h.1
 have hA:∀ F,A0 F→Acb Tryz.prog (qc (qD 0 [qf cs s 1])) (qc (qD 0 (qJ cs s sold))) ys (fun j=>nth (hl j)) ans R F:=fun F h=>by rw [hA0] at h;exact h.2
 have env:Env A0 Tryz.prog tyB (tab [(80,fnE WJ)]):=qA ⟨Qco,trivial⟩
 refine Fn.of (A:=A0) (n0:=2) (D:=noD) (Fn0 Tryz.func104 rfl (fun vs w=>by kernel_rfl) (by kernel_rfl)) (by simp) (by simp [AV.ids,AV.idsL,qI,qg,qb]) jB (fun F hb h0 h1=>by rw [hA0];exact ⟨h1,h0,Qfv,hb⟩) qw ?_
 have hr:=ok.rounds
 rw [KN] at hr
 have hsz:=ok.sz
 have hsx:=ok.sx
 have d0:decide ((begun.length:Int)=(a.sexes.length:Int))=false:=decide_eq_false (by omega)
 obtain ⟨RB,ansB,hRB,hN,hend,hres⟩:=nest _ hr
 rw [show (gsL cs a m sold begun).length=(qK cs).length by simp [gsL]] at hRB
 have hRl:=hRB.le
 rw [hres]
 show Sym _ _ _ (qX [.ptr 0 0,qI a,qb begun,.cb] 2 (qc [(0,qf cs s 1),(1,qh sold)])) (wK tyB noD Tryz.f104 fun S rv=>Fin S rv _ 2 (qc [(0,qf cs s 1),(1,qh sold)]) R)
 repeat' (first|(apply nx;with_reducible constructor)|refine jq (by decide) ?_|((first|refine kz env fun Q hQ=>?_|refine kj fun Q hQ=>?_);simp only [vkt,seval,zP,qI,qg,qb,qy,qf,qh,WJ,hwL,Nat.sub_zero,d0,ite_and];(repeat' first|with_reducible assumption|apply kk|intro hp);all_goals (first|(refine hQ _ ?_;clear hQ Q)|(refine hQ _ (fun h=>?_) (fun h=>?_) <;> clear hQ Q <;> (try simp only [reduceCtorEq] at h))|(refine kx ?_;kernel_rfl)|omega|assumption|with_reducible rfl|skip)))
 refine jT (S':={ t:=asg gwL,h:=qc (gwH cs s a sold begun++[(7,buO cs s)]),n:=8,j:=0,d:=[],m:=2 }) ?_ ?_
 ·show Le _ { t:=asg [(4,.ptr 2 0),(5,.ptr 3 0),(6,.ptr 4 0),(7,.ptr 5 0),(8,.ptr 6 0),(25,.clo 117 [.ptr 7 0])],h:=qc [(0,qf cs s 1),(1,qh sold),(2,.cells [.ptr 0 0]),(3,.cells (qg a)),(4,.cells [.sl (begun.map qO)]),(5,.cells [.cb]),(6,.cells [aB false]),(7,buO cs s)],n:=8,j:=0,d:=[],m:=2 }
  (refine Le.ok some [] ?_;constructor;all_goals (try simp only [vle,vkt,seval,jE,qg,qf,qh,buO]))
  all_goals first|rfl|simp
 rw [← QiW cs s]
 have ej:(fun i=>min ((gsL cs a m sold begun).take i).sum R) 0=0:=by simp
 rw [show ({ t:=asg gwL,h:=qc (gwH cs s a sold begun++qN [7] 9 0 [buO cs s]),n:=8,j:=0,d:=[],m:=2 }:St)={ t:=asg gwL,h:=qc ((fun _=>gwH cs s a sold begun) 0++qN [7] (8+1) 0 [buO cs s]),n:=8,j:=(fun i=>min ((gsL cs a m sold begun).take i).sum R) 0,d:=[],m:=2 } by rw [ej]]
 refine jN hr0 1 (L:=gwL) (L':=gwL) (xs:=[]) (hs:=[7]) (n:=8) (nl:=0) (hc:=fun _=>gwH cs s a sold begun) (Lp:=[buO cs s]) (jj:=fun i=>min ((gsL cs a m sold begun).take i).sum R) (d:=[]) (ys:=buY cs) (hl:=fun _=>[buO cs s]) (ans:=ansB) (ex:=.ret) (caps:=[.ptr 7 0]) (caps0:=[.ptr 0 0]) (N:=(qK cs).length) (R:=RB) (A':=fun i=>Acb Tryz.prog (qc (qD 0 [qf cs s 1])) (qc ((8,.mark) :: gwH cs s a sold begun++[(7,buO cs s)])) (fun k=>ys (min ((gsL cs a m sold begun).take i).sum R+k)) (fun k=>nth (hl (min ((gsL cs a m sold begun).take i).sum R+k))) (fun k=>ans (min ((gsL cs a m sold begun).take i).sum R+k)) (R - min ((gsL cs a m sold begun).take i).sum R)) rfl (QaG cs s ok.cab) hRB (.inl rfl) ?_ ?_ ?_ rfl (by simp) ?_ (by simp) ?_ ?_ ?_ (fun _ _=>rfl) (fun x hx=>by cases hx) (fun j hj p _ h=>by cases h) ?_ (fun j hj=>?_) ?_ (fun j hj=>?_) (fun hall=>?_) (fun hpos hlast=>?_)
 ·simp [AV.leL,AV.le]
 ·simp [AV.nocbL,AV.nocb]
 ·simp [Zn,buO,AObj.nocb,AV.nocbL,AV.nocb,AObj.ids,AV.ids,AV.idsL,AObj.ren,AV.renL,AV.ren,AObj.le,AV.leL,AV.le,wJ]
 ·simp [gwH,qc]
 ·intro F hF j hj F' hR
  refine X8 (hA F hF) hR fun i o hi=>?_
  rw [zX] at hi
  cases i with
  |zero=>exact ⟨_,rfl⟩
  |succ i=>simp at hi
 ·simp [gwH,qc]
 ·exact fun _ _ _ _ h=>h
 ·simp [WV,gwL,AV.ids,AV.idsL]
 ·refine ⟨?_,rfl, ?_, ?_,rfl, ?_⟩
  ·simp [xJ,gwH,AObj.ids,AV.ids,AV.idsL,qf,qh,qg,aB]
  ·simp [QW,buO,AObj.nocb,AV.nocbL,AV.nocb,AObj.ids,AV.ids,AV.idsL]
  ·simp [Yx,buY,qx,AV.nocb,AV.nocbL,AV.ids,AV.idsL]
  ·simp [xy,Q7,qN,qo,gwH,gwL,yT,AV.ids,AV.idsL,ADf.ids,List.range_succ]
 ·simp [xJ,gwH,AObj.ids,AV.ids,AV.idsL,qf,qh,qg,aB]
 ·have hjl:j < (qK cs).length:=by omega
  obtain ⟨n1,n2,n3,n4⟩:=hN j hj
  obtain ⟨o,ho⟩:∃ o,((gsL cs a m sold begun).take j).sum=o:=⟨_,rfl⟩
  have eo:min o R=o:=by omega
  rw [Qgi hjl,ho] at n2 n3 n4
  obtain ⟨b,hb⟩:∃ b,(qK cs).getD j default=b:=⟨_,rfl⟩
  rw [hb] at n2 n3 n4
  have hbi:=Qck hjl
  rw [hb] at hbi
  simp only [ho,eo]
  have hst:zU gwL [26] [7] 8 0 (buY cs j) (gwH cs s a sold begun) [buO cs s]={ t:=asg [(26,qx b),(4,.ptr 2 0),(5,.ptr 3 0),(6,.ptr 4 0),(7,.ptr 5 0),(8,.ptr 6 0),(25,.clo 117 [.ptr 7 0])],h:=qc [(8,.mark),(0,qf cs s 1),(1,qh sold),(2,.cells [.ptr 0 0]),(3,.cells (qg a)),(4,.cells [.sl (begun.map qO)]),(5,.cells [.cb]),(6,.cells [aB false]),(7,buO cs s)],n:=9,m:=9 }:=by
   simp only [zU,buY,hb,qx,List.map_cons,List.map_nil,AV.ren,AV.renL,List.zip_cons_cons,List.zip_nil_right,gwH,gwL,kQ,List.cons_append,List.nil_append]
   rfl
  show Sym _ _ _ (zU gwL [26] [7] 8 0 (buY cs j) (gwH cs s a sold begun) [buO cs s]) _
  rw [hst]
  obtain ⟨A1,hA1⟩:∃ A1:Frm→Prop,A1=Acb Tryz.prog (qc (qD 0 [qf cs s 1])) (qc ((8,.mark) :: gwH cs s a sold begun++[(7,buO cs s)])) (fun k=>ys (o+k)) (fun k=>nth (hl (o+k))) (fun k=>ans (o+k)) (R - o):=⟨_,rfl⟩
  rw [← hA1]
  have env:Env A1 Tryz.prog tyB (tab [(128,fnE Jp),(129,qG true QE),(130,fnE Yq),(81,fnE Vg),(131,fnI [qf cs s 1] (R - o) (X9 cs s a m (fun k=>ys (o+k)) (fun k=>hl (o+k)) (fun k=>ans (o+k)) (R - o)))]) :=
   qA ⟨Qjw,Ql1,eNear,eFits,eWith ih (h0:=qc ((8,.mark) :: gwH cs s a sold begun++[(7,buO cs s)])) fun F hF=>by rw [hA1] at hF;exact hF,trivial⟩
  have hcl:=ok.c100
  have hmany:=ok.many
  obtain ⟨sx,hsx1⟩:∃ x,a.sexes.getD begun.length 0=x:=⟨_,rfl⟩
  have hlt:begun.length < a.sexes.length:=by omega
  have hb1:begun.length≤100:=by omega
  have hb2:begun.length≤100000:=by omega
  have hm:(100:Nat)+1≤maxLen:=by decide
  have hb3:begun.length+1≤maxLen:=by omega
  repeat' (first|(apply nx;with_reducible constructor)|refine jq (by decide) ?_)
  (refine kz env fun Q hQ=>?_;simp only [vkt,seval,zP,jE,qg,qx,qf,qh,buO,ite_and];(repeat' first|with_reducible assumption|apply kk|intro hp);all_goals (first|(refine hQ _ ?_;clear hQ Q)|(refine kx ?_;kernel_rfl)|omega|assumption|with_reducible rfl|skip))
  repeat' (first|(apply nx;with_reducible constructor)|refine jq (by decide) ?_)
  (refine kz env fun Q hQ=>?_;simp only [vkt,seval,zP,V7,qf,Jp,hwL,Nat.sub_zero,hb2,hb3,ite_and];(repeat' first|with_reducible assumption|apply kk|intro hp);all_goals (first|(refine hQ _ ?_;clear hQ Q)|(refine kx ?_;kernel_rfl)|omega|assumption|with_reducible rfl|skip))
  repeat' (first|(apply nx;with_reducible constructor)|refine jq (by decide) ?_)
  (refine kz env fun Q hQ=>?_;simp only [vkt,seval,zP,jE,qf,hsx1,hlt,ite_and];(repeat' first|with_reducible assumption|apply kk|intro hp);all_goals (first|(refine hQ _ ?_;clear hQ Q)|(refine kx ?_;kernel_rfl)|omega|assumption|with_reducible rfl|skip))
  repeat' (first|(apply nx;with_reducible constructor)|refine jq (by decide) ?_)
  have hma:List.map qO begun++[[DV.v (.int .i64 b.cab),DV.v (.int .i64 b.bed)]]=List.map qO (begun++[b]):=by simp [qO]
  refine jT (S':={ t:=asg [(4,.ptr 2 0),(5,.ptr 3 0),(6,.ptr 4 0),(7,.ptr 5 0),(8,.ptr 6 0),(9,.ptr 9 0),(10,.ptr 10 0),(11,.ptr 11 0)],h:=qc [(8,.mark),(0,qf cs s 1),(1,qh sold),(2,.cells [.ptr 0 0]),(3,.cells (qg a)),(4,.cells [.sl (begun.map qO)]),(5,.cells [.cb]),(6,.cells [aB false]),(7,buO cs s),(9,.cells [.v (.int .i64 b.cab),.v (.int .i64 b.bed)]),(10,.cells [.sl (List.map qO (begun++[b]))]),(11,.cells [.v (.int .i64 a.party),.v (.int .i64 sx),.v (.int .i64 b.cab),.v (.int .i64 b.bed),.v (.int .i64 a.frm),.v (.int .i64 a.to),.v (.bool a.dog)])],n:=12,j:=0,d:=[],m:=9 }) ?_ ?_
  ·(refine Le.ok (fun i=>if i=10 then some 13 else if i=11 then some 14 else some i) [12] ?_;constructor;all_goals (try simp only [vle,vkt,seval,jE,qg,qf,qh,buO]))
   all_goals first|rfl|(simp;done)|(rw [hma];exact ⟨_,_,rfl⟩)|(intro i hi;rw [if_neg (by omega),if_neg (by omega)];done)
  have et:(⟨a.party,sx,b.cab,b.bed,a.frm,a.to,a.dog⟩:Tk)=yV a begun.length b:=by rw [← hsx1];rfl
  have eb:(⟨b.cab,b.bed⟩:Bunk)=b:=rfl
  have hno:NearOk cs (begun++[b]):=⟨by simp,by simp;omega,hcl,fun x hx=>by
   rcases List.mem_append.1 hx with hx|hx
   ·exact ok.mem x hx
   ·rw [List.mem_singleton.1 hx];exact hbi⟩
  have hs100:sold.length≤100:=by omega
  have stop:goB cs a sold begun b=false→ansB j=true∧min ((gsL cs a m sold begun).take (j+1)).sum R=o:=fun h=>by
   have e0:gbL cs a m sold begun b=[]:=by unfold gbL;rw [h];rfl
   rw [e0] at n3 n4
   simp only [List.length_nil,Nat.zero_min] at n3 n4
   exact ⟨by rw [n3];simp [vR],by rw [n4];rfl⟩
  cases c1:begun.contains b with
  |true =>
   obtain ⟨s1,s2⟩:=stop (by unfold goB;rw [c1];rfl)
   repeat' (first|(apply nx;with_reducible constructor)|refine jq (by decide) ?_|((first|refine kz env fun Q hQ=>?_|refine kj fun Q hQ=>?_);simp only [vkt,seval,zP,jE,qg,yX,qf,qh,buO,QE,hb1,c1,eb,ite_and];(repeat' first|with_reducible assumption|apply kk|intro hp);all_goals (first|(refine hQ _ ?_;clear hQ Q)|(refine hQ _ (fun h=>?_) (fun h=>?_) <;> clear hQ Q <;> (try simp only [reduceCtorEq] at h))|(refine kx ?_;kernel_rfl)|omega|assumption|with_reducible rfl|skip)))
   refine ⟨by rw [s1];rfl,by show _=_+0;simp only [s2,ho,eo];rfl,some,_,RFin.okQ some [] ?_⟩
   constructor
   all_goals (try simp only [vle,yw,j5,qo,vkt,seval,jE,qg,qf,qh,gwL,gwH,buO])
   all_goals first|rfl|simp
  |false =>
   cases c2:kD cs (begun++[b]) with
   |false =>
    obtain ⟨s1,s2⟩:=stop (by unfold goB;rw [c1,c2];rfl)
    repeat' (first|(apply nx;with_reducible constructor)|refine jq (by decide) ?_|((first|refine kz env fun Q hQ=>?_|refine kj fun Q hQ=>?_);simp only [vkt,seval,zP,jE,qg,yX,mTk,qy,qf,qh,qJ,buO,Yq,QE,hwL,hb1,c1,c2,eb,hno,ite_and];(repeat' first|with_reducible assumption|apply kk|intro hp);all_goals (first|(refine hQ _ ?_;clear hQ Q)|(refine hQ _ (fun h=>?_) (fun h=>?_) <;> clear hQ Q <;> (try simp only [reduceCtorEq] at h))|(refine kx ?_;kernel_rfl)|omega|assumption|with_reducible rfl|skip)))
    refine ⟨by rw [s1];rfl,by show _=_+0;simp only [s2,ho,eo];rfl,some,_,RFin.okQ some [] ?_⟩
    constructor
    all_goals (try simp only [vle,yw,j5,qo,vkt,seval,jE,qg,qf,qh,gwL,gwH,buO])
    all_goals first|rfl|simp
   |true =>
    cases c3:decide (zq (yV a begun.length b) sold=0) with
    |false =>
     obtain ⟨s1,s2⟩:=stop (by unfold goB;rw [c1,c2,c3];rfl)
     repeat' (first|(apply nx;with_reducible constructor)|refine jq (by decide) ?_|((first|refine kz env fun Q hQ=>?_|refine kj fun Q hQ=>?_);simp only [vkt,seval,zP,jE,qg,yX,mTk,qy,qf,qh,qJ,buO,Yq,Vg,QE,hwL,hb1,c1,c2,c3,eb,et,hno,hs100,ite_and];(repeat' first|with_reducible assumption|apply kk|intro hp);all_goals (first|(refine hQ _ ?_;clear hQ Q)|(refine hQ _ (fun h=>?_) (fun h=>?_) <;> clear hQ Q <;> (try simp only [reduceCtorEq] at h))|(refine kx ?_;kernel_rfl)|omega|assumption|with_reducible rfl|skip)))
     refine ⟨by rw [s1];rfl,by show _=_+0;simp only [s2,ho,eo];rfl,some,_,RFin.okQ some [] ?_⟩
     constructor
     all_goals (try simp only [vle,yw,j5,qo,vkt,seval,jE,qg,qf,qh,gwL,gwH,buO])
     all_goals first|rfl|simp
    |true =>
     have hgo:goB cs a sold begun b=true:=by unfold goB;rw [c1,c2,c3];rfl
     have hgb:gbL cs a m sold begun b=zz cs a m (sold++[yV a begun.length b]) (begun++[b]):=by unfold gbL;rw [if_pos hgo]
     rw [hgb] at n2 n3 n4
     have hG:=Qa6 ok hjl hb ho hgo n2
     obtain ⟨D,hD⟩:∃ D,min (zz cs a m (sold++[yV a begun.length b]) (begun++[b])).length (R - o)=D:=⟨_,rfl⟩
     rw [hD] at hG n3 n4
     have hDle:D≤R - o:=by omega
     cases hab:ansB j with
     |false =>
      rw [hab] at n3
      have n3:=n3.symm
      repeat' (first|(apply nx;with_reducible constructor)|refine jq (by decide) ?_|((first|refine kz env fun Q hQ=>?_|refine kj fun Q hQ=>?_);simp only [vkt,seval,zP,jE,qg,yX,mTk,qy,qf,qh,qJ,g1L,buO,Yq,Vg,X9,QE,fnI,J8,hwL,Nat.sub_zero,hb1,c1,c2,c3,eb,et,hno,hs100,hD,hDle,hG,n3,ite_and];(repeat' first|with_reducible assumption|apply kk|intro hp);all_goals (first|(refine hQ _ ?_;clear hQ Q)|(refine hQ _ (fun h=>?_) (fun h=>?_) <;> clear hQ Q <;> (try simp only [reduceCtorEq] at h))|(refine kx ?_;kernel_rfl)|omega|assumption|with_reducible rfl|skip)))
      refine ⟨by rw [hab];rfl,by simp only [n4,ho,eo],some,_,RFin.okQ some [] ?_⟩
      constructor
      all_goals (try simp only [vle,yw,j5,qo,vkt,seval,jE,qg,qf,qh,gwL,gwH,buO])
      all_goals first|rfl|simp
     |true =>
      rw [hab] at n3
      have n3:=n3.symm
      repeat' (first|(apply nx;with_reducible constructor)|refine jq (by decide) ?_|((first|refine kz env fun Q hQ=>?_|refine kj fun Q hQ=>?_);simp only [vkt,seval,zP,jE,qg,yX,mTk,qy,qf,qh,qJ,g1L,buO,Yq,Vg,X9,QE,fnI,J8,hwL,Nat.sub_zero,hb1,c1,c2,c3,eb,et,hno,hs100,hD,hDle,hG,n3,ite_and];(repeat' first|with_reducible assumption|apply kk|intro hp);all_goals (first|(refine hQ _ ?_;clear hQ Q)|(refine hQ _ (fun h=>?_) (fun h=>?_) <;> clear hQ Q <;> (try simp only [reduceCtorEq] at h))|(refine kx ?_;kernel_rfl)|omega|assumption|with_reducible rfl|skip)))
      refine ⟨by rw [hab];rfl,by simp only [n4,ho,eo],some,_,RFin.okQ some [] ?_⟩
      constructor
      all_goals (try simp only [vle,yw,j5,qo,vkt,seval,jE,qg,qf,qh,gwL,gwH,buO])
      all_goals first|rfl|simp
 ·have hR:vR ansB RB=true:=by
   by_cases h0:RB=0
   ·simp [vR,h0]
   ·simp [vR,hall (RB - 1) (by omega)]
  rw [hR,hend]
  have eh:qc ((8,AObj.mark) :: gwH cs s a sold begun++qN [7] (8+1) 0 [buO cs s])=qc [(8,.mark),(0,qf cs s 1),(1,qh sold),(2,.cells [.ptr 0 0]),(3,.cells (qg a)),(4,.cells [.sl (begun.map qO)]),(5,.cells [.cb]),(6,.cells [aB false]),(7,buO cs s)]:=rfl
  rw [eh]
  repeat' (first|(apply nx;with_reducible constructor)|refine jq (by decide) ?_|((first|refine kz env fun Q hQ=>?_|refine kj fun Q hQ=>?_);simp only [vkt,seval,zP,jE,qg,qf,qh,gwL,buO,ite_and];(repeat' first|with_reducible assumption|apply kk|intro hp);all_goals (first|(refine hQ _ ?_;clear hQ Q)|(refine hQ _ (fun h=>?_) (fun h=>?_) <;> clear hQ Q <;> (try simp only [vki,reduceCtorEq] at h))|(refine kx ?_;kernel_rfl)|omega|assumption|with_reducible rfl|skip)))
  (simp only [vrt,Tryz.results104,vkt,seval,zP,jE,qf,qh];refine Fin.ok some [] ?_ ?_ ?_ ?_ ?_ rfl;all_goals (try simp only [vle,vkt,seval]))
  all_goals first|rfl|(simp;done)|exact fun i hi=>(match i,hi with|0,_=>rfl|1,_=>rfl)
 ·have hR:vR ansB RB=false:=by
   simp [vR,hlast,show ¬ RB=0 by omega]
  rw [hR,hend]
  have eh:qc ((8,AObj.mark) :: gwH cs s a sold begun++qN [7] (8+1) 0 [buO cs s])=qc [(8,.mark),(0,qf cs s 1),(1,qh sold),(2,.cells [.ptr 0 0]),(3,.cells (qg a)),(4,.cells [.sl (begun.map qO)]),(5,.cells [.cb]),(6,.cells [aB false]),(7,buO cs s)]:=rfl
  rw [eh]
  repeat' (first|(apply nx;with_reducible constructor)|refine jq (by decide) ?_|((first|refine kz env fun Q hQ=>?_|refine kj fun Q hQ=>?_);simp only [vkt,seval,zP,jE,aTk,cTk,qI,qg,qx,qb,qO,V7,yX,mTk,qy,qf,qh,qJ,g1L,gwL,gwH,buO,WJ,Jp,Yq,Vg,X9,QE,List.length_map,fnI,J8,vo,nth,hwL,Nat.zero_add,Nat.sub_zero,ite_and];(repeat' first|with_reducible assumption|apply kk|intro hp);all_goals (first|(refine hQ _ ?_;clear hQ Q)|(refine hQ _ (fun h=>?_) (fun h=>?_) <;> clear hQ Q <;> (try simp only [vki,reduceCtorEq] at h))|(refine kx ?_;kernel_rfl)|omega|assumption|with_reducible rfl|skip)))
  (simp only [vrt,Tryz.results104,vkt,seval,zP,jE,qg,qf,qh,gwL,buO];refine Fin.ok some [] ?_ ?_ ?_ ?_ ?_ rfl;all_goals (try simp only [vle,vkt,seval]))
  all_goals first|rfl|(simp;done)|exact fun i hi=>(match i,hi with|0,_=>rfl|1,_=>rfl)
theorem Ld (cs:List Cabin) (s:Int) (a:Ask):∀ m,VB cs s a m
 |0=>QdZ cs s a
 |m+1=>QdH cs s a m (QiR (QgV (Ld cs s a m)))
theorem Qjy (a:Ask):PCs (qg a):=⟨by simp [qg,AV.idsL,AV.ids],by simp [qg,AV.leL,AV.le],by simp [qg,AV.renL,AV.ren]⟩
def Qer:=kk @ty3 (kk @jL (kk @wP (kk @ti3.eq_1 (kk @wY.eq_1 @wI.eq_1))))
def Qmn:=kk @aI.eq_1 (@aB.eq_1)
theorem Qiv (a:Ask):WH 125 (qg a) (fun x=>decide (x.party=a.party)):=fun x=>by
 have env:Env (fun _=>True) Tryz.prog tyB (tab []):=qA trivial
 refine Fn.of (A:=fun _=>True) (n0:=1) (D:=noD) (Fn0 Tryz.func125 rfl (fun vs w=>by kernel_rfl) (by kernel_rfl)) (by simp) (by simp [AV.ids,AV.idsL,aTk,cTk]) ?_ (fun _ _ _ _=>trivial) qw ?_
 ·intro i o hi
  have h:=qF hi
  simp at h;obtain ⟨rfl,rfl⟩:=h;simp [qg,AObj.ids,AV.ids,AV.idsL]
 repeat' (first|(apply nx;with_reducible constructor)|refine jq (by decide) ?_|((first|refine kz env fun Q hQ=>?_|refine kj fun Q hQ=>?_);simp only [vkt,seval,Qer,aTk,cTk,qg,ite_and];(repeat' first|with_reducible assumption|apply kk|intro hp);all_goals (first|(refine hQ _ ?_;clear hQ Q)|(refine hQ _ (fun h=>?_) (fun h=>?_) <;> clear hQ Q <;> (try simp only [vki,reduceCtorEq] at h))|(refine kx ?_;kernel_rfl)|omega|assumption|with_reducible rfl|skip)))
 all_goals (simp only [vrt,Tryz.results125,vkt,seval,Qmn,qg];refine Fin.ok some [] ?_ ?_ ?_ ?_ ?_ rfl;all_goals (try simp only [vle,vkt,seval]))
 all_goals first|rfl|simp
def Wu (a:Ask) (S:St):List AV→Option Pk
 |[.sl xs,.clo f [.ptr t 0]]=>match S.h t with
  |some (.cells cs')=>some { pre:=f=125∧cs'=qg a∧xs=(xs.map dTk).map eTk∧xs.length≤100,hs:=[t],ar:=[.sl xs,.clo 125 [.ptr 0 0]],L0:=[.cells (qg a)],v:=aB ((xs.map dTk).any fun x=>decide (x.party=a.party)),L1:=[some (.cells (qg a))] }
  |_=>none
 |_=>none
theorem Qly {A:Frm→Prop} {a:Ask}:qm A Tryz.prog 124 (fnE (Wu a)):=qZ fun S bs q h hp=>by
 unfold Wu at h
 split at h
 ·split at h
  ·cases h
   obtain ⟨_,_,h1,h2⟩:=hp
   have:=Rj (Qjy a) (Qiv a) (List.map dTk _) (by rw [List.length_map];exact h2)
   rw [qp,← h1] at this
   exact this
  ·cases h
 ·cases h
def akS (c:Chart) (a:Ask) (k:Nat):St:={ t:=asg [(2,.ptr 0 0),(3,.ptr 1 0),(4,aI 0),(36,.sl (a.sexes.map qU)),(37,aI a.sexes.length),(38,aI k)],h:=qc [(0,.cells (qa c)),(1,.cells (qg a))],n:=2 }
def Qm (s:Int):Int:=if !inB s 1 2 then 8 else 0
def xm:=kk @ty3 (kk @yP (kk @wh (kk @yf (kk @jL (kk @x8 (kk @wP (kk @ti3.eq_1 (kk @yh.eq_1 (kk @zQ.eq_1 (kk @jK.eq_1 (kk @wY.eq_1 (kk @vV.eq_1 @wI.eq_1))))))))))))
def yg:=kk @aI.eq_1 (kk @aB.eq_1 (kk @qU.eq_1 (kk @JN (@jJ))))
theorem Qml (c:Chart) (a:Ask) (hc:c.sold.length≤100) (ha:a.sexes.length≤maxLen):FnV Tryz.prog 92 [qd c,qI a] (aI (wu c a)):=by
 have env:Env (fun _=>True) Tryz.prog tyB (tab [(77,qG true sin),(91,qG true jm),(78,qG true K8),(124,fnE (Wu a))]):=qA ⟨ein,Y2,eway,Qly,trivial⟩
 refine Fn.of (A:=fun _=>True) (n0:=0) (D:=noD) (Fn0 Tryz.func92 rfl (fun vs w=>by kernel_rfl) (by kernel_rfl)) (by simp) (by simp [AV.ids,AV.idsL,qd,qa,qI,qg]) (fun i o h=>by cases h) (fun _ _ _ _=>trivial) qw ?_
 cases h1:inB a.party 1 99
 ·rw [show wu c a=1 by simp [wu,h1]]
  repeat' (first|(apply nx;with_reducible constructor)|refine jq (by decide) ?_|((first|refine kz env fun Q hQ=>?_|refine kj fun Q hQ=>?_);simp only [vkt,seval,xm,yg,qd,qa,qI,qg,sin,h1,ite_and];(repeat' first|with_reducible assumption|apply kk|intro hp);all_goals (first|(refine hQ _ ?_;clear hQ Q)|(refine hQ _ (fun h=>?_) (fun h=>?_) <;> clear hQ Q <;> (try simp only [reduceCtorEq] at h))|(refine kx ?_;kernel_rfl)|omega|assumption|with_reducible rfl|skip)))
  (simp only [vrt,Tryz.results92,vkt,seval,yg];refine Fin.val rfl ?_;(try simp only [AV.le]))
  all_goals first|rfl|simp
 cases h2:c.sold.any (fun t=>decide (t.party=a.party))
 case true =>
  rw [show wu c a=4 by simp only [wu,h1,h2];rfl]
  repeat' (first|(apply nx;with_reducible constructor)|refine jq (by decide) ?_|((first|refine kz env fun Q hQ=>?_|refine kj fun Q hQ=>?_);simp only [vkt,seval,xm,yg,qd,qa,qI,qg,mTk,sin,Wu,h1,h2,hc,ite_and];(repeat' first|with_reducible assumption|apply kk|intro hp);all_goals (first|(refine hQ _ ?_;clear hQ Q)|(refine hQ _ (fun h=>?_) (fun h=>?_) <;> clear hQ Q <;> (try simp only [reduceCtorEq] at h))|(refine kx ?_;kernel_rfl)|omega|assumption|with_reducible rfl|skip)))
  (simp only [vrt,Tryz.results92,vkt,seval,yg];refine Fin.val rfl ?_;(try simp only [AV.le]))
  all_goals first|rfl|simp
 by_cases h3:xY c.secs a.frm a.to=0
 case neg =>
  rw [show wu c a=xY c.secs a.frm a.to by unfold wu;rw [h1,h2];simp [h3]]
  repeat' (first|(apply nx;with_reducible constructor)|refine jq (by decide) ?_|((first|refine kz env fun Q hQ=>?_|refine kj fun Q hQ=>?_);simp only [vkt,seval,xm,yg,qd,qa,qI,qg,mTk,qy,sin,K8,Wu,h1,h2,h3,hc,ite_and];(repeat' first|with_reducible assumption|apply kk|intro hp);all_goals (first|(refine hQ _ ?_;clear hQ Q)|(refine hQ _ (fun h=>?_) (fun h=>?_) <;> clear hQ Q <;> (try simp only [vki,reduceCtorEq] at h))|(refine kx ?_;kernel_rfl)|omega|assumption|with_reducible rfl|skip)))
  (simp only [vrt,Tryz.results92,vkt,seval,yg];refine Fin.val rfl ?_;(try simp only [AV.le]))
  all_goals first|rfl|simp
 by_cases h4:qR a.sexes.length 1 3=0
 case neg =>
  rw [show wu c a=qR a.sexes.length 1 3 by unfold wu;rw [h1,h2,h3];simp [h4]]
  repeat' (first|(apply nx;with_reducible constructor)|refine jq (by decide) ?_|((first|refine kz env fun Q hQ=>?_|refine kj fun Q hQ=>?_);simp only [vkt,seval,xm,yg,qd,qa,qI,qg,mTk,qy,sin,jm,K8,Wu,h1,h2,h3,h4,hc,ite_and];(repeat' first|with_reducible assumption|apply kk|intro hp);all_goals (first|(refine hQ _ ?_;clear hQ Q)|(refine hQ _ (fun h=>?_) (fun h=>?_) <;> clear hQ Q <;> (try simp only [vki,reduceCtorEq] at h))|(refine kx ?_;kernel_rfl)|omega|assumption|with_reducible rfl|skip)))
  (simp only [vrt,Tryz.results92,vkt,seval,yg];refine Fin.val rfl ?_;(try simp only [AV.le]))
  all_goals first|rfl|simp
 have hl:a.sexes.length≤3:=by
  unfold qR at h4
  split at h4
  ·exact absurd h4 (by decide)
  ·split at h4
   ·exact absurd h4 (by decide)
   ·omega
 rw [show wu c a=zM (a.sexes.map Qm) by unfold wu;rw [h1,h2,h3,h4];rfl]
 repeat' (first|(apply nx;with_reducible constructor)|refine jq (by decide) ?_|((first|refine kz env fun Q hQ=>?_|refine kj fun Q hQ=>?_);simp only [vkt,seval,xm,yg,qd,qa,qI,qg,mTk,qy,sin,jm,K8,Wu,h1,h2,h3,h4,hc,ite_and];(repeat' first|with_reducible assumption|apply kk|intro hp);all_goals (first|(refine hQ _ ?_;clear hQ Q)|(refine hQ _ (fun h=>?_) (fun h=>?_) <;> clear hQ Q <;> (try simp only [vki,reduceCtorEq] at h))|(refine kx ?_;kernel_rfl)|omega|assumption|with_reducible rfl|skip)))
 refine qC (fun k:{ k:Nat // k≤a.sexes.length∧∀ j,j < k→(a.sexes.map Qm).getD j 0=0 }=>akS c a k.1) (fun k=>a.sexes.length - k.1) ⟨0,Nat.zero_le _,fun j h=>absurd h (Nat.not_lt_zero _)⟩ ?_ fun ⟨k,hk,hno⟩=>?_
 ·(refine Le.ok some [] ?_;constructor;all_goals (try simp only [vle,vkt,seval,yg,qa,qg]))
  all_goals first|rfl|simp
 ·repeat' (first|(apply nx;with_reducible constructor)|refine jq (by decide) ?_)
  (refine kz env fun Q hQ=>?_;simp only [vkt,seval,xm,yg,qa,qg,akS,ite_and];(repeat' first|with_reducible assumption|apply kk|intro hp);all_goals (first|(refine hQ _ ?_;clear hQ Q)|(refine kx ?_;kernel_rfl)|omega|assumption|with_reducible rfl|skip))
  repeat' (first|(apply nx;with_reducible constructor)|refine jq (by decide) ?_)
  (refine wQ (by simp only [vkt,seval];rfl) (fun h=>?_) (fun h=>?_) <;> (try simp only [vki] at h))
  ·have hlt:k < a.sexes.length:=by omega
   have e9:=k9 k (by omega)
   obtain ⟨x,hx⟩:∃ x,a.sexes.getD k 0=x:=⟨_,rfl⟩
   have hm:(a.sexes.map Qm).getD k 0=Qm x:=by rw [mapD hlt];exact congrArg Qm hx
   cases hb:inB x 1 2
   ·have hE:Qm x=8:=by simp [Qm,hb]
    have hf:=wU hno (by simpa using hlt) (by rw [hm,hE];decide)
    rw [hm,hE] at hf
    rw [hf]
    repeat' (first|(apply nx;with_reducible constructor)|refine jq (by decide) ?_|((first|refine kz env fun Q hQ=>?_|refine kj fun Q hQ=>?_);simp only [vkt,seval,xm,yg,sin,hx,hb,ite_and];(repeat' first|with_reducible assumption|apply kk|intro hp);all_goals (first|(refine hQ _ ?_;clear hQ Q)|(refine hQ _ (fun h=>?_) (fun h=>?_) <;> clear hQ Q <;> (try simp only [reduceCtorEq] at h))|(refine kx ?_;kernel_rfl)|omega|assumption|with_reducible rfl|skip)))
    (simp only [vrt,Tryz.results92,vkt,seval,yg];refine Fin.val rfl ?_;(try simp only [AV.le]))
    all_goals first|rfl|simp
   ·have hE:Qm x=0:=by simp [Qm,hb]
    repeat' (first|(apply nx;with_reducible constructor)|refine jq (by decide) ?_|((first|refine kz env fun Q hQ=>?_|refine kj fun Q hQ=>?_);simp only [vkt,seval,xm,yg,sin,hx,hb,e9,ite_and];(repeat' first|with_reducible assumption|apply kk|intro hp);all_goals (first|(refine hQ _ ?_;clear hQ Q)|(refine hQ _ (fun h=>?_) (fun h=>?_) <;> clear hQ Q <;> (try simp only [reduceCtorEq] at h))|(refine kx ?_;kernel_rfl)|omega|assumption|with_reducible rfl|skip)))
    refine ⟨⟨k+1,hlt,fun j hj=>?_⟩,by show a.sexes.length - (k+1) < a.sexes.length - k;omega, ?_⟩
    ·rcases Nat.lt_or_eq_of_le (Nat.le_of_lt_succ hj) with h2|h2
     ·exact hno j h2
     ·rw [h2,hm,hE]
    ·(refine Le.ok some [] ?_;constructor;all_goals (try simp only [vle,vkt,seval,yg,qa,qg]))
     all_goals first|rfl|simp
  ·have hke:k=a.sexes.length:=by omega
   subst hke
   rw [wD (l:=a.sexes.map Qm) (by simpa using hno)]
   repeat' (first|(apply nx;with_reducible constructor)|refine jq (by decide) ?_|((first|refine kz env fun Q hQ=>?_|refine kj fun Q hQ=>?_);simp only [vkt,seval,ite_and];(repeat' first|with_reducible assumption|apply kk|intro hp);all_goals (first|(refine hQ _ ?_;clear hQ Q)|(refine hQ _ (fun h=>?_) (fun h=>?_) <;> clear hQ Q <;> (try simp only [vki,reduceCtorEq] at h))|(refine kx ?_;kernel_rfl)|omega|assumption|with_reducible rfl|skip)))
   (simp only [vrt,Tryz.results92,vkt,seval,yg];refine Fin.val rfl ?_;(try simp only [AV.le]))
   all_goals first|rfl|simp
def Uy:List AV→Prop × AV
 |[.agg [.sl c0,.v (.int .i64 c1),.sl c2],.agg [.v (.int .i64 a0),.v (.int .i64 a1),.v (.int .i64 a2),.sl a3,.v (.bool a4)]]=>(c0=(c0.map qj).map qz∧c2=(c2.map dTk).map eTk∧a3=(a3.map qM).map qU∧c2.length≤100∧a3.length≤maxLen,aI (wu (⟨(c0.map qj),c1,(c2.map dTk)⟩:Chart) (⟨a0,a1,a2,(a3.map qM),a4⟩:Ask)))
 |_=>(False,.junk)
theorem eask {A:Frm→Prop}:qm A Tryz.prog 92 (qG true Uy):=qH fun vs hv h=>by
 clear hv
 unfold Uy at h ⊢
 split at h
 ·rename_i c0 c1 c2 a0 a1 a2 a3 a4;obtain ⟨q0,q1,q2,k0,k1⟩:=h
  refine ⟨by first|trivial|(repeat' split) <;> simp [AV.plain,AV.plainL,aI,aB,ql,qb,qp,qx,aTk,cTk],fun _=>(by simp [AV.flat,aI]), ?_⟩
  have:=Qml (⟨(c0.map qj),c1,(c2.map dTk)⟩:Chart) (⟨a0,a1,a2,(a3.map qM),a4⟩:Ask) (by simpa using k0) (by simpa using k1)
  simp only [qI,qd,aI,qg,qa,← q0,← q1,← q2] at this
  first|exact this|(simp only [qI,aB,zB,qd,aI,ql,qp,qg,qa,← q0,← q1,← q2];exact this)
 ·exact h.elim
def Qan:=kk @Za (kk @Zt (kk @Qp.eq_1 @Qd.eq_1))
theorem Qd7 (xs:List (List DV)) (h1:ze 2 xs) (h2:xs.length≤100000):Fn noB Tryz.prog 115 [.sl xs] noH (.row 0) (qc [(0,.row 89 2 xs)]) 0:=by
 have env:Env (fun _=>True) Tryz.prog tyB (tab []):=qA trivial
 obtain ⟨b1,b2,b3,b5,b4⟩:=b47 h2
 refine Fn.of (A:=fun _=>True) (n0:=0) (D:=noD) (Fn0 Tryz.func115 rfl (fun vs w=>by kernel_rfl) (by kernel_rfl)) (by simp) (by simp [AV.ids]) (fun i o h=>by cases h) (fun _ _ _ _=>trivial) qw ?_
 repeat' (first|(apply nx;with_reducible constructor)|refine jq (by decide) ?_)
 (refine kz env fun Q hQ=>?_;simp only [vkt,seval,ite_and];(repeat' first|with_reducible assumption|apply kk|intro hp);all_goals (first|(refine hQ _ ?_;clear hQ Q)|(refine kx ?_;kernel_rfl)|omega|assumption|with_reducible rfl|skip))
 repeat' (first|(apply nx;with_reducible constructor)|refine jq (by decide) ?_)
 refine kL (d1:=3) (d2:=4) (t:=22) (e:=89) (x:=.tmp 0) (xs:=xs) rfl rfl rfl rfl rfl rfl Tryz.underlying22 rfl fun b hb=>?_
 repeat' (first|(apply nx;with_reducible constructor)|refine jq (by decide) ?_)
 (refine wQ (by simp only [vkt,seval];rfl) (fun h=>?_) (fun h=>?_) <;> (try simp only [vki,reduceCtorEq] at h))
 ·have hx:=hb h
  subst hx
  repeat' (first|(apply nx;with_reducible constructor)|refine jq (by decide) ?_|((first|refine kz env fun Q hQ=>?_|refine kj fun Q hQ=>?_);simp only [vkt,seval,ite_and];(repeat' first|with_reducible assumption|apply kk|intro hp);all_goals (first|(refine hQ _ ?_;clear hQ Q)|(refine hQ _ (fun h=>?_) (fun h=>?_) <;> clear hQ Q <;> (try simp only [vki,reduceCtorEq] at h))|(refine kx ?_;kernel_rfl)|omega|assumption|with_reducible rfl|skip)))
  (simp only [vrt,Tryz.results115,vkt,seval];refine Fin.ok (fun _=>none) [] ?_ ?_ ?_ ?_ ?_ rfl;all_goals (try simp only [vle,vkt,seval]))
  all_goals simp
 ·repeat' (first|(apply nx;with_reducible constructor)|refine jq (by decide) ?_|((first|refine kz env fun Q hQ=>?_|refine kj fun Q hQ=>?_);simp only [vkt,seval,Qan,ite_and];(repeat' first|with_reducible assumption|apply kk|intro hp);all_goals (first|(refine hQ _ ?_;clear hQ Q)|(refine hQ _ (fun h=>?_) (fun h=>?_) <;> clear hQ Q <;> (try simp only [vki,reduceCtorEq] at h))|(refine kx ?_;kernel_rfl)|omega|assumption|with_reducible rfl|skip)))
  (simp only [vrt,Tryz.results115,vkt,seval];refine Fin.ok some [] ?_ ?_ ?_ ?_ ?_ rfl;all_goals (try simp only [vle,vkt,seval]))
  all_goals simp
def YB (_:St):List AV→Option Pk
 |[.sl xs]=>some { pre:=ze 2 xs∧xs.length≤100000,ar:=[.sl xs],v:=.row 0,L1:=[some (.row 89 2 xs)] }
 |_=>none
theorem QjC {A:Frm→Prop}:qm A Tryz.prog 115 (fnE YB):=qZ fun S bs q h hp=>by
 unfold YB at h
 split at h
 ·cases h;exact Qd7 _ hp.1 hp.2
 ·cases h
def QaS:=kk @Za (kk @yP (kk @wh (kk @wP (kk @Zt (kk @Wj (kk @Qp.eq_1 (kk @yh.eq_1 (kk @zQ.eq_1 (kk @wI.eq_1 (kk @Qd.eq_1 @Ql.eq_1))))))))))
theorem QhE (c:Chart) (h1:c.cabins.length≤100000) (h2:c.sold.length≤100000):Fn noB Tryz.prog 79 [qd c] noH (.ptr 0 0) (qc (zm 0 ((qJ c.cabins c.secs c.sold).map some))) 0:=by
 have env:Env (fun _=>True) Tryz.prog tyB (tab [(116,fnE ZH),(115,fnE YB)]):=qA ⟨Qdk,QjC,trivial⟩
 refine Fn.of (A:=fun _=>True) (n0:=0) (D:=noD) (Fn0 Tryz.func79 rfl (fun vs w=>by kernel_rfl) (by kernel_rfl)) (by simp) (by simp [AV.ids,AV.idsL,qd,qa]) (fun i o h=>by cases h) (fun _ _ _ _=>trivial) qw ?_
 show Sym _ _ _ (qX [qd c] 0 noH) (wK tyB noD Tryz.f79 fun S rv=>Fin S rv _ 0 (qc [(0,qf c.cabins c.secs 1),(1,qh c.sold)]) 0)
 repeat' (first|(apply nx;with_reducible constructor)|refine jq (by decide) ?_|((first|refine kz env fun Q hQ=>?_|refine kj fun Q hQ=>?_);simp only [vkt,seval,QaS,qd,qa,rTk,R8,ZH,YB,h1,h2,ite_and];(repeat' first|with_reducible assumption|apply kk|intro hp);all_goals (first|(refine hQ _ ?_;clear hQ Q)|(refine hQ _ (fun h=>?_) (fun h=>?_) <;> clear hQ Q <;> (try simp only [vki,reduceCtorEq] at h))|(refine kx ?_;kernel_rfl)|omega|assumption|with_reducible rfl|skip)))
 all_goals (simp only [vrt,Tryz.results79,vkt,seval,qf,qh];refine Fin.ok (fun j=>[3,2][j]?) [1] ?_ ?_ ?_ ?_ ?_ rfl;all_goals (try simp only [vle,vkt,seval]))
 all_goals first|rfl|simp
def WI (_:St):List AV→Option Pk
 |[.agg [.sl cs,.v (.int .i64 s),.sl ts]]=>some { pre:=cs=(cs.map qj).map qz∧ts=(ts.map dTk).map eTk∧cs.length≤100000∧ts.length≤100000,ar:=[.agg [.sl cs,.v (.int .i64 s),.sl ts]],v:=.ptr 0 0,L1:=(qJ (cs.map qj) s (ts.map dTk)).map some }
 |_=>none
theorem Qbn {A:Frm→Prop}:qm A Tryz.prog 79 (fnE WI):=qZ fun S bs q h hp=>by
 unfold WI at h
 split at h
 ·rename_i cs s ts
  cases h
  obtain ⟨h1,h2,h3,h4⟩:=hp
  have:=QhE ⟨cs.map qj,s,ts.map dTk⟩ (by simpa using h3) (by simpa using h4)
  simp only [qd,qa,← h1,← h2] at this
  exact this
 ·cases h
theorem jZ {c:Chart} {a:Ask} (h:zJ c a=0):zw c=0∧wu c a=0:=by
 unfold zJ at h
 split at h
 ·rename_i h1;exact absurd h h1
 ·rename_i h1;exact ⟨Decidable.not_not.1 h1,h⟩
def Zv:=kk @wh (kk @jL (kk @x8 (kk @zQ.eq_1 (kk @wY.eq_1 @vV.eq_1))))
def ZW:=kk @aI.eq_1 (kk @aB.eq_1 (@jJ))
theorem Qhf (c:Chart) (a:Ask) (h:zJ c a=0) (hc:c.cabins.length≤maxLen) (ha:a.sexes.length≤maxLen):Fn noB Tryz.prog 50 [qd c,qI a] noH (.tup [.ptr 0 0,aI 0]) (qc (zm 0 ((qJ c.cabins c.secs c.sold).map some))) 0:=by
 have env:Env (fun _=>True) Tryz.prog tyB (tab [(76,qG true jC),(92,qG true Uy),(79,fnE WI)]):=qA ⟨VQ,eask,Qbn,trivial⟩
 refine Fn.of (A:=fun _=>True) (n0:=0) (D:=noD) (Fn0 Tryz.func50 rfl (fun vs w=>by kernel_rfl) (by kernel_rfl)) (by simp) (by simp [AV.ids,AV.idsL,qd,qa,qI,qg]) (fun i o h=>by cases h) (fun _ _ _ _=>trivial) qw ?_
 obtain ⟨h1,h2⟩:=jZ h
 have hv:=xq h1
 have b1:=hv.car.cabs
 have b2:=hv.many
 have ec:(⟨c.cabins,c.secs,c.sold⟩:Chart)=c:=rfl
 have ea:(⟨a.party,a.frm,a.to,a.sexes,a.dog⟩:Ask)=a:=rfl
 have b3:c.sold.length≤100:=by omega
 have b4:c.sold.length≤100000:=by omega
 have b5:c.cabins.length≤100000:=by omega
 show Sym _ _ _ (qX [qd c,qI a] 0 noH) (wK tyB noD Tryz.f50 fun S rv=>Fin S rv _ 0 (qc [(0,qf c.cabins c.secs 1),(1,qh c.sold)]) 0)
 repeat' (first|(apply nx;with_reducible constructor)|refine jq (by decide) ?_|((first|refine kz env fun Q hQ=>?_|refine kj fun Q hQ=>?_);simp only [vkt,seval,Zv,ZW,qd,qa,qI,qg,mTk,qy,qf,qh,qJ,jC,Uy,WI,ec,ea,h1,h2,b3,b4,b5,ite_and];(repeat' first|with_reducible assumption|apply kk|intro hp);all_goals (first|(refine hQ _ ?_;clear hQ Q)|(refine hQ _ (fun h=>?_) (fun h=>?_) <;> clear hQ Q <;> (try simp only [vki] at h))|(refine kx ?_;kernel_rfl)|omega|assumption|with_reducible rfl|skip)))
 (simp only [vrt,Tryz.results50,vkt,seval,ZW,qf,qh];refine Fin.ok (fun j=>[2,3][j]?) [] ?_ ?_ ?_ ?_ ?_ rfl;all_goals (try simp only [vle,vkt,seval]))
 all_goals first|rfl|simp
theorem QeE (c:Chart) (a:Ask) (h0:zJ c a ≠ 0) (hc:c.cabins.length≤maxLen) (ha:a.sexes.length≤maxLen):Fn noB Tryz.prog 50 [qd c,qI a] noH (.tup [.v (.pointer none),aI (zJ c a)]) noH 0:=by
 have env:Env (fun _=>True) Tryz.prog tyB (tab [(76,qG true jC),(92,qG true Uy),(79,fnE WI)]):=qA ⟨VQ,eask,Qbn,trivial⟩
 refine Fn.of (A:=fun _=>True) (n0:=0) (D:=noD) (Fn0 Tryz.func50 rfl (fun vs w=>by kernel_rfl) (by kernel_rfl)) (by simp) (by simp [AV.ids,AV.idsL,qd,qa,qI,qg]) (fun i o h=>by cases h) (fun _ _ _ _=>trivial) qw ?_
 have ec:(⟨c.cabins,c.secs,c.sold⟩:Chart)=c:=rfl
 have ea:(⟨a.party,a.frm,a.to,a.sexes,a.dog⟩:Ask)=a:=rfl
 by_cases h1:zw c=0
 ·have hE:zJ c a=wu c a:=by unfold zJ;rw [if_neg (by rw [h1];simp)]
  rw [hE] at h0 ⊢
  have hv:=xq h1
  have b2:=hv.many
  have b3:c.sold.length≤100:=by omega
  repeat' (first|(apply nx;with_reducible constructor)|refine jq (by decide) ?_|((first|refine kz env fun Q hQ=>?_|refine kj fun Q hQ=>?_);simp only [vkt,seval,Zv,ZW,qd,qa,qI,qg,mTk,qy,jC,Uy,ec,ea,h1,h0,b3,ite_and];(repeat' first|with_reducible assumption|apply kk|intro hp);all_goals (first|(refine hQ _ ?_;clear hQ Q)|(refine hQ _ (fun h=>?_) (fun h=>?_) <;> clear hQ Q <;> (try simp only [vki] at h))|(refine kx ?_;kernel_rfl)|omega|assumption|with_reducible rfl|skip)))
  (simp only [vrt,Tryz.results50,vkt,seval,ZW];refine Fin.val rfl ?_;(try simp only [AV.le,AV.leL]))
  all_goals first|rfl|simp
 ·have hE:zJ c a=zw c:=by unfold zJ;rw [if_pos h1]
  rw [hE]
  repeat' (first|(apply nx;with_reducible constructor)|refine jq (by decide) ?_|((first|refine kz env fun Q hQ=>?_|refine kj fun Q hQ=>?_);simp only [vkt,seval,Zv,ZW,qd,qa,qI,qg,mTk,qy,jC,ec,h1,ite_and];(repeat' first|with_reducible assumption|apply kk|intro hp);all_goals (first|(refine hQ _ ?_;clear hQ Q)|(refine hQ _ (fun h=>?_) (fun h=>?_) <;> clear hQ Q <;> (try simp only [vki] at h))|(refine kx ?_;kernel_rfl)|omega|assumption|with_reducible rfl|skip)))
  (simp only [vrt,Tryz.results50,vkt,seval,ZW];refine Fin.val rfl ?_;(try simp only [AV.le,AV.leL]))
  all_goals first|rfl|simp
def jD (_:St):List AV→Option Pk
 |[.agg [.sl cs,.v (.int .i64 s),.sl ts],.agg [.v (.int .i64 p),.v (.int .i64 f),.v (.int .i64 t),.sl xs,.v (.bool d)]] =>
  if zJ ⟨cs.map qj,s,ts.map dTk⟩ ⟨p,f,t,xs.map qM,d⟩=0 then
   some { pre:=cs=(cs.map qj).map qz∧ts=(ts.map dTk).map eTk∧xs=(xs.map qM).map qU∧cs.length≤maxLen∧xs.length≤maxLen,ar:=[.agg [.sl cs,.v (.int .i64 s),.sl ts],.agg [.v (.int .i64 p),.v (.int .i64 f),.v (.int .i64 t),.sl xs,.v (.bool d)]],v:=.tup [.ptr 0 0,aI 0],L1:=(qJ (cs.map qj) s (ts.map dTk)).map some }
  else some { pre:=cs=(cs.map qj).map qz∧ts=(ts.map dTk).map eTk∧xs=(xs.map qM).map qU∧cs.length≤maxLen∧xs.length≤maxLen,ar:=[.agg [.sl cs,.v (.int .i64 s),.sl ts],.agg [.v (.int .i64 p),.v (.int .i64 f),.v (.int .i64 t),.sl xs,.v (.bool d)]],v:=.tup [.v (.pointer none),aI (zJ ⟨cs.map qj,s,ts.map dTk⟩ ⟨p,f,t,xs.map qM,d⟩)] }
 |_=>none
theorem Vi {A:Frm→Prop}:qm A Tryz.prog 50 (fnE jD):=qZ fun S bs q h hp=>by
 unfold jD at h
 split at h
 ·rename_i cs s ts p f t xs d
  split at h
  ·rename_i hE
   cases h
   obtain ⟨h1,h2,h3,h4,h5⟩:=hp
   have:=Qhf ⟨cs.map qj,s,ts.map dTk⟩ ⟨p,f,t,xs.map qM,d⟩ hE (by simpa using h4) (by simpa using h5)
   simp only [qd,qa,qI,qg,← h1,← h2,← h3] at this
   exact this
  ·rename_i hE
   cases h
   obtain ⟨h1,h2,h3,h4,h5⟩:=hp
   have:=QeE ⟨cs.map qj,s,ts.map dTk⟩ ⟨p,f,t,xs.map qM,d⟩ hE (by simpa using h4) (by simpa using h5)
   simp only [qd,qa,qI,qg,← h1,← h2,← h3] at this
   exact this
 ·cases h
theorem Qdz {t x:Tk} (h:J7 t x=false):jR t x=false∧vT x t=true:=by
 have e1:decide (t.to≤x.frm)=!decide (x.frm < t.to):=by rw [← decide_not,decide_eq_decide];omega
 have e2:decide (x.to≤t.frm)=!decide (t.frm < x.to):=by rw [← decide_not,decide_eq_decide];omega
 have e3:decide (x.cab ≠ t.cab)=!decide (x.cab=t.cab):=by rw [← decide_not]
 unfold J7 at h
 unfold jR vT j6
 rw [e1,e2] at h
 rw [e3]
 generalize decide (x.cab=t.cab)=A at *
 generalize decide (x.frm < t.to)=B at *
 generalize decide (t.frm < x.to)=C at *
 generalize decide (x.bed=t.bed)=D at *
 generalize decide (x.party=t.party)=E at *
 generalize decide (x.sex=t.sex)=F at *
 generalize x.dog=G at *
 generalize t.dog=H at *
 clear e1 e2 e3
 revert A B C D E F G H
 decide
theorem QaE {l:List Tk} {t:Tk} (h:QR l t=true):zq t l=0:=by
 have hb:∀ x ∈ l,J7 t x=false:=by
  unfold QR at h
  intro x hx
  have:l.any (J7 t)=false:=by simpa using h
  have:=List.any_eq_false.1 this x hx
  simpa using this
 unfold zq
 rw [if_neg,if_neg]
 ·rw [List.any_eq_true]
  rintro ⟨x,hx,h1⟩
  rw [(Qdz (hb x hx)).2] at h1
  exact absurd h1 (by decide)
 ·rw [List.any_eq_true]
  rintro ⟨x,hx,h1⟩
  rw [(Qdz (hb x hx)).1] at h1
  exact absurd h1 (by decide)
theorem Yf {cs:List Cabin} {secs:Int} {t:Tk} {l:List Tk} (h1:1≤t.party∧t.party≤99) (h2:1≤t.sex∧t.sex≤2) (h3:0≤t.cab∧t.cab.toNat < cs.length) (h4:0≤t.bed∧t.bed < (cs.getD t.cab.toNat default).beds) (h5:0≤t.frm∧t.frm < t.to∧t.to≤secs) (h6:zq t l=0) :
  zf ⟨cs,secs,[]⟩ t l=0:=by
 have b1:inB t.party 1 99=true:=zY.2 h1
 have b2:inB t.sex 1 2=true:=zY.2 h2
 have b3:zZ cs t.cab t.bed=true:=by
  unfold zZ
  rw [zY.2 (by omega),zY.2 (by omega)];rfl
 have b4:xY secs t.frm t.to=0:=by unfold xY;rw [if_neg (by omega)]
 unfold zf
 rw [b1,b2]
 simp only [b3,b4,h6,Bool.not_true,Bool.false_eq_true,if_false,ne_eq,not_true_eq_false]
theorem QhS {cs:List Cabin} {secs p s1:Int} (hc:1≤cs.length∧cs.length≤3) (hb:∀ x ∈ cs,1≤x.beds∧x.beds≤3) (hs:1≤secs∧secs≤5):(j4 cs secs p s1).1.party=p∧(1≤(j4 cs secs p s1).1.sex∧(j4 cs secs p s1).1.sex≤2)∧(0≤(j4 cs secs p s1).1.cab∧(j4 cs secs p s1).1.cab.toNat < cs.length) ∧
  (0≤(j4 cs secs p s1).1.bed∧(j4 cs secs p s1).1.bed < (cs.getD (j4 cs secs p s1).1.cab.toNat default).beds)∧0≤(j4 cs secs p s1).1.frm∧(j4 cs secs p s1).1.frm < (j4 cs secs p s1).1.to∧(j4 cs secs p s1).1.to≤secs:=by
 have hn:=up2 s1 (m:=(cs.length:Int) - 1) (by omega) (by omega)
 have hnl:(upV s1 ((cs.length:Int) - 1)).toNat < cs.length:=by omega
 have hbb:=hb _ (wC (d:=default) hnl)
 obtain ⟨bb,hbv⟩:∃ q,(cs.getD (upV s1 ((cs.length:Int) - 1)).toNat default).beds=q:=⟨_,rfl⟩
 rw [hbv] at hbb
 have hbd:=up2 (upS (upS s1 ((cs.length:Int) - 1)) 1) (m:=bb - 1) (by omega) (by omega)
 have hf:=up2 (upS (upS (upS s1 ((cs.length:Int) - 1)) 1) (bb - 1)) (m:=secs - 1) (by omega) (by omega)
 have hsx:=QgP (upS s1 ((cs.length:Int) - 1))
 unfold sxV at hsx
 unfold j4
 simp only [hbv]
 obtain ⟨f,hfv⟩:∃ q,upV (upS (upS (upS s1 ((cs.length:Int) - 1)) 1) (bb - 1)) (secs - 1)=q:=⟨_,rfl⟩
 rw [hfv] at hf
 simp only [hfv]
 have ht:=up2 (upS (upS (upS (upS (upS s1 ((cs.length:Int) - 1)) 1) (bb - 1)) (secs - 1)) 7) (m:=secs - (f+1)) (by omega) (by omega)
 generalize upV (upS (upS (upS (upS (upS s1 ((cs.length:Int) - 1)) 1) (bb - 1)) (secs - 1)) 7) (secs - (f+1))=tt at ht ⊢
 generalize upV (upS (upS s1 ((cs.length:Int) - 1)) 1) (bb - 1)=bd at hbd ⊢
 refine ⟨trivial,hsx,⟨hn.1,hnl⟩,⟨hbd.1,by omega⟩,hf.1,by omega,by omega⟩
theorem Qg3 {cs:List Cabin} {secs x:Int} (hc:1≤cs.length∧cs.length≤3) (hb:∀ x ∈ cs,1≤x.beds∧x.beds≤3) (hs:1≤secs∧secs≤5):∀ k,k≤8 →
  (∀ i,i < (tkK cs secs x k).2.1.length→zf ⟨cs,secs,[]⟩ ((tkK cs secs x k).2.1.getD i default) ((tkK cs secs x k).2.1.take i)=0)∧∀ t ∈ (tkK cs secs x k).2.1,t.party≤24
 |0,_=>by simp [tkK]
 |k+1,hk=>by
  obtain ⟨ih1,ih2⟩:=Qg3 (x:=x) hc hb hs k (by omega)
  obtain ⟨h1,h2,h3⟩:=Rw cs secs x k
  rw [tkK]
  simp only
  obtain ⟨⟨p,l,s⟩,hK⟩:∃ q,tkK cs secs x k=q:=⟨_,rfl⟩
  rw [hK] at ih1 ih2 h1 h2 h3 ⊢
  simp only at ih1 ih2 h1 h2 h3 ⊢
  have h4:=QkP (s:=s) h1
  obtain ⟨⟨p1,s1⟩,hA⟩:∃ q,pA p s=q:=⟨_,rfl⟩
  rw [hA] at h4 ⊢
  simp only at h4 ⊢
  obtain ⟨g1,g2,g3,g4,g5⟩:=QhS (p:=p1) (s1:=s1) hc hb hs
  obtain ⟨⟨T,s7⟩,hT⟩:∃ q,j4 cs secs p1 s1=q:=⟨_,rfl⟩
  rw [hT] at g1 g2 g3 g4 g5 ⊢
  simp only at g1 g2 g3 g4 g5 ⊢
  split
  ·rename_i hg
   refine ⟨fun i hi=>?_,fun t ht=>?_⟩
   ·rw [List.length_append,List.length_singleton] at hi
    rcases Nat.lt_or_eq_of_le (Nat.le_of_lt_succ hi) with h|h
    ·have:=ih1 i h
     rw [List.getD_eq_getElem?_getD,List.getElem?_append_left h,← List.getD_eq_getElem?_getD,List.take_append_of_le_length (by omega)]
     exact this
    ·subst h
     rw [show (l++[T]).getD l.length default=T by simp [List.getD_eq_getElem?_getD],List.take_append_of_le_length (Nat.le_refl _),List.take_length]
     exact Yf (by omega) g2 g3 g4 g5 (QaE hg)
   ·rcases List.mem_append.1 ht with ht|ht
    ·exact ih2 t ht
    ·rw [List.mem_singleton.1 ht];omega
  ·exact ⟨ih1,ih2⟩
theorem co_ok {x a g s:Int} (ha:1≤a∧a≤3) (hg:1≤g∧g≤5) (hs:0≤s∧s≤8):zw (coC x a g s)=0∧(∀ t ∈ (coC x a g s).sold,t.party≤24)∧((coC x a g s).sold.length:Int)≤s∧((coC x a g s).cabins.length:Int)≤a∧(coC x a g s).secs≤g:=by
 have hsc:=up2 x (m:=g - 1) (by omega) (by omega)
 have hsb:1≤xZ x g∧xZ x g≤g:=by unfold xZ;omega
 have hnc:=up2 (Vj x g) (m:=a - 1) (by omega) (by omega)
 have hcab:((yo x g a).1.length:Int)≤a∧1≤(yo x g a).1.length∧∀ c ∈ (yo x g a).1,1≤c.beds∧c.beds≤3:=by
  unfold yo
  obtain ⟨h1,h2⟩:=RD (upS (Vj x g) (a - 1)) (1+upV (Vj x g) (a - 1)).toNat
  refine ⟨by rw [h1];omega,by rw [h1];omega,h2⟩
 obtain ⟨hc0,hc1,hc2⟩:=hcab
 have hnt:=up2 (yo x g a).2 (m:=s) (by omega) (by omega)
 have htk:(Qe3 x g a s)=tkK (yo x g a).1 (xZ x g) (upS (yo x g a).2 s) (upV (yo x g a).2 s).toNat:=rfl
 obtain ⟨k1,k2⟩:=Qg3 (x:=upS (yo x g a).2 s) (cs:=(yo x g a).1) (secs:=xZ x g) (by omega) hc2 (by omega) (upV (yo x g a).2 s).toNat (by omega)
 obtain ⟨k3,k4,k5⟩:=Rw (yo x g a).1 (xZ x g) (upS (yo x g a).2 s) (upV (yo x g a).2 s).toNat
 rw [← htk] at k1 k2 k5
 unfold coC
 simp only
 generalize yo x g a=C at *
 generalize xZ x g=S at *
 generalize (Qe3 x g a s).2.1=T at *
 refine ⟨?_,k2,by omega,hc0,hsb.2⟩
 have hcar:QL ⟨C.1,S,T⟩=0:=by
  unfold QL
  have b1:qR (C.1.length:Int) 1 3=0:=by unfold qR;rw [if_neg (by omega),if_neg (by omega)]
  have b2:zM (C.1.map vg)=0:=wD fun j hj=>by
   rw [List.length_map] at hj
   rw [List.getD_eq_getElem?_getD,List.getElem?_map,List.getElem?_eq_getElem hj]
   have:=hc2 C.1[j] (List.getElem_mem hj)
   show vg C.1[j]=0
   unfold vg
   rw [zY.2 this];rfl
  have b3:inB S 1 5=true:=zY.2 (by omega)
  have b4:qR (T.length:Int) 0 8=0:=by unfold qR;rw [if_neg (by omega),if_neg (by omega)]
  simp only [b1,b2,b3,b4,ne_eq,not_true_eq_false,if_false,Bool.not_true,Bool.false_eq_true]
 unfold zw
 rw [hcar]
 rw [if_neg (by decide)]
 unfold zW
 refine wD fun j hj=>?_
 rw [List.length_map,List.length_range] at hj
 rw [List.getD_eq_getElem?_getD,List.getElem?_map,List.getElem?_range hj]
 exact k1 j hj
theorem Qa (L:List AObj):nth L=qc (qD 0 L):=by
 funext i
 rw [zX]
 simp [nth]
def plL (c:Chart) (a:Ask):List AObj:=[qf c.cabins c.secs 1,qh c.sold,.cells [.ptr 0 0],.cells (qg a)]
def plP (c:Chart) (a:Ask):List (List Bunk × List Tk):=zz c.cabins a a.sexes.length c.sold []
def plY (c:Chart) (a:Ask) (j:Nat):List AV:=[qb ((plP c a).getD j default).1]
def plH (c:Chart) (a:Ask) (j:Nat):List AObj:=qJ c.cabins c.secs ((plP c a).getD j default).2
structure PlOk (c:Chart) (a:Ask):Prop where
 val:Val c
 sx:a.sexes.length≤3
theorem pl_ok {c:Chart} {a:Ask} (h:PlOk c a) {ans:Nat→Bool} {R:Nat} (hr:Rounds ans R (plP c a).length):GrowOk c.cabins c.secs a a.sexes.length c.sold [] (plY c a) (plH c a) ans R:=by
 have h1:=h.val.car.cabs
 have h2:=h.val.many
 have h3:=h.sx
 exact ⟨by simp,by omega,⟨by omega,fun x hx=>by have:=h.val.car.beds x hx;omega⟩,by omega,by omega,(by simp),hr,fun _ _=>rfl,fun _ _=>rfl⟩
def JY (c:Chart) (a:Ask) (ys:Nat→List AV) (hl:Nat→List AObj) (ans:Nat→Bool) (R:Nat) (S:St):List AV→Option PkI
 |[.ptr p 0,.agg aa,.nil,.cb]=>match S.h p with
  |some (.cells [.sl cc,.v (.int .i64 s'),.row r])=>match S.h r with
   |some (.row _ _ xs)=>some { q:={ pre:=cc=c.cabins.map qz∧s'=c.secs∧aa=qg a∧xs=c.sold.map eTk∧S.j=0∧GrowOk c.cabins c.secs a a.sexes.length c.sold [] ys hl ans R,hs:=[p,r],ar:=[.ptr 0 0,qI a,qb [],.cb],L0:=qJ c.cabins c.secs c.sold,v:=aB (vR ans R),L1:=(qJ c.cabins c.secs c.sold).map some },dj:=R }
   |_=>none
  |_=>none
 |_=>none
theorem Qht {A:Frm→Prop} {c:Chart} {a:Ask} {ys:Nat→List AV} {hl:Nat→List AObj} {ans:Nat→Bool} {R:Nat} {h0:Nat→Option AObj} (hA:∀ F,A F→Acb Tryz.prog (qc (qD 0 [qf c.cabins c.secs 1])) h0 ys (fun j=>nth (hl j)) ans R F) :
  qm A Tryz.prog 104 (fnI [qf c.cabins c.secs 1] R (JY c a ys hl ans R)):=Ri hA fun S bs q h hp=>by
 unfold JY at h
 split at h
 ·split at h
  ·split at h
   ·cases h
    obtain ⟨_,_,_,_,h4,h6⟩:=hp
    have:=Ld _ _ _ _ _ _ _ _ _ _ h6
    simp only [h4,Nat.zero_add]
    exact this
   ·cases h
  ·cases h
 ·cases h
theorem YN {c:Chart} {a:Ask}:∀ i o,qc (qD 0 (plL c a)) i=some o→i < 4∧∀ id ∈ o.ids,id < 4:=by
 intro i o hi
 have h:=qF hi
 simp [qD,plL] at h
 rcases h with ⟨rfl,rfl⟩|⟨rfl,rfl⟩|⟨rfl,rfl⟩|⟨rfl,rfl⟩ <;> simp [AObj.ids,AV.ids,AV.idsL,qf,qh,qg]
def XB:=kk @jL (kk @QZ (kk @wY.eq_1 @kV.eq_1))
def Qkk:=kk @aI.eq_1 (@aB.eq_1)
theorem ZR {c:Chart} {a:Ask} (h:PlOk c a):LP Tryz.prog 103 [.cb,.ptr 2 0,.ptr 3 0] (nth ((plL c a).take 1)) (nth (plL c a)) (plY c a) (plP c a).length (fun j=>nth (plH c a j)) (fun _ _=>.tup []):=by
 intro ans R hr
 have ok:=pl_ok h hr
 rw [Qa,Qa]
 obtain ⟨A0,hA0⟩:∃ A0:Frm→Prop,A0=Acb Tryz.prog (qc (qD 0 [qf c.cabins c.secs 1])) (qc (qD 0 (plL c a))) (plY c a) (fun j=>nth (plH c a j)) ans R:=⟨_,rfl⟩
 have hA:∀ F,A0 F→Acb Tryz.prog (qc (qD 0 [qf c.cabins c.secs 1])) (qc (qD 0 (plL c a))) (plY c a) (fun j=>nth (plH c a j)) ans R F:=fun F h=>hA0 ▸ h
 have env:Env A0 Tryz.prog tyB (tab [(104,fnI [qf c.cabins c.secs 1] R (JY c a (plY c a) (plH c a) ans R))]):=qA ⟨Qht hA,trivial⟩
 refine Fn.of (A:=A0) (n0:=4) (D:=noD) (Fn0 Tryz.func103 rfl (fun vs w=>by kernel_rfl) (by kernel_rfl)) (by simp) (by simp [AV.ids]) YN (fun F hb h0 _=>hA0 ▸ ⟨h0,Qfv,hb⟩) qw ?_
 show Sym _ _ _ (qX [.cb,.ptr 2 0,.ptr 3 0] 4 (qc [(0,qf c.cabins c.secs 1),(1,qh c.sold),(2,.cells [.ptr 0 0]),(3,.cells (qg a))])) (wK tyB noD Tryz.f103 fun S rv=>Fin S rv _ 4 (qc [(0,qf c.cabins c.secs 1),(1,qh c.sold),(2,.cells [.ptr 0 0]),(3,.cells (qg a))]) R)
 repeat' (first|(apply nx;with_reducible constructor)|refine jq (by decide) ?_|((first|refine kz env fun Q hQ=>?_|refine kj fun Q hQ=>?_);simp only [vkt,seval,XB,Qkk,qI,qg,qb,qf,qh,qJ,JY,fnI,J8,hwL,ok,ite_and];(repeat' first|with_reducible assumption|apply kk|intro hp);all_goals (first|(refine hQ _ ?_;clear hQ Q)|(refine hQ _ (fun h=>?_) (fun h=>?_) <;> clear hQ Q <;> (try simp only [vki,reduceCtorEq] at h))|(refine kx ?_;kernel_rfl)|omega|assumption|with_reducible rfl|skip)))
 (simp only [vrt,Tryz.results103,vkt,seval,qg,qf,qh];refine Fin.ok some [] ?_ ?_ ?_ ?_ ?_ rfl;all_goals (try simp only [vle,vkt,seval]))
 all_goals first|rfl|simp
theorem QeC (c:Chart) (a:Ask):Fn noB Tryz.prog 52 [.ptr 0 0,qI a] (qc (qD 0 (qJ c.cabins c.secs c.sold))) (.clo 103 [.ptr 2 0,.ptr 3 0]) (qc (zm 0 ((plL c a).map some))) 0:=by
 have env:Env (fun _=>True) Tryz.prog tyB (tab []):=qA trivial
 refine Fn.of (A:=fun _=>True) (n0:=2) (D:=noD) (Fn0 Tryz.func52 rfl (fun vs w=>by kernel_rfl) (by kernel_rfl)) (by simp) (by simp [AV.ids,AV.idsL,qI,qg]) jB (fun _ _ _ _=>trivial) qw ?_
 show Sym _ _ _ (qX [.ptr 0 0,qI a] 2 (qc [(0,qf c.cabins c.secs 1),(1,qh c.sold)])) (wK tyB noD Tryz.f52 fun S rv=>Fin S rv _ 2 (qc [(0,qf c.cabins c.secs 1),(1,qh c.sold),(2,.cells [.ptr 0 0]),(3,.cells (qg a))]) 0)
 repeat' (first|(apply nx;with_reducible constructor)|refine jq (by decide) ?_|((first|refine kz env fun Q hQ=>?_|refine kj fun Q hQ=>?_);simp only [vkt,seval,qI,qg,qf,qh,ite_and];(repeat' first|with_reducible assumption|apply kk|intro hp);all_goals (first|(refine hQ _ ?_;clear hQ Q)|(refine hQ _ (fun h=>?_) (fun h=>?_) <;> clear hQ Q <;> (try simp only [vki,reduceCtorEq] at h))|(refine kx ?_;kernel_rfl)|omega|assumption|with_reducible rfl|skip)))
 (simp only [vrt,Tryz.results52,vkt,seval,qg,qf,qh];refine Fin.ok some [] ?_ ?_ ?_ ?_ ?_ rfl;all_goals (try simp only [vle,vkt,seval]))
 all_goals first|rfl|(simp;done)|exact fun i hi=>(match i,hi with|0,_=>rfl|1,_=>rfl)
def wO (S:St):List AV→Option Pk
 |[.ptr p 0,.agg [.v (.int .i64 a0),.v (.int .i64 a1),.v (.int .i64 a2),.sl a3,.v (.bool a4)]]=>match S.h p with
  |some (.cells [.sl cs,.v (.int .i64 s),.row r])=>match S.h r with
   |some (.row _ _ xs)=>some { pre:=cs=(cs.map qj).map qz∧xs=(xs.map dTk).map eTk∧a3=(a3.map qM).map qU,hs:=[p,r],ar:=[.ptr 0 0,.agg [.v (.int .i64 a0),.v (.int .i64 a1),.v (.int .i64 a2),.sl a3,.v (.bool a4)]],L0:=qJ (cs.map qj) s (xs.map dTk),v:=.clo 103 [.ptr 2 0,.ptr 3 0],L1:=(plL ⟨cs.map qj,s,xs.map dTk⟩ ⟨a0,a1,a2,a3.map qM,a4⟩).map some }
   |_=>none
  |_=>none
 |_=>none
theorem WW {A:Frm→Prop}:qm A Tryz.prog 52 (fnE wO):=qZ fun S bs q h hp=>by
 unfold wO at h
 split at h
 ·rename_i a0 a1 a2 a3 a4
  split at h
  ·split at h
   ·rename_i cs s _ _ _ _ _ xs _
    cases h
    obtain ⟨h1,h2,h3⟩:=hp
    have:=QeC ⟨cs.map qj,s,xs.map dTk⟩ ⟨a0,a1,a2,a3.map qM,a4⟩
    simp only [qI,qg,← h3] at this
    exact this
   ·cases h
  ·cases h
 ·cases h
theorem Uz {N:Nat}:Rounds (fun _=>true) N N:=⟨Nat.le_refl _,fun _ _=>rfl,fun h=>absurd h (Nat.lt_irrefl _)⟩
theorem Qh9 {α β:Type} {f:α→List β} {M:Nat}:∀ {l:List α},(∀ a ∈ l,(f a).length≤M)→(l.flatMap f).length≤l.length * M
 |[],_=>by simp
 |a :: l,h=>by
  have h1:=Qh9 (l:=l) fun b hb=>h b (List.mem_cons_of_mem _ hb)
  have h2:=h a List.mem_cons_self
  rw [List.flatMap_cons,List.length_append,List.length_cons,Nat.succ_mul];omega
theorem VJ (cs:List Cabin) (a:Ask) {K:Nat} (hK:(qK cs).length≤K):∀ (m:Nat) (sold:List Tk) (begun:List Bunk),(zz cs a m sold begun).length≤K ^ m
 |0,_,_=>by simp [zz]
 |m+1,sold,begun=>by
  have h1:(zz cs a (m+1) sold begun).length≤(qK cs).length * K ^ m:=Qh9 fun b _=>by
   split
   ·exact VJ cs a hK m _ _
   ·simp
  rw [Nat.pow_succ,Nat.mul_comm (K ^ m) K]
  exact Nat.le_trans h1 (Nat.mul_le_mul_right _ hK)
theorem LJ {cs:List Cabin} (h1:cs.length≤3) (h2:∀ x ∈ cs,x.beds≤3):(qK cs).length≤9:=by
 rw [Jr]
 refine Nat.le_trans (Qh9 (M:=3) fun i hi=>?_) (by rw [List.length_range];omega)
 rw [List.length_map,List.length_range]
 have:=h2 _ (wC (d:=default) (List.mem_range.1 hi))
 omega
theorem Qbp {c:Chart} {a:Ask} (h:PlOk c a):(plP c a).length≤729:=by
 have h1:=VJ c.cabins a (LJ h.val.car.cabs.2 fun x hx=>(h.val.car.beds x hx).2) a.sexes.length c.sold []
 refine Nat.le_trans h1 ?_
 have:=h.sx
 exact Nat.le_trans (Nat.pow_le_pow_right (by omega) this) (by decide)
def plR (c:Chart) (a:Ask) (j:Nat):List (List DV):=((plP c a).take j).map fun x=>qY x.1
theorem QfS {c:Chart} {a:Ask} {j:Nat} (h:j < (plP c a).length):plR c a (j+1)=plR c a j++[qY ((plP c a).getD j default).1]:=by
 unfold plR
 rw [List.take_succ_eq_append_getElem h,List.map_append]
 simp [List.getD_eq_getElem?_getD,h]
theorem Qmk (c:Chart) (a:Ask) (j:Nat):ze 1 (plR c a j)=True:=by
 unfold plR
 exact jh (f:=fun x:List Bunk × List Tk=>qY x.1) (k:=1) (fun _=>rfl) _
def aqL:List (Nat × AV):=[(2,.ptr 4 0)]
def aqL0:List (Nat × AV):=[(2,.ptr 4 0),(6,.clo 103 [.ptr 2 0,.ptr 3 0])]
def aqH (c:Chart) (a:Ask) (j:Nat):List (Nat × AObj):=[(4,.cells [.row 5]),(5,.row 44 1 (plR c a j))]
theorem UL (c:Chart) (a:Ask):qN [0,1,2,3] 7 0 (plL c a)=[(0,qf c.cabins c.secs 1),(1,qh c.sold),(2,.cells [.ptr 0 0]),(3,.cells (qg a))]:=by
 simp [qN,plL,qo,AObj.ren,AV.renL,AV.ren,qf,qh,qg]
theorem Qdd (c:Chart) (a:Ask) (j:Nat):qN [0] 7 0 (plH c a j)=[(0,qf c.cabins c.secs 7),(7,qh ((plP c a).getD j default).2)]:=by
 simp [qN,plH,qJ,qo,AObj.ren,AV.renL,AV.ren,qf,qh]
def QY:=kk @QbT (kk @Q0 (kk @Xx.eq_1 @kU.eq_1))
theorem QdY {c:Chart} {a:Ask} (h:PlOk c a):Fn noB Tryz.prog 102 [.nil,.clo 103 [.ptr 2 0,.ptr 3 0]] (qc (qD 0 (plL c a))) (.row 4) (qc (zm 0 ((plL c a).map some++[some (.row 44 1 (plR c a (plP c a).length))]))) 0:=by
 have env:Env (fun F=>F.r=none) Tryz.prog tyB (tab []):=qA trivial
 refine Fn.of (A:=fun F=>F.r=none) (n0:=4) (D:=noD) (Fn0 Tryz.func102 rfl (fun vs w=>by kernel_rfl) (by kernel_rfl)) (by simp) (by simp [AV.ids,AV.idsL]) YN (fun _ _ _ h=>h) qw ?_
 have hbd:=Qbp h
 have hm:(729:Nat)+1≤maxLen:=by decide
 obtain ⟨N,hN⟩:∃ N,(plP c a).length=N:=⟨_,rfl⟩
 rw [hN] at hbd ⊢
 show Sym _ _ _ (qX [.nil,.clo 103 [.ptr 2 0,.ptr 3 0]] 4 (qc [(0,qf c.cabins c.secs 1),(1,qh c.sold),(2,.cells [.ptr 0 0]),(3,.cells (qg a))])) (wK tyB noD Tryz.f102 fun S rv=>Fin S rv _ 4 (qc [(0,qf c.cabins c.secs 1),(1,qh c.sold),(2,.cells [.ptr 0 0]),(3,.cells (qg a)),(4,.row 44 1 (plR c a N))]) 0)
 repeat' (first|(apply nx;with_reducible constructor)|refine jq (by decide) ?_|((first|refine kz env fun Q hQ=>?_|refine kj fun Q hQ=>?_);simp only [vkt,seval,qf,qh,ite_and];(repeat' first|with_reducible assumption|apply kk|intro hp);all_goals (first|(refine hQ _ ?_;clear hQ Q)|(refine hQ _ (fun h=>?_) (fun h=>?_) <;> clear hQ Q <;> (try simp only [vki,reduceCtorEq] at h))|(refine kx ?_;kernel_rfl)|omega|assumption|with_reducible rfl|skip)))
 refine jT (S':={ t:=asg aqL0,h:=qc (aqH c a 0++[(0,qf c.cabins c.secs 1),(1,qh c.sold),(2,.cells [.ptr 0 0]),(3,.cells (qg a))]),n:=6,j:=0,d:=[],m:=4 }) ?_ ?_
 ·show Le _ { t:=asg [(2,.ptr 4 0),(6,.clo 103 [.ptr 2 0,.ptr 3 0])],h:=qc [(4,.cells [.row 5]),(5,.row 44 1 []),(0,qf c.cabins c.secs 1),(1,qh c.sold),(2,.cells [.ptr 0 0]),(3,.cells (qg a))],n:=6,j:=0,d:=[],m:=4 }
  (refine Le.ok (fun i=>if i=5 then none else some i) [] ?_;constructor;all_goals (try simp only [vle,vkt,seval,qf,qh]))
  all_goals first|rfl|(simp [qg,AV.leL,AV.le,AV.idsL,AV.ids];done)|(intro i hi;rw [if_neg (by omega)];done)
 rw [← UL c a]
 refine jN (fun F h=>h) 1 (L:=aqL0) (L':=aqL) (xs:=[1,2,3]) (hs:=[0,1,2,3]) (n:=6) (nl:=1) (hc:=aqH c a) (Lp:=plL c a) (jj:=fun _=>0) (d:=[]) (ys:=plY c a) (hl:=plH c a) (ans:=fun _=>true) (ex:=.ret) (caps:=[.ptr 2 0,.ptr 3 0]) (caps0:=[.ptr 2 0,.ptr 3 0]) (N:=(plP c a).length) (R:=N) (A':=fun _ _=>True) rfl (ZR h) (by rw [hN];exact Uz) (.inl rfl) ?_ ?_ ?_ rfl (by simp) ?_ (by simp) (fun _ _ _ _ _ _=>trivial) ?_ ?_ ?_ ?_ ?_ ?_ (fun j hj=>?_) ?_ (fun j hj=>?_) (fun _=>?_) (fun _ h=>by cases h)
 ·simp [AV.leL,AV.le]
 ·simp [AV.nocbL,AV.nocb]
 ·simp [Zn,plL,qf,qh,qg,AObj.nocb,AV.nocbL,AV.nocb,AObj.ids,AV.ids,AV.idsL,AObj.ren,AV.renL,AV.ren,AObj.le,AV.leL,AV.le,qo]
 ·simp [aqH,qc]
 ·simp [aqH,qc]
 ·simp [aqH,AObj.ids,AV.ids,AV.idsL]
 ·simp [KW,aqL,aqL0,asg]
 ·simp [LY]
 ·intro j hj
  simp [absent,aqH,Qdd]
 ·simp [WV,aqL,AV.ids]
 ·refine ⟨?_,rfl, ?_, ?_,rfl, ?_⟩
  ·simp [xJ,aqH,AObj.ids,AV.ids,AV.idsL]
  ·simp [QW,plH,qJ,qf,qh,AObj.nocb,AV.nocbL,AV.nocb,AObj.ids,AV.ids,AV.idsL]
  ·simp [Yx,plY,qb,AV.nocb,AV.ids]
  ·simp [xy,Q7,Qdd,aqH,aqL,yT,AV.ids,ADf.ids,List.range_succ]
 ·simp [xJ,aqH,AObj.ids,AV.ids,AV.idsL]
 ·have env:Env (fun _:Frm=>True) Tryz.prog tyB (tab []):=qA trivial
  obtain ⟨x,hx⟩:∃ x,((plP c a).getD j default).1=x:=⟨_,rfl⟩
  have hS:=QfS (c:=c) (a:=a) (j:=j) (by omega)
  rw [hx] at hS
  have hl:(plR c a j).length≤729:=by simp [plR];omega
  have hl1:(plR c a j).length+1≤maxLen:=by omega
  have hst:zU aqL [7] [0] 6 1 (plY c a j) (aqH c a j) (plH c a j)={ t:=asg [(7,qb x),(2,.ptr 4 0)],h:=qc [(6,.mark),(4,.cells [.row 5]),(5,.row 44 1 (plR c a j)),(0,qf c.cabins c.secs 7),(7,qh ((plP c a).getD j default).2)],n:=8,m:=8 }:=by
   simp only [zU,plY,hx,qb,List.map_cons,List.map_nil,AV.ren,List.zip_cons_cons,List.zip_nil_right,aqH,aqL,kQ,List.cons_append,List.nil_append]
   rfl
  show Sym _ _ _ (zU aqL [7] [0] 6 1 (plY c a j) (aqH c a j) (plH c a j)) _
  rw [hst]
  obtain ⟨r,hr⟩:∃ r,((plP c a).getD j default).2=r:=⟨_,rfl⟩
  rw [hr]
  repeat' (first|(apply nx;with_reducible constructor)|refine jq (by decide) ?_|((first|refine kz env fun Q hQ=>?_|refine kj fun Q hQ=>?_);simp only [vkt,seval,QY,qb,qf,qh,Qmk,hl1,ite_and];(repeat' first|with_reducible assumption|apply kk|intro hp);all_goals (first|(refine hQ _ ?_;clear hQ Q)|(refine hQ _ (fun h=>?_) (fun h=>?_) <;> clear hQ Q <;> (try simp only [vki,reduceCtorEq] at h))|(refine kx ?_;kernel_rfl)|omega|assumption|with_reducible rfl|skip)))
  refine ⟨rfl,rfl,(fun i=>if i=5 then some 9 else some i),_,RFin.okQ (fun i=>if i=5 then some 9 else some i) [] ?_⟩
  constructor
  all_goals (try simp only [vle,yw,j5,qo,plH,aqH,hr,hS,qY,vkt,seval,qY,qf,qh,qJ,aqL])
  all_goals first|rfl|(simp;done)|(simp [yT,AV.ids,ADf.ids,List.range_succ];done)
 ·have eh:qc ((6,AObj.mark) :: aqH c a N++qN [0,1,2,3] (6+1) 0 (plL c a))=qc [(6,.mark),(4,.cells [.row 5]),(5,.row 44 1 (plR c a N)),(0,qf c.cabins c.secs 1),(1,qh c.sold),(2,.cells [.ptr 0 0]),(3,.cells (qg a))]:=by
   rw [show qN [0,1,2,3] (6+1) 0 (plL c a)=qN [0,1,2,3] 7 0 (plL c a) from rfl,UL];rfl
  rw [eh]
  repeat' (first|(apply nx;with_reducible constructor)|refine jq (by decide) ?_|((first|refine kz env fun Q hQ=>?_|refine kj fun Q hQ=>?_);simp only [vkt,seval,QY,qf,qh,aqL,ite_and];(repeat' first|with_reducible assumption|apply kk|intro hp);all_goals (first|(refine hQ _ ?_;clear hQ Q)|(refine hQ _ (fun h=>?_) (fun h=>?_) <;> clear hQ Q <;> (try simp only [vki,reduceCtorEq] at h))|(refine kx ?_;kernel_rfl)|omega|assumption|with_reducible rfl|skip)))
  (simp only [vrt,Tryz.results102,vkt,seval,qf,qh];refine Fin.ok (fun j=>[0,1,2,3,5][j]?) [] ?_ ?_ ?_ ?_ ?_ rfl;all_goals (try simp only [vle,vkt,seval]))
  all_goals first|rfl|(simp [qg,AV.leL,AV.le];done)|exact fun i hi=>(match i,hi with|0,_=>rfl|1,_=>rfl|2,_=>rfl|3,_=>rfl)
def YT (c:Chart) (a:Ask) (S:St):List AV→Option Pk
 |[.nil,.clo f [.ptr p2 0,.ptr p3 0]]=>match S.h p2 with
  |some (.cells [.ptr p 0])=>match S.h p with
   |some (.cells [_,_,.row r])=>some { pre:=f=103∧PlOk c a,hs:=[p,r,p2,p3],ar:=[.nil,.clo 103 [.ptr 2 0,.ptr 3 0]],L0:=plL c a,v:=.row 4,L1:=(plL c a).map some++[some (.row 44 1 (plR c a (plP c a).length))] }
   |_=>none
  |_=>none
 |_=>none
theorem Qi5 {A:Frm→Prop} {c:Chart} {a:Ask}:qm A Tryz.prog 102 (fnE (YT c a)):=qZ fun S bs q h hp=>by
 unfold YT at h
 split at h
 ·split at h
  ·split at h
   ·cases h;exact QdY hp.2
   ·cases h
  ·cases h
 ·cases h
theorem QbF {c:Chart} {a:Ask} (h:PlOk c a):Fn noB Tryz.prog 51 [.clo 103 [.ptr 2 0,.ptr 3 0]] (qc (qD 0 (plL c a))) (.row 4) (qc (zm 0 ((plL c a).map some++[some (.row 44 1 (plR c a (plP c a).length))]))) 0:=by
 have env:Env (fun _=>True) Tryz.prog tyB (tab [(102,fnE (YT c a))]):=qA ⟨Qi5,trivial⟩
 refine Fn.of (A:=fun _=>True) (n0:=4) (D:=noD) (Fn0 Tryz.func51 rfl (fun vs w=>by kernel_rfl) (by kernel_rfl)) (by simp) (by simp [AV.ids,AV.idsL]) YN (fun _ _ _ _=>trivial) qw ?_
 obtain ⟨X,hX⟩:∃ X,plR c a (plP c a).length=X:=⟨_,rfl⟩
 rw [hX]
 show Sym _ _ _ (qX [.clo 103 [.ptr 2 0,.ptr 3 0]] 4 (qc [(0,qf c.cabins c.secs 1),(1,qh c.sold),(2,.cells [.ptr 0 0]),(3,.cells (qg a))])) (wK tyB noD Tryz.f51 fun S rv=>Fin S rv _ 4 (qc [(0,qf c.cabins c.secs 1),(1,qh c.sold),(2,.cells [.ptr 0 0]),(3,.cells (qg a)),(4,.row 44 1 X)]) 0)
 repeat' (first|(apply nx;with_reducible constructor)|refine jq (by decide) ?_|((first|refine kz env fun Q hQ=>?_|refine kj fun Q hQ=>?_);simp only [vkt,seval,qg,qf,qh,plL,YT,h,hX,ite_and];(repeat' first|with_reducible assumption|apply kk|intro hp);all_goals (first|(refine hQ _ ?_;clear hQ Q)|(refine hQ _ (fun h=>?_) (fun h=>?_) <;> clear hQ Q <;> (try simp only [vki,reduceCtorEq] at h))|(refine kx ?_;kernel_rfl)|omega|assumption|with_reducible rfl|skip)))
 (simp only [vrt,Tryz.results51,vkt,seval,qg,qf,qh];refine Fin.ok some [] ?_ ?_ ?_ ?_ ?_ rfl;all_goals (try simp only [vle,vkt,seval]))
 all_goals first|rfl|(simp [qg,AV.leL,AV.le];done)|exact fun i hi=>(match i,hi with|0,_=>rfl|1,_=>rfl|2,_=>rfl|3,_=>rfl)
def WX (c:Chart) (a:Ask) (S:St):List AV→Option Pk
 |[.clo f [.ptr p2 0,.ptr p3 0]]=>match S.h p2 with
  |some (.cells [.ptr p 0])=>match S.h p with
   |some (.cells [_,_,.row r])=>some { pre:=f=103∧PlOk c a,hs:=[p,r,p2,p3],ar:=[.clo 103 [.ptr 2 0,.ptr 3 0]],L0:=plL c a,v:=.row 4,L1:=(plL c a).map some++[some (.row 44 1 (plR c a (plP c a).length))] }
   |_=>none
  |_=>none
 |_=>none
theorem Qg5 {A:Frm→Prop} {c:Chart} {a:Ask}:qm A Tryz.prog 51 (fnE (WX c a)):=qZ fun S bs q h hp=>by
 unfold WX at h
 split at h
 ·split at h
  ·split at h
   ·cases h;exact QbF hp.2
   ·cases h
  ·cases h
 ·cases h
theorem KP {c:Chart} {a:Ask} (h:wu c a=0):a.sexes.length≤3∧1≤a.sexes.length:=by
 unfold wu at h
 split at h
 ·exact absurd h (by decide)
 split at h
 ·exact absurd h (by decide)
 split at h
 ·exact absurd h ‹_›
 split at h
 ·exact absurd h ‹_›
 rename_i h4
 have h4:=Decidable.not_not.1 h4
 unfold qR at h4
 split at h4
 ·exact absurd h4 (by decide)
 ·split at h4
  ·exact absurd h4 (by decide)
  ·omega
theorem QD {c:Chart} {a:Ask} (h:zJ c a=0):PlOk c a:=⟨xq (jZ h).1,(KP (jZ h).2).1⟩
def YE (c:Chart) (a:Ask):List (List Bunk):=if zJ c a=0 then (plP c a).map (·.1) else []
def WO:=kk @wh (kk @jL (kk @x8 (kk @zQ.eq_1 (kk @wY.eq_1 @vV.eq_1))))
def YW:=kk @aI.eq_1 (kk @aB.eq_1 (@jJ))
theorem Qe4 (c:Chart) (a:Ask) (hc:c.cabins.length≤maxLen) (ha:a.sexes.length≤maxLen):Fn noB Tryz.prog 16 [qd c,qI a] noH (.tup [.row 0,aI (zJ c a)]) (qc [(0,.row 44 1 ((YE c a).map qY))]) 0:=by
 have env:Env (fun _=>True) Tryz.prog tyB (tab [(50,fnE jD),(52,fnE wO),(51,fnE (WX c a))]):=qA ⟨Vi,WW,Qg5,trivial⟩
 refine Fn.of (A:=fun _=>True) (n0:=0) (D:=noD) (Fn0 Tryz.func16 rfl (fun vs w=>by kernel_rfl) (by kernel_rfl)) (by simp) (by simp [AV.ids,AV.idsL,qd,qa,qI,qg]) (fun i o h=>by cases h) (fun _ _ _ _=>trivial) qw ?_
 have ec:(⟨c.cabins,c.secs,c.sold⟩:Chart)=c:=rfl
 have ea:(⟨a.party,a.frm,a.to,a.sexes,a.dog⟩:Ask)=a:=rfl
 unfold YE
 by_cases h0:zJ c a=0
 ·have hok:=QD h0
  rw [if_pos h0,h0]
  obtain ⟨X,hX⟩:∃ X,plR c a (plP c a).length=X:=⟨_,rfl⟩
  have hXe:(List.map (fun x=>x.1) (plP c a)).map qY=X:=by rw [← hX];unfold plR;rw [List.take_length,List.map_map];rfl
  rw [hXe]
  repeat' (first|(apply nx;with_reducible constructor)|refine jq (by decide) ?_|((first|refine kz env fun Q hQ=>?_|refine kj fun Q hQ=>?_);simp only [vkt,seval,WO,YW,qd,qa,qI,qg,mTk,qy,qf,qh,qJ,plL,jD,wO,WX,ec,ea,h0,hok,hX,ite_and];(repeat' first|with_reducible assumption|apply kk|intro hp);all_goals (first|(refine hQ _ ?_;clear hQ Q)|(refine hQ _ (fun h=>?_) (fun h=>?_) <;> clear hQ Q <;> (try simp only [vki] at h))|(refine kx ?_;kernel_rfl)|omega|assumption|with_reducible rfl|skip)))
  (simp only [vrt,Tryz.results16,vkt,seval,YW];refine Fin.ok (fun j=>[6][j]?) [] ?_ ?_ ?_ ?_ ?_ rfl;all_goals (try simp only [vle,vkt,seval]))
  all_goals first|rfl|simp
 ·rw [if_neg h0]
  repeat' (first|(apply nx;with_reducible constructor)|refine jq (by decide) ?_|((first|refine kz env fun Q hQ=>?_|refine kj fun Q hQ=>?_);simp only [vkt,seval,WO,YW,qd,qa,qI,qg,mTk,qy,jD,ec,ea,h0,ite_and];(repeat' first|with_reducible assumption|apply kk|intro hp);all_goals (first|(refine hQ _ ?_;clear hQ Q)|(refine hQ _ (fun h=>?_) (fun h=>?_) <;> clear hQ Q <;> (try simp only [vki] at h))|(refine kx ?_;kernel_rfl)|omega|assumption|with_reducible rfl|skip)))
  (simp only [vrt,Tryz.results16,vkt,seval,YW];refine Fin.ok (fun _=>none) [] ?_ ?_ ?_ ?_ ?_ rfl;all_goals (try simp only [vle,vkt,seval]))
  all_goals first|rfl|simp
def aU (n:Int):AV:=.v (.int .u64 n)
def Vu (a b:Int):Int:=IntKind.wrap .u64 (BitVec.ofInt IntKind.u64.bits a ||| BitVec.ofInt IntKind.u64.bits (IntKind.wrap .u64 (1 * 2 ^ min b.toNat IntKind.u64.bits))).toNat
def UR:=kk @Yp @ZG.eq_1
def Qdo:=kk @aI.eq_1 (kk @aB.eq_1 (@aU.eq_1))
theorem Qhn (a b:Int) (hb:0≤b):FnV Tryz.prog 96 [aU a,aI b] (aU (Vu a b)):=by
 have env:Env (fun _=>True) Tryz.prog tyB (tab []):=qA trivial
 refine Fn.of (A:=fun _=>True) (n0:=0) (D:=noD) (Fn0 Tryz.func96 rfl (fun vs w=>by kernel_rfl) (by kernel_rfl)) (by simp) (by simp [AV.ids,aU,aI]) (fun i o h=>by cases h) (fun _ _ _ _=>trivial) qw ?_
 repeat' (first|(apply nx;with_reducible constructor)|refine jq (by decide) ?_|((first|refine kz env fun Q hQ=>?_|refine kj fun Q hQ=>?_);simp only [vkt,seval,UR,Qdo,hb,ite_and];(repeat' first|with_reducible assumption|apply kk|intro hp);all_goals (first|(refine hQ _ ?_;clear hQ Q)|(refine hQ _ (fun h=>?_) (fun h=>?_) <;> clear hQ Q <;> (try simp only [vki,reduceCtorEq] at h))|(refine kx ?_;kernel_rfl)|omega|assumption|with_reducible rfl|skip)))
 (simp only [vrt,Tryz.results96,vkt,seval,Qdo];refine Fin.val rfl ?_;(try simp only [AV.le]))
 all_goals first|rfl|simp
def JO:List AV→Prop × AV
 |[.v (.int .u64 a),.v (.int .i64 b)]=>(0≤b,aU (Vu a b))
 |_=>(False,.junk)
theorem QfA {A:Frm→Prop}:qm A Tryz.prog 96 (qG true JO):=qH fun vs hv h=>by
 clear hv
 unfold JO at h ⊢
 split at h
 ·exact ⟨by simp [aU,AV.plain],fun _=>by simp [aU,AV.flat],Qhn _ _ h⟩
 ·exact h.elim
theorem QhD (p:List Int):(p.map aU).all wJ=true:=by simp [aU,wJ]
theorem Qv:∀ p:List Int,AV.idsL (p.map aU)=[]
 |[]=>rfl
 |x :: p=>by rw [List.map_cons,AV.idsL,Qv p];rfl
theorem QU (h:Nat→Option AObj) (σ:Nat→Option Nat):∀ p:List Int,AV.leL h σ (p.map aU) (p.map aU)=True
 |[]=>by simp [AV.leL]
 |x :: p=>by simp [AV.leL,AV.le,aU,QU h σ p]
theorem U7:∀ p:List Int,AV.plainL (p.map aU)=True
 |[]=>by simp [AV.plainL]
 |x :: p=>by simp [AV.plainL,AV.plain,aU,U7 p]
theorem Qct:∀ p:List Int,AV.flatL (p.map aU)=True
 |[]=>by simp [AV.flatL]
 |x :: p=>by simp [AV.flatL,AV.flat,aU,Qct p]
theorem QfD {p:List Int} {i:Nat} (h:i < p.length):(((p.map aU).drop i).take 1).headD .junk=aU (p.getD i 0):=by
 rw [List.drop_eq_getElem_cons (by simpa using h)]
 simp [List.getD_eq_getElem?_getD,h]
theorem Ql6 {p:List Int} {i:Nat} {n:Int} (h:i < p.length):(p.map aU).take i++[aU n]++(p.map aU).drop (i+1)=(p.set i n).map aU:=by
 apply List.ext_getElem?
 intro j
 rw [List.set_eq_take_append_cons_drop,if_pos h]
 simp
structure Van (c:Chart):Prop where
 car:CarOk c
 many:c.sold.length≤100
 tk:∀ t ∈ c.sold,TkOk c t
theorem Val.van {c:Chart} (h:Val c):Van c:=⟨h.car,by have:=h.many;omega,h.tk⟩
def Ze (s:Int) (h:List Int) (t:Tk):List Int:=if inB s t.frm (t.to - 1) then h.set t.cab.toNat (Vu (h.getD t.cab.toNat 0) t.bed) else h
def Qk (l:List Tk) (s:Int) (k:Nat):List Int:=(l.take k).foldl (Ze s) [0,0,0]
theorem WB {l:List Tk} {s:Int} {k:Nat} (h:k < l.length):Qk l s (k+1)=Ze s (Qk l s k) (l.getD k default):=by
 unfold Qk
 rw [List.take_succ_eq_append_getElem h,List.foldl_append]
 simp [List.getD_eq_getElem?_getD,h]
theorem xO (l:List Tk) (s:Int):∀ k,k≤l.length→(Qk l s k).length=3
 |0,_=>rfl
 |k+1,h=>by
  rw [WB (by omega),Ze]
  split
  ·rw [List.length_set];exact xO l s k (by omega)
  ·exact xO l s k (by omega)
def heT (c:Chart) (s:Int) (k:Nat):St:={ t:=asg [(1,aI s),(4,.ptr 1 0),(5,.ptr 2 0),(10,qp c.sold),(11,aI c.sold.length),(12,aI k)],h:=qc [(0,.cells (qa c)),(1,.cells [aU 0,aU 0,aU 0]),(2,.cells ((Qk c.sold s k).map aU))],n:=3 }
def jW:=kk @ty3 (kk @yP (kk @wh (kk @yu (kk @wP (kk @Yp (kk @QkL (kk @ti3.eq_1 (kk @yh.eq_1 (kk @zQ.eq_1 (kk @jQ.eq_1 (kk @wI.eq_1 (kk @ZG.eq_1 @UV.eq_1))))))))))))
def QI:=kk @aI.eq_1 (kk @aB.eq_1 (@aU.eq_1))
theorem QdG (c:Chart) (s:Int) (hv:Van c):FnV Tryz.prog 107 [qd c,aI s] (.agg ((Qk c.sold s c.sold.length).map aU)):=by
 have env:Env (fun _=>True) Tryz.prog tyB (tab [(77,qG true sin),(96,qG true JO)]):=qA ⟨ein,QfA,trivial⟩
 refine Fn.of (A:=fun _=>True) (n0:=0) (D:=noD) (Fn0 Tryz.func107 rfl (fun vs w=>by kernel_rfl) (by kernel_rfl)) (by simp) (by simp [AV.ids,AV.idsL,qd,qa,aI]) (fun i o h=>by cases h) (fun _ _ _ _=>trivial) qw ?_
 have hsl:=hv.many
 repeat' (first|(apply nx;with_reducible constructor)|refine jq (by decide) ?_|((first|refine kz env fun Q hQ=>?_|refine kj fun Q hQ=>?_);simp only [vkt,seval,jW,QI,qd,qa,ite_and];(repeat' first|with_reducible assumption|apply kk|intro hp);all_goals (first|(refine hQ _ ?_;clear hQ Q)|(refine hQ _ (fun h=>?_) (fun h=>?_) <;> clear hQ Q <;> (try simp only [vki,reduceCtorEq] at h))|(refine kx ?_;kernel_rfl)|omega|assumption|with_reducible rfl|skip)))
 refine qC (fun k:{ k:Nat // k≤c.sold.length }=>heT c s k.1) (fun k=>c.sold.length - k.1) ⟨0,Nat.zero_le _⟩ ?_ fun ⟨k,hk⟩=>?_
 ·(refine Le.ok some [] ?_;constructor;all_goals (try simp only [vle,vkt,seval,QI,qp,qa,Qv]))
  all_goals first|rfl|(simp [Qk,AV.leL,AV.le,aU];done)
 ·repeat' (first|(apply nx;with_reducible constructor)|refine jq (by decide) ?_)
  (refine kz env fun Q hQ=>?_;simp only [vkt,seval,jW,QI,qp,qa,heT,ite_and];(repeat' first|with_reducible assumption|apply kk|intro hp);all_goals (first|(refine hQ _ ?_;clear hQ Q)|(refine kx ?_;kernel_rfl)|omega|assumption|with_reducible rfl|skip))
  repeat' (first|(apply nx;with_reducible constructor)|refine jq (by decide) ?_)
  (refine wQ (by simp only [vkt,seval];rfl) (fun h=>?_) (fun h=>?_) <;> (try simp only [vki] at h))
  ·have hlt:k < c.sold.length:=by omega
   have e9:=k9 k (by omega)
   obtain ⟨x,hx⟩:∃ x,c.sold.getD k default=x:=⟨_,rfl⟩
   have hS:=WB (s:=s) hlt
   rw [hx] at hS
   have hok:=hv.tk x (hx ▸ wC hlt)
   have hcl:=hv.car.cabs
   obtain ⟨⟨g1,g2⟩,g3,g4,g5,g6⟩:=(⟨hok.cab,hok.bed.1,hok.frm,hok.way,hok.to⟩:_∧_∧_∧_∧_)
   have gs:=hv.car.secs
   have w1:IntKind.wrap .i64 (x.to - 1)=x.to - 1:=wrap64 (by omega) (by omega)
   obtain ⟨i,hi⟩:∃ i:Nat,x.cab=(i:Int):=⟨x.cab.toNat,by omega⟩
   have hi3:i < 3:=by omega
   have hi3':(i:Int) < 3:=by omega
   have i0:(0:Int)≤(i:Int):=by omega
   obtain ⟨P,hP⟩:∃ P,Qk c.sold s k=P:=⟨_,rfl⟩
   have hPl:P.length=3:=by rw [← hP];exact xO _ _ _ hk
   rw [hP,Ze,hi,Int.toNat_natCast] at hS
   try simp only [heT,hP]
   have hiP:i < P.length:=by omega
   have hiP1:i+1≤P.length:=by omega
   have pg:=QfD hiP
   have ps:=Ql6 (n:=Vu (P.getD i 0) x.bed) hiP
   cases hb:inB s x.frm (x.to - 1) with
   |false =>
    rw [hb] at hS
    repeat' (first|(apply nx;with_reducible constructor)|refine jq (by decide) ?_|((first|refine kz env fun Q hQ=>?_|refine kj fun Q hQ=>?_);simp only [vkt,seval,jW,QI,eTk,gTk,sin,hx,hb,w1,e9,ite_and];(repeat' first|with_reducible assumption|apply kk|intro hp);all_goals (first|(refine hQ _ ?_;clear hQ Q)|(refine hQ _ (fun h=>?_) (fun h=>?_) <;> clear hQ Q <;> (try simp only [reduceCtorEq] at h))|(refine kx ?_;kernel_rfl)|omega|assumption|with_reducible rfl|skip)))
    refine ⟨⟨k+1,hlt⟩,by show c.sold.length - (k+1) < c.sold.length - k;omega, ?_⟩
    simp only [hS]
    (refine Le.ok some [] ?_;constructor;all_goals (try simp only [vle,vkt,seval,QI,qp,qa,Qv,QU]))
    all_goals first|rfl|(simp [QU];done)
   |true =>
    rw [hb] at hS
    simp only [if_true] at hS
    simp only [aU] at pg ps
    repeat' (first|(apply nx;with_reducible constructor)|refine jq (by decide) ?_|((first|refine kz env fun Q hQ=>?_|refine kj fun Q hQ=>?_);simp only [vkt,seval,jW,QI,eTk,gTk,sin,JO,Nat.mul_one,hx,hb,w1,e9,hi,i0,hPl,pg,ps,g3,ite_and];(repeat' first|with_reducible assumption|apply kk|intro hp);all_goals (first|(refine hQ _ ?_;clear hQ Q)|(refine hQ _ (fun h=>?_) (fun h=>?_) <;> clear hQ Q <;> (try simp only [reduceCtorEq] at h))|(refine kx ?_;kernel_rfl)|omega|assumption|with_reducible rfl|skip)))
    refine ⟨⟨k+1,hlt⟩,by show c.sold.length - (k+1) < c.sold.length - k;omega, ?_⟩
    simp only [hS]
    (refine Le.ok some [] ?_;constructor;all_goals (try simp only [vle,vkt,seval,QI,qp,qa,Qv,QU]))
    all_goals first|rfl|(simp [QU];done)
  ·have hke:k=c.sold.length:=by omega
   subst hke
   obtain ⟨P,hP⟩:∃ P,Qk c.sold s c.sold.length=P:=⟨_,rfl⟩
   have hPl:P.length=3:=by rw [← hP];exact xO _ _ _ (Nat.le_refl _)
   try simp only [heT,hP]
   have tP:(P.map aU).take 3=P.map aU:=List.take_of_length_le (by simp [hPl])
   repeat' (first|(apply nx;with_reducible constructor)|refine jq (by decide) ?_|((first|refine kz env fun Q hQ=>?_|refine kj fun Q hQ=>?_);simp only [vkt,seval,jW,QhD,hPl,tP,ite_and];(repeat' first|with_reducible assumption|apply kk|intro hp);all_goals (first|(refine hQ _ ?_;clear hQ Q)|(refine hQ _ (fun h=>?_) (fun h=>?_) <;> clear hQ Q <;> (try simp only [vki,reduceCtorEq] at h))|(refine kx ?_;kernel_rfl)|omega|assumption|with_reducible rfl|skip)))
   (simp only [vrt,Tryz.results107,hPl,tP,vkt,seval,jW];refine Fin.val rfl ?_;(try simp only [AV.le]))
   all_goals first|rfl|(simp [QU];done)
def YR:List AV→Prop × AV
 |[.agg [.sl cs,.v (.int .i64 n),.sl ts],.v (.int .i64 s)]=>(cs=(cs.map qj).map qz∧ts=(ts.map dTk).map eTk∧Van ⟨cs.map qj,n,ts.map dTk⟩,.agg ((Qk (ts.map dTk) s ts.length).map aU))
 |_=>(False,.junk)
theorem Qkm {A:Frm→Prop}:qm A Tryz.prog 107 (qG true YR):=qH fun vs hv h=>by
 clear hv
 unfold YR at h ⊢
 split at h
 ·rename_i cs n ts s
  obtain ⟨h1,h2,h3⟩:=h
  refine ⟨by simp only [AV.plain,U7],fun _=>by simp only [AV.flat,Qct], ?_⟩
  have:=QdG ⟨cs.map qj,n,ts.map dTk⟩ s h3
  simp only [qd,qa,← h1,← h2,List.length_map] at this
  exact this
 ·exact h.elim
theorem wrapU {n:Int} (h0:0≤n) (h1:n < 18446744073709551616):IntKind.wrap .u64 n=n:=by
 rw [show IntKind.wrap .u64 n=n % 18446744073709551616 from rfl];omega
theorem QlL (x y:BitVec 64) (hy:y ≠ 0):IntKind.wrap .u64 ((x ||| y).toNat:Int) ≠ 0:=fun h=>by
 have hlt:=(x ||| y).isLt
 rw [wrapU (by omega) (by omega)] at h
 have h1:(x ||| y)=0:=by apply BitVec.eq_of_toNat_eq;rw [show (x ||| y).toNat=0 by omega];rfl
 exact hy (BitVec.or_eq_zero_iff.1 h1).2
theorem QiH {a b:Int} (h0:0≤b) (h3:b≤3):Vu a b ≠ 0:=by
 refine QlL (BitVec.ofInt 64 a) (BitVec.ofInt 64 (IntKind.wrap .u64 (1 * 2 ^ min b.toNat 64))) ?_
 rcases (by omega:b=0∨b=1∨b=2∨b=3) with rfl|rfl|rfl|rfl <;> decide
theorem Vn {l:List Tk} {s:Int} (hl:∀ t ∈ l,0≤t.cab∧t.cab < 3∧0≤t.bed∧t.bed≤3) {i:Nat} (hi:i < 3):∀ k,k≤l.length→decide ((Qk l s k).getD i 0=0)=(l.take k).all fun t=>!(atB s t && decide (t.cab=(i:Int)))
 |0,_=>by
  rw [List.take_zero]
  match i,hi with
  |0,_=>rfl
  |1,_=>rfl
  |2,_=>rfl
 |k+1,hk=>by
  have hkl:k < l.length:=by omega
  have ih:=Vn (s:=s) hl hi k (by omega)
  have hlen:=xO l s k (by omega)
  obtain ⟨g1,g2,g3,g4⟩:=hl _ (wC (d:=default) hkl)
  rw [WB hkl,List.take_succ_eq_append_getElem hkl,List.all_append,← ih]
  rw [show l[k]=l.getD k default by simp [List.getD_eq_getElem?_getD,hkl]]
  generalize l.getD k default=t at *
  have ha:inB s t.frm (t.to - 1)=atB s t:=by
   unfold inB atB
   rw [show decide (s≤t.to - 1)=decide (s < t.to) by rw [decide_eq_decide];omega]
  unfold Ze
  rw [ha]
  simp only [List.all_cons,List.all_nil,Bool.and_true]
  cases atB s t with
  |false=>simp
  |true =>
   simp only [if_true,Bool.true_and]
   by_cases hc:t.cab=(i:Int)
   ·have e:t.cab.toNat=i:=by omega
    rw [e,decide_eq_true hc,List.getD_eq_getElem?_getD,List.getElem?_set_self (by omega),Option.getD_some,decide_eq_false (QiH g3 g4)]
    simp
   ·have e:t.cab.toNat ≠ i:=by omega
    rw [decide_eq_false hc,List.getD_eq_getElem?_getD,List.getElem?_set_ne e,← List.getD_eq_getElem?_getD]
    simp
def rcN (c:Chart) (s i:Nat):Nat:=((List.range i).filter fun (j:Nat)=>JX c.sold s j).length
def rtN (c:Chart) (s:Nat):Nat:=((List.range s).map fun s=>rcN c s c.cabins.length).sum
theorem QhT (c:Chart) (s i:Nat):rcN c s (i+1)=rcN c s i+if JX c.sold s i then 1 else 0:=by
 unfold rcN
 rw [List.range_succ,List.filter_append,List.length_append]
 cases h:JX c.sold s i <;> simp [h]
theorem U3 (c:Chart) (s:Nat):rtN c (s+1)=rtN c s+rcN c s c.cabins.length:=by
 unfold rtN
 rw [List.range_succ,List.map_append,List.sum_append]
 simp
theorem Qgb (c:Chart) (s i:Nat):rcN c s i≤i:=by
 unfold rcN
 exact Nat.le_trans (List.length_filter_le _ _) (by simp)
theorem Qgf (c:Chart):∀ s,rtN c s≤s * c.cabins.length
 |0=>by simp [rtN]
 |s+1=>by
  have:=Qgf c s
  have:=Qgb c s c.cabins.length
  rw [U3,Nat.succ_mul];omega
theorem QhJ (c:Chart):QV c.cabins c.secs c.sold=(rtN c c.secs.toNat:Int):=by
 unfold QV rtN
 rw [List.length_flatMap]
 rfl
def rsO (c:Chart) (s:Nat):St:={ t:=asg [(1,.ptr 0 0),(2,aI 0),(3,aI (rtN c s:Nat)),(8,aI c.secs),(9,aI s)],h:=qc [(0,.cells (qa c))],n:=1 }
def rsI (c:Chart) (s i:Nat):St:={ t:=asg [(1,.ptr 0 0),(2,aI 0),(3,aI (rtN c s+rcN c s i:Nat)),(4,aI s),(5,.ptr 1 0),(8,aI c.secs),(9,aI s),(17,aI c.cabins.length),(18,aI i)],h:=qc [(0,.cells (qa c)),(1,.cells ((Qk c.sold s c.sold.length).map aU))],n:=2 }
def yF:=kk @ty3 (kk @Za (kk @wh (kk @Zt (kk @Yp (kk @QkL (kk @ti3.eq_1 (kk @Qp.eq_1 (kk @zQ.eq_1 (kk @Qd.eq_1 (kk @ZG.eq_1 @UV.eq_1))))))))))
def kS:=kk @aI.eq_1 (@aB.eq_1)
theorem Qki (c:Chart) (hv:Van c):FnV Tryz.prog 58 [qd c] (aI (QV c.cabins c.secs c.sold)):=by
 have env:Env (fun _=>True) Tryz.prog tyB (tab [(107,qG true YR)]):=qA ⟨Qkm,trivial⟩
 refine Fn.of (A:=fun _=>True) (n0:=0) (D:=noD) (Fn0 Tryz.func58 rfl (fun vs w=>by kernel_rfl) (by kernel_rfl)) (by simp) (by simp [AV.ids,AV.idsL,qd,qa]) (fun i o h=>by cases h) (fun _ _ _ _=>trivial) qw ?_
 have hcl:=hv.car.cabs
 have hsec:=hv.car.secs
 have ec:(⟨c.cabins,c.secs,c.sold⟩:Chart)=c:=rfl
 have htk:∀ t ∈ c.sold,0≤t.cab∧t.cab < 3∧0≤t.bed∧t.bed≤3:=fun t ht=>by
  have h1:=hv.tk t ht
  have h2:=h1.cab
  have h3:=h1.bed
  have h4:=(hv.car.beds _ (wC (d:=default) h2.2)).2
  omega
 rw [QhJ]
 repeat' (first|(apply nx;with_reducible constructor)|refine jq (by decide) ?_|((first|refine kz env fun Q hQ=>?_|refine kj fun Q hQ=>?_);simp only [vkt,seval,yF,qd,qa,ite_and];(repeat' first|with_reducible assumption|apply kk|intro hp);all_goals (first|(refine hQ _ ?_;clear hQ Q)|(refine hQ _ (fun h=>?_) (fun h=>?_) <;> clear hQ Q <;> (try simp only [vki,reduceCtorEq] at h))|(refine kx ?_;kernel_rfl)|omega|assumption|with_reducible rfl|skip)))
 refine qC (fun s:{ s:Nat // s≤c.secs.toNat }=>rsO c s.1) (fun s=>c.secs.toNat - s.1) ⟨0,Nat.zero_le _⟩ ?_ fun ⟨s,hs⟩=>?_
 ·(refine Le.ok some [] ?_;constructor;all_goals (try simp only [vle,vkt,seval,kS,qa]))
  all_goals first|rfl|(simp [rtN];done)
 simp only at hs ⊢
 repeat' (first|(apply nx;with_reducible constructor)|refine jq (by decide) ?_)
 (refine kz env fun Q hQ=>?_;simp only [vkt,seval,yF,kS,qa,rsO,ite_and];(repeat' first|with_reducible assumption|apply kk|intro hp);all_goals (first|(refine hQ _ ?_;clear hQ Q)|(refine kx ?_;kernel_rfl)|omega|assumption|with_reducible rfl|skip))
 repeat' (first|(apply nx;with_reducible constructor)|refine jq (by decide) ?_)
 (refine wQ (by simp only [vkt,seval];rfl) (fun h=>?_) (fun h=>?_) <;> (try simp only [vki] at h))
 ·have hlt:s < c.secs.toNat:=by omega
  have hT:=Qgf c s
  have hT3:rtN c s≤s * 3:=Nat.le_trans hT (Nat.mul_le_mul_left _ hcl.2)
  have e9:=k9 s (by omega)
  obtain ⟨P,hP⟩:∃ P,Qk c.sold s c.sold.length=P:=⟨_,rfl⟩
  have hPl:P.length=3:=by rw [← hP];exact xO _ _ _ (Nat.le_refl _)
  repeat' (first|(apply nx;with_reducible constructor)|refine jq (by decide) ?_|((first|refine kz env fun Q hQ=>?_|refine kj fun Q hQ=>?_);simp only [vkt,seval,yF,qy,mTk,YR,QhD,ec,hv,hP,ite_and];(repeat' first|with_reducible assumption|apply kk|intro hp);all_goals (first|(refine hQ _ ?_;clear hQ Q)|(refine hQ _ (fun h=>?_) (fun h=>?_) <;> clear hQ Q <;> (try simp only [vki,reduceCtorEq] at h))|(refine kx ?_;kernel_rfl)|omega|assumption|with_reducible rfl|skip)))
  refine qC (fun i:{ i:Nat // i≤c.cabins.length }=>rsI c s i.1) (fun i=>c.cabins.length - i.1) ⟨0,Nat.zero_le _⟩ ?_ fun ⟨i,hi⟩=>?_
  ·simp only [rsI,hP,rcN,List.range_zero,List.filter_nil,List.length_nil,Nat.add_zero]
   (refine Le.ok some [] ?_;constructor;all_goals (try simp only [vle,vkt,seval,kS,qa,Qv]))
   all_goals first|rfl|(simp [QU];done)|(simp [hPl,QU];done)
  simp only at hi ⊢
  repeat' (first|(apply nx;with_reducible constructor)|refine jq (by decide) ?_)
  (refine kz env fun Q hQ=>?_;simp only [vkt,seval,yF,kS,qa,rsI,ite_and];(repeat' first|with_reducible assumption|apply kk|intro hp);all_goals (first|(refine hQ _ ?_;clear hQ Q)|(refine kx ?_;kernel_rfl)|omega|assumption|with_reducible rfl|skip))
  repeat' (first|(apply nx;with_reducible constructor)|refine jq (by decide) ?_)
  (refine wQ (by simp only [vkt,seval];rfl) (fun h=>?_) (fun h=>?_) <;> (try simp only [vki] at h))
  ·have hil:i < c.cabins.length:=by omega
   have hC:=Qgb c s i
   have e8:=k9 i (by omega)
   have e7:IntKind.wrap .i64 (((rtN c s+rcN c s i:Nat):Int)+1)=((rtN c s+rcN c s i+1:Nat):Int):=by rw [wrap64 (by omega) (by omega)];rfl
   have hz:=Vn (s:=(s:Int)) htk (show i < 3 by omega) c.sold.length (Nat.le_refl _)
   rw [List.take_length,hP] at hz
   have hz:decide (P.getD i 0=0)=JX c.sold s i:=hz
   have hS:=QhT c s i
   have i3:(i:Int) < 3:=by omega
   have hiP:i < P.length:=by omega
   have hiP1:i+1≤P.length:=by omega
   have pg:=QfD hiP
   simp only [aU] at pg
   cases hE:JX c.sold s i with
   |true =>
    rw [hE] at hz hS
    simp only [if_true] at hS
    repeat' (first|(apply nx;with_reducible constructor)|refine jq (by decide) ?_|((first|refine kz env fun Q hQ=>?_|refine kj fun Q hQ=>?_);simp only [vkt,seval,yF,Nat.mul_one,hP,hPl,pg,hz,e8,e7,ite_and];(repeat' first|with_reducible assumption|apply kk|intro hp);all_goals (first|(refine hQ _ ?_;clear hQ Q)|(refine hQ _ (fun h=>?_) (fun h=>?_) <;> clear hQ Q <;> (try simp only [reduceCtorEq] at h))|(refine kx ?_;kernel_rfl)|omega|assumption|with_reducible rfl|skip)))
    refine ⟨⟨i+1,hil⟩,by show c.cabins.length - (i+1) < c.cabins.length - i;omega, ?_⟩
    simp only [rsI,hP,hS,← Nat.add_assoc]
    (refine Le.ok some [] ?_;constructor;all_goals (try simp only [vle,vkt,seval,kS,qa,Qv,QU]))
    all_goals first|rfl|(simp [QU];done)
   |false =>
    rw [hE] at hz hS
    simp only [Bool.false_eq_true,if_false,Nat.add_zero] at hS
    repeat' (first|(apply nx;with_reducible constructor)|refine jq (by decide) ?_|((first|refine kz env fun Q hQ=>?_|refine kj fun Q hQ=>?_);simp only [vkt,seval,yF,Nat.mul_one,hP,hPl,pg,hz,e8,ite_and];(repeat' first|with_reducible assumption|apply kk|intro hp);all_goals (first|(refine hQ _ ?_;clear hQ Q)|(refine hQ _ (fun h=>?_) (fun h=>?_) <;> clear hQ Q <;> (try simp only [reduceCtorEq] at h))|(refine kx ?_;kernel_rfl)|omega|assumption|with_reducible rfl|skip)))
    refine ⟨⟨i+1,hil⟩,by show c.cabins.length - (i+1) < c.cabins.length - i;omega, ?_⟩
    simp only [rsI,hP,hS]
    (refine Le.ok some [] ?_;constructor;all_goals (try simp only [vle,vkt,seval,kS,qa,Qv,QU]))
    all_goals first|rfl|(simp [QU];done)
  ·have hie:i=c.cabins.length:=by omega
   subst hie
   have hS:=U3 c s
   repeat' (first|(apply nx;with_reducible constructor)|refine jq (by decide) ?_|((first|refine kz env fun Q hQ=>?_|refine kj fun Q hQ=>?_);simp only [vkt,seval,yF,hP,e9,ite_and];(repeat' first|with_reducible assumption|apply kk|intro hp);all_goals (first|(refine hQ _ ?_;clear hQ Q)|(refine hQ _ (fun h=>?_) (fun h=>?_) <;> clear hQ Q <;> (try simp only [vki,reduceCtorEq] at h))|(refine kx ?_;kernel_rfl)|omega|assumption|with_reducible rfl|skip)))
   refine ⟨⟨s+1,hlt⟩,by show c.secs.toNat - (s+1) < c.secs.toNat - s;omega, ?_⟩
   simp only [rsO,hS]
   (refine Le.ok some [] ?_;constructor;all_goals (try simp only [vle,vkt,seval,kS,qa]))
   all_goals first|rfl|simp
 ·have hse:s=c.secs.toNat:=by omega
  subst hse
  repeat' (first|(apply nx;with_reducible constructor)|refine jq (by decide) ?_|((first|refine kz env fun Q hQ=>?_|refine kj fun Q hQ=>?_);simp only [vkt,seval,ite_and];(repeat' first|with_reducible assumption|apply kk|intro hp);all_goals (first|(refine hQ _ ?_;clear hQ Q)|(refine hQ _ (fun h=>?_) (fun h=>?_) <;> clear hQ Q <;> (try simp only [vki,reduceCtorEq] at h))|(refine kx ?_;kernel_rfl)|omega|assumption|with_reducible rfl|skip)))
  (simp only [vrt,Tryz.results58,vkt,seval,kS];refine Fin.val rfl ?_;(try simp only [AV.le]))
  all_goals first|rfl|simp
def XT:List AV→Prop × AV
 |[.agg [.sl cs,.v (.int .i64 n),.sl ts]]=>(cs=(cs.map qj).map qz∧ts=(ts.map dTk).map eTk∧Van ⟨cs.map qj,n,ts.map dTk⟩,aI (QV (cs.map qj) n (ts.map dTk)))
 |_=>(False,.junk)
theorem Qk9 {A:Frm→Prop}:qm A Tryz.prog 58 (qG true XT):=qH fun vs hv h=>by
 clear hv
 unfold XT at h ⊢
 split at h
 ·rename_i cs n ts
  obtain ⟨h1,h2,h3⟩:=h
  refine ⟨by simp [aI,AV.plain],fun _=>by simp [aI,AV.flat], ?_⟩
  have:=Qki ⟨cs.map qj,n,ts.map dTk⟩ h3
  simp only [qd,qa,← h1,← h2] at this
  exact this
 ·exact h.elim
def QcD (c:Chart):Int:=if zw c=0 then QV c.cabins c.secs c.sold else 0
def VZ:=kk @wh (kk @x8 (kk @zQ.eq_1 @vV.eq_1))
def YI:=kk @aI.eq_1 (@aB.eq_1)
theorem Qj2 (c:Chart) (hc:c.cabins.length≤maxLen):FnV Tryz.prog 42 [qd c] (.tup [aI (QcD c),aI (zw c)]):=by
 have env:Env (fun _=>True) Tryz.prog tyB (tab [(76,qG true jC),(58,qG true XT)]):=qA ⟨VQ,Qk9,trivial⟩
 refine Fn.of (A:=fun _=>True) (n0:=0) (D:=noD) (Fn0 Tryz.func42 rfl (fun vs w=>by kernel_rfl) (by kernel_rfl)) (by simp) (by simp [AV.ids,AV.idsL,qd,qa]) (fun i o h=>by cases h) (fun _ _ _ _=>trivial) qw ?_
 have ec:(⟨c.cabins,c.secs,c.sold⟩:Chart)=c:=rfl
 unfold QcD
 by_cases h1:zw c=0
 ·have hv:=(xq h1).van
  rw [if_pos h1,h1]
  repeat' (first|(apply nx;with_reducible constructor)|refine jq (by decide) ?_|((first|refine kz env fun Q hQ=>?_|refine kj fun Q hQ=>?_);simp only [vkt,seval,VZ,YI,qd,qa,qy,mTk,jC,XT,ec,h1,hv,ite_and];(repeat' first|with_reducible assumption|apply kk|intro hp);all_goals (first|(refine hQ _ ?_;clear hQ Q)|(refine hQ _ (fun h=>?_) (fun h=>?_) <;> clear hQ Q <;> (try simp only [vki] at h))|(refine kx ?_;kernel_rfl)|omega|assumption|with_reducible rfl|skip)))
  (simp only [vrt,Tryz.results42,vkt,seval,YI];refine Fin.val rfl ?_;(try simp only [AV.le,AV.leL]))
  all_goals first|rfl|simp
 ·rw [if_neg h1]
  repeat' (first|(apply nx;with_reducible constructor)|refine jq (by decide) ?_|((first|refine kz env fun Q hQ=>?_|refine kj fun Q hQ=>?_);simp only [vkt,seval,VZ,YI,qd,qa,qy,mTk,jC,ec,h1,ite_and];(repeat' first|with_reducible assumption|apply kk|intro hp);all_goals (first|(refine hQ _ ?_;clear hQ Q)|(refine hQ _ (fun h=>?_) (fun h=>?_) <;> clear hQ Q <;> (try simp only [vki] at h))|(refine kx ?_;kernel_rfl)|omega|assumption|with_reducible rfl|skip)))
  (simp only [vrt,Tryz.results42,vkt,seval,YI];refine Fin.val rfl ?_;(try simp only [AV.le,AV.leL]))
  all_goals first|rfl|simp
def bL3 (cs:List Cabin) (s:Int) (l:List Tk):List AObj:=[qf cs s 2,.cells [.ptr 0 0],qh l]
def Qgh:=kk @wh (kk @QZ (kk @Wj (kk @zQ.eq_1 (kk @kV.eq_1 @Ql.eq_1))))
def QcX:=kk @aI.eq_1 (@aB.eq_1)
theorem bb_fn (cs:List Cabin) (s:Int) (l:List Tk) (hv:Van ⟨cs,s,l⟩):Fn noB Tryz.prog 57 [.ptr 1 0] (qc (qD 0 (bL3 cs s l))) (aI (QV cs s l)) (qc (zm 0 ((bL3 cs s l).map some))) 0:=by
 have env:Env (fun _=>True) Tryz.prog tyB (tab [(58,qG true XT)]):=qA ⟨Qk9,trivial⟩
 refine Fn.of (A:=fun _=>True) (n0:=3) (D:=noD) (Fn0 Tryz.func57 rfl (fun vs w=>by kernel_rfl) (by kernel_rfl)) (by simp) (by simp [AV.ids]) ?_ (fun _ _ _ _=>trivial) qw ?_
 ·intro i o hi
  have h:=qF hi
  simp [qD,bL3] at h
  rcases h with ⟨rfl,rfl⟩|⟨rfl,rfl⟩|⟨rfl,rfl⟩ <;> simp [AObj.ids,AV.ids,AV.idsL,qf,qh]
 show Sym _ _ _ (qX [.ptr 1 0] 3 (qc [(0,qf cs s 2),(1,.cells [.ptr 0 0]),(2,qh l)])) (wK tyB noD Tryz.f57 fun S rv=>Fin S rv _ 3 (qc [(0,qf cs s 2),(1,.cells [.ptr 0 0]),(2,qh l)]) 0)
 repeat' (first|(apply nx;with_reducible constructor)|refine jq (by decide) ?_|((first|refine kz env fun Q hQ=>?_|refine kj fun Q hQ=>?_);simp only [vkt,seval,Qgh,QcX,qy,mTk,qf,qh,XT,hv,ite_and];(repeat' first|with_reducible assumption|apply kk|intro hp);all_goals (first|(refine hQ _ ?_;clear hQ Q)|(refine hQ _ (fun h=>?_) (fun h=>?_) <;> clear hQ Q <;> (try simp only [vki,reduceCtorEq] at h))|(refine kx ?_;kernel_rfl)|omega|assumption|with_reducible rfl|skip)))
 (simp only [vrt,Tryz.results57,vkt,seval,QcX,qf,qh];refine Fin.ok some [] ?_ ?_ ?_ ?_ ?_ rfl;all_goals (try simp only [vle,vkt,seval]))
 all_goals first|rfl|(simp;done)|exact fun i hi=>(match i,hi with|0,_=>rfl|1,_=>rfl|2,_=>rfl)
def wW (c:Chart) (a:Ask):List AObj:=[qf c.cabins c.secs 2,.cells [.ptr 0 0],qh c.sold,.cells (qg a)]
def xA (c:Chart) (a:Ask) (j:Nat):List AV:=[.agg [qb ((plP c a).getD j default).1,.clo 57 [.ptr 1 0]]]
def yK (c:Chart) (a:Ask) (j:Nat):List AObj:=bL3 c.cabins c.secs ((plP c a).getD j default).2
def bgL0:List (Nat × AV):=[(1,.ptr 1 0),(3,.ptr 4 0),(7,.clo 103 [.ptr 5 0,.ptr 6 0])]
def bgL:List (Nat × AV):=[(1,.ptr 1 0),(3,.ptr 4 0)]
def bgH (a:Ask):List (Nat × AObj):=[(1,.cells [.ptr 0 0]),(3,.cells (qg a)),(4,.cells [.cb])]
theorem VO (c:Chart) (a:Ask):qN [0,2,5,6] 8 0 (plL c a)=[(0,qf c.cabins c.secs 2),(2,qh c.sold),(5,.cells [.ptr 0 0]),(6,.cells (qg a))]:=by
 simp [qN,plL,qo,AObj.ren,AV.renL,AV.ren,qf,qh,qg]
theorem RZ (c:Chart) (a:Ask) (j:Nat):qN [0] 8 0 (plH c a j)=[(0,qf c.cabins c.secs 8),(8,qh ((plP c a).getD j default).2)]:=by
 simp [qN,plH,qJ,qo,AObj.ren,AV.renL,AV.ren,qf,qh]
def Zx:=kk @jL (kk @QZ (kk @ty104 (kk @QkV (kk @wY.eq_1 (kk @kV.eq_1 (kk @QcG.eq_1 @U9.eq_1))))))
def RA:=kk @aI.eq_1 (kk @aB.eq_1 (@jJ))
theorem QfN {c:Chart} {a:Ask} (h:PlOk c a):LP Tryz.prog 56 [.cb,.ptr 1 0,.ptr 3 0] (nth ((wW c a).take 2)) (nth (wW c a)) (xA c a) (plP c a).length (fun j=>nth (yK c a j)) (fun _ _=>.tup []):=by
 intro ans R hr
 rw [Qa,Qa]
 obtain ⟨A0,hA0⟩:∃ A0:Frm→Prop,A0=fun F=>F.r=none∧Acb Tryz.prog (qc (qD 0 ((wW c a).take 2))) (qc (qD 0 (wW c a))) (xA c a) (fun j=>nth (yK c a j)) ans R F:=⟨_,rfl⟩
 have hr0:∀ F,A0 F→F.r=none:=fun F h=>by rw [hA0] at h;exact h.1
 have hA:∀ F,A0 F→Acb Tryz.prog (qc (qD 0 ((wW c a).take 2))) (qc (qD 0 (wW c a))) (xA c a) (fun j=>nth (yK c a j)) ans R F:=fun F h=>by rw [hA0] at h;exact h.2
 have hp2:∀ i o,qc (qD 0 ((wW c a).take 2)) i=some o→i=0∨i=1:=fun i o hi=>by
  rw [zX,if_neg (by omega)] at hi
  have:=(List.getElem?_eq_some_iff.1 hi).1
  simp [wW] at this
  omega
 have env:Env A0 Tryz.prog tyB (tab [(52,fnE wO)]):=qA ⟨WW,trivial⟩
 refine Fn.of (A:=A0) (n0:=4) (D:=noD) (Fn0 Tryz.func56 rfl (fun vs w=>by kernel_rfl) (by kernel_rfl)) (by simp) (by simp [AV.ids]) ?_ (fun F hb h0 h1=>by rw [hA0];exact ⟨h1,h0,fun i o hi=>(by rcases hp2 i o hi with rfl|rfl <;> exact ⟨_,rfl⟩),hb⟩) qw ?_
 ·intro i o hi
  have h:=qF hi
  simp [qD,wW] at h
  rcases h with ⟨rfl,rfl⟩|⟨rfl,rfl⟩|⟨rfl,rfl⟩|⟨rfl,rfl⟩ <;> simp [AObj.ids,AV.ids,AV.idsL,qf,qh,qg]
 show Sym _ _ _ (qX [.cb,.ptr 1 0,.ptr 3 0] 4 (qc [(0,qf c.cabins c.secs 2),(1,.cells [.ptr 0 0]),(2,qh c.sold),(3,.cells (qg a))])) (wK tyB noD Tryz.f56 fun S rv=>Fin S rv _ 4 (qc [(0,qf c.cabins c.secs 2),(1,.cells [.ptr 0 0]),(2,qh c.sold),(3,.cells (qg a))]) R)
 repeat' (first|(apply nx;with_reducible constructor)|refine jq (by decide) ?_|((first|refine kz env fun Q hQ=>?_|refine kj fun Q hQ=>?_);simp only [vkt,seval,Zx,RA,qg,mTk,qy,qf,qh,qJ,plL,wO,hwL,ite_and];(repeat' first|with_reducible assumption|apply kk|intro hp);all_goals (first|(refine hQ _ ?_;clear hQ Q)|(refine hQ _ (fun h=>?_) (fun h=>?_) <;> clear hQ Q <;> (try simp only [vki,reduceCtorEq] at h))|(refine kx ?_;kernel_rfl)|omega|assumption|with_reducible rfl|skip)))
 refine jT (S':={ t:=asg bgL0,h:=qc (bgH a++[(0,qf c.cabins c.secs 2),(2,qh c.sold),(5,.cells [.ptr 0 0]),(6,.cells (qg a))]),n:=7,j:=0,d:=[],m:=4 }) ?_ ?_
 ·show Le _ { t:=asg [(1,.ptr 1 0),(3,.ptr 4 0),(7,.clo 103 [.ptr 5 0,.ptr 6 0])],h:=qc [(1,.cells [.ptr 0 0]),(3,.cells (qg a)),(4,.cells [.cb]),(0,qf c.cabins c.secs 2),(2,qh c.sold),(5,.cells [.ptr 0 0]),(6,.cells (qg a))],n:=7,j:=0,d:=[],m:=4 }
  (refine Le.ok some [] ?_;constructor;all_goals (try simp only [vle,vkt,seval,qg,qf,qh]))
  all_goals first|rfl|simp
 rw [← VO c a]
 refine jN hr0 1 (L:=bgL0) (L':=bgL) (xs:=[2]) (hs:=[0,2,5,6]) (n:=7) (nl:=1) (hc:=fun _=>bgH a) (Lp:=plL c a) (jj:=fun j=>j) (d:=[]) (ys:=plY c a) (hl:=plH c a) (ans:=ans) (ex:=.ret) (caps:=[.ptr 5 0,.ptr 6 0]) (caps0:=[.ptr 2 0,.ptr 3 0]) (N:=(plP c a).length) (R:=R) (A':=fun j=>Acb Tryz.prog (qc (qD 0 ((wW c a).take 2))) (qc ((7,.mark) :: bgH a++qN [0] 8 0 (plH c a j))) (fun k=>xA c a (j+k)) (fun k=>nth (yK c a (j+k))) (fun k=>ans (j+k)) (R - j)) rfl (ZR h) hr (.inl rfl) ?_ ?_ ?_ rfl (by simp) ?_ (by simp) ?_ ?_ ?_ ?_ ?_ ?_ ?_ (fun j hj=>?_) ?_ (fun j hj=>?_) (fun _=>?_) (fun hpos hlast=>?_)
 ·simp [AV.leL,AV.le]
 ·simp [AV.nocbL,AV.nocb]
 ·simp [Zn,plL,qf,qh,qg,AObj.nocb,AV.nocbL,AV.nocb,AObj.ids,AV.ids,AV.idsL,AObj.ren,AV.renL,AV.ren,AObj.le,AV.leL,AV.le,qo]
 ·simp [bgH,qc]
 ·intro F hF j hj F' hR
  refine X8 (hA F hF) hR fun i o hi=>?_
  rcases hp2 i o hi with rfl|rfl
  ·exact ⟨_,rfl⟩
  ·exact ⟨_,rfl⟩
 ·simp [bgH,qc]
 ·simp [bgH,AObj.ids,AV.ids,AV.idsL,qg]
 ·simp [KW,bgL,bgL0,asg]
 ·simp [LY]
 ·intro j hj
  simp [absent,bgH,RZ]
 ·simp [WV,bgL,AV.ids]
 ·refine ⟨?_,rfl, ?_, ?_,rfl, ?_⟩
  ·simp [xJ,bgH,AObj.ids,AV.ids,AV.idsL,qg]
  ·simp [QW,plH,qJ,qf,qh,AObj.nocb,AV.nocbL,AV.nocb,AObj.ids,AV.ids,AV.idsL]
  ·simp [Yx,plY,qb,AV.nocb,AV.ids]
  ·simp [xy,Q7,RZ,bgH,bgL,yT,AV.ids,ADf.ids,List.range_succ]
 ·simp [xJ,bgH,AObj.ids,AV.ids,AV.idsL,qg]
 ·obtain ⟨x,hx⟩:∃ x,((plP c a).getD j default).1=x:=⟨_,rfl⟩
  obtain ⟨r,hr2⟩:∃ r,((plP c a).getD j default).2=r:=⟨_,rfl⟩
  obtain ⟨A1,hA1⟩:∃ A1:Frm→Prop,A1=Acb Tryz.prog (qc (qD 0 ((wW c a).take 2))) (qc ((7,.mark) :: bgH a++qN [0] 8 0 (plH c a j))) (fun k=>xA c a (j+k)) (fun k=>nth (yK c a (j+k))) (fun k=>ans (j+k)) (R - j):=⟨_,rfl⟩
  rw [← hA1]
  have hB:∀ F,A1 F→Acb Tryz.prog (qc (qD 0 ((wW c a).take 2))) (qc ((7,.mark) :: bgH a++qN [0] 8 0 (plH c a j))) (fun k=>xA c a (j+k)) (fun k=>nth (yK c a (j+k))) (fun k=>ans (j+k)) (R - j) F:=fun F h=>hA1 ▸ h
  have env:Env A1 Tryz.prog tyB (Go.Sym.tabC (cbX [0,1,8] (fun k=>xA c a (j+k)) (fun k=>yK c a (j+k)) (fun k=>ans (j+k)) (R - j)) []):=⟨Vr,K6 (fun S bs h hS ops o g args tys caps hw ho hg hb=>JP hB (fun i o hi=>by rcases hp2 i o hi with rfl|rfl <;> rfl) (by simp) h hS hw ho hg hb) trivial,by kernel_rfl⟩
  have hst:zU bgL [8] [0] 7 1 (plY c a j) (bgH a) (plH c a j)={ t:=asg [(8,qb x),(1,.ptr 1 0),(3,.ptr 4 0)],h:=qc [(7,.mark),(1,.cells [.ptr 0 0]),(3,.cells (qg a)),(4,.cells [.cb]),(0,qf c.cabins c.secs 8),(8,qh r)],n:=9,m:=9 }:=by
   simp only [zU,Nat.reduceAdd,RZ,plY,hx,hr2,qb,List.map_cons,List.map_nil,AV.ren,List.zip_cons_cons,List.zip_nil_right,bgH,bgL,kQ,List.cons_append,List.nil_append]
   rfl
  show Sym _ _ _ (zU bgL [8] [0] 7 1 (plY c a j) (bgH a) (plH c a j)) _
  rw [hst]
  have hjR:0 < R - j:=by omega
  cases hb:ans j with
  |true =>
   repeat' (first|(apply nx;with_reducible constructor)|refine jq (by decide) ?_|((first|refine kz env fun Q hQ=>?_|refine kj fun Q hQ=>?_);simp only [vkt,seval,Zx,qg,qb,qf,qh,bL3,xA,yK,Go.Sym.tabC,cbX,vo,hwL,hx,hr2,hjR,hb,ite_and];(repeat' first|with_reducible assumption|apply kk|intro hp);all_goals (first|(refine hQ _ ?_;clear hQ Q)|(refine hQ _ (fun h=>?_) (fun h=>?_) <;> clear hQ Q <;> (try simp only [reduceCtorEq] at h))|(refine kx ?_;kernel_rfl)|omega|assumption|with_reducible rfl|skip)))
   refine ⟨by rw [hb];rfl,rfl,some,_,RFin.okQ some [] ?_⟩
   constructor
   all_goals (try simp only [vle,yw,j5,qo,plH,bgH,hr2,vkt,seval,qg,qf,qh,qJ,bgL])
   all_goals first|rfl|(simp;done)|(simp [qg,AV.leL,AV.le];done)
  |false =>
   repeat' (first|(apply nx;with_reducible constructor)|refine jq (by decide) ?_|((first|refine kz env fun Q hQ=>?_|refine kj fun Q hQ=>?_);simp only [vkt,seval,Zx,qg,qb,qf,qh,bL3,xA,yK,Go.Sym.tabC,cbX,vo,hwL,hx,hr2,hjR,hb,ite_and];(repeat' first|with_reducible assumption|apply kk|intro hp);all_goals (first|(refine hQ _ ?_;clear hQ Q)|(refine hQ _ (fun h=>?_) (fun h=>?_) <;> clear hQ Q <;> (try simp only [reduceCtorEq] at h))|(refine kx ?_;kernel_rfl)|omega|assumption|with_reducible rfl|skip)))
   refine ⟨by rw [hb];rfl,rfl,some,_,RFin.okQ some [] ?_⟩
   constructor
   all_goals (try simp only [vle,yw,j5,qo,plH,bgH,hr2,vkt,seval,qg,qf,qh,qJ,bgL])
   all_goals first|rfl|(simp;done)|(simp [qg,AV.leL,AV.le];done)
 ·have eh:qc ((7,AObj.mark) :: bgH a++qN [0,2,5,6] (7+1) 0 (plL c a))=qc [(7,.mark),(1,.cells [.ptr 0 0]),(3,.cells (qg a)),(4,.cells [.cb]),(0,qf c.cabins c.secs 2),(2,qh c.sold),(5,.cells [.ptr 0 0]),(6,.cells (qg a))]:=by
   rw [show qN [0,2,5,6] (7+1) 0 (plL c a)=qN [0,2,5,6] 8 0 (plL c a) from rfl,VO];rfl
  rw [eh]
  repeat' (first|(apply nx;with_reducible constructor)|refine jq (by decide) ?_|((first|refine kz env fun Q hQ=>?_|refine kj fun Q hQ=>?_);simp only [vkt,seval,Zx,RA,qI,qg,qb,mTk,qy,qf,qh,qJ,plL,bgL,wO,bL3,xA,yK,List.length_map,Go.Sym.tabC,cbX,J8,vo,nth,hwL,Nat.zero_add,Nat.sub_zero,Nat.add_zero,ite_and];(repeat' first|with_reducible assumption|apply kk|intro hp);all_goals (first|(refine hQ _ ?_;clear hQ Q)|(refine hQ _ (fun h=>?_) (fun h=>?_) <;> clear hQ Q <;> (try simp only [vki,reduceCtorEq] at h))|(refine kx ?_;kernel_rfl)|omega|assumption|with_reducible rfl|skip)))
  (simp only [vrt,Tryz.results56,vkt,seval,qg,qf,qh,bgL];refine Fin.ok some [] ?_ ?_ ?_ ?_ ?_ rfl;all_goals (try simp only [vle,vkt,seval]))
  all_goals first|rfl|(simp [qg,AV.leL,AV.le];done)|exact fun i hi=>(match i,hi with|0,_=>rfl|1,_=>rfl|2,_=>rfl|3,_=>rfl)
 ·have eh:qc ((7,AObj.mark) :: bgH a++qN [0,2,5,6] (7+1) 0 (plL c a))=qc [(7,.mark),(1,.cells [.ptr 0 0]),(3,.cells (qg a)),(4,.cells [.cb]),(0,qf c.cabins c.secs 2),(2,qh c.sold),(5,.cells [.ptr 0 0]),(6,.cells (qg a))]:=by
   rw [show qN [0,2,5,6] (7+1) 0 (plL c a)=qN [0,2,5,6] 8 0 (plL c a) from rfl,VO];rfl
  rw [eh]
  repeat' (first|(apply nx;with_reducible constructor)|refine jq (by decide) ?_|((first|refine kz env fun Q hQ=>?_|refine kj fun Q hQ=>?_);simp only [vkt,seval,Zx,RA,qI,qg,qb,mTk,qy,qf,qh,qJ,plL,bgL,wO,bL3,xA,yK,List.length_map,Go.Sym.tabC,cbX,J8,vo,nth,hwL,Nat.zero_add,Nat.sub_zero,Nat.add_zero,ite_and];(repeat' first|with_reducible assumption|apply kk|intro hp);all_goals (first|(refine hQ _ ?_;clear hQ Q)|(refine hQ _ (fun h=>?_) (fun h=>?_) <;> clear hQ Q <;> (try simp only [vki,reduceCtorEq] at h))|(refine kx ?_;kernel_rfl)|omega|assumption|with_reducible rfl|skip)))
  (simp only [vrt,Tryz.results56,vkt,seval,qg,qf,qh,bgL];refine Fin.ok some [] ?_ ?_ ?_ ?_ ?_ rfl;all_goals (try simp only [vle,vkt,seval]))
  all_goals first|rfl|(simp [qg,AV.leL,AV.le];done)|exact fun i hi=>(match i,hi with|0,_=>rfl|1,_=>rfl|2,_=>rfl|3,_=>rfl)
theorem XY {cs:List Cabin} {a:Ask} {p:Tk→Prop}:∀ (m:Nat) (sold:List Tk) (begun:List Bunk),(∀ t ∈ sold,p t)→(∀ i b,i < begun.length+m→b ∈ qK cs→p (yV a i b))→∀ x ∈ zz cs a m sold begun,(∀ t ∈ x.2,p t)∧x.2.length=sold.length+m
 |0,sold,begun,h1,_,x,hx=>by
  simp only [zz,List.mem_singleton] at hx
  subst hx
  exact ⟨h1,rfl⟩
 |m+1,sold,begun,h1,h2,x,hx=>by
  rw [yB,List.mem_flatMap] at hx
  obtain ⟨b,hb,hx⟩:=hx
  unfold gbL at hx
  split at hx
  ·obtain ⟨g1,g2⟩:=XY m _ _ (fun t ht=>by
    rcases List.mem_append.1 ht with ht|ht
    ·exact h1 t ht
    ·rw [List.mem_singleton.1 ht];exact h2 _ _ (by omega) hb) (fun i b' hi hb'=>h2 i b' (by simp at hi;omega) hb') x hx
   exact ⟨g1,by rw [g2];simp;omega⟩
  ·simp at hx
theorem QhK {c:Chart} {a:Ask} (h:zJ c a=0) {i:Nat} (hi:i < a.sexes.length) {b:Bunk} (hb:b ∈ qK c.cabins):TkOk c (yV a i b):=by
 have hk:=(jZ h).2
 unfold wu at hk
 split at hk
 ·exact absurd hk (by decide)
 rename_i h1
 split at hk
 ·exact absurd hk (by decide)
 split at hk
 ·exact absurd hk ‹_›
 rename_i h3
 split at hk
 ·exact absurd hk ‹_›
 have g1:inB a.party 1 99=true:=by simpa using h1
 obtain ⟨w1,w2,w3⟩:=UA (Decidable.not_not.1 h3)
 have gs:=vS hk _ (List.mem_map.2 ⟨a.sexes.getD i 0,wC hi,rfl⟩)
 have g2:inB (a.sexes.getD i 0) 1 2=true:=by
  cases hq:inB (a.sexes.getD i 0) 1 2 with
  |true=>rfl
  |false=>rw [hq] at gs;exact absurd gs (by decide)
 obtain ⟨x,y,b1,b2,rfl⟩:=VK.1 hb
 refine ⟨zY.1 g1,zY.1 g2,⟨Int.natCast_nonneg _,by simpa [yV] using b1⟩,⟨Int.natCast_nonneg _, ?_⟩,w1,w2,w3⟩
 show (y:Int) < (c.cabins.getD ((x:Int)).toNat default).beds
 rw [Int.toNat_natCast]
 omega
theorem Qld {c:Chart} {a:Ask} (h:zJ c a=0) {j:Nat} (hj:j < (plP c a).length):Van ⟨c.cabins,c.secs,((plP c a).getD j default).2⟩:=by
 have hv:=xq (jZ h).1
 have hs:=(KP (jZ h).2).1
 obtain ⟨g1,g2⟩:=XY (p:=TkOk c) a.sexes.length c.sold [] hv.tk (fun i b hi hb=>QhK h (by simpa using hi) hb) _ (wC (d:=default) hj)
 have hm:=hv.many
 exact ⟨⟨hv.car.cabs,hv.car.beds,hv.car.secs⟩,by show ((plP c a).getD j default).2.length≤100;rw [show ((plP c a).getD j default).2.length=c.sold.length+a.sexes.length from g2];omega,fun t ht=>⟨(g1 t ht).party,(g1 t ht).sex,(g1 t ht).cab,(g1 t ht).bed,(g1 t ht).frm,(g1 t ht).way,(g1 t ht).to⟩⟩
def pBb (S:St):List AV→Option Pk
 |[.ptr q 0]=>match S.h q with
  |some (.cells [.ptr p 0])=>match S.h p with
   |some (.cells [.sl cs,.v (.int .i64 s),.row r])=>match S.h r with
    |some (.row _ _ xs)=>some { pre:=cs=(cs.map qj).map qz∧xs=(xs.map dTk).map eTk∧Van ⟨cs.map qj,s,xs.map dTk⟩,hs:=[p,q,r],ar:=[.ptr 1 0],L0:=bL3 (cs.map qj) s (xs.map dTk),v:=aI (QV (cs.map qj) s (xs.map dTk)),L1:=(bL3 (cs.map qj) s (xs.map dTk)).map some }
    |_=>none
   |_=>none
  |_=>none
 |_=>none
theorem eBb {A:Frm→Prop}:qm A Tryz.prog 57 (fnE pBb):=qZ fun S bs q h hp=>by
 unfold pBb at h
 split at h
 ·split at h
  ·split at h
   ·split at h
    ·cases h;exact bb_fn _ _ _ hp.2.2
    ·cases h
   ·cases h
  ·cases h
 ·cases h
def bsK (c:Chart) (a:Ask):Nat→Bool × List Bunk × Int
 |0=>(false,[],0)
 |j+1=>if !(bsK c a j).1 || decide ((bsK c a j).2.2 < QV c.cabins c.secs ((plP c a).getD j default).2) then (true,((plP c a).getD j default).1,QV c.cabins c.secs ((plP c a).getD j default).2) else bsK c a j
def beL0:List (Nat × AV):=[(2,.ptr 4 0),(3,.ptr 5 0),(4,.ptr 6 0),(7,.clo 56 [.ptr 1 0,.ptr 3 0])]
def beL:List (Nat × AV):=[(2,.ptr 4 0),(3,.ptr 5 0),(4,.ptr 6 0)]
def beH (c:Chart) (a:Ask) (j:Nat):List (Nat × AObj):=[(4,.cells [.sl ((bsK c a j).2.1.map qO)]),(5,.cells [aB (bsK c a j).1]),(6,.cells [aI (bsK c a j).2.2])]
theorem Vb (c:Chart) (a:Ask):qN [0,1,2,3] 8 0 (wW c a)=[(0,qf c.cabins c.secs 2),(1,.cells [.ptr 0 0]),(2,qh c.sold),(3,.cells (qg a))]:=by
 simp [qN,wW,qo,AObj.ren,AV.renL,AV.ren,qf,qh,qg]
theorem RQ (c:Chart) (a:Ask) (j:Nat):qN [0,1] 8 0 (yK c a j)=[(0,qf c.cabins c.secs 8),(1,.cells [.ptr 0 0]),(8,qh ((plP c a).getD j default).2)]:=by
 simp [qN,yK,bL3,qo,AObj.ren,AV.renL,AV.ren,qf,qh]
def vC:=kk @ty3 (kk @ty4 (kk @Q0 (kk @yu (kk @ty108 (kk @QkV (kk @ti3.eq_1 (kk @ti4.eq_1 (kk @kU.eq_1 (kk @jQ.eq_1 (kk @QcL.eq_1 @U9.eq_1))))))))))
def xF:=kk @aI.eq_1 (@aB.eq_1)
theorem Qkn {c:Chart} {a:Ask} (h:zJ c a=0):Fn noB Tryz.prog 55 [.clo 56 [.ptr 1 0,.ptr 3 0]] (qc (qD 0 (wW c a))) (.tup [.sl ((bsK c a (plP c a).length).2.1.map qO),aB (bsK c a (plP c a).length).1]) (qc (zm 0 ((wW c a).map some))) 0:=by
 have hok:=QD h
 have env:Env (fun F=>F.r=none) Tryz.prog tyB (tab []):=qA trivial
 refine Fn.of (A:=fun F=>F.r=none) (n0:=4) (D:=noD) (Fn0 Tryz.func55 rfl (fun vs w=>by kernel_rfl) (by kernel_rfl)) (by simp) (by simp [AV.ids,AV.idsL]) ?_ (fun _ _ _ h=>h) qw ?_
 ·intro i o hi
  have h:=qF hi
  simp [qD,wW] at h
  rcases h with ⟨rfl,rfl⟩|⟨rfl,rfl⟩|⟨rfl,rfl⟩|⟨rfl,rfl⟩ <;> simp [AObj.ids,AV.ids,AV.idsL,qf,qh,qg]
 obtain ⟨N,hN⟩:∃ N,(plP c a).length=N:=⟨_,rfl⟩
 rw [hN]
 show Sym _ _ _ (qX [.clo 56 [.ptr 1 0,.ptr 3 0]] 4 (qc [(0,qf c.cabins c.secs 2),(1,.cells [.ptr 0 0]),(2,qh c.sold),(3,.cells (qg a))])) (wK tyB noD Tryz.f55 fun S rv=>Fin S rv _ 4 (qc [(0,qf c.cabins c.secs 2),(1,.cells [.ptr 0 0]),(2,qh c.sold),(3,.cells (qg a))]) 0)
 repeat' (first|(apply nx;with_reducible constructor)|refine jq (by decide) ?_|((first|refine kz env fun Q hQ=>?_|refine kj fun Q hQ=>?_);simp only [vkt,seval,vC,qf,qh,ite_and];(repeat' first|with_reducible assumption|apply kk|intro hp);all_goals (first|(refine hQ _ ?_;clear hQ Q)|(refine hQ _ (fun h=>?_) (fun h=>?_) <;> clear hQ Q <;> (try simp only [vki,reduceCtorEq] at h))|(refine kx ?_;kernel_rfl)|omega|assumption|with_reducible rfl|skip)))
 refine jT (S':={ t:=asg beL0,h:=qc (beH c a 0++[(0,qf c.cabins c.secs 2),(1,.cells [.ptr 0 0]),(2,qh c.sold),(3,.cells (qg a))]),n:=7,j:=0,d:=[],m:=4 }) ?_ ?_
 ·show Le _ { t:=asg [(2,.ptr 4 0),(3,.ptr 5 0),(4,.ptr 6 0),(7,.clo 56 [.ptr 1 0,.ptr 3 0])],h:=qc [(4,.cells [.sl []]),(5,.cells [aB false]),(6,.cells [aI 0]),(0,qf c.cabins c.secs 2),(1,.cells [.ptr 0 0]),(2,qh c.sold),(3,.cells (qg a))],n:=7,j:=0,d:=[],m:=4 }
  (refine Le.ok some [] ?_;constructor;all_goals (try simp only [vle,vkt,seval,xF,qf,qh]))
  all_goals first|rfl|(simp [qg,AV.leL,AV.le,AV.idsL,AV.ids];done)
 rw [← Vb c a]
 refine jN (fun F h=>h) 2 (L:=beL0) (L':=beL) (xs:=[2,3]) (hs:=[0,1,2,3]) (n:=7) (nl:=1) (hc:=beH c a) (Lp:=wW c a) (jj:=fun _=>0) (d:=[]) (ys:=xA c a) (hl:=yK c a) (ans:=fun _=>true) (ex:=.ret) (caps:=[.ptr 1 0,.ptr 3 0]) (caps0:=[.ptr 1 0,.ptr 3 0]) (N:=(plP c a).length) (R:=N) (A':=fun _ _=>True) rfl (QfN hok) (by rw [hN];exact Uz) (.inl rfl) ?_ ?_ ?_ rfl (by simp) ?_ (by simp) (fun _ _ _ _ _ _=>trivial) ?_ ?_ ?_ ?_ ?_ ?_ (fun j hj=>?_) ?_ (fun j hj=>?_) (fun _=>?_) (fun _ h=>by cases h)
 ·simp [AV.leL,AV.le]
 ·simp [AV.nocbL,AV.nocb]
 ·simp [Zn,wW,qf,qh,qg,AObj.nocb,AV.nocbL,AV.nocb,AObj.ids,AV.ids,AV.idsL,AObj.ren,AV.renL,AV.ren,AObj.le,AV.leL,AV.le,qo]
 ·simp [beH,qc]
 ·simp [beH,qc]
 ·simp [beH,AObj.ids,AV.ids,AV.idsL,aB,aI]
 ·simp [KW,beL,beL0,asg]
 ·simp [LY]
 ·intro j hj
  simp [absent,beH,RQ]
 ·simp [WV,beL,AV.ids]
 ·refine ⟨?_,rfl, ?_, ?_,rfl, ?_⟩
  ·simp [xJ,beH,AObj.ids,AV.ids,AV.idsL,aB,aI]
  ·simp [QW,yK,bL3,qf,qh,AObj.nocb,AV.nocbL,AV.nocb,AObj.ids,AV.ids,AV.idsL]
  ·simp [Yx,xA,qb,AV.nocb,AV.nocbL,AV.ids,AV.idsL]
  ·simp [xy,Q7,RQ,beH,beL,yT,AV.ids,ADf.ids,List.range_succ]
 ·simp [xJ,beH,AObj.ids,AV.ids,AV.idsL,aB,aI]
 ·have env:Env (fun _:Frm=>True) Tryz.prog tyB (tab [(57,fnE pBb)]):=qA ⟨eBb,trivial⟩
  have hvan:=Qld h (j:=j) (by omega)
  have hS:bsK c a (j+1)=if !(bsK c a j).1 || decide ((bsK c a j).2.2 < QV c.cabins c.secs ((plP c a).getD j default).2) then (true,((plP c a).getD j default).1,QV c.cabins c.secs ((plP c a).getD j default).2) else bsK c a j:=rfl
  obtain ⟨⟨x,r⟩,hx⟩:∃ x,(plP c a).getD j default=x:=⟨_,rfl⟩
  obtain ⟨⟨f,p,v⟩,hK⟩:∃ x,bsK c a j=x:=⟨_,rfl⟩
  simp only [hx,hK] at hS hvan
  obtain ⟨w,hw⟩:∃ w,QV c.cabins c.secs r=w:=⟨_,rfl⟩
  rw [hw] at hS
  have hst:zU beL [8] [0,1] 7 1 (xA c a j) (beH c a j) (yK c a j)={ t:=asg [(8,.agg [qb x,.clo 57 [.ptr 1 0]]),(2,.ptr 4 0),(3,.ptr 5 0),(4,.ptr 6 0)],h:=qc [(7,.mark),(4,.cells [.sl (p.map qO)]),(5,.cells [aB f]),(6,.cells [aI v]),(0,qf c.cabins c.secs 8),(1,.cells [.ptr 0 0]),(8,qh r)],n:=9,m:=9 }:=by
   simp only [zU,Nat.reduceAdd,RQ,xA,hx,hK,qb,List.map_cons,List.map_nil,AV.ren,AV.renL,List.zip_cons_cons,List.zip_nil_right,beH,beL,kQ,List.cons_append,List.nil_append]
   rfl
  show Sym _ _ _ (zU beL [8] [0,1] 7 1 (xA c a j) (beH c a j) (yK c a j)) _
  rw [hst]
  cases f with
  |false =>
   simp only [Bool.not_false,Bool.true_or,if_true] at hS
   repeat' (first|(apply nx;with_reducible constructor)|refine jq (by decide) ?_|((first|refine kz env fun Q hQ=>?_|refine kj fun Q hQ=>?_);simp only [vkt,seval,vC,xF,qb,mTk,qy,qf,qh,bL3,pBb,hwL,hvan,hw,ite_and];(repeat' first|with_reducible assumption|apply kk|intro hp);all_goals (first|(refine hQ _ ?_;clear hQ Q)|(refine hQ _ (fun h=>?_) (fun h=>?_) <;> clear hQ Q <;> (try simp only [reduceCtorEq] at h))|(refine kx ?_;kernel_rfl)|omega|assumption|with_reducible rfl|skip)))
   all_goals (refine ⟨rfl,rfl,some,_,RFin.okQ some [] ?_⟩;constructor)
   all_goals (try simp only [vle,yw,j5,qo,yK,beH,hx,hS,vkt,seval,xF,qf,qh,bL3,beL])
   all_goals first|rfl|(simp;done)|(simp [beL,yT,AV.ids,ADf.ids,List.range_succ];done)
  |true =>
   cases hd:decide (v < w) with
   |true =>
    simp only [hd,Bool.not_true,Bool.false_or,if_true] at hS
    repeat' (first|(apply nx;with_reducible constructor)|refine jq (by decide) ?_|((first|refine kz env fun Q hQ=>?_|refine kj fun Q hQ=>?_);simp only [vkt,seval,vC,xF,qb,mTk,qy,qf,qh,bL3,pBb,hwL,hvan,hw,hd,ite_and];(repeat' first|with_reducible assumption|apply kk|intro hp);all_goals (first|(refine hQ _ ?_;clear hQ Q)|(refine hQ _ (fun h=>?_) (fun h=>?_) <;> clear hQ Q <;> (try simp only [reduceCtorEq] at h))|(refine kx ?_;kernel_rfl)|omega|assumption|with_reducible rfl|skip)))
    all_goals (refine ⟨rfl,rfl,some,_,RFin.okQ some [] ?_⟩;constructor)
    all_goals (try simp only [vle,yw,j5,qo,yK,beH,hx,hS,vkt,seval,xF,qf,qh,bL3,beL])
    all_goals first|rfl|(simp;done)|(simp [beL,yT,AV.ids,ADf.ids,List.range_succ];done)
   |false =>
    simp only [hd,Bool.not_true,Bool.false_or,Bool.false_eq_true,if_false] at hS
    repeat' (first|(apply nx;with_reducible constructor)|refine jq (by decide) ?_|((first|refine kz env fun Q hQ=>?_|refine kj fun Q hQ=>?_);simp only [vkt,seval,vC,xF,qb,mTk,qy,qf,qh,bL3,pBb,hwL,hvan,hw,hd,ite_and];(repeat' first|with_reducible assumption|apply kk|intro hp);all_goals (first|(refine hQ _ ?_;clear hQ Q)|(refine hQ _ (fun h=>?_) (fun h=>?_) <;> clear hQ Q <;> (try simp only [reduceCtorEq] at h))|(refine kx ?_;kernel_rfl)|omega|assumption|with_reducible rfl|skip)))
    all_goals (refine ⟨rfl,rfl,some,_,RFin.okQ some [] ?_⟩;constructor)
    all_goals (try simp only [vle,yw,j5,qo,yK,beH,hx,hS,vkt,seval,xF,qf,qh,bL3,beL])
    all_goals first|rfl|(simp;done)|(simp [beL,yT,AV.ids,ADf.ids,List.range_succ];done)
 ·have eh:qc ((7,AObj.mark) :: beH c a N++qN [0,1,2,3] (7+1) 0 (wW c a))=qc [(7,.mark),(4,.cells [.sl ((bsK c a N).2.1.map qO)]),(5,.cells [aB (bsK c a N).1]),(6,.cells [aI (bsK c a N).2.2]),(0,qf c.cabins c.secs 2),(1,.cells [.ptr 0 0]),(2,qh c.sold),(3,.cells (qg a))]:=by
   rw [show qN [0,1,2,3] (7+1) 0 (wW c a)=qN [0,1,2,3] 8 0 (wW c a) from rfl,Vb];rfl
  rw [eh,Vb c a]
  repeat' (first|(apply nx;with_reducible constructor)|refine jq (by decide) ?_|((first|refine kz env fun Q hQ=>?_|refine kj fun Q hQ=>?_);simp only [vkt,seval,vC,xF,qf,qh,beL,ite_and];(repeat' first|with_reducible assumption|apply kk|intro hp);all_goals (first|(refine hQ _ ?_;clear hQ Q)|(refine hQ _ (fun h=>?_) (fun h=>?_) <;> clear hQ Q <;> (try simp only [vki,reduceCtorEq] at h))|(refine kx ?_;kernel_rfl)|omega|assumption|with_reducible rfl|skip)))
  (simp only [vrt,Tryz.results55,vkt,seval,vC,xF,qf,qh];refine Fin.ok some [] ?_ ?_ ?_ ?_ ?_ rfl;all_goals (try simp only [vle,vkt,seval]))
  all_goals first|rfl|(simp [qg,AV.leL,AV.le];done)|exact fun i hi=>(match i,hi with|0,_=>rfl|1,_=>rfl|2,_=>rfl|3,_=>rfl)
def Qap (c:Chart) (a:Ask) (S:St):List AV→Option Pk
 |[.clo f [.ptr q 0,.ptr p3 0]]=>match S.h q with
  |some (.cells [.ptr p 0])=>match S.h p with
   |some (.cells [_,_,.row r])=>some { pre:=f=56∧zJ c a=0,hs:=[p,q,r,p3],ar:=[.clo 56 [.ptr 1 0,.ptr 3 0]],L0:=wW c a,v:=.tup [.sl ((bsK c a (plP c a).length).2.1.map qO),aB (bsK c a (plP c a).length).1],L1:=(wW c a).map some }
   |_=>none
  |_=>none
 |_=>none
theorem eBest {A:Frm→Prop} {c:Chart} {a:Ask}:qm A Tryz.prog 55 (fnE (Qap c a)):=qZ fun S bs q h hp=>by
 unfold Qap at h
 split at h
 ·split at h
  ·split at h
   ·cases h;exact Qkn hp.2
   ·cases h
  ·cases h
 ·cases h
def Zc (c:Chart) (a:Ask):List Bunk × Int:=if zJ c a=0 then (if (bsK c a (plP c a).length).1 then ((bsK c a (plP c a).length).2.1,0) else ([],11)) else ([],zJ c a)
def Wp:=kk @wh (kk @jL (kk @x8 (kk @QZ (kk @zQ.eq_1 (kk @wY.eq_1 (kk @vV.eq_1 @kV.eq_1))))))
def ZU:=kk @aI.eq_1 (kk @aB.eq_1 (@jJ))
theorem Qiy (c:Chart) (a:Ask) (hc:c.cabins.length≤maxLen) (ha:a.sexes.length≤maxLen):FnV Tryz.prog 18 [qd c,qI a] (.tup [.sl ((Zc c a).1.map qO),aI (Zc c a).2]):=by
 have env:Env (fun _=>True) Tryz.prog tyB (tab [(50,fnE jD),(55,fnE (Qap c a))]):=qA ⟨Vi,eBest,trivial⟩
 refine Fn.of (A:=fun _=>True) (n0:=0) (D:=noD) (Fn0 Tryz.func18 rfl (fun vs w=>by kernel_rfl) (by kernel_rfl)) (by simp) (by simp [AV.ids,AV.idsL,qd,qa,qI,qg]) (fun i o h=>by cases h) (fun _ _ _ _=>trivial) qw ?_
 have ec:(⟨c.cabins,c.secs,c.sold⟩:Chart)=c:=rfl
 have ea:(⟨a.party,a.frm,a.to,a.sexes,a.dog⟩:Ask)=a:=rfl
 by_cases h0:zJ c a=0
 ·obtain ⟨⟨f,p,v⟩,hK⟩:∃ x,bsK c a (plP c a).length=x:=⟨_,rfl⟩
  cases f with
  |true =>
   rw [show Zc c a=(p,0) by unfold Zc;rw [if_pos h0,hK];rfl]
   repeat' (first|(apply nx;with_reducible constructor)|refine jq (by decide) ?_|((first|refine kz env fun Q hQ=>?_|refine kj fun Q hQ=>?_);simp only [vkt,seval,Wp,ZU,qd,qa,qI,qg,mTk,qy,qf,qh,qJ,wW,jD,Qap,ec,ea,h0,hK,ite_and];(repeat' first|with_reducible assumption|apply kk|intro hp);all_goals (first|(refine hQ _ ?_;clear hQ Q)|(refine hQ _ (fun h=>?_) (fun h=>?_) <;> clear hQ Q <;> (try simp only [vki,reduceCtorEq] at h))|(refine kx ?_;kernel_rfl)|omega|assumption|with_reducible rfl|skip)))
   (simp only [vrt,Tryz.results18,vkt,seval,ZU];refine Fin.val rfl ?_;(try simp only [AV.le,AV.leL]))
   all_goals first|rfl|simp
  |false =>
   rw [show Zc c a=([],11) by unfold Zc;rw [if_pos h0,hK];rfl]
   repeat' (first|(apply nx;with_reducible constructor)|refine jq (by decide) ?_|((first|refine kz env fun Q hQ=>?_|refine kj fun Q hQ=>?_);simp only [vkt,seval,Wp,ZU,qd,qa,qI,qg,mTk,qy,qf,qh,qJ,wW,jD,Qap,ec,ea,h0,hK,ite_and];(repeat' first|with_reducible assumption|apply kk|intro hp);all_goals (first|(refine hQ _ ?_;clear hQ Q)|(refine hQ _ (fun h=>?_) (fun h=>?_) <;> clear hQ Q <;> (try simp only [vki,reduceCtorEq] at h))|(refine kx ?_;kernel_rfl)|omega|assumption|with_reducible rfl|skip)))
   (simp only [vrt,Tryz.results18,vkt,seval,ZU];refine Fin.val rfl ?_;(try simp only [AV.le,AV.leL]))
   all_goals first|rfl|simp
 ·rw [show Zc c a=([],zJ c a) by unfold Zc;rw [if_neg h0]]
  repeat' (first|(apply nx;with_reducible constructor)|refine jq (by decide) ?_|((first|refine kz env fun Q hQ=>?_|refine kj fun Q hQ=>?_);simp only [vkt,seval,Wp,ZU,qd,qa,qI,qg,mTk,qy,jD,ec,ea,h0,ite_and];(repeat' first|with_reducible assumption|apply kk|intro hp);all_goals (first|(refine hQ _ ?_;clear hQ Q)|(refine hQ _ (fun h=>?_) (fun h=>?_) <;> clear hQ Q <;> (try simp only [vki] at h))|(refine kx ?_;kernel_rfl)|omega|assumption|with_reducible rfl|skip)))
  (simp only [vrt,Tryz.results18,vkt,seval,ZU];refine Fin.val rfl ?_;(try simp only [AV.le,AV.leL]))
  all_goals first|rfl|simp
def VS:=kk @yu @jQ.eq_1
def Qi1:=kk @aI.eq_1 (@aB.eq_1)
theorem Qi6 (a b:Int):FnV Tryz.prog 46 [aI a,aI b] (qx ⟨a,b⟩):=by
 have env:Env (fun _=>True) Tryz.prog tyB (tab []):=qA trivial
 refine Fn.of (A:=fun _=>True) (n0:=0) (D:=noD) (Fn0 Tryz.func46 rfl (fun vs w=>by kernel_rfl) (by kernel_rfl)) (by simp) (by simp [AV.ids,aI]) (fun i o h=>by cases h) (fun _ _ _ _=>trivial) qw ?_
 repeat' (first|(apply nx;with_reducible constructor)|refine jq (by decide) ?_|((first|refine kz env fun Q hQ=>?_|refine kj fun Q hQ=>?_);simp only [vkt,seval,VS,Qi1,ite_and];(repeat' first|with_reducible assumption|apply kk|intro hp);all_goals (first|(refine hQ _ ?_;clear hQ Q)|(refine hQ _ (fun h=>?_) (fun h=>?_) <;> clear hQ Q <;> (try simp only [vki,reduceCtorEq] at h))|(refine kx ?_;kernel_rfl)|omega|assumption|with_reducible rfl|skip)))
 (simp only [vrt,Tryz.results46,vkt,seval,VS,qx];refine Fin.val rfl ?_;(try simp only [AV.le,AV.leL]))
 all_goals first|rfl|simp
def XN:List AV→Prop × AV
 |[.v (.int .i64 a),.v (.int .i64 b)]=>(True,qx ⟨a,b⟩)
 |_=>(False,.junk)
theorem Qk0 {A:Frm→Prop}:qm A Tryz.prog 46 (qG false XN):=qH fun vs hv h=>by
 clear hv
 unfold XN at h ⊢
 split at h
 ·rename_i a b;clear h
  refine ⟨by first|trivial|(repeat' split) <;> simp [AV.plain,AV.plainL,aI,aB,ql,qb,qp,qx,aTk,cTk],fun h=>absurd h (by decide), ?_⟩
  have:=Qi6 a b
  simp only [aI] at this
  first|exact this|(simp only [aI];exact this)
 ·exact h.elim
def VI:=kk @wP @wI.eq_1
def Qi2:=kk @aI.eq_1 (@aB.eq_1)
theorem QjQ (p x c b f t:Int):FnV Tryz.prog 101 [aI p,aI x,aI c,aI b,aI f,aI t] (aTk ⟨p,x,c,b,f,t,false⟩):=by
 have env:Env (fun _=>True) Tryz.prog tyB (tab [(46,qG false XN)]):=qA ⟨Qk0,trivial⟩
 refine Fn.of (A:=fun _=>True) (n0:=0) (D:=noD) (Fn0 Tryz.func101 rfl (fun vs w=>by kernel_rfl) (by kernel_rfl)) (by simp) (by simp [AV.ids,aI]) (fun i o h=>by cases h) (fun _ _ _ _=>trivial) qw ?_
 repeat' (first|(apply nx;with_reducible constructor)|refine jq (by decide) ?_|((first|refine kz env fun Q hQ=>?_|refine kj fun Q hQ=>?_);simp only [vkt,seval,VI,Qi2,qx,XN,ite_and];(repeat' first|with_reducible assumption|apply kk|intro hp);all_goals (first|(refine hQ _ ?_;clear hQ Q)|(refine hQ _ (fun h=>?_) (fun h=>?_) <;> clear hQ Q <;> (try simp only [vki,reduceCtorEq] at h))|(refine kx ?_;kernel_rfl)|omega|assumption|with_reducible rfl|skip)))
 (simp only [vrt,Tryz.results101,vkt,seval,VI,aTk,cTk];refine Fin.val rfl ?_;(try simp only [AV.le,AV.leL]))
 all_goals first|rfl|simp
def KQ:List AV→Prop × AV
 |[.v (.int .i64 p),.v (.int .i64 x),.v (.int .i64 c),.v (.int .i64 b),.v (.int .i64 f),.v (.int .i64 t)]=>(True,aTk ⟨p,x,c,b,f,t,false⟩)
 |_=>(False,.junk)
theorem QkW {A:Frm→Prop}:qm A Tryz.prog 101 (qG false KQ):=qH fun vs hv h=>by
 clear hv
 unfold KQ at h ⊢
 split at h
 ·rename_i p x c b f t;clear h
  refine ⟨by first|trivial|(repeat' split) <;> simp [AV.plain,AV.plainL,aI,aB,ql,qb,qp,qx,aTk,cTk],fun h=>absurd h (by decide), ?_⟩
  have:=QjQ p x c b f t
  simp only [aI] at this
  first|exact this|(simp only [aI];exact this)
 ·exact h.elim
theorem ZF {α:Type} [Inhabited α] {l m:List α} (h0:l.length=m.length) (h:∀ j,j < l.length→l.getD j default=m.getD j default):l=m:=by
 apply List.ext_getElem h0
 intro j h1 h2
 have:=h j h1
 simpa [List.getD_eq_getElem?_getD,h1,h2] using this
def eqS (l m:List Bunk) (k:Nat):St:={ t:=asg [(0,qb l),(1,qb m),(4,aB false),(5,aI k)],h:=qc [],n:=0 }
def xS:=kk @ty3 (kk @Q0 (kk @yu (kk @ti3.eq_1 (kk @kU.eq_1 @jQ.eq_1))))
def QB:=kk @aI.eq_1 (@aB.eq_1)
theorem QlT (l m:List Bunk) (hl:l.length≤1000) (hm:m.length≤1000):FnV Tryz.prog 20 [qb l,qb m] (aB (decide (l=m))):=by
 have env:Env (fun _=>True) Tryz.prog tyB (tab []):=qA trivial
 refine Fn.of (A:=fun _=>True) (n0:=0) (D:=noD) (Fn0 Tryz.func20 rfl (fun vs w=>by kernel_rfl) (by kernel_rfl)) (by simp) (by simp [AV.ids,qb]) (fun i o h=>by cases h) (fun _ _ _ _=>trivial) qw ?_
 by_cases h0:l.length=m.length
 ·have d0:decide ((l.length:Int)=(m.length:Int))=true:=decide_eq_true (by omega)
  repeat' (first|(apply nx;with_reducible constructor)|refine jq (by decide) ?_|((first|refine kz env fun Q hQ=>?_|refine kj fun Q hQ=>?_);simp only [vkt,seval,xS,qb,d0,ite_and];(repeat' first|with_reducible assumption|apply kk|intro hp);all_goals (first|(refine hQ _ ?_;clear hQ Q)|(refine hQ _ (fun h=>?_) (fun h=>?_) <;> clear hQ Q <;> (try simp only [reduceCtorEq] at h))|(refine kx ?_;kernel_rfl)|omega|assumption|with_reducible rfl|skip)))
  refine qC (fun k:{ k:Nat // k≤l.length∧∀ j,j < k→l.getD j default=m.getD j default }=>eqS l m k.1) (fun k=>l.length - k.1) ⟨0,Nat.zero_le _,fun j h=>absurd h (Nat.not_lt_zero _)⟩ ?_ fun ⟨k,hk,hno⟩=>?_
  ·(refine Le.ok some [] ?_;constructor;all_goals (try simp only [vle,vkt,seval,QB,qb]))
   all_goals first|rfl|simp
  ·repeat' (first|(apply nx;with_reducible constructor)|refine jq (by decide) ?_)
   (refine kz env fun Q hQ=>?_;simp only [vkt,seval,xS,QB,qb,eqS,ite_and];(repeat' first|with_reducible assumption|apply kk|intro hp);all_goals (first|(refine hQ _ ?_;clear hQ Q)|(refine kx ?_;kernel_rfl)|omega|assumption|with_reducible rfl|skip))
   repeat' (first|(apply nx;with_reducible constructor)|refine jq (by decide) ?_)
   (refine wQ (by simp only [vkt,seval];rfl) (fun h=>?_) (fun h=>?_) <;> (try simp only [vki] at h))
   ·have hlt:k < l.length:=by omega
    have hlm:k < m.length:=by omega
    have e9:=k9 k (by omega)
    obtain ⟨x,hx⟩:∃ x,l.getD k default=x:=⟨_,rfl⟩
    obtain ⟨y,hy⟩:∃ x,m.getD k default=x:=⟨_,rfl⟩
    have hxy:(x=y)=(x.cab=y.cab∧x.bed=y.bed):=by cases x;cases y;simp
    have hne:¬ x=y→decide (l=m)=false:=fun h=>decide_eq_false fun e=>h (by rw [← hx,← hy,e])
    cases q1:decide (x.cab=y.cab)
    ·rw [hne (by rw [hxy];exact fun h=>of_decide_eq_false q1 h.1)]
     repeat' (first|(apply nx;with_reducible constructor)|refine jq (by decide) ?_|((first|refine kz env fun Q hQ=>?_|refine kj fun Q hQ=>?_);simp only [vkt,seval,xS,qO,yt,Bool.false_and,hx,hy,q1,hlm,ite_and];(repeat' first|with_reducible assumption|apply kk|intro hp);all_goals (first|(refine hQ _ ?_;clear hQ Q)|(refine hQ _ (fun h=>?_) (fun h=>?_) <;> clear hQ Q <;> (try simp only [reduceCtorEq] at h))|(refine kx ?_;kernel_rfl)|omega|assumption|with_reducible rfl|skip)))
     (simp only [vrt,Tryz.results20,vkt,seval,QB];refine Fin.val rfl ?_;(try simp only [AV.le]))
     all_goals first|rfl|simp
    ·cases q2:decide (x.bed=y.bed)
     ·rw [hne (by rw [hxy];exact fun h=>of_decide_eq_false q2 h.2)]
      repeat' (first|(apply nx;with_reducible constructor)|refine jq (by decide) ?_|((first|refine kz env fun Q hQ=>?_|refine kj fun Q hQ=>?_);simp only [vkt,seval,xS,qO,yt,hx,hy,q1,q2,hlm,ite_and];(repeat' first|with_reducible assumption|apply kk|intro hp);all_goals (first|(refine hQ _ ?_;clear hQ Q)|(refine hQ _ (fun h=>?_) (fun h=>?_) <;> clear hQ Q <;> (try simp only [reduceCtorEq] at h))|(refine kx ?_;kernel_rfl)|omega|assumption|with_reducible rfl|skip)))
      (simp only [vrt,Tryz.results20,vkt,seval,QB];refine Fin.val rfl ?_;(try simp only [AV.le]))
      all_goals first|rfl|simp
     ·have he:x=y:=by rw [hxy];exact ⟨of_decide_eq_true q1,of_decide_eq_true q2⟩
      repeat' (first|(apply nx;with_reducible constructor)|refine jq (by decide) ?_|((first|refine kz env fun Q hQ=>?_|refine kj fun Q hQ=>?_);simp only [vkt,seval,xS,qO,yt,hx,hy,q1,q2,hlm,e9,ite_and];(repeat' first|with_reducible assumption|apply kk|intro hp);all_goals (first|(refine hQ _ ?_;clear hQ Q)|(refine hQ _ (fun h=>?_) (fun h=>?_) <;> clear hQ Q <;> (try simp only [reduceCtorEq] at h))|(refine kx ?_;kernel_rfl)|omega|assumption|with_reducible rfl|skip)))
      refine ⟨⟨k+1,hlt,fun j hj=>?_⟩,by show l.length - (k+1) < l.length - k;omega, ?_⟩
      ·rcases Nat.lt_or_eq_of_le (Nat.le_of_lt_succ hj) with h1|h1
       ·exact hno j h1
       ·rw [h1,hx,hy];exact he
      ·(refine Le.ok some [] ?_;constructor;all_goals (try simp only [vle,vkt,seval,QB,qb]))
       all_goals first|rfl|simp
   ·have hke:k=l.length:=by omega
    subst hke
    rw [decide_eq_true (ZF h0 hno)]
    repeat' (first|(apply nx;with_reducible constructor)|refine jq (by decide) ?_|((first|refine kz env fun Q hQ=>?_|refine kj fun Q hQ=>?_);simp only [vkt,seval,ite_and];(repeat' first|with_reducible assumption|apply kk|intro hp);all_goals (first|(refine hQ _ ?_;clear hQ Q)|(refine hQ _ (fun h=>?_) (fun h=>?_) <;> clear hQ Q <;> (try simp only [vki,reduceCtorEq] at h))|(refine kx ?_;kernel_rfl)|omega|assumption|with_reducible rfl|skip)))
    (simp only [vrt,Tryz.results20,vkt,seval,QB];refine Fin.val rfl ?_;(try simp only [AV.le]))
    all_goals first|rfl|simp
 ·have d0:decide ((l.length:Int)=(m.length:Int))=false:=decide_eq_false (by omega)
  rw [decide_eq_false (fun e=>h0 (by rw [e]))]
  repeat' (first|(apply nx;with_reducible constructor)|refine jq (by decide) ?_|((first|refine kz env fun Q hQ=>?_|refine kj fun Q hQ=>?_);simp only [vkt,seval,xS,qb,d0,ite_and];(repeat' first|with_reducible assumption|apply kk|intro hp);all_goals (first|(refine hQ _ ?_;clear hQ Q)|(refine hQ _ (fun h=>?_) (fun h=>?_) <;> clear hQ Q <;> (try simp only [reduceCtorEq] at h))|(refine kx ?_;kernel_rfl)|omega|assumption|with_reducible rfl|skip)))
  (simp only [vrt,Tryz.results20,vkt,seval,QB];refine Fin.val rfl ?_;(try simp only [AV.le]))
  all_goals first|rfl|simp
def seqB:List AV→Prop × AV
 |[.sl l,.sl m]=>(l=(l.map zg).map qO∧m=(m.map zg).map qO∧(l.map zg).length≤1000∧(m.map zg).length≤1000,aB (decide ((l.map zg)=(m.map zg))))
 |_=>(False,.junk)
theorem eeqB {A:Frm→Prop}:qm A Tryz.prog 20 (qG true seqB):=qH fun vs hv h=>by
 clear hv
 unfold seqB at h ⊢
 split at h
 ·rename_i l m;obtain ⟨q0,q1,k0,k1⟩:=h
  refine ⟨by first|trivial|(repeat' split) <;> simp [AV.plain,AV.plainL,aI,aB,ql,qb,qp,qx,aTk,cTk],fun _=>(by simp [AV.flat,aB]), ?_⟩
  have:=QlT (l.map zg) (m.map zg) k0 k1
  simp only [qb,← q0,← q1] at this
  first|exact this|(simp only [qb,← q0,← q1];exact this)
 ·exact h.elim
def jG (more:List Tk):Chart:=⟨[⟨2,true⟩,⟨2,false⟩,⟨1,false⟩],4,⟨1,1,0,0,0,2,false⟩ :: ⟨2,2,1,0,1,4,false⟩ :: more⟩
def Yt:=kk @Za (kk @yP (kk @wh (kk @wP (kk @Zt (kk @Qp.eq_1 (kk @yh.eq_1 (kk @zQ.eq_1 (kk @wI.eq_1 @Qd.eq_1))))))))
theorem Qgr (more:List Tk) (hm:more.length≤100):FnV Tryz.prog 43 [qp more] (qd (jG more)):=by
 have env:Env (fun _=>True) Tryz.prog tyB (tab [(101,qG false KQ)]):=qA ⟨QkW,trivial⟩
 refine Fn.of (A:=fun _=>True) (n0:=0) (D:=noD) (Fn0 Tryz.func43 rfl (fun vs w=>by kernel_rfl) (by kernel_rfl)) (by simp) (by simp [AV.ids,qp]) (fun i o h=>by cases h) (fun _ _ _ _=>trivial) qw ?_
 have hx:(100:Nat)+2≤maxLen:=by decide
 have h1:more.length+2≤maxLen:=by omega
 have h2:2+more.length≤maxLen:=by omega
 show Sym _ _ _ (qX [qp more] 0 noH) (wK tyB noD Tryz.f43 fun S rv=>Fin S rv _ 0 (qc []) 0)
 repeat' (first|(apply nx;with_reducible constructor)|refine jq (by decide) ?_|((first|refine kz env fun Q hQ=>?_|refine kj fun Q hQ=>?_);simp only [vkt,seval,Yt,aTk,cTk,qp,rTk,KQ,h2,ite_and];(repeat' first|with_reducible assumption|apply kk|intro hp);all_goals (first|(refine hQ _ ?_;clear hQ Q)|(refine hQ _ (fun h=>?_) (fun h=>?_) <;> clear hQ Q <;> (try simp only [vki,reduceCtorEq] at h))|(refine kx ?_;kernel_rfl)|omega|assumption|with_reducible rfl|skip)))
 simp only [jG,qd,qa,qz,List.map_cons,List.map_nil]
 (simp only [vrt,Tryz.results43,vkt,seval,Yt,eTk];refine Fin.ok some [1,3] ?_ ?_ ?_ ?_ ?_ rfl;all_goals (try simp only [vle,vkt,seval]))
 all_goals first|rfl|(simp [];done)
def Xf:=kk @jL @wY.eq_1
def Qit:=kk @aI.eq_1 (kk @aB.eq_1 (@ql.eq_1))
theorem QjR (f t:Int) (d:Bool) (l:List Int):FnV Tryz.prog 44 [aI f,aI t,aB d,ql l] (qI ⟨9,f,t,l,d⟩):=by
 have env:Env (fun _=>True) Tryz.prog tyB (tab []):=qA trivial
 refine Fn.of (A:=fun _=>True) (n0:=0) (D:=noD) (Fn0 Tryz.func44 rfl (fun vs w=>by kernel_rfl) (by kernel_rfl)) (by simp) (by simp [AV.ids,aI,aB,ql]) (fun i o h=>by cases h) (fun _ _ _ _=>trivial) qw ?_
 repeat' (first|(apply nx;with_reducible constructor)|refine jq (by decide) ?_|((first|refine kz env fun Q hQ=>?_|refine kj fun Q hQ=>?_);simp only [vkt,seval,Xf,Qit,ite_and];(repeat' first|with_reducible assumption|apply kk|intro hp);all_goals (first|(refine hQ _ ?_;clear hQ Q)|(refine hQ _ (fun h=>?_) (fun h=>?_) <;> clear hQ Q <;> (try simp only [vki,reduceCtorEq] at h))|(refine kx ?_;kernel_rfl)|omega|assumption|with_reducible rfl|skip)))
 (simp only [vrt,Tryz.results44,vkt,seval,Xf,qI,qg];refine Fin.val rfl ?_;(try simp only [AV.le,AV.leL]))
 all_goals first|rfl|simp
def pkK (f:Bunk→Int) (l:List Bunk):Nat→Bunk × Int
 |0=>(⟨0,0⟩,0)
 |i+1=>if i=0∨f (l.getD i default) < (pkK f l i).2 then (l.getD i default,f (l.getD i default)) else pkK f l i
def wR:List (List Bunk)→Bunk→Bunk × Int
 |[],_=>(⟨0,0⟩,0)
 |l :: rest,b=>pkK (fun y=>(wR rest y).2+if y=b then 0 else 1) l l.length
def nxF (L:List (List Bunk)) (at_:Nat) (b y:Bunk):Int:=(wR (L.drop (at_+1)) y).2+if y=b then 0 else 1
theorem QhP {L:List (List Bunk)} {i:Nat} (h:i < L.length) (b:Bunk):wR (L.drop i) b=pkK (nxF L i b) (L.getD i []) (L.getD i []).length:=by
 rw [List.drop_eq_getElem_cons h,wR]
 rw [show L.getD i []=L[i] by simp [List.getD_eq_getElem?_getD,h]]
 rfl
def VH:List (List Bunk)→Bunk→List Bunk
 |[],_=>[]
 |l :: rest,b=>(wR (l :: rest) b).1 :: VH rest (wR (l :: rest) b).1
theorem Qgc {f:Bunk→Int} {l:List Bunk} {n:Int} (hn:0≤n) (h:∀ b ∈ l,0≤f b∧f b≤n):∀ i,i≤l.length→0≤(pkK f l i).2∧(pkK f l i).2≤n
 |0,_=>⟨Int.le_refl 0,hn⟩
 |i+1,hi=>by
  rw [pkK]
  split
  ·exact h _ (wC hi)
  ·exact Qgc hn h i (by omega)
theorem Vo:∀ (L:List (List Bunk)) (b:Bunk),0≤(wR L b).2∧(wR L b).2≤(L.length:Int)
 |[],_=>by simp [wR]
 |l :: rest,b=>by
  rw [wR]
  refine Qgc (by omega) (fun y _=>?_) _ (Nat.le_refl _)
  have:=Vo rest y
  rw [List.length_cons]
  split <;> omega
theorem Qmr (L:List (List Bunk)) (i:Nat) (b y:Bunk):0≤nxF L i b y∧nxF L i b y≤(L.length:Int)+1:=by
 have h:=Vo (L.drop (i+1)) y
 rw [List.length_drop] at h
 unfold nxF
 split <;> omega
def wkK (L:List (List Bunk)):Nat→List Bunk
 |0=>[]
 |i+1=>wkK L i++[(wR (L.drop i) (if i=0 then ⟨-1,0⟩ else (wkK L i).getD (i - 1) default)).1]
theorem R4 (L:List (List Bunk)):∀ i,(wkK L i).length=i
 |0=>rfl
 |i+1=>by rw [wkK,List.length_append,R4 L i];rfl
def wkB (L:List (List Bunk)) (i:Nat):Bunk:=if i=0 then ⟨-1,0⟩ else (wkK L i).getD (i - 1) default
theorem Vs (L:List (List Bunk)) (i:Nat):wkK L (i+1)=wkK L i++[(wR (L.drop i) (wkB L i)).1]:=rfl
theorem Qg1 (L:List (List Bunk)) (i:Nat):wkB L (i+1)=(wR (L.drop i) (wkB L i)).1:=by
 unfold wkB
 rw [if_neg (by omega),Vs]
 have h:=R4 L i
 rw [show i+1 - 1=i by omega,List.getD_eq_getElem?_getD,List.getElem?_append_right (by omega),h]
 simp
 rfl
theorem Qdr (L:List (List Bunk)):∀ i,i≤L.length→VH L ⟨-1,0⟩=wkK L i++VH (L.drop i) (wkB L i)
 |0,_=>by simp [wkK,wkB]
 |i+1,h=>by
  rw [Qdr L i (by omega),Vs,Qg1]
  conv=>lhs;rw [List.drop_eq_getElem_cons (show i < L.length by omega),VH]
  rw [← List.drop_eq_getElem_cons (show i < L.length by omega)]
  simp
theorem Qmm (L:List (List Bunk)):wkK L L.length=VH L ⟨-1,0⟩:=by
 rw [Qdr L L.length (Nat.le_refl _),List.drop_length,VH,List.append_nil]
def XC (a:Ask) (s:Int):Ask:=⟨a.party,s,s+1,a.sexes,a.dog⟩
def yG (c:Chart) (a:Ask) (s:Int):List Bunk:=(plP c (XC a s)).map fun x=>x.1.getD 0 default
def Qc (c:Chart) (a:Ask) (k:Nat):List (List Bunk):=(List.range k).map fun (i:Nat)=>yG c a (a.frm+i)
def ZB (c:Chart) (a:Ask):List (List Bunk):=Qc c a (a.to - a.frm).toNat
theorem Qce (c:Chart) (a:Ask) (k:Nat):Qc c a (k+1)=Qc c a k++[yG c a (a.frm+k)]:=by
 unfold Qc;rw [List.range_succ,List.map_append];rfl
def kJ (c:Chart) (a:Ask):List Bunk × Int × Int :=
 if zJ c a ≠ 0 then ([],0,zJ c a) else if 1 < a.sexes.length then ([],0,6) else if a.dog then ([],0,9) else
 if (ZB c a).any (·.isEmpty) then ([],0,11) else (VH (ZB c a) ⟨-1,0⟩,(wR (ZB c a) ⟨-1,0⟩).2 - 1,0)
def Qj (i:Int) (b:Bunk):Value:=.agg #[.int .i64 i,.int .i64 b.cab,.int .i64 b.bed]
theorem QaB {i j:Int} {b c:Bunk} (h:Qj i b=Qj j c):i=j∧b=c:=by
 cases b;cases c
 simp [Qj] at h
 obtain ⟨rfl,rfl,rfl⟩:=h
 exact ⟨rfl,rfl⟩
def Qdl:KeyInfo:={ kd:=.agg [some .i64,some .i64,some .i64],z:=.v (.int .i64 0),agg:=false }
def R6 (es:List (Value × Value)) (kv:Value) (n:Int):Prop:=∃ b,wX Qdl (wF es kv)=(True,.v (.int .i64 n),b)
theorem QeL {es:List (Value × Value)} {kv:Value} (h:wF es kv=none):R6 es kv 0:=by
 refine ⟨false, ?_⟩
 rw [h]
 show (_,_,_)=_
 simp [Qdl,AV.ids]
theorem Qfj {es:List (Value × Value)} {kv:Value} {n:Int} (h:wF es kv=some (.int .i64 n)):R6 es kv n:=by
 refine ⟨true, ?_⟩
 rw [h]
 show (_,_,_)=_
 simp [Qdl,Vq,Value.oneCell',vAV]
theorem Qee {es:List (Value × Value)} {kv:Value} {n:Int}:R6 (jd es kv (.int .i64 n)) kv n:=Qfj (by rw [Zr,if_pos rfl])
theorem Qcy {es:List (Value × Value)} {kv kv' v:Value} {n:Int} (hne:kv ≠ kv') (h:R6 es kv' n):R6 (jd es kv v) kv' n:=by
 unfold R6
 rw [Zr,if_neg hne]
 exact h
theorem Qb {es:List (Value × Value)} {k v:Value}:(jd es k v).length≤es.length+1:=by
 induction es with
 |nil=>simp [jd]
 |cons p es ih =>
  rw [jd]
  split
  ·simp
  ·rw [List.length_cons,List.length_cons];omega
abbrev QkR:Value→Prop:=KD.Q (.agg [some .i64,some .i64,some .i64])
theorem spotQ (i:Int) (b:Bunk):QkR (Qj i b):=⟨⟨_,rfl⟩,⟨_,rfl⟩,⟨_,rfl⟩,trivial⟩
structure BhOk (L:List (List Bunk)) (es:List (Value × Value)) (at_:Nat):Prop where
 ok:MOK QkR es
 look:∀ j,at_≤j→j < L.length→∀ x ∈ L.getD j [],R6 es (Qj j x) (wR (L.drop (j+1)) x).2
theorem Ql2 (L:List (List Bunk)):BhOk L [] (L.length - 1):=⟨MOK.nil _,fun j h1 h2 x _=>by
 rw [List.drop_eq_nil_iff.2 (by omega)]
 exact QeL rfl⟩
structure BhIn (L:List (List Bunk)) (es:List (Value × Value)) (at_ i:Nat):Prop where
 bh:BhOk L es (at_+1)
 cur:∀ k,k < i→k < (L.getD at_ []).length→R6 es (Qj at_ ((L.getD at_ []).getD k default)) (wR (L.drop (at_+1)) ((L.getD at_ []).getD k default)).2
theorem BhOk.inn {L:List (List Bunk)} {es:List (Value × Value)} {i:Nat} (h:BhOk L es (i+1)):BhIn L es i 0:=⟨h,fun k hk=>absurd hk (Nat.not_lt_zero _)⟩
theorem BhIn.step {L:List (List Bunk)} {es:List (Value × Value)} {at_ i:Nat} (h:BhIn L es at_ i) {b:Bunk} (hb:(L.getD at_ []).getD i default=b) {n:Int} (hn:(wR (L.drop (at_+1)) b).2=n) :
  BhIn L (jd es (Qj at_ b) (.int .i64 n)) at_ (i+1):=by
 refine ⟨⟨h.bh.ok.set (spotQ _ _),fun j h1 h2 x hx=>Qcy (fun e=>?_) (h.bh.look j h1 h2 x hx)⟩,fun k hk hl=>?_⟩
 ·have:=(QaB e).1;omega
 ·obtain ⟨x,hx⟩:∃ x,(L.getD at_ []).getD k default=x:=⟨_,rfl⟩
  rw [hx]
  by_cases hxb:b=x
  ·subst hxb;rw [hn];exact Qee
  ·have hki:k < i:=by
    rcases Nat.lt_or_eq_of_le (Nat.le_of_lt_succ hk) with h1|h1
    ·exact h1
    ·subst h1;exact absurd (hb.symm.trans hx) hxb
   have:=h.cur k hki hl
   rw [hx] at this
   exact Qcy (fun e=>hxb (QaB e).2) this
theorem BhIn.out {L:List (List Bunk)} {es:List (Value × Value)} {i:Nat} (h:BhIn L es i (L.getD i []).length):BhOk L es i:=⟨h.bh.ok,fun j h1 h2 x hx=>by
 rcases Nat.lt_or_eq_of_le h1 with h3|h3
 ·exact h.bh.look j h3 h2 x hx
 ·subst h3
  obtain ⟨k,hk,rfl⟩:=List.mem_iff_getElem.1 hx
  have:=h.cur k hk hk
  rwa [show (L.getD i []).getD k default=(L.getD i [])[k] by rw [List.getD_eq_getElem?_getD,List.getElem?_eq_getElem hk];rfl] at this⟩
structure NxOk (L:List (List Bunk)) (es:List (Value × Value)) (i:Nat):Prop where
 len:L.length≤100
 lt:i < L.length
 each:∀ l ∈ L,l.length≤1000
 bh:BhOk L es i
def nxL (L:List (List Bunk)) (es:List (Value × Value)):List AObj:=[.cells [.row 2],.cells [.mp 3],.row 44 1 (L.map qY),.map es]
theorem QkC {L:List (List Bunk)} {es:List (Value × Value)}:∀ i o,qc (qD 0 (nxL L es)) i=some o→i < 4∧∀ id ∈ o.ids,id < 4:=by
 intro i o hi
 have h:=qF hi
 simp [qD,nxL] at h
 rcases h with ⟨rfl,rfl⟩|⟨rfl,rfl⟩|⟨rfl,rfl⟩|⟨rfl,rfl⟩ <;> simp [AObj.ids,AV.ids,AV.idsL]
def ncS (L:List (List Bunk)) (es:List (Value × Value)) (i:Nat) (b:Bunk) (l:List Bunk) (k:Nat) (o:Bunk) (n:Int):St:={ t:=asg [(0,aI i),(2,.ptr 0 0),(3,.ptr 1 0),(5,.ptr 4 0),(6,.ptr 5 0),(7,aI n),(14,qb l),(15,aI l.length),(16,aI k)],h:=qc [(0,.cells [.row 2]),(1,.cells [.mp 3]),(2,.row 44 1 (L.map qY)),(3,.map es),(4,.cells [.v (.int .i64 b.cab),.v (.int .i64 b.bed)]),(5,.cells [.v (.int .i64 o.cab),.v (.int .i64 o.bed)])],n:=6,m:=4 }
def jo:=kk @ty3 (kk @QbT (kk @Q0 (kk @yu (kk @QkG (kk @QkQ (kk @ti3.eq_1 (kk @Xx.eq_1 (kk @kU.eq_1 (kk @jQ.eq_1 (kk @LK.eq_1 @LZ.eq_1))))))))))
def vG:=kk @aI.eq_1 (@aB.eq_1)
set_option maxHeartbeats 2000000 in
theorem Ql3 (L:List (List Bunk)) (es:List (Value × Value)) (i:Nat) (b:Bunk) (ok:NxOk L es i):Fn noB Tryz.prog 72 [aI i,qx b,.ptr 0 0,.ptr 1 0] (qc (qD 0 (nxL L es))) (.tup [qx (wR (L.drop i) b).1,aI (wR (L.drop i) b).2]) (qc (zm 0 ((nxL L es).map some))) 0:=by
 have env:Env (fun _=>True) Tryz.prog tyB (tab []):=qA trivial
 refine Fn.of (A:=fun _=>True) (n0:=4) (D:=noD) (Fn0 Tryz.func72 rfl (fun vs w=>by kernel_rfl) (by kernel_rfl)) (by simp) (by simp [AV.ids,AV.idsL,aI,qx]) QkC (fun _ _ _ _=>trivial) qw ?_
 have hlen:=ok.len
 have hlt:=ok.lt
 have hbd:=Qmr L i b
 rw [QhP hlt]
 obtain ⟨l,hl⟩:∃ l,L.getD i []=l:=⟨_,rfl⟩
 have hll:l.length≤1000:=ok.each l (by rw [← hl];exact wC hlt)
 have hlook:∀ x ∈ l,R6 es (Qj i x) (wR (L.drop (i+1)) x).2:=fun x hx=>ok.bh.look i (Nat.le_refl _) hlt x (by rw [hl];exact hx)
 have hM:MOK (KD.Q (.agg [some .i64,some .i64,some .i64])) es:=ok.bh.ok
 rw [hl]
 show Sym _ _ _ (qX [aI i,qx b,.ptr 0 0,.ptr 1 0] 4 (qc [(0,.cells [.row 2]),(1,.cells [.mp 3]),(2,.row 44 1 (L.map qY)),(3,.map es)])) (wK tyB noD Tryz.f72 fun S rv=>Fin S rv _ 4 (qc [(0,.cells [.row 2]),(1,.cells [.mp 3]),(2,.row 44 1 (L.map qY)),(3,.map es)]) 0)
 have i0:((i:Int)).toNat=i:=rfl
 have hg:=Xb hlt
 rw [hl] at hg
 repeat' (first|(apply nx;with_reducible constructor)|refine jq (by decide) ?_|((first|refine kz env fun Q hQ=>?_|refine kj fun Q hQ=>?_);simp only [vkt,seval,jo,vG,qx,qY,hg,hlt,i0,ite_and];(repeat' first|with_reducible assumption|apply kk|intro hp);all_goals (first|(refine hQ _ ?_;clear hQ Q)|(refine hQ _ (fun h=>?_) (fun h=>?_) <;> clear hQ Q <;> (try simp only [vki,reduceCtorEq] at h))|(refine kx ?_;kernel_rfl)|omega|assumption|with_reducible rfl|skip)))
 refine qC (fun k:{ k:Nat // k≤l.length }=>ncS L es i b l k.1 (pkK (nxF L i b) l k.1).1 (pkK (nxF L i b) l k.1).2) (fun k=>l.length - k.1) ⟨0,Nat.zero_le _⟩ ?_ fun ⟨k,hk⟩=>?_
 ·(refine Le.ok some [] ?_;constructor;all_goals (try simp only [vle,vkt,seval,vG,qb]))
  all_goals first|rfl|(simp [pkK];done)
 simp only at hk ⊢
 obtain ⟨⟨o,n⟩,hon⟩:∃ z,pkK (nxF L i b) l k=z:=⟨_,rfl⟩
 have hS:pkK (nxF L i b) l (k+1)=if k=0∨nxF L i b (l.getD k default) < n then (l.getD k default,nxF L i b (l.getD k default)) else (o,n):=by rw [pkK,hon]
 rw [hon]
 repeat' (first|(apply nx;with_reducible constructor)|refine jq (by decide) ?_)
 (refine kz env fun Q hQ=>?_;simp only [vkt,seval,jo,vG,qb,ncS,ite_and];(repeat' first|with_reducible assumption|apply kk|intro hp);all_goals (first|(refine hQ _ ?_;clear hQ Q)|(refine kx ?_;kernel_rfl)|omega|assumption|with_reducible rfl|skip))
 repeat' (first|(apply nx;with_reducible constructor)|refine jq (by decide) ?_)
 (refine wQ (by simp only [vkt,seval];rfl) (fun h=>?_) (fun h=>?_) <;> (try simp only [vki] at h))
 ·have hkl:k < l.length:=by omega
  have e9:=k9 k (by omega)
  obtain ⟨x,hx⟩:∃ x,l.getD k default=x:=⟨_,rfl⟩
  obtain ⟨v,hv⟩:∃ v,(wR (L.drop (i+1)) x).2=v:=⟨_,rfl⟩
  obtain ⟨bb,hlk⟩:=hlook x (by rw [← hx];exact wC hkl)
  rw [hv] at hlk
  simp only [Qdl,Qj] at hlk
  have hF:nxF L i b x=v+if x=b then 0 else 1:=by unfold nxF;rw [hv]
  have hb:=hbd x
  rw [hx] at hS
  obtain ⟨f,hf⟩:∃ f,nxF L i b x=f:=⟨_,rfl⟩
  rw [hf] at hS hF hb
  have key:∀ (o':Bunk) (n':Int),pkK (nxF L i b) l (k+1)=(o',n')→ncS L es i b l (k+1) (pkK (nxF L i b) l (k+1)).1 (pkK (nxF L i b) l (k+1)).2=ncS L es i b l (k+1) o' n':=fun o' n' h=>by rw [h]
  have fin:∀ (S:St) (o':Bunk) (n':Int),pkK (nxF L i b) l (k+1)=(o',n')→Le S (ncS L es i b l (k+1) o' n')→∃ y:{ k:Nat // k≤l.length },(l.length - y.1 < l.length - k)∧Le S (ncS L es i b l y.1 (pkK (nxF L i b) l y.1).1 (pkK (nxF L i b) l y.1).2):=fun S o' n' h hle=>⟨⟨k+1,hkl⟩,by show l.length - (k+1) < l.length - k;omega,by rw [key o' n' h];exact hle⟩
  by_cases hxb:x=b
  ·subst hxb
   rw [if_pos rfl,Int.add_zero] at hF
   subst hF
   have xx:((x.cab == x.cab) && (x.bed == x.bed))=true:=by simp
   by_cases hk0:k=0
   ·rw [if_pos (.inl hk0)] at hS
    have d0:decide ((k:Int)=0)=true:=decide_eq_true (by omega)
    repeat' (first|(apply nx;with_reducible constructor)|refine jq (by decide) ?_|((first|refine kz env fun Q hQ=>?_|refine kj fun Q hQ=>?_);simp only [vkt,seval,jo,qO,yt,hx,e9,hlk,hM,d0,ite_and];(repeat' first|with_reducible assumption|apply kk|intro hp);all_goals (first|(refine hQ _ ?_;clear hQ Q)|(refine hQ _ (fun h=>?_) (fun h=>?_) <;> clear hQ Q <;> (try simp only [vki,reduceCtorEq] at h))|(refine kx ?_;kernel_rfl)|omega|assumption|with_reducible rfl|skip)))
    refine fin _ _ _ hS ?_
    (refine Le.ok some [] ?_;constructor;all_goals (try simp only [vle,vkt,seval,vG,qb]))
    all_goals first|rfl|simp
   ·have d0:decide ((k:Int)=0)=false:=decide_eq_false (by omega)
    by_cases hc:f < n
    ·rw [if_pos (.inr hc)] at hS
     have d1:decide (f < n)=true:=decide_eq_true hc
     repeat' (first|(apply nx;with_reducible constructor)|refine jq (by decide) ?_|((first|refine kz env fun Q hQ=>?_|refine kj fun Q hQ=>?_);simp only [vkt,seval,jo,qO,yt,hx,e9,hlk,hM,d0,d1,ite_and];(repeat' first|with_reducible assumption|apply kk|intro hp);all_goals (first|(refine hQ _ ?_;clear hQ Q)|(refine hQ _ (fun h=>?_) (fun h=>?_) <;> clear hQ Q <;> (try simp only [vki,reduceCtorEq] at h))|(refine kx ?_;kernel_rfl)|omega|assumption|with_reducible rfl|skip)))
     refine fin _ _ _ hS ?_
     (refine Le.ok some [] ?_;constructor;all_goals (try simp only [vle,vkt,seval,vG,qb]))
     all_goals first|rfl|simp
    ·rw [if_neg (by omega)] at hS
     have d1:decide (f < n)=false:=decide_eq_false hc
     repeat' (first|(apply nx;with_reducible constructor)|refine jq (by decide) ?_|((first|refine kz env fun Q hQ=>?_|refine kj fun Q hQ=>?_);simp only [vkt,seval,jo,qO,yt,hx,e9,hlk,hM,d0,d1,ite_and];(repeat' first|with_reducible assumption|apply kk|intro hp);all_goals (first|(refine hQ _ ?_;clear hQ Q)|(refine hQ _ (fun h=>?_) (fun h=>?_) <;> clear hQ Q <;> (try simp only [vki,reduceCtorEq] at h))|(refine kx ?_;kernel_rfl)|omega|assumption|with_reducible rfl|skip)))
     refine fin _ _ _ hS ?_
     (refine Le.ok some [] ?_;constructor;all_goals (try simp only [vle,vkt,seval,vG,qb]))
     all_goals first|rfl|simp
  ·rw [if_neg hxb] at hF
   have w1:IntKind.wrap .i64 (v+1)=f:=by rw [wrap64 (by omega) (by omega)];exact hF.symm
   have hne:(decide (x.cab=b.cab) && decide (x.bed=b.bed))=false:=by
    cases x;cases b
    simp at hxb ⊢
    exact hxb
   by_cases hk0:k=0
   ·rw [if_pos (.inl hk0)] at hS
    have d0:decide ((k:Int)=0)=true:=decide_eq_true (by omega)
    repeat' (first|(apply nx;with_reducible constructor)|refine jq (by decide) ?_|((first|refine kz env fun Q hQ=>?_|refine kj fun Q hQ=>?_);simp only [vkt,seval,jo,qO,yt,hx,e9,hlk,hM,hne,w1,d0,ite_and];(repeat' first|with_reducible assumption|apply kk|intro hp);all_goals (first|(refine hQ _ ?_;clear hQ Q)|(refine hQ _ (fun h=>?_) (fun h=>?_) <;> clear hQ Q <;> (try simp only [reduceCtorEq] at h))|(refine kx ?_;kernel_rfl)|omega|assumption|with_reducible rfl|skip)))
    refine fin _ _ _ hS ?_
    (refine Le.ok some [] ?_;constructor;all_goals (try simp only [vle,vkt,seval,vG,qb]))
    all_goals first|rfl|simp
   ·have d0:decide ((k:Int)=0)=false:=decide_eq_false (by omega)
    by_cases hc:f < n
    ·rw [if_pos (.inr hc)] at hS
     have d1:decide (f < n)=true:=decide_eq_true hc
     repeat' (first|(apply nx;with_reducible constructor)|refine jq (by decide) ?_|((first|refine kz env fun Q hQ=>?_|refine kj fun Q hQ=>?_);simp only [vkt,seval,jo,qO,yt,hx,e9,hlk,hM,hne,w1,d0,d1,ite_and];(repeat' first|with_reducible assumption|apply kk|intro hp);all_goals (first|(refine hQ _ ?_;clear hQ Q)|(refine hQ _ (fun h=>?_) (fun h=>?_) <;> clear hQ Q <;> (try simp only [reduceCtorEq] at h))|(refine kx ?_;kernel_rfl)|omega|assumption|with_reducible rfl|skip)))
     refine fin _ _ _ hS ?_
     (refine Le.ok some [] ?_;constructor;all_goals (try simp only [vle,vkt,seval,vG,qb]))
     all_goals first|rfl|simp
    ·rw [if_neg (by omega)] at hS
     have d1:decide (f < n)=false:=decide_eq_false hc
     repeat' (first|(apply nx;with_reducible constructor)|refine jq (by decide) ?_|((first|refine kz env fun Q hQ=>?_|refine kj fun Q hQ=>?_);simp only [vkt,seval,jo,qO,yt,hx,e9,hlk,hM,hne,w1,d0,d1,ite_and];(repeat' first|with_reducible assumption|apply kk|intro hp);all_goals (first|(refine hQ _ ?_;clear hQ Q)|(refine hQ _ (fun h=>?_) (fun h=>?_) <;> clear hQ Q <;> (try simp only [reduceCtorEq] at h))|(refine kx ?_;kernel_rfl)|omega|assumption|with_reducible rfl|skip)))
     refine fin _ _ _ hS ?_
     (refine Le.ok some [] ?_;constructor;all_goals (try simp only [vle,vkt,seval,vG,qb]))
     all_goals first|rfl|simp
 ·have hke:k=l.length:=by omega
  subst hke
  repeat' (first|(apply nx;with_reducible constructor)|refine jq (by decide) ?_|((first|refine kz env fun Q hQ=>?_|refine kj fun Q hQ=>?_);simp only [vkt,seval,jo,ite_and];(repeat' first|with_reducible assumption|apply kk|intro hp);all_goals (first|(refine hQ _ ?_;clear hQ Q)|(refine hQ _ (fun h=>?_) (fun h=>?_) <;> clear hQ Q <;> (try simp only [vki,reduceCtorEq] at h))|(refine kx ?_;kernel_rfl)|omega|assumption|with_reducible rfl|skip)))
  (simp only [vrt,Tryz.results72,vkt,seval,jo,vG,qx];refine Fin.ok some [] ?_ ?_ ?_ ?_ ?_ rfl;all_goals (try simp only [vle,vkt,seval]))
  all_goals first|rfl|(simp;done)|(rw [hon];exact ⟨⟨rfl,rfl⟩,rfl⟩)
def Qa1 (S:St):List AV→Option Pk
 |[.v (.int .i64 i),.agg [.v (.int .i64 c),.v (.int .i64 d)],.ptr p 0,.ptr q 0]=>match S.h p,S.h q with
  |some (.cells [.row r]),some (.cells [.mp m])=>match S.h r,S.h m with
   |some (.row _ _ xs),some (.map es)=>some { pre:=xs=(xs.map Zz).map qY∧i=(i.toNat:Int)∧NxOk (xs.map Zz) es i.toNat,hs:=[p,q,r,m],ar:=[.v (.int .i64 i),.agg [.v (.int .i64 c),.v (.int .i64 d)],.ptr 0 0,.ptr 1 0],L0:=nxL (xs.map Zz) es,v:=.tup [qx (wR ((xs.map Zz).drop i.toNat) ⟨c,d⟩).1,aI (wR ((xs.map Zz).drop i.toNat) ⟨c,d⟩).2],L1:=(nxL (xs.map Zz) es).map some }
   |_,_=>none
  |_,_=>none
 |_=>none
theorem QiG:∀ S bs q,Qa1 S bs=some q→q.pre→Fn noB Tryz.prog 72 q.ar (qc (qD 0 q.L0)) q.v (qc (zm 0 q.L1)) 0:=fun S bs q h hp=>by
 unfold Qa1 at h
 split at h
 ·rename_i i c d p q
  split at h
  ·split at h
   ·rename_i m _ _ _ _ _ xs es _ _
    cases h
    obtain ⟨h1,h2,h3⟩:=hp
    have:=Ql3 _ _ _ ⟨c,d⟩ h3
    rw [aI,← h2] at this
    exact this
   ·cases h
  ·cases h
 ·cases h
theorem eNx1 {A:Frm→Prop}:qm A Tryz.prog 72 (fnQ Qa1):=QlM QiG
def vQ (n:Nat):Nat→List Int→Nat→List (List Int)
 |0,l,_=>[l]
 |m+1,l,f=>(List.range (n - f)).flatMap fun k=>vQ n m (l++[((f+k:Nat):Int)]) (f+k+1)
def ko (sold:List Tk) (p:Int):Nat:=sold.countP fun t=>decide (t.party=p)
def wE (sold:List Tk):List Int:=((List.range sold.length).filter fun i=>decide (ko sold (sold.getD i default).party=1)).map fun (i:Nat)=>(i:Int)
def xk (sold:List Tk) (n:Nat) (b:Bunk):List Tk:=sold.set n ⟨(sold.getD n default).party,(sold.getD n default).sex,b.cab,b.bed,(sold.getD n default).frm,(sold.getD n default).to,(sold.getD n default).dog⟩
def je (cs:List Cabin) (s:Int) (a:Ask):List Int→List Tk→Option (List Tr)
 |[],sold=>if zw ⟨cs,s,sold⟩=0∧plP ⟨cs,s,sold⟩ a ≠ [] then some [] else none
 |n :: r,sold=>(qK cs).findSome? fun b=>if b=(sold.getD n.toNat default).bunk then none else (je cs s a r (xk sold n.toNat b)).map (⟨n,b.cab,b.bed⟩ :: ·)
def xB (c:Chart) (l:List Int):List Int:=l.map fun i=>(wE c.sold).getD i.toNat 0
def JC (c:Chart) (a:Ask) (m:Nat):Option (List Tr):=(vQ (wE c.sold).length m [] 0).findSome? fun l=>je c.cabins c.secs a (xB c l) c.sold
def ku (c:Chart) (a:Ask):List Tr × Int :=
 if zJ c a ≠ 0 then ([],zJ c a) else match (List.range 3).findSome? (JC c a) with
 |some t=>(t,0)
 |none=>([],11)
def Qgk:KeyInfo:={ kd:=.one (.int .i64),z:=.v (.int .i64 0),agg:=false }
def KH (es:List (Value × Value)) (p n:Int):Prop:=∃ b,wX Qgk (wF es (.int .i64 p))=(True,.v (.int .i64 n),b)
theorem Qb0 {es:List (Value × Value)} {p:Int} (h:wF es (.int .i64 p)=none):KH es p 0:=by
 refine ⟨false, ?_⟩
 rw [h]
 show (_,_,_)=_
 simp [Qgk,AV.ids]
theorem Qbq {es:List (Value × Value)} {p n:Int} (h:wF es (.int .i64 p)=some (.int .i64 n)):KH es p n:=by
 refine ⟨true, ?_⟩
 rw [h]
 show (_,_,_)=_
 simp [Qgk,Vq,Value.oneCell',vAV]
theorem Qe0 {es:List (Value × Value)} {p q n m:Int} (h:p ≠ q→KH es q m) (h2:p=q→n=m):KH (jd es (.int .i64 p) (.int .i64 n)) q m:=by
 by_cases hpq:p=q
 ·subst hpq
  rw [← h2 rfl]
  exact Qbq (by rw [Zr,if_pos rfl])
 ·unfold KH
  rw [Zr,if_neg (by simpa using hpq)]
  exact h hpq
structure LnOk (sold:List Tk) (es:List (Value × Value)) (k:Nat):Prop where
 ok:MOK (KD.Q (.one (.int .i64))) es
 look:∀ p,KH es p (ko (sold.take k) p)
 len:es.length≤k
theorem Qls (sold:List Tk):LnOk sold [] 0:=⟨MOK.nil _,fun p=>by rw [List.take_zero];exact Qb0 rfl,Nat.le_refl _⟩
theorem QaD {sold:List Tk} {k:Nat} (h:k < sold.length) (p:Int):ko (sold.take (k+1)) p=ko (sold.take k) p+if (sold.getD k default).party=p then 1 else 0:=by
 unfold ko
 rw [List.take_succ_eq_append_getElem h,List.countP_append]
 rw [show sold.getD k default=sold[k] by simp [List.getD_eq_getElem?_getD,h]]
 simp
theorem LnOk.step {sold:List Tk} {es:List (Value × Value)} {k:Nat} (h:LnOk sold es k) (hk:k < sold.length) {p:Int} (hp:(sold.getD k default).party=p) {n:Nat} (hn:ko (sold.take k) p=n) :
  LnOk sold (jd es (.int .i64 p) (.int .i64 ((n+1:Nat):Int))) (k+1):=by
 refine ⟨h.ok.set rfl,fun q=>?_, ?_⟩
 ·rw [QaD hk,hp]
  refine Qe0 (fun hne=>?_) fun e=>?_
  ·rw [if_neg hne,Nat.add_zero];exact h.look q
  ·subst e;rw [if_pos rfl,hn]
 ·have:=Qb (es:=es) (k:=.int .i64 p) (v:=.int .i64 ((n+1:Nat):Int))
  have:=h.len
  omega
theorem Qev (sold:List Tk) (p:Int):ko sold p≤sold.length:=List.countP_le_length
def lnK (sold:List Tk) (k:Nat):List Int:=((List.range k).filter fun i=>decide (ko sold (sold.getD i default).party=1)).map fun (i:Nat)=>(i:Int)
theorem QgO (sold:List Tk) (k:Nat):lnK sold (k+1)=if ko sold (sold.getD k default).party=1 then lnK sold k++[(k:Int)] else lnK sold k:=by
 unfold lnK
 rw [List.range_succ,List.filter_append,List.map_append]
 split
 ·rename_i h;simp [-List.getD_eq_getElem?_getD,h]
 ·rename_i h;simp [-List.getD_eq_getElem?_getD,h]
theorem QcH (sold:List Tk) (k:Nat):(lnK sold k).length≤k:=by
 unfold lnK
 rw [List.length_map]
 exact Nat.le_trans (List.length_filter_le _ _) (by simp)
theorem Qi3 (sold:List Tk):lnK sold sold.length=wE sold:=rfl
def lnA (c:Chart) (es:List (Value × Value)) (k:Nat):St:={ t:=asg [(1,.ptr 0 0),(3,.mp 1),(11,qp c.sold),(12,aI c.sold.length),(13,aI k)],h:=qc [(0,.cells (qa c)),(1,.map es)],n:=2 }
def lnB (c:Chart) (es:List (Value × Value)) (k:Nat):St:={ t:=asg [(3,.mp 1),(6,.row 2),(24,qp c.sold),(25,aI c.sold.length),(26,aI k)],h:=qc [(1,.map es),(2,.row 3 1 ((lnK c.sold k).map qU))],n:=3 }
def vD:=kk @ty3 (kk @yP (kk @wh (kk @yf (kk @wP (kk @ty169 (kk @ti3.eq_1 (kk @yh.eq_1 (kk @zQ.eq_1 (kk @jK.eq_1 (kk @wI.eq_1 @QcR.eq_1))))))))))
def yS:=kk @aI.eq_1 (kk @aB.eq_1 (kk @qU.eq_1 (kk @Xw (@ql.eq_1))))
theorem QiI (c:Chart) (hc:c.sold.length≤100):FnV Tryz.prog 63 [qd c] (ql (wE c.sold)):=by
 have env:Env (fun _=>True) Tryz.prog tyB (tab []):=qA trivial
 refine Fn.of (A:=fun _=>True) (n0:=0) (D:=noD) (Fn0 Tryz.func63 rfl (fun vs w=>by kernel_rfl) (by kernel_rfl)) (by simp) (by simp [AV.ids,AV.idsL,qd,qa]) (fun i o h=>by cases h) (fun _ _ _ _=>trivial) qw ?_
 have hmx:(100000:Nat)≤maxLen:=by decide
 repeat' (first|(apply nx;with_reducible constructor)|refine jq (by decide) ?_|((first|refine kz env fun Q hQ=>?_|refine kj fun Q hQ=>?_);simp only [vkt,seval,vD,qd,qa,ite_and];(repeat' first|with_reducible assumption|apply kk|intro hp);all_goals (first|(refine hQ _ ?_;clear hQ Q)|(refine hQ _ (fun h=>?_) (fun h=>?_) <;> clear hQ Q <;> (try simp only [vki,reduceCtorEq] at h))|(refine kx ?_;kernel_rfl)|omega|assumption|with_reducible rfl|skip)))
 refine qC (fun x:{ x:Nat × List (Value × Value) // x.1≤c.sold.length∧LnOk c.sold x.2 x.1 }=>lnA c x.1.2 x.1.1) (fun x=>c.sold.length - x.1.1) ⟨(0,[]),Nat.zero_le _,Qls _⟩ ?_ fun ⟨(k,es),hk,hL⟩=>?_
 ·(refine Le.ok some [] ?_;constructor;all_goals (try simp only [vle,vkt,seval,yS,qp,qa]))
  all_goals first|rfl|simp
 simp only at hk hL ⊢
 by_cases hkl:k < c.sold.length
 ·have d1:decide ((k:Int) < (c.sold.length:Int))=true:=decide_eq_true (by omega)
  have e9:=k9 k (by omega)
  obtain ⟨x,hx⟩:∃ x,c.sold.getD k default=x:=⟨_,rfl⟩
  obtain ⟨n,hn⟩:∃ n,ko (c.sold.take k) x.party=n:=⟨_,rfl⟩
  have hnb:=Qev (c.sold.take k) x.party
  rw [hn,List.length_take] at hnb
  obtain ⟨b,hl⟩:=hL.look x.party
  rw [hn] at hl
  simp only [Qgk] at hl
  have hM:=hL.ok
  have w1:=k9 n (by omega)
  have hml:(jd es (.int .i64 x.party) (.int .i64 ((n+1:Nat):Int))).length≤maxLen:=by
   have h1:=Qb (es:=es) (k:=.int .i64 x.party) (v:=.int .i64 ((n+1:Nat):Int))
   have h2:=hL.len
   omega
  repeat' (first|(apply nx;with_reducible constructor)|refine jq (by decide) ?_|((first|refine kz env fun Q hQ=>?_|refine kj fun Q hQ=>?_);simp only [vkt,seval,vD,yS,qp,eTk,gTk,qa,lnA,MapKept.IsKey,d1,e9,hx,hl,hM,w1,hml,ite_and];(repeat' first|with_reducible assumption|apply kk|intro hp);all_goals (first|(refine hQ _ ?_;clear hQ Q)|(refine hQ _ (fun h=>?_) (fun h=>?_) <;> clear hQ Q <;> (try simp only [reduceCtorEq] at h))|(refine kx ?_;kernel_rfl)|omega|assumption|with_reducible rfl|skip)))
  refine ⟨⟨(k+1,jd es (.int .i64 x.party) (.int .i64 ((n+1:Nat):Int))),hkl,hL.step hkl (by rw [hx]) hn⟩,by show c.sold.length - (k+1) < c.sold.length - k;omega, ?_⟩
  (refine Le.ok some [] ?_;constructor;all_goals (try simp only [vle,vkt,seval,yS,qp,qa]))
  all_goals first|rfl|simp
 ·have d1:decide ((k:Int) < (c.sold.length:Int))=false:=decide_eq_false (by omega)
  obtain rfl:k=c.sold.length:=by omega
  repeat' (first|(apply nx;with_reducible constructor)|refine jq (by decide) ?_|((first|refine kz env fun Q hQ=>?_|refine kj fun Q hQ=>?_);simp only [vkt,seval,vD,yS,qp,qa,lnA,d1,ite_and];(repeat' first|with_reducible assumption|apply kk|intro hp);all_goals (first|(refine hQ _ ?_;clear hQ Q)|(refine hQ _ (fun h=>?_) (fun h=>?_) <;> clear hQ Q <;> (try simp only [reduceCtorEq] at h))|(refine kx ?_;kernel_rfl)|omega|assumption|with_reducible rfl|skip)))
  refine qC (fun k:{ k:Nat // k≤c.sold.length }=>lnB c es k.1) (fun k=>c.sold.length - k.1) ⟨0,Nat.zero_le _⟩ ?_ fun ⟨k,hk⟩=>?_
  ·(refine Le.ok (fun i=>if i=2 then none else some i) [] ?_;constructor;all_goals (try simp only [vle,vkt,seval,yS,qp]))
   all_goals first|rfl|(simp [lnK];done)|(intro i hi;rw [if_neg (by omega)];done)
  simp only at hk ⊢
  by_cases hkl:k < c.sold.length
  ·have d1:decide ((k:Int) < (c.sold.length:Int))=true:=decide_eq_true (by omega)
   have e9:=k9 k (by omega)
   obtain ⟨x,hx⟩:∃ x,c.sold.getD k default=x:=⟨_,rfl⟩
   obtain ⟨n,hn⟩:∃ n,ko c.sold x.party=n:=⟨_,rfl⟩
   obtain ⟨b,hl⟩:=hL.look x.party
   rw [List.take_length,hn] at hl
   simp only [Qgk] at hl
   have hM:=hL.ok
   have hS:=QgO c.sold k
   have hkn:=QcH c.sold k
   have hkm:(lnK c.sold k).length+1≤maxLen:=by omega
   rw [hx,hn] at hS
   by_cases h1:n=1
   ·rw [if_pos h1] at hS
    rw [show (n:Int)=1 by omega] at hl
    repeat' (first|(apply nx;with_reducible constructor)|refine jq (by decide) ?_|((first|refine kz env fun Q hQ=>?_|refine kj fun Q hQ=>?_);simp only [vkt,seval,vD,yS,qp,eTk,gTk,lnB,MapKept.IsKey,d1,e9,hx,hl,hM,hkm,decide_true,ite_and];(repeat' first|with_reducible assumption|apply kk|intro hp);all_goals (first|(refine hQ _ ?_;clear hQ Q)|(refine hQ _ (fun h=>?_) (fun h=>?_) <;> clear hQ Q <;> (try simp only [reduceCtorEq] at h))|(refine kx ?_;kernel_rfl)|omega|assumption|with_reducible rfl|skip)))
    refine ⟨⟨k+1,hkl⟩,by show c.sold.length - (k+1) < c.sold.length - k;omega, ?_⟩
    show Le _ (lnB c es (k+1))
    unfold lnB
    rw [hS]
    (refine Le.ok (fun i=>if i=2 then some 5 else some i) [] ?_;constructor;all_goals (try simp only [vle,vkt,seval,yS,qp]))
    all_goals first|rfl|(rw [List.map_append];rfl)|(simp;done)|(intro i hi;rw [if_neg (by omega)];done)
   ·rw [if_neg h1] at hS
    have d2:decide ((n:Int)=1)=false:=decide_eq_false (by omega)
    repeat' (first|(apply nx;with_reducible constructor)|refine jq (by decide) ?_|((first|refine kz env fun Q hQ=>?_|refine kj fun Q hQ=>?_);simp only [vkt,seval,vD,yS,qp,eTk,gTk,lnB,MapKept.IsKey,d1,e9,hx,hl,hM,d2,ite_and];(repeat' first|with_reducible assumption|apply kk|intro hp);all_goals (first|(refine hQ _ ?_;clear hQ Q)|(refine hQ _ (fun h=>?_) (fun h=>?_) <;> clear hQ Q <;> (try simp only [reduceCtorEq] at h))|(refine kx ?_;kernel_rfl)|omega|assumption|with_reducible rfl|skip)))
    refine ⟨⟨k+1,hkl⟩,by show c.sold.length - (k+1) < c.sold.length - k;omega, ?_⟩
    show Le _ (lnB c es (k+1))
    unfold lnB
    rw [hS]
    (refine Le.ok some [] ?_;constructor;all_goals (try simp only [vle,vkt,seval,yS,qp]))
    all_goals first|rfl|simp
  ·have d1:decide ((k:Int) < (c.sold.length:Int))=false:=decide_eq_false (by omega)
   obtain rfl:k=c.sold.length:=by omega
   have hall:=Qi3 c.sold
   repeat' (first|(apply nx;with_reducible constructor)|refine jq (by decide) ?_|((first|refine kz env fun Q hQ=>?_|refine kj fun Q hQ=>?_);simp only [vkt,seval,vD,yS,qp,lnB,d1,hall,ite_and];(repeat' first|with_reducible assumption|apply kk|intro hp);all_goals (first|(refine hQ _ ?_;clear hQ Q)|(refine hQ _ (fun h=>?_) (fun h=>?_) <;> clear hQ Q <;> (try simp only [reduceCtorEq] at h))|(refine kx ?_;kernel_rfl)|omega|assumption|with_reducible rfl|skip)))
   simp only [vrt,Tryz.results63,vkt,seval,yS]
   show Fin _ _ _ 0 (qc []) 0
   refine Fin.ok some [2] ?_ ?_ ?_ ?_ ?_ rfl
   all_goals (try simp only [vle,vkt,seval])
   all_goals first|rfl|simp
def Qcs:List AV→Prop × AV
 |[.agg [.sl c0,.v (.int .i64 c1),.sl c2]]=>(c0=(c0.map qj).map qz∧c2=(c2.map dTk).map eTk∧((⟨(c0.map qj),c1,(c2.map dTk)⟩:Chart)).sold.length≤100,ql (wE ((⟨(c0.map qj),c1,(c2.map dTk)⟩:Chart)).sold))
 |_=>(False,.junk)
theorem elone {A:Frm→Prop}:qm A Tryz.prog 63 (qG false Qcs):=qH fun vs hv h=>by
 clear hv
 unfold Qcs at h ⊢
 split at h
 ·rename_i c0 c1 c2;obtain ⟨q0,q1,k0⟩:=h
  refine ⟨by first|trivial|(repeat' split) <;> simp [AV.plain,AV.plainL,aI,aB,ql,qb,qp,qx,aTk,cTk],fun h=>absurd h (by decide), ?_⟩
  have:=QiI ((⟨(c0.map qj),c1,(c2.map dTk)⟩:Chart)) k0
  simp only [qd,qa,← q0,← q1] at this
  first|exact this|(simp only [zB,qd,aI,qp,qa,← q0,← q1];exact this)
 ·exact h.elim
theorem Qai (sold:List Tk) (n:Nat) (b:Bunk) {x:Tk} (hx:sold.getD n default=x):(xk sold n b).map eTk=(sold.map eTk).set n [.v (.int .i64 x.party),.v (.int .i64 x.sex),.v (.int .i64 b.cab),.v (.int .i64 b.bed),.v (.int .i64 x.frm),.v (.int .i64 x.to),.v (.bool x.dog)]:=by
 unfold xk
 rw [hx,List.map_set]
 rfl
theorem V6 (sold:List Tk) (n:Nat) (b:Bunk):(xk sold n b).length=sold.length:=by simp [xk]
theorem Qgp (sold:List Tk) (n:Nat) (b d:Bunk) (h:n < sold.length):xk (xk sold n b) n d=xk sold n d:=by
 unfold xk
 rw [show (sold.set n ⟨(sold.getD n default).party,(sold.getD n default).sex,b.cab,b.bed,(sold.getD n default).frm,(sold.getD n default).to,(sold.getD n default).dog⟩).getD n default=⟨(sold.getD n default).party,(sold.getD n default).sex,b.cab,b.bed,(sold.getD n default).frm,(sold.getD n default).to,(sold.getD n default).dog⟩ by simp [List.getD_eq_getElem?_getD,h]]
 simp
theorem Qfr (sold:List Tk) (n:Nat) (h:n < sold.length):xk sold n (sold.getD n default).bunk=sold:=by
 unfold xk Tk.bunk
 rw [show (⟨(sold.getD n default).party,(sold.getD n default).sex,(sold.getD n default).cab,(sold.getD n default).bed,(sold.getD n default).frm,(sold.getD n default).to,(sold.getD n default).dog⟩:Tk)=sold[n] by simp [List.getD_eq_getElem?_getD,h]]
 exact List.set_getElem_self h
def s1L (cs:List Cabin) (s:Int) (sold:List Tk) (was:Bunk) (n:Nat):List AObj:=[qf cs s 1,qh sold,.cells [.ptr 0 0],.cells [.v (.int .i64 was.cab),.v (.int .i64 was.bed)],.cells [aI n]]
def Ur:=kk @ty3 (kk @yP (kk @wh (kk @yu (kk @wP (kk @QZ (kk @Wj (kk @ti3.eq_1 (kk @yh.eq_1 (kk @zQ.eq_1 (kk @jQ.eq_1 (kk @wI.eq_1 (kk @kV.eq_1 @Ql.eq_1))))))))))))
def Qdv:=kk @aI.eq_1 (@aB.eq_1)
theorem Qeo (cs:List Cabin) (s:Int) (sold:List Tk) (was:Bunk) (n:Nat) (hn:n < sold.length):FnD Tryz.prog 111 [.ptr 3 0,.ptr 2 0,.ptr 4 0] (qc (qD 0 (s1L cs s sold was n))) (.tup []) (qc (zm 0 ((s1L cs s (xk sold n was) was n).map some))):=by
 have env:Env (fun F=>F.r=none) Tryz.prog tyB (tab []):=qA trivial
 refine FnD.of (n0:=5) (Fn0 Tryz.func111 rfl (fun vs w=>by kernel_rfl) (by kernel_rfl)) (by simp) (by simp [AV.ids]) ?_ ?_
 ·intro i o hi
  have h:=qF hi
  simp [qD,s1L] at h
  rcases h with ⟨rfl,rfl⟩|⟨rfl,rfl⟩|⟨rfl,rfl⟩|⟨rfl,rfl⟩|⟨rfl,rfl⟩ <;> simp [AObj.ids,AV.ids,AV.idsL,qf,qh,aI]
 obtain ⟨x,hx⟩:∃ x,sold.getD n default=x:=⟨_,rfl⟩
 have hp:=Qai sold n was hx
 have hg:=hTk hn
 rw [hx] at hg
 have i0:((n:Int)).toNat=n:=rfl
 show Sym _ _ _ (qX [.ptr 3 0,.ptr 2 0,.ptr 4 0] 5 (qc [(0,qf cs s 1),(1,qh sold),(2,.cells [.ptr 0 0]),(3,.cells [.v (.int .i64 was.cab),.v (.int .i64 was.bed)]),(4,.cells [aI n])])) (Qgv tyB Tryz.f111 fun S rv=>Fin S rv _ 5 (qc [(0,qf cs s 1),(1,.row 64 7 ((xk sold n was).map eTk)),(2,.cells [.ptr 0 0]),(3,.cells [.v (.int .i64 was.cab),.v (.int .i64 was.bed)]),(4,.cells [aI n])]) 0)
 rw [hp]
 repeat' (first|(apply nx;with_reducible constructor)|refine jq (by decide) ?_|((first|refine kz env fun Q hQ=>?_|refine kj fun Q hQ=>?_);simp only [vkt,seval,Ur,Qdv,eTk,qf,qh,hg,i0,hn,ite_and];(repeat' first|with_reducible assumption|apply kk|intro hp);all_goals (first|(refine hQ _ ?_;clear hQ Q)|(refine hQ _ (fun h=>?_) (fun h=>?_) <;> clear hQ Q <;> (try simp only [vki,reduceCtorEq] at h))|(refine kx ?_;kernel_rfl)|omega|assumption|with_reducible rfl|skip)))
 simp only [Qgv.eq_1]
 refine ⟨trivial, ?_⟩
 (simp only [vrt,Tryz.results111,vkt,seval,Qdv,qf];refine Fin.ok some [] ?_ ?_ ?_ ?_ ?_ rfl;all_goals (try simp only [vle,vkt,seval]))
 all_goals first|rfl|simp
def WN (S:St):List AV→Option Pk
 |[.ptr w 0,.ptr q 0,.ptr m 0]=>match S.h w,S.h q,S.h m with
  |some (.cells [.v (.int .i64 a),.v (.int .i64 b)]),some (.cells [.ptr c 0]),some (.cells [.v (.int .i64 n)])=>match S.h c with
   |some (.cells [.sl cs,.v (.int .i64 s),.row r])=>match S.h r with
    |some (.row _ _ xs)=>some { pre:=cs=(cs.map qj).map qz∧xs=(xs.map dTk).map eTk∧n=(n.toNat:Int)∧n.toNat < (xs.map dTk).length,hs:=[c,r,q,w,m],ar:=[.ptr 3 0,.ptr 2 0,.ptr 4 0],L0:=s1L (cs.map qj) s (xs.map dTk) ⟨a,b⟩ n.toNat,v:=.tup [],L1:=(s1L (cs.map qj) s (xk (xs.map dTk) n.toNat ⟨a,b⟩) ⟨a,b⟩ n.toNat).map some }
    |_=>none
   |_=>none
  |_,_,_=>none
 |_=>none
theorem QjN {A:Frm→Prop}:kR.OK A Tryz.prog (dfE 111 WN):=QgZ fun S bs q h hp=>by
 unfold WN at h
 split at h
 ·split at h
  ·split at h
   ·split at h
    ·cases h
     obtain ⟨h1,h2,h3,h4⟩:=hp
     exact Qeo _ _ _ _ _ h4
    ·cases h
   ·cases h
  ·cases h
 ·cases h
theorem Qcn (f:Bunk→Option (List Tr)):∀ l:List Bunk,∃ R,R≤l.length∧(∀ j,j+1 < R→f (l.getD j default)=none)∧(R < l.length→0 < R∧f (l.getD (R - 1) default) ≠ none)∧l.findSome? f=if R=0 then none else f (l.getD (R - 1) default)
 |[]=>⟨0,Nat.le_refl _,fun _ h=>absurd h (Nat.not_lt_zero _),fun h=>absurd h (Nat.lt_irrefl _),rfl⟩
 |b :: l=>by
  cases hb:f b with
  |some t =>
   refine ⟨1,by simp,fun j h=>by omega,fun _=>⟨by omega, ?_⟩, ?_⟩
   ·show f b ≠ none
    rw [hb];simp
   ·rw [List.findSome?_cons,hb,if_neg (by omega)]
    exact hb.symm
  |none =>
   obtain ⟨R,h1,h2,h3,h4⟩:=Qcn f l
   refine ⟨R+1,by simpa using h1,fun j hj=>?_,fun hlt=>?_, ?_⟩
   ·cases j with
    |zero=>exact hb
    |succ j=>exact h2 j (by omega)
   ·obtain ⟨g1,g2⟩:=h3 (by simpa using hlt)
    refine ⟨by omega, ?_⟩
    rw [show R+1 - 1=(R - 1)+1 by omega]
    exact g2
   ·rw [List.findSome?_cons,hb,if_neg (by omega)]
    simp only
    rw [h4]
    by_cases hR:R=0
    ·subst hR;rw [if_pos rfl];exact hb.symm
    ·rw [if_neg hR,show R+1 - 1=(R - 1)+1 by omega];rfl
def shF (cs:List Cabin) (s:Int) (a:Ask) (r:List Int) (sold:List Tk) (k:Nat) (b:Bunk):Option (List Tr):=if b=(sold.getD k default).bunk then none else (je cs s a r (xk sold k b)).map (⟨(k:Int),b.cab,b.bed⟩ :: ·)
theorem LD (cs:List Cabin) (s:Int) (a:Ask) (r:List Int) (sold:List Tk) (k:Nat):je cs s a ((k:Int) :: r) sold=(qK cs).findSome? (shF cs s a r sold k):=rfl
def Z8 (cs:List Cabin) (sold:List Tk) (k:Nat):Nat→List Tk
 |0=>sold
 |j+1=>if (qK cs).getD j default=(sold.getD k default).bunk then Z8 cs sold k j else xk sold k ((qK cs).getD j default)
theorem KE (cs:List Cabin) (sold:List Tk) (k:Nat) (h:k < sold.length):∀ j,(Z8 cs sold k j).length=sold.length∧∀ d,xk (Z8 cs sold k j) k d=xk sold k d
 |0=>⟨rfl,fun _=>rfl⟩
 |j+1=>by
  rw [Z8]
  split
  ·exact KE cs sold k h j
  ·exact ⟨V6 _ _ _,fun d=>Qgp _ _ _ _ h⟩
structure ShOk (cs:List Cabin) (s:Int) (a:Ask) (sold:List Tk) (ts:List Int):Prop where
 cabs:1≤cs.length∧cs.length≤3
 beds:∀ x ∈ cs,1≤x.beds∧x.beds≤3
 many:sold.length≤8
 sx:a.sexes.length≤3
 lenT:ts.length≤3
 ts:∀ n ∈ ts,0≤n∧n.toNat < sold.length
theorem ShOk.tail {cs:List Cabin} {s:Int} {a:Ask} {sold:List Tk} {n:Int} {r:List Int} (h:ShOk cs s a sold (n :: r)) (m:Nat) (b:Bunk):ShOk cs s a (xk sold m b) r:=by
 refine ⟨h.cabs,h.beds,by rw [V6];exact h.many,h.sx,by have:=h.lenT;simp at this;omega,fun n hn=>?_⟩
 rw [V6]
 exact h.ts n (List.mem_cons_of_mem _ hn)
theorem VA {cs:List Cabin} {s:Int} {a:Ask}:∀ {ts:List Int} {sold:List Tk} {l:List Tr},je cs s a ts sold=some l→l.length=ts.length
 |[],sold,l,h=>by
  unfold je at h
  split at h
  ·cases h;rfl
  ·cases h
 |n :: r,sold,l,h=>by
  unfold je at h
  obtain ⟨b,hb⟩:∃ b,(if b=(sold.getD n.toNat default).bunk then none else (je cs s a r (xk sold n.toNat b)).map (⟨n,b.cab,b.bed⟩ :: ·))=some l:=by
   obtain ⟨b,_,hb⟩:=List.exists_of_findSome?_eq_some h
   exact ⟨b,hb⟩
  split at hb
  ·cases hb
  ·obtain ⟨l',hl',rfl⟩:=Option.map_eq_some_iff.1 hb
   rw [List.length_cons,VA hl',List.length_cons]
def Qii (cs:List Cabin) (s:Int) (a:Ask) (m:Nat):Prop:=∀ (sold:List Tk) (ts:List Int),ts.length=m→ShOk cs s a sold ts →
 Fn noB Tryz.prog 66 [.ptr 0 0,ql ts,qI a] (qc (qD 0 (qJ cs s sold))) (.tup [jP ((je cs s a ts sold).getD []),aB (je cs s a ts sold).isSome]) (qc (zm 0 ((qJ cs s sold).map some))) 0
def s0L0:List (Nat × AV):=[(6,.ptr 5 0),(7,.ptr 6 0),(24,.clo 103 [.ptr 7 0,.ptr 8 0])]
def s0L:List (Nat × AV):=[(6,.ptr 5 0),(7,.ptr 6 0)]
def s0H (k:Nat):List (Nat × AObj):=[(5,.cells [.nil]),(6,.cells [aB (decide (0 < k))])]
theorem Y5 (c:Chart) (a:Ask):qN [0,1,7,8] 10 0 (plL c a)=[(0,qf c.cabins c.secs 1),(1,qh c.sold),(7,.cells [.ptr 0 0]),(8,.cells (qg a))]:=by
 simp [qN,plL,qo,AObj.ren,AV.renL,AV.ren,qf,qh,qg]
theorem R7 (c:Chart) (a:Ask) (j:Nat):qN [0] 10 0 (plH c a j)=[(0,qf c.cabins c.secs 10),(10,qh ((plP c a).getD j default).2)]:=by
 simp [qN,plH,qJ,qo,AObj.ren,AV.renL,AV.ren,qf,qh]
def wV:=kk @ty3 (kk @ty4 (kk @yP (kk @wh (kk @yf (kk @jL (kk @x8 (kk @Qfm (kk @yu (kk @wP (kk @Qfa (kk @QZ (kk @Wj (kk @ti3.eq_1 (kk @ti4.eq_1 (kk @yh.eq_1 (kk @zQ.eq_1 (kk @jK.eq_1 (kk @wY.eq_1 (kk @vV.eq_1 (kk @RL.eq_1 (kk @jQ.eq_1 (kk @wI.eq_1 (kk @K7.eq_1 (kk @kV.eq_1 @Ql.eq_1))))))))))))))))))))))))
def vM:=kk @aI.eq_1 (kk @aB.eq_1 (kk @ql.eq_1 (@jJ)))
set_option maxHeartbeats 2000000 in
theorem Qb5 (cs:List Cabin) (s:Int) (a:Ask):Qii cs s a 0:=by
 intro sold ts ht ok
 obtain rfl:=List.eq_nil_of_length_eq_zero ht
 have env:Env (fun F=>F.r=none) Tryz.prog tyB (tab [(76,qG true jC),(52,fnE wO)]):=qA ⟨VQ,WW,trivial⟩
 refine Fn.of (A:=fun F=>F.r=none) (n0:=2) (D:=noD) (Fn0 Tryz.func66 rfl (fun vs w=>by kernel_rfl) (by kernel_rfl)) (by simp) (by simp [AV.ids,AV.idsL,ql,qI,qg]) jB (fun _ _ _ h=>h) qw ?_
 obtain ⟨c,hc⟩:∃ c:Chart,(⟨cs,s,sold⟩:Chart)=c:=⟨_,rfl⟩
 have e1:cs=c.cabins:=by rw [← hc]
 have e2:s=c.secs:=by rw [← hc]
 have e3:sold=c.sold:=by rw [← hc]
 have hcm:c.cabins.length≤maxLen:=by
  have h1:=ok.cabs
  have h2:(3:Nat)≤maxLen:=by decide
  rw [← e1];omega
 show Sym _ _ _ (qX [.ptr 0 0,ql [],qI a] 2 (qc [(0,qf cs s 1),(1,qh sold)])) (wK tyB noD Tryz.f66 fun S rv=>Fin S rv (.tup [jP ((if zw ⟨cs,s,sold⟩=0∧plP ⟨cs,s,sold⟩ a ≠ [] then some [] else none:Option (List Tr)).getD []),aB (if zw ⟨cs,s,sold⟩=0∧plP ⟨cs,s,sold⟩ a ≠ [] then some [] else none:Option (List Tr)).isSome]) 2 (qc [(0,qf cs s 1),(1,qh sold)]) 0)
 rw [e1,e2,e3] at hc ⊢
 rw [hc]
 by_cases h0:zw c=0
 ·have hpo:PlOk c a:=⟨xq h0,ok.sx⟩
  repeat' (first|(apply nx;with_reducible constructor)|refine jq (by decide) ?_|refine zF ?_|refine zR ?_|refine zV ?_|refine zS ?_|((first|refine kz env fun Q hQ=>?_|refine kj fun Q hQ=>?_);simp only [vkt,seval,wV,vM,qI,qg,qy,mTk,qf,qh,qJ,plL,jC,wO,hwL,hc,h0,decide_true,ite_and];(repeat' first|with_reducible assumption|apply kk|intro hp);all_goals (first|(refine hQ _ ?_;clear hQ Q)|(refine hQ _ (fun h=>?_) (fun h=>?_) <;> clear hQ Q <;> (try simp only [reduceCtorEq] at h))|(refine kx ?_;kernel_rfl)|omega|assumption|with_reducible rfl|skip)))
  refine jT (S':={ t:=asg s0L0,h:=qc (s0H 0++[(0,qf c.cabins c.secs 1),(1,qh c.sold),(7,.cells [.ptr 0 0]),(8,.cells (qg a))]),n:=9,j:=0,d:=[],m:=2 }) ?_ ?_
  ·show Le _ { t:=asg [(6,.ptr 5 0),(7,.ptr 6 0),(24,.clo 103 [.ptr 7 0,.ptr 8 0])],h:=qc [(5,.cells [.nil]),(6,.cells [aB false]),(0,qf c.cabins c.secs 1),(1,qh c.sold),(7,.cells [.ptr 0 0]),(8,.cells (qg a))],n:=9,j:=0,d:=[],m:=2 }
   (refine Le.ok some [] ?_;constructor;all_goals (try simp only [vle,vkt,seval,vM,qg,qf,qh]))
   all_goals first|rfl|(simp [qg,AV.leL,AV.le,AV.idsL,AV.ids];done)
  rw [← Y5 c a]
  obtain ⟨N,hN⟩:∃ N,(plP c a).length=N:=⟨_,rfl⟩
  obtain ⟨R,hR⟩:∃ R,(if N=0 then 0 else 1)=R:=⟨_,rfl⟩
  have hRo:Rounds (fun _=>false) R N:=by
   by_cases hN0:N=0
   ·rw [if_pos hN0] at hR
    exact ⟨by omega,fun j hj=>by omega,fun h=>by omega⟩
   ·rw [if_neg hN0] at hR
    exact ⟨by omega,fun j hj=>by omega,fun h=>⟨by omega,rfl⟩⟩
  have hR1:∀ j,j < R→j=0∧R=1:=fun j hj=>by
   by_cases hN0:N=0
   ·rw [if_pos hN0] at hR;omega
   ·rw [if_neg hN0] at hR;omega
  refine jN (fun F h=>h) 1 (L:=s0L0) (L':=s0L) (xs:=[1,7,8]) (hs:=[0,1,7,8]) (n:=9) (nl:=1) (hc:=s0H) (Lp:=plL c a) (jj:=fun _=>0) (d:=[]) (ys:=plY c a) (hl:=plH c a) (ans:=fun _=>false) (ex:=.ret) (caps:=[.ptr 7 0,.ptr 8 0]) (caps0:=[.ptr 2 0,.ptr 3 0]) (N:=(plP c a).length) (R:=R) (A':=fun _ _=>True) rfl (ZR hpo) (by rw [hN];exact hRo) (.inl rfl) ?_ ?_ ?_ rfl (by simp) ?_ (by simp) (fun _ _ _ _ _ _=>trivial) ?_ ?_ ?_ ?_ ?_ ?_ (fun j hj=>?_) ?_ (fun j hj=>?_) (fun hall=>?_) (fun hpos _=>?_)
  ·simp [AV.leL,AV.le]
  ·simp [AV.nocbL,AV.nocb]
  ·simp [Zn,plL,qf,qh,qg,AObj.nocb,AV.nocbL,AV.nocb,AObj.ids,AV.ids,AV.idsL,AObj.ren,AV.renL,AV.ren,AObj.le,AV.leL,AV.le,qo]
  ·simp [s0H,qc]
  ·simp [s0H,qc]
  ·simp [s0H,AObj.ids,AV.ids,AV.idsL,aB]
  ·simp [KW,s0L,s0L0,asg]
  ·simp [LY]
  ·intro j hj
   simp [absent,s0H,R7]
  ·simp [WV,s0L,AV.ids]
  ·refine ⟨?_,rfl, ?_, ?_,rfl, ?_⟩
   ·simp [xJ,s0H,AObj.ids,AV.ids,AV.idsL,aB]
   ·simp [QW,plH,qJ,qf,qh,AObj.nocb,AV.nocbL,AV.nocb,AObj.ids,AV.ids,AV.idsL]
   ·simp [Yx,plY,qb,AV.nocb,AV.ids]
   ·simp [xy,Q7,R7,s0H,s0L,yT,AV.ids,ADf.ids,List.range_succ]
  ·simp [xJ,s0H,AObj.ids,AV.ids,AV.idsL,aB]
  ·obtain ⟨rfl,hR1⟩:=hR1 j hj
   have env:Env (fun _:Frm=>True) Tryz.prog tyB (tab []):=qA trivial
   obtain ⟨x,hx⟩:∃ x,((plP c a).getD 0 default).1=x:=⟨_,rfl⟩
   obtain ⟨r,hr⟩:∃ r,((plP c a).getD 0 default).2=r:=⟨_,rfl⟩
   have hst:zU s0L [25] [0] 9 1 (plY c a 0) (s0H 0) (plH c a 0)={ t:=asg [(25,qb x),(6,.ptr 5 0),(7,.ptr 6 0)],h:=qc [(9,.mark),(5,.cells [.nil]),(6,.cells [aB false]),(0,qf c.cabins c.secs 10),(10,qh r)],n:=11,m:=11 }:=by
    simp only [zU,Nat.reduceAdd,R7,plY,hx,hr,qb,List.map_cons,List.map_nil,AV.ren,List.zip_cons_cons,List.zip_nil_right,s0H,s0L,kQ,List.cons_append,List.nil_append]
    rfl
   show Sym _ _ _ (zU s0L [25] [0] 9 1 (plY c a 0) (s0H 0) (plH c a 0)) _
   rw [hst]
   repeat' (first|(apply nx;with_reducible constructor)|refine jq (by decide) ?_|refine zF ?_|refine zR ?_|refine zV ?_|refine zS ?_|((first|refine kz env fun Q hQ=>?_|refine kj fun Q hQ=>?_);simp only [vkt,seval,wV,vM,qf,qh,ite_and];(repeat' first|with_reducible assumption|apply kk|intro hp);all_goals (first|(refine hQ _ ?_;clear hQ Q)|(refine hQ _ (fun h=>?_) (fun h=>?_) <;> clear hQ Q <;> (try simp only [vki,reduceCtorEq] at h))|(refine kx ?_;kernel_rfl)|omega|assumption|with_reducible rfl|skip)))
   refine ⟨rfl,rfl,some,_,RFin.okQ some [] ?_⟩
   constructor
   all_goals (try simp only [vle,yw,j5,qo,plH,hr,vkt,seval,vM,qf,qh,qJ,s0L,s0H])
   all_goals first|rfl|simp
  ·have hR0:R=0:=by
    by_cases h:R=0
    ·exact h
    ·exact absurd (hall 0 (by omega)) (by simp)
   have hN0:N=0:=by
    by_cases h:N=0
    ·exact h
    ·rw [if_neg h] at hR;omega
   have hpe:plP c a=[]:=List.eq_nil_of_length_eq_zero (by rw [hN];exact hN0)
   have eh:qc ((9,AObj.mark) :: s0H R++qN [0,1,7,8] (9+1) 0 (plL c a))=qc [(9,.mark),(5,.cells [.nil]),(6,.cells [aB false]),(0,qf c.cabins c.secs 1),(1,qh c.sold),(7,.cells [.ptr 0 0]),(8,.cells (qg a))]:=by
    rw [show qN [0,1,7,8] (9+1) 0 (plL c a)=qN [0,1,7,8] 10 0 (plL c a) from rfl,Y5,hR0];rfl
   rw [eh,if_neg (by simp [hpe])]
   repeat' (first|(apply nx;with_reducible constructor)|refine jq (by decide) ?_|refine zF ?_|refine zR ?_|refine zV ?_|refine zS ?_|((first|refine kz env fun Q hQ=>?_|refine kj fun Q hQ=>?_);simp only [vkt,seval,wV,vM,qg,qf,qh,s0L,ite_and];(repeat' first|with_reducible assumption|apply kk|intro hp);all_goals (first|(refine hQ _ ?_;clear hQ Q)|(refine hQ _ (fun h=>?_) (fun h=>?_) <;> clear hQ Q <;> (try simp only [vki,reduceCtorEq] at h))|(refine kx ?_;kernel_rfl)|omega|assumption|with_reducible rfl|skip)))
   (simp only [vrt,Tryz.results66,vkt,seval,wV,vM,jP,qf,qh];refine Fin.ok some [] ?_ ?_ ?_ ?_ ?_ rfl;all_goals (try simp only [vle,vkt,seval]))
   all_goals first|rfl|(simp [];done)|exact fun i hi=>(match i,hi with|0,_=>rfl|1,_=>rfl)
  ·have hRe:=(hR1 0 hpos).2
   have hN0:¬ N=0:=fun h=>by rw [if_pos h] at hR;omega
   have hpe:plP c a ≠ []:=fun h=>by rw [h] at hN;exact hN0 hN.symm
   have eh:qc ((9,AObj.mark) :: s0H R++qN [0,1,7,8] (9+1) 0 (plL c a))=qc [(9,.mark),(5,.cells [.nil]),(6,.cells [aB true]),(0,qf c.cabins c.secs 1),(1,qh c.sold),(7,.cells [.ptr 0 0]),(8,.cells (qg a))]:=by
    rw [show qN [0,1,7,8] (9+1) 0 (plL c a)=qN [0,1,7,8] 10 0 (plL c a) from rfl,Y5,hRe];rfl
   rw [eh,if_pos ⟨h0,hpe⟩]
   repeat' (first|(apply nx;with_reducible constructor)|refine jq (by decide) ?_|refine zF ?_|refine zR ?_|refine zV ?_|refine zS ?_|((first|refine kz env fun Q hQ=>?_|refine kj fun Q hQ=>?_);simp only [vkt,seval,wV,vM,jP,qI,qg,qy,mTk,qf,qh,qJ,plL,s0L,s0H,jC,wO,List.length_map,List.map_nil,nth,hwL,Nat.zero_add,Nat.sub_zero,ite_and];(repeat' first|with_reducible assumption|apply kk|intro hp);all_goals (first|(refine hQ _ ?_;clear hQ Q)|(refine hQ _ (fun h=>?_) (fun h=>?_) <;> clear hQ Q <;> (try simp only [vki,reduceCtorEq] at h))|(refine kx ?_;kernel_rfl)|omega|assumption|with_reducible rfl|skip)))
   (simp only [vrt,Tryz.results66,vkt,seval,wV,vM,jP,qg,qf,qh,s0L];refine Fin.ok some [] ?_ ?_ ?_ ?_ ?_ rfl;all_goals (try simp only [vle,vkt,seval]))
   all_goals first|rfl|(simp [qg,AV.leL,AV.le];done)|exact fun i hi=>(match i,hi with|0,_=>rfl|1,_=>rfl)
 ·rw [if_neg (fun h=>h0 h.1)]
  repeat' (first|(apply nx;with_reducible constructor)|refine jq (by decide) ?_|refine zF ?_|refine zR ?_|refine zV ?_|refine zS ?_|((first|refine kz env fun Q hQ=>?_|refine kj fun Q hQ=>?_);simp only [vkt,seval,wV,vM,qI,qg,qy,mTk,qf,qh,jC,hc,h0,decide_true,ite_and];(repeat' first|with_reducible assumption|apply kk|intro hp);all_goals (first|(refine hQ _ ?_;clear hQ Q)|(refine hQ _ (fun h=>?_) (fun h=>?_) <;> clear hQ Q <;> (try simp only [vki,reduceCtorEq] at h))|(refine kx ?_;kernel_rfl)|omega|assumption|with_reducible rfl|skip)))
  (simp only [vrt,Tryz.results66,vkt,seval,wV,vM,jP,qf,qh];refine Fin.ok some [] ?_ ?_ ?_ ?_ ?_ rfl;all_goals (try simp only [vle,vkt,seval]))
  all_goals first|rfl|(simp [];done)
def Xg (cs:List Cabin) (s:Int) (a:Ask) (m:Nat) (S:St):List AV→Option Pk
 |[.ptr p 0,.sl ts,.agg aa]=>match S.h p with
  |some (.cells [.sl cc,.v (.int .i64 s'),.row r])=>match S.h r with
   |some (.row _ _ xs)=>some { pre:=cc=cs.map qz∧s'=s∧aa=qg a∧ts=(ts.map qM).map qU∧xs=(xs.map dTk).map eTk∧(ts.map qM).length=m∧ShOk cs s a (xs.map dTk) (ts.map qM),hs:=[p,r],ar:=[.ptr 0 0,.sl ts,.agg aa],L0:=qJ cs s (xs.map dTk),v:=.tup [jP ((je cs s a (ts.map qM) (xs.map dTk)).getD []),aB (je cs s a (ts.map qM) (xs.map dTk)).isSome],L1:=(qJ cs s (xs.map dTk)).map some }
   |_=>none
  |_=>none
 |_=>none
theorem QlC {A:Frm→Prop} {cs:List Cabin} {s:Int} {a:Ask} {m:Nat} (ih:Qii cs s a m):qm A Tryz.prog 66 (fnE (Xg cs s a m)):=qZ fun S bs q h hp=>by
 unfold Xg at h
 split at h
 ·split at h
  ·split at h
   ·cases h
    obtain ⟨_,_,h3,h4,_,h6,h7⟩:=hp
    have:=ih _ _ h6 h7
    rw [ql,← h4,qI,← h3] at this
    exact this
   ·cases h
  ·cases h
 ·cases h
def shT:List (Nat × AV):=[(3,.ptr 2 0),(4,.ptr 3 0),(5,.ptr 4 0),(6,.ptr 5 0),(7,.ptr 6 0),(8,.ptr 7 0),(9,.ptr 8 0)]
def shT0:List (Nat × AV):=shT++[(43,.clo 117 [.ptr 9 0])]
def Z9 (cs:List Cabin) (s:Int) (a:Ask) (r:List Int) (sold:List Tk) (k j:Nat):Option (List Tr):=if j=0 then none else shF cs s a r sold k ((qK cs).getD (j - 1) default)
def shH (cs:List Cabin) (s:Int) (a:Ask) (ts:List Int) (k:Nat) (was:Bunk) (T:List Tk) (o:Option (List Tr)):List (Nat × AObj):=[(0,qf cs s 1),(1,qh T),(2,.cells [.ptr 0 0]),(3,.cells [.sl (ts.map qU)]),(4,.cells (qg a)),(5,.cells [.sl ((o.getD []).map eTr)]),(6,.cells [aB o.isSome]),(7,.cells [aI k]),(8,.cells [.v (.int .i64 was.cab),.v (.int .i64 was.bed)])]
theorem YV (cs:List Cabin) (s:Int):qN [9] 11 0 [buO cs s]=[(9,buO cs s)]:=by
 simp [qN,qo,buO,AObj.ren,AV.renL,AV.ren]
def zT:=kk @ty3 (kk @ty4 (kk @yP (kk @wh (kk @yf (kk @jL (kk @x8 (kk @Qfm (kk @yu (kk @wP (kk @Qfa (kk @QZ (kk @Wj (kk @ti3.eq_1 (kk @ti4.eq_1 (kk @yh.eq_1 (kk @zQ.eq_1 (kk @jK.eq_1 (kk @wY.eq_1 (kk @vV.eq_1 (kk @RL.eq_1 (kk @jQ.eq_1 (kk @wI.eq_1 (kk @K7.eq_1 (kk @kV.eq_1 @Ql.eq_1))))))))))))))))))))))))
def y9:=kk @aI.eq_1 (kk @aB.eq_1 (kk @ql.eq_1 (kk @jJ (kk @Xw (@qU.eq_1)))))
set_option maxHeartbeats 8000000 in
theorem QaT (cs:List Cabin) (s:Int) (a:Ask) (m:Nat) (ih:Qii cs s a m):Qii cs s a (m+1):=by
 intro sold ts ht ok
 have env:Env (fun F=>F.r=none) Tryz.prog tyB (tab [(80,fnE WJ)]):=qA ⟨Qco,trivial⟩
 refine Fn.of (A:=fun F=>F.r=none) (n0:=2) (D:=dfE 111 WN) (Fn0 Tryz.func66 rfl (fun vs w=>by kernel_rfl) (by kernel_rfl)) (by simp) (by simp [AV.ids,AV.idsL,ql,qI,qg]) jB (fun _ _ _ h=>h) QjN ?_
 obtain ⟨n,r,rfl⟩:∃ n r,ts=n :: r:=by
  cases ts with
  |nil=>simp at ht
  |cons n r=>exact ⟨n,r,rfl⟩
 obtain ⟨hn0,hnl⟩:=ok.ts n List.mem_cons_self
 obtain ⟨k,rfl⟩:∃ k:Nat,n=k:=⟨n.toNat,by omega⟩
 have hnl:k < sold.length:=hnl
 have hrl:r.length=m:=by simpa using ht
 rw [LD]
 obtain ⟨ts,hts⟩:∃ ts,(k:Int) :: r=ts:=⟨_,rfl⟩
 have hl1:ts.length=m+1:=by rw [← hts];exact ht
 have hg0:(ts.map qU).getD 0 [.v (.int .i64 0)]=[.v (.int .i64 (k:Int))]:=by rw [← hts];rfl
 have hdr:List.drop 1 (List.take (m+1) (ts.map qU))=r.map qU:=by
  rw [List.take_of_length_le (by rw [List.length_map,hl1];exact Nat.le_refl _),← hts];rfl
 rw [hts]
 obtain ⟨x,hx⟩:∃ x,sold.getD k default=x:=⟨_,rfl⟩
 have hg:=hTk hnl
 rw [hx] at hg
 have i0:((k:Int)).toNat=k:=rfl
 have d0:decide ((((m+1:Nat)):Int)=0)=false:=decide_eq_false (by omega)
 obtain ⟨w,hw⟩:∃ w:Bunk,x.bunk=w:=⟨_,rfl⟩
 have hwc:x.cab=w.cab:=by rw [← hw];rfl
 have hwb:x.bed=w.bed:=by rw [← hw];rfl
 have hsw:(sold.getD k default).bunk=w:=by rw [hx];exact hw
 have hfb:∀ b,shF cs s a r sold k b=if b=w then none else (je cs s a r (xk sold k b)).map (⟨(k:Int),b.cab,b.bed⟩ :: ·):=fun b=>by unfold shF;rw [hsw]
 have hcS:∀ j,Z8 cs sold k (j+1)=if (qK cs).getD j default=w then Z8 cs sold k j else xk sold k ((qK cs).getD j default):=fun j=>by rw [Z8,hsw]
 have hcs:=KE cs sold k hnl
 have hself:xk sold k w=sold:=by rw [← hsw];exact Qfr _ _ hnl
 obtain ⟨f,hf⟩:∃ f,shF cs s a r sold k=f:=⟨_,rfl⟩
 obtain ⟨R,hR1,hR2,hR3,hR4⟩:=Qcn f (qK cs)
 have hRo:Rounds (fun j=>(f ((qK cs).getD j default)).isNone) R (qK cs).length:=⟨hR1,fun j hj=>by show Option.isNone _=true;rw [hR2 j hj];rfl,fun h=>⟨(hR3 h).1,by
  have:=(hR3 h).2
  show Option.isNone _=false
  cases hq:f ((qK cs).getD (R - 1) default) with
  |none=>exact absurd hq this
  |some _=>rfl⟩⟩
 have hout:∀ j,Z9 cs s a r sold k (j+1)=f ((qK cs).getD j default):=fun j=>by unfold Z9;rw [if_neg (by omega),hf];rfl
 have houtN:∀ j,j < R→Z9 cs s a r sold k j=none:=fun j hj=>by
  cases j with
  |zero=>rfl
  |succ j=>rw [hout];exact hR2 j hj
 have hres:(qK cs).findSome? f=Z9 cs s a r sold k R:=by
  rw [hR4]
  unfold Z9
  rw [hf]
 have hcab:CabsOk cs:=⟨by have:=ok.cabs;omega,fun y hy=>by have:=ok.beds y hy;omega⟩
 have hm7:=ok.lenT
 rw [hts,hl1] at hm7
 have h1m:(1:Int)≤((m+1:Nat):Int):=by omega
 have hmx:(100:Nat)≤maxLen:=by decide
 rw [hf,hres]
 show Sym _ _ _ (qX [.ptr 0 0,ql ts,qI a] 2 (qc [(0,qf cs s 1),(1,qh sold)])) (wK tyB _ Tryz.f66 fun S rv=>Fin S rv _ 2 (qc [(0,qf cs s 1),(1,qh sold)]) 0)
 repeat' (first|(apply nx;with_reducible constructor)|refine jq (by decide) ?_|refine zF ?_|refine zR ?_|refine zV ?_|refine zS ?_)
 ((first|refine kz env fun Q hQ=>?_|refine kj fun Q hQ=>?_);simp only [vkt,seval,zT,y9,qI,qg,qf,qh,ite_and];(repeat' first|with_reducible assumption|apply kk|intro hp);all_goals (first|(refine hQ _ ?_;clear hQ Q)|(refine hQ _ (fun h=>?_) (fun h=>?_) <;> clear hQ Q <;> (try simp only [vki,reduceCtorEq] at h))|(refine kx ?_;kernel_rfl)|omega|assumption|with_reducible rfl|skip))
 repeat' (first|(apply nx;with_reducible constructor)|refine jq (by decide) ?_|refine zF ?_|refine zR ?_|refine zV ?_|refine zS ?_)
 ((first|refine kz env fun Q hQ=>?_|refine kj fun Q hQ=>?_);simp only [vkt,seval,zT,hl1,d0,ite_and];(repeat' first|with_reducible assumption|apply kk|intro hp);all_goals (first|(refine hQ _ ?_;clear hQ Q)|(refine hQ _ (fun h=>?_) (fun h=>?_) <;> clear hQ Q <;> (try simp only [vki,reduceCtorEq] at h))|(refine kx ?_;kernel_rfl)|omega|assumption|with_reducible rfl|skip))
 repeat' (first|(apply nx;with_reducible constructor)|refine jq (by decide) ?_|refine zF ?_|refine zR ?_|refine zV ?_|refine zS ?_)
 ((first|refine kz env fun Q hQ=>?_|refine kj fun Q hQ=>?_);simp only [vkt,seval,ite_and];(repeat' first|with_reducible assumption|apply kk|intro hp);all_goals (first|(refine hQ _ ?_;clear hQ Q)|(refine hQ _ (fun h=>?_) (fun h=>?_) <;> clear hQ Q <;> (try simp only [reduceCtorEq] at h))|(refine kx ?_;kernel_rfl)|omega|assumption|with_reducible rfl|skip))
 repeat' (first|(apply nx;with_reducible constructor)|refine jq (by decide) ?_|refine zF ?_|refine zR ?_|refine zV ?_|refine zS ?_)
 ((first|refine kz env fun Q hQ=>?_|refine kj fun Q hQ=>?_);simp only [vkt,seval,zT,hg0,ite_and];(repeat' first|with_reducible assumption|apply kk|intro hp);all_goals (first|(refine hQ _ ?_;clear hQ Q)|(refine hQ _ (fun h=>?_) (fun h=>?_) <;> clear hQ Q <;> (try simp only [vki,reduceCtorEq] at h))|(refine kx ?_;kernel_rfl)|omega|assumption|with_reducible rfl|skip))
 repeat' (first|(apply nx;with_reducible constructor)|refine jq (by decide) ?_|refine zF ?_|refine zR ?_|refine zV ?_|refine zS ?_)
 ((first|refine kz env fun Q hQ=>?_|refine kj fun Q hQ=>?_);simp only [vkt,seval,zT,eTk,hg,i0,hnl,ite_and];(repeat' first|with_reducible assumption|apply kk|intro hp);all_goals (first|(refine hQ _ ?_;clear hQ Q)|(refine hQ _ (fun h=>?_) (fun h=>?_) <;> clear hQ Q <;> (try simp only [vki,reduceCtorEq] at h))|(refine kx ?_;kernel_rfl)|omega|assumption|with_reducible rfl|skip))
 repeat' (first|(apply nx;with_reducible constructor)|refine jq (by decide) ?_|refine zF ?_|refine zR ?_|refine zV ?_|refine zS ?_)
 refine QaN (fun F h=>h) env rfl rfl rfl fun Q hQ=>?_
 simp only [List.dropLast]
 simp only [vkt,seval]
 refine hQ _ _ _ (by simp only [vkt,seval];rfl) ?_
 clear hQ Q
 dsimp only [put]
 repeat' (first|(apply nx;with_reducible constructor)|refine jq (by decide) ?_|refine zF ?_|refine zR ?_|refine zV ?_|refine zS ?_|((first|refine kz env fun Q hQ=>?_|refine kj fun Q hQ=>?_);simp only [vkt,seval,zT,qy,WJ,hwL,Nat.sub_zero,ite_and];(repeat' first|with_reducible assumption|apply kk|intro hp);all_goals (first|(refine hQ _ ?_;clear hQ Q)|(refine hQ _ (fun h=>?_) (fun h=>?_) <;> clear hQ Q <;> (try simp only [vki,reduceCtorEq] at h))|(refine kx ?_;kernel_rfl)|omega|assumption|with_reducible rfl|skip)))
 refine jT (S':={ t:=asg shT0,h:=qc (shH cs s a ts k w (Z8 cs sold k 0) (Z9 cs s a r sold k 0)++[(9,buO cs s)]),n:=10,j:=0,d:=[.call 111 [.ptr 8 0,.ptr 2 0,.ptr 7 0]],m:=2 }) ?_ ?_
 ·show Le _ { t:=asg [(3,.ptr 2 0),(4,.ptr 3 0),(5,.ptr 4 0),(6,.ptr 5 0),(7,.ptr 6 0),(8,.ptr 7 0),(9,.ptr 8 0),(43,.clo 117 [.ptr 9 0])],h:=qc [(0,qf cs s 1),(1,qh sold),(2,.cells [.ptr 0 0]),(3,.cells [.sl (ts.map qU)]),(4,.cells (qg a)),(5,.cells [.sl []]),(6,.cells [aB false]),(7,.cells [aI k]),(8,.cells [.v (.int .i64 w.cab),.v (.int .i64 w.bed)]),(9,buO cs s)],n:=10,j:=0,d:=[.call 111 [.ptr 8 0,.ptr 2 0,.ptr 7 0]],m:=2 }
  rw [← hwc,← hwb]
  (refine Le.ok some [] ?_;constructor;all_goals (try simp only [vle,vkt,seval,y9,qg,qf,qh,buO]))
  all_goals first|rfl|(simp [ADf.le,ADf.ids,AV.leL,AV.le,AV.idsL,AV.ids];done)
 rw [← YV cs s]
 refine jN (fun F h=>h) 1 (L:=shT0) (L':=shT) (xs:=[]) (hs:=[9]) (n:=10) (nl:=0) (hc:=fun j=>shH cs s a ts k w (Z8 cs sold k j) (Z9 cs s a r sold k j)) (Lp:=[buO cs s]) (jj:=fun _=>0) (d:=[.call 111 [.ptr 8 0,.ptr 2 0,.ptr 7 0]]) (ys:=buY cs) (hl:=fun _=>[buO cs s]) (ans:=fun j=>(f ((qK cs).getD j default)).isNone) (ex:=.ret) (caps:=[.ptr 9 0]) (caps0:=[.ptr 0 0]) (N:=(qK cs).length) (R:=R) (A':=fun _ _=>True) rfl (QaG cs s hcab) hRo (.inl rfl) ?_ ?_ ?_ rfl (by simp) ?_ (by simp) (fun _ _ _ _ _ _=>trivial) ?_ ?_ ?_ ?_ ?_ ?_ (fun j hj=>?_) ?_ (fun j hj=>?_) (fun hall=>?_) (fun hpos hlast=>?_)
 ·simp [AV.leL,AV.le]
 ·simp [AV.nocbL,AV.nocb]
 ·simp [Zn,buO,AObj.nocb,AV.nocbL,AV.nocb,AObj.ids,AV.ids,AV.idsL,AObj.ren,AV.renL,AV.ren,AObj.le,AV.leL,AV.le,wJ]
 ·simp [shH,qc]
 ·simp [shH,qc]
 ·exact fun _ _ _ _ h=>h
 ·simp [KW,shT,shT0,asg]
 ·simp [LY]
 ·intro j hj
  simp [absent]
 ·simp [WV,shT,AV.ids]
 ·refine ⟨?_,rfl, ?_, ?_,rfl, ?_⟩
  ·simp [xJ,shH,AObj.ids,AV.ids,AV.idsL,qf,qh,qg,aB,aI]
  ·simp [QW,buO,AObj.nocb,AV.nocbL,AV.nocb,AObj.ids,AV.ids,AV.idsL]
  ·simp [Yx,buY,qx,AV.nocb,AV.nocbL,AV.ids,AV.idsL]
  ·simp [xy,Q7,qN,qo,shH,shT,yT,AV.ids,AV.idsL,ADf.ids,List.range_succ]
 ·simp [xJ,shH,AObj.ids,AV.ids,AV.idsL,qf,qh,qg,aB,aI]
 ·have env:Env (fun _:Frm=>True) Tryz.prog tyB (tab [(66,fnE (Xg cs s a m))]):=qA ⟨QlC ih,trivial⟩
  obtain ⟨b,hb⟩:∃ b,(qK cs).getD j default=b:=⟨_,rfl⟩
  obtain ⟨T,hT⟩:∃ T,Z8 cs sold k j=T:=⟨_,rfl⟩
  have hTs:=hcs j
  rw [hT] at hTs
  have hcS:=hcS j
  rw [hb,hT] at hcS
  have hoS:=hout j
  rw [hb] at hoS
  have hfb:=hfb b
  rw [hf] at hfb
  have hst:zU shT [44] [9] 10 0 (buY cs j) (shH cs s a ts k w (Z8 cs sold k j) (Z9 cs s a r sold k j)) [buO cs s]={ t:=asg [(44,qx b),(3,.ptr 2 0),(4,.ptr 3 0),(5,.ptr 4 0),(6,.ptr 5 0),(7,.ptr 6 0),(8,.ptr 7 0),(9,.ptr 8 0)],h:=qc [(10,.mark),(0,qf cs s 1),(1,qh T),(2,.cells [.ptr 0 0]),(3,.cells [.sl (ts.map qU)]),(4,.cells (qg a)),(5,.cells [.sl []]),(6,.cells [aB false]),(7,.cells [aI k]),(8,.cells [.v (.int .i64 w.cab),.v (.int .i64 w.bed)]),(9,buO cs s)],n:=11,m:=11 }:=by
   simp only [zU,Nat.reduceAdd,buY,hb,hT,houtN j hj,YV,qx,List.map_cons,List.map_nil,AV.ren,AV.renL,List.zip_cons_cons,List.zip_nil_right,shH,shT,kQ,List.cons_append,List.nil_append]
   rfl
  show Sym _ _ _ (zU shT [44] [9] 10 0 (buY cs j) (shH cs s a ts k w (Z8 cs sold k j) (Z9 cs s a r sold k j)) [buO cs s]) _
  rw [hst]
  by_cases hbw:b=w
  ·rw [if_pos hbw] at hcS hfb
   have hba:(f ((qK cs).getD j default)).isNone=true:=by rw [hb,hfb];rfl
   rw [hfb] at hoS
   rw [hbw]
   repeat' (first|(apply nx;with_reducible constructor)|refine jq (by decide) ?_|refine zF ?_|refine zR ?_|refine zV ?_|refine zS ?_|((first|refine kz env fun Q hQ=>?_|refine kj fun Q hQ=>?_);simp only [vkt,seval,zT,y9,qx,qg,qf,qh,buO,decide_true,ite_and];(repeat' first|with_reducible assumption|apply kk|intro hp);all_goals (first|(refine hQ _ ?_;clear hQ Q)|(refine hQ _ (fun h=>?_) (fun h=>?_) <;> clear hQ Q <;> (try simp only [reduceCtorEq] at h))|(refine kx ?_;kernel_rfl)|omega|assumption|with_reducible rfl|skip)))
   refine ⟨by simp only [hba];rfl,rfl,some,_,RFin.okQ some [] ?_⟩
   constructor
   all_goals (try simp only [vle,yw,j5,qo,hcS,hoS,Option.getD_none,Option.isSome_none,vkt,seval,y9,qg,qf,qh,buO,shT,shH])
   all_goals first|rfl|(simp;done)|(simp [qg,AV.leL,AV.le];done)
  ·rw [if_neg hbw] at hcS hfb
   have hne:(decide (b.cab=w.cab) && decide (b.bed=w.bed))=false:=by
    cases b;cases w
    simp at hbw ⊢
    exact hbw
   obtain ⟨y,hy⟩:∃ y,T.getD k default=y:=⟨_,rfl⟩
   have hkT:k < T.length:=by rw [hTs.1];exact hnl
   have hgT:=hTk hkT
   rw [hy] at hgT
   have hset:=Qai T k b hy
   rw [hTs.2] at hset
   obtain ⟨U,hU⟩:∃ U,xk sold k b=U:=⟨_,rfl⟩
   have hok:ShOk cs s a U r:=by
    have h:=ok.tail k b
    rwa [hU] at h
   rw [hU] at hset hcS hfb
   have hset:=hset.symm
   cases hsh:je cs s a r U with
   |none =>
    rw [hsh,Option.map_none] at hfb
    have hba:(f ((qK cs).getD j default)).isNone=true:=by rw [hb,hfb];rfl
    rw [hfb] at hoS
    repeat' (first|(apply nx;with_reducible constructor)|refine jq (by decide) ?_|refine zF ?_|refine zR ?_|refine zV ?_|refine zS ?_|((first|refine kz env fun Q hQ=>?_|refine kj fun Q hQ=>?_);simp only [vkt,seval,zT,y9,qx,jP,eTk,qg,mTk,qf,qh,qJ,buO,Xg,hwL,hne,hgT,i0,hkT,hset,hl1,hdr,h1m,hrl,hok,hsh,Option.getD_none,Option.isSome_none,ite_and];(repeat' first|with_reducible assumption|apply kk|intro hp);all_goals (first|(refine hQ _ ?_;clear hQ Q)|(refine hQ _ (fun h=>?_) (fun h=>?_) <;> clear hQ Q <;> (try simp only [reduceCtorEq] at h))|(refine kx ?_;kernel_rfl)|omega|assumption|with_reducible rfl|skip)))
    refine ⟨by simp only [hba];rfl,rfl,some,_,RFin.okQ some [] ?_⟩
    constructor
    all_goals (try simp only [vle,yw,j5,qo,hcS,hoS,Option.getD_none,Option.isSome_none,vkt,seval,y9,qg,qf,qh,buO,shT,shH])
    all_goals first|rfl|(simp;done)|(simp [qg,AV.leL,AV.le];done)
   |some l =>
    have hll:=VA hsh
    rw [hrl] at hll
    have hl2:1+l.length≤maxLen:=by omega
    rw [hsh,Option.map_some] at hfb
    have hba:(f ((qK cs).getD j default)).isNone=false:=by rw [hb,hfb];rfl
    rw [hfb] at hoS
    repeat' (first|(apply nx;with_reducible constructor)|refine jq (by decide) ?_|refine zF ?_|refine zR ?_|refine zV ?_|refine zS ?_|((first|refine kz env fun Q hQ=>?_|refine kj fun Q hQ=>?_);simp only [vkt,seval,zT,y9,qx,jP,eTk,qg,mTk,qf,qh,qJ,buO,Xg,rTr,hwL,hne,hgT,i0,hkT,hset,hl1,hdr,h1m,hrl,hok,hsh,hl2,ite_and];(repeat' first|with_reducible assumption|apply kk|intro hp);all_goals (first|(refine hQ _ ?_;clear hQ Q)|(refine hQ _ (fun h=>?_) (fun h=>?_) <;> clear hQ Q <;> (try simp only [reduceCtorEq] at h))|(refine kx ?_;kernel_rfl)|omega|assumption|with_reducible rfl|skip)))
    refine ⟨by simp only [hba];rfl,rfl,some,_,RFin.okQ some [13] ?_⟩
    constructor
    all_goals (try simp only [vle,yw,j5,qo,hcS,hoS,Option.getD_some,Option.isSome_some,vkt,seval,y9,eTr,qg,qf,qh,buO,shT,shH])
    all_goals first|rfl|(simp;done)|(simp [qg,AV.leL,AV.le];done)
 ·have hoR:Z9 cs s a r sold k R=none:=by
   by_cases hR0:R=0
   ·unfold Z9;rw [if_pos hR0]
   ·have h1:=hall (R - 1) (by omega)
    unfold Z9
    rw [if_neg hR0,hf]
    simpa using h1
  obtain ⟨T,hT⟩:∃ T,Z8 cs sold k R=T:=⟨_,rfl⟩
  have hTs:=hcs R
  rw [hT] at hTs
  have hkT:k < T.length:=by rw [hTs.1];exact hnl
  have hput:xk T k ⟨w.cab,w.bed⟩=sold:=by rw [hTs.2];exact hself
  have eh:qc ((10,AObj.mark) :: shH cs s a ts k w (Z8 cs sold k R) (Z9 cs s a r sold k R)++qN [9] (10+1) 0 [buO cs s])=qc [(10,.mark),(0,qf cs s 1),(1,qh T),(2,.cells [.ptr 0 0]),(3,.cells [.sl (ts.map qU)]),(4,.cells (qg a)),(5,.cells [.sl []]),(6,.cells [aB false]),(7,.cells [aI k]),(8,.cells [.v (.int .i64 w.cab),.v (.int .i64 w.bed)]),(9,buO cs s)]:=by
   rw [show qN [9] (10+1) 0 [buO cs s]=qN [9] 11 0 [buO cs s] from rfl,YV,hT,hoR];rfl
  rw [eh,hoR]
  repeat' (first|(apply nx;with_reducible constructor)|refine jq (by decide) ?_|refine zF ?_|refine zR ?_|refine zV ?_|refine zS ?_|((first|refine kz env fun Q hQ=>?_|refine kj fun Q hQ=>?_);simp only [vkt,seval,zT,y9,qg,qf,qh,buO,shT,ite_and];(repeat' first|with_reducible assumption|apply kk|intro hp);all_goals (first|(refine hQ _ ?_;clear hQ Q)|(refine hQ _ (fun h=>?_) (fun h=>?_) <;> clear hQ Q <;> (try simp only [vki,reduceCtorEq] at h))|(refine kx ?_;kernel_rfl)|omega|assumption|with_reducible rfl|skip)))
  simp only [vrt,Tryz.results66,vkt,seval,zT,y9,jP,qy,mTk,qf,qh,WN,s1L,dfE,hwL,i0,hput,hkT]
  refine Fin.ok some [] ?_ ?_ ?_ ?_ ?_ rfl
  all_goals (try simp only [vle,Option.getD_none,Option.isSome_none,vkt,seval])
  all_goals first|rfl|(simp;done)|exact fun i hi=>(match i,hi with|0,_=>rfl|1,_=>rfl)
 ·obtain ⟨l,hoR⟩:∃ l,Z9 cs s a r sold k R=some l:=by
   unfold Z9
   rw [if_neg (by omega),hf]
   cases hq:f ((qK cs).getD (R - 1) default) with
   |none=>rw [hq] at hlast;exact absurd hlast (by simp)
   |some l=>exact ⟨l,rfl⟩
  obtain ⟨T,hT⟩:∃ T,Z8 cs sold k R=T:=⟨_,rfl⟩
  have hTs:=hcs R
  rw [hT] at hTs
  have hkT:k < T.length:=by rw [hTs.1];exact hnl
  have hput:xk T k ⟨w.cab,w.bed⟩=sold:=by rw [hTs.2];exact hself
  have eh:qc ((10,AObj.mark) :: shH cs s a ts k w (Z8 cs sold k R) (Z9 cs s a r sold k R)++qN [9] (10+1) 0 [buO cs s])=qc [(10,.mark),(0,qf cs s 1),(1,qh T),(2,.cells [.ptr 0 0]),(3,.cells [.sl (ts.map qU)]),(4,.cells (qg a)),(5,.cells [.sl (l.map eTr)]),(6,.cells [aB true]),(7,.cells [aI k]),(8,.cells [.v (.int .i64 w.cab),.v (.int .i64 w.bed)]),(9,buO cs s)]:=by
   rw [show qN [9] (10+1) 0 [buO cs s]=qN [9] 11 0 [buO cs s] from rfl,YV,hT,hoR];rfl
  rw [eh,hoR]
  repeat' (first|(apply nx;with_reducible constructor)|refine jq (by decide) ?_|refine zF ?_|refine zR ?_|refine zV ?_|refine zS ?_)
  simp only [vrt,Tryz.results66,vkt,seval,zT,y9,jP,qg,qy,mTk,qf,qh,buO,shT,WN,s1L,dfE,hwL,i0,hput,hkT]
  refine Fin.ok some [] ?_ ?_ ?_ ?_ ?_ rfl
  all_goals (try simp only [vle,vkt,seval])
  all_goals first|rfl|(simp;done)|exact fun i hi=>(match i,hi with|0,_=>rfl|1,_=>rfl)
theorem Kw (cs:List Cabin) (s:Int) (a:Ask):∀ m,Qii cs s a m
 |0=>Qb5 cs s a
 |m+1=>QaT cs s a m (Kw cs s a m)
def Jk (cs:List Cabin) (s:Int) (a:Ask) (m:Nat) (S:St):List AV→Option Pk
 |[.ptr p 0,.row q,.agg aa]=>match S.h p,S.h q with
  |some (.cells [.sl cc,.v (.int .i64 s'),.row r]),some (.row _ _ ts)=>match S.h r with
   |some (.row _ _ xs)=>some { pre:=cc=cs.map qz∧s'=s∧aa=qg a∧ts=(ts.map qM).map qU∧xs=(xs.map dTk).map eTk∧(ts.map qM).length=m∧ShOk cs s a (xs.map dTk) (ts.map qM),hs:=[p,r],bo:=[q],ar:=[.ptr 0 0,.sl ts,.agg aa],L0:=qJ cs s (xs.map dTk),v:=.tup [jP ((je cs s a (ts.map qM) (xs.map dTk)).getD []),aB (je cs s a (ts.map qM) (xs.map dTk)).isSome],L1:=(qJ cs s (xs.map dTk)).map some }
   |_=>none
  |_,_=>none
 |_=>none
theorem QiD {A:Frm→Prop} {cs:List Cabin} {s:Int} {a:Ask} {m:Nat}:qm A Tryz.prog 66 (fnE (Jk cs s a m)):=qZ fun S bs q h hp=>by
 unfold Jk at h
 split at h
 ·split at h
  ·split at h
   ·cases h
    obtain ⟨_,_,h3,h4,_,h6,h7⟩:=hp
    have:=Kw cs s a m _ _ h6 h7
    rw [ql,← h4,qI,← h3] at this
    exact this
   ·cases h
  ·cases h
 ·cases h
def mvW (c:Chart) (a:Ask) (l:List Int):Option (List Tr):=je c.cabins c.secs a (xB c l) c.sold
def mvL (c:Chart) (a:Ask) (out:List Tr):List AObj:=[qf c.cabins c.secs 1,qh c.sold,.cells [.ptr 0 0],.cells [.sl ((wE c.sold).map qU)],.cells (qg a),.cells [.sl (out.map eTr)]]
structure MvOk (c:Chart) (a:Ask) (l:List Int):Prop where
 val:Val c
 sx:a.sexes.length≤3
 len:l.length≤2
 mem:∀ i ∈ l,0≤i∧i.toNat < (wE c.sold).length
theorem Qf6 {sold:List Tk} {i:Int} (h:i ∈ wE sold):0≤i∧i.toNat < sold.length:=by
 unfold wE at h
 obtain ⟨j,hj,rfl⟩:=List.mem_map.1 h
 have:=(List.mem_filter.1 hj).1
 rw [List.mem_range] at this
 exact ⟨Int.natCast_nonneg _,this⟩
theorem Qgq (sold:List Tk):(wE sold).length≤sold.length:=QcH sold sold.length
theorem MvOk.sh {c:Chart} {a:Ask} {l:List Int} (h:MvOk c a l):ShOk c.cabins c.secs a c.sold (xB c l):=by
 refine ⟨h.val.car.cabs,h.val.car.beds,h.val.many,h.sx,by have:=h.len;simp [xB];omega,fun n hn=>?_⟩
 obtain ⟨i,hi,rfl⟩:=List.mem_map.1 hn
 exact Qf6 (wC (h.mem i hi).2)
theorem Qc3 {c:Chart} {a:Ask} {o:List Tr}:∀ i ob,qc (qD 0 (mvL c a o)) i=some ob→i < 6∧∀ id ∈ ob.ids,id < 6:=by
 intro i ob hi
 have h:=qF hi
 simp [qD,mvL] at h
 rcases h with ⟨rfl,rfl⟩|⟨rfl,rfl⟩|⟨rfl,rfl⟩|⟨rfl,rfl⟩|⟨rfl,rfl⟩|⟨rfl,rfl⟩ <;> simp [AObj.ids,AV.ids,AV.idsL,qf,qh,qg]
def mvS (c:Chart) (a:Ask) (o:List Tr) (l:List Int) (k:Nat):St:={ t:=asg [(1,.ptr 3 0),(2,.ptr 2 0),(3,.ptr 4 0),(4,.ptr 5 0),(6,aB false),(7,.row 6),(12,ql l),(13,aI l.length),(14,aI k)],h:=qc [(0,qf c.cabins c.secs 1),(1,qh c.sold),(2,.cells [.ptr 0 0]),(3,.cells [.sl ((wE c.sold).map qU)]),(4,.cells (qg a)),(5,.cells [.sl (o.map eTr)]),(6,.row 3 1 (((xB c l).take k).map qU))],n:=7,m:=6 }
def ZQ:=kk @ty3 (kk @yf (kk @jL (kk @Qfm (kk @Qfa (kk @QZ (kk @ti3.eq_1 (kk @jK.eq_1 (kk @wY.eq_1 (kk @RL.eq_1 (kk @K7.eq_1 @kV.eq_1))))))))))
def kH:=kk @aI.eq_1 (kk @aB.eq_1 (kk @ql.eq_1 (kk @qU.eq_1 (kk @JN (kk @Xw (@jJ))))))
set_option maxHeartbeats 1000000 in
theorem QlN (c:Chart) (a:Ask) (o:List Tr) (l:List Int) (ok:MvOk c a l):Fn noB Tryz.prog 65 [ql l,.ptr 3 0,.ptr 2 0,.ptr 4 0,.ptr 5 0] (qc (qD 0 (mvL c a o))) (aB (mvW c a l).isSome) (qc (zm 0 ((mvL c a ((mvW c a l).getD o)).map some))) 0:=by
 have env:Env (fun _=>True) Tryz.prog tyB (tab [(66,fnE (Jk c.cabins c.secs a l.length))]):=qA ⟨QiD,trivial⟩
 refine Fn.of (A:=fun _=>True) (n0:=6) (D:=noD) (Fn0 Tryz.func65 rfl (fun vs w=>by kernel_rfl) (by kernel_rfl)) (by simp) (by simp [AV.ids,ql]) Qc3 (fun _ _ _ _=>trivial) qw ?_
 have hsh:=ok.sh
 have hlen:=ok.len
 have hmx:(100000:Nat)≤maxLen:=by decide
 have hsl:(xB c l).length=l.length:=by simp [xB]
 obtain ⟨W,hW⟩:∃ W,mvW c a l=W:=⟨_,rfl⟩
 rw [hW]
 unfold mvW at hW
 show Sym _ _ _ (qX [ql l,.ptr 3 0,.ptr 2 0,.ptr 4 0,.ptr 5 0] 6 (qc [(0,qf c.cabins c.secs 1),(1,qh c.sold),(2,.cells [.ptr 0 0]),(3,.cells [.sl ((wE c.sold).map qU)]),(4,.cells (qg a)),(5,.cells [.sl (o.map eTr)])])) (wK tyB noD Tryz.f65 fun S rv=>Fin S rv _ 6 (qc [(0,qf c.cabins c.secs 1),(1,qh c.sold),(2,.cells [.ptr 0 0]),(3,.cells [.sl ((wE c.sold).map qU)]),(4,.cells (qg a)),(5,.cells [.sl ((W.getD o).map eTr)])]) 0)
 repeat' (first|(apply nx;with_reducible constructor)|refine jq (by decide) ?_|((first|refine kz env fun Q hQ=>?_|refine kj fun Q hQ=>?_);simp only [vkt,seval,ZQ,kH,qf,qh,qg,ite_and];(repeat' first|with_reducible assumption|apply kk|intro hp);all_goals (first|(refine hQ _ ?_;clear hQ Q)|(refine hQ _ (fun h=>?_) (fun h=>?_) <;> clear hQ Q <;> (try simp only [vki,reduceCtorEq] at h))|(refine kx ?_;kernel_rfl)|omega|assumption|with_reducible rfl|skip)))
 refine qC (fun k:{ k:Nat // k≤l.length }=>mvS c a o l k.1) (fun k=>l.length - k.1) ⟨0,Nat.zero_le _⟩ ?_ fun ⟨k,hk⟩=>?_
 ·(refine Le.ok (fun i=>if i=6 then none else some i) [] ?_;constructor;all_goals (try simp only [vle,vkt,seval,kH,qf,qh,qg]))
  all_goals first|rfl|(simp;done)|(intro i hi;rw [if_neg (by omega)];done)
 simp only at hk ⊢
 by_cases hkl:k < l.length
 ·have d1:decide ((k:Int) < (l.length:Int))=true:=decide_eq_true (by omega)
  have e9:=k9 k (by omega)
  obtain ⟨x,hx⟩:∃ x,l.getD k 0=x:=⟨_,rfl⟩
  obtain ⟨hx0,hxl⟩:=ok.mem x (by rw [← hx];exact wC hkl)
  obtain ⟨i,rfl⟩:∃ i:Nat,x=i:=⟨x.toNat,by omega⟩
  have i0:((i:Int)).toNat=i:=rfl
  rw [i0] at hxl
  obtain ⟨y,hy⟩:∃ y,(wE c.sold).getD i 0=y:=⟨_,rfl⟩
  have hS:(xB c l).take (k+1)=(xB c l).take k++[y]:=by
   rw [List.take_succ_eq_append_getElem (by rw [hsl];exact hkl)]
   congr 2
   unfold xB
   rw [List.getElem_map]
   rw [show l[k]=(i:Int) by rw [← hx];simp [List.getD_eq_getElem?_getD,hkl]]
   exact hy
  have hl1:((xB c l).take k).length+1≤maxLen:=by rw [List.length_take];omega
  have hl2:((xB c l).take k).length≤2:=by rw [List.length_take];omega
  repeat' (first|(apply nx;with_reducible constructor)|refine jq (by decide) ?_|((first|refine kz env fun Q hQ=>?_|refine kj fun Q hQ=>?_);simp only [vkt,seval,ZQ,kH,qf,qh,mvS,qg,d1,e9,hx,hy,i0,hxl,hl1,ite_and];(repeat' first|with_reducible assumption|apply kk|intro hp);all_goals (first|(refine hQ _ ?_;clear hQ Q)|(refine hQ _ (fun h=>?_) (fun h=>?_) <;> clear hQ Q <;> (try simp only [reduceCtorEq] at h))|(refine kx ?_;kernel_rfl)|omega|assumption|with_reducible rfl|skip)))
  refine ⟨⟨k+1,hkl⟩,by show l.length - (k+1) < l.length - k;omega, ?_⟩
  show Le _ (mvS c a o l (k+1))
  unfold mvS
  rw [hS]
  (refine Le.ok (fun i=>if i=6 then some 8 else some i) [] ?_;constructor;all_goals (try simp only [vle,vkt,seval,kH,qf,qh,qg]))
  all_goals first|rfl|(rw [List.map_append];rfl)|(simp;done)|(intro i hi;rw [if_neg (by omega)];done)
 ·have d1:decide ((k:Int) < (l.length:Int))=false:=decide_eq_false (by omega)
  obtain rfl:k=l.length:=by omega
  have htk:(xB c l).take l.length=xB c l:=List.take_of_length_le (by omega)
  cases W with
  |none =>
   repeat' (first|(apply nx;with_reducible constructor)|refine jq (by decide) ?_|((first|refine kz env fun Q hQ=>?_|refine kj fun Q hQ=>?_);simp only [vkt,seval,ZQ,kH,jP,mTk,qf,qh,qJ,mvS,qg,Jk,d1,htk,hsl,hsh,hW,Option.getD_none,Option.isSome_none,ite_and];(repeat' first|with_reducible assumption|apply kk|intro hp);all_goals (first|(refine hQ _ ?_;clear hQ Q)|(refine hQ _ (fun h=>?_) (fun h=>?_) <;> clear hQ Q <;> (try simp only [reduceCtorEq] at h))|(refine kx ?_;kernel_rfl)|omega|assumption|with_reducible rfl|skip)))
   ·exact ⟨_,_,rfl⟩
   (simp only [vrt,Tryz.results65,vkt,seval,kH,qf,qh,qg];refine Fin.ok some [] ?_ ?_ ?_ ?_ ?_ rfl;all_goals (try simp only [vle,vkt,seval]))
   all_goals first|rfl|(simp;done)|exact fun i hi=>(match i,hi with|0,_=>rfl|1,_=>rfl)
  |some t =>
   repeat' (first|(apply nx;with_reducible constructor)|refine jq (by decide) ?_|((first|refine kz env fun Q hQ=>?_|refine kj fun Q hQ=>?_);simp only [vkt,seval,ZQ,kH,jP,mTk,qf,qh,qJ,mvS,qg,Jk,d1,htk,hsl,hsh,hW,ite_and];(repeat' first|with_reducible assumption|apply kk|intro hp);all_goals (first|(refine hQ _ ?_;clear hQ Q)|(refine hQ _ (fun h=>?_) (fun h=>?_) <;> clear hQ Q <;> (try simp only [reduceCtorEq] at h))|(refine kx ?_;kernel_rfl)|omega|assumption|with_reducible rfl|skip)))
   ·exact ⟨_,_,rfl⟩
   (simp only [vrt,Tryz.results65,vkt,seval,kH,qf,qh,qg];refine Fin.ok some [] ?_ ?_ ?_ ?_ ?_ rfl;all_goals (try simp only [vle,vkt,seval]))
   all_goals first|rfl|(simp;done)|exact fun i hi=>(match i,hi with|0,_=>rfl|1,_=>rfl)
def K5:=kk @ty3 (kk @yf (kk @ti3.eq_1 @jK.eq_1))
theorem QeK (xs:List (List DV)) (h1:ze 1 xs) (h2:xs.length≤100000):Fn noB Tryz.prog 110 [.sl xs] noH (.row 0) (qc [(0,.row 3 1 xs)]) 0:=by
 have env:Env (fun _=>True) Tryz.prog tyB (tab []):=qA trivial
 obtain ⟨b1,b2,b3,b5,b4⟩:=b47 h2
 refine Fn.of (A:=fun _=>True) (n0:=0) (D:=noD) (Fn0 Tryz.func110 rfl (fun vs w=>by kernel_rfl) (by kernel_rfl)) (by simp) (by simp [AV.ids]) (fun i o h=>by cases h) (fun _ _ _ _=>trivial) qw ?_
 repeat' (first|(apply nx;with_reducible constructor)|refine jq (by decide) ?_)
 (refine kz env fun Q hQ=>?_;simp only [vkt,seval,ite_and];(repeat' first|with_reducible assumption|apply kk|intro hp);all_goals (first|(refine hQ _ ?_;clear hQ Q)|(refine kx ?_;kernel_rfl)|omega|assumption|with_reducible rfl|skip))
 repeat' (first|(apply nx;with_reducible constructor)|refine jq (by decide) ?_)
 refine kL (d1:=3) (d2:=4) (t:=26) (e:=3) (x:=.tmp 0) (xs:=xs) rfl rfl rfl rfl rfl rfl Tryz.underlying26 rfl fun b hb=>?_
 repeat' (first|(apply nx;with_reducible constructor)|refine jq (by decide) ?_)
 (refine wQ (by simp only [vkt,seval];rfl) (fun h=>?_) (fun h=>?_) <;> (try simp only [vki,reduceCtorEq] at h))
 ·have hx:=hb h
  subst hx
  repeat' (first|(apply nx;with_reducible constructor)|refine jq (by decide) ?_|((first|refine kz env fun Q hQ=>?_|refine kj fun Q hQ=>?_);simp only [vkt,seval,ite_and];(repeat' first|with_reducible assumption|apply kk|intro hp);all_goals (first|(refine hQ _ ?_;clear hQ Q)|(refine hQ _ (fun h=>?_) (fun h=>?_) <;> clear hQ Q <;> (try simp only [vki,reduceCtorEq] at h))|(refine kx ?_;kernel_rfl)|omega|assumption|with_reducible rfl|skip)))
  (simp only [vrt,Tryz.results110,vkt,seval];refine Fin.ok (fun _=>none) [] ?_ ?_ ?_ ?_ ?_ rfl;all_goals (try simp only [vle,vkt,seval]))
  all_goals simp
 ·repeat' (first|(apply nx;with_reducible constructor)|refine jq (by decide) ?_|((first|refine kz env fun Q hQ=>?_|refine kj fun Q hQ=>?_);simp only [vkt,seval,K5,ite_and];(repeat' first|with_reducible assumption|apply kk|intro hp);all_goals (first|(refine hQ _ ?_;clear hQ Q)|(refine hQ _ (fun h=>?_) (fun h=>?_) <;> clear hQ Q <;> (try simp only [vki,reduceCtorEq] at h))|(refine kx ?_;kernel_rfl)|omega|assumption|with_reducible rfl|skip)))
  (simp only [vrt,Tryz.results110,vkt,seval];refine Fin.ok some [] ?_ ?_ ?_ ?_ ?_ rfl;all_goals (try simp only [vle,vkt,seval]))
  all_goals simp
def Z0 (_:St):List AV→Option Pk
 |[.sl xs]=>some { pre:=ze 1 xs∧xs.length≤100000,ar:=[.sl xs],v:=.row 0,L1:=[some (.row 3 1 xs)] }
 |_=>none
theorem Qcw {A:Frm→Prop}:qm A Tryz.prog 110 (fnE Z0):=qZ fun S bs q h hp=>by
 unfold Z0 at h
 split at h
 ·cases h;exact QeK _ hp.1 hp.2
 ·cases h
theorem fsr {α:Type} {g:Nat→Option α} {k N:Nat} (h:∀ j,j < k→g j=none) (hk:k < N) {t:α} (ht:g k=some t):(List.range N).findSome? g=some t:=by
 rw [show N=k+(N - k) by omega,List.range_add,List.findSome?_append]
 rw [show (List.range k).findSome? g=none from List.findSome?_eq_none_iff.2 fun j hj=>h j (List.mem_range.1 hj)]
 rw [show N - k=(N - k - 1)+1 by omega,List.range_succ_eq_map]
 simp [ht]
theorem QaI {α:Type} {g:Nat→Option α} {N:Nat} (h:∀ j,j < N→g j=none):(List.range N).findSome? g=none:=List.findSome?_eq_none_iff.2 fun j hj=>h j (List.mem_range.1 hj)
def lsG (c:Chart) (a:Ask) (l:List Int):Option (List Int × List Tr):=(mvW c a l).map fun t=>(l,t)
def lsF (c:Chart) (a:Ask) (m:Nat) (l:List Int) (f:Nat):Option (List Int × List Tr):=(vQ (wE c.sold).length m l f).findSome? (lsG c a)
theorem QfV (c:Chart) (a:Ask) (l:List Int) (f:Nat):lsF c a 0 l f=lsG c a l:=by
 unfold lsF
 rw [vQ]
 cases h:lsG c a l <;> simp [h]
theorem Rn {α β γ:Type} (f:α→List β) (g:β→Option γ):∀ l:List α,(l.flatMap f).findSome? g=l.findSome? fun a=>(f a).findSome? g
 |[]=>rfl
 |a :: l=>by rw [List.flatMap_cons,List.findSome?_append,List.findSome?_cons,Rn f g l];cases (f a).findSome? g <;> rfl
theorem Qg8 (c:Chart) (a:Ask) (m:Nat) (l:List Int) (f:Nat):lsF c a (m+1) l f=(List.range ((wE c.sold).length - f)).findSome? fun k=>lsF c a m (l++[((f+k:Nat):Int)]) (f+k+1):=by
 unfold lsF
 rw [vQ,Rn]
structure LsOk (c:Chart) (a:Ask) (l:List Int) (f m:Nat):Prop where
 val:Val c
 sx:a.sexes.length≤3
 len:l.length+m≤2
 from':f≤(wE c.sold).length∨m=0
 mem:∀ i ∈ l,0≤i∧i.toNat < (wE c.sold).length
def lsL (c:Chart) (a:Ask) (many:Nat) (o:Option (List Int × List Tr)):List AObj:=[qf c.cabins c.secs 1,qh c.sold,.cells [.ptr 0 0],.cells [.sl ((wE c.sold).map qU)],.cells (qg a),.cells [.sl (((o.map (·.2)).getD []).map eTr)],
 .cells [aI many],.cells [.clo 65 [.ptr 3 0,.ptr 2 0,.ptr 4 0,.ptr 5 0]],.cells [.sl (((o.map (·.1)).getD []).map qU)],.cells [aB o.isSome],.cells [aI (wE c.sold).length],.cells [.clo 109 [.ptr 6 0,.ptr 7 0,.ptr 8 0,.ptr 9 0,.ptr 10 0,.ptr 11 0]]]
theorem Qc4 {c:Chart} {a:Ask} {many:Nat} {o:Option (List Int × List Tr)}:∀ i ob,qc (qD 0 (lsL c a many o)) i=some ob→i < 12∧∀ id ∈ ob.ids,id < 12:=by
 intro i ob hi
 have h:=qF hi
 simp [qD,lsL] at h
 rcases h with ⟨rfl,rfl⟩|⟨rfl,rfl⟩|⟨rfl,rfl⟩|⟨rfl,rfl⟩|⟨rfl,rfl⟩|⟨rfl,rfl⟩|⟨rfl,rfl⟩|⟨rfl,rfl⟩|⟨rfl,rfl⟩|⟨rfl,rfl⟩|⟨rfl,rfl⟩|⟨rfl,rfl⟩ <;> simp [AObj.ids,AV.ids,AV.idsL,qf,qh,qg,aI,aB]
def LsFn (c:Chart) (a:Ask) (many m:Nat):Prop:=∀ (l:List Int) (f:Nat),l.length+m=many→LsOk c a l f m →
 Fn noB Tryz.prog 109 [ql l,aI f,.ptr 6 0,.ptr 7 0,.ptr 8 0,.ptr 9 0,.ptr 10 0,.ptr 11 0] (qc (qD 0 (lsL c a many none))) (.tup []) (qc (zm 0 ((lsL c a many (lsF c a m l f)).map some))) 0
def Qgt (c:Chart) (a:Ask) (S:St):List AV→Option Pk
 |[.sl xs,.ptr p3 0,.ptr p2 0,.ptr p4 0,.ptr p5 0]=>match S.h p2,S.h p5 with
  |some (.cells [.ptr p0 0]),some (.cells [.sl os])=>match S.h p0 with
   |some (.cells [_,_,.row p1])=>some { pre:=xs=(xs.map qM).map qU∧os=(os.map dTr).map eTr∧MvOk c a (xs.map qM),hs:=[p0,p1,p2,p3,p4,p5],ar:=[.sl xs,.ptr 3 0,.ptr 2 0,.ptr 4 0,.ptr 5 0],L0:=mvL c a (os.map dTr),v:=aB (mvW c a (xs.map qM)).isSome,L1:=(mvL c a ((mvW c a (xs.map qM)).getD (os.map dTr))).map some }
   |_=>none
  |_,_=>none
 |_=>none
theorem eMv1 {A:Frm→Prop} {c:Chart} {a:Ask}:qm A Tryz.prog 65 (fnE (Qgt c a)):=qZ fun S bs q h hp=>by
 unfold Qgt at h
 split at h
 ·split at h
  ·split at h
   ·cases h
    obtain ⟨h1,h2,h3⟩:=hp
    have:=QlN c a (List.map dTr (by assumption)) _ h3
    rw [ql,← h1] at this
    exact this
   ·cases h
  ·cases h
 ·cases h
def pLs1 (c:Chart) (a:Ask) (many m:Nat) (S:St):List AV→Option Pk
 |[.row q,.v (.int .i64 f),.ptr p6 0,.ptr p7 0,.ptr p8 0,.ptr p9 0,.ptr p10 0,.ptr p11 0]=>match S.h q,S.h p7 with
  |some (.row _ _ xs),some (.cells [.clo _ [.ptr p3 0,.ptr p2 0,.ptr p4 0,.ptr p5 0]])=>match S.h p2 with
   |some (.cells [.ptr p0 0])=>match S.h p0 with
    |some (.cells [_,_,.row p1])=>some { pre:=xs=(xs.map qM).map qU∧f=(f.toNat:Int)∧(xs.map qM).length+m=many∧LsOk c a (xs.map qM) f.toNat m,hs:=[p0,p1,p2,p3,p4,p5,p6,p7,p8,p9,p10,p11],bo:=[q],ar:=[.sl xs,.v (.int .i64 f),.ptr 6 0,.ptr 7 0,.ptr 8 0,.ptr 9 0,.ptr 10 0,.ptr 11 0],L0:=lsL c a many none,v:=.tup [],L1:=(lsL c a many (lsF c a m (xs.map qM) f.toNat)).map some }
    |_=>none
   |_=>none
  |_,_=>none
 |_=>none
theorem eLs1 {A:Frm→Prop} {c:Chart} {a:Ask} {many m:Nat} (ih:LsFn c a many m):qm A Tryz.prog 109 (fnE (pLs1 c a many m)):=qZ fun S bs q h hp=>by
 unfold pLs1 at h
 split at h
 ·split at h
  ·split at h
   ·split at h
    ·cases h
     obtain ⟨h1,h2,h3,h4⟩:=hp
     have:=ih _ _ h3 h4
     rw [ql,← h1,aI,← h2] at this
     exact this
    ·cases h
   ·cases h
  ·cases h
 ·cases h
def lsS (c:Chart) (a:Ask) (many:Nat) (l:List Int) (i:Nat) (o:Option (List Int × List Tr)):St:={ t:=asg [(0,ql l),(2,.ptr 6 0),(3,.ptr 7 0),(4,.ptr 8 0),(5,.ptr 9 0),(6,.ptr 10 0),(7,.ptr 11 0),(10,aI i)],h:=qc [(0,qf c.cabins c.secs 1),(1,qh c.sold),(2,.cells [.ptr 0 0]),(3,.cells [.sl ((wE c.sold).map qU)]),(4,.cells (qg a)),(5,.cells [.sl (((o.map (·.2)).getD []).map eTr)]),
 (6,.cells [aI many]),(7,.cells [.clo 65 [.ptr 3 0,.ptr 2 0,.ptr 4 0,.ptr 5 0]]),(8,.cells [.sl (((o.map (·.1)).getD []).map qU)]),(9,.cells [aB o.isSome]),(10,.cells [aI (wE c.sold).length]),(11,.cells [.clo 109 [.ptr 6 0,.ptr 7 0,.ptr 8 0,.ptr 9 0,.ptr 10 0,.ptr 11 0]])],n:=12,m:=12 }
def jc:=kk @ty3 (kk @ty4 (kk @yf (kk @QkJ (kk @QcC (kk @ti3.eq_1 (kk @ti4.eq_1 (kk @jK.eq_1 (kk @QaA.eq_1 @Y7.eq_1))))))))
def jH:=kk @aI.eq_1 (kk @aB.eq_1 (kk @ql.eq_1 (kk @qU.eq_1 (kk @JN (kk @Xw (@jJ))))))
set_option maxHeartbeats 2000000 in
theorem X4 (c:Chart) (a:Ask) (many m:Nat) (ih:∀ m',m=m'+1→LsFn c a many m'):LsFn c a many m:=by
 intro l f hlm ok
 have hlen:=ok.len
 have hlo:=Qgq c.sold
 have hv8:=ok.val.many
 have hmx:(100000:Nat)≤maxLen:=by decide
 have hmm:l.length≤100000:=by omega
 have hml1:l.length+1≤maxLen:=by omega
 obtain ⟨n,hn⟩:∃ n,(wE c.sold).length=n:=⟨_,rfl⟩
 rw [hn] at hlo
 cases m with
 |zero =>
  have env:Env (fun _=>True) Tryz.prog tyB (tab [(65,fnE (Qgt c a))]):=qA ⟨eMv1,trivial⟩
  refine Fn.of (A:=fun _=>True) (n0:=12) (D:=noD) (Fn0 Tryz.func109 rfl (fun vs w=>by kernel_rfl) (by kernel_rfl)) (by simp) (by simp [AV.ids,ql,aI]) Qc4 (fun _ _ _ _=>trivial) qw ?_
  have hmv:MvOk c a l:=⟨ok.val,ok.sx,by omega,ok.mem⟩
  have d0:decide ((l.length:Int)=(many:Int))=true:=decide_eq_true (by omega)
  rw [QfV]
  show Sym _ _ _ (qX [ql l,aI f,.ptr 6 0,.ptr 7 0,.ptr 8 0,.ptr 9 0,.ptr 10 0,.ptr 11 0] 12 (lsS c a many l f none).h) (wK tyB noD Tryz.f109 fun S rv=>Fin S rv _ 12 (lsS c a many l f (lsG c a l)).h 0)
  unfold lsG
  cases hW:mvW c a l with
  |none =>
   repeat' (first|(apply nx;with_reducible constructor)|refine jq (by decide) ?_|((first|refine kz env fun Q hQ=>?_|refine kj fun Q hQ=>?_);simp only [vkt,seval,jc,jH,qf,qh,mvL,lsS,qg,Qgt,d0,hmv,hW,Option.getD_none,Option.isSome_none,ite_and];(repeat' first|with_reducible assumption|apply kk|intro hp);all_goals (first|(refine hQ _ ?_;clear hQ Q)|(refine hQ _ (fun h=>?_) (fun h=>?_) <;> clear hQ Q <;> (try simp only [reduceCtorEq] at h))|(refine kx ?_;kernel_rfl)|omega|assumption|with_reducible rfl|skip)))
   (simp only [vrt,Tryz.results109,vkt,seval,jH,qf,qh,lsS,qg];refine Fin.ok some [] ?_ ?_ ?_ ?_ ?_ rfl;all_goals (try simp only [vle,vkt,seval]))
   all_goals (try simp only [Option.getD_none,Option.isSome_none])
   all_goals first|rfl|simp
  |some t =>
   repeat' (first|(apply nx;with_reducible constructor)|refine jq (by decide) ?_|((first|refine kz env fun Q hQ=>?_|refine kj fun Q hQ=>?_);simp only [vkt,seval,jc,jH,qf,qh,mvL,lsS,qg,Qgt,d0,hmv,hW,Option.getD_none,Option.isSome_none,ite_and];(repeat' first|with_reducible assumption|apply kk|intro hp);all_goals (first|(refine hQ _ ?_;clear hQ Q)|(refine hQ _ (fun h=>?_) (fun h=>?_) <;> clear hQ Q <;> (try simp only [reduceCtorEq] at h))|(refine kx ?_;kernel_rfl)|omega|assumption|with_reducible rfl|skip)))
   (simp only [vrt,Tryz.results109,vkt,seval,jH,qf,qh,lsS,qg];refine Fin.ok some [] ?_ ?_ ?_ ?_ ?_ rfl;all_goals (try simp only [vle,vkt,seval]))
   all_goals (try simp only [Option.getD_some,Option.isSome_some,Option.map_some])
   all_goals first|rfl|simp
 |succ m =>
  have env:Env (fun _=>True) Tryz.prog tyB (tab [(110,fnE Z0),(109,fnE (pLs1 c a many m))]):=qA ⟨Qcw,eLs1 (ih m rfl),trivial⟩
  refine Fn.of (A:=fun _=>True) (n0:=12) (D:=noD) (Fn0 Tryz.func109 rfl (fun vs w=>by kernel_rfl) (by kernel_rfl)) (by simp) (by simp [AV.ids,ql,aI]) Qc4 (fun _ _ _ _=>trivial) qw ?_
  have d0:decide ((l.length:Int)=(many:Int))=false:=decide_eq_false (by omega)
  have hfn:f≤n:=by have:=ok.from';omega
  rw [Qg8,hn]
  obtain ⟨g,hg⟩:∃ g:Nat→Option (List Int × List Tr),(fun k=>lsF c a m (l++[((f+k:Nat):Int)]) (f+k+1))=g:=⟨_,rfl⟩
  rw [hg]
  show Sym _ _ _ (qX [ql l,aI f,.ptr 6 0,.ptr 7 0,.ptr 8 0,.ptr 9 0,.ptr 10 0,.ptr 11 0] 12 (lsS c a many l f none).h) (wK tyB noD Tryz.f109 fun S rv=>Fin S rv _ 12 (lsS c a many l f ((List.range (n - f)).findSome? g)).h 0)
  repeat' (first|(apply nx;with_reducible constructor)|refine jq (by decide) ?_|((first|refine kz env fun Q hQ=>?_|refine kj fun Q hQ=>?_);simp only [vkt,seval,jc,jH,qf,qh,lsS,qg,d0,Option.getD_none,Option.isSome_none,ite_and];(repeat' first|with_reducible assumption|apply kk|intro hp);all_goals (first|(refine hQ _ ?_;clear hQ Q)|(refine hQ _ (fun h=>?_) (fun h=>?_) <;> clear hQ Q <;> (try simp only [reduceCtorEq] at h))|(refine kx ?_;kernel_rfl)|omega|assumption|with_reducible rfl|skip)))
  refine qC (fun x:{ x:Nat × Option (List Int × List Tr) // x.1≤n - f∧((x.2=none∧∀ j,j < x.1→g j=none)∨∃ t,x.2=some t∧(List.range (n - f)).findSome? g=some t) }=>lsS c a many l (f+x.1.1) x.1.2) (fun x=>n - f - x.1.1) ⟨(0,none),Nat.zero_le _,.inl ⟨rfl,fun j h=>absurd h (Nat.not_lt_zero _)⟩⟩ ?_ fun ⟨(k,o),hk,ho⟩=>?_
  ·show Le _ (lsS c a many l f none)
   unfold lsS
   (refine Le.ok some [] ?_;constructor;all_goals (try simp only [vle,vkt,seval,jH,qf,qh,qg]))
   all_goals first|rfl|simp
  simp only at hk ho ⊢
  rcases ho with ⟨rfl,hno⟩|⟨t,rfl,ht⟩
  ·by_cases hkl:k < n - f
   ·have d1:decide (((f+k:Nat):Int) < (n:Int))=true:=decide_eq_true (by omega)
    have w1:IntKind.wrap .i64 (((f+k:Nat):Int)+1)=((f+k+1:Nat):Int):=by rw [wrap64 (by omega) (by omega)];rfl
    have hla:l.map qU++[[.v (.int .i64 ((f+k:Nat):Int))]]=(l++[((f+k:Nat):Int)]).map qU:=by rw [List.map_append];rfl
    have hll:(l++[((f+k:Nat):Int)]).length=l.length+1:=by simp
    have hnm:l.length+1+m=many:=by omega
    have i0:(((f+k+1:Nat):Int)).toNat=f+k+1:=rfl
    have hok:LsOk c a (l++[((f+k:Nat):Int)]) (f+k+1) m:=⟨ok.val,ok.sx,by rw [hll];omega,.inl (by omega),fun i hi=>by
     rcases List.mem_append.1 hi with hi|hi
     ·exact ok.mem i hi
     ·rw [List.mem_singleton.1 hi,hn];omega⟩
    obtain ⟨o',ho'⟩:∃ o',lsF c a m (l++[((f+k:Nat):Int)]) (f+k+1)=o':=⟨_,rfl⟩
    have hgk:g k=o':=by rw [← hg];exact ho'
    repeat' (first|(apply nx;with_reducible constructor)|refine jq (by decide) ?_|((first|refine kz env fun Q hQ=>?_|refine kj fun Q hQ=>?_);simp only [vkt,seval,jc,jH,qf,qh,lsL,lsS,qg,pLs1,Z0,hn,d1,w1,hla,hll,hnm,i0,hok,ho',hmm,hml1,Option.getD_none,Option.isSome_none,ite_and];(repeat' first|with_reducible assumption|apply kk|intro hp);all_goals (first|(refine hQ _ ?_;clear hQ Q)|(refine hQ _ (fun h=>?_) (fun h=>?_) <;> clear hQ Q <;> (try simp only [reduceCtorEq] at h))|(refine kx ?_;kernel_rfl)|omega|assumption|with_reducible rfl|skip)))
    ·exact ⟨_,_,rfl⟩
    refine ⟨⟨(k+1,o'),by show k+1≤n - f;omega, ?_⟩,by show n - f - (k+1) < n - f - k;omega, ?_⟩
    ·cases o' with
     |none =>
      refine .inl ⟨rfl,fun j hj=>?_⟩
      rcases Nat.lt_or_eq_of_le (Nat.le_of_lt_succ hj) with h1|h1
      ·exact hno j h1
      ·rw [h1];exact hgk
     |some t=>exact .inr ⟨t,rfl,fsr hno hkl hgk⟩
    ·show Le _ (lsS c a many l (f+k+1) o')
     unfold lsS
     rw [hn]
     (refine Le.ok some [] ?_;constructor;all_goals (try simp only [vle,vkt,seval,jH,qf,qh,qg]))
     all_goals first|rfl|simp
   ·have d1:decide (((f+k:Nat):Int) < (n:Int))=false:=decide_eq_false (by omega)
    rw [QaI (fun j hj=>hno j (by omega))]
    repeat' (first|(apply nx;with_reducible constructor)|refine jq (by decide) ?_|((first|refine kz env fun Q hQ=>?_|refine kj fun Q hQ=>?_);simp only [vkt,seval,jc,jH,qf,qh,lsS,qg,hn,d1,Option.getD_none,Option.isSome_none,ite_and];(repeat' first|with_reducible assumption|apply kk|intro hp);all_goals (first|(refine hQ _ ?_;clear hQ Q)|(refine hQ _ (fun h=>?_) (fun h=>?_) <;> clear hQ Q <;> (try simp only [reduceCtorEq] at h))|(refine kx ?_;kernel_rfl)|omega|assumption|with_reducible rfl|skip)))
    (simp only [vrt,Tryz.results109,vkt,seval,jH,qf,qh,lsS,qg];refine Fin.ok some [] ?_ ?_ ?_ ?_ ?_ rfl;all_goals (try simp only [vle,vkt,seval]))
    all_goals (try simp only [hn,Option.getD_none,Option.isSome_none])
    all_goals first|rfl|simp
  ·rw [ht]
   by_cases hkl:f+k < n
   ·have d1:decide (((f+k:Nat):Int) < (n:Int))=true:=decide_eq_true (by omega)
    repeat' (first|(apply nx;with_reducible constructor)|refine jq (by decide) ?_|((first|refine kz env fun Q hQ=>?_|refine kj fun Q hQ=>?_);simp only [vkt,seval,jc,jH,qf,qh,lsS,qg,hn,d1,ite_and];(repeat' first|with_reducible assumption|apply kk|intro hp);all_goals (first|(refine hQ _ ?_;clear hQ Q)|(refine hQ _ (fun h=>?_) (fun h=>?_) <;> clear hQ Q <;> (try simp only [reduceCtorEq] at h))|(refine kx ?_;kernel_rfl)|omega|assumption|with_reducible rfl|skip)))
    (simp only [vrt,Tryz.results109,vkt,seval,jH,qf,qh,lsS,qg];refine Fin.ok some [] ?_ ?_ ?_ ?_ ?_ rfl;all_goals (try simp only [vle,vkt,seval]))
    all_goals (try simp only [hn])
    all_goals first|rfl|simp
   ·have d1:decide (((f+k:Nat):Int) < (n:Int))=false:=decide_eq_false (by omega)
    repeat' (first|(apply nx;with_reducible constructor)|refine jq (by decide) ?_|((first|refine kz env fun Q hQ=>?_|refine kj fun Q hQ=>?_);simp only [vkt,seval,jc,jH,qf,qh,lsS,qg,hn,d1,ite_and];(repeat' first|with_reducible assumption|apply kk|intro hp);all_goals (first|(refine hQ _ ?_;clear hQ Q)|(refine hQ _ (fun h=>?_) (fun h=>?_) <;> clear hQ Q <;> (try simp only [reduceCtorEq] at h))|(refine kx ?_;kernel_rfl)|omega|assumption|with_reducible rfl|skip)))
    (simp only [vrt,Tryz.results109,vkt,seval,jH,qf,qh,lsS,qg];refine Fin.ok some [] ?_ ?_ ?_ ?_ ?_ rfl;all_goals (try simp only [vle,vkt,seval]))
    all_goals (try simp only [hn])
    all_goals first|rfl|simp
theorem Vm (c:Chart) (a:Ask) (many:Nat):∀ m,LsFn c a many m
 |0=>X4 c a many 0 fun _ h=>by omega
 |m+1=>X4 c a many (m+1) fun m' h=>by
   obtain rfl:m=m':=by omega
   exact Vm c a many m
def pLs0 (c:Chart) (a:Ask) (many:Nat) (S:St):List AV→Option Pk
 |[.nil,.v (.int .i64 f),.ptr p6 0,.ptr p7 0,.ptr p8 0,.ptr p9 0,.ptr p10 0,.ptr p11 0]=>match S.h p7 with
  |some (.cells [.clo _ [.ptr p3 0,.ptr p2 0,.ptr p4 0,.ptr p5 0]])=>match S.h p2 with
   |some (.cells [.ptr p0 0])=>match S.h p0 with
    |some (.cells [_,_,.row p1])=>some { pre:=f=0∧LsOk c a [] 0 many,hs:=[p0,p1,p2,p3,p4,p5,p6,p7,p8,p9,p10,p11],ar:=[.sl [],.v (.int .i64 0),.ptr 6 0,.ptr 7 0,.ptr 8 0,.ptr 9 0,.ptr 10 0,.ptr 11 0],L0:=lsL c a many none,v:=.tup [],L1:=(lsL c a many (lsF c a many [] 0)).map some }
    |_=>none
   |_=>none
  |_=>none
 |_=>none
theorem eLs0 {A:Frm→Prop} {c:Chart} {a:Ask} {many:Nat}:qm A Tryz.prog 109 (fnE (pLs0 c a many)):=qZ fun S bs q h hp=>by
 unfold pLs0 at h
 split at h
 ·split at h
  ·split at h
   ·split at h
    ·cases h
     exact Vm c a many many [] 0 (by simp) hp.2
    ·cases h
   ·cases h
  ·cases h
 ·cases h
def Qah:=kk @ty3 (kk @ty4 (kk @yf (kk @QcC (kk @ti3.eq_1 (kk @ti4.eq_1 (kk @jK.eq_1 @Y7.eq_1))))))
def Qda:=kk @aI.eq_1 (kk @aB.eq_1 (kk @ql.eq_1 (kk @qU.eq_1 (kk @Xw (@jJ)))))
set_option maxHeartbeats 1000000 in
theorem Qh2 (c:Chart) (a:Ask) (many:Nat) (ok:LsOk c a [] 0 many):Fn noB Tryz.prog 64 [aI (wE c.sold).length,aI many,.clo 65 [.ptr 3 0,.ptr 2 0,.ptr 4 0,.ptr 5 0]] (qc (qD 0 (mvL c a []))) (.tup [ql (((lsF c a many [] 0).map (·.1)).getD []),aB (lsF c a many [] 0).isSome]) (qc (zm 0 ((mvL c a (((lsF c a many [] 0).map (·.2)).getD [])).map some))) 0:=by
 have env:Env (fun _=>True) Tryz.prog tyB (tab [(109,fnE (pLs0 c a many))]):=qA ⟨eLs0,trivial⟩
 refine Fn.of (A:=fun _=>True) (n0:=6) (D:=noD) (Fn0 Tryz.func64 rfl (fun vs w=>by kernel_rfl) (by kernel_rfl)) (by simp) (by simp [AV.ids,AV.idsL,aI]) Qc3 (fun _ _ _ _=>trivial) qw ?_
 obtain ⟨o,ho⟩:∃ o,lsF c a many [] 0=o:=⟨_,rfl⟩
 rw [ho]
 show Sym _ _ _ (qX [aI (wE c.sold).length,aI many,.clo 65 [.ptr 3 0,.ptr 2 0,.ptr 4 0,.ptr 5 0]] 6 (qc [(0,qf c.cabins c.secs 1),(1,qh c.sold),(2,.cells [.ptr 0 0]),(3,.cells [.sl ((wE c.sold).map qU)]),(4,.cells (qg a)),(5,.cells [.sl []])])) (wK tyB noD Tryz.f64 fun S rv=>Fin S rv _ 6 (qc [(0,qf c.cabins c.secs 1),(1,qh c.sold),(2,.cells [.ptr 0 0]),(3,.cells [.sl ((wE c.sold).map qU)]),(4,.cells (qg a)),(5,.cells [.sl (((o.map (·.2)).getD []).map eTr)])]) 0)
 repeat' (first|(apply nx;with_reducible constructor)|refine jq (by decide) ?_|((first|refine kz env fun Q hQ=>?_|refine kj fun Q hQ=>?_);simp only [vkt,seval,Qah,Qda,qf,qh,lsL,qg,pLs0,ho,ok,Option.getD_none,Option.isSome_none,ite_and];(repeat' first|with_reducible assumption|apply kk|intro hp);all_goals (first|(refine hQ _ ?_;clear hQ Q)|(refine hQ _ (fun h=>?_) (fun h=>?_) <;> clear hQ Q <;> (try simp only [vki,reduceCtorEq] at h))|(refine kx ?_;kernel_rfl)|omega|assumption|with_reducible rfl|skip)))
 (simp only [vrt,Tryz.results64,vkt,seval,Qda,qf,qh,qg];refine Fin.ok some [] ?_ ?_ ?_ ?_ ?_ rfl;all_goals (try simp only [vle,vkt,seval]))
 all_goals first|rfl|(simp;done)|exact fun i hi=>(match i,hi with|0,_=>rfl|1,_=>rfl)
theorem QeY (c:Chart) (a:Ask) (m:Nat):JC c a m=(lsF c a m [] 0).map (·.2):=by
 unfold JC lsF
 generalize vQ (wE c.sold).length m [] 0=L
 induction L with
 |nil=>rfl
 |cons l L ih =>
  rw [List.findSome?_cons,List.findSome?_cons]
  have hl:lsG c a l=(je c.cabins c.secs a (xB c l) c.sold).map fun t=>(l,t):=rfl
  rw [hl]
  cases je c.cabins c.secs a (xB c l) c.sold with
  |none=>exact ih
  |some t=>rfl
def VL (c:Chart) (a:Ask) (many:Nat) (S:St):List AV→Option Pk
 |[.v (.int .i64 n),.v (.int .i64 m),.clo f [.ptr p3 0,.ptr p2 0,.ptr p4 0,.ptr p5 0]]=>match S.h p2 with
  |some (.cells [.ptr p0 0])=>match S.h p0 with
   |some (.cells [_,_,.row p1])=>some { pre:=n=(wE c.sold).length∧m=(many:Int)∧f=65∧LsOk c a [] 0 many,hs:=[p0,p1,p2,p3,p4,p5],ar:=[aI (wE c.sold).length,aI many,.clo 65 [.ptr 3 0,.ptr 2 0,.ptr 4 0,.ptr 5 0]],L0:=mvL c a [],v:=.tup [ql (((lsF c a many [] 0).map (·.1)).getD []),aB (lsF c a many [] 0).isSome],L1:=(mvL c a (((lsF c a many [] 0).map (·.2)).getD [])).map some }
   |_=>none
  |_=>none
 |_=>none
theorem QlJ {A:Frm→Prop} {c:Chart} {a:Ask} {many:Nat}:qm A Tryz.prog 64 (fnE (VL c a many)):=qZ fun S bs q h hp=>by
 unfold VL at h
 split at h
 ·split at h
  ·split at h
   ·cases h
    exact Qh2 c a many hp.2.2.2
   ·cases h
  ·cases h
 ·cases h
theorem UZ {c:Chart} {a:Ask} (h:zJ c a=0) {t:List Tr} (ht:(List.range 3).findSome? (JC c a)=some t):ku c a=(t,0):=by
 unfold ku
 rw [if_neg (by simpa using h),ht]
theorem Qak {c:Chart} {a:Ask} (h:zJ c a=0) (ht:(List.range 3).findSome? (JC c a)=none):ku c a=([],11):=by
 unfold ku
 rw [if_neg (by simpa using h),ht]
def mdS (c:Chart) (a:Ask) (k:Nat):St:={ t:=asg [(3,.ptr 1 0),(4,.nil),(5,aI 0),(6,.ptr 4 0),(8,.ptr 5 0),(24,aI k)],h:=qc [(1,.cells (qg a)),(2,qf c.cabins c.secs 3),(3,qh c.sold),(4,.cells [.ptr 2 0]),(5,.cells [.sl ((wE c.sold).map qU)])],n:=6 }
def vX:=kk @ty3 (kk @wh (kk @yf (kk @jL (kk @x8 (kk @Qfm (kk @Qfa (kk @QZ (kk @ti3.eq_1 (kk @zQ.eq_1 (kk @jK.eq_1 (kk @wY.eq_1 (kk @vV.eq_1 (kk @RL.eq_1 (kk @K7.eq_1 @kV.eq_1))))))))))))))
def vL:=kk @aI.eq_1 (kk @aB.eq_1 (kk @ql.eq_1 (@jJ)))
end Go.Sym.B
