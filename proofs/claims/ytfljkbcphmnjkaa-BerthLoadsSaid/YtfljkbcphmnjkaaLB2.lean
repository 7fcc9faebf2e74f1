/- Walks and what they compute, joined: part 2. -/
import Derived.Test.YtfljkbcphmnjkaaLS3
import Derived.Test.YtfljkbcphmnjkaaProg
import Derived.KernelRfl
import Derived.Test.YtfljkbcphmnjkaaLB1
set_option linter.all false
namespace Go.Sym.B
open Go Go.Sym Go.Proofs Go.Sym.C
theorem Qbp {cs:List Cabin} {s:Int} {a:Ask} {m:Nat} {sold:List Tk} {begun:List Bunk} {ys:Nat→List AV} {hl:Nat→List AObj} {ans:Nat→Bool} {R:Nat} (ok:GrowOk cs s a (m+1) sold begun ys hl ans R) {i o:Nat} {b:Bunk} (hi:i < (qQ cs).length) (hb:(qQ cs).getD i default=b)
    (ho:((gsL cs a m sold begun).take i).sum=o) (hg:goB cs a sold begun b=true) {D:Nat} (hr:Rounds (fun j=>ans (o+j)) D (wU cs a m (sold++[Jq a begun.length b]) (begun++[b])).length) :
    GrowOk cs s a m (sold++[Jq a begun.length b]) (begun++[b]) (fun j=>ys (o+j)) (fun j=>hl (o+j)) (fun j=>ans (o+j)) D:=by
  have hgb:gbL cs a m sold begun b=wU cs a m (sold++[Jq a begun.length b]) (begun++[b]):=by unfold gbL;rw [if_pos hg]
  have hlen:∀ j,j < (wU cs a m (sold++[Jq a begun.length b]) (begun++[b])).length→o+j < (wU cs a (m+1) sold begun).length:=fun j hj=>by
    rw [X0,← ho]
    have h1:=Yf (g:=gsL cs a m sold begun) (i:=i) (by simpa [gsL] using hi)
    have h2:=Qc (g:=gsL cs a m sold begun) (show i+1≤(gsL cs a m sold begun).length by simp [gsL];omega)
    rw [List.take_length] at h2
    rw [QeE hi,hb,hgb] at h1
    omega
  have hget:∀ j,j < (wU cs a m (sold++[Jq a begun.length b]) (begun++[b])).length→(wU cs a (m+1) sold begun).getD (o+j) default=(wU cs a m (sold++[Jq a begun.length b]) (begun++[b])).getD j default:=fun j hj=>by
    rw [← ho,Qc3 hi (by rw [hb,hgb];exact hj),hb,hgb]
  have h1:=ok.sz
  have h2:=ok.many
  refine ⟨by simp;omega,ok.sx,ok.cab,ok.c100,by simp;omega,fun x hx=>?_,hr,fun j hj=>?_,fun j hj=>?_⟩
  · rcases List.mem_append.1 hx with hx|hx
    · exact ok.mem x hx
    · rw [List.mem_singleton.1 hx,← hb];exact RX hi
  · show ys (o+j)=_
    rw [ok.ys _ (hlen j hj),hget j hj]
  · show hl (o+j)=_
    rw [ok.hl _ (hlen j hj),hget j hj]
def gwL:List (Nat × AV):=[(4,.ptr 2 0),(5,.ptr 3 0),(6,.ptr 4 0),(7,.ptr 5 0),(8,.ptr 6 0),(25,.clo 123 [.ptr 7 0])]
def gwH (cs:List Cabin) (s:Int) (a:Ask) (sold:List Tk) (begun:List Bunk):List (Nat × AObj):=[(0,qm cs s 1),(1,ql sold),(2,.cells [.ptr 0 0]),(3,.cells (qo a)),(4,.cells [.sl (begun.map qx)]),(5,.cells [.cb]),(6,.cells [aB false])]
theorem QcA (cs:List Cabin) (s:Int):zl [7] 9 0 [buO cs s]=[(7,buO cs s)]:=rfl
def jZ:=kk @aI.eq_1 (kk @aB.eq_1 (kk @WS (kk @U3 (@zX.eq_1))))
theorem QdB (cs:List Cabin) (s:Int) (a:Ask) (m:Nat) (ih:QaW cs s a m):Xf cs s a (m+1):=by
  intro sold begun ys hl ans R ok
  obtain ⟨A0,hA0⟩:∃ A0:Frm→Prop,A0=fun F=>F.r=none∧Acb Try.prog (qg (qO 0 [qm cs s 1])) (qg (qO 0 (qw cs s sold))) ys (fun j=>nth (hl j)) ans R F:=⟨_,rfl⟩
  have hr0:∀ F,A0 F→F.r=none:=fun F h=>by rw [hA0] at h;exact h.1
  have hA:∀ F,A0 F→Acb Try.prog (qg (qO 0 [qm cs s 1])) (qg (qO 0 (qw cs s sold))) ys (fun j=>nth (hl j)) ans R F:=fun F h=>by rw [hA0] at h;exact h.2
  have env:Env A0 Try.prog tyB (tab [(94,fnE qR)]):=qP ⟨RU,trivial⟩
  refine Fn.of (A:=A0) (n0:=2) (D:=noD) (Fn0 Try.func115 rfl (fun vs w=>by kernel_rfl) (by kernel_rfl)) (by simp) (by simp [AV.ids,AV.idsL,qD,qo,qd]) kL (fun F hb h0 h1=>by rw [hA0];exact ⟨h1,h0,Qfj,hb⟩) qF ?_
  have hr:=ok.rounds
  rw [X0] at hr
  have hsz:=ok.sz
  have hsx:=ok.sx
  have d0:decide ((begun.length:Int)=(a.sexes.length:Int))=false:=decide_eq_false (by omega)
  obtain ⟨RB,ansB,hRB,hN,hend,hres⟩:=nest _ hr
  rw [show (gsL cs a m sold begun).length=(qQ cs).length by simp [gsL]] at hRB
  have hRl:=hRB.le
  rw [hres]
  show Sym _ _ _ (zZ [.ptr 0 0,qD a,qd begun,.cb] 2 (qg [(0,qm cs s 1),(1,ql sold)])) (xN tyB noD Try.f115 fun S rv=>Fin S rv _ 2 (qg [(0,qm cs s 1),(1,ql sold)]) R)
  repeat' (first|(apply nx;with_reducible constructor)|refine jq (by decide) ?_|((first|refine kz env fun Q hQ=>?_|refine kj fun Q hQ=>?_);simp only [vkt,seval,zK,jZ,aTk,cTk,qD,qo,qf,qd,qx,zz,zf,mTk,qc,qm,ql,qw,g1L,gwL,gwH,buO,qR,wQ,yP,yS,yR,jF,List.length_map,fnI,ww,qW,nth,hwL,Nat.zero_add,Nat.sub_zero,d0];(try simp only [ite_and]);(repeat' (first|with_reducible assumption|refine And.intro ?_ ?_|intro hp));all_goals (first|(refine hQ _ ?_;clear hQ Q)|(refine hQ _ (fun h=>?_) (fun h=>?_) <;> clear hQ Q <;> (try simp only [vki,reduceCtorEq] at h))|(refine kx ?_;kernel_rfl)|omega|assumption|with_reducible rfl|skip)))
  refine xy (S':={ t:=asg gwL,h:=qg (gwH cs s a sold begun++[(7,buO cs s)]),n:=8,j:=0,d:=[],m:=2 }) ?_ ?_
  · show Le _ { t:=asg [(4,.ptr 2 0),(5,.ptr 3 0),(6,.ptr 4 0),(7,.ptr 5 0),(8,.ptr 6 0),(25,.clo 123 [.ptr 7 0])],h:=qg [(0,qm cs s 1),(1,ql sold),(2,.cells [.ptr 0 0]),(3,.cells (qo a)),(4,.cells [.sl (begun.map qx)]),(5,.cells [.cb]),(6,.cells [aB false]),(7,buO cs s)],n:=8,j:=0,d:=[],m:=2 }
    (refine Le.ok some [] ?_;constructor;all_goals (try simp only [vle,vkt,seval,zK,jZ,aTk,cTk,qD,qo,qf,qd,qx,zz,zf,mTk,qc,qm,ql,qw,g1L,gwL,gwH,buO,qR,wQ,yP,yS,yR,jF,List.length_map,fnI,ww,qW,nth,hwL,Nat.zero_add,Nat.sub_zero]))
    all_goals first|rfl|(simp;done)
  rw [← QcA cs s]
  have ej:(fun i=>min ((gsL cs a m sold begun).take i).sum R) 0=0:=by simp
  rw [show ({ t:=asg gwL,h:=qg (gwH cs s a sold begun++zl [7] 9 0 [buO cs s]),n:=8,j:=0,d:=[],m:=2 }:St)={ t:=asg gwL,h:=qg ((fun _=>gwH cs s a sold begun) 0++zl [7] (8+1) 0 [buO cs s]),n:=8,j:=(fun i=>min ((gsL cs a m sold begun).take i).sum R) 0,d:=[],m:=2 } by rw [ej]]
  refine vH hr0 1 (L:=gwL) (L':=gwL) (xs:=[]) (hs:=[7]) (n:=8) (nl:=0) (hc:=fun _=>gwH cs s a sold begun) (Lp:=[buO cs s]) (jj:=fun i=>min ((gsL cs a m sold begun).take i).sum R) (d:=[]) (ys:=buY cs) (hl:=fun _=>[buO cs s]) (ans:=ansB) (ex:=.ret) (caps:=[.ptr 7 0]) (caps0:=[.ptr 0 0]) (N:=(qQ cs).length) (R:=RB) (A':=fun i=>Acb Try.prog (qg (qO 0 [qm cs s 1])) (qg ((8,.mark) :: gwH cs s a sold begun++[(7,buO cs s)])) (fun k=>ys (min ((gsL cs a m sold begun).take i).sum R+k)) (fun k=>nth (hl (min ((gsL cs a m sold begun).take i).sum R+k))) (fun k=>ans (min ((gsL cs a m sold begun).take i).sum R+k)) (R - min ((gsL cs a m sold begun).take i).sum R)) rfl (VV cs s ok.cab) hRB (.inl rfl) ?_ ?_ ?_ rfl (by simp) ?_ (by simp) ?_ ?_ ?_ (fun _ _=>rfl) (fun x hx=>by cases hx) (fun j hj p _ h=>by cases h) ?_ (fun j hj=>?_) ?_ (fun j hj=>?_) (fun hall=>?_) (fun hpos hlast=>?_)
  · simp [AV.leL,AV.le]
  · simp [AV.nocbL,AV.nocb]
  · simp [Wx,buO,AObj.nocb,AV.nocbL,AV.nocb,AObj.ids,AV.ids,AV.idsL,AObj.ren,AV.renL,AV.ren,AObj.le,AV.leL,AV.le,j4]
  · simp [gwH,qg]
  · intro F hF j hj F' hR
    refine KC (hA F hF) hR fun i o hi=>?_
    rw [jB] at hi
    cases i with
    |zero=>exact ⟨_,rfl⟩
    |succ i=>simp at hi
  · simp [gwH,qg]
  · exact fun _ _ _ _ h=>h
  · simp [JZ,gwL,AV.ids,AV.idsL]
  · refine ⟨?_,rfl, ?_, ?_,rfl, ?_⟩
    · simp [Qw,gwH,AObj.ids,AV.ids,AV.idsL,qm,ql,qo,aB]
    · simp [Wi,buO,AObj.nocb,AV.nocbL,AV.nocb,AObj.ids,AV.ids,AV.idsL]
    · simp [Vf,buY,qf,AV.nocb,AV.nocbL,AV.ids,AV.idsL]
    · simp [Qp,WV,zl,qy,gwH,gwL,xJ,AV.ids,AV.idsL,ADf.ids,List.range_succ]
  · simp [Qw,gwH,AObj.ids,AV.ids,AV.idsL,qm,ql,qo,aB]
  · have hjl:j < (qQ cs).length:=by omega
    obtain ⟨n1,n2,n3,n4⟩:=hN j hj
    obtain ⟨o,ho⟩:∃ o,((gsL cs a m sold begun).take j).sum=o:=⟨_,rfl⟩
    have eo:min o R=o:=by omega
    rw [QeE hjl,ho] at n2 n3 n4
    obtain ⟨b,hb⟩:∃ b,(qQ cs).getD j default=b:=⟨_,rfl⟩
    rw [hb] at n2 n3 n4
    have hbi:=RX hjl
    rw [hb] at hbi
    simp only [ho,eo]
    have hst:jo gwL [26] [7] 8 0 (buY cs j) (gwH cs s a sold begun) [buO cs s]={ t:=asg [(26,qf b),(4,.ptr 2 0),(5,.ptr 3 0),(6,.ptr 4 0),(7,.ptr 5 0),(8,.ptr 6 0),(25,.clo 123 [.ptr 7 0])],h:=qg [(8,.mark),(0,qm cs s 1),(1,ql sold),(2,.cells [.ptr 0 0]),(3,.cells (qo a)),(4,.cells [.sl (begun.map qx)]),(5,.cells [.cb]),(6,.cells [aB false]),(7,buO cs s)],n:=9,m:=9 }:=by
      simp only [jo,buY,hb,qf,List.map_cons,List.map_nil,AV.ren,AV.renL,List.zip_cons_cons,List.zip_nil_right,gwH,gwL,Zc,List.cons_append,List.nil_append,QcA]
      rfl
    show Sym _ _ _ (jo gwL [26] [7] 8 0 (buY cs j) (gwH cs s a sold begun) [buO cs s]) _
    rw [hst]
    obtain ⟨A1,hA1⟩:∃ A1:Frm→Prop,A1=Acb Try.prog (qg (qO 0 [qm cs s 1])) (qg ((8,.mark) :: gwH cs s a sold begun++[(7,buO cs s)])) (fun k=>ys (o+k)) (fun k=>nth (hl (o+k))) (fun k=>ans (o+k)) (R - o):=⟨_,rfl⟩
    rw [← hA1]
    have env:Env A1 Try.prog tyB (tab [(132,fnE wQ),(133,qU true jF),(134,fnE yP),(95,fnE yS),(135,fnI [qm cs s 1] (R - o) (yR cs s a m (fun k=>ys (o+k)) (fun k=>hl (o+k)) (fun k=>ans (o+k)) (R - o)))]) :=
      qP ⟨QhB,Qjt,eNear,eFits,eWith ih (h0:=qg ((8,.mark) :: gwH cs s a sold begun++[(7,buO cs s)])) fun F hF=>by rw [hA1] at hF;exact hF,trivial⟩
    have hcl:=ok.c100
    have hmany:=ok.many
    obtain ⟨sx,hsx1⟩:∃ x,a.sexes.getD begun.length 0=x:=⟨_,rfl⟩
    have hlt:begun.length < a.sexes.length:=by omega
    have hb1:begun.length≤100:=by omega
    have hb2:begun.length≤100000:=by omega
    have hm:(100:Nat)+1≤maxLen:=by decide
    have hb3:begun.length+1≤maxLen:=by omega
    repeat' (first|(apply nx;with_reducible constructor)|refine jq (by decide) ?_)
    (refine kz env fun Q hQ=>?_;simp only [vkt,seval,zK,jZ,aTk,cTk,qD,qo,qf,qd,qx,zz,zf,mTk,qc,qm,ql,qw,g1L,gwL,gwH,buO,qR,wQ,yP,yS,yR,jF,List.length_map,fnI,ww,qW,nth,hwL,Nat.zero_add,Nat.sub_zero];(try simp only [ite_and]);(repeat' (first|with_reducible assumption|refine And.intro ?_ ?_|intro hp));all_goals (first|(refine hQ _ ?_;clear hQ Q)|(refine kx ?_;kernel_rfl)|omega|assumption|with_reducible rfl|skip))
    repeat' (first|(apply nx;with_reducible constructor)|refine jq (by decide) ?_)
    (refine kz env fun Q hQ=>?_;simp only [vkt,seval,zK,jZ,aTk,cTk,qD,qo,qf,qd,qx,zz,zf,mTk,qc,qm,ql,qw,g1L,gwL,gwH,buO,qR,wQ,yP,yS,yR,jF,List.length_map,fnI,ww,qW,nth,hwL,Nat.zero_add,Nat.sub_zero,hsx1,hlt,hb1,hb2,hb3];(try simp only [ite_and]);(repeat' (first|with_reducible assumption|refine And.intro ?_ ?_|intro hp));all_goals (first|(refine hQ _ ?_;clear hQ Q)|(refine kx ?_;kernel_rfl)|omega|assumption|with_reducible rfl|skip))
    repeat' (first|(apply nx;with_reducible constructor)|refine jq (by decide) ?_)
    (refine kz env fun Q hQ=>?_;simp only [vkt,seval,zK,jZ,aTk,cTk,qD,qo,qf,qd,qx,zz,zf,mTk,qc,qm,ql,qw,g1L,gwL,gwH,buO,qR,wQ,yP,yS,yR,jF,List.length_map,fnI,ww,qW,nth,hwL,Nat.zero_add,Nat.sub_zero,hsx1,hlt,hb1,hb2,hb3];(try simp only [ite_and]);(repeat' (first|with_reducible assumption|refine And.intro ?_ ?_|intro hp));all_goals (first|(refine hQ _ ?_;clear hQ Q)|(refine kx ?_;kernel_rfl)|omega|assumption|with_reducible rfl|skip))
    repeat' (first|(apply nx;with_reducible constructor)|refine jq (by decide) ?_)
    have hma:List.map qx begun++[[DV.v (.int .i64 b.cab),DV.v (.int .i64 b.bed)]]=List.map qx (begun++[b]):=by simp [qx]
    refine xy (S':={ t:=asg [(4,.ptr 2 0),(5,.ptr 3 0),(6,.ptr 4 0),(7,.ptr 5 0),(8,.ptr 6 0),(9,.ptr 9 0),(10,.ptr 10 0),(11,.ptr 11 0)],h:=qg [(8,.mark),(0,qm cs s 1),(1,ql sold),(2,.cells [.ptr 0 0]),(3,.cells (qo a)),(4,.cells [.sl (begun.map qx)]),(5,.cells [.cb]),(6,.cells [aB false]),(7,buO cs s),(9,.cells [.v (.int .i64 b.cab),.v (.int .i64 b.bed)]),(10,.cells [.sl (List.map qx (begun++[b]))]),(11,.cells [.v (.int .i64 a.party),.v (.int .i64 sx),.v (.int .i64 b.cab),.v (.int .i64 b.bed),.v (.int .i64 a.frm),.v (.int .i64 a.to),.v (.bool a.dog)])],n:=12,j:=0,d:=[],m:=9 }) ?_ ?_
    · (refine Le.ok (fun i=>if i=10 then some 13 else if i=11 then some 14 else some i) [12] ?_;constructor;all_goals (try simp only [vle,vkt,seval,zK,jZ,aTk,cTk,qD,qo,qf,qd,qx,zz,zf,mTk,qc,qm,ql,qw,g1L,gwL,gwH,buO,qR,wQ,yP,yS,yR,jF,List.length_map,fnI,ww,qW,nth,hwL,Nat.zero_add,Nat.sub_zero]))
      all_goals first|rfl|(simp;done)|(rw [hma];exact ⟨_,_,rfl⟩)|(intro i hi;rw [if_neg (by omega),if_neg (by omega)];done)
    have et:(⟨a.party,sx,b.cab,b.bed,a.frm,a.to,a.dog⟩:Tk)=Jq a begun.length b:=by rw [← hsx1];rfl
    have eb:(⟨b.cab,b.bed⟩:Bunk)=b:=rfl
    have hno:NearOk cs (begun++[b]):=⟨by simp,by simp;omega,hcl,fun x hx=>by
      rcases List.mem_append.1 hx with hx|hx
      · exact ok.mem x hx
      · rw [List.mem_singleton.1 hx];exact hbi⟩
    have hs100:sold.length≤100:=by omega
    have stop:goB cs a sold begun b=false→ansB j=true∧min ((gsL cs a m sold begun).take (j+1)).sum R=o:=fun h=>by
      have e0:gbL cs a m sold begun b=[]:=by unfold gbL;rw [h];rfl
      rw [e0] at n3 n4
      simp only [List.length_nil,Nat.zero_min] at n3 n4
      exact ⟨by rw [n3];simp [Qj],by rw [n4];rfl⟩
    cases c1:begun.contains b with
    |true =>
      obtain ⟨s1,s2⟩:=stop (by unfold goB;rw [c1];rfl)
      repeat' (first|(apply nx;with_reducible constructor)|refine jq (by decide) ?_|((first|refine kz env fun Q hQ=>?_|refine kj fun Q hQ=>?_);simp only [vkt,seval,zK,jZ,aTk,cTk,qD,qo,qf,qd,qx,zz,zf,mTk,qc,qm,ql,qw,g1L,gwL,gwH,buO,qR,wQ,yP,yS,yR,jF,List.length_map,fnI,ww,qW,nth,hwL,Nat.zero_add,Nat.sub_zero,hb1,c1,eb,et,hno,hs100];(try simp only [ite_and]);(repeat' (first|with_reducible assumption|refine And.intro ?_ ?_|intro hp));all_goals (first|(refine hQ _ ?_;clear hQ Q)|(refine hQ _ (fun h=>?_) (fun h=>?_) <;> clear hQ Q <;> (try simp only [vki,reduceCtorEq] at h))|(refine kx ?_;kernel_rfl)|omega|assumption|with_reducible rfl|skip)))
      refine ⟨by rw [s1];rfl,by show _=_+0;simp only [s2,ho,eo];rfl,some,_,RFin.okQ some [] ?_⟩
      constructor
      all_goals (try simp only [vle,xH,xe,qy,vkt,seval,zK,jZ,aTk,cTk,qD,qo,qf,qd,qx,zz,zf,mTk,qc,qm,ql,qw,g1L,gwL,gwH,buO,qR,wQ,yP,yS,yR,jF,List.length_map,fnI,ww,qW,nth,hwL,Nat.zero_add,Nat.sub_zero])
      all_goals first|rfl|(simp;done)
    |false =>
      cases c2:KF cs (begun++[b]) with
      |false =>
        obtain ⟨s1,s2⟩:=stop (by unfold goB;rw [c1,c2];rfl)
        repeat' (first|(apply nx;with_reducible constructor)|refine jq (by decide) ?_|((first|refine kz env fun Q hQ=>?_|refine kj fun Q hQ=>?_);simp only [vkt,seval,zK,jZ,aTk,cTk,qD,qo,qf,qd,qx,zz,zf,mTk,qc,qm,ql,qw,g1L,gwL,gwH,buO,qR,wQ,yP,yS,yR,jF,List.length_map,fnI,ww,qW,nth,hwL,Nat.zero_add,Nat.sub_zero,hb1,c1,c2,eb,et,hno,hs100];(try simp only [ite_and]);(repeat' (first|with_reducible assumption|refine And.intro ?_ ?_|intro hp));all_goals (first|(refine hQ _ ?_;clear hQ Q)|(refine hQ _ (fun h=>?_) (fun h=>?_) <;> clear hQ Q <;> (try simp only [vki,reduceCtorEq] at h))|(refine kx ?_;kernel_rfl)|omega|assumption|with_reducible rfl|skip)))
        refine ⟨by rw [s1];rfl,by show _=_+0;simp only [s2,ho,eo];rfl,some,_,RFin.okQ some [] ?_⟩
        constructor
        all_goals (try simp only [vle,xH,xe,qy,vkt,seval,zK,jZ,aTk,cTk,qD,qo,qf,qd,qx,zz,zf,mTk,qc,qm,ql,qw,g1L,gwL,gwH,buO,qR,wQ,yP,yS,yR,jF,List.length_map,fnI,ww,qW,nth,hwL,Nat.zero_add,Nat.sub_zero])
        all_goals first|rfl|(simp;done)
      |true =>
        cases c3:decide (ji (Jq a begun.length b) sold=0) with
        |false =>
          obtain ⟨s1,s2⟩:=stop (by unfold goB;rw [c1,c2,c3];rfl)
          repeat' (first|(apply nx;with_reducible constructor)|refine jq (by decide) ?_|((first|refine kz env fun Q hQ=>?_|refine kj fun Q hQ=>?_);simp only [vkt,seval,zK,jZ,aTk,cTk,qD,qo,qf,qd,qx,zz,zf,mTk,qc,qm,ql,qw,g1L,gwL,gwH,buO,qR,wQ,yP,yS,yR,jF,List.length_map,fnI,ww,qW,nth,hwL,Nat.zero_add,Nat.sub_zero,hb1,c1,c2,c3,eb,et,hno,hs100];(try simp only [ite_and]);(repeat' (first|with_reducible assumption|refine And.intro ?_ ?_|intro hp));all_goals (first|(refine hQ _ ?_;clear hQ Q)|(refine hQ _ (fun h=>?_) (fun h=>?_) <;> clear hQ Q <;> (try simp only [vki,reduceCtorEq] at h))|(refine kx ?_;kernel_rfl)|omega|assumption|with_reducible rfl|skip)))
          refine ⟨by rw [s1];rfl,by show _=_+0;simp only [s2,ho,eo];rfl,some,_,RFin.okQ some [] ?_⟩
          constructor
          all_goals (try simp only [vle,xH,xe,qy,vkt,seval,zK,jZ,aTk,cTk,qD,qo,qf,qd,qx,zz,zf,mTk,qc,qm,ql,qw,g1L,gwL,gwH,buO,qR,wQ,yP,yS,yR,jF,List.length_map,fnI,ww,qW,nth,hwL,Nat.zero_add,Nat.sub_zero])
          all_goals first|rfl|(simp;done)
        |true =>
          have hgo:goB cs a sold begun b=true:=by unfold goB;rw [c1,c2,c3];rfl
          have hgb:gbL cs a m sold begun b=wU cs a m (sold++[Jq a begun.length b]) (begun++[b]):=by unfold gbL;rw [if_pos hgo]
          rw [hgb] at n2 n3 n4
          have hG:=Qbp ok hjl hb ho hgo n2
          obtain ⟨D,hD⟩:∃ D,min (wU cs a m (sold++[Jq a begun.length b]) (begun++[b])).length (R - o)=D:=⟨_,rfl⟩
          rw [hD] at hG n3 n4
          have hDle:D≤R - o:=by omega
          cases hab:ansB j with
          |false =>
            rw [hab] at n3
            have n3:=n3.symm
            repeat' (first|(apply nx;with_reducible constructor)|refine jq (by decide) ?_|((first|refine kz env fun Q hQ=>?_|refine kj fun Q hQ=>?_);simp only [vkt,seval,zK,jZ,aTk,cTk,qD,qo,qf,qd,qx,zz,zf,mTk,qc,qm,ql,qw,g1L,gwL,gwH,buO,qR,wQ,yP,yS,yR,jF,List.length_map,fnI,ww,qW,nth,hwL,Nat.zero_add,Nat.sub_zero,hb1,c1,c2,c3,eb,et,hno,hs100,hD,hDle,hG,n3];(try simp only [ite_and]);(repeat' (first|with_reducible assumption|refine And.intro ?_ ?_|intro hp));all_goals (first|(refine hQ _ ?_;clear hQ Q)|(refine hQ _ (fun h=>?_) (fun h=>?_) <;> clear hQ Q <;> (try simp only [vki,reduceCtorEq] at h))|(refine kx ?_;kernel_rfl)|omega|assumption|with_reducible rfl|skip)))
            refine ⟨by rw [hab];rfl,by simp only [n4,ho,eo],some,_,RFin.okQ some [] ?_⟩
            constructor
            all_goals (try simp only [vle,xH,xe,qy,vkt,seval,zK,jZ,aTk,cTk,qD,qo,qf,qd,qx,zz,zf,mTk,qc,qm,ql,qw,g1L,gwL,gwH,buO,qR,wQ,yP,yS,yR,jF,List.length_map,fnI,ww,qW,nth,hwL,Nat.zero_add,Nat.sub_zero])
            all_goals first|rfl|(simp;done)
          |true =>
            rw [hab] at n3
            have n3:=n3.symm
            repeat' (first|(apply nx;with_reducible constructor)|refine jq (by decide) ?_|((first|refine kz env fun Q hQ=>?_|refine kj fun Q hQ=>?_);simp only [vkt,seval,zK,jZ,aTk,cTk,qD,qo,qf,qd,qx,zz,zf,mTk,qc,qm,ql,qw,g1L,gwL,gwH,buO,qR,wQ,yP,yS,yR,jF,List.length_map,fnI,ww,qW,nth,hwL,Nat.zero_add,Nat.sub_zero,hb1,c1,c2,c3,eb,et,hno,hs100,hD,hDle,hG,n3];(try simp only [ite_and]);(repeat' (first|with_reducible assumption|refine And.intro ?_ ?_|intro hp));all_goals (first|(refine hQ _ ?_;clear hQ Q)|(refine hQ _ (fun h=>?_) (fun h=>?_) <;> clear hQ Q <;> (try simp only [vki,reduceCtorEq] at h))|(refine kx ?_;kernel_rfl)|omega|assumption|with_reducible rfl|skip)))
            refine ⟨by rw [hab];rfl,by simp only [n4,ho,eo],some,_,RFin.okQ some [] ?_⟩
            constructor
            all_goals (try simp only [vle,xH,xe,qy,vkt,seval,zK,jZ,aTk,cTk,qD,qo,qf,qd,qx,zz,zf,mTk,qc,qm,ql,qw,g1L,gwL,gwH,buO,qR,wQ,yP,yS,yR,jF,List.length_map,fnI,ww,qW,nth,hwL,Nat.zero_add,Nat.sub_zero])
            all_goals first|rfl|(simp;done)
  · have hR:Qj ansB RB=true:=by
      by_cases h0:RB=0
      · simp [Qj,h0]
      · simp [Qj,hall (RB - 1) (by omega)]
    rw [hR,hend]
    have eh:qg ((8,AObj.mark) :: gwH cs s a sold begun++zl [7] (8+1) 0 [buO cs s])=qg [(8,.mark),(0,qm cs s 1),(1,ql sold),(2,.cells [.ptr 0 0]),(3,.cells (qo a)),(4,.cells [.sl (begun.map qx)]),(5,.cells [.cb]),(6,.cells [aB false]),(7,buO cs s)]:=rfl
    rw [eh]
    repeat' (first|(apply nx;with_reducible constructor)|refine jq (by decide) ?_|((first|refine kz env fun Q hQ=>?_|refine kj fun Q hQ=>?_);simp only [vkt,seval,zK,jZ,aTk,cTk,qD,qo,qf,qd,qx,zz,zf,mTk,qc,qm,ql,qw,g1L,gwL,gwH,buO,qR,wQ,yP,yS,yR,jF,List.length_map,fnI,ww,qW,nth,hwL,Nat.zero_add,Nat.sub_zero];(try simp only [ite_and]);(repeat' (first|with_reducible assumption|refine And.intro ?_ ?_|intro hp));all_goals (first|(refine hQ _ ?_;clear hQ Q)|(refine hQ _ (fun h=>?_) (fun h=>?_) <;> clear hQ Q <;> (try simp only [vki,reduceCtorEq] at h))|(refine kx ?_;kernel_rfl)|omega|assumption|with_reducible rfl|skip)))
    (simp only [vrt,Try.results115,vkt,seval,zK,jZ,aTk,cTk,qD,qo,qf,qd,qx,zz,zf,mTk,qc,qm,ql,qw,g1L,gwL,gwH,buO,qR,wQ,yP,yS,yR,jF,List.length_map,fnI,ww,qW,nth,hwL,Nat.zero_add,Nat.sub_zero];refine Fin.ok some [] ?_ ?_ ?_ ?_ ?_ rfl;all_goals (try simp only [vle,vkt,seval,zK,jZ,aTk,cTk,qD,qo,qf,qd,qx,zz,zf,mTk,qc,qm,ql,qw,g1L,gwL,gwH,buO,qR,wQ,yP,yS,yR,jF,List.length_map,fnI,ww,qW,nth,hwL,Nat.zero_add,Nat.sub_zero]))
    all_goals first|rfl|(simp;done)|exact fun i hi=>(match i,hi with|0,_=>rfl|1,_=>rfl)
  · have hR:Qj ansB RB=false:=by
      simp [Qj,hlast,show ¬ RB=0 by omega]
    rw [hR,hend]
    have eh:qg ((8,AObj.mark) :: gwH cs s a sold begun++zl [7] (8+1) 0 [buO cs s])=qg [(8,.mark),(0,qm cs s 1),(1,ql sold),(2,.cells [.ptr 0 0]),(3,.cells (qo a)),(4,.cells [.sl (begun.map qx)]),(5,.cells [.cb]),(6,.cells [aB false]),(7,buO cs s)]:=rfl
    rw [eh]
    repeat' (first|(apply nx;with_reducible constructor)|refine jq (by decide) ?_|((first|refine kz env fun Q hQ=>?_|refine kj fun Q hQ=>?_);simp only [vkt,seval,zK,jZ,aTk,cTk,qD,qo,qf,qd,qx,zz,zf,mTk,qc,qm,ql,qw,g1L,gwL,gwH,buO,qR,wQ,yP,yS,yR,jF,List.length_map,fnI,ww,qW,nth,hwL,Nat.zero_add,Nat.sub_zero];(try simp only [ite_and]);(repeat' (first|with_reducible assumption|refine And.intro ?_ ?_|intro hp));all_goals (first|(refine hQ _ ?_;clear hQ Q)|(refine hQ _ (fun h=>?_) (fun h=>?_) <;> clear hQ Q <;> (try simp only [vki,reduceCtorEq] at h))|(refine kx ?_;kernel_rfl)|omega|assumption|with_reducible rfl|skip)))
    (simp only [vrt,Try.results115,vkt,seval,zK,jZ,aTk,cTk,qD,qo,qf,qd,qx,zz,zf,mTk,qc,qm,ql,qw,g1L,gwL,gwH,buO,qR,wQ,yP,yS,yR,jF,List.length_map,fnI,ww,qW,nth,hwL,Nat.zero_add,Nat.sub_zero];refine Fin.ok some [] ?_ ?_ ?_ ?_ ?_ rfl;all_goals (try simp only [vle,vkt,seval,zK,jZ,aTk,cTk,qD,qo,qf,qd,qx,zz,zf,mTk,qc,qm,ql,qw,g1L,gwL,gwH,buO,qR,wQ,yP,yS,yR,jF,List.length_map,fnI,ww,qW,nth,hwL,Nat.zero_add,Nat.sub_zero]))
    all_goals first|rfl|(simp;done)|exact fun i hi=>(match i,hi with|0,_=>rfl|1,_=>rfl)
theorem Qab (cs:List Cabin) (s:Int) (a:Ask):∀ m,Xf cs s a m
  |0=>QcQ cs s a
  |m+1=>QdB cs s a m (QgJ (Qf6 (Qab cs s a m)))
end Go.Sym.B
namespace Go.Sym.B
open Go Go.Sym Go.Proofs Go.Sym.C
theorem Qhw (a:Ask):PCs (qo a):=⟨by simp [qo,AV.idsL,AV.ids],by simp [qo,AV.leL,AV.le],by simp [qo,AV.renL,AV.ren]⟩
def YN:=kk @ty3 (kk @JE (kk @yw (kk @ti3.eq_1 (kk @Wm.eq_1 @j3.eq_1))))
def QaH:=kk @aI.eq_1 (@aB.eq_1)
theorem QgY (a:Ask):JF 128 (qo a) (fun x=>decide (x.party=a.party)):=fun x=>by
  have env:Env (fun _=>True) Try.prog tyB (tab []):=qP trivial
  refine Fn.of (A:=fun _=>True) (n0:=1) (D:=noD) (Fn0 Try.func128 rfl (fun vs w=>by kernel_rfl) (by kernel_rfl)) (by simp) (by simp [AV.ids,AV.idsL,aTk,cTk]) ?_ (fun _ _ _ _=>trivial) qF ?_
  · intro i o hi
    have h:=qV hi
    simp at h;obtain ⟨rfl,rfl⟩:=h;simp [qo,AObj.ids,AV.ids,AV.idsL]
  repeat' (first|(apply nx;with_reducible constructor)|refine jq (by decide) ?_|((first|refine kz env fun Q hQ=>?_|refine kj fun Q hQ=>?_);simp only [vkt,seval,YN,QaH,aTk,cTk,qo];(try simp only [ite_and]);(repeat' (first|with_reducible assumption|refine And.intro ?_ ?_|intro hp));all_goals (first|(refine hQ _ ?_;clear hQ Q)|(refine hQ _ (fun h=>?_) (fun h=>?_) <;> clear hQ Q <;> (try simp only [vki,reduceCtorEq] at h))|(refine kx ?_;kernel_rfl)|omega|assumption|with_reducible rfl|skip)))
  all_goals (simp only [vrt,Try.results128,vkt,seval,YN,QaH,aTk,cTk,qo];refine Fin.ok some [] ?_ ?_ ?_ ?_ ?_ rfl;all_goals (try simp only [vle,vkt,seval,YN,QaH,aTk,cTk,qo]))
  all_goals first|rfl|(simp;done)
def yj (a:Ask) (S:St):List AV→Option Pk
  |[.sl xs,.clo f [.ptr t 0]]=>match S.h t with
    |some (.cells cs')=>some { pre:=f=128∧cs'=qo a∧xs=(xs.map dTk).map eTk∧xs.length≤100,hs:=[t],ar:=[.sl xs,.clo 128 [.ptr 0 0]],L0:=[.cells (qo a)],v:=aB ((xs.map dTk).any fun x=>decide (x.party=a.party)),L1:=[some (.cells (qo a))] }
    |_=>none
  |_=>none
theorem Qiz {A:Frm→Prop} {a:Ask}:qB A Try.prog 127 (fnE (yj a)):=wE fun S bs q h hp=>by
  unfold yj at h
  split at h
  · split at h
    · cases h
      obtain ⟨_,_,h1,h2⟩:=hp
      have:=Re (Qhw a) (QgY a) (List.map dTk _) (by rw [List.length_map];exact h2)
      rw [qh,← h1] at this
      exact this
    · cases h
  · cases h
def akS (c:Chart) (a:Ask) (k:Nat):St:={ t:=asg [(2,.ptr 0 0),(3,.ptr 1 0),(4,aI 0),(36,.sl (a.sexes.map zX)),(37,aI a.sexes.length),(38,aI k)],h:=qg [(0,.cells (qb c)),(1,.cells (qo a))],n:=2 }
def XD (s:Int):Int:=if !inB s 1 2 then 8 else 0
def jc:=kk @ty3 (kk @Wl (kk @xC (kk @jO (kk @JE (kk @QN (kk @yw (kk @ti3.eq_1 (kk @Zk.eq_1 (kk @vP.eq_1 (kk @jE.eq_1 (kk @Wm.eq_1 (kk @Qb.eq_1 @j3.eq_1))))))))))))
def vg:=kk @aI.eq_1 (kk @aB.eq_1 (kk @zX.eq_1 (kk @U3 (@WS))))
theorem Qit (c:Chart) (a:Ask) (hc:c.sold.length≤100) (ha:a.sexes.length≤maxLen):FnV Try.prog 102 [qa c,qD a] (aI (ZZ c a)):=by
  have env:Env (fun _=>True) Try.prog tyB (tab [(91,qU true sin),(101,qU true zt),(92,qU true vS),(127,fnE (yj a))]):=qP ⟨ein,UR,eway,Qiz,trivial⟩
  refine Fn.of (A:=fun _=>True) (n0:=0) (D:=noD) (Fn0 Try.func102 rfl (fun vs w=>by kernel_rfl) (by kernel_rfl)) (by simp) (by simp [AV.ids,AV.idsL,qa,qb,qD,qo]) (fun i o h=>by cases h) (fun _ _ _ _=>trivial) qF ?_
  cases h1:inB a.party 1 99
  · rw [show ZZ c a=1 by simp [ZZ,h1]]
    repeat' (first|(apply nx;with_reducible constructor)|refine jq (by decide) ?_|((first|refine kz env fun Q hQ=>?_|refine kj fun Q hQ=>?_);simp only [vkt,seval,jc,vg,qa,qb,qD,qo,mTk,qc,akS,sin,zt,vS,yj,List.length_map,h1];(try simp only [ite_and]);(repeat' (first|with_reducible assumption|refine And.intro ?_ ?_|intro hp));all_goals (first|(refine hQ _ ?_;clear hQ Q)|(refine hQ _ (fun h=>?_) (fun h=>?_) <;> clear hQ Q <;> (try simp only [vki,reduceCtorEq] at h))|(refine kx ?_;kernel_rfl)|omega|assumption|with_reducible rfl|skip)))
    (simp only [vrt,Try.results102,vkt,seval,jc,vg,qa,qb,qD,qo,mTk,qc,akS,sin,zt,vS,yj,List.length_map];refine Fin.val rfl ?_;(try simp only [AV.le,AV.leL]))
    all_goals first|rfl|(simp;done)
  cases h2:c.sold.any (fun t=>decide (t.party=a.party))
  case true =>
    rw [show ZZ c a=4 by simp only [ZZ,h1,h2];rfl]
    repeat' (first|(apply nx;with_reducible constructor)|refine jq (by decide) ?_|((first|refine kz env fun Q hQ=>?_|refine kj fun Q hQ=>?_);simp only [vkt,seval,jc,vg,qa,qb,qD,qo,mTk,qc,akS,sin,zt,vS,yj,List.length_map,h1,h2,hc];(try simp only [ite_and]);(repeat' (first|with_reducible assumption|refine And.intro ?_ ?_|intro hp));all_goals (first|(refine hQ _ ?_;clear hQ Q)|(refine hQ _ (fun h=>?_) (fun h=>?_) <;> clear hQ Q <;> (try simp only [vki,reduceCtorEq] at h))|(refine kx ?_;kernel_rfl)|omega|assumption|with_reducible rfl|skip)))
    (simp only [vrt,Try.results102,vkt,seval,jc,vg,qa,qb,qD,qo,mTk,qc,akS,sin,zt,vS,yj,List.length_map];refine Fin.val rfl ?_;(try simp only [AV.le,AV.leL]))
    all_goals first|rfl|(simp;done)
  by_cases h3:QX c.secs a.frm a.to=0
  case neg =>
    rw [show ZZ c a=QX c.secs a.frm a.to by unfold ZZ;rw [h1,h2];simp [h3]]
    repeat' (first|(apply nx;with_reducible constructor)|refine jq (by decide) ?_|((first|refine kz env fun Q hQ=>?_|refine kj fun Q hQ=>?_);simp only [vkt,seval,jc,vg,qa,qb,qD,qo,mTk,qc,akS,sin,zt,vS,yj,List.length_map,h1,h2,h3,hc];(try simp only [ite_and]);(repeat' (first|with_reducible assumption|refine And.intro ?_ ?_|intro hp));all_goals (first|(refine hQ _ ?_;clear hQ Q)|(refine hQ _ (fun h=>?_) (fun h=>?_) <;> clear hQ Q <;> (try simp only [vki,reduceCtorEq] at h))|(refine kx ?_;kernel_rfl)|omega|assumption|with_reducible rfl|skip)))
    (simp only [vrt,Try.results102,vkt,seval,jc,vg,qa,qb,qD,qo,mTk,qc,akS,sin,zt,vS,yj,List.length_map];refine Fin.val rfl ?_;(try simp only [AV.le,AV.leL]))
    all_goals first|rfl|(simp;done)
  by_cases h4:wI a.sexes.length 1 3=0
  case neg =>
    rw [show ZZ c a=wI a.sexes.length 1 3 by unfold ZZ;rw [h1,h2,h3];simp [h4]]
    repeat' (first|(apply nx;with_reducible constructor)|refine jq (by decide) ?_|((first|refine kz env fun Q hQ=>?_|refine kj fun Q hQ=>?_);simp only [vkt,seval,jc,vg,qa,qb,qD,qo,mTk,qc,akS,sin,zt,vS,yj,List.length_map,h1,h2,h3,h4,hc];(try simp only [ite_and]);(repeat' (first|with_reducible assumption|refine And.intro ?_ ?_|intro hp));all_goals (first|(refine hQ _ ?_;clear hQ Q)|(refine hQ _ (fun h=>?_) (fun h=>?_) <;> clear hQ Q <;> (try simp only [vki,reduceCtorEq] at h))|(refine kx ?_;kernel_rfl)|omega|assumption|with_reducible rfl|skip)))
    (simp only [vrt,Try.results102,vkt,seval,jc,vg,qa,qb,qD,qo,mTk,qc,akS,sin,zt,vS,yj,List.length_map];refine Fin.val rfl ?_;(try simp only [AV.le,AV.leL]))
    all_goals first|rfl|(simp;done)
  have hl:a.sexes.length≤3:=by
    unfold wI at h4
    split at h4
    · exact absurd h4 (by decide)
    · split at h4
      · exact absurd h4 (by decide)
      · omega
  rw [show ZZ c a=ym (a.sexes.map XD) by unfold ZZ;rw [h1,h2,h3,h4];rfl]
  repeat' (first|(apply nx;with_reducible constructor)|refine jq (by decide) ?_|((first|refine kz env fun Q hQ=>?_|refine kj fun Q hQ=>?_);simp only [vkt,seval,jc,vg,qa,qb,qD,qo,mTk,qc,akS,sin,zt,vS,yj,List.length_map,h1,h2,h3,h4,hc];(try simp only [ite_and]);(repeat' (first|with_reducible assumption|refine And.intro ?_ ?_|intro hp));all_goals (first|(refine hQ _ ?_;clear hQ Q)|(refine hQ _ (fun h=>?_) (fun h=>?_) <;> clear hQ Q <;> (try simp only [vki,reduceCtorEq] at h))|(refine kx ?_;kernel_rfl)|omega|assumption|with_reducible rfl|skip)))
  refine qX (fun k:{ k:Nat // k≤a.sexes.length∧∀ j,j < k→(a.sexes.map XD).getD j 0=0 }=>akS c a k.1) (fun k=>a.sexes.length - k.1) ⟨0,Nat.zero_le _,fun j h=>absurd h (Nat.not_lt_zero _)⟩ ?_ fun ⟨k,hk,hno⟩=>?_
  · (refine Le.ok some [] ?_;constructor;all_goals (try simp only [vle,vkt,seval,jc,vg,qa,qb,qD,qo,mTk,qc,akS,sin,zt,vS,yj,List.length_map]))
    all_goals first|rfl|(simp;done)
  · repeat' (first|(apply nx;with_reducible constructor)|refine jq (by decide) ?_)
    (refine kz env fun Q hQ=>?_;simp only [vkt,seval,jc,vg,qa,qb,qD,qo,mTk,qc,akS,sin,zt,vS,yj,List.length_map];(try simp only [ite_and]);(repeat' (first|with_reducible assumption|refine And.intro ?_ ?_|intro hp));all_goals (first|(refine hQ _ ?_;clear hQ Q)|(refine kx ?_;kernel_rfl)|omega|assumption|with_reducible rfl|skip))
    repeat' (first|(apply nx;with_reducible constructor)|refine jq (by decide) ?_)
    (refine yH (by simp only [vkt,seval,jc,vg,qa,qb,qD,qo,mTk,qc,akS,sin,zt,vS,yj,List.length_map];rfl) (fun h=>?_) (fun h=>?_) <;> (try simp only [vki,reduceCtorEq] at h))
    · have hlt:k < a.sexes.length:=by omega
      have e9:IntKind.wrap .i64 ((k:Int)+1)=((k+1:Nat):Int):=by rw [wrap64 (by omega) (by omega)];rfl
      obtain ⟨x,hx⟩:∃ x,a.sexes.getD k 0=x:=⟨_,rfl⟩
      have hm:(a.sexes.map XD).getD k 0=XD x:=by rw [mapD hlt];exact congrArg XD hx
      cases hb:inB x 1 2
      · have hE:XD x=8:=by simp [XD,hb]
        have hf:=Qi hno (by simpa using hlt) (by rw [hm,hE];decide)
        rw [hm,hE] at hf
        rw [hf]
        repeat' (first|(apply nx;with_reducible constructor)|refine jq (by decide) ?_|((first|refine kz env fun Q hQ=>?_|refine kj fun Q hQ=>?_);simp only [vkt,seval,jc,vg,qa,qb,qD,qo,mTk,qc,akS,sin,zt,vS,yj,List.length_map,hx,hb,e9];(try simp only [ite_and]);(repeat' (first|with_reducible assumption|refine And.intro ?_ ?_|intro hp));all_goals (first|(refine hQ _ ?_;clear hQ Q)|(refine hQ _ (fun h=>?_) (fun h=>?_) <;> clear hQ Q <;> (try simp only [vki,reduceCtorEq] at h))|(refine kx ?_;kernel_rfl)|omega|assumption|with_reducible rfl|skip)))
        (simp only [vrt,Try.results102,vkt,seval,jc,vg,qa,qb,qD,qo,mTk,qc,akS,sin,zt,vS,yj,List.length_map];refine Fin.val rfl ?_;(try simp only [AV.le,AV.leL]))
        all_goals first|rfl|(simp;done)
      · have hE:XD x=0:=by simp [XD,hb]
        repeat' (first|(apply nx;with_reducible constructor)|refine jq (by decide) ?_|((first|refine kz env fun Q hQ=>?_|refine kj fun Q hQ=>?_);simp only [vkt,seval,jc,vg,qa,qb,qD,qo,mTk,qc,akS,sin,zt,vS,yj,List.length_map,hx,hb,e9];(try simp only [ite_and]);(repeat' (first|with_reducible assumption|refine And.intro ?_ ?_|intro hp));all_goals (first|(refine hQ _ ?_;clear hQ Q)|(refine hQ _ (fun h=>?_) (fun h=>?_) <;> clear hQ Q <;> (try simp only [vki,reduceCtorEq] at h))|(refine kx ?_;kernel_rfl)|omega|assumption|with_reducible rfl|skip)))
        refine ⟨⟨k+1,hlt,fun j hj=>?_⟩,by show a.sexes.length - (k+1) < a.sexes.length - k;omega, ?_⟩
        · rcases Nat.lt_or_eq_of_le (Nat.le_of_lt_succ hj) with h2|h2
          · exact hno j h2
          · rw [h2,hm,hE]
        · (refine Le.ok some [] ?_;constructor;all_goals (try simp only [vle,vkt,seval,jc,vg,qa,qb,qD,qo,mTk,qc,akS,sin,zt,vS,yj,List.length_map]))
          all_goals first|rfl|(simp;done)
    · have hke:k=a.sexes.length:=by omega
      subst hke
      rw [xB (l:=a.sexes.map XD) (by simpa using hno)]
      repeat' (first|(apply nx;with_reducible constructor)|refine jq (by decide) ?_|((first|refine kz env fun Q hQ=>?_|refine kj fun Q hQ=>?_);simp only [vkt,seval,jc,vg,qa,qb,qD,qo,mTk,qc,akS,sin,zt,vS,yj,List.length_map];(try simp only [ite_and]);(repeat' (first|with_reducible assumption|refine And.intro ?_ ?_|intro hp));all_goals (first|(refine hQ _ ?_;clear hQ Q)|(refine hQ _ (fun h=>?_) (fun h=>?_) <;> clear hQ Q <;> (try simp only [vki,reduceCtorEq] at h))|(refine kx ?_;kernel_rfl)|omega|assumption|with_reducible rfl|skip)))
      (simp only [vrt,Try.results102,vkt,seval,jc,vg,qa,qb,qD,qo,mTk,qc,akS,sin,zt,vS,yj,List.length_map];refine Fin.val rfl ?_;(try simp only [AV.le,AV.leL]))
      all_goals first|rfl|(simp;done)
def VN:List AV→Prop × AV
  |[.agg [.sl c0,.v (.int .i64 c1),.sl c2],.agg [.v (.int .i64 a0),.v (.int .i64 a1),.v (.int .i64 a2),.sl a3,.v (.bool a4)]]=>(c0=(c0.map qp).map qj∧c2=(c2.map dTk).map eTk∧a3=(a3.map zY).map zX∧c2.length≤100∧a3.length≤maxLen,aI (ZZ (⟨(c0.map qp),c1,(c2.map dTk)⟩:Chart) (⟨a0,a1,a2,(a3.map zY),a4⟩:Ask)))
  |_=>(False,.junk)
theorem eask {A:Frm→Prop}:qB A Try.prog 102 (qU true VN):=za fun vs hv h=>by
  clear hv
  unfold VN at h ⊢
  split at h
  · rename_i c0 c1 c2 a0 a1 a2 a3 a4;obtain ⟨q0,q1,q2,k0,k1⟩:=h
    refine ⟨by first|trivial|(simp [AV.plain,AV.plainL,aI,aB,qA,qd,qh,qf,aTk,cTk];done)|(repeat' split) <;> simp [AV.plain,AV.plainL,aI,aB,qA,qd,qh,qf,aTk,cTk],fun _=>(by simp [AV.flat,AV.flatL,aI,aB]), ?_⟩
    have:=Qit (⟨(c0.map qp),c1,(c2.map dTk)⟩:Chart) (⟨a0,a1,a2,(a3.map zY),a4⟩:Ask) (by simpa using k0) (by simpa using k1)
    simp only [qD,aB,q9,qa,aI,qA,qh,qo,qb,← q0,← q1,← q2] at this
    first|exact this|(simp only [qD,aB,q9,qa,aI,qA,qh,qo,qb,← q0,← q1,← q2];exact this)
  · exact h.elim
def yK:=kk @WT (kk @WP (kk @Zv.eq_1 @Zq.eq_1))
theorem Qdk (xs:List (List DV)) (h1:zT 2 xs) (h2:xs.length≤100000):Fn noB Try.prog 121 [.sl xs] noH (.row 0) (qg [(0,.row 51 2 xs)]) 0:=by
  have env:Env (fun _=>True) Try.prog tyB (tab []):=qP trivial
  obtain ⟨b1,b2,b3,b5,b4⟩:=b47 h2
  refine Fn.of (A:=fun _=>True) (n0:=0) (D:=noD) (Fn0 Try.func121 rfl (fun vs w=>by kernel_rfl) (by kernel_rfl)) (by simp) (by simp [AV.ids]) (fun i o h=>by cases h) (fun _ _ _ _=>trivial) qF ?_
  repeat' (first|(apply nx;with_reducible constructor)|refine jq (by decide) ?_)
  (refine kz env fun Q hQ=>?_;simp only [vkt,seval,yK,@true_and];(try simp only [ite_and]);(repeat' (first|with_reducible assumption|refine And.intro ?_ ?_|intro hp));all_goals (first|(refine hQ _ ?_;clear hQ Q)|(refine kx ?_;kernel_rfl)|omega|assumption|with_reducible rfl|skip))
  repeat' (first|(apply nx;with_reducible constructor)|refine jq (by decide) ?_)
  refine Ze (d1:=3) (d2:=4) (t:=25) (e:=51) (x:=.tmp 0) (xs:=xs) rfl rfl rfl rfl rfl rfl Try.underlying25 rfl fun b hb=>?_
  repeat' (first|(apply nx;with_reducible constructor)|refine jq (by decide) ?_)
  (refine yH (by simp only [vkt,seval,yK,@true_and];rfl) (fun h=>?_) (fun h=>?_) <;> (try simp only [vki,reduceCtorEq] at h))
  · have hx:=hb h
    subst hx
    repeat' (first|(apply nx;with_reducible constructor)|refine jq (by decide) ?_|((first|refine kz env fun Q hQ=>?_|refine kj fun Q hQ=>?_);simp only [vkt,seval,yK,@true_and];(try simp only [ite_and]);(repeat' (first|with_reducible assumption|refine And.intro ?_ ?_|intro hp));all_goals (first|(refine hQ _ ?_;clear hQ Q)|(refine hQ _ (fun h=>?_) (fun h=>?_) <;> clear hQ Q <;> (try simp only [vki,reduceCtorEq] at h))|(refine kx ?_;kernel_rfl)|omega|assumption|with_reducible rfl|skip)))
    (simp only [vrt,Try.results121,vkt,seval,yK,@true_and];refine Fin.ok (fun _=>none) [] ?_ ?_ ?_ ?_ ?_ rfl;all_goals (try simp only [vle,vkt,seval,yK,@true_and]))
    all_goals simp
  · repeat' (first|(apply nx;with_reducible constructor)|refine jq (by decide) ?_|((first|refine kz env fun Q hQ=>?_|refine kj fun Q hQ=>?_);simp only [vkt,seval,yK,@true_and];(try simp only [ite_and]);(repeat' (first|with_reducible assumption|refine And.intro ?_ ?_|intro hp));all_goals (first|(refine hQ _ ?_;clear hQ Q)|(refine hQ _ (fun h=>?_) (fun h=>?_) <;> clear hQ Q <;> (try simp only [vki,reduceCtorEq] at h))|(refine kx ?_;kernel_rfl)|omega|assumption|with_reducible rfl|skip)))
    (simp only [vrt,Try.results121,vkt,seval,yK,@true_and];refine Fin.ok some [] ?_ ?_ ?_ ?_ ?_ rfl;all_goals (try simp only [vle,vkt,seval,yK,@true_and]))
    all_goals simp
def Ja (_:St):List AV→Option Pk
  |[.sl xs]=>some { pre:=zT 2 xs∧xs.length≤100000,ar:=[.sl xs],v:=.row 0,L1:=[some (.row 51 2 xs)] }
  |_=>none
theorem QgR {A:Frm→Prop}:qB A Try.prog 121 (fnE Ja):=wE fun S bs q h hp=>by
  unfold Ja at h
  split at h
  · cases h;exact Qdk _ hp.1 hp.2
  · cases h
def JL:=kk @WT (kk @xC (kk @jO (kk @WP (kk @yw (kk @Jt (kk @Zv.eq_1 (kk @vP.eq_1 (kk @jE.eq_1 (kk @Zq.eq_1 (kk @j3.eq_1 @Zy.eq_1))))))))))
def Qa8:=kk @aI.eq_1 (@aB.eq_1)
theorem Qex (c:Chart) (h1:c.cabins.length≤100000) (h2:c.sold.length≤100000):Fn noB Try.prog 93 [qa c] noH (.ptr 0 0) (qg (wH 0 ((qw c.cabins c.secs c.sold).map some))) 0:=by
  have env:Env (fun _=>True) Try.prog tyB (tab [(122,fnE kV),(121,fnE Ja)]):=qP ⟨Qcy,QgR,trivial⟩
  refine Fn.of (A:=fun _=>True) (n0:=0) (D:=noD) (Fn0 Try.func93 rfl (fun vs w=>by kernel_rfl) (by kernel_rfl)) (by simp) (by simp [AV.ids,AV.idsL,qa,qb]) (fun i o h=>by cases h) (fun _ _ _ _=>trivial) qF ?_
  show Sym _ _ _ (zZ [qa c] 0 noH) (xN tyB noD Try.f93 fun S rv=>Fin S rv _ 0 (qg [(0,qm c.cabins c.secs 1),(1,ql c.sold)]) 0)
  repeat' (first|(apply nx;with_reducible constructor)|refine jq (by decide) ?_|((first|refine kz env fun Q hQ=>?_|refine kj fun Q hQ=>?_);simp only [vkt,seval,JL,Qa8,qa,qb,rTk,zJ,qm,ql,qw,kV,Ja,List.length_map,h1,h2];(try simp only [ite_and]);(repeat' (first|with_reducible assumption|refine And.intro ?_ ?_|intro hp));all_goals (first|(refine hQ _ ?_;clear hQ Q)|(refine hQ _ (fun h=>?_) (fun h=>?_) <;> clear hQ Q <;> (try simp only [vki,reduceCtorEq] at h))|(refine kx ?_;kernel_rfl)|omega|assumption|with_reducible rfl|skip)))
  all_goals (simp only [vrt,Try.results93,vkt,seval,JL,Qa8,qa,qb,rTk,zJ,qm,ql,qw,kV,Ja,List.length_map];refine Fin.ok (fun j=>[3,2][j]?) [1] ?_ ?_ ?_ ?_ ?_ rfl;all_goals (try simp only [vle,vkt,seval,JL,Qa8,qa,qb,rTk,zJ,qm,ql,qw,kV,Ja,List.length_map]))
  all_goals first|rfl|(simp;done)
end Go.Sym.B
namespace Go.Sym.B
open Go Go.Sym Go.Proofs Go.Sym.C
def QL (_:St):List AV→Option Pk
  |[.agg [.sl cs,.v (.int .i64 s),.sl ts]]=>some { pre:=cs=(cs.map qp).map qj∧ts=(ts.map dTk).map eTk∧cs.length≤100000∧ts.length≤100000,ar:=[.agg [.sl cs,.v (.int .i64 s),.sl ts]],v:=.ptr 0 0,L1:=(qw (cs.map qp) s (ts.map dTk)).map some }
  |_=>none
theorem QfC {A:Frm→Prop}:qB A Try.prog 93 (fnE QL):=wE fun S bs q h hp=>by
  unfold QL at h
  split at h
  · rename_i cs s ts
    cases h
    obtain ⟨h1,h2,h3,h4⟩:=hp
    have:=Qex ⟨cs.map qp,s,ts.map dTk⟩ (by simpa using h3) (by simpa using h4)
    simp only [qa,qb,← h1,← h2] at this
    exact this
  · cases h
theorem Za {c:Chart} {a:Ask} (h:je c a=0):zV c=0∧ZZ c a=0:=by
  unfold je at h
  split at h
  · rename_i h1;exact absurd h h1
  · rename_i h1;exact ⟨Decidable.not_not.1 h1,h⟩
def vJ:=kk @jO (kk @JE (kk @QN (kk @jE.eq_1 (kk @Wm.eq_1 @Qb.eq_1))))
def ZV:=kk @aI.eq_1 (kk @aB.eq_1 (@WS))
theorem Qfs (c:Chart) (a:Ask) (h:je c a=0) (hc:c.cabins.length≤maxLen) (ha:a.sexes.length≤maxLen):Fn noB Try.prog 66 [qa c,qD a] noH (.tup [.ptr 0 0,aI 0]) (qg (wH 0 ((qw c.cabins c.secs c.sold).map some))) 0:=by
  have env:Env (fun _=>True) Try.prog tyB (tab [(44,qU true qK),(102,qU true VN),(93,fnE QL)]):=qP ⟨Jw,eask,QfC,trivial⟩
  refine Fn.of (A:=fun _=>True) (n0:=0) (D:=noD) (Fn0 Try.func66 rfl (fun vs w=>by kernel_rfl) (by kernel_rfl)) (by simp) (by simp [AV.ids,AV.idsL,qa,qb,qD,qo]) (fun i o h=>by cases h) (fun _ _ _ _=>trivial) qF ?_
  obtain ⟨h1,h2⟩:=Za h
  have hv:=kD h1
  have b1:=hv.car.cabs
  have b2:=hv.many
  have ec:(⟨c.cabins,c.secs,c.sold⟩:Chart)=c:=rfl
  have ea:(⟨a.party,a.frm,a.to,a.sexes,a.dog⟩:Ask)=a:=rfl
  have b3:c.sold.length≤100:=by omega
  have b4:c.sold.length≤100000:=by omega
  have b5:c.cabins.length≤100000:=by omega
  show Sym _ _ _ (zZ [qa c,qD a] 0 noH) (xN tyB noD Try.f66 fun S rv=>Fin S rv _ 0 (qg [(0,qm c.cabins c.secs 1),(1,ql c.sold)]) 0)
  repeat' (first|(apply nx;with_reducible constructor)|refine jq (by decide) ?_|((first|refine kz env fun Q hQ=>?_|refine kj fun Q hQ=>?_);simp only [vkt,seval,vJ,ZV,qa,qb,qD,qo,mTk,qc,qm,ql,qw,qK,VN,QL,List.length_map,ec,ea,h1,h2,b3,b4,b5];(try simp only [ite_and]);(repeat' (first|with_reducible assumption|refine And.intro ?_ ?_|intro hp));all_goals (first|(refine hQ _ ?_;clear hQ Q)|(refine hQ _ (fun h=>?_) (fun h=>?_) <;> clear hQ Q <;> (try simp only [vki,reduceCtorEq] at h))|(refine kx ?_;kernel_rfl)|omega|assumption|with_reducible rfl|skip)))
  (simp only [vrt,Try.results66,vkt,seval,vJ,ZV,qa,qb,qD,qo,mTk,qc,qm,ql,qw,qK,VN,QL,List.length_map];refine Fin.ok (fun j=>[2,3][j]?) [] ?_ ?_ ?_ ?_ ?_ rfl;all_goals (try simp only [vle,vkt,seval,vJ,ZV,qa,qb,qD,qo,mTk,qc,qm,ql,qw,qK,VN,QL,List.length_map]))
  all_goals first|rfl|(simp;done)
theorem Qd5 (c:Chart) (a:Ask) (h0:je c a ≠ 0) (hc:c.cabins.length≤maxLen) (ha:a.sexes.length≤maxLen):Fn noB Try.prog 66 [qa c,qD a] noH (.tup [.v (.pointer none),aI (je c a)]) noH 0:=by
  have env:Env (fun _=>True) Try.prog tyB (tab [(44,qU true qK),(102,qU true VN),(93,fnE QL)]):=qP ⟨Jw,eask,QfC,trivial⟩
  refine Fn.of (A:=fun _=>True) (n0:=0) (D:=noD) (Fn0 Try.func66 rfl (fun vs w=>by kernel_rfl) (by kernel_rfl)) (by simp) (by simp [AV.ids,AV.idsL,qa,qb,qD,qo]) (fun i o h=>by cases h) (fun _ _ _ _=>trivial) qF ?_
  have ec:(⟨c.cabins,c.secs,c.sold⟩:Chart)=c:=rfl
  have ea:(⟨a.party,a.frm,a.to,a.sexes,a.dog⟩:Ask)=a:=rfl
  by_cases h1:zV c=0
  · have hE:je c a=ZZ c a:=by unfold je;rw [if_neg (by rw [h1];simp)]
    rw [hE] at h0 ⊢
    have hv:=kD h1
    have b2:=hv.many
    have b3:c.sold.length≤100:=by omega
    repeat' (first|(apply nx;with_reducible constructor)|refine jq (by decide) ?_|((first|refine kz env fun Q hQ=>?_|refine kj fun Q hQ=>?_);simp only [vkt,seval,vJ,ZV,qa,qb,qD,qo,mTk,qc,qm,ql,qw,qK,VN,QL,List.length_map,ec,ea,h1,h0,b3];(try simp only [ite_and]);(repeat' (first|with_reducible assumption|refine And.intro ?_ ?_|intro hp));all_goals (first|(refine hQ _ ?_;clear hQ Q)|(refine hQ _ (fun h=>?_) (fun h=>?_) <;> clear hQ Q <;> (try simp only [vki,reduceCtorEq] at h))|(refine kx ?_;kernel_rfl)|omega|assumption|with_reducible rfl|skip)))
    (simp only [vrt,Try.results66,vkt,seval,vJ,ZV,qa,qb,qD,qo,mTk,qc,qm,ql,qw,qK,VN,QL,List.length_map];refine Fin.val rfl ?_;(try simp only [AV.le,AV.leL]))
    all_goals first|rfl|(simp;done)
  · have hE:je c a=zV c:=by unfold je;rw [if_pos h1]
    rw [hE]
    repeat' (first|(apply nx;with_reducible constructor)|refine jq (by decide) ?_|((first|refine kz env fun Q hQ=>?_|refine kj fun Q hQ=>?_);simp only [vkt,seval,vJ,ZV,qa,qb,qD,qo,mTk,qc,qm,ql,qw,qK,VN,QL,List.length_map,ec,ea,h1];(try simp only [ite_and]);(repeat' (first|with_reducible assumption|refine And.intro ?_ ?_|intro hp));all_goals (first|(refine hQ _ ?_;clear hQ Q)|(refine hQ _ (fun h=>?_) (fun h=>?_) <;> clear hQ Q <;> (try simp only [vki,reduceCtorEq] at h))|(refine kx ?_;kernel_rfl)|omega|assumption|with_reducible rfl|skip)))
    (simp only [vrt,Try.results66,vkt,seval,vJ,ZV,qa,qb,qD,qo,mTk,qc,qm,ql,qw,qK,VN,QL,List.length_map];refine Fin.val rfl ?_;(try simp only [AV.le,AV.leL]))
    all_goals first|rfl|(simp;done)
def zh (_:St):List AV→Option Pk
  |[.agg [.sl cs,.v (.int .i64 s),.sl ts],.agg [.v (.int .i64 p),.v (.int .i64 f),.v (.int .i64 t),.sl xs,.v (.bool d)]] =>
    if je ⟨cs.map qp,s,ts.map dTk⟩ ⟨p,f,t,xs.map zY,d⟩=0 then
      some { pre:=cs=(cs.map qp).map qj∧ts=(ts.map dTk).map eTk∧xs=(xs.map zY).map zX∧cs.length≤maxLen∧xs.length≤maxLen,ar:=[.agg [.sl cs,.v (.int .i64 s),.sl ts],.agg [.v (.int .i64 p),.v (.int .i64 f),.v (.int .i64 t),.sl xs,.v (.bool d)]],v:=.tup [.ptr 0 0,aI 0],L1:=(qw (cs.map qp) s (ts.map dTk)).map some }
    else some { pre:=cs=(cs.map qp).map qj∧ts=(ts.map dTk).map eTk∧xs=(xs.map zY).map zX∧cs.length≤maxLen∧xs.length≤maxLen,ar:=[.agg [.sl cs,.v (.int .i64 s),.sl ts],.agg [.v (.int .i64 p),.v (.int .i64 f),.v (.int .i64 t),.sl xs,.v (.bool d)]],v:=.tup [.v (.pointer none),aI (je ⟨cs.map qp,s,ts.map dTk⟩ ⟨p,f,t,xs.map zY,d⟩)] }
  |_=>none
theorem Xb {A:Frm→Prop}:qB A Try.prog 66 (fnE zh):=wE fun S bs q h hp=>by
  unfold zh at h
  split at h
  · rename_i cs s ts p f t xs d
    split at h
    · rename_i hE
      cases h
      obtain ⟨h1,h2,h3,h4,h5⟩:=hp
      have:=Qfs ⟨cs.map qp,s,ts.map dTk⟩ ⟨p,f,t,xs.map zY,d⟩ hE (by simpa using h4) (by simpa using h5)
      simp only [qa,qb,qD,qo,← h1,← h2,← h3] at this
      exact this
    · rename_i hE
      cases h
      obtain ⟨h1,h2,h3,h4,h5⟩:=hp
      have:=Qd5 ⟨cs.map qp,s,ts.map dTk⟩ ⟨p,f,t,xs.map zY,d⟩ hE (by simpa using h4) (by simpa using h5)
      simp only [qa,qb,qD,qo,← h1,← h2,← h3] at this
      exact this
  · cases h
end Go.Sym.B
namespace Go.Sym.B
open Go Go.Sym Go.Proofs Go.Sym.C
theorem QbW {t x:Tk} (h:YK t x=false):Zg t x=false∧Zx x t=true:=by
  have e1:decide (t.to≤x.frm)=!decide (x.frm < t.to):=by rw [← decide_not,decide_eq_decide];omega
  have e2:decide (x.to≤t.frm)=!decide (t.frm < x.to):=by rw [← decide_not,decide_eq_decide];omega
  have e3:decide (x.cab ≠ t.cab)=!decide (x.cab=t.cab):=by rw [← decide_not]
  unfold YK at h
  unfold Zg Zx Qd
  rw [e1,e2] at h
  rw [e3]
  generalize decide (x.cab=t.cab)=A at *
  generalize decide (x.frm < t.to)=B at *
  generalize decide (t.frm < x.to)=C at *
  generalize decide (x.bed=t.bed)=D at *
  generalize decide (x.party=t.party)=E at *
  generalize decide (x.sex=t.sex)=F at *
  generalize x.dog=G at *
  generalize t.dog=H at *
  clear e1 e2 e3
  revert A B C D E F G H
  decide
theorem U7 {l:List Tk} {t:Tk} (h:Z8 l t=true):ji t l=0:=by
  have hb:∀ x ∈ l,YK t x=false:=by
    unfold Z8 at h
    intro x hx
    have:l.any (YK t)=false:=by simpa using h
    have:=List.any_eq_false.1 this x hx
    simpa using this
  unfold ji
  rw [if_neg,if_neg]
  · rw [List.any_eq_true]
    rintro ⟨x,hx,h1⟩
    rw [(QbW (hb x hx)).2] at h1
    exact absurd h1 (by decide)
  · rw [List.any_eq_true]
    rintro ⟨x,hx,h1⟩
    rw [(QbW (hb x hx)).1] at h1
    exact absurd h1 (by decide)
theorem UL {cs:List Cabin} {secs:Int} {t:Tk} {l:List Tk} (h1:1≤t.party∧t.party≤99) (h2:1≤t.sex∧t.sex≤2) (h3:0≤t.cab∧t.cab.toNat < cs.length) (h4:0≤t.bed∧t.bed < (cs.getD t.cab.toNat default).beds) (h5:0≤t.frm∧t.frm < t.to∧t.to≤secs) (h6:ji t l=0) :
    zM ⟨cs,secs,[]⟩ t l=0:=by
  have b1:inB t.party 1 99=true:=jV.2 h1
  have b2:inB t.sex 1 2=true:=jV.2 h2
  have b3:vU cs t.cab t.bed=true:=by
    unfold vU
    rw [jV.2 (by omega),jV.2 (by omega)];rfl
  have b4:QX secs t.frm t.to=0:=by unfold QX;rw [if_neg (by omega)]
  unfold zM
  rw [b1,b2]
  simp only [b3,b4,h6,Bool.not_true,Bool.false_eq_true,if_false,ne_eq,not_true_eq_false]
theorem Qgu {cs:List Cabin} {secs p s1:Int} (hc:1≤cs.length∧cs.length≤3) (hb:∀ x ∈ cs,1≤x.beds∧x.beds≤3) (hs:1≤secs∧secs≤5):(vW cs secs p s1).1.party=p∧(1≤(vW cs secs p s1).1.sex∧(vW cs secs p s1).1.sex≤2)∧(0≤(vW cs secs p s1).1.cab∧(vW cs secs p s1).1.cab.toNat < cs.length) ∧
    (0≤(vW cs secs p s1).1.bed∧(vW cs secs p s1).1.bed < (cs.getD (vW cs secs p s1).1.cab.toNat default).beds)∧0≤(vW cs secs p s1).1.frm∧(vW cs secs p s1).1.frm < (vW cs secs p s1).1.to∧(vW cs secs p s1).1.to≤secs:=by
  have hn:=up2 s1 (m:=(cs.length:Int) - 1) (by omega) (by omega)
  have hnl:(upV s1 ((cs.length:Int) - 1)).toNat < cs.length:=by omega
  have hbb:=hb _ (vK (d:=default) hnl)
  obtain ⟨bb,hbv⟩:∃ q,(cs.getD (upV s1 ((cs.length:Int) - 1)).toNat default).beds=q:=⟨_,rfl⟩
  rw [hbv] at hbb
  have hbd:=up2 (upS (upS s1 ((cs.length:Int) - 1)) 1) (m:=bb - 1) (by omega) (by omega)
  have hf:=up2 (upS (upS (upS s1 ((cs.length:Int) - 1)) 1) (bb - 1)) (m:=secs - 1) (by omega) (by omega)
  have hsx:=Qi7 (upS s1 ((cs.length:Int) - 1))
  unfold sxV at hsx
  unfold vW
  simp only [hbv]
  obtain ⟨f,hfv⟩:∃ q,upV (upS (upS (upS s1 ((cs.length:Int) - 1)) 1) (bb - 1)) (secs - 1)=q:=⟨_,rfl⟩
  rw [hfv] at hf
  simp only [hfv]
  have ht:=up2 (upS (upS (upS (upS (upS s1 ((cs.length:Int) - 1)) 1) (bb - 1)) (secs - 1)) 7) (m:=secs - (f+1)) (by omega) (by omega)
  generalize upV (upS (upS (upS (upS (upS s1 ((cs.length:Int) - 1)) 1) (bb - 1)) (secs - 1)) 7) (secs - (f+1))=tt at ht ⊢
  generalize upV (upS (upS s1 ((cs.length:Int) - 1)) 1) (bb - 1)=bd at hbd ⊢
  refine ⟨trivial,hsx,⟨hn.1,hnl⟩,⟨hbd.1,by omega⟩,hf.1,by omega,by omega⟩
theorem QeI {cs:List Cabin} {secs x:Int} (hc:1≤cs.length∧cs.length≤3) (hb:∀ x ∈ cs,1≤x.beds∧x.beds≤3) (hs:1≤secs∧secs≤5):∀ k,k≤8 →
    (∀ i,i < (tkK cs secs x k).2.1.length→zM ⟨cs,secs,[]⟩ ((tkK cs secs x k).2.1.getD i default) ((tkK cs secs x k).2.1.take i)=0)∧∀ t ∈ (tkK cs secs x k).2.1,t.party≤24
  |0,_=>by simp [tkK]
  |k+1,hk=>by
    obtain ⟨ih1,ih2⟩:=QeI (x:=x) hc hb hs k (by omega)
    obtain ⟨h1,h2,h3⟩:=KX cs secs x k
    rw [tkK]
    simp only
    obtain ⟨⟨p,l,s⟩,hK⟩:∃ q,tkK cs secs x k=q:=⟨_,rfl⟩
    rw [hK] at ih1 ih2 h1 h2 h3 ⊢
    simp only at ih1 ih2 h1 h2 h3 ⊢
    have h4:=Qii (s:=s) h1
    obtain ⟨⟨p1,s1⟩,hA⟩:∃ q,pA p s=q:=⟨_,rfl⟩
    rw [hA] at h4 ⊢
    simp only at h4 ⊢
    obtain ⟨g1,g2,g3,g4,g5⟩:=Qgu (p:=p1) (s1:=s1) hc hb hs
    obtain ⟨⟨T,s7⟩,hT⟩:∃ q,vW cs secs p1 s1=q:=⟨_,rfl⟩
    rw [hT] at g1 g2 g3 g4 g5 ⊢
    simp only at g1 g2 g3 g4 g5 ⊢
    split
    · rename_i hg
      refine ⟨fun i hi=>?_,fun t ht=>?_⟩
      · rw [List.length_append,List.length_singleton] at hi
        rcases Nat.lt_or_eq_of_le (Nat.le_of_lt_succ hi) with h|h
        · have:=ih1 i h
          rw [List.getD_eq_getElem?_getD,List.getElem?_append_left h,← List.getD_eq_getElem?_getD,List.take_append_of_le_length (by omega)]
          exact this
        · subst h
          rw [show (l++[T]).getD l.length default=T by simp [List.getD_eq_getElem?_getD],List.take_append_of_le_length (Nat.le_refl _),List.take_length]
          exact UL (by omega) g2 g3 g4 g5 (U7 hg)
      · rcases List.mem_append.1 ht with ht|ht
        · exact ih2 t ht
        · rw [List.mem_singleton.1 ht];omega
    · exact ⟨ih1,ih2⟩
theorem co_ok {x a g s:Int} (ha:1≤a∧a≤3) (hg:1≤g∧g≤5) (hs:0≤s∧s≤8):zV (coC x a g s)=0∧(∀ t ∈ (coC x a g s).sold,t.party≤24)∧((coC x a g s).sold.length:Int)≤s∧((coC x a g s).cabins.length:Int)≤a∧(coC x a g s).secs≤g:=by
  have hsc:=up2 x (m:=g - 1) (by omega) (by omega)
  have hsb:1≤QO x g∧QO x g≤g:=by unfold QO;omega
  have hnc:=up2 (Xo x g) (m:=a - 1) (by omega) (by omega)
  have hcab:((vY x g a).1.length:Int)≤a∧1≤(vY x g a).1.length∧∀ c ∈ (vY x g a).1,1≤c.beds∧c.beds≤3:=by
    unfold vY
    obtain ⟨h1,h2⟩:=KS (upS (Xo x g) (a - 1)) (1+upV (Xo x g) (a - 1)).toNat
    refine ⟨by rw [h1];omega,by rw [h1];omega,h2⟩
  obtain ⟨hc0,hc1,hc2⟩:=hcab
  have hnt:=up2 (vY x g a).2 (m:=s) (by omega) (by omega)
  have htk:(Qdo x g a s)=tkK (vY x g a).1 (QO x g) (upS (vY x g a).2 s) (upV (vY x g a).2 s).toNat:=rfl
  obtain ⟨k1,k2⟩:=QeI (x:=upS (vY x g a).2 s) (cs:=(vY x g a).1) (secs:=QO x g) (by omega) hc2 (by omega) (upV (vY x g a).2 s).toNat (by omega)
  obtain ⟨k3,k4,k5⟩:=KX (vY x g a).1 (QO x g) (upS (vY x g a).2 s) (upV (vY x g a).2 s).toNat
  rw [← htk] at k1 k2 k5
  unfold coC
  simp only
  generalize vY x g a=C at *
  generalize QO x g=S at *
  generalize (Qdo x g a s).2.1=T at *
  refine ⟨?_,k2,by omega,hc0,hsb.2⟩
  have hcar:ZR ⟨C.1,S,T⟩=0:=by
    unfold ZR
    have b1:wI (C.1.length:Int) 1 3=0:=by unfold wI;rw [if_neg (by omega),if_neg (by omega)]
    have b2:ym (C.1.map ku)=0:=xB fun j hj=>by
      rw [List.length_map] at hj
      rw [List.getD_eq_getElem?_getD,List.getElem?_map,List.getElem?_eq_getElem hj]
      have:=hc2 C.1[j] (List.getElem_mem hj)
      show ku C.1[j]=0
      unfold ku
      rw [jV.2 this];rfl
    have b3:inB S 1 5=true:=jV.2 (by omega)
    have b4:wI (T.length:Int) 0 8=0:=by unfold wI;rw [if_neg (by omega),if_neg (by omega)]
    simp only [b1,b2,b3,b4,ne_eq,not_true_eq_false,if_false,Bool.not_true,Bool.false_eq_true]
  unfold zV
  rw [hcar]
  rw [if_neg (by decide)]
  unfold yC
  refine xB fun j hj=>?_
  rw [List.length_map,List.length_range] at hj
  rw [List.getD_eq_getElem?_getD,List.getElem?_map,List.getElem?_range hj]
  exact k1 j hj
end Go.Sym.B
namespace Go.Sym.B
open Go Go.Sym Go.Proofs Go.Sym.C
theorem Yk (L:List AObj):nth L=qg (qO 0 L):=by
  funext i
  rw [jB]
  simp [nth]
def plL (c:Chart) (a:Ask):List AObj:=[qm c.cabins c.secs 1,ql c.sold,.cells [.ptr 0 0],.cells (qo a)]
def plP (c:Chart) (a:Ask):List (List Bunk × List Tk):=wU c.cabins a a.sexes.length c.sold []
def plY (c:Chart) (a:Ask) (j:Nat):List AV:=[qd ((plP c a).getD j default).1]
def plH (c:Chart) (a:Ask) (j:Nat):List AObj:=qw c.cabins c.secs ((plP c a).getD j default).2
structure PlOk (c:Chart) (a:Ask):Prop where
  val:Val c
  sx:a.sexes.length≤3
theorem pl_ok {c:Chart} {a:Ask} (h:PlOk c a) {ans:Nat→Bool} {R:Nat} (hr:Rounds ans R (plP c a).length):GrowOk c.cabins c.secs a a.sexes.length c.sold [] (plY c a) (plH c a) ans R:=by
  have h1:=h.val.car.cabs
  have h2:=h.val.many
  have h3:=h.sx
  exact ⟨by simp,by omega,⟨by omega,fun x hx=>by have:=h.val.car.beds x hx;omega⟩,by omega,by omega,(by simp),hr,fun _ _=>rfl,fun _ _=>rfl⟩
def ZG (c:Chart) (a:Ask) (ys:Nat→List AV) (hl:Nat→List AObj) (ans:Nat→Bool) (R:Nat) (S:St):List AV→Option PkI
  |[.ptr p 0,.agg aa,.nil,.cb]=>match S.h p with
    |some (.cells [.sl cc,.v (.int .i64 s'),.row r])=>match S.h r with
      |some (.row _ _ xs)=>some { q:={ pre:=cc=c.cabins.map qj∧s'=c.secs∧aa=qo a∧xs=c.sold.map eTk∧S.j=0∧GrowOk c.cabins c.secs a a.sexes.length c.sold [] ys hl ans R,hs:=[p,r],ar:=[.ptr 0 0,qD a,qd [],.cb],L0:=qw c.cabins c.secs c.sold,v:=aB (Qj ans R),L1:=(qw c.cabins c.secs c.sold).map some },dj:=R }
      |_=>none
    |_=>none
  |_=>none
theorem Qis {A:Frm→Prop} {c:Chart} {a:Ask} {ys:Nat→List AV} {hl:Nat→List AObj} {ans:Nat→Bool} {R:Nat} {h0:Nat→Option AObj} (hA:∀ F,A F→Acb Try.prog (qg (qO 0 [qm c.cabins c.secs 1])) h0 ys (fun j=>nth (hl j)) ans R F) :
    qB A Try.prog 115 (fnI [qm c.cabins c.secs 1] R (ZG c a ys hl ans R)):=Ud hA fun S bs q h hp=>by
  unfold ZG at h
  split at h
  · split at h
    · split at h
      · cases h
        obtain ⟨_,_,_,_,h4,h6⟩:=hp
        have:=Qab _ _ _ _ _ _ _ _ _ _ h6
        simp only [h4,Nat.zero_add]
        exact this
      · cases h
    · cases h
  · cases h
theorem KY {c:Chart} {a:Ask}:∀ i o,qg (qO 0 (plL c a)) i=some o→i < 4∧∀ id ∈ o.ids,id < 4:=by
  intro i o hi
  have h:=qV hi
  simp [qO,plL] at h
  rcases h with ⟨rfl,rfl⟩|⟨rfl,rfl⟩|⟨rfl,rfl⟩|⟨rfl,rfl⟩ <;> simp [AObj.ids,AV.ids,AV.idsL,qm,ql,qo]
def Zf:=kk @JE (kk @Zu (kk @Wm.eq_1 @Qv.eq_1))
def WY:=kk @aI.eq_1 (@aB.eq_1)
theorem Jd {c:Chart} {a:Ask} (h:PlOk c a):QbY Try.prog 114 [.cb,.ptr 2 0,.ptr 3 0] (nth ((plL c a).take 1)) (nth (plL c a)) (plY c a) (plP c a).length (fun j=>nth (plH c a j)) (fun _ _=>.tup []):=by
  intro ans R hr
  have ok:=pl_ok h hr
  rw [Yk,Yk]
  obtain ⟨A0,hA0⟩:∃ A0:Frm→Prop,A0=Acb Try.prog (qg (qO 0 [qm c.cabins c.secs 1])) (qg (qO 0 (plL c a))) (plY c a) (fun j=>nth (plH c a j)) ans R:=⟨_,rfl⟩
  have hA:∀ F,A0 F→Acb Try.prog (qg (qO 0 [qm c.cabins c.secs 1])) (qg (qO 0 (plL c a))) (plY c a) (fun j=>nth (plH c a j)) ans R F:=fun F h=>hA0 ▸ h
  have env:Env A0 Try.prog tyB (tab [(115,fnI [qm c.cabins c.secs 1] R (ZG c a (plY c a) (plH c a) ans R))]):=qP ⟨Qis hA,trivial⟩
  refine Fn.of (A:=A0) (n0:=4) (D:=noD) (Fn0 Try.func114 rfl (fun vs w=>by kernel_rfl) (by kernel_rfl)) (by simp) (by simp [AV.ids]) KY (fun F hb h0 _=>hA0 ▸ ⟨h0,Qfj,hb⟩) qF ?_
  show Sym _ _ _ (zZ [.cb,.ptr 2 0,.ptr 3 0] 4 (qg [(0,qm c.cabins c.secs 1),(1,ql c.sold),(2,.cells [.ptr 0 0]),(3,.cells (qo a))])) (xN tyB noD Try.f114 fun S rv=>Fin S rv _ 4 (qg [(0,qm c.cabins c.secs 1),(1,ql c.sold),(2,.cells [.ptr 0 0]),(3,.cells (qo a))]) R)
  repeat' (first|(apply nx;with_reducible constructor)|refine jq (by decide) ?_|((first|refine kz env fun Q hQ=>?_|refine kj fun Q hQ=>?_);simp only [vkt,seval,Zf,WY,qD,qo,qd,mTk,qc,qm,ql,qw,plL,ZG,List.length_map,fnI,ww,qW,nth,hwL,Nat.zero_add,Nat.sub_zero,List.map_nil,ok];(try simp only [ite_and]);(repeat' (first|with_reducible assumption|refine And.intro ?_ ?_|intro hp));all_goals (first|(refine hQ _ ?_;clear hQ Q)|(refine hQ _ (fun h=>?_) (fun h=>?_) <;> clear hQ Q <;> (try simp only [vki,reduceCtorEq] at h))|(refine kx ?_;kernel_rfl)|omega|assumption|with_reducible rfl|skip)))
  (simp only [vrt,Try.results114,vkt,seval,Zf,WY,qD,qo,qd,mTk,qc,qm,ql,qw,plL,ZG,List.length_map,fnI,ww,qW,nth,hwL,Nat.zero_add,Nat.sub_zero,List.map_nil];refine Fin.ok some [] ?_ ?_ ?_ ?_ ?_ rfl;all_goals (try simp only [vle,vkt,seval,Zf,WY,qD,qo,qd,mTk,qc,qm,ql,qw,plL,ZG,List.length_map,fnI,ww,qW,nth,hwL,Nat.zero_add,Nat.sub_zero,List.map_nil]))
  all_goals first|rfl|(simp;done)
theorem QdL (c:Chart) (a:Ask):Fn noB Try.prog 68 [.ptr 0 0,qD a] (qg (qO 0 (qw c.cabins c.secs c.sold))) (.clo 114 [.ptr 2 0,.ptr 3 0]) (qg (wH 0 ((plL c a).map some))) 0:=by
  have env:Env (fun _=>True) Try.prog tyB (tab []):=qP trivial
  refine Fn.of (A:=fun _=>True) (n0:=2) (D:=noD) (Fn0 Try.func68 rfl (fun vs w=>by kernel_rfl) (by kernel_rfl)) (by simp) (by simp [AV.ids,AV.idsL,qD,qo]) kL (fun _ _ _ _=>trivial) qF ?_
  show Sym _ _ _ (zZ [.ptr 0 0,qD a] 2 (qg [(0,qm c.cabins c.secs 1),(1,ql c.sold)])) (xN tyB noD Try.f68 fun S rv=>Fin S rv _ 2 (qg [(0,qm c.cabins c.secs 1),(1,ql c.sold),(2,.cells [.ptr 0 0]),(3,.cells (qo a))]) 0)
  repeat' (first|(apply nx;with_reducible constructor)|refine jq (by decide) ?_|((first|refine kz env fun Q hQ=>?_|refine kj fun Q hQ=>?_);simp only [vkt,seval,WY,qD,qo,qd,mTk,qc,qm,ql,qw,plL,ZG,List.length_map,fnI,ww,qW,nth,hwL,Nat.zero_add,Nat.sub_zero,List.map_nil];(try simp only [ite_and]);(repeat' (first|with_reducible assumption|refine And.intro ?_ ?_|intro hp));all_goals (first|(refine hQ _ ?_;clear hQ Q)|(refine hQ _ (fun h=>?_) (fun h=>?_) <;> clear hQ Q <;> (try simp only [vki,reduceCtorEq] at h))|(refine kx ?_;kernel_rfl)|omega|assumption|with_reducible rfl|skip)))
  (simp only [vrt,Try.results68,vkt,seval,WY,qD,qo,qd,mTk,qc,qm,ql,qw,plL,ZG,List.length_map,fnI,ww,qW,nth,hwL,Nat.zero_add,Nat.sub_zero,List.map_nil];refine Fin.ok some [] ?_ ?_ ?_ ?_ ?_ rfl;all_goals (try simp only [vle,vkt,seval,WY,qD,qo,qd,mTk,qc,qm,ql,qw,plL,ZG,List.length_map,fnI,ww,qW,nth,hwL,Nat.zero_add,Nat.sub_zero,List.map_nil]))
  all_goals first|rfl|(simp;done)|exact fun i hi=>(match i,hi with|0,_=>rfl|1,_=>rfl)
def qL (S:St):List AV→Option Pk
  |[.ptr p 0,.agg [.v (.int .i64 a0),.v (.int .i64 a1),.v (.int .i64 a2),.sl a3,.v (.bool a4)]]=>match S.h p with
    |some (.cells [.sl cs,.v (.int .i64 s),.row r])=>match S.h r with
      |some (.row _ _ xs)=>some { pre:=cs=(cs.map qp).map qj∧xs=(xs.map dTk).map eTk∧a3=(a3.map zY).map zX,hs:=[p,r],ar:=[.ptr 0 0,.agg [.v (.int .i64 a0),.v (.int .i64 a1),.v (.int .i64 a2),.sl a3,.v (.bool a4)]],L0:=qw (cs.map qp) s (xs.map dTk),v:=.clo 114 [.ptr 2 0,.ptr 3 0],L1:=(plL ⟨cs.map qp,s,xs.map dTk⟩ ⟨a0,a1,a2,a3.map zY,a4⟩).map some }
      |_=>none
    |_=>none
  |_=>none
theorem Vu {A:Frm→Prop}:qB A Try.prog 68 (fnE qL):=wE fun S bs q h hp=>by
  unfold qL at h
  split at h
  · rename_i a0 a1 a2 a3 a4
    split at h
    · split at h
      · rename_i cs s _ _ _ _ _ xs _
        cases h
        obtain ⟨h1,h2,h3⟩:=hp
        have:=QdL ⟨cs.map qp,s,xs.map dTk⟩ ⟨a0,a1,a2,a3.map zY,a4⟩
        simp only [qD,qo,← h3] at this
        exact this
      · cases h
    · cases h
  · cases h
end Go.Sym.B
namespace Go.Sym.B
open Go Go.Sym Go.Proofs Go.Sym.C
theorem RO {N:Nat}:Rounds (fun _=>true) N N:=⟨Nat.le_refl _,fun _ _=>rfl,fun h=>absurd h (Nat.lt_irrefl _)⟩
theorem Qee {α β:Type} {f:α→List β} {M:Nat}:∀ {l:List α},(∀ a ∈ l,(f a).length≤M)→(l.flatMap f).length≤l.length * M
  |[],_=>by simp
  |a :: l,h=>by
    have h1:=Qee (l:=l) fun b hb=>h b (List.mem_cons_of_mem _ hb)
    have h2:=h a List.mem_cons_self
    rw [List.flatMap_cons,List.length_append,List.length_cons,Nat.succ_mul];omega
theorem Qai (cs:List Cabin) (a:Ask) {K:Nat} (hK:(qQ cs).length≤K):∀ (m:Nat) (sold:List Tk) (begun:List Bunk),(wU cs a m sold begun).length≤K ^ m
  |0,_,_=>by simp [wU]
  |m+1,sold,begun=>by
    have h1:(wU cs a (m+1) sold begun).length≤(qQ cs).length * K ^ m:=Qee fun b _=>by
      split
      · exact Qai cs a hK m _ _
      · simp
    rw [Nat.pow_succ,Nat.mul_comm (K ^ m) K]
    exact Nat.le_trans h1 (Nat.mul_le_mul_right _ hK)
theorem Qel {cs:List Cabin} (h1:cs.length≤3) (h2:∀ x ∈ cs,x.beds≤3):(qQ cs).length≤9:=by
  rw [J7]
  refine Nat.le_trans (Qee (M:=3) fun i hi=>?_) (by rw [List.length_range];omega)
  rw [List.length_map,List.length_range]
  have:=h2 _ (vK (d:=default) (List.mem_range.1 hi))
  omega
theorem Qbr {c:Chart} {a:Ask} (h:PlOk c a):(plP c a).length≤729:=by
  have h1:=Qai c.cabins a (Qel h.val.car.cabs.2 fun x hx=>(h.val.car.beds x hx).2) a.sexes.length c.sold []
  refine Nat.le_trans h1 ?_
  have:=h.sx
  exact Nat.le_trans (Nat.pow_le_pow_right (by omega) this) (by decide)
def plR (c:Chart) (a:Ask) (j:Nat):List (List DV):=((plP c a).take j).map fun x=>qG x.1
theorem QeL {c:Chart} {a:Ask} {j:Nat} (h:j < (plP c a).length):plR c a (j+1)=plR c a j++[qG ((plP c a).getD j default).1]:=by
  unfold plR
  rw [List.take_succ_eq_append_getElem h,List.map_append]
  simp [List.getD_eq_getElem?_getD,h]
theorem JI (c:Chart) (a:Ask) (j:Nat):zT 1 (plR c a j)=True:=by
  unfold plR
  exact vD (f:=fun x:List Bunk × List Tk=>qG x.1) (k:=1) (fun _=>rfl) _
def aqL:List (Nat × AV):=[(2,.ptr 4 0)]
def aqL0:List (Nat × AV):=[(2,.ptr 4 0),(6,.clo 114 [.ptr 2 0,.ptr 3 0])]
def aqH (c:Chart) (a:Ask) (j:Nat):List (Nat × AObj):=[(4,.cells [.row 5]),(5,.row 37 1 (plR c a j))]
theorem Ur (c:Chart) (a:Ask):zl [0,1,2,3] 7 0 (plL c a)=[(0,qm c.cabins c.secs 1),(1,ql c.sold),(2,.cells [.ptr 0 0]),(3,.cells (qo a))]:=by
  simp [zl,plL,qy,AObj.ren,AV.renL,AV.ren,qm,ql,qo]
theorem RP (c:Chart) (a:Ask) (j:Nat):zl [0] 7 0 (plH c a j)=[(0,qm c.cabins c.secs 7),(7,ql ((plP c a).getD j default).2)]:=by
  simp [zl,plH,qw,qy,AObj.ren,AV.renL,AV.ren,qm,ql]
def jG:=kk @ty33 (kk @J8 (kk @Qbb.eq_1 @WF.eq_1))
def ZI:=kk @aI.eq_1 (@aB.eq_1)
theorem QdA {c:Chart} {a:Ask} (h:PlOk c a):Fn noB Try.prog 113 [.nil,.clo 114 [.ptr 2 0,.ptr 3 0]] (qg (qO 0 (plL c a))) (.row 4) (qg (wH 0 ((plL c a).map some++[some (.row 37 1 (plR c a (plP c a).length))]))) 0:=by
  have env:Env (fun F=>F.r=none) Try.prog tyB (tab []):=qP trivial
  refine Fn.of (A:=fun F=>F.r=none) (n0:=4) (D:=noD) (Fn0 Try.func113 rfl (fun vs w=>by kernel_rfl) (by kernel_rfl)) (by simp) (by simp [AV.ids,AV.idsL]) KY (fun _ _ _ h=>h) qF ?_
  have hbd:=Qbr h
  have hm:(729:Nat)+1≤maxLen:=by decide
  obtain ⟨N,hN⟩:∃ N,(plP c a).length=N:=⟨_,rfl⟩
  rw [hN] at hbd ⊢
  show Sym _ _ _ (zZ [.nil,.clo 114 [.ptr 2 0,.ptr 3 0]] 4 (qg [(0,qm c.cabins c.secs 1),(1,ql c.sold),(2,.cells [.ptr 0 0]),(3,.cells (qo a))])) (xN tyB noD Try.f113 fun S rv=>Fin S rv _ 4 (qg [(0,qm c.cabins c.secs 1),(1,ql c.sold),(2,.cells [.ptr 0 0]),(3,.cells (qo a)),(4,.row 37 1 (plR c a N))]) 0)
  repeat' (first|(apply nx;with_reducible constructor)|refine jq (by decide) ?_|((first|refine kz env fun Q hQ=>?_|refine kj fun Q hQ=>?_);simp only [vkt,seval,jG,ZI,qd,qG,qm,ql,qw,plL,aqL,JI,List.length_map,nth,hwL,Nat.zero_add,Nat.sub_zero];(try simp only [ite_and]);(repeat' (first|with_reducible assumption|refine And.intro ?_ ?_|intro hp));all_goals (first|(refine hQ _ ?_;clear hQ Q)|(refine hQ _ (fun h=>?_) (fun h=>?_) <;> clear hQ Q <;> (try simp only [vki,reduceCtorEq] at h))|(refine kx ?_;kernel_rfl)|omega|assumption|with_reducible rfl|skip)))
  refine xy (S':={ t:=asg aqL0,h:=qg (aqH c a 0++[(0,qm c.cabins c.secs 1),(1,ql c.sold),(2,.cells [.ptr 0 0]),(3,.cells (qo a))]),n:=6,j:=0,d:=[],m:=4 }) ?_ ?_
  · show Le _ { t:=asg [(2,.ptr 4 0),(6,.clo 114 [.ptr 2 0,.ptr 3 0])],h:=qg [(4,.cells [.row 5]),(5,.row 37 1 []),(0,qm c.cabins c.secs 1),(1,ql c.sold),(2,.cells [.ptr 0 0]),(3,.cells (qo a))],n:=6,j:=0,d:=[],m:=4 }
    (refine Le.ok (fun i=>if i=5 then none else some i) [] ?_;constructor;all_goals (try simp only [vle,vkt,seval,jG,ZI,qd,qG,qm,ql,qw,plL,aqL,JI,List.length_map,nth,hwL,Nat.zero_add,Nat.sub_zero]))
    all_goals first|rfl|(simp [qo,AV.leL,AV.le,AV.idsL,AV.ids];done)|(intro i hi;rw [if_neg (by omega)];done)
  rw [← Ur c a]
  refine vH (fun F h=>h) 1 (L:=aqL0) (L':=aqL) (xs:=[1,2,3]) (hs:=[0,1,2,3]) (n:=6) (nl:=1) (hc:=aqH c a) (Lp:=plL c a) (jj:=fun _=>0) (d:=[]) (ys:=plY c a) (hl:=plH c a) (ans:=fun _=>true) (ex:=.ret) (caps:=[.ptr 2 0,.ptr 3 0]) (caps0:=[.ptr 2 0,.ptr 3 0]) (N:=(plP c a).length) (R:=N) (A':=fun _ _=>True) rfl (Jd h) (by rw [hN];exact RO) (.inl rfl) ?_ ?_ ?_ rfl (by simp) ?_ (by simp) (fun _ _ _ _ _ _=>trivial) ?_ ?_ ?_ ?_ ?_ ?_ (fun j hj=>?_) ?_ (fun j hj=>?_) (fun _=>?_) (fun _ h=>by cases h)
  · simp [AV.leL,AV.le]
  · simp [AV.nocbL,AV.nocb]
  · simp [Wx,plL,qm,ql,qo,AObj.nocb,AV.nocbL,AV.nocb,AObj.ids,AV.ids,AV.idsL,AObj.ren,AV.renL,AV.ren,AObj.le,AV.leL,AV.le,qy]
  · simp [aqH,qg]
  · simp [aqH,qg]
  · simp [aqH,AObj.ids,AV.ids,AV.idsL]
  · simp [Ui,aqL,aqL0,asg,upd]
  · simp [Qbl]
  · intro j hj
    simp [absent,aqH,RP]
  · simp [JZ,aqL,AV.ids]
  · refine ⟨?_,rfl, ?_, ?_,rfl, ?_⟩
    · simp [Qw,aqH,AObj.ids,AV.ids,AV.idsL]
    · simp [Wi,plH,qw,qm,ql,AObj.nocb,AV.nocbL,AV.nocb,AObj.ids,AV.ids,AV.idsL]
    · simp [Vf,plY,qd,AV.nocb,AV.ids]
    · simp [Qp,WV,RP,aqH,aqL,xJ,AV.ids,ADf.ids,List.range_succ]
  · simp [Qw,aqH,AObj.ids,AV.ids,AV.idsL]
  · have env:Env (fun _:Frm=>True) Try.prog tyB (tab []):=qP trivial
    obtain ⟨x,hx⟩:∃ x,((plP c a).getD j default).1=x:=⟨_,rfl⟩
    have hS:=QeL (c:=c) (a:=a) (j:=j) (by omega)
    rw [hx] at hS
    have hl:(plR c a j).length≤729:=by simp [plR];omega
    have hl1:(plR c a j).length+1≤maxLen:=by omega
    have hst:jo aqL [7] [0] 6 1 (plY c a j) (aqH c a j) (plH c a j)={ t:=asg [(7,qd x),(2,.ptr 4 0)],h:=qg [(6,.mark),(4,.cells [.row 5]),(5,.row 37 1 (plR c a j)),(0,qm c.cabins c.secs 7),(7,ql ((plP c a).getD j default).2)],n:=8,m:=8 }:=by
      simp only [jo,RP,plY,hx,qd,List.map_cons,List.map_nil,AV.ren,List.zip_cons_cons,List.zip_nil_right,aqH,aqL,Zc,List.cons_append,List.nil_append]
      rfl
    show Sym _ _ _ (jo aqL [7] [0] 6 1 (plY c a j) (aqH c a j) (plH c a j)) _
    rw [hst]
    obtain ⟨r,hr⟩:∃ r,((plP c a).getD j default).2=r:=⟨_,rfl⟩
    rw [hr]
    repeat' (first|(apply nx;with_reducible constructor)|refine jq (by decide) ?_|((first|refine kz env fun Q hQ=>?_|refine kj fun Q hQ=>?_);simp only [vkt,seval,jG,ZI,qd,qG,qm,ql,qw,plL,aqL,JI,List.length_map,nth,hwL,Nat.zero_add,Nat.sub_zero,hl1];(try simp only [ite_and]);(repeat' (first|with_reducible assumption|refine And.intro ?_ ?_|intro hp));all_goals (first|(refine hQ _ ?_;clear hQ Q)|(refine hQ _ (fun h=>?_) (fun h=>?_) <;> clear hQ Q <;> (try simp only [vki,reduceCtorEq] at h))|(refine kx ?_;kernel_rfl)|omega|assumption|with_reducible rfl|skip)))
    refine ⟨rfl,rfl,(fun i=>if i=5 then some 9 else some i),_,RFin.okQ (fun i=>if i=5 then some 9 else some i) [] ?_⟩
    constructor
    all_goals (try simp only [vle,xH,xe,qy,plH,aqH,hr,hS,qG,vkt,seval,jG,ZI,qd,qG,qm,ql,qw,plL,aqL,JI,List.length_map,nth,hwL,Nat.zero_add,Nat.sub_zero])
    all_goals first|rfl|(simp;done)|(simp [aqL,xJ,AV.ids,ADf.ids,List.range_succ];done)
  · have eh:qg ((6,AObj.mark) :: aqH c a N++zl [0,1,2,3] (6+1) 0 (plL c a))=qg [(6,.mark),(4,.cells [.row 5]),(5,.row 37 1 (plR c a N)),(0,qm c.cabins c.secs 1),(1,ql c.sold),(2,.cells [.ptr 0 0]),(3,.cells (qo a))]:=by
      rw [show zl [0,1,2,3] (6+1) 0 (plL c a)=zl [0,1,2,3] 7 0 (plL c a) from rfl,Ur];rfl
    rw [eh]
    repeat' (first|(apply nx;with_reducible constructor)|refine jq (by decide) ?_|((first|refine kz env fun Q hQ=>?_|refine kj fun Q hQ=>?_);simp only [vkt,seval,jG,ZI,qd,qG,qm,ql,qw,plL,aqL,JI,List.length_map,nth,hwL,Nat.zero_add,Nat.sub_zero];(try simp only [ite_and]);(repeat' (first|with_reducible assumption|refine And.intro ?_ ?_|intro hp));all_goals (first|(refine hQ _ ?_;clear hQ Q)|(refine hQ _ (fun h=>?_) (fun h=>?_) <;> clear hQ Q <;> (try simp only [vki,reduceCtorEq] at h))|(refine kx ?_;kernel_rfl)|omega|assumption|with_reducible rfl|skip)))
    (simp only [vrt,Try.results113,vkt,seval,jG,ZI,qd,qG,qm,ql,qw,plL,aqL,JI,List.length_map,nth,hwL,Nat.zero_add,Nat.sub_zero];refine Fin.ok (fun j=>[0,1,2,3,5][j]?) [] ?_ ?_ ?_ ?_ ?_ rfl;all_goals (try simp only [vle,vkt,seval,jG,ZI,qd,qG,qm,ql,qw,plL,aqL,JI,List.length_map,nth,hwL,Nat.zero_add,Nat.sub_zero]))
    all_goals first|rfl|(simp [qo,AV.leL,AV.le];done)|exact fun i hi=>(match i,hi with|0,_=>rfl|1,_=>rfl|2,_=>rfl|3,_=>rfl)
end Go.Sym.B
namespace Go.Sym.B
open Go Go.Sym Go.Proofs Go.Sym.C
def Jf (c:Chart) (a:Ask) (S:St):List AV→Option Pk
  |[.nil,.clo f [.ptr p2 0,.ptr p3 0]]=>match S.h p2 with
    |some (.cells [.ptr p 0])=>match S.h p with
      |some (.cells [_,_,.row r])=>some { pre:=f=114∧PlOk c a,hs:=[p,r,p2,p3],ar:=[.nil,.clo 114 [.ptr 2 0,.ptr 3 0]],L0:=plL c a,v:=.row 4,L1:=(plL c a).map some++[some (.row 37 1 (plR c a (plP c a).length))] }
      |_=>none
    |_=>none
  |_=>none
theorem QhO {A:Frm→Prop} {c:Chart} {a:Ask}:qB A Try.prog 113 (fnE (Jf c a)):=wE fun S bs q h hp=>by
  unfold Jf at h
  split at h
  · split at h
    · split at h
      · cases h;exact QdA hp.2
      · cases h
    · cases h
  · cases h
def Rj:=kk @aI.eq_1 (@aB.eq_1)
theorem Qat {c:Chart} {a:Ask} (h:PlOk c a):Fn noB Try.prog 67 [.clo 114 [.ptr 2 0,.ptr 3 0]] (qg (qO 0 (plL c a))) (.row 4) (qg (wH 0 ((plL c a).map some++[some (.row 37 1 (plR c a (plP c a).length))]))) 0:=by
  have env:Env (fun _=>True) Try.prog tyB (tab [(113,fnE (Jf c a))]):=qP ⟨QhO,trivial⟩
  refine Fn.of (A:=fun _=>True) (n0:=4) (D:=noD) (Fn0 Try.func67 rfl (fun vs w=>by kernel_rfl) (by kernel_rfl)) (by simp) (by simp [AV.ids,AV.idsL]) KY (fun _ _ _ _=>trivial) qF ?_
  obtain ⟨X,hX⟩:∃ X,plR c a (plP c a).length=X:=⟨_,rfl⟩
  rw [hX]
  show Sym _ _ _ (zZ [.clo 114 [.ptr 2 0,.ptr 3 0]] 4 (qg [(0,qm c.cabins c.secs 1),(1,ql c.sold),(2,.cells [.ptr 0 0]),(3,.cells (qo a))])) (xN tyB noD Try.f67 fun S rv=>Fin S rv _ 4 (qg [(0,qm c.cabins c.secs 1),(1,ql c.sold),(2,.cells [.ptr 0 0]),(3,.cells (qo a)),(4,.row 37 1 X)]) 0)
  repeat' (first|(apply nx;with_reducible constructor)|refine jq (by decide) ?_|((first|refine kz env fun Q hQ=>?_|refine kj fun Q hQ=>?_);simp only [vkt,seval,Rj,qo,qm,ql,plL,Jf,List.length_map,h,hX];(try simp only [ite_and]);(repeat' (first|with_reducible assumption|refine And.intro ?_ ?_|intro hp));all_goals (first|(refine hQ _ ?_;clear hQ Q)|(refine hQ _ (fun h=>?_) (fun h=>?_) <;> clear hQ Q <;> (try simp only [vki,reduceCtorEq] at h))|(refine kx ?_;kernel_rfl)|omega|assumption|with_reducible rfl|skip)))
  (simp only [vrt,Try.results67,vkt,seval,Rj,qo,qm,ql,plL,Jf,List.length_map];refine Fin.ok some [] ?_ ?_ ?_ ?_ ?_ rfl;all_goals (try simp only [vle,vkt,seval,Rj,qo,qm,ql,plL,Jf,List.length_map]))
  all_goals first|rfl|(simp [qo,AV.leL,AV.le];done)|exact fun i hi=>(match i,hi with|0,_=>rfl|1,_=>rfl|2,_=>rfl|3,_=>rfl)
def x9 (c:Chart) (a:Ask) (S:St):List AV→Option Pk
  |[.clo f [.ptr p2 0,.ptr p3 0]]=>match S.h p2 with
    |some (.cells [.ptr p 0])=>match S.h p with
      |some (.cells [_,_,.row r])=>some { pre:=f=114∧PlOk c a,hs:=[p,r,p2,p3],ar:=[.clo 114 [.ptr 2 0,.ptr 3 0]],L0:=plL c a,v:=.row 4,L1:=(plL c a).map some++[some (.row 37 1 (plR c a (plP c a).length))] }
      |_=>none
    |_=>none
  |_=>none
theorem QfD {A:Frm→Prop} {c:Chart} {a:Ask}:qB A Try.prog 67 (fnE (x9 c a)):=wE fun S bs q h hp=>by
  unfold x9 at h
  split at h
  · split at h
    · split at h
      · cases h;exact Qat hp.2
      · cases h
    · cases h
  · cases h
theorem QeW {c:Chart} {a:Ask} (h:ZZ c a=0):a.sexes.length≤3∧1≤a.sexes.length:=by
  unfold ZZ at h
  split at h
  · exact absurd h (by decide)
  split at h
  · exact absurd h (by decide)
  split at h
  · exact absurd h ‹_›
  split at h
  · exact absurd h ‹_›
  rename_i h4
  have h4:=Decidable.not_not.1 h4
  unfold wI at h4
  split at h4
  · exact absurd h4 (by decide)
  · split at h4
    · exact absurd h4 (by decide)
    · omega
theorem Z5 {c:Chart} {a:Ask} (h:je c a=0):PlOk c a:=⟨kD (Za h).1,(QeW (Za h).2).1⟩
def Vi (c:Chart) (a:Ask):List (List Bunk):=if je c a=0 then (plP c a).map (·.1) else []
def vM:=kk @jO (kk @JE (kk @QN (kk @jE.eq_1 (kk @Wm.eq_1 @Qb.eq_1))))
def Jj:=kk @aI.eq_1 (kk @aB.eq_1 (@WS))
theorem Qd9 (c:Chart) (a:Ask) (hc:c.cabins.length≤maxLen) (ha:a.sexes.length≤maxLen):Fn noB Try.prog 18 [qa c,qD a] noH (.tup [.row 0,aI (je c a)]) (qg [(0,.row 37 1 ((Vi c a).map qG))]) 0:=by
  have env:Env (fun _=>True) Try.prog tyB (tab [(66,fnE zh),(68,fnE qL),(67,fnE (x9 c a))]):=qP ⟨Xb,Vu,QfD,trivial⟩
  refine Fn.of (A:=fun _=>True) (n0:=0) (D:=noD) (Fn0 Try.func18 rfl (fun vs w=>by kernel_rfl) (by kernel_rfl)) (by simp) (by simp [AV.ids,AV.idsL,qa,qb,qD,qo]) (fun i o h=>by cases h) (fun _ _ _ _=>trivial) qF ?_
  have ec:(⟨c.cabins,c.secs,c.sold⟩:Chart)=c:=rfl
  have ea:(⟨a.party,a.frm,a.to,a.sexes,a.dog⟩:Ask)=a:=rfl
  unfold Vi
  by_cases h0:je c a=0
  · have hok:=Z5 h0
    rw [if_pos h0,h0]
    obtain ⟨X,hX⟩:∃ X,plR c a (plP c a).length=X:=⟨_,rfl⟩
    have hXe:(List.map (fun x=>x.1) (plP c a)).map qG=X:=by rw [← hX];unfold plR;rw [List.take_length,List.map_map];rfl
    rw [hXe]
    repeat' (first|(apply nx;with_reducible constructor)|refine jq (by decide) ?_|((first|refine kz env fun Q hQ=>?_|refine kj fun Q hQ=>?_);simp only [vkt,seval,vM,Jj,qa,qb,qD,qo,mTk,qc,qm,ql,qw,plL,zh,qL,x9,List.length_map,ec,ea,h0,hok,hX];(try simp only [ite_and]);(repeat' (first|with_reducible assumption|refine And.intro ?_ ?_|intro hp));all_goals (first|(refine hQ _ ?_;clear hQ Q)|(refine hQ _ (fun h=>?_) (fun h=>?_) <;> clear hQ Q <;> (try simp only [vki,reduceCtorEq] at h))|(refine kx ?_;kernel_rfl)|omega|assumption|with_reducible rfl|skip)))
    (simp only [vrt,Try.results18,vkt,seval,vM,Jj,qa,qb,qD,qo,mTk,qc,qm,ql,qw,plL,zh,qL,x9,List.length_map];refine Fin.ok (fun j=>[6][j]?) [] ?_ ?_ ?_ ?_ ?_ rfl;all_goals (try simp only [vle,vkt,seval,vM,Jj,qa,qb,qD,qo,mTk,qc,qm,ql,qw,plL,zh,qL,x9,List.length_map]))
    all_goals first|rfl|(simp;done)
  · rw [if_neg h0]
    repeat' (first|(apply nx;with_reducible constructor)|refine jq (by decide) ?_|((first|refine kz env fun Q hQ=>?_|refine kj fun Q hQ=>?_);simp only [vkt,seval,vM,Jj,qa,qb,qD,qo,mTk,qc,qm,ql,qw,plL,zh,qL,x9,List.length_map,ec,ea,h0];(try simp only [ite_and]);(repeat' (first|with_reducible assumption|refine And.intro ?_ ?_|intro hp));all_goals (first|(refine hQ _ ?_;clear hQ Q)|(refine hQ _ (fun h=>?_) (fun h=>?_) <;> clear hQ Q <;> (try simp only [vki,reduceCtorEq] at h))|(refine kx ?_;kernel_rfl)|omega|assumption|with_reducible rfl|skip)))
    (simp only [vrt,Try.results18,vkt,seval,vM,Jj,qa,qb,qD,qo,mTk,qc,qm,ql,qw,plL,zh,qL,x9,List.length_map];refine Fin.ok (fun _=>none) [] ?_ ?_ ?_ ?_ ?_ rfl;all_goals (try simp only [vle,vkt,seval,vM,Jj,qa,qb,qD,qo,mTk,qc,qm,ql,qw,plL,zh,qL,x9,List.length_map]))
    all_goals first|rfl|(simp;done)
end Go.Sym.B
namespace Go.Sym.B
open Go Go.Sym Go.Proofs Go.Sym.C
def aU (n:Int):AV:=.v (.int .u64 n)
def JW (a b:Int):Int:=IntKind.wrap .u64 (BitVec.ofInt IntKind.u64.bits a ||| BitVec.ofInt IntKind.u64.bits (IntKind.wrap .u64 (1 * 2 ^ min b.toNat IntKind.u64.bits))).toNat
def Y7:=kk @XL @Yq.eq_1
def QbQ:=kk @aI.eq_1 (kk @aB.eq_1 (@aU.eq_1))
theorem Qez (a b:Int) (hb:0≤b):FnV Try.prog 106 [aU a,aI b] (aU (JW a b)):=by
  have env:Env (fun _=>True) Try.prog tyB (tab []):=qP trivial
  refine Fn.of (A:=fun _=>True) (n0:=0) (D:=noD) (Fn0 Try.func106 rfl (fun vs w=>by kernel_rfl) (by kernel_rfl)) (by simp) (by simp [AV.ids,AV.idsL,aU,aI]) (fun i o h=>by cases h) (fun _ _ _ _=>trivial) qF ?_
  repeat' (first|(apply nx;with_reducible constructor)|refine jq (by decide) ?_|((first|refine kz env fun Q hQ=>?_|refine kj fun Q hQ=>?_);simp only [vkt,seval,Y7,QbQ,hb];(try simp only [ite_and]);(repeat' (first|with_reducible assumption|refine And.intro ?_ ?_|intro hp));all_goals (first|(refine hQ _ ?_;clear hQ Q)|(refine hQ _ (fun h=>?_) (fun h=>?_) <;> clear hQ Q <;> (try simp only [vki,reduceCtorEq] at h))|(refine kx ?_;kernel_rfl)|omega|assumption|with_reducible rfl|skip)))
  (simp only [vrt,Try.results106,vkt,seval,Y7,QbQ];refine Fin.val rfl ?_;(try simp only [AV.le,AV.leL]))
  all_goals first|rfl|(simp;done)
def kE:List AV→Prop × AV
  |[.v (.int .u64 a),.v (.int .i64 b)]=>(0≤b,aU (JW a b))
  |_=>(False,.junk)
theorem QiW {A:Frm→Prop}:qB A Try.prog 106 (qU true kE):=za fun vs hv h=>by
  clear hv
  unfold kE at h ⊢
  split at h
  · exact ⟨by simp [aU,AV.plain],fun _=>by simp [aU,AV.flat],Qez _ _ h⟩
  · exact h.elim
theorem qZ (p:List Int):(p.map aU).all j4=true:=by simp [aU,j4]
theorem qI:∀ p:List Int,AV.idsL (p.map aU)=[]
  |[]=>rfl
  |x :: p=>by rw [List.map_cons,AV.idsL,qI p];rfl
theorem zk (h:Nat→Option AObj) (σ:Nat→Option Nat):∀ p:List Int,AV.leL h σ (p.map aU) (p.map aU)=True
  |[]=>by simp [AV.leL]
  |x :: p=>by simp [AV.leL,AV.le,aU,zk h σ p]
theorem qY (τ:Nat→Nat):∀ p:List Int,AV.renL τ (p.map aU)=p.map aU
  |[]=>rfl
  |x :: p=>by simp [AV.renL,AV.ren,aU,qY τ p]
theorem qC:∀ p:List Int,AV.plainL (p.map aU)=True
  |[]=>by simp [AV.plainL]
  |x :: p=>by simp [AV.plainL,AV.plain,aU,qC p]
theorem qH:∀ p:List Int,AV.flatL (p.map aU)=True
  |[]=>by simp [AV.flatL]
  |x :: p=>by simp [AV.flatL,AV.flat,aU,qH p]
theorem Qgk {p:List Int} {i:Nat} (h:i < p.length):(((p.map aU).drop i).take 1).headD .junk=aU (p.getD i 0):=by
  rw [List.drop_eq_getElem_cons (by simpa using h)]
  simp [List.getD_eq_getElem?_getD,h]
theorem QiK {p:List Int} {i:Nat} {n:Int} (h:i < p.length):(p.map aU).take i++[aU n]++(p.map aU).drop (i+1)=(p.set i n).map aU:=by
  apply List.ext_getElem?
  intro j
  rw [List.set_eq_take_append_cons_drop,if_pos h]
  simp
structure Van (c:Chart):Prop where
  car:CarOk c
  many:c.sold.length≤100
  tk:∀ t ∈ c.sold,TkOk c t
theorem Val.van {c:Chart} (h:Val c):Van c:=⟨h.car,by have:=h.many;omega,h.tk⟩
def Zz (s:Int) (h:List Int) (t:Tk):List Int:=if inB s t.frm (t.to - 1) then h.set t.cab.toNat (JW (h.getD t.cab.toNat 0) t.bed) else h
def jr (l:List Tk) (s:Int) (k:Nat):List Int:=(l.take k).foldl (Zz s) [0,0,0]
theorem ZH {l:List Tk} {s:Int} {k:Nat} (h:k < l.length):jr l s (k+1)=Zz s (jr l s k) (l.getD k default):=by
  unfold jr
  rw [List.take_succ_eq_append_getElem h,List.foldl_append]
  simp [List.getD_eq_getElem?_getD,h]
theorem vO (l:List Tk) (s:Int):∀ k,k≤l.length→(jr l s k).length=3
  |0,_=>rfl
  |k+1,h=>by
    rw [ZH (by omega),Zz]
    split
    · rw [List.length_set];exact vO l s k (by omega)
    · exact vO l s k (by omega)
def heT (c:Chart) (s:Int) (k:Nat):St:={ t:=asg [(1,aI s),(4,.ptr 1 0),(5,.ptr 2 0),(10,qh c.sold),(11,aI c.sold.length),(12,aI k)],h:=qg [(0,.cells (qb c)),(1,.cells [aU 0,aU 0,aU 0]),(2,.cells ((jr c.sold s k).map aU))],n:=3 }
def jm:=kk @ty3 (kk @xC (kk @jO (kk @xA (kk @yw (kk @XL (kk @Qcp (kk @ti3.eq_1 (kk @vP.eq_1 (kk @jE.eq_1 (kk @vR.eq_1 (kk @j3.eq_1 (kk @Yq.eq_1 @Xh.eq_1))))))))))))
def kU:=kk @aI.eq_1 (kk @aB.eq_1 (@aU.eq_1))
theorem Qdh (c:Chart) (s:Int) (hv:Van c):FnV Try.prog 108 [qa c,aI s] (.agg ((jr c.sold s c.sold.length).map aU)):=by
  have env:Env (fun _=>True) Try.prog tyB (tab [(91,qU true sin),(106,qU true kE)]):=qP ⟨ein,QiW,trivial⟩
  refine Fn.of (A:=fun _=>True) (n0:=0) (D:=noD) (Fn0 Try.func108 rfl (fun vs w=>by kernel_rfl) (by kernel_rfl)) (by simp) (by simp [AV.ids,AV.idsL,qa,qb,aI]) (fun i o h=>by cases h) (fun _ _ _ _=>trivial) qF ?_
  have hsl:=hv.many
  repeat' (first|(apply nx;with_reducible constructor)|refine jq (by decide) ?_|((first|refine kz env fun Q hQ=>?_|refine kj fun Q hQ=>?_);simp only [vkt,seval,jm,kU,qh,qa,qb,eTk,gTk,heT,sin,kE,qZ,qI,zk,qY,qC,qH,List.length_map,Nat.mul_one];(try simp only [ite_and]);(repeat' (first|with_reducible assumption|refine And.intro ?_ ?_|intro hp));all_goals (first|(refine hQ _ ?_;clear hQ Q)|(refine hQ _ (fun h=>?_) (fun h=>?_) <;> clear hQ Q <;> (try simp only [vki,reduceCtorEq] at h))|(refine kx ?_;kernel_rfl)|omega|assumption|with_reducible rfl|skip)))
  refine qX (fun k:{ k:Nat // k≤c.sold.length }=>heT c s k.1) (fun k=>c.sold.length - k.1) ⟨0,Nat.zero_le _⟩ ?_ fun ⟨k,hk⟩=>?_
  · (refine Le.ok some [] ?_;constructor;all_goals (try simp only [vle,vkt,seval,jm,kU,qh,qa,qb,eTk,gTk,heT,sin,kE,qZ,qI,zk,qY,qC,qH,List.length_map,Nat.mul_one]))
    all_goals first|rfl|(simp [jr,AV.leL,AV.le,aU];done)
  · repeat' (first|(apply nx;with_reducible constructor)|refine jq (by decide) ?_)
    (refine kz env fun Q hQ=>?_;simp only [vkt,seval,jm,kU,qh,qa,qb,eTk,gTk,heT,sin,kE,qZ,qI,zk,qY,qC,qH,List.length_map,Nat.mul_one];(try simp only [ite_and]);(repeat' (first|with_reducible assumption|refine And.intro ?_ ?_|intro hp));all_goals (first|(refine hQ _ ?_;clear hQ Q)|(refine kx ?_;kernel_rfl)|omega|assumption|with_reducible rfl|skip))
    repeat' (first|(apply nx;with_reducible constructor)|refine jq (by decide) ?_)
    (refine yH (by simp only [vkt,seval,jm,kU,qh,qa,qb,eTk,gTk,heT,sin,kE,qZ,qI,zk,qY,qC,qH,List.length_map,Nat.mul_one];rfl) (fun h=>?_) (fun h=>?_) <;> (try simp only [vki,reduceCtorEq] at h))
    · have hlt:k < c.sold.length:=by omega
      have e9:IntKind.wrap .i64 ((k:Int)+1)=((k+1:Nat):Int):=by rw [wrap64 (by omega) (by omega)];rfl
      obtain ⟨x,hx⟩:∃ x,c.sold.getD k default=x:=⟨_,rfl⟩
      have hS:=ZH (s:=s) hlt
      rw [hx] at hS
      have hok:=hv.tk x (hx ▸ vK hlt)
      have hcl:=hv.car.cabs
      obtain ⟨⟨g1,g2⟩,g3,g4,g5,g6⟩:=(⟨hok.cab,hok.bed.1,hok.frm,hok.way,hok.to⟩:_∧_∧_∧_∧_)
      have gs:=hv.car.secs
      have w1:IntKind.wrap .i64 (x.to - 1)=x.to - 1:=wrap64 (by omega) (by omega)
      obtain ⟨i,hi⟩:∃ i:Nat,x.cab=(i:Int):=⟨x.cab.toNat,by omega⟩
      have hi3:i < 3:=by omega
      have hi3':(i:Int) < 3:=by omega
      have i0:(0:Int)≤(i:Int):=by omega
      obtain ⟨P,hP⟩:∃ P,jr c.sold s k=P:=⟨_,rfl⟩
      have hPl:P.length=3:=by rw [← hP];exact vO _ _ _ hk
      rw [hP,Zz,hi,Int.toNat_natCast] at hS
      try simp only [heT,hP]
      have hiP:i < P.length:=by omega
      have hiP1:i+1≤P.length:=by omega
      have pg:=Qgk hiP
      have ps:=QiK (n:=JW (P.getD i 0) x.bed) hiP
      cases hb:inB s x.frm (x.to - 1) with
      |false =>
        rw [hb] at hS
        repeat' (first|(apply nx;with_reducible constructor)|refine jq (by decide) ?_|((first|refine kz env fun Q hQ=>?_|refine kj fun Q hQ=>?_);simp only [vkt,seval,jm,kU,qh,qa,qb,eTk,gTk,heT,sin,kE,qZ,qI,zk,qY,qC,qH,List.length_map,Nat.mul_one,hx,hb,w1,e9];(try simp only [ite_and]);(repeat' (first|with_reducible assumption|refine And.intro ?_ ?_|intro hp));all_goals (first|(refine hQ _ ?_;clear hQ Q)|(refine hQ _ (fun h=>?_) (fun h=>?_) <;> clear hQ Q <;> (try simp only [vki,reduceCtorEq] at h))|(refine kx ?_;kernel_rfl)|omega|assumption|with_reducible rfl|skip)))
        refine ⟨⟨k+1,hlt⟩,by show c.sold.length - (k+1) < c.sold.length - k;omega, ?_⟩
        simp only [heT,hS]
        (refine Le.ok some [] ?_;constructor;all_goals (try simp only [vle,vkt,seval,jm,kU,qh,qa,qb,eTk,gTk,heT,sin,kE,qZ,qI,zk,qY,qC,qH,List.length_map,Nat.mul_one]))
        all_goals first|rfl|(simp [zk];done)
      |true =>
        rw [hb] at hS
        simp only [if_true] at hS
        simp only [aU] at pg ps
        repeat' (first|(apply nx;with_reducible constructor)|refine jq (by decide) ?_|((first|refine kz env fun Q hQ=>?_|refine kj fun Q hQ=>?_);simp only [vkt,seval,jm,kU,qh,qa,qb,eTk,gTk,heT,sin,kE,qZ,qI,zk,qY,qC,qH,List.length_map,Nat.mul_one,hx,hb,w1,e9,hi,hi3',i0,hiP1,hPl,pg,ps,g3];(try simp only [ite_and]);(repeat' (first|with_reducible assumption|refine And.intro ?_ ?_|intro hp));all_goals (first|(refine hQ _ ?_;clear hQ Q)|(refine hQ _ (fun h=>?_) (fun h=>?_) <;> clear hQ Q <;> (try simp only [vki,reduceCtorEq] at h))|(refine kx ?_;kernel_rfl)|omega|assumption|with_reducible rfl|skip)))
        refine ⟨⟨k+1,hlt⟩,by show c.sold.length - (k+1) < c.sold.length - k;omega, ?_⟩
        simp only [heT,hS]
        (refine Le.ok some [] ?_;constructor;all_goals (try simp only [vle,vkt,seval,jm,kU,qh,qa,qb,eTk,gTk,heT,sin,kE,qZ,qI,zk,qY,qC,qH,List.length_map,Nat.mul_one]))
        all_goals first|rfl|(simp [zk];done)
    · have hke:k=c.sold.length:=by omega
      subst hke
      obtain ⟨P,hP⟩:∃ P,jr c.sold s c.sold.length=P:=⟨_,rfl⟩
      have hPl:P.length=3:=by rw [← hP];exact vO _ _ _ (Nat.le_refl _)
      try simp only [heT,hP]
      have tP:(P.map aU).take 3=P.map aU:=List.take_of_length_le (by simp [hPl])
      repeat' (first|(apply nx;with_reducible constructor)|refine jq (by decide) ?_|((first|refine kz env fun Q hQ=>?_|refine kj fun Q hQ=>?_);simp only [vkt,seval,jm,kU,qh,qa,qb,eTk,gTk,heT,sin,kE,qZ,qI,zk,qY,qC,qH,List.length_map,Nat.mul_one,hPl,tP];(try simp only [ite_and]);(repeat' (first|with_reducible assumption|refine And.intro ?_ ?_|intro hp));all_goals (first|(refine hQ _ ?_;clear hQ Q)|(refine hQ _ (fun h=>?_) (fun h=>?_) <;> clear hQ Q <;> (try simp only [vki,reduceCtorEq] at h))|(refine kx ?_;kernel_rfl)|omega|assumption|with_reducible rfl|skip)))
      (simp only [vrt,Try.results108,hPl,tP,vkt,seval,jm,kU,qh,qa,qb,eTk,gTk,heT,sin,kE,qZ,qI,zk,qY,qC,qH,List.length_map,Nat.mul_one];refine Fin.val rfl ?_;(try simp only [AV.le,AV.leL]))
      all_goals first|rfl|(simp [zk];done)
def qN:List AV→Prop × AV
  |[.agg [.sl cs,.v (.int .i64 n),.sl ts],.v (.int .i64 s)]=>(cs=(cs.map qp).map qj∧ts=(ts.map dTk).map eTk∧Van ⟨cs.map qp,n,ts.map dTk⟩,.agg ((jr (ts.map dTk) s ts.length).map aU))
  |_=>(False,.junk)
theorem Uj {A:Frm→Prop}:qB A Try.prog 108 (qU true qN):=za fun vs hv h=>by
  clear hv
  unfold qN at h ⊢
  split at h
  · rename_i cs n ts s
    obtain ⟨h1,h2,h3⟩:=h
    refine ⟨by simp only [AV.plain,qC],fun _=>by simp only [AV.flat,qH], ?_⟩
    have:=Qdh ⟨cs.map qp,n,ts.map dTk⟩ s h3
    simp only [qa,qb,← h1,← h2,List.length_map] at this
    exact this
  · exact h.elim
theorem wrapU {n:Int} (h0:0≤n) (h1:n < 18446744073709551616):IntKind.wrap .u64 n=n:=by
  rw [show IntKind.wrap .u64 n=n % 18446744073709551616 from rfl];omega
theorem QiT (x y:BitVec 64) (hy:y ≠ 0):IntKind.wrap .u64 ((x ||| y).toNat:Int) ≠ 0:=fun h=>by
  have hlt:=(x ||| y).isLt
  rw [wrapU (by omega) (by omega)] at h
  have h1:(x ||| y)=0:=by apply BitVec.eq_of_toNat_eq;rw [show (x ||| y).toNat=0 by omega];rfl
  exact hy (BitVec.or_eq_zero_iff.1 h1).2
theorem Qhq {a b:Int} (h0:0≤b) (h3:b≤3):JW a b ≠ 0:=by
  refine QiT (BitVec.ofInt 64 a) (BitVec.ofInt 64 (IntKind.wrap .u64 (1 * 2 ^ min b.toNat 64))) ?_
  rcases (by omega:b=0∨b=1∨b=2∨b=3) with rfl|rfl|rfl|rfl <;> decide
theorem VG {l:List Tk} {s:Int} (hl:∀ t ∈ l,0≤t.cab∧t.cab < 3∧0≤t.bed∧t.bed≤3) {i:Nat} (hi:i < 3):∀ k,k≤l.length→decide ((jr l s k).getD i 0=0)=(l.take k).all fun t=>!(atB s t && decide (t.cab=(i:Int)))
  |0,_=>by
    rw [List.take_zero]
    match i,hi with
    |0,_=>rfl
    |1,_=>rfl
    |2,_=>rfl
  |k+1,hk=>by
    have hkl:k < l.length:=by omega
    have ih:=VG (s:=s) hl hi k (by omega)
    have hlen:=vO l s k (by omega)
    obtain ⟨g1,g2,g3,g4⟩:=hl _ (vK (d:=default) hkl)
    rw [ZH hkl,List.take_succ_eq_append_getElem hkl,List.all_append,← ih]
    rw [show l[k]=l.getD k default by simp [List.getD_eq_getElem?_getD,hkl]]
    generalize l.getD k default=t at *
    have ha:inB s t.frm (t.to - 1)=atB s t:=by
      unfold inB atB
      rw [show decide (s≤t.to - 1)=decide (s < t.to) by rw [decide_eq_decide];omega]
    unfold Zz
    rw [ha]
    simp only [List.all_cons,List.all_nil,Bool.and_true]
    cases atB s t with
    |false=>simp
    |true =>
      simp only [if_true,Bool.true_and]
      by_cases hc:t.cab=(i:Int)
      · have e:t.cab.toNat=i:=by omega
        rw [e,decide_eq_true hc,List.getD_eq_getElem?_getD,List.getElem?_set_self (by omega),Option.getD_some,decide_eq_false (Qhq g3 g4)]
        simp
      · have e:t.cab.toNat ≠ i:=by omega
        rw [decide_eq_false hc,List.getD_eq_getElem?_getD,List.getElem?_set_ne e,← List.getD_eq_getElem?_getD]
        simp
end Go.Sym.B
namespace Go.Sym.B
open Go Go.Sym Go.Proofs Go.Sym.C
def rcN (c:Chart) (s i:Nat):Nat:=((List.range i).filter fun (j:Nat)=>QJ c.sold s j).length
def rtN (c:Chart) (s:Nat):Nat:=((List.range s).map fun s=>rcN c s c.cabins.length).sum
theorem Qeq (c:Chart) (s i:Nat):rcN c s (i+1)=rcN c s i+if QJ c.sold s i then 1 else 0:=by
  unfold rcN
  rw [List.range_succ,List.filter_append,List.length_append]
  cases h:QJ c.sold s i <;> simp [h]
theorem Qah (c:Chart) (s:Nat):rtN c (s+1)=rtN c s+rcN c s c.cabins.length:=by
  unfold rtN
  rw [List.range_succ,List.map_append,List.sum_append]
  simp
theorem Qfp (c:Chart) (s i:Nat):rcN c s i≤i:=by
  unfold rcN
  exact Nat.le_trans (List.length_filter_le _ _) (by simp)
theorem QeV (c:Chart):∀ s,rtN c s≤s * c.cabins.length
  |0=>by simp [rtN]
  |s+1=>by
    have:=QeV c s
    have:=Qfp c s c.cabins.length
    rw [Qah,Nat.succ_mul];omega
theorem Qey (c:Chart):ky c.cabins c.secs c.sold=(rtN c c.secs.toNat:Int):=by
  unfold ky rtN
  rw [List.length_flatMap]
  rfl
def rsO (c:Chart) (s:Nat):St:={ t:=asg [(1,.ptr 0 0),(2,aI 0),(3,aI (rtN c s:Nat)),(8,aI c.secs),(9,aI s)],h:=qg [(0,.cells (qb c))],n:=1 }
def rsI (c:Chart) (s i:Nat):St:={ t:=asg [(1,.ptr 0 0),(2,aI 0),(3,aI (rtN c s+rcN c s i:Nat)),(4,aI s),(5,.ptr 1 0),(8,aI c.secs),(9,aI s),(17,aI c.cabins.length),(18,aI i)],h:=qg [(0,.cells (qb c)),(1,.cells ((jr c.sold s c.sold.length).map aU))],n:=2 }
def wJ:=kk @ty3 (kk @WT (kk @jO (kk @WP (kk @XL (kk @Qcp (kk @ti3.eq_1 (kk @Zv.eq_1 (kk @jE.eq_1 (kk @Zq.eq_1 (kk @Yq.eq_1 @Xh.eq_1))))))))))
def yz:=kk @aI.eq_1 (@aB.eq_1)
theorem QhS (c:Chart) (hv:Van c):FnV Try.prog 72 [qa c] (aI (ky c.cabins c.secs c.sold)):=by
  have env:Env (fun _=>True) Try.prog tyB (tab [(108,qU true qN)]):=qP ⟨Uj,trivial⟩
  refine Fn.of (A:=fun _=>True) (n0:=0) (D:=noD) (Fn0 Try.func72 rfl (fun vs w=>by kernel_rfl) (by kernel_rfl)) (by simp) (by simp [AV.ids,AV.idsL,qa,qb]) (fun i o h=>by cases h) (fun _ _ _ _=>trivial) qF ?_
  have hcl:=hv.car.cabs
  have hsec:=hv.car.secs
  have ec:(⟨c.cabins,c.secs,c.sold⟩:Chart)=c:=rfl
  have htk:∀ t ∈ c.sold,0≤t.cab∧t.cab < 3∧0≤t.bed∧t.bed≤3:=fun t ht=>by
    have h1:=hv.tk t ht
    have h2:=h1.cab
    have h3:=h1.bed
    have h4:=(hv.car.beds _ (vK (d:=default) h2.2)).2
    omega
  rw [Qey]
  repeat' (first|(apply nx;with_reducible constructor)|refine jq (by decide) ?_|((first|refine kz env fun Q hQ=>?_|refine kj fun Q hQ=>?_);simp only [vkt,seval,wJ,yz,qa,qb,qc,mTk,qN,qZ,qI,zk,qY,qC,qH,rsO,rsI,List.length_map,Nat.mul_one];(try simp only [ite_and]);(repeat' (first|with_reducible assumption|refine And.intro ?_ ?_|intro hp));all_goals (first|(refine hQ _ ?_;clear hQ Q)|(refine hQ _ (fun h=>?_) (fun h=>?_) <;> clear hQ Q <;> (try simp only [vki,reduceCtorEq] at h))|(refine kx ?_;kernel_rfl)|omega|assumption|with_reducible rfl|skip)))
  refine qX (fun s:{ s:Nat // s≤c.secs.toNat }=>rsO c s.1) (fun s=>c.secs.toNat - s.1) ⟨0,Nat.zero_le _⟩ ?_ fun ⟨s,hs⟩=>?_
  · (refine Le.ok some [] ?_;constructor;all_goals (try simp only [vle,vkt,seval,wJ,yz,qa,qb,qc,mTk,qN,qZ,qI,zk,qY,qC,qH,rsO,rsI,List.length_map,Nat.mul_one]))
    all_goals first|rfl|(simp [rtN];done)
  simp only at hs ⊢
  repeat' (first|(apply nx;with_reducible constructor)|refine jq (by decide) ?_)
  (refine kz env fun Q hQ=>?_;simp only [vkt,seval,wJ,yz,qa,qb,qc,mTk,qN,qZ,qI,zk,qY,qC,qH,rsO,rsI,List.length_map,Nat.mul_one];(try simp only [ite_and]);(repeat' (first|with_reducible assumption|refine And.intro ?_ ?_|intro hp));all_goals (first|(refine hQ _ ?_;clear hQ Q)|(refine kx ?_;kernel_rfl)|omega|assumption|with_reducible rfl|skip))
  repeat' (first|(apply nx;with_reducible constructor)|refine jq (by decide) ?_)
  (refine yH (by simp only [vkt,seval,wJ,yz,qa,qb,qc,mTk,qN,qZ,qI,zk,qY,qC,qH,rsO,rsI,List.length_map,Nat.mul_one];rfl) (fun h=>?_) (fun h=>?_) <;> (try simp only [vki,reduceCtorEq] at h))
  · have hlt:s < c.secs.toNat:=by omega
    have hT:=QeV c s
    have hT3:rtN c s≤s * 3:=Nat.le_trans hT (Nat.mul_le_mul_left _ hcl.2)
    have e9:IntKind.wrap .i64 ((s:Int)+1)=((s+1:Nat):Int):=by rw [wrap64 (by omega) (by omega)];rfl
    obtain ⟨P,hP⟩:∃ P,jr c.sold s c.sold.length=P:=⟨_,rfl⟩
    have hPl:P.length=3:=by rw [← hP];exact vO _ _ _ (Nat.le_refl _)
    repeat' (first|(apply nx;with_reducible constructor)|refine jq (by decide) ?_|((first|refine kz env fun Q hQ=>?_|refine kj fun Q hQ=>?_);simp only [vkt,seval,wJ,yz,qa,qb,qc,mTk,qN,qZ,qI,zk,qY,qC,qH,rsO,rsI,List.length_map,Nat.mul_one,ec,hv,hP];(try simp only [ite_and]);(repeat' (first|with_reducible assumption|refine And.intro ?_ ?_|intro hp));all_goals (first|(refine hQ _ ?_;clear hQ Q)|(refine hQ _ (fun h=>?_) (fun h=>?_) <;> clear hQ Q <;> (try simp only [vki,reduceCtorEq] at h))|(refine kx ?_;kernel_rfl)|omega|assumption|with_reducible rfl|skip)))
    refine qX (fun i:{ i:Nat // i≤c.cabins.length }=>rsI c s i.1) (fun i=>c.cabins.length - i.1) ⟨0,Nat.zero_le _⟩ ?_ fun ⟨i,hi⟩=>?_
    · simp only [rsI,hP,rcN,List.range_zero,List.filter_nil,List.length_nil,Nat.add_zero]
      (refine Le.ok some [] ?_;constructor;all_goals (try simp only [vle,vkt,seval,wJ,yz,qa,qb,qc,mTk,qN,qZ,qI,zk,qY,qC,qH,rsO,rsI,List.length_map,Nat.mul_one]))
      all_goals first|rfl|(simp [zk];done)|(simp [hPl,zk];done)
    simp only at hi ⊢
    repeat' (first|(apply nx;with_reducible constructor)|refine jq (by decide) ?_)
    (refine kz env fun Q hQ=>?_;simp only [vkt,seval,wJ,yz,qa,qb,qc,mTk,qN,qZ,qI,zk,qY,qC,qH,rsO,rsI,List.length_map,Nat.mul_one];(try simp only [ite_and]);(repeat' (first|with_reducible assumption|refine And.intro ?_ ?_|intro hp));all_goals (first|(refine hQ _ ?_;clear hQ Q)|(refine kx ?_;kernel_rfl)|omega|assumption|with_reducible rfl|skip))
    repeat' (first|(apply nx;with_reducible constructor)|refine jq (by decide) ?_)
    (refine yH (by simp only [vkt,seval,wJ,yz,qa,qb,qc,mTk,qN,qZ,qI,zk,qY,qC,qH,rsO,rsI,List.length_map,Nat.mul_one];rfl) (fun h=>?_) (fun h=>?_) <;> (try simp only [vki,reduceCtorEq] at h))
    · have hil:i < c.cabins.length:=by omega
      have hC:=Qfp c s i
      have e8:IntKind.wrap .i64 ((i:Int)+1)=((i+1:Nat):Int):=by rw [wrap64 (by omega) (by omega)];rfl
      have e7:IntKind.wrap .i64 (((rtN c s+rcN c s i:Nat):Int)+1)=((rtN c s+rcN c s i+1:Nat):Int):=by rw [wrap64 (by omega) (by omega)];rfl
      have hz:=VG (s:=(s:Int)) htk (show i < 3 by omega) c.sold.length (Nat.le_refl _)
      rw [List.take_length,hP] at hz
      have hz:decide (P.getD i 0=0)=QJ c.sold s i:=hz
      have hS:=Qeq c s i
      have i3:(i:Int) < 3:=by omega
      have hiP:i < P.length:=by omega
      have hiP1:i+1≤P.length:=by omega
      have pg:=Qgk hiP
      simp only [aU] at pg
      cases hE:QJ c.sold s i with
      |true =>
        rw [hE] at hz hS
        simp only [if_true] at hS
        repeat' (first|(apply nx;with_reducible constructor)|refine jq (by decide) ?_|((first|refine kz env fun Q hQ=>?_|refine kj fun Q hQ=>?_);simp only [vkt,seval,wJ,yz,qa,qb,qc,mTk,qN,qZ,qI,zk,qY,qC,qH,rsO,rsI,List.length_map,Nat.mul_one,hP,hPl,pg,hz,i3,hiP1,e8,e7];(try simp only [ite_and]);(repeat' (first|with_reducible assumption|refine And.intro ?_ ?_|intro hp));all_goals (first|(refine hQ _ ?_;clear hQ Q)|(refine hQ _ (fun h=>?_) (fun h=>?_) <;> clear hQ Q <;> (try simp only [vki,reduceCtorEq] at h))|(refine kx ?_;kernel_rfl)|omega|assumption|with_reducible rfl|skip)))
        refine ⟨⟨i+1,hil⟩,by show c.cabins.length - (i+1) < c.cabins.length - i;omega, ?_⟩
        simp only [rsI,hP,hS,← Nat.add_assoc]
        (refine Le.ok some [] ?_;constructor;all_goals (try simp only [vle,vkt,seval,wJ,yz,qa,qb,qc,mTk,qN,qZ,qI,zk,qY,qC,qH,rsO,rsI,List.length_map,Nat.mul_one]))
        all_goals first|rfl|(simp [zk];done)
      |false =>
        rw [hE] at hz hS
        simp only [Bool.false_eq_true,if_false,Nat.add_zero] at hS
        repeat' (first|(apply nx;with_reducible constructor)|refine jq (by decide) ?_|((first|refine kz env fun Q hQ=>?_|refine kj fun Q hQ=>?_);simp only [vkt,seval,wJ,yz,qa,qb,qc,mTk,qN,qZ,qI,zk,qY,qC,qH,rsO,rsI,List.length_map,Nat.mul_one,hP,hPl,pg,hz,i3,hiP1,e8,e7];(try simp only [ite_and]);(repeat' (first|with_reducible assumption|refine And.intro ?_ ?_|intro hp));all_goals (first|(refine hQ _ ?_;clear hQ Q)|(refine hQ _ (fun h=>?_) (fun h=>?_) <;> clear hQ Q <;> (try simp only [vki,reduceCtorEq] at h))|(refine kx ?_;kernel_rfl)|omega|assumption|with_reducible rfl|skip)))
        refine ⟨⟨i+1,hil⟩,by show c.cabins.length - (i+1) < c.cabins.length - i;omega, ?_⟩
        simp only [rsI,hP,hS]
        (refine Le.ok some [] ?_;constructor;all_goals (try simp only [vle,vkt,seval,wJ,yz,qa,qb,qc,mTk,qN,qZ,qI,zk,qY,qC,qH,rsO,rsI,List.length_map,Nat.mul_one]))
        all_goals first|rfl|(simp [zk];done)
    · have hie:i=c.cabins.length:=by omega
      subst hie
      have hS:=Qah c s
      repeat' (first|(apply nx;with_reducible constructor)|refine jq (by decide) ?_|((first|refine kz env fun Q hQ=>?_|refine kj fun Q hQ=>?_);simp only [vkt,seval,wJ,yz,qa,qb,qc,mTk,qN,qZ,qI,zk,qY,qC,qH,rsO,rsI,List.length_map,Nat.mul_one,hP,e9];(try simp only [ite_and]);(repeat' (first|with_reducible assumption|refine And.intro ?_ ?_|intro hp));all_goals (first|(refine hQ _ ?_;clear hQ Q)|(refine hQ _ (fun h=>?_) (fun h=>?_) <;> clear hQ Q <;> (try simp only [vki,reduceCtorEq] at h))|(refine kx ?_;kernel_rfl)|omega|assumption|with_reducible rfl|skip)))
      refine ⟨⟨s+1,hlt⟩,by show c.secs.toNat - (s+1) < c.secs.toNat - s;omega, ?_⟩
      simp only [rsO,hS]
      (refine Le.ok some [] ?_;constructor;all_goals (try simp only [vle,vkt,seval,wJ,yz,qa,qb,qc,mTk,qN,qZ,qI,zk,qY,qC,qH,rsO,rsI,List.length_map,Nat.mul_one]))
      all_goals first|rfl|(simp;done)
  · have hse:s=c.secs.toNat:=by omega
    subst hse
    repeat' (first|(apply nx;with_reducible constructor)|refine jq (by decide) ?_|((first|refine kz env fun Q hQ=>?_|refine kj fun Q hQ=>?_);simp only [vkt,seval,wJ,yz,qa,qb,qc,mTk,qN,qZ,qI,zk,qY,qC,qH,rsO,rsI,List.length_map,Nat.mul_one];(try simp only [ite_and]);(repeat' (first|with_reducible assumption|refine And.intro ?_ ?_|intro hp));all_goals (first|(refine hQ _ ?_;clear hQ Q)|(refine hQ _ (fun h=>?_) (fun h=>?_) <;> clear hQ Q <;> (try simp only [vki,reduceCtorEq] at h))|(refine kx ?_;kernel_rfl)|omega|assumption|with_reducible rfl|skip)))
    (simp only [vrt,Try.results72,vkt,seval,wJ,yz,qa,qb,qc,mTk,qN,qZ,qI,zk,qY,qC,qH,rsO,rsI,List.length_map,Nat.mul_one];refine Fin.val rfl ?_;(try simp only [AV.le,AV.leL]))
    all_goals first|rfl|(simp;done)
def Wq:List AV→Prop × AV
  |[.agg [.sl cs,.v (.int .i64 n),.sl ts]]=>(cs=(cs.map qp).map qj∧ts=(ts.map dTk).map eTk∧Van ⟨cs.map qp,n,ts.map dTk⟩,aI (ky (cs.map qp) n (ts.map dTk)))
  |_=>(False,.junk)
theorem Qik {A:Frm→Prop}:qB A Try.prog 72 (qU true Wq):=za fun vs hv h=>by
  clear hv
  unfold Wq at h ⊢
  split at h
  · rename_i cs n ts
    obtain ⟨h1,h2,h3⟩:=h
    refine ⟨by simp [aI,AV.plain],fun _=>by simp [aI,AV.flat], ?_⟩
    have:=QhS ⟨cs.map qp,n,ts.map dTk⟩ h3
    simp only [qa,qb,← h1,← h2] at this
    exact this
  · exact h.elim
def Ju (c:Chart):Int:=if zV c=0 then ky c.cabins c.secs c.sold else 0
def ZC:=kk @jO (kk @QN (kk @jE.eq_1 @Qb.eq_1))
def Vw:=kk @aI.eq_1 (@aB.eq_1)
theorem QgF (c:Chart) (hc:c.cabins.length≤maxLen):FnV Try.prog 26 [qa c] (.tup [aI (Ju c),aI (zV c)]):=by
  have env:Env (fun _=>True) Try.prog tyB (tab [(44,qU true qK),(72,qU true Wq)]):=qP ⟨Jw,Qik,trivial⟩
  refine Fn.of (A:=fun _=>True) (n0:=0) (D:=noD) (Fn0 Try.func26 rfl (fun vs w=>by kernel_rfl) (by kernel_rfl)) (by simp) (by simp [AV.ids,AV.idsL,qa,qb]) (fun i o h=>by cases h) (fun _ _ _ _=>trivial) qF ?_
  have ec:(⟨c.cabins,c.secs,c.sold⟩:Chart)=c:=rfl
  unfold Ju
  by_cases h1:zV c=0
  · have hv:=(kD h1).van
    rw [if_pos h1,h1]
    repeat' (first|(apply nx;with_reducible constructor)|refine jq (by decide) ?_|((first|refine kz env fun Q hQ=>?_|refine kj fun Q hQ=>?_);simp only [vkt,seval,ZC,Vw,qa,qb,qc,mTk,qK,Wq,List.length_map,ec,h1,hv];(try simp only [ite_and]);(repeat' (first|with_reducible assumption|refine And.intro ?_ ?_|intro hp));all_goals (first|(refine hQ _ ?_;clear hQ Q)|(refine hQ _ (fun h=>?_) (fun h=>?_) <;> clear hQ Q <;> (try simp only [vki,reduceCtorEq] at h))|(refine kx ?_;kernel_rfl)|omega|assumption|with_reducible rfl|skip)))
    (simp only [vrt,Try.results26,vkt,seval,ZC,Vw,qa,qb,qc,mTk,qK,Wq,List.length_map];refine Fin.val rfl ?_;(try simp only [AV.le,AV.leL]))
    all_goals first|rfl|(simp;done)
  · rw [if_neg h1]
    repeat' (first|(apply nx;with_reducible constructor)|refine jq (by decide) ?_|((first|refine kz env fun Q hQ=>?_|refine kj fun Q hQ=>?_);simp only [vkt,seval,ZC,Vw,qa,qb,qc,mTk,qK,Wq,List.length_map,ec,h1];(try simp only [ite_and]);(repeat' (first|with_reducible assumption|refine And.intro ?_ ?_|intro hp));all_goals (first|(refine hQ _ ?_;clear hQ Q)|(refine hQ _ (fun h=>?_) (fun h=>?_) <;> clear hQ Q <;> (try simp only [vki,reduceCtorEq] at h))|(refine kx ?_;kernel_rfl)|omega|assumption|with_reducible rfl|skip)))
    (simp only [vrt,Try.results26,vkt,seval,ZC,Vw,qa,qb,qc,mTk,qK,Wq,List.length_map];refine Fin.val rfl ?_;(try simp only [AV.le,AV.leL]))
    all_goals first|rfl|(simp;done)
end Go.Sym.B
namespace Go.Sym.B
open Go Go.Sym Go.Proofs Go.Sym.C
def bL3 (cs:List Cabin) (s:Int) (l:List Tk):List AObj:=[qm cs s 2,.cells [.ptr 0 0],ql l]
def VP:=kk @jO (kk @Zu (kk @Jt (kk @jE.eq_1 (kk @Qv.eq_1 @Zy.eq_1))))
def R5:=kk @aI.eq_1 (@aB.eq_1)
theorem bb_fn (cs:List Cabin) (s:Int) (l:List Tk) (hv:Van ⟨cs,s,l⟩):Fn noB Try.prog 71 [.ptr 1 0] (qg (qO 0 (bL3 cs s l))) (aI (ky cs s l)) (qg (wH 0 ((bL3 cs s l).map some))) 0:=by
  have env:Env (fun _=>True) Try.prog tyB (tab [(72,qU true Wq)]):=qP ⟨Qik,trivial⟩
  refine Fn.of (A:=fun _=>True) (n0:=3) (D:=noD) (Fn0 Try.func71 rfl (fun vs w=>by kernel_rfl) (by kernel_rfl)) (by simp) (by simp [AV.ids]) ?_ (fun _ _ _ _=>trivial) qF ?_
  · intro i o hi
    have h:=qV hi
    simp [qO,bL3] at h
    rcases h with ⟨rfl,rfl⟩|⟨rfl,rfl⟩|⟨rfl,rfl⟩ <;> simp [AObj.ids,AV.ids,AV.idsL,qm,ql]
  show Sym _ _ _ (zZ [.ptr 1 0] 3 (qg [(0,qm cs s 2),(1,.cells [.ptr 0 0]),(2,ql l)])) (xN tyB noD Try.f71 fun S rv=>Fin S rv _ 3 (qg [(0,qm cs s 2),(1,.cells [.ptr 0 0]),(2,ql l)]) 0)
  repeat' (first|(apply nx;with_reducible constructor)|refine jq (by decide) ?_|((first|refine kz env fun Q hQ=>?_|refine kj fun Q hQ=>?_);simp only [vkt,seval,VP,R5,qc,mTk,qm,ql,bL3,Wq,List.length_map,hv];(try simp only [ite_and]);(repeat' (first|with_reducible assumption|refine And.intro ?_ ?_|intro hp));all_goals (first|(refine hQ _ ?_;clear hQ Q)|(refine hQ _ (fun h=>?_) (fun h=>?_) <;> clear hQ Q <;> (try simp only [vki,reduceCtorEq] at h))|(refine kx ?_;kernel_rfl)|omega|assumption|with_reducible rfl|skip)))
  (simp only [vrt,Try.results71,vkt,seval,VP,R5,qc,mTk,qm,ql,bL3,Wq,List.length_map];refine Fin.ok some [] ?_ ?_ ?_ ?_ ?_ rfl;all_goals (try simp only [vle,vkt,seval,VP,R5,qc,mTk,qm,ql,bL3,Wq,List.length_map]))
  all_goals first|rfl|(simp;done)|exact fun i hi=>(match i,hi with|0,_=>rfl|1,_=>rfl|2,_=>rfl)
def jX (c:Chart) (a:Ask):List AObj:=[qm c.cabins c.secs 2,.cells [.ptr 0 0],ql c.sold,.cells (qo a)]
def vB (c:Chart) (a:Ask) (j:Nat):List AV:=[.agg [qd ((plP c a).getD j default).1,.clo 71 [.ptr 1 0]]]
def yo (c:Chart) (a:Ask) (j:Nat):List AObj:=bL3 c.cabins c.secs ((plP c a).getD j default).2
def bgL0:List (Nat × AV):=[(1,.ptr 1 0),(3,.ptr 4 0),(7,.clo 114 [.ptr 5 0,.ptr 6 0])]
def bgL:List (Nat × AV):=[(1,.ptr 1 0),(3,.ptr 4 0)]
def bgH (a:Ask):List (Nat × AObj):=[(1,.cells [.ptr 0 0]),(3,.cells (qo a)),(4,.cells [.cb])]
theorem VB (c:Chart) (a:Ask):zl [0,2,5,6] 8 0 (plL c a)=[(0,qm c.cabins c.secs 2),(2,ql c.sold),(5,.cells [.ptr 0 0]),(6,.cells (qo a))]:=by
  simp [zl,plL,qy,AObj.ren,AV.renL,AV.ren,qm,ql,qo]
theorem KR (c:Chart) (a:Ask) (j:Nat):zl [0] 8 0 (plH c a j)=[(0,qm c.cabins c.secs 8),(8,ql ((plP c a).getD j default).2)]:=by
  simp [zl,plH,qw,qy,AObj.ren,AV.renL,AV.ren,qm,ql]
def yU:=kk @JE (kk @Zu (kk @ty115 (kk @Qh0 (kk @Wm.eq_1 (kk @Qv.eq_1 (kk @Qcm.eq_1 @U5.eq_1))))))
def xk:=kk @aI.eq_1 (kk @aB.eq_1 (@WS))
theorem Qf3 {c:Chart} {a:Ask} (h:PlOk c a):QbY Try.prog 70 [.cb,.ptr 1 0,.ptr 3 0] (nth ((jX c a).take 2)) (nth (jX c a)) (vB c a) (plP c a).length (fun j=>nth (yo c a j)) (fun _ _=>.tup []):=by
  intro ans R hr
  rw [Yk,Yk]
  obtain ⟨A0,hA0⟩:∃ A0:Frm→Prop,A0=fun F=>F.r=none∧Acb Try.prog (qg (qO 0 ((jX c a).take 2))) (qg (qO 0 (jX c a))) (vB c a) (fun j=>nth (yo c a j)) ans R F:=⟨_,rfl⟩
  have hr0:∀ F,A0 F→F.r=none:=fun F h=>by rw [hA0] at h;exact h.1
  have hA:∀ F,A0 F→Acb Try.prog (qg (qO 0 ((jX c a).take 2))) (qg (qO 0 (jX c a))) (vB c a) (fun j=>nth (yo c a j)) ans R F:=fun F h=>by rw [hA0] at h;exact h.2
  have hp2:∀ i o,qg (qO 0 ((jX c a).take 2)) i=some o→i=0∨i=1:=fun i o hi=>by
    rw [jB,if_neg (by omega)] at hi
    have:=(List.getElem?_eq_some_iff.1 hi).1
    simp [jX] at this
    omega
  have env:Env A0 Try.prog tyB (tab [(68,fnE qL)]):=qP ⟨Vu,trivial⟩
  refine Fn.of (A:=A0) (n0:=4) (D:=noD) (Fn0 Try.func70 rfl (fun vs w=>by kernel_rfl) (by kernel_rfl)) (by simp) (by simp [AV.ids]) ?_ (fun F hb h0 h1=>by rw [hA0];exact ⟨h1,h0,fun i o hi=>(by rcases hp2 i o hi with rfl|rfl <;> exact ⟨_,rfl⟩),hb⟩) qF ?_
  · intro i o hi
    have h:=qV hi
    simp [qO,jX] at h
    rcases h with ⟨rfl,rfl⟩|⟨rfl,rfl⟩|⟨rfl,rfl⟩|⟨rfl,rfl⟩ <;> simp [AObj.ids,AV.ids,AV.idsL,qm,ql,qo]
  show Sym _ _ _ (zZ [.cb,.ptr 1 0,.ptr 3 0] 4 (qg [(0,qm c.cabins c.secs 2),(1,.cells [.ptr 0 0]),(2,ql c.sold),(3,.cells (qo a))])) (xN tyB noD Try.f70 fun S rv=>Fin S rv _ 4 (qg [(0,qm c.cabins c.secs 2),(1,.cells [.ptr 0 0]),(2,ql c.sold),(3,.cells (qo a))]) R)
  repeat' (first|(apply nx;with_reducible constructor)|refine jq (by decide) ?_|((first|refine kz env fun Q hQ=>?_|refine kj fun Q hQ=>?_);simp only [vkt,seval,yU,xk,qD,qo,qd,mTk,qc,qm,ql,qw,plL,bgL,qL,bL3,vB,yo,List.length_map,Go.Sym.tabC,cbX,ww,qW,nth,hwL,Nat.zero_add,Nat.sub_zero,Nat.add_zero];(try simp only [ite_and]);(repeat' (first|with_reducible assumption|refine And.intro ?_ ?_|intro hp));all_goals (first|(refine hQ _ ?_;clear hQ Q)|(refine hQ _ (fun h=>?_) (fun h=>?_) <;> clear hQ Q <;> (try simp only [vki,reduceCtorEq] at h))|(refine kx ?_;kernel_rfl)|omega|assumption|with_reducible rfl|skip)))
  refine xy (S':={ t:=asg bgL0,h:=qg (bgH a++[(0,qm c.cabins c.secs 2),(2,ql c.sold),(5,.cells [.ptr 0 0]),(6,.cells (qo a))]),n:=7,j:=0,d:=[],m:=4 }) ?_ ?_
  · show Le _ { t:=asg [(1,.ptr 1 0),(3,.ptr 4 0),(7,.clo 114 [.ptr 5 0,.ptr 6 0])],h:=qg [(1,.cells [.ptr 0 0]),(3,.cells (qo a)),(4,.cells [.cb]),(0,qm c.cabins c.secs 2),(2,ql c.sold),(5,.cells [.ptr 0 0]),(6,.cells (qo a))],n:=7,j:=0,d:=[],m:=4 }
    (refine Le.ok some [] ?_;constructor;all_goals (try simp only [vle,vkt,seval,yU,xk,qD,qo,qd,mTk,qc,qm,ql,qw,plL,bgL,qL,bL3,vB,yo,List.length_map,Go.Sym.tabC,cbX,ww,qW,nth,hwL,Nat.zero_add,Nat.sub_zero,Nat.add_zero]))
    all_goals first|rfl|(simp;done)
  rw [← VB c a]
  refine vH hr0 1 (L:=bgL0) (L':=bgL) (xs:=[2]) (hs:=[0,2,5,6]) (n:=7) (nl:=1) (hc:=fun _=>bgH a) (Lp:=plL c a) (jj:=fun j=>j) (d:=[]) (ys:=plY c a) (hl:=plH c a) (ans:=ans) (ex:=.ret) (caps:=[.ptr 5 0,.ptr 6 0]) (caps0:=[.ptr 2 0,.ptr 3 0]) (N:=(plP c a).length) (R:=R) (A':=fun j=>Acb Try.prog (qg (qO 0 ((jX c a).take 2))) (qg ((7,.mark) :: bgH a++zl [0] 8 0 (plH c a j))) (fun k=>vB c a (j+k)) (fun k=>nth (yo c a (j+k))) (fun k=>ans (j+k)) (R - j)) rfl (Jd h) hr (.inl rfl) ?_ ?_ ?_ rfl (by simp) ?_ (by simp) ?_ ?_ ?_ ?_ ?_ ?_ ?_ (fun j hj=>?_) ?_ (fun j hj=>?_) (fun _=>?_) (fun hpos hlast=>?_)
  · simp [AV.leL,AV.le]
  · simp [AV.nocbL,AV.nocb]
  · simp [Wx,plL,qm,ql,qo,AObj.nocb,AV.nocbL,AV.nocb,AObj.ids,AV.ids,AV.idsL,AObj.ren,AV.renL,AV.ren,AObj.le,AV.leL,AV.le,qy]
  · simp [bgH,qg]
  · intro F hF j hj F' hR
    refine KC (hA F hF) hR fun i o hi=>?_
    rcases hp2 i o hi with rfl|rfl
    · exact ⟨_,rfl⟩
    · exact ⟨_,rfl⟩
  · simp [bgH,qg]
  · simp [bgH,AObj.ids,AV.ids,AV.idsL,qo]
  · simp [Ui,bgL,bgL0,asg,upd]
  · simp [Qbl]
  · intro j hj
    simp [absent,bgH,KR]
  · simp [JZ,bgL,AV.ids]
  · refine ⟨?_,rfl, ?_, ?_,rfl, ?_⟩
    · simp [Qw,bgH,AObj.ids,AV.ids,AV.idsL,qo]
    · simp [Wi,plH,qw,qm,ql,AObj.nocb,AV.nocbL,AV.nocb,AObj.ids,AV.ids,AV.idsL]
    · simp [Vf,plY,qd,AV.nocb,AV.ids]
    · simp [Qp,WV,KR,bgH,bgL,xJ,AV.ids,ADf.ids,List.range_succ]
  · simp [Qw,bgH,AObj.ids,AV.ids,AV.idsL,qo]
  · obtain ⟨x,hx⟩:∃ x,((plP c a).getD j default).1=x:=⟨_,rfl⟩
    obtain ⟨r,hr2⟩:∃ r,((plP c a).getD j default).2=r:=⟨_,rfl⟩
    obtain ⟨A1,hA1⟩:∃ A1:Frm→Prop,A1=Acb Try.prog (qg (qO 0 ((jX c a).take 2))) (qg ((7,.mark) :: bgH a++zl [0] 8 0 (plH c a j))) (fun k=>vB c a (j+k)) (fun k=>nth (yo c a (j+k))) (fun k=>ans (j+k)) (R - j):=⟨_,rfl⟩
    rw [← hA1]
    have hB:∀ F,A1 F→Acb Try.prog (qg (qO 0 ((jX c a).take 2))) (qg ((7,.mark) :: bgH a++zl [0] 8 0 (plH c a j))) (fun k=>vB c a (j+k)) (fun k=>nth (yo c a (j+k))) (fun k=>ans (j+k)) (R - j) F:=fun F h=>hA1 ▸ h
    have env:Env A1 Try.prog tyB (Go.Sym.tabC (cbX [0,1,8] (fun k=>vB c a (j+k)) (fun k=>yo c a (j+k)) (fun k=>ans (j+k)) (R - j)) []):=⟨V5,RD (fun S bs h hS ops o g args tys caps hw ho hg hb=>YO hB (fun i o hi=>by rcases hp2 i o hi with rfl|rfl <;> rfl) (by simp) h hS hw ho hg hb) trivial,by kernel_rfl⟩
    have hst:jo bgL [8] [0] 7 1 (plY c a j) (bgH a) (plH c a j)={ t:=asg [(8,qd x),(1,.ptr 1 0),(3,.ptr 4 0)],h:=qg [(7,.mark),(1,.cells [.ptr 0 0]),(3,.cells (qo a)),(4,.cells [.cb]),(0,qm c.cabins c.secs 8),(8,ql r)],n:=9,m:=9 }:=by
      simp only [jo,Nat.reduceAdd,KR,plY,hx,hr2,qd,List.map_cons,List.map_nil,AV.ren,List.zip_cons_cons,List.zip_nil_right,bgH,bgL,Zc,List.cons_append,List.nil_append]
      rfl
    show Sym _ _ _ (jo bgL [8] [0] 7 1 (plY c a j) (bgH a) (plH c a j)) _
    rw [hst]
    have hjR:0 < R - j:=by omega
    cases hb:ans j with
    |true =>
      repeat' (first|(apply nx;with_reducible constructor)|refine jq (by decide) ?_|((first|refine kz env fun Q hQ=>?_|refine kj fun Q hQ=>?_);simp only [vkt,seval,yU,xk,qD,qo,qd,mTk,qc,qm,ql,qw,plL,bgL,qL,bL3,vB,yo,List.length_map,Go.Sym.tabC,cbX,ww,qW,nth,hwL,Nat.zero_add,Nat.sub_zero,Nat.add_zero,hx,hr2,hjR,hb];(try simp only [ite_and]);(repeat' (first|with_reducible assumption|refine And.intro ?_ ?_|intro hp));all_goals (first|(refine hQ _ ?_;clear hQ Q)|(refine hQ _ (fun h=>?_) (fun h=>?_) <;> clear hQ Q <;> (try simp only [vki,reduceCtorEq] at h))|(refine kx ?_;kernel_rfl)|omega|assumption|with_reducible rfl|skip)))
      refine ⟨by rw [hb];rfl,rfl,some,_,RFin.okQ some [] ?_⟩
      constructor
      all_goals (try simp only [vle,xH,xe,qy,plH,bgH,hr2,vkt,seval,yU,xk,qD,qo,qd,mTk,qc,qm,ql,qw,plL,bgL,qL,bL3,vB,yo,List.length_map,Go.Sym.tabC,cbX,ww,qW,nth,hwL,Nat.zero_add,Nat.sub_zero,Nat.add_zero])
      all_goals first|rfl|(simp;done)|(simp [qo,AV.leL,AV.le];done)
    |false =>
      repeat' (first|(apply nx;with_reducible constructor)|refine jq (by decide) ?_|((first|refine kz env fun Q hQ=>?_|refine kj fun Q hQ=>?_);simp only [vkt,seval,yU,xk,qD,qo,qd,mTk,qc,qm,ql,qw,plL,bgL,qL,bL3,vB,yo,List.length_map,Go.Sym.tabC,cbX,ww,qW,nth,hwL,Nat.zero_add,Nat.sub_zero,Nat.add_zero,hx,hr2,hjR,hb];(try simp only [ite_and]);(repeat' (first|with_reducible assumption|refine And.intro ?_ ?_|intro hp));all_goals (first|(refine hQ _ ?_;clear hQ Q)|(refine hQ _ (fun h=>?_) (fun h=>?_) <;> clear hQ Q <;> (try simp only [vki,reduceCtorEq] at h))|(refine kx ?_;kernel_rfl)|omega|assumption|with_reducible rfl|skip)))
      refine ⟨by rw [hb];rfl,rfl,some,_,RFin.okQ some [] ?_⟩
      constructor
      all_goals (try simp only [vle,xH,xe,qy,plH,bgH,hr2,vkt,seval,yU,xk,qD,qo,qd,mTk,qc,qm,ql,qw,plL,bgL,qL,bL3,vB,yo,List.length_map,Go.Sym.tabC,cbX,ww,qW,nth,hwL,Nat.zero_add,Nat.sub_zero,Nat.add_zero])
      all_goals first|rfl|(simp;done)|(simp [qo,AV.leL,AV.le];done)
  · have eh:qg ((7,AObj.mark) :: bgH a++zl [0,2,5,6] (7+1) 0 (plL c a))=qg [(7,.mark),(1,.cells [.ptr 0 0]),(3,.cells (qo a)),(4,.cells [.cb]),(0,qm c.cabins c.secs 2),(2,ql c.sold),(5,.cells [.ptr 0 0]),(6,.cells (qo a))]:=by
      rw [show zl [0,2,5,6] (7+1) 0 (plL c a)=zl [0,2,5,6] 8 0 (plL c a) from rfl,VB];rfl
    rw [eh]
    repeat' (first|(apply nx;with_reducible constructor)|refine jq (by decide) ?_|((first|refine kz env fun Q hQ=>?_|refine kj fun Q hQ=>?_);simp only [vkt,seval,yU,xk,qD,qo,qd,mTk,qc,qm,ql,qw,plL,bgL,qL,bL3,vB,yo,List.length_map,Go.Sym.tabC,cbX,ww,qW,nth,hwL,Nat.zero_add,Nat.sub_zero,Nat.add_zero];(try simp only [ite_and]);(repeat' (first|with_reducible assumption|refine And.intro ?_ ?_|intro hp));all_goals (first|(refine hQ _ ?_;clear hQ Q)|(refine hQ _ (fun h=>?_) (fun h=>?_) <;> clear hQ Q <;> (try simp only [vki,reduceCtorEq] at h))|(refine kx ?_;kernel_rfl)|omega|assumption|with_reducible rfl|skip)))
    (simp only [vrt,Try.results70,vkt,seval,yU,xk,qD,qo,qd,mTk,qc,qm,ql,qw,plL,bgL,qL,bL3,vB,yo,List.length_map,Go.Sym.tabC,cbX,ww,qW,nth,hwL,Nat.zero_add,Nat.sub_zero,Nat.add_zero];refine Fin.ok some [] ?_ ?_ ?_ ?_ ?_ rfl;all_goals (try simp only [vle,vkt,seval,yU,xk,qD,qo,qd,mTk,qc,qm,ql,qw,plL,bgL,qL,bL3,vB,yo,List.length_map,Go.Sym.tabC,cbX,ww,qW,nth,hwL,Nat.zero_add,Nat.sub_zero,Nat.add_zero]))
    all_goals first|rfl|(simp [qo,AV.leL,AV.le];done)|exact fun i hi=>(match i,hi with|0,_=>rfl|1,_=>rfl|2,_=>rfl|3,_=>rfl)
  · have eh:qg ((7,AObj.mark) :: bgH a++zl [0,2,5,6] (7+1) 0 (plL c a))=qg [(7,.mark),(1,.cells [.ptr 0 0]),(3,.cells (qo a)),(4,.cells [.cb]),(0,qm c.cabins c.secs 2),(2,ql c.sold),(5,.cells [.ptr 0 0]),(6,.cells (qo a))]:=by
      rw [show zl [0,2,5,6] (7+1) 0 (plL c a)=zl [0,2,5,6] 8 0 (plL c a) from rfl,VB];rfl
    rw [eh]
    repeat' (first|(apply nx;with_reducible constructor)|refine jq (by decide) ?_|((first|refine kz env fun Q hQ=>?_|refine kj fun Q hQ=>?_);simp only [vkt,seval,yU,xk,qD,qo,qd,mTk,qc,qm,ql,qw,plL,bgL,qL,bL3,vB,yo,List.length_map,Go.Sym.tabC,cbX,ww,qW,nth,hwL,Nat.zero_add,Nat.sub_zero,Nat.add_zero];(try simp only [ite_and]);(repeat' (first|with_reducible assumption|refine And.intro ?_ ?_|intro hp));all_goals (first|(refine hQ _ ?_;clear hQ Q)|(refine hQ _ (fun h=>?_) (fun h=>?_) <;> clear hQ Q <;> (try simp only [vki,reduceCtorEq] at h))|(refine kx ?_;kernel_rfl)|omega|assumption|with_reducible rfl|skip)))
    (simp only [vrt,Try.results70,vkt,seval,yU,xk,qD,qo,qd,mTk,qc,qm,ql,qw,plL,bgL,qL,bL3,vB,yo,List.length_map,Go.Sym.tabC,cbX,ww,qW,nth,hwL,Nat.zero_add,Nat.sub_zero,Nat.add_zero];refine Fin.ok some [] ?_ ?_ ?_ ?_ ?_ rfl;all_goals (try simp only [vle,vkt,seval,yU,xk,qD,qo,qd,mTk,qc,qm,ql,qw,plL,bgL,qL,bL3,vB,yo,List.length_map,Go.Sym.tabC,cbX,ww,qW,nth,hwL,Nat.zero_add,Nat.sub_zero,Nat.add_zero]))
    all_goals first|rfl|(simp [qo,AV.leL,AV.le];done)|exact fun i hi=>(match i,hi with|0,_=>rfl|1,_=>rfl|2,_=>rfl|3,_=>rfl)
end Go.Sym.B
namespace Go.Sym.B
open Go Go.Sym Go.Proofs Go.Sym.C
theorem KI {cs:List Cabin} {a:Ask} {p:Tk→Prop}:∀ (m:Nat) (sold:List Tk) (begun:List Bunk),(∀ t ∈ sold,p t)→(∀ i b,i < begun.length+m→b ∈ qQ cs→p (Jq a i b))→∀ x ∈ wU cs a m sold begun,(∀ t ∈ x.2,p t)∧x.2.length=sold.length+m
  |0,sold,begun,h1,_,x,hx=>by
    simp only [wU,List.mem_singleton] at hx
    subst hx
    exact ⟨h1,rfl⟩
  |m+1,sold,begun,h1,h2,x,hx=>by
    rw [ZL,List.mem_flatMap] at hx
    obtain ⟨b,hb,hx⟩:=hx
    unfold gbL at hx
    split at hx
    · obtain ⟨g1,g2⟩:=KI m _ _ (fun t ht=>by
        rcases List.mem_append.1 ht with ht|ht
        · exact h1 t ht
        · rw [List.mem_singleton.1 ht];exact h2 _ _ (by omega) hb) (fun i b' hi hb'=>h2 i b' (by simp at hi;omega) hb') x hx
      exact ⟨g1,by rw [g2];simp;omega⟩
    · simp at hx
theorem Qjm {c:Chart} {a:Ask} (h:je c a=0) {i:Nat} (hi:i < a.sexes.length) {b:Bunk} (hb:b ∈ qQ c.cabins):TkOk c (Jq a i b):=by
  have hk:=(Za h).2
  unfold ZZ at hk
  split at hk
  · exact absurd hk (by decide)
  rename_i h1
  split at hk
  · exact absurd hk (by decide)
  split at hk
  · exact absurd hk ‹_›
  rename_i h3
  split at hk
  · exact absurd hk ‹_›
  have g1:inB a.party 1 99=true:=by simpa using h1
  obtain ⟨w1,w2,w3⟩:=Uc (Decidable.not_not.1 h3)
  have gs:=Q3 hk _ (List.mem_map.2 ⟨a.sexes.getD i 0,vK hi,rfl⟩)
  have g2:inB (a.sexes.getD i 0) 1 2=true:=by
    cases hq:inB (a.sexes.getD i 0) 1 2 with
    |true=>rfl
    |false=>rw [hq] at gs;exact absurd gs (by decide)
  obtain ⟨x,y,b1,b2,rfl⟩:=Xz.1 hb
  refine ⟨jV.1 g1,jV.1 g2,⟨Int.natCast_nonneg _,by simpa [Jq] using b1⟩,⟨Int.natCast_nonneg _, ?_⟩,w1,w2,w3⟩
  show (y:Int) < (c.cabins.getD ((x:Int)).toNat default).beds
  rw [Int.toNat_natCast]
  omega
theorem Qjk {c:Chart} {a:Ask} (h:je c a=0) {j:Nat} (hj:j < (plP c a).length):Van ⟨c.cabins,c.secs,((plP c a).getD j default).2⟩:=by
  have hv:=kD (Za h).1
  have hs:=(QeW (Za h).2).1
  obtain ⟨g1,g2⟩:=KI (p:=TkOk c) a.sexes.length c.sold [] hv.tk (fun i b hi hb=>Qjm h (by simpa using hi) hb) _ (vK (d:=default) hj)
  have hm:=hv.many
  exact ⟨⟨hv.car.cabs,hv.car.beds,hv.car.secs⟩,by show ((plP c a).getD j default).2.length≤100;rw [show ((plP c a).getD j default).2.length=c.sold.length+a.sexes.length from g2];omega,fun t ht=>⟨(g1 t ht).party,(g1 t ht).sex,(g1 t ht).cab,(g1 t ht).bed,(g1 t ht).frm,(g1 t ht).way,(g1 t ht).to⟩⟩
def pBb (S:St):List AV→Option Pk
  |[.ptr q 0]=>match S.h q with
    |some (.cells [.ptr p 0])=>match S.h p with
      |some (.cells [.sl cs,.v (.int .i64 s),.row r])=>match S.h r with
        |some (.row _ _ xs)=>some { pre:=cs=(cs.map qp).map qj∧xs=(xs.map dTk).map eTk∧Van ⟨cs.map qp,s,xs.map dTk⟩,hs:=[p,q,r],ar:=[.ptr 1 0],L0:=bL3 (cs.map qp) s (xs.map dTk),v:=aI (ky (cs.map qp) s (xs.map dTk)),L1:=(bL3 (cs.map qp) s (xs.map dTk)).map some }
        |_=>none
      |_=>none
    |_=>none
  |_=>none
theorem eBb {A:Frm→Prop}:qB A Try.prog 71 (fnE pBb):=wE fun S bs q h hp=>by
  unfold pBb at h
  split at h
  · split at h
    · split at h
      · split at h
        · cases h;exact bb_fn _ _ _ hp.2.2
        · cases h
      · cases h
    · cases h
  · cases h
def bsK (c:Chart) (a:Ask):Nat→Bool × List Bunk × Int
  |0=>(false,[],0)
  |j+1=>if !(bsK c a j).1 || decide ((bsK c a j).2.2 < ky c.cabins c.secs ((plP c a).getD j default).2) then (true,((plP c a).getD j default).1,ky c.cabins c.secs ((plP c a).getD j default).2) else bsK c a j
end Go.Sym.B
namespace Go.Sym.B
open Go Go.Sym Go.Proofs Go.Sym.C
def beL0:List (Nat × AV):=[(2,.ptr 4 0),(3,.ptr 5 0),(4,.ptr 6 0),(7,.clo 70 [.ptr 1 0,.ptr 3 0])]
def beL:List (Nat × AV):=[(2,.ptr 4 0),(3,.ptr 5 0),(4,.ptr 6 0)]
def beH (c:Chart) (a:Ask) (j:Nat):List (Nat × AObj):=[(4,.cells [.sl ((bsK c a j).2.1.map qx)]),(5,.cells [aB (bsK c a j).1]),(6,.cells [aI (bsK c a j).2.2])]
theorem VQ (c:Chart) (a:Ask):zl [0,1,2,3] 8 0 (jX c a)=[(0,qm c.cabins c.secs 2),(1,.cells [.ptr 0 0]),(2,ql c.sold),(3,.cells (qo a))]:=by
  simp [zl,jX,qy,AObj.ren,AV.renL,AV.ren,qm,ql,qo]
theorem RY (c:Chart) (a:Ask) (j:Nat):zl [0,1] 8 0 (yo c a j)=[(0,qm c.cabins c.secs 8),(1,.cells [.ptr 0 0]),(8,ql ((plP c a).getD j default).2)]:=by
  simp [zl,yo,bL3,qy,AObj.ren,AV.renL,AV.ren,qm,ql]
def jQ:=kk @ty3 (kk @ty4 (kk @J8 (kk @xA (kk @ty119 (kk @Qh0 (kk @ti3.eq_1 (kk @ti4.eq_1 (kk @WF.eq_1 (kk @vR.eq_1 (kk @Qcr.eq_1 @U5.eq_1))))))))))
def xS:=kk @aI.eq_1 (@aB.eq_1)
theorem QgW {c:Chart} {a:Ask} (h:je c a=0):Fn noB Try.prog 69 [.clo 70 [.ptr 1 0,.ptr 3 0]] (qg (qO 0 (jX c a))) (.tup [.sl ((bsK c a (plP c a).length).2.1.map qx),aB (bsK c a (plP c a).length).1]) (qg (wH 0 ((jX c a).map some))) 0:=by
  have hok:=Z5 h
  have env:Env (fun F=>F.r=none) Try.prog tyB (tab []):=qP trivial
  refine Fn.of (A:=fun F=>F.r=none) (n0:=4) (D:=noD) (Fn0 Try.func69 rfl (fun vs w=>by kernel_rfl) (by kernel_rfl)) (by simp) (by simp [AV.ids,AV.idsL]) ?_ (fun _ _ _ h=>h) qF ?_
  · intro i o hi
    have h:=qV hi
    simp [qO,jX] at h
    rcases h with ⟨rfl,rfl⟩|⟨rfl,rfl⟩|⟨rfl,rfl⟩|⟨rfl,rfl⟩ <;> simp [AObj.ids,AV.ids,AV.idsL,qm,ql,qo]
  obtain ⟨N,hN⟩:∃ N,(plP c a).length=N:=⟨_,rfl⟩
  rw [hN]
  show Sym _ _ _ (zZ [.clo 70 [.ptr 1 0,.ptr 3 0]] 4 (qg [(0,qm c.cabins c.secs 2),(1,.cells [.ptr 0 0]),(2,ql c.sold),(3,.cells (qo a))])) (xN tyB noD Try.f69 fun S rv=>Fin S rv _ 4 (qg [(0,qm c.cabins c.secs 2),(1,.cells [.ptr 0 0]),(2,ql c.sold),(3,.cells (qo a))]) 0)
  repeat' (first|(apply nx;with_reducible constructor)|refine jq (by decide) ?_|((first|refine kz env fun Q hQ=>?_|refine kj fun Q hQ=>?_);simp only [vkt,seval,jQ,xS,qd,mTk,qc,qm,ql,bL3,pBb,beL,List.length_map,nth,hwL,Nat.zero_add,Nat.sub_zero];(try simp only [ite_and]);(repeat' (first|with_reducible assumption|refine And.intro ?_ ?_|intro hp));all_goals (first|(refine hQ _ ?_;clear hQ Q)|(refine hQ _ (fun h=>?_) (fun h=>?_) <;> clear hQ Q <;> (try simp only [vki,reduceCtorEq] at h))|(refine kx ?_;kernel_rfl)|omega|assumption|with_reducible rfl|skip)))
  refine xy (S':={ t:=asg beL0,h:=qg (beH c a 0++[(0,qm c.cabins c.secs 2),(1,.cells [.ptr 0 0]),(2,ql c.sold),(3,.cells (qo a))]),n:=7,j:=0,d:=[],m:=4 }) ?_ ?_
  · show Le _ { t:=asg [(2,.ptr 4 0),(3,.ptr 5 0),(4,.ptr 6 0),(7,.clo 70 [.ptr 1 0,.ptr 3 0])],h:=qg [(4,.cells [.sl []]),(5,.cells [aB false]),(6,.cells [aI 0]),(0,qm c.cabins c.secs 2),(1,.cells [.ptr 0 0]),(2,ql c.sold),(3,.cells (qo a))],n:=7,j:=0,d:=[],m:=4 }
    (refine Le.ok some [] ?_;constructor;all_goals (try simp only [vle,vkt,seval,jQ,xS,qd,mTk,qc,qm,ql,bL3,pBb,beL,List.length_map,nth,hwL,Nat.zero_add,Nat.sub_zero]))
    all_goals first|rfl|(simp [qo,AV.leL,AV.le,AV.idsL,AV.ids];done)
  rw [← VQ c a]
  refine vH (fun F h=>h) 2 (L:=beL0) (L':=beL) (xs:=[2,3]) (hs:=[0,1,2,3]) (n:=7) (nl:=1) (hc:=beH c a) (Lp:=jX c a) (jj:=fun _=>0) (d:=[]) (ys:=vB c a) (hl:=yo c a) (ans:=fun _=>true) (ex:=.ret) (caps:=[.ptr 1 0,.ptr 3 0]) (caps0:=[.ptr 1 0,.ptr 3 0]) (N:=(plP c a).length) (R:=N) (A':=fun _ _=>True) rfl (Qf3 hok) (by rw [hN];exact RO) (.inl rfl) ?_ ?_ ?_ rfl (by simp) ?_ (by simp) (fun _ _ _ _ _ _=>trivial) ?_ ?_ ?_ ?_ ?_ ?_ (fun j hj=>?_) ?_ (fun j hj=>?_) (fun _=>?_) (fun _ h=>by cases h)
  · simp [AV.leL,AV.le]
  · simp [AV.nocbL,AV.nocb]
  · simp [Wx,jX,qm,ql,qo,AObj.nocb,AV.nocbL,AV.nocb,AObj.ids,AV.ids,AV.idsL,AObj.ren,AV.renL,AV.ren,AObj.le,AV.leL,AV.le,qy]
  · simp [beH,qg]
  · simp [beH,qg]
  · simp [beH,AObj.ids,AV.ids,AV.idsL,aB,aI]
  · simp [Ui,beL,beL0,asg,upd]
  · simp [Qbl]
  · intro j hj
    simp [absent,beH,RY]
  · simp [JZ,beL,AV.ids]
  · refine ⟨?_,rfl, ?_, ?_,rfl, ?_⟩
    · simp [Qw,beH,AObj.ids,AV.ids,AV.idsL,aB,aI]
    · simp [Wi,yo,bL3,qm,ql,AObj.nocb,AV.nocbL,AV.nocb,AObj.ids,AV.ids,AV.idsL]
    · simp [Vf,vB,qd,AV.nocb,AV.nocbL,AV.ids,AV.idsL]
    · simp [Qp,WV,RY,beH,beL,xJ,AV.ids,ADf.ids,List.range_succ]
  · simp [Qw,beH,AObj.ids,AV.ids,AV.idsL,aB,aI]
  · have env:Env (fun _:Frm=>True) Try.prog tyB (tab [(71,fnE pBb)]):=qP ⟨eBb,trivial⟩
    have hvan:=Qjk h (j:=j) (by omega)
    have hS:bsK c a (j+1)=if !(bsK c a j).1 || decide ((bsK c a j).2.2 < ky c.cabins c.secs ((plP c a).getD j default).2) then (true,((plP c a).getD j default).1,ky c.cabins c.secs ((plP c a).getD j default).2) else bsK c a j:=rfl
    obtain ⟨⟨x,r⟩,hx⟩:∃ x,(plP c a).getD j default=x:=⟨_,rfl⟩
    obtain ⟨⟨f,p,v⟩,hK⟩:∃ x,bsK c a j=x:=⟨_,rfl⟩
    simp only [hx,hK] at hS hvan
    obtain ⟨w,hw⟩:∃ w,ky c.cabins c.secs r=w:=⟨_,rfl⟩
    rw [hw] at hS
    have hst:jo beL [8] [0,1] 7 1 (vB c a j) (beH c a j) (yo c a j)={ t:=asg [(8,.agg [qd x,.clo 71 [.ptr 1 0]]),(2,.ptr 4 0),(3,.ptr 5 0),(4,.ptr 6 0)],h:=qg [(7,.mark),(4,.cells [.sl (p.map qx)]),(5,.cells [aB f]),(6,.cells [aI v]),(0,qm c.cabins c.secs 8),(1,.cells [.ptr 0 0]),(8,ql r)],n:=9,m:=9 }:=by
      simp only [jo,Nat.reduceAdd,RY,vB,hx,hK,qd,List.map_cons,List.map_nil,AV.ren,AV.renL,List.zip_cons_cons,List.zip_nil_right,beH,beL,Zc,List.cons_append,List.nil_append]
      rfl
    show Sym _ _ _ (jo beL [8] [0,1] 7 1 (vB c a j) (beH c a j) (yo c a j)) _
    rw [hst]
    cases f with
    |false =>
      simp only [Bool.not_false,Bool.true_or,if_true] at hS
      repeat' (first|(apply nx;with_reducible constructor)|refine jq (by decide) ?_|((first|refine kz env fun Q hQ=>?_|refine kj fun Q hQ=>?_);simp only [vkt,seval,jQ,xS,qd,mTk,qc,qm,ql,bL3,pBb,beL,List.length_map,nth,hwL,Nat.zero_add,Nat.sub_zero,hvan,hw];(try simp only [ite_and]);(repeat' (first|with_reducible assumption|refine And.intro ?_ ?_|intro hp));all_goals (first|(refine hQ _ ?_;clear hQ Q)|(refine hQ _ (fun h=>?_) (fun h=>?_) <;> clear hQ Q <;> (try simp only [vki,reduceCtorEq] at h))|(refine kx ?_;kernel_rfl)|omega|assumption|with_reducible rfl|skip)))
      all_goals (refine ⟨rfl,rfl,some,_,RFin.okQ some [] ?_⟩;constructor)
      all_goals (try simp only [vle,xH,xe,qy,yo,beH,hx,hS,vkt,seval,jQ,xS,qd,mTk,qc,qm,ql,bL3,pBb,beL,List.length_map,nth,hwL,Nat.zero_add,Nat.sub_zero])
      all_goals first|rfl|(simp;done)|(simp [beL,xJ,AV.ids,ADf.ids,List.range_succ];done)
    |true =>
      cases hd:decide (v < w) with
      |true =>
        simp only [hd,Bool.not_true,Bool.false_or,if_true] at hS
        repeat' (first|(apply nx;with_reducible constructor)|refine jq (by decide) ?_|((first|refine kz env fun Q hQ=>?_|refine kj fun Q hQ=>?_);simp only [vkt,seval,jQ,xS,qd,mTk,qc,qm,ql,bL3,pBb,beL,List.length_map,nth,hwL,Nat.zero_add,Nat.sub_zero,hvan,hw,hd];(try simp only [ite_and]);(repeat' (first|with_reducible assumption|refine And.intro ?_ ?_|intro hp));all_goals (first|(refine hQ _ ?_;clear hQ Q)|(refine hQ _ (fun h=>?_) (fun h=>?_) <;> clear hQ Q <;> (try simp only [vki,reduceCtorEq] at h))|(refine kx ?_;kernel_rfl)|omega|assumption|with_reducible rfl|skip)))
        all_goals (refine ⟨rfl,rfl,some,_,RFin.okQ some [] ?_⟩;constructor)
        all_goals (try simp only [vle,xH,xe,qy,yo,beH,hx,hS,vkt,seval,jQ,xS,qd,mTk,qc,qm,ql,bL3,pBb,beL,List.length_map,nth,hwL,Nat.zero_add,Nat.sub_zero])
        all_goals first|rfl|(simp;done)|(simp [beL,xJ,AV.ids,ADf.ids,List.range_succ];done)
      |false =>
        simp only [hd,Bool.not_true,Bool.false_or,Bool.false_eq_true,if_false] at hS
        repeat' (first|(apply nx;with_reducible constructor)|refine jq (by decide) ?_|((first|refine kz env fun Q hQ=>?_|refine kj fun Q hQ=>?_);simp only [vkt,seval,jQ,xS,qd,mTk,qc,qm,ql,bL3,pBb,beL,List.length_map,nth,hwL,Nat.zero_add,Nat.sub_zero,hvan,hw,hd];(try simp only [ite_and]);(repeat' (first|with_reducible assumption|refine And.intro ?_ ?_|intro hp));all_goals (first|(refine hQ _ ?_;clear hQ Q)|(refine hQ _ (fun h=>?_) (fun h=>?_) <;> clear hQ Q <;> (try simp only [vki,reduceCtorEq] at h))|(refine kx ?_;kernel_rfl)|omega|assumption|with_reducible rfl|skip)))
        all_goals (refine ⟨rfl,rfl,some,_,RFin.okQ some [] ?_⟩;constructor)
        all_goals (try simp only [vle,xH,xe,qy,yo,beH,hx,hS,vkt,seval,jQ,xS,qd,mTk,qc,qm,ql,bL3,pBb,beL,List.length_map,nth,hwL,Nat.zero_add,Nat.sub_zero])
        all_goals first|rfl|(simp;done)|(simp [beL,xJ,AV.ids,ADf.ids,List.range_succ];done)
  · have eh:qg ((7,AObj.mark) :: beH c a N++zl [0,1,2,3] (7+1) 0 (jX c a))=qg [(7,.mark),(4,.cells [.sl ((bsK c a N).2.1.map qx)]),(5,.cells [aB (bsK c a N).1]),(6,.cells [aI (bsK c a N).2.2]),(0,qm c.cabins c.secs 2),(1,.cells [.ptr 0 0]),(2,ql c.sold),(3,.cells (qo a))]:=by
      rw [show zl [0,1,2,3] (7+1) 0 (jX c a)=zl [0,1,2,3] 8 0 (jX c a) from rfl,VQ];rfl
    rw [eh,VQ c a]
    repeat' (first|(apply nx;with_reducible constructor)|refine jq (by decide) ?_|((first|refine kz env fun Q hQ=>?_|refine kj fun Q hQ=>?_);simp only [vkt,seval,jQ,xS,qd,mTk,qc,qm,ql,bL3,pBb,beL,List.length_map,nth,hwL,Nat.zero_add,Nat.sub_zero];(try simp only [ite_and]);(repeat' (first|with_reducible assumption|refine And.intro ?_ ?_|intro hp));all_goals (first|(refine hQ _ ?_;clear hQ Q)|(refine hQ _ (fun h=>?_) (fun h=>?_) <;> clear hQ Q <;> (try simp only [vki,reduceCtorEq] at h))|(refine kx ?_;kernel_rfl)|omega|assumption|with_reducible rfl|skip)))
    (simp only [vrt,Try.results69,vkt,seval,jQ,xS,qd,mTk,qc,qm,ql,bL3,pBb,beL,List.length_map,nth,hwL,Nat.zero_add,Nat.sub_zero];refine Fin.ok some [] ?_ ?_ ?_ ?_ ?_ rfl;all_goals (try simp only [vle,vkt,seval,jQ,xS,qd,mTk,qc,qm,ql,bL3,pBb,beL,List.length_map,nth,hwL,Nat.zero_add,Nat.sub_zero]))
    all_goals first|rfl|(simp [qo,AV.leL,AV.le];done)|exact fun i hi=>(match i,hi with|0,_=>rfl|1,_=>rfl|2,_=>rfl|3,_=>rfl)
end Go.Sym.B
namespace Go.Sym.B
open Go Go.Sym Go.Proofs Go.Sym.C
def Yb (c:Chart) (a:Ask) (S:St):List AV→Option Pk
  |[.clo f [.ptr q 0,.ptr p3 0]]=>match S.h q with
    |some (.cells [.ptr p 0])=>match S.h p with
      |some (.cells [_,_,.row r])=>some { pre:=f=70∧je c a=0,hs:=[p,q,r,p3],ar:=[.clo 70 [.ptr 1 0,.ptr 3 0]],L0:=jX c a,v:=.tup [.sl ((bsK c a (plP c a).length).2.1.map qx),aB (bsK c a (plP c a).length).1],L1:=(jX c a).map some }
      |_=>none
    |_=>none
  |_=>none
theorem eBest {A:Frm→Prop} {c:Chart} {a:Ask}:qB A Try.prog 69 (fnE (Yb c a)):=wE fun S bs q h hp=>by
  unfold Yb at h
  split at h
  · split at h
    · split at h
      · cases h;exact QgW hp.2
      · cases h
    · cases h
  · cases h
def Wy (c:Chart) (a:Ask):List Bunk × Int:=if je c a=0 then (if (bsK c a (plP c a).length).1 then ((bsK c a (plP c a).length).2.1,0) else ([],11)) else ([],je c a)
def kG:=kk @jO (kk @JE (kk @QN (kk @Zu (kk @jE.eq_1 (kk @Wm.eq_1 (kk @Qb.eq_1 @Qv.eq_1))))))
def Jh:=kk @aI.eq_1 (kk @aB.eq_1 (@WS))
theorem QgM (c:Chart) (a:Ask) (hc:c.cabins.length≤maxLen) (ha:a.sexes.length≤maxLen):FnV Try.prog 19 [qa c,qD a] (.tup [.sl ((Wy c a).1.map qx),aI (Wy c a).2]):=by
  have env:Env (fun _=>True) Try.prog tyB (tab [(66,fnE zh),(69,fnE (Yb c a))]):=qP ⟨Xb,eBest,trivial⟩
  refine Fn.of (A:=fun _=>True) (n0:=0) (D:=noD) (Fn0 Try.func19 rfl (fun vs w=>by kernel_rfl) (by kernel_rfl)) (by simp) (by simp [AV.ids,AV.idsL,qa,qb,qD,qo]) (fun i o h=>by cases h) (fun _ _ _ _=>trivial) qF ?_
  have ec:(⟨c.cabins,c.secs,c.sold⟩:Chart)=c:=rfl
  have ea:(⟨a.party,a.frm,a.to,a.sexes,a.dog⟩:Ask)=a:=rfl
  by_cases h0:je c a=0
  · obtain ⟨⟨f,p,v⟩,hK⟩:∃ x,bsK c a (plP c a).length=x:=⟨_,rfl⟩
    cases f with
    |true =>
      rw [show Wy c a=(p,0) by unfold Wy;rw [if_pos h0,hK];rfl]
      repeat' (first|(apply nx;with_reducible constructor)|refine jq (by decide) ?_|((first|refine kz env fun Q hQ=>?_|refine kj fun Q hQ=>?_);simp only [vkt,seval,kG,Jh,qa,qb,qD,qo,mTk,qc,qm,ql,qw,jX,zh,Yb,List.length_map,ec,ea,h0,hK];(try simp only [ite_and]);(repeat' (first|with_reducible assumption|refine And.intro ?_ ?_|intro hp));all_goals (first|(refine hQ _ ?_;clear hQ Q)|(refine hQ _ (fun h=>?_) (fun h=>?_) <;> clear hQ Q <;> (try simp only [vki,reduceCtorEq] at h))|(refine kx ?_;kernel_rfl)|omega|assumption|with_reducible rfl|skip)))
      (simp only [vrt,Try.results19,vkt,seval,kG,Jh,qa,qb,qD,qo,mTk,qc,qm,ql,qw,jX,zh,Yb,List.length_map];refine Fin.val rfl ?_;(try simp only [AV.le,AV.leL]))
      all_goals first|rfl|(simp;done)
    |false =>
      rw [show Wy c a=([],11) by unfold Wy;rw [if_pos h0,hK];rfl]
      repeat' (first|(apply nx;with_reducible constructor)|refine jq (by decide) ?_|((first|refine kz env fun Q hQ=>?_|refine kj fun Q hQ=>?_);simp only [vkt,seval,kG,Jh,qa,qb,qD,qo,mTk,qc,qm,ql,qw,jX,zh,Yb,List.length_map,ec,ea,h0,hK];(try simp only [ite_and]);(repeat' (first|with_reducible assumption|refine And.intro ?_ ?_|intro hp));all_goals (first|(refine hQ _ ?_;clear hQ Q)|(refine hQ _ (fun h=>?_) (fun h=>?_) <;> clear hQ Q <;> (try simp only [vki,reduceCtorEq] at h))|(refine kx ?_;kernel_rfl)|omega|assumption|with_reducible rfl|skip)))
      (simp only [vrt,Try.results19,vkt,seval,kG,Jh,qa,qb,qD,qo,mTk,qc,qm,ql,qw,jX,zh,Yb,List.length_map];refine Fin.val rfl ?_;(try simp only [AV.le,AV.leL]))
      all_goals first|rfl|(simp;done)
  · rw [show Wy c a=([],je c a) by unfold Wy;rw [if_neg h0]]
    repeat' (first|(apply nx;with_reducible constructor)|refine jq (by decide) ?_|((first|refine kz env fun Q hQ=>?_|refine kj fun Q hQ=>?_);simp only [vkt,seval,kG,Jh,qa,qb,qD,qo,mTk,qc,qm,ql,qw,jX,zh,Yb,List.length_map,ec,ea,h0];(try simp only [ite_and]);(repeat' (first|with_reducible assumption|refine And.intro ?_ ?_|intro hp));all_goals (first|(refine hQ _ ?_;clear hQ Q)|(refine hQ _ (fun h=>?_) (fun h=>?_) <;> clear hQ Q <;> (try simp only [vki,reduceCtorEq] at h))|(refine kx ?_;kernel_rfl)|omega|assumption|with_reducible rfl|skip)))
    (simp only [vrt,Try.results19,vkt,seval,kG,Jh,qa,qb,qD,qo,mTk,qc,qm,ql,qw,jX,zh,Yb,List.length_map];refine Fin.val rfl ?_;(try simp only [AV.le,AV.leL]))
    all_goals first|rfl|(simp;done)
end Go.Sym.B
namespace Go.Sym.B
open Go Go.Sym Go.Proofs Go.Sym.C
def XA:=kk @xA @vR.eq_1
def Qb4:=kk @aI.eq_1 (@aB.eq_1)
theorem Qhg (a b:Int):FnV Try.prog 28 [aI a,aI b] (qf ⟨a,b⟩):=by
  have env:Env (fun _=>True) Try.prog tyB (tab []):=qP trivial
  refine Fn.of (A:=fun _=>True) (n0:=0) (D:=noD) (Fn0 Try.func28 rfl (fun vs w=>by kernel_rfl) (by kernel_rfl)) (by simp) (by simp [AV.ids,aI]) (fun i o h=>by cases h) (fun _ _ _ _=>trivial) qF ?_
  repeat' (first|(apply nx;with_reducible constructor)|refine jq (by decide) ?_|((first|refine kz env fun Q hQ=>?_|refine kj fun Q hQ=>?_);simp only [vkt,seval,XA,Qb4,qf];(try simp only [ite_and]);(repeat' (first|with_reducible assumption|refine And.intro ?_ ?_|intro hp));all_goals (first|(refine hQ _ ?_;clear hQ Q)|(refine hQ _ (fun h=>?_) (fun h=>?_) <;> clear hQ Q <;> (try simp only [vki,reduceCtorEq] at h))|(refine kx ?_;kernel_rfl)|omega|assumption|with_reducible rfl|skip)))
  (simp only [vrt,Try.results28,vkt,seval,XA,Qb4,qf];refine Fin.val rfl ?_;(try simp only [AV.le,AV.leL]))
  all_goals first|rfl|(simp;done)
def QS:List AV→Prop × AV
  |[.v (.int .i64 a),.v (.int .i64 b)]=>(True,qf ⟨a,b⟩)
  |_=>(False,.junk)
theorem Qic {A:Frm→Prop}:qB A Try.prog 28 (qU false QS):=za fun vs hv h=>by
  clear hv
  unfold QS at h ⊢
  split at h
  · rename_i a b;clear h
    refine ⟨by first|trivial|(simp [AV.plain,AV.plainL,aI,aB,qA,qd,qh,qf,aTk,cTk];done)|(repeat' split) <;> simp [AV.plain,AV.plainL,aI,aB,qA,qd,qh,qf,aTk,cTk],fun h=>absurd h (by decide), ?_⟩
    have:=Qhg a b
    simp only [aI] at this
    first|exact this|(simp only [aI];exact this)
  · exact h.elim
def VL:=kk @yw @j3.eq_1
def Qci:=kk @aI.eq_1 (@aB.eq_1)
theorem QgL (p x c b f t:Int):FnV Try.prog 117 [aI p,aI x,aI c,aI b,aI f,aI t] (aTk ⟨p,x,c,b,f,t,false⟩):=by
  have env:Env (fun _=>True) Try.prog tyB (tab [(28,qU false QS)]):=qP ⟨Qic,trivial⟩
  refine Fn.of (A:=fun _=>True) (n0:=0) (D:=noD) (Fn0 Try.func117 rfl (fun vs w=>by kernel_rfl) (by kernel_rfl)) (by simp) (by simp [AV.ids,aI]) (fun i o h=>by cases h) (fun _ _ _ _=>trivial) qF ?_
  repeat' (first|(apply nx;with_reducible constructor)|refine jq (by decide) ?_|((first|refine kz env fun Q hQ=>?_|refine kj fun Q hQ=>?_);simp only [vkt,seval,VL,Qci,qf,aTk,cTk,QS];(try simp only [ite_and]);(repeat' (first|with_reducible assumption|refine And.intro ?_ ?_|intro hp));all_goals (first|(refine hQ _ ?_;clear hQ Q)|(refine hQ _ (fun h=>?_) (fun h=>?_) <;> clear hQ Q <;> (try simp only [vki,reduceCtorEq] at h))|(refine kx ?_;kernel_rfl)|omega|assumption|with_reducible rfl|skip)))
  (simp only [vrt,Try.results117,vkt,seval,VL,Qci,qf,aTk,cTk,QS];refine Fin.val rfl ?_;(try simp only [AV.le,AV.leL]))
  all_goals first|rfl|(simp;done)
def JU:List AV→Prop × AV
  |[.v (.int .i64 p),.v (.int .i64 x),.v (.int .i64 c),.v (.int .i64 b),.v (.int .i64 f),.v (.int .i64 t)]=>(True,aTk ⟨p,x,c,b,f,t,false⟩)
  |_=>(False,.junk)
theorem Qh5 {A:Frm→Prop}:qB A Try.prog 117 (qU false JU):=za fun vs hv h=>by
  clear hv
  unfold JU at h ⊢
  split at h
  · rename_i p x c b f t;clear h
    refine ⟨by first|trivial|(simp [AV.plain,AV.plainL,aI,aB,qA,qd,qh,qf,aTk,cTk];done)|(repeat' split) <;> simp [AV.plain,AV.plainL,aI,aB,qA,qd,qh,qf,aTk,cTk],fun h=>absurd h (by decide), ?_⟩
    have:=QgL p x c b f t
    simp only [aI] at this
    first|exact this|(simp only [aI];exact this)
  · exact h.elim
end Go.Sym.B
namespace Go.Sym.B
open Go Go.Sym Go.Proofs Go.Sym.C
theorem Wz {α:Type} [Inhabited α] {l m:List α} (h0:l.length=m.length) (h:∀ j,j < l.length→l.getD j default=m.getD j default):l=m:=by
  apply List.ext_getElem h0
  intro j h1 h2
  have:=h j h1
  simpa [List.getD_eq_getElem?_getD,h1,h2] using this
def eqS (l m:List Bunk) (k:Nat):St:={ t:=asg [(0,qd l),(1,qd m),(4,aB false),(5,aI k)],h:=qg [],n:=0 }
def jy:=kk @ty3 (kk @J8 (kk @xA (kk @ti3.eq_1 (kk @WF.eq_1 @vR.eq_1))))
def vo:=kk @aI.eq_1 (@aB.eq_1)
theorem Qir (l m:List Bunk) (hl:l.length≤1000) (hm:m.length≤1000):FnV Try.prog 24 [qd l,qd m] (aB (decide (l=m))):=by
  have env:Env (fun _=>True) Try.prog tyB (tab []):=qP trivial
  refine Fn.of (A:=fun _=>True) (n0:=0) (D:=noD) (Fn0 Try.func24 rfl (fun vs w=>by kernel_rfl) (by kernel_rfl)) (by simp) (by simp [AV.ids,qd]) (fun i o h=>by cases h) (fun _ _ _ _=>trivial) qF ?_
  by_cases h0:l.length=m.length
  · have d0:decide ((l.length:Int)=(m.length:Int))=true:=decide_eq_true (by omega)
    repeat' (first|(apply nx;with_reducible constructor)|refine jq (by decide) ?_|((first|refine kz env fun Q hQ=>?_|refine kj fun Q hQ=>?_);simp only [vkt,seval,jy,vo,qd,qx,qE,eqS,Bool.true_and,Bool.false_and,d0];(try simp only [ite_and]);(repeat' (first|with_reducible assumption|refine And.intro ?_ ?_|intro hp));all_goals (first|(refine hQ _ ?_;clear hQ Q)|(refine hQ _ (fun h=>?_) (fun h=>?_) <;> clear hQ Q <;> (try simp only [vki,reduceCtorEq] at h))|(refine kx ?_;kernel_rfl)|omega|assumption|with_reducible rfl|skip)))
    refine qX (fun k:{ k:Nat // k≤l.length∧∀ j,j < k→l.getD j default=m.getD j default }=>eqS l m k.1) (fun k=>l.length - k.1) ⟨0,Nat.zero_le _,fun j h=>absurd h (Nat.not_lt_zero _)⟩ ?_ fun ⟨k,hk,hno⟩=>?_
    · (refine Le.ok some [] ?_;constructor;all_goals (try simp only [vle,vkt,seval,jy,vo,qd,qx,qE,eqS,Bool.true_and,Bool.false_and]))
      all_goals first|rfl|(simp;done)
    · repeat' (first|(apply nx;with_reducible constructor)|refine jq (by decide) ?_)
      (refine kz env fun Q hQ=>?_;simp only [vkt,seval,jy,vo,qd,qx,qE,eqS,Bool.true_and,Bool.false_and];(try simp only [ite_and]);(repeat' (first|with_reducible assumption|refine And.intro ?_ ?_|intro hp));all_goals (first|(refine hQ _ ?_;clear hQ Q)|(refine kx ?_;kernel_rfl)|omega|assumption|with_reducible rfl|skip))
      repeat' (first|(apply nx;with_reducible constructor)|refine jq (by decide) ?_)
      (refine yH (by simp only [vkt,seval,jy,vo,qd,qx,qE,eqS,Bool.true_and,Bool.false_and];rfl) (fun h=>?_) (fun h=>?_) <;> (try simp only [vki,reduceCtorEq] at h))
      · have hlt:k < l.length:=by omega
        have hlm:k < m.length:=by omega
        have e9:IntKind.wrap .i64 ((k:Int)+1)=((k+1:Nat):Int):=by rw [wrap64 (by omega) (by omega)];rfl
        obtain ⟨x,hx⟩:∃ x,l.getD k default=x:=⟨_,rfl⟩
        obtain ⟨y,hy⟩:∃ x,m.getD k default=x:=⟨_,rfl⟩
        have hxy:(x=y)=(x.cab=y.cab∧x.bed=y.bed):=by cases x;cases y;simp
        have hne:¬ x=y→decide (l=m)=false:=fun h=>decide_eq_false fun e=>h (by rw [← hx,← hy,e])
        cases q1:decide (x.cab=y.cab)
        · rw [hne (by rw [hxy];exact fun h=>of_decide_eq_false q1 h.1)]
          repeat' (first|(apply nx;with_reducible constructor)|refine jq (by decide) ?_|((first|refine kz env fun Q hQ=>?_|refine kj fun Q hQ=>?_);simp only [vkt,seval,jy,vo,qd,qx,qE,eqS,Bool.true_and,Bool.false_and,hx,hy,q1,hlm,e9];(try simp only [ite_and]);(repeat' (first|with_reducible assumption|refine And.intro ?_ ?_|intro hp));all_goals (first|(refine hQ _ ?_;clear hQ Q)|(refine hQ _ (fun h=>?_) (fun h=>?_) <;> clear hQ Q <;> (try simp only [vki,reduceCtorEq] at h))|(refine kx ?_;kernel_rfl)|omega|assumption|with_reducible rfl|skip)))
          (simp only [vrt,Try.results24,vkt,seval,jy,vo,qd,qx,qE,eqS,Bool.true_and,Bool.false_and];refine Fin.val rfl ?_;(try simp only [AV.le,AV.leL]))
          all_goals first|rfl|(simp;done)
        · cases q2:decide (x.bed=y.bed)
          · rw [hne (by rw [hxy];exact fun h=>of_decide_eq_false q2 h.2)]
            repeat' (first|(apply nx;with_reducible constructor)|refine jq (by decide) ?_|((first|refine kz env fun Q hQ=>?_|refine kj fun Q hQ=>?_);simp only [vkt,seval,jy,vo,qd,qx,qE,eqS,Bool.true_and,Bool.false_and,hx,hy,q1,q2,hlm,e9];(try simp only [ite_and]);(repeat' (first|with_reducible assumption|refine And.intro ?_ ?_|intro hp));all_goals (first|(refine hQ _ ?_;clear hQ Q)|(refine hQ _ (fun h=>?_) (fun h=>?_) <;> clear hQ Q <;> (try simp only [vki,reduceCtorEq] at h))|(refine kx ?_;kernel_rfl)|omega|assumption|with_reducible rfl|skip)))
            (simp only [vrt,Try.results24,vkt,seval,jy,vo,qd,qx,qE,eqS,Bool.true_and,Bool.false_and];refine Fin.val rfl ?_;(try simp only [AV.le,AV.leL]))
            all_goals first|rfl|(simp;done)
          · have he:x=y:=by rw [hxy];exact ⟨of_decide_eq_true q1,of_decide_eq_true q2⟩
            repeat' (first|(apply nx;with_reducible constructor)|refine jq (by decide) ?_|((first|refine kz env fun Q hQ=>?_|refine kj fun Q hQ=>?_);simp only [vkt,seval,jy,vo,qd,qx,qE,eqS,Bool.true_and,Bool.false_and,hx,hy,q1,q2,hlm,e9];(try simp only [ite_and]);(repeat' (first|with_reducible assumption|refine And.intro ?_ ?_|intro hp));all_goals (first|(refine hQ _ ?_;clear hQ Q)|(refine hQ _ (fun h=>?_) (fun h=>?_) <;> clear hQ Q <;> (try simp only [vki,reduceCtorEq] at h))|(refine kx ?_;kernel_rfl)|omega|assumption|with_reducible rfl|skip)))
            refine ⟨⟨k+1,hlt,fun j hj=>?_⟩,by show l.length - (k+1) < l.length - k;omega, ?_⟩
            · rcases Nat.lt_or_eq_of_le (Nat.le_of_lt_succ hj) with h1|h1
              · exact hno j h1
              · rw [h1,hx,hy];exact he
            · (refine Le.ok some [] ?_;constructor;all_goals (try simp only [vle,vkt,seval,jy,vo,qd,qx,qE,eqS,Bool.true_and,Bool.false_and]))
              all_goals first|rfl|(simp;done)
      · have hke:k=l.length:=by omega
        subst hke
        rw [decide_eq_true (Wz h0 hno)]
        repeat' (first|(apply nx;with_reducible constructor)|refine jq (by decide) ?_|((first|refine kz env fun Q hQ=>?_|refine kj fun Q hQ=>?_);simp only [vkt,seval,jy,vo,qd,qx,qE,eqS,Bool.true_and,Bool.false_and];(try simp only [ite_and]);(repeat' (first|with_reducible assumption|refine And.intro ?_ ?_|intro hp));all_goals (first|(refine hQ _ ?_;clear hQ Q)|(refine hQ _ (fun h=>?_) (fun h=>?_) <;> clear hQ Q <;> (try simp only [vki,reduceCtorEq] at h))|(refine kx ?_;kernel_rfl)|omega|assumption|with_reducible rfl|skip)))
        (simp only [vrt,Try.results24,vkt,seval,jy,vo,qd,qx,qE,eqS,Bool.true_and,Bool.false_and];refine Fin.val rfl ?_;(try simp only [AV.le,AV.leL]))
        all_goals first|rfl|(simp;done)
  · have d0:decide ((l.length:Int)=(m.length:Int))=false:=decide_eq_false (by omega)
    rw [decide_eq_false (fun e=>h0 (by rw [e]))]
    repeat' (first|(apply nx;with_reducible constructor)|refine jq (by decide) ?_|((first|refine kz env fun Q hQ=>?_|refine kj fun Q hQ=>?_);simp only [vkt,seval,jy,vo,qd,qx,qE,eqS,Bool.true_and,Bool.false_and,d0];(try simp only [ite_and]);(repeat' (first|with_reducible assumption|refine And.intro ?_ ?_|intro hp));all_goals (first|(refine hQ _ ?_;clear hQ Q)|(refine hQ _ (fun h=>?_) (fun h=>?_) <;> clear hQ Q <;> (try simp only [vki,reduceCtorEq] at h))|(refine kx ?_;kernel_rfl)|omega|assumption|with_reducible rfl|skip)))
    (simp only [vrt,Try.results24,vkt,seval,jy,vo,qd,qx,qE,eqS,Bool.true_and,Bool.false_and];refine Fin.val rfl ?_;(try simp only [AV.le,AV.leL]))
    all_goals first|rfl|(simp;done)
def seqB:List AV→Prop × AV
  |[.sl l,.sl m]=>(l=(l.map wS).map qx∧m=(m.map wS).map qx∧(l.map wS).length≤1000∧(m.map wS).length≤1000,aB (decide ((l.map wS)=(m.map wS))))
  |_=>(False,.junk)
theorem eeqB {A:Frm→Prop}:qB A Try.prog 24 (qU true seqB):=za fun vs hv h=>by
  clear hv
  unfold seqB at h ⊢
  split at h
  · rename_i l m;obtain ⟨q0,q1,k0,k1⟩:=h
    refine ⟨by first|trivial|(simp [AV.plain,AV.plainL,aI,aB,qA,qd,qh,qf,aTk,cTk];done)|(repeat' split) <;> simp [AV.plain,AV.plainL,aI,aB,qA,qd,qh,qf,aTk,cTk],fun _=>(by simp [AV.flat,AV.flatL,aI,aB]), ?_⟩
    have:=Qir (l.map wS) (m.map wS) k0 k1
    simp only [qd,← q0,← q1] at this
    first|exact this|(simp only [qd,← q0,← q1];exact this)
  · exact h.elim
end Go.Sym.B
namespace Go.Sym.B
open Go Go.Sym Go.Proofs Go.Sym.C
def yf (more:List Tk):Chart:=⟨[⟨2,true⟩,⟨2,false⟩,⟨1,false⟩],4,⟨1,1,0,0,0,2,false⟩ :: ⟨2,2,1,0,1,4,false⟩ :: more⟩
def WB:=kk @WT (kk @xC (kk @jO (kk @WP (kk @yw (kk @Zv.eq_1 (kk @vP.eq_1 (kk @jE.eq_1 (kk @Zq.eq_1 @j3.eq_1))))))))
def KW:=kk @aI.eq_1 (@aB.eq_1)
theorem Qer (more:List Tk) (hm:more.length≤100):FnV Try.prog 77 [qh more] (qa (yf more)):=by
  have env:Env (fun _=>True) Try.prog tyB (tab [(117,qU false JU)]):=qP ⟨Qh5,trivial⟩
  refine Fn.of (A:=fun _=>True) (n0:=0) (D:=noD) (Fn0 Try.func77 rfl (fun vs w=>by kernel_rfl) (by kernel_rfl)) (by simp) (by simp [AV.ids,qh]) (fun i o h=>by cases h) (fun _ _ _ _=>trivial) qF ?_
  have hx:(100:Nat)+2≤maxLen:=by decide
  have h1:more.length+2≤maxLen:=by omega
  have h2:2+more.length≤maxLen:=by omega
  show Sym _ _ _ (zZ [qh more] 0 noH) (xN tyB noD Try.f77 fun S rv=>Fin S rv _ 0 (qg []) 0)
  repeat' (first|(apply nx;with_reducible constructor)|refine jq (by decide) ?_|((first|refine kz env fun Q hQ=>?_|refine kj fun Q hQ=>?_);simp only [vkt,seval,WB,KW,aTk,cTk,qh,eTk,rTk,mTk,JU,yf,qa,qb,qj,List.length_map,hm,h1,h2];(try simp only [ite_and]);(repeat' (first|with_reducible assumption|refine And.intro ?_ ?_|intro hp));all_goals (first|(refine hQ _ ?_;clear hQ Q)|(refine hQ _ (fun h=>?_) (fun h=>?_) <;> clear hQ Q <;> (try simp only [vki,reduceCtorEq] at h))|(refine kx ?_;kernel_rfl)|omega|assumption|with_reducible rfl|skip)))
  simp only [yf,qa,qb,qj,List.map_cons,List.map_nil]
  (simp only [vrt,Try.results77,vkt,seval,WB,KW,aTk,cTk,qh,eTk,rTk,mTk,JU,yf,qa,qb,qj,List.length_map];refine Fin.ok some [1,3] ?_ ?_ ?_ ?_ ?_ rfl;all_goals (try simp only [vle,vkt,seval,WB,KW,aTk,cTk,qh,eTk,rTk,mTk,JU,yf,qa,qb,qj,List.length_map]))
  all_goals first|rfl|(simp [eTk];done)
def VS:=kk @JE @Wm.eq_1
def QbT:=kk @aI.eq_1 (kk @aB.eq_1 (@qA.eq_1))
theorem QhH (f t:Int) (d:Bool) (l:List Int):FnV Try.prog 78 [aI f,aI t,aB d,qA l] (qD ⟨9,f,t,l,d⟩):=by
  have env:Env (fun _=>True) Try.prog tyB (tab []):=qP trivial
  refine Fn.of (A:=fun _=>True) (n0:=0) (D:=noD) (Fn0 Try.func78 rfl (fun vs w=>by kernel_rfl) (by kernel_rfl)) (by simp) (by simp [AV.ids,aI,aB,qA]) (fun i o h=>by cases h) (fun _ _ _ _=>trivial) qF ?_
  repeat' (first|(apply nx;with_reducible constructor)|refine jq (by decide) ?_|((first|refine kz env fun Q hQ=>?_|refine kj fun Q hQ=>?_);simp only [vkt,seval,VS,QbT,qD,qo,List.length_map];(try simp only [ite_and]);(repeat' (first|with_reducible assumption|refine And.intro ?_ ?_|intro hp));all_goals (first|(refine hQ _ ?_;clear hQ Q)|(refine hQ _ (fun h=>?_) (fun h=>?_) <;> clear hQ Q <;> (try simp only [vki,reduceCtorEq] at h))|(refine kx ?_;kernel_rfl)|omega|assumption|with_reducible rfl|skip)))
  (simp only [vrt,Try.results78,vkt,seval,VS,QbT,qD,qo,List.length_map];refine Fin.val rfl ?_;(try simp only [AV.le,AV.leL]))
  all_goals first|rfl|(simp;done)
end Go.Sym.B
namespace Go.Sym.B
open Go Go.Sym Go.Proofs Go.Sym.C
def pkK (f:Bunk→Int) (l:List Bunk):Nat→Bunk × Int
  |0=>(⟨0,0⟩,0)
  |i+1=>if i=0∨f (l.getD i default) < (pkK f l i).2 then (l.getD i default,f (l.getD i default)) else pkK f l i
def yG:List (List Bunk)→Bunk→Bunk × Int
  |[],_=>(⟨0,0⟩,0)
  |l :: rest,b=>pkK (fun y=>(yG rest y).2+if y=b then 0 else 1) l l.length
def nxF (L:List (List Bunk)) (at_:Nat) (b y:Bunk):Int:=(yG (L.drop (at_+1)) y).2+if y=b then 0 else 1
theorem Qgd {L:List (List Bunk)} {i:Nat} (h:i < L.length) (b:Bunk):yG (L.drop i) b=pkK (nxF L i b) (L.getD i []) (L.getD i []).length:=by
  rw [List.drop_eq_getElem_cons h,yG]
  rw [show L.getD i []=L[i] by simp [List.getD_eq_getElem?_getD,h]]
  rfl
def VU:List (List Bunk)→Bunk→List Bunk
  |[],_=>[]
  |l :: rest,b=>(yG (l :: rest) b).1 :: VU rest (yG (l :: rest) b).1
theorem Qga {f:Bunk→Int} {l:List Bunk} {n:Int} (hn:0≤n) (h:∀ b ∈ l,0≤f b∧f b≤n):∀ i,i≤l.length→0≤(pkK f l i).2∧(pkK f l i).2≤n
  |0,_=>⟨Int.le_refl 0,hn⟩
  |i+1,hi=>by
    rw [pkK]
    split
    · exact h _ (vK hi)
    · exact Qga hn h i (by omega)
theorem VD:∀ (L:List (List Bunk)) (b:Bunk),0≤(yG L b).2∧(yG L b).2≤(L.length:Int)
  |[],_=>by simp [yG]
  |l :: rest,b=>by
    rw [yG]
    refine Qga (by omega) (fun y _=>?_) _ (Nat.le_refl _)
    have:=VD rest y
    rw [List.length_cons]
    split <;> omega
theorem Qi6 (L:List (List Bunk)) (i:Nat) (b y:Bunk):0≤nxF L i b y∧nxF L i b y≤(L.length:Int)+1:=by
  have h:=VD (L.drop (i+1)) y
  rw [List.length_drop] at h
  unfold nxF
  split <;> omega
def wkK (L:List (List Bunk)):Nat→List Bunk
  |0=>[]
  |i+1=>wkK L i++[(yG (L.drop i) (if i=0 then ⟨-1,0⟩ else (wkK L i).getD (i - 1) default)).1]
theorem Um (L:List (List Bunk)):∀ i,(wkK L i).length=i
  |0=>rfl
  |i+1=>by rw [wkK,List.length_append,Um L i];rfl
def wkB (L:List (List Bunk)) (i:Nat):Bunk:=if i=0 then ⟨-1,0⟩ else (wkK L i).getD (i - 1) default
theorem Vz (L:List (List Bunk)) (i:Nat):wkK L (i+1)=wkK L i++[(yG (L.drop i) (wkB L i)).1]:=rfl
theorem QeN (L:List (List Bunk)) (i:Nat):wkB L (i+1)=(yG (L.drop i) (wkB L i)).1:=by
  unfold wkB
  rw [if_neg (by omega),Vz]
  have h:=Um L i
  rw [show i+1 - 1=i by omega,List.getD_eq_getElem?_getD,List.getElem?_append_right (by omega),h]
  simp
  rfl
theorem QcH (L:List (List Bunk)):∀ i,i≤L.length→VU L ⟨-1,0⟩=wkK L i++VU (L.drop i) (wkB L i)
  |0,_=>by simp [wkK,wkB]
  |i+1,h=>by
    rw [QcH L i (by omega),Vz,QeN]
    conv=>lhs;rw [List.drop_eq_getElem_cons (show i < L.length by omega),VU]
    rw [← List.drop_eq_getElem_cons (show i < L.length by omega)]
    simp
theorem Qjb (L:List (List Bunk)):wkK L L.length=VU L ⟨-1,0⟩:=by
  rw [QcH L L.length (Nat.le_refl _),List.drop_length,VU,List.append_nil]
def XH (a:Ask) (s:Int):Ask:=⟨a.party,s,s+1,a.sexes,a.dog⟩
def xE (c:Chart) (a:Ask) (s:Int):List Bunk:=(plP c (XH a s)).map fun x=>x.1.getD 0 default
def Q5 (c:Chart) (a:Ask) (k:Nat):List (List Bunk):=(List.range k).map fun (i:Nat)=>xE c a (a.frm+i)
def WG (c:Chart) (a:Ask):List (List Bunk):=Q5 c a (a.to - a.frm).toNat
theorem Qam (c:Chart) (a:Ask) (k:Nat):Q5 c a (k+1)=Q5 c a k++[xE c a (a.frm+k)]:=by
  unfold Q5;rw [List.range_succ,List.map_append];rfl
def Zd (c:Chart) (a:Ask):List Bunk × Int × Int :=
  if je c a ≠ 0 then ([],0,je c a) else if 1 < a.sexes.length then ([],0,6) else if a.dog then ([],0,9) else
  if (WG c a).any (·.isEmpty) then ([],0,11) else (VU (WG c a) ⟨-1,0⟩,(yG (WG c a) ⟨-1,0⟩).2 - 1,0)
def ZA (i:Int) (b:Bunk):Value:=.agg #[.int .i64 i,.int .i64 b.cab,.int .i64 b.bed]
theorem LM {i j:Int} {b c:Bunk} (h:ZA i b=ZA j c):i=j∧b=c:=by
  cases b;cases c
  simp [ZA] at h
  obtain ⟨rfl,rfl,rfl⟩:=h
  exact ⟨rfl,rfl⟩
def QbS:KeyInfo:={ kd:=.agg [some .i64,some .i64,some .i64],z:=.v (.int .i64 0),agg:=false }
def RV (es:List (Value × Value)) (kv:Value) (n:Int):Prop:=∃ b,yV QbS (yB es kv)=(True,.v (.int .i64 n),b)
theorem QdF {es:List (Value × Value)} {kv:Value} (h:yB es kv=none):RV es kv 0:=by
  refine ⟨false, ?_⟩
  rw [h]
  show (_,_,_)=_
  simp [QbS,AV.ids]
theorem Qdg {es:List (Value × Value)} {kv:Value} {n:Int} (h:yB es kv=some (.int .i64 n)):RV es kv n:=by
  refine ⟨true, ?_⟩
  rw [h]
  show (_,_,_)=_
  simp [QbS,XE,Value.oneCell',vAV]
theorem QcJ {es:List (Value × Value)} {kv:Value} {n:Int}:RV (vE es kv (.int .i64 n)) kv n:=Qdg (by rw [J5,if_pos rfl])
theorem Qb0 {es:List (Value × Value)} {kv kv' v:Value} {n:Int} (hne:kv ≠ kv') (h:RV es kv' n):RV (vE es kv v) kv' n:=by
  unfold RV
  rw [J5,if_neg hne]
  exact h
theorem JR {es:List (Value × Value)} {k v:Value}:(vE es k v).length≤es.length+1:=by
  induction es with
  |nil=>simp [vE]
  |cons p es ih =>
    rw [vE]
    split
    · simp
    · rw [List.length_cons,List.length_cons];omega
abbrev Qh9:Value→Prop:=KD.Q (.agg [some .i64,some .i64,some .i64])
theorem spotQ (i:Int) (b:Bunk):Qh9 (ZA i b):=⟨⟨_,rfl⟩,⟨_,rfl⟩,⟨_,rfl⟩,trivial⟩
structure BhOk (L:List (List Bunk)) (es:List (Value × Value)) (at_:Nat):Prop where
  ok:MOK Qh9 es
  look:∀ j,at_≤j→j < L.length→∀ x ∈ L.getD j [],RV es (ZA j x) (yG (L.drop (j+1)) x).2
theorem Qi1 (L:List (List Bunk)):BhOk L [] (L.length - 1):=⟨MOK.nil _,fun j h1 h2 x _=>by
  rw [List.drop_eq_nil_iff.2 (by omega)]
  exact QdF rfl⟩
structure BhIn (L:List (List Bunk)) (es:List (Value × Value)) (at_ i:Nat):Prop where
  bh:BhOk L es (at_+1)
  cur:∀ k,k < i→k < (L.getD at_ []).length→RV es (ZA at_ ((L.getD at_ []).getD k default)) (yG (L.drop (at_+1)) ((L.getD at_ []).getD k default)).2
theorem BhOk.inn {L:List (List Bunk)} {es:List (Value × Value)} {i:Nat} (h:BhOk L es (i+1)):BhIn L es i 0:=⟨h,fun k hk=>absurd hk (Nat.not_lt_zero _)⟩
theorem BhIn.step {L:List (List Bunk)} {es:List (Value × Value)} {at_ i:Nat} (h:BhIn L es at_ i) {b:Bunk} (hb:(L.getD at_ []).getD i default=b) {n:Int} (hn:(yG (L.drop (at_+1)) b).2=n) :
    BhIn L (vE es (ZA at_ b) (.int .i64 n)) at_ (i+1):=by
  refine ⟨⟨h.bh.ok.set (spotQ _ _),fun j h1 h2 x hx=>Qb0 (fun e=>?_) (h.bh.look j h1 h2 x hx)⟩,fun k hk hl=>?_⟩
  · have:=(LM e).1;omega
  · obtain ⟨x,hx⟩:∃ x,(L.getD at_ []).getD k default=x:=⟨_,rfl⟩
    rw [hx]
    by_cases hxb:b=x
    · subst hxb;rw [hn];exact QcJ
    · have hki:k < i:=by
        rcases Nat.lt_or_eq_of_le (Nat.le_of_lt_succ hk) with h1|h1
        · exact h1
        · subst h1;exact absurd (hb.symm.trans hx) hxb
      have:=h.cur k hki hl
      rw [hx] at this
      exact Qb0 (fun e=>hxb (LM e).2) this
theorem BhIn.out {L:List (List Bunk)} {es:List (Value × Value)} {i:Nat} (h:BhIn L es i (L.getD i []).length):BhOk L es i:=⟨h.bh.ok,fun j h1 h2 x hx=>by
  rcases Nat.lt_or_eq_of_le h1 with h3|h3
  · exact h.bh.look j h3 h2 x hx
  · subst h3
    obtain ⟨k,hk,rfl⟩:=List.mem_iff_getElem.1 hx
    have:=h.cur k hk hk
    rwa [show (L.getD i []).getD k default=(L.getD i [])[k] by rw [List.getD_eq_getElem?_getD,List.getElem?_eq_getElem hk];rfl] at this⟩
end Go.Sym.B
namespace Go.Sym.B
open Go Go.Sym Go.Proofs Go.Sym.C
structure NxOk (L:List (List Bunk)) (es:List (Value × Value)) (i:Nat):Prop where
  len:L.length≤100
  lt:i < L.length
  each:∀ l ∈ L,l.length≤1000
  bh:BhOk L es i
def nxL (L:List (List Bunk)) (es:List (Value × Value)):List AObj:=[.cells [.row 2],.cells [.mp 3],.row 37 1 (L.map qG),.map es]
theorem QhF {L:List (List Bunk)} {es:List (Value × Value)}:∀ i o,qg (qO 0 (nxL L es)) i=some o→i < 4∧∀ id ∈ o.ids,id < 4:=by
  intro i o hi
  have h:=qV hi
  simp [qO,nxL] at h
  rcases h with ⟨rfl,rfl⟩|⟨rfl,rfl⟩|⟨rfl,rfl⟩|⟨rfl,rfl⟩ <;> simp [AObj.ids,AV.ids,AV.idsL]
def ncS (L:List (List Bunk)) (es:List (Value × Value)) (i:Nat) (b:Bunk) (l:List Bunk) (k:Nat) (o:Bunk) (n:Int):St:={ t:=asg [(0,aI i),(2,.ptr 0 0),(3,.ptr 1 0),(5,.ptr 4 0),(6,.ptr 5 0),(7,aI n),(14,qd l),(15,aI l.length),(16,aI k)],h:=qg [(0,.cells [.row 2]),(1,.cells [.mp 3]),(2,.row 37 1 (L.map qG)),(3,.map es),(4,.cells [.v (.int .i64 b.cab),.v (.int .i64 b.bed)]),(5,.cells [.v (.int .i64 o.cab),.v (.int .i64 o.bed)])],n:=6,m:=4 }
def wG:=kk @ty3 (kk @ty33 (kk @J8 (kk @xA (kk @Qie (kk @Qh7 (kk @ti3.eq_1 (kk @Qbb.eq_1 (kk @WF.eq_1 (kk @vR.eq_1 (kk @LC.eq_1 @Ls.eq_1))))))))))
def jK:=kk @aI.eq_1 (@aB.eq_1)
set_option maxHeartbeats 2000000 in
theorem Qiu (L:List (List Bunk)) (es:List (Value × Value)) (i:Nat) (b:Bunk) (ok:NxOk L es i):Fn noB Try.prog 82 [aI i,qf b,.ptr 0 0,.ptr 1 0] (qg (qO 0 (nxL L es))) (.tup [qf (yG (L.drop i) b).1,aI (yG (L.drop i) b).2]) (qg (wH 0 ((nxL L es).map some))) 0:=by
  have env:Env (fun _=>True) Try.prog tyB (tab []):=qP trivial
  refine Fn.of (A:=fun _=>True) (n0:=4) (D:=noD) (Fn0 Try.func82 rfl (fun vs w=>by kernel_rfl) (by kernel_rfl)) (by simp) (by simp [AV.ids,AV.idsL,aI,qf]) QhF (fun _ _ _ _=>trivial) qF ?_
  have hlen:=ok.len
  have hlt:=ok.lt
  have hbd:=Qi6 L i b
  rw [Qgd hlt]
  obtain ⟨l,hl⟩:∃ l,L.getD i []=l:=⟨_,rfl⟩
  have hll:l.length≤1000:=ok.each l (by rw [← hl];exact vK hlt)
  have hlook:∀ x ∈ l,RV es (ZA i x) (yG (L.drop (i+1)) x).2:=fun x hx=>ok.bh.look i (Nat.le_refl _) hlt x (by rw [hl];exact hx)
  have hM:MOK (KD.Q (.agg [some .i64,some .i64,some .i64])) es:=ok.bh.ok
  rw [hl]
  show Sym _ _ _ (zZ [aI i,qf b,.ptr 0 0,.ptr 1 0] 4 (qg [(0,.cells [.row 2]),(1,.cells [.mp 3]),(2,.row 37 1 (L.map qG)),(3,.map es)])) (xN tyB noD Try.f82 fun S rv=>Fin S rv _ 4 (qg [(0,.cells [.row 2]),(1,.cells [.mp 3]),(2,.row 37 1 (L.map qG)),(3,.map es)]) 0)
  have i0:((i:Int)).toNat=i:=rfl
  have hg:=Qfa hlt
  rw [hl] at hg
  repeat' (first|(apply nx;with_reducible constructor)|refine jq (by decide) ?_|((first|refine kz env fun Q hQ=>?_|refine kj fun Q hQ=>?_);simp only [vkt,seval,wG,jK,qf,qd,qx,qG,qE,zw,zx,ncS,List.length_map,hg,hl,hlt,i0];(try simp only [ite_and]);(repeat' (first|with_reducible assumption|refine And.intro ?_ ?_|intro hp));all_goals (first|(refine hQ _ ?_;clear hQ Q)|(refine hQ _ (fun h=>?_) (fun h=>?_) <;> clear hQ Q <;> (try simp only [vki,reduceCtorEq] at h))|(refine kx ?_;kernel_rfl)|omega|assumption|with_reducible rfl|skip)))
  refine qX (fun k:{ k:Nat // k≤l.length }=>ncS L es i b l k.1 (pkK (nxF L i b) l k.1).1 (pkK (nxF L i b) l k.1).2) (fun k=>l.length - k.1) ⟨0,Nat.zero_le _⟩ ?_ fun ⟨k,hk⟩=>?_
  · (refine Le.ok some [] ?_;constructor;all_goals (try simp only [vle,vkt,seval,wG,jK,qf,qd,qx,qG,qE,zw,zx,ncS,List.length_map]))
    all_goals first|rfl|(simp [pkK];done)
  simp only at hk ⊢
  obtain ⟨⟨o,n⟩,hon⟩:∃ z,pkK (nxF L i b) l k=z:=⟨_,rfl⟩
  have hS:pkK (nxF L i b) l (k+1)=if k=0∨nxF L i b (l.getD k default) < n then (l.getD k default,nxF L i b (l.getD k default)) else (o,n):=by rw [pkK,hon]
  rw [hon]
  repeat' (first|(apply nx;with_reducible constructor)|refine jq (by decide) ?_)
  (refine kz env fun Q hQ=>?_;simp only [vkt,seval,wG,jK,qf,qd,qx,qG,qE,zw,zx,ncS,List.length_map];(try simp only [ite_and]);(repeat' (first|with_reducible assumption|refine And.intro ?_ ?_|intro hp));all_goals (first|(refine hQ _ ?_;clear hQ Q)|(refine kx ?_;kernel_rfl)|omega|assumption|with_reducible rfl|skip))
  repeat' (first|(apply nx;with_reducible constructor)|refine jq (by decide) ?_)
  (refine yH (by simp only [vkt,seval,wG,jK,qf,qd,qx,qG,qE,zw,zx,ncS,List.length_map];rfl) (fun h=>?_) (fun h=>?_) <;> (try simp only [vki,reduceCtorEq] at h))
  · have hkl:k < l.length:=by omega
    have e9:IntKind.wrap .i64 ((k:Int)+1)=((k+1:Nat):Int):=by rw [wrap64 (by omega) (by omega)];rfl
    obtain ⟨x,hx⟩:∃ x,l.getD k default=x:=⟨_,rfl⟩
    obtain ⟨v,hv⟩:∃ v,(yG (L.drop (i+1)) x).2=v:=⟨_,rfl⟩
    obtain ⟨bb,hlk⟩:=hlook x (by rw [← hx];exact vK hkl)
    rw [hv] at hlk
    simp only [QbS,ZA] at hlk
    have hF:nxF L i b x=v+if x=b then 0 else 1:=by unfold nxF;rw [hv]
    have hb:=hbd x
    rw [hx] at hS
    obtain ⟨f,hf⟩:∃ f,nxF L i b x=f:=⟨_,rfl⟩
    rw [hf] at hS hF hb
    have key:∀ (o':Bunk) (n':Int),pkK (nxF L i b) l (k+1)=(o',n')→ncS L es i b l (k+1) (pkK (nxF L i b) l (k+1)).1 (pkK (nxF L i b) l (k+1)).2=ncS L es i b l (k+1) o' n':=fun o' n' h=>by rw [h]
    have fin:∀ (S:St) (o':Bunk) (n':Int),pkK (nxF L i b) l (k+1)=(o',n')→Le S (ncS L es i b l (k+1) o' n')→∃ y:{ k:Nat // k≤l.length },(l.length - y.1 < l.length - k)∧Le S (ncS L es i b l y.1 (pkK (nxF L i b) l y.1).1 (pkK (nxF L i b) l y.1).2):=fun S o' n' h hle=>⟨⟨k+1,hkl⟩,by show l.length - (k+1) < l.length - k;omega,by rw [key o' n' h];exact hle⟩
    by_cases hxb:x=b
    · subst hxb
      rw [if_pos rfl,Int.add_zero] at hF
      subst hF
      have xx:((x.cab == x.cab) && (x.bed == x.bed))=true:=by simp
      by_cases hk0:k=0
      · rw [if_pos (.inl hk0)] at hS
        have d0:decide ((k:Int)=0)=true:=decide_eq_true (by omega)
        repeat' (first|(apply nx;with_reducible constructor)|refine jq (by decide) ?_|((first|refine kz env fun Q hQ=>?_|refine kj fun Q hQ=>?_);simp only [vkt,seval,wG,jK,qf,qd,qx,qG,qE,zw,zx,ncS,List.length_map,hx,e9,hlk,hM,d0];(try simp only [ite_and]);(repeat' (first|with_reducible assumption|refine And.intro ?_ ?_|intro hp));all_goals (first|(refine hQ _ ?_;clear hQ Q)|(refine hQ _ (fun h=>?_) (fun h=>?_) <;> clear hQ Q <;> (try simp only [vki,reduceCtorEq] at h))|(refine kx ?_;kernel_rfl)|omega|assumption|with_reducible rfl|skip)))
        refine fin _ _ _ hS ?_
        (refine Le.ok some [] ?_;constructor;all_goals (try simp only [vle,vkt,seval,wG,jK,qf,qd,qx,qG,qE,zw,zx,ncS,List.length_map]))
        all_goals first|rfl|(simp;done)
      · have d0:decide ((k:Int)=0)=false:=decide_eq_false (by omega)
        by_cases hc:f < n
        · rw [if_pos (.inr hc)] at hS
          have d1:decide (f < n)=true:=decide_eq_true hc
          repeat' (first|(apply nx;with_reducible constructor)|refine jq (by decide) ?_|((first|refine kz env fun Q hQ=>?_|refine kj fun Q hQ=>?_);simp only [vkt,seval,wG,jK,qf,qd,qx,qG,qE,zw,zx,ncS,List.length_map,hx,e9,hlk,hM,d0,d1];(try simp only [ite_and]);(repeat' (first|with_reducible assumption|refine And.intro ?_ ?_|intro hp));all_goals (first|(refine hQ _ ?_;clear hQ Q)|(refine hQ _ (fun h=>?_) (fun h=>?_) <;> clear hQ Q <;> (try simp only [vki,reduceCtorEq] at h))|(refine kx ?_;kernel_rfl)|omega|assumption|with_reducible rfl|skip)))
          refine fin _ _ _ hS ?_
          (refine Le.ok some [] ?_;constructor;all_goals (try simp only [vle,vkt,seval,wG,jK,qf,qd,qx,qG,qE,zw,zx,ncS,List.length_map]))
          all_goals first|rfl|(simp;done)
        · rw [if_neg (by omega)] at hS
          have d1:decide (f < n)=false:=decide_eq_false hc
          repeat' (first|(apply nx;with_reducible constructor)|refine jq (by decide) ?_|((first|refine kz env fun Q hQ=>?_|refine kj fun Q hQ=>?_);simp only [vkt,seval,wG,jK,qf,qd,qx,qG,qE,zw,zx,ncS,List.length_map,hx,e9,hlk,hM,d0,d1];(try simp only [ite_and]);(repeat' (first|with_reducible assumption|refine And.intro ?_ ?_|intro hp));all_goals (first|(refine hQ _ ?_;clear hQ Q)|(refine hQ _ (fun h=>?_) (fun h=>?_) <;> clear hQ Q <;> (try simp only [vki,reduceCtorEq] at h))|(refine kx ?_;kernel_rfl)|omega|assumption|with_reducible rfl|skip)))
          refine fin _ _ _ hS ?_
          (refine Le.ok some [] ?_;constructor;all_goals (try simp only [vle,vkt,seval,wG,jK,qf,qd,qx,qG,qE,zw,zx,ncS,List.length_map]))
          all_goals first|rfl|(simp;done)
    · rw [if_neg hxb] at hF
      have w1:IntKind.wrap .i64 (v+1)=f:=by rw [wrap64 (by omega) (by omega)];exact hF.symm
      have hne:(decide (x.cab=b.cab) && decide (x.bed=b.bed))=false:=by
        cases x;cases b
        simp at hxb ⊢
        exact hxb
      by_cases hk0:k=0
      · rw [if_pos (.inl hk0)] at hS
        have d0:decide ((k:Int)=0)=true:=decide_eq_true (by omega)
        repeat' (first|(apply nx;with_reducible constructor)|refine jq (by decide) ?_|((first|refine kz env fun Q hQ=>?_|refine kj fun Q hQ=>?_);simp only [vkt,seval,wG,jK,qf,qd,qx,qG,qE,zw,zx,ncS,List.length_map,hx,e9,hlk,hM,hne,w1,d0];(try simp only [ite_and]);(repeat' (first|with_reducible assumption|refine And.intro ?_ ?_|intro hp));all_goals (first|(refine hQ _ ?_;clear hQ Q)|(refine hQ _ (fun h=>?_) (fun h=>?_) <;> clear hQ Q <;> (try simp only [vki,reduceCtorEq] at h))|(refine kx ?_;kernel_rfl)|omega|assumption|with_reducible rfl|skip)))
        refine fin _ _ _ hS ?_
        (refine Le.ok some [] ?_;constructor;all_goals (try simp only [vle,vkt,seval,wG,jK,qf,qd,qx,qG,qE,zw,zx,ncS,List.length_map]))
        all_goals first|rfl|(simp;done)
      · have d0:decide ((k:Int)=0)=false:=decide_eq_false (by omega)
        by_cases hc:f < n
        · rw [if_pos (.inr hc)] at hS
          have d1:decide (f < n)=true:=decide_eq_true hc
          repeat' (first|(apply nx;with_reducible constructor)|refine jq (by decide) ?_|((first|refine kz env fun Q hQ=>?_|refine kj fun Q hQ=>?_);simp only [vkt,seval,wG,jK,qf,qd,qx,qG,qE,zw,zx,ncS,List.length_map,hx,e9,hlk,hM,hne,w1,d0,d1];(try simp only [ite_and]);(repeat' (first|with_reducible assumption|refine And.intro ?_ ?_|intro hp));all_goals (first|(refine hQ _ ?_;clear hQ Q)|(refine hQ _ (fun h=>?_) (fun h=>?_) <;> clear hQ Q <;> (try simp only [vki,reduceCtorEq] at h))|(refine kx ?_;kernel_rfl)|omega|assumption|with_reducible rfl|skip)))
          refine fin _ _ _ hS ?_
          (refine Le.ok some [] ?_;constructor;all_goals (try simp only [vle,vkt,seval,wG,jK,qf,qd,qx,qG,qE,zw,zx,ncS,List.length_map]))
          all_goals first|rfl|(simp;done)
        · rw [if_neg (by omega)] at hS
          have d1:decide (f < n)=false:=decide_eq_false hc
          repeat' (first|(apply nx;with_reducible constructor)|refine jq (by decide) ?_|((first|refine kz env fun Q hQ=>?_|refine kj fun Q hQ=>?_);simp only [vkt,seval,wG,jK,qf,qd,qx,qG,qE,zw,zx,ncS,List.length_map,hx,e9,hlk,hM,hne,w1,d0,d1];(try simp only [ite_and]);(repeat' (first|with_reducible assumption|refine And.intro ?_ ?_|intro hp));all_goals (first|(refine hQ _ ?_;clear hQ Q)|(refine hQ _ (fun h=>?_) (fun h=>?_) <;> clear hQ Q <;> (try simp only [vki,reduceCtorEq] at h))|(refine kx ?_;kernel_rfl)|omega|assumption|with_reducible rfl|skip)))
          refine fin _ _ _ hS ?_
          (refine Le.ok some [] ?_;constructor;all_goals (try simp only [vle,vkt,seval,wG,jK,qf,qd,qx,qG,qE,zw,zx,ncS,List.length_map]))
          all_goals first|rfl|(simp;done)
  · have hke:k=l.length:=by omega
    subst hke
    repeat' (first|(apply nx;with_reducible constructor)|refine jq (by decide) ?_|((first|refine kz env fun Q hQ=>?_|refine kj fun Q hQ=>?_);simp only [vkt,seval,wG,jK,qf,qd,qx,qG,qE,zw,zx,ncS,List.length_map];(try simp only [ite_and]);(repeat' (first|with_reducible assumption|refine And.intro ?_ ?_|intro hp));all_goals (first|(refine hQ _ ?_;clear hQ Q)|(refine hQ _ (fun h=>?_) (fun h=>?_) <;> clear hQ Q <;> (try simp only [vki,reduceCtorEq] at h))|(refine kx ?_;kernel_rfl)|omega|assumption|with_reducible rfl|skip)))
    (simp only [vrt,Try.results82,vkt,seval,wG,jK,qf,qd,qx,qG,qE,zw,zx,ncS,List.length_map];refine Fin.ok some [] ?_ ?_ ?_ ?_ ?_ rfl;all_goals (try simp only [vle,vkt,seval,wG,jK,qf,qd,qx,qG,qE,zw,zx,ncS,List.length_map]))
    all_goals first|rfl|(simp;done)|(rw [hon];exact ⟨⟨rfl,rfl⟩,rfl⟩)
def vk (S:St):List AV→Option Pk
  |[.v (.int .i64 i),.agg [.v (.int .i64 c),.v (.int .i64 d)],.ptr p 0,.ptr q 0]=>match S.h p,S.h q with
    |some (.cells [.row r]),some (.cells [.mp m])=>match S.h r,S.h m with
      |some (.row _ _ xs),some (.map es)=>some { pre:=xs=(xs.map WE).map qG∧i=(i.toNat:Int)∧NxOk (xs.map WE) es i.toNat,hs:=[p,q,r,m],ar:=[.v (.int .i64 i),.agg [.v (.int .i64 c),.v (.int .i64 d)],.ptr 0 0,.ptr 1 0],L0:=nxL (xs.map WE) es,v:=.tup [qf (yG ((xs.map WE).drop i.toNat) ⟨c,d⟩).1,aI (yG ((xs.map WE).drop i.toNat) ⟨c,d⟩).2],L1:=(nxL (xs.map WE) es).map some }
      |_,_=>none
    |_,_=>none
  |_=>none
theorem Qhd:∀ S bs q,vk S bs=some q→q.pre→Fn noB Try.prog 82 q.ar (qg (qO 0 q.L0)) q.v (qg (wH 0 q.L1)) 0:=fun S bs q h hp=>by
  unfold vk at h
  split at h
  · rename_i i c d p q
    split at h
    · split at h
      · rename_i m _ _ _ _ _ xs es _ _
        cases h
        obtain ⟨h1,h2,h3⟩:=hp
        have:=Qiu _ _ _ ⟨c,d⟩ h3
        rw [aI,← h2] at this
        exact this
      · cases h
    · cases h
  · cases h
theorem eNx1 {A:Frm→Prop}:qB A Try.prog 82 (fnQ vk):=QiF Qhd
end Go.Sym.B
namespace Go.Sym.B
open Go Go.Sym Go.Proofs Go.Sym.C
def KQ (n:Nat):Nat→List Int→Nat→List (List Int)
  |0,l,_=>[l]
  |m+1,l,f=>(List.range (n - f)).flatMap fun k=>KQ n m (l++[((f+k:Nat):Int)]) (f+k+1)
def QI (sold:List Tk) (p:Int):Nat:=sold.countP fun t=>decide (t.party=p)
def jS (sold:List Tk):List Int:=((List.range sold.length).filter fun i=>decide (QI sold (sold.getD i default).party=1)).map fun (i:Nat)=>(i:Int)
def Qe (sold:List Tk) (n:Nat) (b:Bunk):List Tk:=sold.set n ⟨(sold.getD n default).party,(sold.getD n default).sex,b.cab,b.bed,(sold.getD n default).frm,(sold.getD n default).to,(sold.getD n default).dog⟩
def yO (cs:List Cabin) (s:Int) (a:Ask):List Int→List Tk→Option (List Tr)
  |[],sold=>if zV ⟨cs,s,sold⟩=0∧plP ⟨cs,s,sold⟩ a ≠ [] then some [] else none
  |n :: r,sold=>(qQ cs).findSome? fun b=>if b=(sold.getD n.toNat default).bunk then none else (yO cs s a r (Qe sold n.toNat b)).map (⟨n,b.cab,b.bed⟩ :: ·)
def Qu (c:Chart) (l:List Int):List Int:=l.map fun i=>(jS c.sold).getD i.toNat 0
def YC (c:Chart) (a:Ask) (m:Nat):Option (List Tr):=(KQ (jS c.sold).length m [] 0).findSome? fun l=>yO c.cabins c.secs a (Qu c l) c.sold
def QR (c:Chart) (a:Ask):List Tr × Int :=
  if je c a ≠ 0 then ([],je c a) else match (List.range 3).findSome? (YC c a) with
  |some t=>(t,0)
  |none=>([],11)
end Go.Sym.B
namespace Go.Sym.B
open Go Go.Sym Go.Proofs Go.Sym.C
def Qew:KeyInfo:={ kd:=.one (.int .i64),z:=.v (.int .i64 0),agg:=false }
def KM (es:List (Value × Value)) (p n:Int):Prop:=∃ b,yV Qew (yB es (.int .i64 p))=(True,.v (.int .i64 n),b)
theorem Qa9 {es:List (Value × Value)} {p:Int} (h:yB es (.int .i64 p)=none):KM es p 0:=by
  refine ⟨false, ?_⟩
  rw [h]
  show (_,_,_)=_
  simp [Qew,AV.ids]
theorem Qbd {es:List (Value × Value)} {p n:Int} (h:yB es (.int .i64 p)=some (.int .i64 n)):KM es p n:=by
  refine ⟨true, ?_⟩
  rw [h]
  show (_,_,_)=_
  simp [Qew,XE,Value.oneCell',vAV]
theorem Qdx {es:List (Value × Value)} {p q n m:Int} (h:p ≠ q→KM es q m) (h2:p=q→n=m):KM (vE es (.int .i64 p) (.int .i64 n)) q m:=by
  by_cases hpq:p=q
  · subst hpq
    rw [← h2 rfl]
    exact Qbd (by rw [J5,if_pos rfl])
  · unfold KM
    rw [J5,if_neg (by simpa using hpq)]
    exact h hpq
structure LnOk (sold:List Tk) (es:List (Value × Value)) (k:Nat):Prop where
  ok:MOK (KD.Q (.one (.int .i64))) es
  look:∀ p,KM es p (QI (sold.take k) p)
  len:es.length≤k
theorem Qiq (sold:List Tk):LnOk sold [] 0:=⟨MOK.nil _,fun p=>by rw [List.take_zero];exact Qa9 rfl,Nat.le_refl _⟩
theorem UK {sold:List Tk} {k:Nat} (h:k < sold.length) (p:Int):QI (sold.take (k+1)) p=QI (sold.take k) p+if (sold.getD k default).party=p then 1 else 0:=by
  unfold QI
  rw [List.take_succ_eq_append_getElem h,List.countP_append]
  rw [show sold.getD k default=sold[k] by simp [List.getD_eq_getElem?_getD,h]]
  simp
theorem LnOk.step {sold:List Tk} {es:List (Value × Value)} {k:Nat} (h:LnOk sold es k) (hk:k < sold.length) {p:Int} (hp:(sold.getD k default).party=p) {n:Nat} (hn:QI (sold.take k) p=n) :
    LnOk sold (vE es (.int .i64 p) (.int .i64 ((n+1:Nat):Int))) (k+1):=by
  refine ⟨h.ok.set rfl,fun q=>?_, ?_⟩
  · rw [UK hk,hp]
    refine Qdx (fun hne=>?_) fun e=>?_
    · rw [if_neg hne,Nat.add_zero];exact h.look q
    · subst e;rw [if_pos rfl,hn]
  · have:=JR (es:=es) (k:=.int .i64 p) (v:=.int .i64 ((n+1:Nat):Int))
    have:=h.len
    omega
theorem QcY (sold:List Tk) (p:Int):QI sold p≤sold.length:=List.countP_le_length
def lnK (sold:List Tk) (k:Nat):List Int:=((List.range k).filter fun i=>decide (QI sold (sold.getD i default).party=1)).map fun (i:Nat)=>(i:Int)
theorem Qf1 (sold:List Tk) (k:Nat):lnK sold (k+1)=if QI sold (sold.getD k default).party=1 then lnK sold k++[(k:Int)] else lnK sold k:=by
  unfold lnK
  rw [List.range_succ,List.filter_append,List.map_append]
  split
  · rename_i h;simp [-List.getD_eq_getElem?_getD,h]
  · rename_i h;simp [-List.getD_eq_getElem?_getD,h]
theorem QcF (sold:List Tk) (k:Nat):(lnK sold k).length≤k:=by
  unfold lnK
  rw [List.length_map]
  exact Nat.le_trans (List.length_filter_le _ _) (by simp)
theorem Qhu (sold:List Tk):lnK sold sold.length=jS sold:=rfl
def lnA (c:Chart) (es:List (Value × Value)) (k:Nat):St:={ t:=asg [(1,.ptr 0 0),(3,.mp 1),(11,qh c.sold),(12,aI c.sold.length),(13,aI k)],h:=qg [(0,.cells (qb c)),(1,.map es)],n:=2 }
def lnB (c:Chart) (es:List (Value × Value)) (k:Nat):St:={ t:=asg [(3,.mp 1),(6,.row 2),(24,qh c.sold),(25,aI c.sold.length),(26,aI k)],h:=qg [(1,.map es),(2,.row 3 1 ((lnK c.sold k).map zX))],n:=3 }
def jf:=kk @ty3 (kk @Wl (kk @xC (kk @jO (kk @yw (kk @ty172 (kk @ti3.eq_1 (kk @Zk.eq_1 (kk @vP.eq_1 (kk @jE.eq_1 (kk @j3.eq_1 @Qb7.eq_1))))))))))
def vT:=kk @aI.eq_1 (kk @aB.eq_1 (kk @zX.eq_1 (kk @QaE (@qA.eq_1))))
theorem QgG (c:Chart) (hc:c.sold.length≤100):FnV Try.prog 84 [qa c] (qA (jS c.sold)):=by
  have env:Env (fun _=>True) Try.prog tyB (tab []):=qP trivial
  refine Fn.of (A:=fun _=>True) (n0:=0) (D:=noD) (Fn0 Try.func84 rfl (fun vs w=>by kernel_rfl) (by kernel_rfl)) (by simp) (by simp [AV.ids,AV.idsL,qa,qb]) (fun i o h=>by cases h) (fun _ _ _ _=>trivial) qF ?_
  have hmx:(100000:Nat)≤maxLen:=by decide
  repeat' (first|(apply nx;with_reducible constructor)|refine jq (by decide) ?_|((first|refine kz env fun Q hQ=>?_|refine kj fun Q hQ=>?_);simp only [vkt,seval,jf,vT,qh,eTk,gTk,qa,qb,lnA,lnB,MapKept.IsKey,List.length_map];(try simp only [ite_and]);(repeat' (first|with_reducible assumption|refine And.intro ?_ ?_|intro hp));all_goals (first|(refine hQ _ ?_;clear hQ Q)|(refine hQ _ (fun h=>?_) (fun h=>?_) <;> clear hQ Q <;> (try simp only [vki,reduceCtorEq] at h))|(refine kx ?_;kernel_rfl)|omega|assumption|with_reducible rfl|skip)))
  refine qX (fun x:{ x:Nat × List (Value × Value) // x.1≤c.sold.length∧LnOk c.sold x.2 x.1 }=>lnA c x.1.2 x.1.1) (fun x=>c.sold.length - x.1.1) ⟨(0,[]),Nat.zero_le _,Qiq _⟩ ?_ fun ⟨(k,es),hk,hL⟩=>?_
  · (refine Le.ok some [] ?_;constructor;all_goals (try simp only [vle,vkt,seval,jf,vT,qh,eTk,gTk,qa,qb,lnA,lnB,MapKept.IsKey,List.length_map]))
    all_goals first|rfl|(simp;done)
  simp only at hk hL ⊢
  by_cases hkl:k < c.sold.length
  · have d1:decide ((k:Int) < (c.sold.length:Int))=true:=decide_eq_true (by omega)
    have e9:IntKind.wrap .i64 ((k:Int)+1)=((k+1:Nat):Int):=by rw [wrap64 (by omega) (by omega)];rfl
    obtain ⟨x,hx⟩:∃ x,c.sold.getD k default=x:=⟨_,rfl⟩
    obtain ⟨n,hn⟩:∃ n,QI (c.sold.take k) x.party=n:=⟨_,rfl⟩
    have hnb:=QcY (c.sold.take k) x.party
    rw [hn,List.length_take] at hnb
    obtain ⟨b,hl⟩:=hL.look x.party
    rw [hn] at hl
    simp only [Qew] at hl
    have hM:=hL.ok
    have w1:IntKind.wrap .i64 ((n:Int)+1)=((n+1:Nat):Int):=by rw [wrap64 (by omega) (by omega)];rfl
    have hml:(vE es (.int .i64 x.party) (.int .i64 ((n+1:Nat):Int))).length≤maxLen:=by
      have h1:=JR (es:=es) (k:=.int .i64 x.party) (v:=.int .i64 ((n+1:Nat):Int))
      have h2:=hL.len
      omega
    repeat' (first|(apply nx;with_reducible constructor)|refine jq (by decide) ?_|((first|refine kz env fun Q hQ=>?_|refine kj fun Q hQ=>?_);simp only [vkt,seval,jf,vT,qh,eTk,gTk,qa,qb,lnA,lnB,MapKept.IsKey,List.length_map,d1,e9,hx,hl,hM,w1,hml];(try simp only [ite_and]);(repeat' (first|with_reducible assumption|refine And.intro ?_ ?_|intro hp));all_goals (first|(refine hQ _ ?_;clear hQ Q)|(refine hQ _ (fun h=>?_) (fun h=>?_) <;> clear hQ Q <;> (try simp only [vki,reduceCtorEq] at h))|(refine kx ?_;kernel_rfl)|omega|assumption|with_reducible rfl|skip)))
    refine ⟨⟨(k+1,vE es (.int .i64 x.party) (.int .i64 ((n+1:Nat):Int))),hkl,hL.step hkl (by rw [hx]) hn⟩,by show c.sold.length - (k+1) < c.sold.length - k;omega, ?_⟩
    (refine Le.ok some [] ?_;constructor;all_goals (try simp only [vle,vkt,seval,jf,vT,qh,eTk,gTk,qa,qb,lnA,lnB,MapKept.IsKey,List.length_map]))
    all_goals first|rfl|(simp;done)
  · have d1:decide ((k:Int) < (c.sold.length:Int))=false:=decide_eq_false (by omega)
    obtain rfl:k=c.sold.length:=by omega
    repeat' (first|(apply nx;with_reducible constructor)|refine jq (by decide) ?_|((first|refine kz env fun Q hQ=>?_|refine kj fun Q hQ=>?_);simp only [vkt,seval,jf,vT,qh,eTk,gTk,qa,qb,lnA,lnB,MapKept.IsKey,List.length_map,d1];(try simp only [ite_and]);(repeat' (first|with_reducible assumption|refine And.intro ?_ ?_|intro hp));all_goals (first|(refine hQ _ ?_;clear hQ Q)|(refine hQ _ (fun h=>?_) (fun h=>?_) <;> clear hQ Q <;> (try simp only [vki,reduceCtorEq] at h))|(refine kx ?_;kernel_rfl)|omega|assumption|with_reducible rfl|skip)))
    refine qX (fun k:{ k:Nat // k≤c.sold.length }=>lnB c es k.1) (fun k=>c.sold.length - k.1) ⟨0,Nat.zero_le _⟩ ?_ fun ⟨k,hk⟩=>?_
    · (refine Le.ok (fun i=>if i=2 then none else some i) [] ?_;constructor;all_goals (try simp only [vle,vkt,seval,jf,vT,qh,eTk,gTk,qa,qb,lnA,lnB,MapKept.IsKey,List.length_map]))
      all_goals first|rfl|(simp [lnK];done)|(intro i hi;rw [if_neg (by omega)];done)
    simp only at hk ⊢
    by_cases hkl:k < c.sold.length
    · have d1:decide ((k:Int) < (c.sold.length:Int))=true:=decide_eq_true (by omega)
      have e9:IntKind.wrap .i64 ((k:Int)+1)=((k+1:Nat):Int):=by rw [wrap64 (by omega) (by omega)];rfl
      obtain ⟨x,hx⟩:∃ x,c.sold.getD k default=x:=⟨_,rfl⟩
      obtain ⟨n,hn⟩:∃ n,QI c.sold x.party=n:=⟨_,rfl⟩
      obtain ⟨b,hl⟩:=hL.look x.party
      rw [List.take_length,hn] at hl
      simp only [Qew] at hl
      have hM:=hL.ok
      have hS:=Qf1 c.sold k
      have hkn:=QcF c.sold k
      have hkm:(lnK c.sold k).length+1≤maxLen:=by omega
      rw [hx,hn] at hS
      by_cases h1:n=1
      · rw [if_pos h1] at hS
        rw [show (n:Int)=1 by omega] at hl
        repeat' (first|(apply nx;with_reducible constructor)|refine jq (by decide) ?_|((first|refine kz env fun Q hQ=>?_|refine kj fun Q hQ=>?_);simp only [vkt,seval,jf,vT,qh,eTk,gTk,qa,qb,lnA,lnB,MapKept.IsKey,List.length_map,d1,e9,hx,hl,hM,hkm,decide_true];(try simp only [ite_and]);(repeat' (first|with_reducible assumption|refine And.intro ?_ ?_|intro hp));all_goals (first|(refine hQ _ ?_;clear hQ Q)|(refine hQ _ (fun h=>?_) (fun h=>?_) <;> clear hQ Q <;> (try simp only [vki,reduceCtorEq] at h))|(refine kx ?_;kernel_rfl)|omega|assumption|with_reducible rfl|skip)))
        refine ⟨⟨k+1,hkl⟩,by show c.sold.length - (k+1) < c.sold.length - k;omega, ?_⟩
        show Le _ (lnB c es (k+1))
        unfold lnB
        rw [hS]
        (refine Le.ok (fun i=>if i=2 then some 5 else some i) [] ?_;constructor;all_goals (try simp only [vle,vkt,seval,jf,vT,qh,eTk,gTk,qa,qb,lnA,lnB,MapKept.IsKey,List.length_map]))
        all_goals first|rfl|(rw [List.map_append];rfl)|(simp;done)|(intro i hi;rw [if_neg (by omega)];done)
      · rw [if_neg h1] at hS
        have d2:decide ((n:Int)=1)=false:=decide_eq_false (by omega)
        repeat' (first|(apply nx;with_reducible constructor)|refine jq (by decide) ?_|((first|refine kz env fun Q hQ=>?_|refine kj fun Q hQ=>?_);simp only [vkt,seval,jf,vT,qh,eTk,gTk,qa,qb,lnA,lnB,MapKept.IsKey,List.length_map,d1,e9,hx,hl,hM,d2];(try simp only [ite_and]);(repeat' (first|with_reducible assumption|refine And.intro ?_ ?_|intro hp));all_goals (first|(refine hQ _ ?_;clear hQ Q)|(refine hQ _ (fun h=>?_) (fun h=>?_) <;> clear hQ Q <;> (try simp only [vki,reduceCtorEq] at h))|(refine kx ?_;kernel_rfl)|omega|assumption|with_reducible rfl|skip)))
        refine ⟨⟨k+1,hkl⟩,by show c.sold.length - (k+1) < c.sold.length - k;omega, ?_⟩
        show Le _ (lnB c es (k+1))
        unfold lnB
        rw [hS]
        (refine Le.ok some [] ?_;constructor;all_goals (try simp only [vle,vkt,seval,jf,vT,qh,eTk,gTk,qa,qb,lnA,lnB,MapKept.IsKey,List.length_map]))
        all_goals first|rfl|(simp;done)
    · have d1:decide ((k:Int) < (c.sold.length:Int))=false:=decide_eq_false (by omega)
      obtain rfl:k=c.sold.length:=by omega
      have hall:=Qhu c.sold
      repeat' (first|(apply nx;with_reducible constructor)|refine jq (by decide) ?_|((first|refine kz env fun Q hQ=>?_|refine kj fun Q hQ=>?_);simp only [vkt,seval,jf,vT,qh,eTk,gTk,qa,qb,lnA,lnB,MapKept.IsKey,List.length_map,d1,hall];(try simp only [ite_and]);(repeat' (first|with_reducible assumption|refine And.intro ?_ ?_|intro hp));all_goals (first|(refine hQ _ ?_;clear hQ Q)|(refine hQ _ (fun h=>?_) (fun h=>?_) <;> clear hQ Q <;> (try simp only [vki,reduceCtorEq] at h))|(refine kx ?_;kernel_rfl)|omega|assumption|with_reducible rfl|skip)))
      simp only [vrt,Try.results84,vkt,seval,jf,vT,qh,eTk,gTk,qa,qb,lnA,lnB,MapKept.IsKey,List.length_map]
      show Fin _ _ _ 0 (qg []) 0
      refine Fin.ok some [2] ?_ ?_ ?_ ?_ ?_ rfl
      all_goals (try simp only [vle,vkt,seval,jf,vT,qh,eTk,gTk,qa,qb,lnA,lnB,MapKept.IsKey,List.length_map])
      all_goals first|rfl|(simp;done)
def ZB:List AV→Prop × AV
  |[.agg [.sl c0,.v (.int .i64 c1),.sl c2]]=>(c0=(c0.map qp).map qj∧c2=(c2.map dTk).map eTk∧((⟨(c0.map qp),c1,(c2.map dTk)⟩:Chart)).sold.length≤100,qA (jS ((⟨(c0.map qp),c1,(c2.map dTk)⟩:Chart)).sold))
  |_=>(False,.junk)
theorem elone {A:Frm→Prop}:qB A Try.prog 84 (qU false ZB):=za fun vs hv h=>by
  clear hv
  unfold ZB at h ⊢
  split at h
  · rename_i c0 c1 c2;obtain ⟨q0,q1,k0⟩:=h
    refine ⟨by first|trivial|(simp [AV.plain,AV.plainL,aI,aB,qA,qd,qh,qf,aTk,cTk];done)|(repeat' split) <;> simp [AV.plain,AV.plainL,aI,aB,qA,qd,qh,qf,aTk,cTk],fun h=>absurd h (by decide), ?_⟩
    have:=QgG ((⟨(c0.map qp),c1,(c2.map dTk)⟩:Chart)) k0
    simp only [q9,qa,aI,qh,qb,← q0,← q1] at this
    first|exact this|(simp only [q9,qa,aI,qh,qb,← q0,← q1];exact this)
  · exact h.elim
end Go.Sym.B
namespace Go.Sym.B
open Go Go.Sym Go.Proofs Go.Sym.C
theorem LF (sold:List Tk) (n:Nat) (b:Bunk) {x:Tk} (hx:sold.getD n default=x):(Qe sold n b).map eTk=(sold.map eTk).set n [.v (.int .i64 x.party),.v (.int .i64 x.sex),.v (.int .i64 b.cab),.v (.int .i64 b.bed),.v (.int .i64 x.frm),.v (.int .i64 x.to),.v (.bool x.dog)]:=by
  unfold Qe
  rw [hx,List.map_set]
  rfl
theorem VI (sold:List Tk) (n:Nat) (b:Bunk):(Qe sold n b).length=sold.length:=by simp [Qe]
theorem Qfm (sold:List Tk) (n:Nat) (b d:Bunk) (h:n < sold.length):Qe (Qe sold n b) n d=Qe sold n d:=by
  unfold Qe
  rw [show (sold.set n ⟨(sold.getD n default).party,(sold.getD n default).sex,b.cab,b.bed,(sold.getD n default).frm,(sold.getD n default).to,(sold.getD n default).dog⟩).getD n default=⟨(sold.getD n default).party,(sold.getD n default).sex,b.cab,b.bed,(sold.getD n default).frm,(sold.getD n default).to,(sold.getD n default).dog⟩ by simp [List.getD_eq_getElem?_getD,h]]
  simp
theorem QdR (sold:List Tk) (n:Nat) (h:n < sold.length):Qe sold n (sold.getD n default).bunk=sold:=by
  unfold Qe Tk.bunk
  rw [show (⟨(sold.getD n default).party,(sold.getD n default).sex,(sold.getD n default).cab,(sold.getD n default).bed,(sold.getD n default).frm,(sold.getD n default).to,(sold.getD n default).dog⟩:Tk)=sold[n] by simp [List.getD_eq_getElem?_getD,h]]
  exact List.set_getElem_self h
def s1L (cs:List Cabin) (s:Int) (sold:List Tk) (was:Bunk) (n:Nat):List AObj:=[qm cs s 1,ql sold,.cells [.ptr 0 0],.cells [.v (.int .i64 was.cab),.v (.int .i64 was.bed)],.cells [aI n]]
def ZP:=kk @ty3 (kk @xC (kk @jO (kk @xA (kk @yw (kk @Zu (kk @Jt (kk @ti3.eq_1 (kk @vP.eq_1 (kk @jE.eq_1 (kk @vR.eq_1 (kk @j3.eq_1 (kk @Qv.eq_1 @Zy.eq_1))))))))))))
def Ul:=kk @aI.eq_1 (@aB.eq_1)
theorem QdM (cs:List Cabin) (s:Int) (sold:List Tk) (was:Bunk) (n:Nat) (hn:n < sold.length):FnD Try.prog 120 [.ptr 3 0,.ptr 2 0,.ptr 4 0] (qg (qO 0 (s1L cs s sold was n))) (.tup []) (qg (wH 0 ((s1L cs s (Qe sold n was) was n).map some))):=by
  have env:Env (fun F=>F.r=none) Try.prog tyB (tab []):=qP trivial
  refine FnD.of (n0:=5) (Fn0 Try.func120 rfl (fun vs w=>by kernel_rfl) (by kernel_rfl)) (by simp) (by simp [AV.ids,AV.idsL]) ?_ ?_
  · intro i o hi
    have h:=qV hi
    simp [qO,s1L] at h
    rcases h with ⟨rfl,rfl⟩|⟨rfl,rfl⟩|⟨rfl,rfl⟩|⟨rfl,rfl⟩|⟨rfl,rfl⟩ <;> simp [AObj.ids,AV.ids,AV.idsL,qm,ql,aI]
  obtain ⟨x,hx⟩:∃ x,sold.getD n default=x:=⟨_,rfl⟩
  have hp:=LF sold n was hx
  have hg:=hTk hn
  rw [hx] at hg
  have i0:((n:Int)).toNat=n:=rfl
  show Sym _ _ _ (zZ [.ptr 3 0,.ptr 2 0,.ptr 4 0] 5 (qg [(0,qm cs s 1),(1,ql sold),(2,.cells [.ptr 0 0]),(3,.cells [.v (.int .i64 was.cab),.v (.int .i64 was.bed)]),(4,.cells [aI n])])) (Qge tyB Try.f120 fun S rv=>Fin S rv _ 5 (qg [(0,qm cs s 1),(1,.row 81 7 ((Qe sold n was).map eTk)),(2,.cells [.ptr 0 0]),(3,.cells [.v (.int .i64 was.cab),.v (.int .i64 was.bed)]),(4,.cells [aI n])]) 0)
  rw [hp]
  repeat' (first|(apply nx;with_reducible constructor)|refine jq (by decide) ?_|((first|refine kz env fun Q hQ=>?_|refine kj fun Q hQ=>?_);simp only [vkt,seval,ZP,Ul,eTk,qm,ql,s1L,List.length_map,hg,i0,hn];(try simp only [ite_and]);(repeat' (first|with_reducible assumption|refine And.intro ?_ ?_|intro hp));all_goals (first|(refine hQ _ ?_;clear hQ Q)|(refine hQ _ (fun h=>?_) (fun h=>?_) <;> clear hQ Q <;> (try simp only [vki,reduceCtorEq] at h))|(refine kx ?_;kernel_rfl)|omega|assumption|with_reducible rfl|skip)))
  simp only [Qge.eq_1]
  refine ⟨trivial, ?_⟩
  (simp only [vrt,Try.results120,vkt,seval,ZP,Ul,eTk,qm,ql,s1L,List.length_map];refine Fin.ok some [] ?_ ?_ ?_ ?_ ?_ rfl;all_goals (try simp only [vle,vkt,seval,ZP,Ul,eTk,qm,ql,s1L,List.length_map]))
  all_goals first|rfl|(simp;done)
def wX (S:St):List AV→Option Pk
  |[.ptr w 0,.ptr q 0,.ptr m 0]=>match S.h w,S.h q,S.h m with
    |some (.cells [.v (.int .i64 a),.v (.int .i64 b)]),some (.cells [.ptr c 0]),some (.cells [.v (.int .i64 n)])=>match S.h c with
      |some (.cells [.sl cs,.v (.int .i64 s),.row r])=>match S.h r with
        |some (.row _ _ xs)=>some { pre:=cs=(cs.map qp).map qj∧xs=(xs.map dTk).map eTk∧n=(n.toNat:Int)∧n.toNat < (xs.map dTk).length,hs:=[c,r,q,w,m],ar:=[.ptr 3 0,.ptr 2 0,.ptr 4 0],L0:=s1L (cs.map qp) s (xs.map dTk) ⟨a,b⟩ n.toNat,v:=.tup [],L1:=(s1L (cs.map qp) s (Qe (xs.map dTk) n.toNat ⟨a,b⟩) ⟨a,b⟩ n.toNat).map some }
        |_=>none
      |_=>none
    |_,_,_=>none
  |_=>none
theorem QhQ {A:Frm→Prop}:Q7.OK A Try.prog (dfE 120 wX):=Qfl fun S bs q h hp=>by
  unfold wX at h
  split at h
  · split at h
    · split at h
      · split at h
        · cases h
          obtain ⟨h1,h2,h3,h4⟩:=hp
          exact QdM _ _ _ _ _ h4
        · cases h
      · cases h
    · cases h
  · cases h
end Go.Sym.B
namespace Go.Sym.B
open Go Go.Sym Go.Proofs Go.Sym.C
theorem Qcl (f:Bunk→Option (List Tr)):∀ l:List Bunk,∃ R,R≤l.length∧(∀ j,j+1 < R→f (l.getD j default)=none)∧(R < l.length→0 < R∧f (l.getD (R - 1) default) ≠ none)∧l.findSome? f=if R=0 then none else f (l.getD (R - 1) default)
  |[]=>⟨0,Nat.le_refl _,fun _ h=>absurd h (Nat.not_lt_zero _),fun h=>absurd h (Nat.lt_irrefl _),rfl⟩
  |b :: l=>by
    cases hb:f b with
    |some t =>
      refine ⟨1,by simp,fun j h=>by omega,fun _=>⟨by omega, ?_⟩, ?_⟩
      · show f b ≠ none
        rw [hb];simp
      · rw [List.findSome?_cons,hb,if_neg (by omega)]
        exact hb.symm
    |none =>
      obtain ⟨R,h1,h2,h3,h4⟩:=Qcl f l
      refine ⟨R+1,by simpa using h1,fun j hj=>?_,fun hlt=>?_, ?_⟩
      · cases j with
        |zero=>exact hb
        |succ j=>exact h2 j (by omega)
      · obtain ⟨g1,g2⟩:=h3 (by simpa using hlt)
        refine ⟨by omega, ?_⟩
        rw [show R+1 - 1=(R - 1)+1 by omega]
        exact g2
      · rw [List.findSome?_cons,hb,if_neg (by omega)]
        simp only
        rw [h4]
        by_cases hR:R=0
        · subst hR;rw [if_pos rfl];exact hb.symm
        · rw [if_neg hR,show R+1 - 1=(R - 1)+1 by omega];rfl
def shF (cs:List Cabin) (s:Int) (a:Ask) (r:List Int) (sold:List Tk) (k:Nat) (b:Bunk):Option (List Tr):=if b=(sold.getD k default).bunk then none else (yO cs s a r (Qe sold k b)).map (⟨(k:Int),b.cab,b.bed⟩ :: ·)
theorem Qaj (cs:List Cabin) (s:Int) (a:Ask) (r:List Int) (sold:List Tk) (k:Nat):yO cs s a ((k:Int) :: r) sold=(qQ cs).findSome? (shF cs s a r sold k):=rfl
def Jn (cs:List Cabin) (sold:List Tk) (k:Nat):Nat→List Tk
  |0=>sold
  |j+1=>if (qQ cs).getD j default=(sold.getD k default).bunk then Jn cs sold k j else Qe sold k ((qQ cs).getD j default)
theorem XU (cs:List Cabin) (sold:List Tk) (k:Nat) (h:k < sold.length):∀ j,(Jn cs sold k j).length=sold.length∧∀ d,Qe (Jn cs sold k j) k d=Qe sold k d
  |0=>⟨rfl,fun _=>rfl⟩
  |j+1=>by
    rw [Jn]
    split
    · exact XU cs sold k h j
    · exact ⟨VI _ _ _,fun d=>Qfm _ _ _ _ h⟩
structure ShOk (cs:List Cabin) (s:Int) (a:Ask) (sold:List Tk) (ts:List Int):Prop where
  cabs:1≤cs.length∧cs.length≤3
  beds:∀ x ∈ cs,1≤x.beds∧x.beds≤3
  many:sold.length≤8
  sx:a.sexes.length≤3
  lenT:ts.length≤3
  ts:∀ n ∈ ts,0≤n∧n.toNat < sold.length
theorem ShOk.tail {cs:List Cabin} {s:Int} {a:Ask} {sold:List Tk} {n:Int} {r:List Int} (h:ShOk cs s a sold (n :: r)) (m:Nat) (b:Bunk):ShOk cs s a (Qe sold m b) r:=by
  refine ⟨h.cabs,h.beds,by rw [VI];exact h.many,h.sx,by have:=h.lenT;simp at this;omega,fun n hn=>?_⟩
  rw [VI]
  exact h.ts n (List.mem_cons_of_mem _ hn)
theorem Xx {cs:List Cabin} {s:Int} {a:Ask}:∀ {ts:List Int} {sold:List Tk} {l:List Tr},yO cs s a ts sold=some l→l.length=ts.length
  |[],sold,l,h=>by
    unfold yO at h
    split at h
    · cases h;rfl
    · cases h
  |n :: r,sold,l,h=>by
    unfold yO at h
    obtain ⟨b,hb⟩:∃ b,(if b=(sold.getD n.toNat default).bunk then none else (yO cs s a r (Qe sold n.toNat b)).map (⟨n,b.cab,b.bed⟩ :: ·))=some l:=by
      obtain ⟨b,_,hb⟩:=List.exists_of_findSome?_eq_some h
      exact ⟨b,hb⟩
    split at hb
    · cases hb
    · obtain ⟨l',hl',rfl⟩:=Option.map_eq_some_iff.1 hb
      rw [List.length_cons,Xx hl',List.length_cons]
end Go.Sym.B
namespace Go.Sym.B
open Go Go.Sym Go.Proofs Go.Sym.C
def Qf5 (cs:List Cabin) (s:Int) (a:Ask) (m:Nat):Prop:=∀ (sold:List Tk) (ts:List Int),ts.length=m→ShOk cs s a sold ts →
  Fn noB Try.prog 87 [.ptr 0 0,qA ts,qD a] (qg (qO 0 (qw cs s sold))) (.tup [zq ((yO cs s a ts sold).getD []),aB (yO cs s a ts sold).isSome]) (qg (wH 0 ((qw cs s sold).map some))) 0
def s0L0:List (Nat × AV):=[(6,.ptr 5 0),(7,.ptr 6 0),(24,.clo 114 [.ptr 7 0,.ptr 8 0])]
def s0L:List (Nat × AV):=[(6,.ptr 5 0),(7,.ptr 6 0)]
def s0H (k:Nat):List (Nat × AObj):=[(5,.cells [.nil]),(6,.cells [aB (decide (0 < k))])]
theorem Xv (c:Chart) (a:Ask):zl [0,1,7,8] 10 0 (plL c a)=[(0,qm c.cabins c.secs 1),(1,ql c.sold),(7,.cells [.ptr 0 0]),(8,.cells (qo a))]:=by
  simp [zl,plL,qy,AObj.ren,AV.renL,AV.ren,qm,ql,qo]
theorem Rw (c:Chart) (a:Ask) (j:Nat):zl [0] 10 0 (plH c a j)=[(0,qm c.cabins c.secs 10),(10,ql ((plP c a).getD j default).2)]:=by
  simp [zl,plH,qw,qy,AObj.ren,AV.renL,AV.ren,qm,ql]
def wV:=kk @ty3 (kk @ty4 (kk @Wl (kk @xC (kk @jO (kk @JE (kk @QN (kk @xA (kk @Qdf (kk @QdC (kk @yw (kk @Zu (kk @Jt (kk @ti3.eq_1 (kk @ti4.eq_1 (kk @Zk.eq_1 (kk @vP.eq_1 (kk @jE.eq_1 (kk @Wm.eq_1 (kk @Qb.eq_1 (kk @vR.eq_1 (kk @Ub.eq_1 (kk @R8.eq_1 (kk @j3.eq_1 (kk @Qv.eq_1 @Zy.eq_1))))))))))))))))))))))))
def vL:=kk @aI.eq_1 (kk @aB.eq_1 (kk @qA.eq_1 (@WS)))
set_option maxHeartbeats 2000000 in
theorem Qa5 (cs:List Cabin) (s:Int) (a:Ask):Qf5 cs s a 0:=by
  intro sold ts ht ok
  obtain rfl:=List.eq_nil_of_length_eq_zero ht
  have env:Env (fun F=>F.r=none) Try.prog tyB (tab [(44,qU true qK),(68,fnE qL)]):=qP ⟨Jw,Vu,trivial⟩
  refine Fn.of (A:=fun F=>F.r=none) (n0:=2) (D:=noD) (Fn0 Try.func87 rfl (fun vs w=>by kernel_rfl) (by kernel_rfl)) (by simp) (by simp [AV.ids,AV.idsL,qA,qD,qo]) kL (fun _ _ _ h=>h) qF ?_
  obtain ⟨c,hc⟩:∃ c:Chart,(⟨cs,s,sold⟩:Chart)=c:=⟨_,rfl⟩
  have e1:cs=c.cabins:=by rw [← hc]
  have e2:s=c.secs:=by rw [← hc]
  have e3:sold=c.sold:=by rw [← hc]
  have hcm:c.cabins.length≤maxLen:=by
    have h1:=ok.cabs
    have h2:(3:Nat)≤maxLen:=by decide
    rw [← e1];omega
  show Sym _ _ _ (zZ [.ptr 0 0,qA [],qD a] 2 (qg [(0,qm cs s 1),(1,ql sold)])) (xN tyB noD Try.f87 fun S rv=>Fin S rv (.tup [zq ((if zV ⟨cs,s,sold⟩=0∧plP ⟨cs,s,sold⟩ a ≠ [] then some [] else none:Option (List Tr)).getD []),aB (if zV ⟨cs,s,sold⟩=0∧plP ⟨cs,s,sold⟩ a ≠ [] then some [] else none:Option (List Tr)).isSome]) 2 (qg [(0,qm cs s 1),(1,ql sold)]) 0)
  rw [e1,e2,e3] at hc ⊢
  rw [hc]
  by_cases h0:zV c=0
  · have hpo:PlOk c a:=⟨kD h0,ok.sx⟩
    repeat' (first|(apply nx;with_reducible constructor)|refine jq (by decide) ?_|refine zu ?_|refine zH ?_|refine zG ?_|refine zF ?_|((first|refine kz env fun Q hQ=>?_|refine kj fun Q hQ=>?_);simp only [vkt,seval,wV,vL,zq,qD,qo,qc,mTk,qm,ql,qw,plL,s0L,s0H,qK,qL,List.length_map,List.map_nil,nth,hwL,Nat.zero_add,Nat.sub_zero,hc,h0,decide_true];(try simp only [ite_and]);(repeat' (first|with_reducible assumption|refine And.intro ?_ ?_|intro hp));all_goals (first|(refine hQ _ ?_;clear hQ Q)|(refine hQ _ (fun h=>?_) (fun h=>?_) <;> clear hQ Q <;> (try simp only [vki,reduceCtorEq] at h))|(refine kx ?_;kernel_rfl)|omega|assumption|with_reducible rfl|skip)))
    refine xy (S':={ t:=asg s0L0,h:=qg (s0H 0++[(0,qm c.cabins c.secs 1),(1,ql c.sold),(7,.cells [.ptr 0 0]),(8,.cells (qo a))]),n:=9,j:=0,d:=[],m:=2 }) ?_ ?_
    · show Le _ { t:=asg [(6,.ptr 5 0),(7,.ptr 6 0),(24,.clo 114 [.ptr 7 0,.ptr 8 0])],h:=qg [(5,.cells [.nil]),(6,.cells [aB false]),(0,qm c.cabins c.secs 1),(1,ql c.sold),(7,.cells [.ptr 0 0]),(8,.cells (qo a))],n:=9,j:=0,d:=[],m:=2 }
      (refine Le.ok some [] ?_;constructor;all_goals (try simp only [vle,vkt,seval,wV,vL,zq,qD,qo,qc,mTk,qm,ql,qw,plL,s0L,s0H,qK,qL,List.length_map,List.map_nil,nth,hwL,Nat.zero_add,Nat.sub_zero]))
      all_goals first|rfl|(simp [qo,AV.leL,AV.le,AV.idsL,AV.ids];done)
    rw [← Xv c a]
    obtain ⟨N,hN⟩:∃ N,(plP c a).length=N:=⟨_,rfl⟩
    obtain ⟨R,hR⟩:∃ R,(if N=0 then 0 else 1)=R:=⟨_,rfl⟩
    have hRo:Rounds (fun _=>false) R N:=by
      by_cases hN0:N=0
      · rw [if_pos hN0] at hR
        exact ⟨by omega,fun j hj=>by omega,fun h=>by omega⟩
      · rw [if_neg hN0] at hR
        exact ⟨by omega,fun j hj=>by omega,fun h=>⟨by omega,rfl⟩⟩
    have hR1:∀ j,j < R→j=0∧R=1:=fun j hj=>by
      by_cases hN0:N=0
      · rw [if_pos hN0] at hR;omega
      · rw [if_neg hN0] at hR;omega
    refine vH (fun F h=>h) 1 (L:=s0L0) (L':=s0L) (xs:=[1,7,8]) (hs:=[0,1,7,8]) (n:=9) (nl:=1) (hc:=s0H) (Lp:=plL c a) (jj:=fun _=>0) (d:=[]) (ys:=plY c a) (hl:=plH c a) (ans:=fun _=>false) (ex:=.ret) (caps:=[.ptr 7 0,.ptr 8 0]) (caps0:=[.ptr 2 0,.ptr 3 0]) (N:=(plP c a).length) (R:=R) (A':=fun _ _=>True) rfl (Jd hpo) (by rw [hN];exact hRo) (.inl rfl) ?_ ?_ ?_ rfl (by simp) ?_ (by simp) (fun _ _ _ _ _ _=>trivial) ?_ ?_ ?_ ?_ ?_ ?_ (fun j hj=>?_) ?_ (fun j hj=>?_) (fun hall=>?_) (fun hpos _=>?_)
    · simp [AV.leL,AV.le]
    · simp [AV.nocbL,AV.nocb]
    · simp [Wx,plL,qm,ql,qo,AObj.nocb,AV.nocbL,AV.nocb,AObj.ids,AV.ids,AV.idsL,AObj.ren,AV.renL,AV.ren,AObj.le,AV.leL,AV.le,qy]
    · simp [s0H,qg]
    · simp [s0H,qg]
    · simp [s0H,AObj.ids,AV.ids,AV.idsL,aB]
    · simp [Ui,s0L,s0L0,asg,upd]
    · simp [Qbl]
    · intro j hj
      simp [absent,s0H,Rw]
    · simp [JZ,s0L,AV.ids]
    · refine ⟨?_,rfl, ?_, ?_,rfl, ?_⟩
      · simp [Qw,s0H,AObj.ids,AV.ids,AV.idsL,aB]
      · simp [Wi,plH,qw,qm,ql,AObj.nocb,AV.nocbL,AV.nocb,AObj.ids,AV.ids,AV.idsL]
      · simp [Vf,plY,qd,AV.nocb,AV.ids]
      · simp [Qp,WV,Rw,s0H,s0L,xJ,AV.ids,ADf.ids,List.range_succ]
    · simp [Qw,s0H,AObj.ids,AV.ids,AV.idsL,aB]
    · obtain ⟨rfl,hR1⟩:=hR1 j hj
      have env:Env (fun _:Frm=>True) Try.prog tyB (tab []):=qP trivial
      obtain ⟨x,hx⟩:∃ x,((plP c a).getD 0 default).1=x:=⟨_,rfl⟩
      obtain ⟨r,hr⟩:∃ r,((plP c a).getD 0 default).2=r:=⟨_,rfl⟩
      have hst:jo s0L [25] [0] 9 1 (plY c a 0) (s0H 0) (plH c a 0)={ t:=asg [(25,qd x),(6,.ptr 5 0),(7,.ptr 6 0)],h:=qg [(9,.mark),(5,.cells [.nil]),(6,.cells [aB false]),(0,qm c.cabins c.secs 10),(10,ql r)],n:=11,m:=11 }:=by
        simp only [jo,Nat.reduceAdd,Rw,plY,hx,hr,qd,List.map_cons,List.map_nil,AV.ren,List.zip_cons_cons,List.zip_nil_right,s0H,s0L,Zc,List.cons_append,List.nil_append]
        rfl
      show Sym _ _ _ (jo s0L [25] [0] 9 1 (plY c a 0) (s0H 0) (plH c a 0)) _
      rw [hst]
      repeat' (first|(apply nx;with_reducible constructor)|refine jq (by decide) ?_|refine zu ?_|refine zH ?_|refine zG ?_|refine zF ?_|((first|refine kz env fun Q hQ=>?_|refine kj fun Q hQ=>?_);simp only [vkt,seval,wV,vL,zq,qD,qo,qc,mTk,qm,ql,qw,plL,s0L,s0H,qK,qL,List.length_map,List.map_nil,nth,hwL,Nat.zero_add,Nat.sub_zero];(try simp only [ite_and]);(repeat' (first|with_reducible assumption|refine And.intro ?_ ?_|intro hp));all_goals (first|(refine hQ _ ?_;clear hQ Q)|(refine hQ _ (fun h=>?_) (fun h=>?_) <;> clear hQ Q <;> (try simp only [vki,reduceCtorEq] at h))|(refine kx ?_;kernel_rfl)|omega|assumption|with_reducible rfl|skip)))
      refine ⟨rfl,rfl,some,_,RFin.okQ some [] ?_⟩
      constructor
      all_goals (try simp only [vle,xH,xe,qy,plH,hr,vkt,seval,wV,vL,zq,qD,qo,qc,mTk,qm,ql,qw,plL,s0L,s0H,qK,qL,List.length_map,List.map_nil,nth,hwL,Nat.zero_add,Nat.sub_zero])
      all_goals first|rfl|(simp;done)
    · have hR0:R=0:=by
        by_cases h:R=0
        · exact h
        · exact absurd (hall 0 (by omega)) (by simp)
      have hN0:N=0:=by
        by_cases h:N=0
        · exact h
        · rw [if_neg h] at hR;omega
      have hpe:plP c a=[]:=List.eq_nil_of_length_eq_zero (by rw [hN];exact hN0)
      have eh:qg ((9,AObj.mark) :: s0H R++zl [0,1,7,8] (9+1) 0 (plL c a))=qg [(9,.mark),(5,.cells [.nil]),(6,.cells [aB false]),(0,qm c.cabins c.secs 1),(1,ql c.sold),(7,.cells [.ptr 0 0]),(8,.cells (qo a))]:=by
        rw [show zl [0,1,7,8] (9+1) 0 (plL c a)=zl [0,1,7,8] 10 0 (plL c a) from rfl,Xv,hR0];rfl
      rw [eh,if_neg (by simp [hpe])]
      repeat' (first|(apply nx;with_reducible constructor)|refine jq (by decide) ?_|refine zu ?_|refine zH ?_|refine zG ?_|refine zF ?_|((first|refine kz env fun Q hQ=>?_|refine kj fun Q hQ=>?_);simp only [vkt,seval,wV,vL,zq,qD,qo,qc,mTk,qm,ql,qw,plL,s0L,s0H,qK,qL,List.length_map,List.map_nil,nth,hwL,Nat.zero_add,Nat.sub_zero];(try simp only [ite_and]);(repeat' (first|with_reducible assumption|refine And.intro ?_ ?_|intro hp));all_goals (first|(refine hQ _ ?_;clear hQ Q)|(refine hQ _ (fun h=>?_) (fun h=>?_) <;> clear hQ Q <;> (try simp only [vki,reduceCtorEq] at h))|(refine kx ?_;kernel_rfl)|omega|assumption|with_reducible rfl|skip)))
      (simp only [vrt,Try.results87,vkt,seval,wV,vL,zq,qD,qo,qc,mTk,qm,ql,qw,plL,s0L,s0H,qK,qL,List.length_map,List.map_nil,nth,hwL,Nat.zero_add,Nat.sub_zero];refine Fin.ok some [] ?_ ?_ ?_ ?_ ?_ rfl;all_goals (try simp only [vle,vkt,seval,wV,vL,zq,qD,qo,qc,mTk,qm,ql,qw,plL,s0L,s0H,qK,qL,List.length_map,List.map_nil,nth,hwL,Nat.zero_add,Nat.sub_zero]))
      all_goals first|rfl|(simp [qo,AV.leL,AV.le];done)|exact fun i hi=>(match i,hi with|0,_=>rfl|1,_=>rfl)
    · have hRe:=(hR1 0 hpos).2
      have hN0:¬ N=0:=fun h=>by rw [if_pos h] at hR;omega
      have hpe:plP c a ≠ []:=fun h=>by rw [h] at hN;exact hN0 hN.symm
      have eh:qg ((9,AObj.mark) :: s0H R++zl [0,1,7,8] (9+1) 0 (plL c a))=qg [(9,.mark),(5,.cells [.nil]),(6,.cells [aB true]),(0,qm c.cabins c.secs 1),(1,ql c.sold),(7,.cells [.ptr 0 0]),(8,.cells (qo a))]:=by
        rw [show zl [0,1,7,8] (9+1) 0 (plL c a)=zl [0,1,7,8] 10 0 (plL c a) from rfl,Xv,hRe];rfl
      rw [eh,if_pos ⟨h0,hpe⟩]
      repeat' (first|(apply nx;with_reducible constructor)|refine jq (by decide) ?_|refine zu ?_|refine zH ?_|refine zG ?_|refine zF ?_|((first|refine kz env fun Q hQ=>?_|refine kj fun Q hQ=>?_);simp only [vkt,seval,wV,vL,zq,qD,qo,qc,mTk,qm,ql,qw,plL,s0L,s0H,qK,qL,List.length_map,List.map_nil,nth,hwL,Nat.zero_add,Nat.sub_zero];(try simp only [ite_and]);(repeat' (first|with_reducible assumption|refine And.intro ?_ ?_|intro hp));all_goals (first|(refine hQ _ ?_;clear hQ Q)|(refine hQ _ (fun h=>?_) (fun h=>?_) <;> clear hQ Q <;> (try simp only [vki,reduceCtorEq] at h))|(refine kx ?_;kernel_rfl)|omega|assumption|with_reducible rfl|skip)))
      (simp only [vrt,Try.results87,vkt,seval,wV,vL,zq,qD,qo,qc,mTk,qm,ql,qw,plL,s0L,s0H,qK,qL,List.length_map,List.map_nil,nth,hwL,Nat.zero_add,Nat.sub_zero];refine Fin.ok some [] ?_ ?_ ?_ ?_ ?_ rfl;all_goals (try simp only [vle,vkt,seval,wV,vL,zq,qD,qo,qc,mTk,qm,ql,qw,plL,s0L,s0H,qK,qL,List.length_map,List.map_nil,nth,hwL,Nat.zero_add,Nat.sub_zero]))
      all_goals first|rfl|(simp [qo,AV.leL,AV.le];done)|exact fun i hi=>(match i,hi with|0,_=>rfl|1,_=>rfl)
  · rw [if_neg (fun h=>h0 h.1)]
    repeat' (first|(apply nx;with_reducible constructor)|refine jq (by decide) ?_|refine zu ?_|refine zH ?_|refine zG ?_|refine zF ?_|((first|refine kz env fun Q hQ=>?_|refine kj fun Q hQ=>?_);simp only [vkt,seval,wV,vL,zq,qD,qo,qc,mTk,qm,ql,qw,plL,s0L,s0H,qK,qL,List.length_map,List.map_nil,nth,hwL,Nat.zero_add,Nat.sub_zero,hc,h0,decide_true];(try simp only [ite_and]);(repeat' (first|with_reducible assumption|refine And.intro ?_ ?_|intro hp));all_goals (first|(refine hQ _ ?_;clear hQ Q)|(refine hQ _ (fun h=>?_) (fun h=>?_) <;> clear hQ Q <;> (try simp only [vki,reduceCtorEq] at h))|(refine kx ?_;kernel_rfl)|omega|assumption|with_reducible rfl|skip)))
    (simp only [vrt,Try.results87,vkt,seval,wV,vL,zq,qD,qo,qc,mTk,qm,ql,qw,plL,s0L,s0H,qK,qL,List.length_map,List.map_nil,nth,hwL,Nat.zero_add,Nat.sub_zero];refine Fin.ok some [] ?_ ?_ ?_ ?_ ?_ rfl;all_goals (try simp only [vle,vkt,seval,wV,vL,zq,qD,qo,qc,mTk,qm,ql,qw,plL,s0L,s0H,qK,qL,List.length_map,List.map_nil,nth,hwL,Nat.zero_add,Nat.sub_zero]))
    all_goals first|rfl|(simp [qo,AV.leL,AV.le];done)
end Go.Sym.B
namespace Go.Sym.B
open Go Go.Sym Go.Proofs Go.Sym.C
def jT (cs:List Cabin) (s:Int) (a:Ask) (m:Nat) (S:St):List AV→Option Pk
  |[.ptr p 0,.sl ts,.agg aa]=>match S.h p with
    |some (.cells [.sl cc,.v (.int .i64 s'),.row r])=>match S.h r with
      |some (.row _ _ xs)=>some { pre:=cc=cs.map qj∧s'=s∧aa=qo a∧ts=(ts.map zY).map zX∧xs=(xs.map dTk).map eTk∧(ts.map zY).length=m∧ShOk cs s a (xs.map dTk) (ts.map zY),hs:=[p,r],ar:=[.ptr 0 0,.sl ts,.agg aa],L0:=qw cs s (xs.map dTk),v:=.tup [zq ((yO cs s a (ts.map zY) (xs.map dTk)).getD []),aB (yO cs s a (ts.map zY) (xs.map dTk)).isSome],L1:=(qw cs s (xs.map dTk)).map some }
      |_=>none
    |_=>none
  |_=>none
theorem Qjo {A:Frm→Prop} {cs:List Cabin} {s:Int} {a:Ask} {m:Nat} (ih:Qf5 cs s a m):qB A Try.prog 87 (fnE (jT cs s a m)):=wE fun S bs q h hp=>by
  unfold jT at h
  split at h
  · split at h
    · split at h
      · cases h
        obtain ⟨_,_,h3,h4,_,h6,h7⟩:=hp
        have:=ih _ _ h6 h7
        rw [qA,← h4,qD,← h3] at this
        exact this
      · cases h
    · cases h
  · cases h
def shT:List (Nat × AV):=[(3,.ptr 2 0),(4,.ptr 3 0),(5,.ptr 4 0),(6,.ptr 5 0),(7,.ptr 6 0),(8,.ptr 7 0),(9,.ptr 8 0)]
def shT0:List (Nat × AV):=shT++[(43,.clo 123 [.ptr 9 0])]
def Jp (cs:List Cabin) (s:Int) (a:Ask) (r:List Int) (sold:List Tk) (k j:Nat):Option (List Tr):=if j=0 then none else shF cs s a r sold k ((qQ cs).getD (j - 1) default)
def shH (cs:List Cabin) (s:Int) (a:Ask) (ts:List Int) (k:Nat) (was:Bunk) (T:List Tk) (o:Option (List Tr)):List (Nat × AObj):=[(0,qm cs s 1),(1,ql T),(2,.cells [.ptr 0 0]),(3,.cells [.sl (ts.map zX)]),(4,.cells (qo a)),(5,.cells [.sl ((o.getD []).map eTr)]),(6,.cells [aB o.isSome]),(7,.cells [aI k]),(8,.cells [.v (.int .i64 was.cab),.v (.int .i64 was.bed)])]
theorem Vq (cs:List Cabin) (s:Int):zl [9] 11 0 [buO cs s]=[(9,buO cs s)]:=by
  simp [zl,qy,buO,AObj.ren,AV.renL,AV.ren]
def zC:=kk @ty3 (kk @ty4 (kk @Wl (kk @xC (kk @jO (kk @JE (kk @QN (kk @xA (kk @Qdf (kk @QdC (kk @yw (kk @Zu (kk @Jt (kk @ti3.eq_1 (kk @ti4.eq_1 (kk @Zk.eq_1 (kk @vP.eq_1 (kk @jE.eq_1 (kk @Wm.eq_1 (kk @Qb.eq_1 (kk @vR.eq_1 (kk @Ub.eq_1 (kk @R8.eq_1 (kk @j3.eq_1 (kk @Qv.eq_1 @Zy.eq_1))))))))))))))))))))))))
def jA:=kk @aI.eq_1 (kk @aB.eq_1 (kk @qA.eq_1 (kk @WS (kk @QaE (@zX.eq_1)))))
set_option maxHeartbeats 8000000 in
theorem Qbm (cs:List Cabin) (s:Int) (a:Ask) (m:Nat) (ih:Qf5 cs s a m):Qf5 cs s a (m+1):=by
  intro sold ts ht ok
  have env:Env (fun F=>F.r=none) Try.prog tyB (tab [(94,fnE qR)]):=qP ⟨RU,trivial⟩
  refine Fn.of (A:=fun F=>F.r=none) (n0:=2) (D:=dfE 120 wX) (Fn0 Try.func87 rfl (fun vs w=>by kernel_rfl) (by kernel_rfl)) (by simp) (by simp [AV.ids,AV.idsL,qA,qD,qo]) kL (fun _ _ _ h=>h) QhQ ?_
  obtain ⟨n,r,rfl⟩:∃ n r,ts=n :: r:=by
    cases ts with
    |nil=>simp at ht
    |cons n r=>exact ⟨n,r,rfl⟩
  obtain ⟨hn0,hnl⟩:=ok.ts n List.mem_cons_self
  obtain ⟨k,rfl⟩:∃ k:Nat,n=k:=⟨n.toNat,by omega⟩
  have hnl:k < sold.length:=hnl
  have hrl:r.length=m:=by simpa using ht
  rw [Qaj]
  obtain ⟨ts,hts⟩:∃ ts,(k:Int) :: r=ts:=⟨_,rfl⟩
  have hl1:ts.length=m+1:=by rw [← hts];exact ht
  have hg0:(ts.map zX).getD 0 [.v (.int .i64 0)]=[.v (.int .i64 (k:Int))]:=by rw [← hts];rfl
  have hdr:List.drop 1 (List.take (m+1) (ts.map zX))=r.map zX:=by
    rw [List.take_of_length_le (by rw [List.length_map,hl1];exact Nat.le_refl _),← hts];rfl
  rw [hts]
  obtain ⟨x,hx⟩:∃ x,sold.getD k default=x:=⟨_,rfl⟩
  have hg:=hTk hnl
  rw [hx] at hg
  have i0:((k:Int)).toNat=k:=rfl
  have d0:decide ((((m+1:Nat)):Int)=0)=false:=decide_eq_false (by omega)
  obtain ⟨w,hw⟩:∃ w:Bunk,x.bunk=w:=⟨_,rfl⟩
  have hwc:x.cab=w.cab:=by rw [← hw];rfl
  have hwb:x.bed=w.bed:=by rw [← hw];rfl
  have hsw:(sold.getD k default).bunk=w:=by rw [hx];exact hw
  have hfb:∀ b,shF cs s a r sold k b=if b=w then none else (yO cs s a r (Qe sold k b)).map (⟨(k:Int),b.cab,b.bed⟩ :: ·):=fun b=>by unfold shF;rw [hsw]
  have hcS:∀ j,Jn cs sold k (j+1)=if (qQ cs).getD j default=w then Jn cs sold k j else Qe sold k ((qQ cs).getD j default):=fun j=>by rw [Jn,hsw]
  have hcs:=XU cs sold k hnl
  have hself:Qe sold k w=sold:=by rw [← hsw];exact QdR _ _ hnl
  obtain ⟨f,hf⟩:∃ f,shF cs s a r sold k=f:=⟨_,rfl⟩
  obtain ⟨R,hR1,hR2,hR3,hR4⟩:=Qcl f (qQ cs)
  have hRo:Rounds (fun j=>(f ((qQ cs).getD j default)).isNone) R (qQ cs).length:=⟨hR1,fun j hj=>by show Option.isNone _=true;rw [hR2 j hj];rfl,fun h=>⟨(hR3 h).1,by
    have:=(hR3 h).2
    show Option.isNone _=false
    cases hq:f ((qQ cs).getD (R - 1) default) with
    |none=>exact absurd hq this
    |some _=>rfl⟩⟩
  have hout:∀ j,Jp cs s a r sold k (j+1)=f ((qQ cs).getD j default):=fun j=>by unfold Jp;rw [if_neg (by omega),hf];rfl
  have houtN:∀ j,j < R→Jp cs s a r sold k j=none:=fun j hj=>by
    cases j with
    |zero=>rfl
    |succ j=>rw [hout];exact hR2 j hj
  have hres:(qQ cs).findSome? f=Jp cs s a r sold k R:=by
    rw [hR4]
    unfold Jp
    rw [hf]
  have hcab:CabsOk cs:=⟨by have:=ok.cabs;omega,fun y hy=>by have:=ok.beds y hy;omega⟩
  have hm7:=ok.lenT
  rw [hts,hl1] at hm7
  have h1m:(1:Int)≤((m+1:Nat):Int):=by omega
  have hmx:(100:Nat)≤maxLen:=by decide
  rw [hf,hres]
  show Sym _ _ _ (zZ [.ptr 0 0,qA ts,qD a] 2 (qg [(0,qm cs s 1),(1,ql sold)])) (xN tyB _ Try.f87 fun S rv=>Fin S rv _ 2 (qg [(0,qm cs s 1),(1,ql sold)]) 0)
  repeat' (first|(apply nx;with_reducible constructor)|refine jq (by decide) ?_|refine zu ?_|refine zH ?_|refine zG ?_|refine zF ?_)
  ((first|refine kz env fun Q hQ=>?_|refine kj fun Q hQ=>?_);simp only [vkt,seval,zC,jA,qf,zq,eTr,eTk,qD,qo,qc,mTk,qm,ql,qw,buO,shT,shH,qR,jT,wX,s1L,dfE,rTr,List.length_map,nth,hwL,Nat.zero_add,Nat.sub_zero];(try simp only [ite_and]);(repeat' (first|with_reducible assumption|refine And.intro ?_ ?_|intro hp));all_goals (first|(refine hQ _ ?_;clear hQ Q)|(refine hQ _ (fun h=>?_) (fun h=>?_) <;> clear hQ Q <;> (try simp only [vki,reduceCtorEq] at h))|(refine kx ?_;kernel_rfl)|omega|assumption|with_reducible rfl|skip))
  repeat' (first|(apply nx;with_reducible constructor)|refine jq (by decide) ?_|refine zu ?_|refine zH ?_|refine zG ?_|refine zF ?_)
  ((first|refine kz env fun Q hQ=>?_|refine kj fun Q hQ=>?_);simp only [vkt,seval,zC,jA,qf,zq,eTr,eTk,qD,qo,qc,mTk,qm,ql,qw,buO,shT,shH,qR,jT,wX,s1L,dfE,rTr,List.length_map,nth,hwL,Nat.zero_add,Nat.sub_zero,hl1,d0];(try simp only [ite_and]);(repeat' (first|with_reducible assumption|refine And.intro ?_ ?_|intro hp));all_goals (first|(refine hQ _ ?_;clear hQ Q)|(refine hQ _ (fun h=>?_) (fun h=>?_) <;> clear hQ Q <;> (try simp only [vki,reduceCtorEq] at h))|(refine kx ?_;kernel_rfl)|omega|assumption|with_reducible rfl|skip))
  repeat' (first|(apply nx;with_reducible constructor)|refine jq (by decide) ?_|refine zu ?_|refine zH ?_|refine zG ?_|refine zF ?_)
  ((first|refine kz env fun Q hQ=>?_|refine kj fun Q hQ=>?_);simp only [vkt,seval,zC,jA,qf,zq,eTr,eTk,qD,qo,qc,mTk,qm,ql,qw,buO,shT,shH,qR,jT,wX,s1L,dfE,rTr,List.length_map,nth,hwL,Nat.zero_add,Nat.sub_zero];(try simp only [ite_and]);(repeat' (first|with_reducible assumption|refine And.intro ?_ ?_|intro hp));all_goals (first|(refine hQ _ ?_;clear hQ Q)|(refine hQ _ (fun h=>?_) (fun h=>?_) <;> clear hQ Q <;> (try simp only [vki,reduceCtorEq] at h))|(refine kx ?_;kernel_rfl)|omega|assumption|with_reducible rfl|skip))
  repeat' (first|(apply nx;with_reducible constructor)|refine jq (by decide) ?_|refine zu ?_|refine zH ?_|refine zG ?_|refine zF ?_)
  ((first|refine kz env fun Q hQ=>?_|refine kj fun Q hQ=>?_);simp only [vkt,seval,zC,jA,qf,zq,eTr,eTk,qD,qo,qc,mTk,qm,ql,qw,buO,shT,shH,qR,jT,wX,s1L,dfE,rTr,List.length_map,nth,hwL,Nat.zero_add,Nat.sub_zero,hg0];(try simp only [ite_and]);(repeat' (first|with_reducible assumption|refine And.intro ?_ ?_|intro hp));all_goals (first|(refine hQ _ ?_;clear hQ Q)|(refine hQ _ (fun h=>?_) (fun h=>?_) <;> clear hQ Q <;> (try simp only [vki,reduceCtorEq] at h))|(refine kx ?_;kernel_rfl)|omega|assumption|with_reducible rfl|skip))
  repeat' (first|(apply nx;with_reducible constructor)|refine jq (by decide) ?_|refine zu ?_|refine zH ?_|refine zG ?_|refine zF ?_)
  ((first|refine kz env fun Q hQ=>?_|refine kj fun Q hQ=>?_);simp only [vkt,seval,zC,jA,qf,zq,eTr,eTk,qD,qo,qc,mTk,qm,ql,qw,buO,shT,shH,qR,jT,wX,s1L,dfE,rTr,List.length_map,nth,hwL,Nat.zero_add,Nat.sub_zero,hg,i0,hnl];(try simp only [ite_and]);(repeat' (first|with_reducible assumption|refine And.intro ?_ ?_|intro hp));all_goals (first|(refine hQ _ ?_;clear hQ Q)|(refine hQ _ (fun h=>?_) (fun h=>?_) <;> clear hQ Q <;> (try simp only [vki,reduceCtorEq] at h))|(refine kx ?_;kernel_rfl)|omega|assumption|with_reducible rfl|skip))
  repeat' (first|(apply nx;with_reducible constructor)|refine jq (by decide) ?_|refine zu ?_|refine zH ?_|refine zG ?_|refine zF ?_)
  refine UJ (fun F h=>h) env rfl rfl rfl fun Q hQ=>?_
  simp only [List.dropLast]
  simp only [vkt,seval,zC,jA,qf,zq,eTr,eTk,qD,qo,qc,mTk,qm,ql,qw,buO,shT,shH,qR,jT,wX,s1L,dfE,rTr,List.length_map,nth,hwL,Nat.zero_add,Nat.sub_zero]
  refine hQ _ _ _ (by simp only [vkt,seval,zC,jA,qf,zq,eTr,eTk,qD,qo,qc,mTk,qm,ql,qw,buO,shT,shH,qR,jT,wX,s1L,dfE,rTr,List.length_map,nth,hwL,Nat.zero_add,Nat.sub_zero];rfl) ?_
  clear hQ Q
  dsimp only [put]
  repeat' (first|(apply nx;with_reducible constructor)|refine jq (by decide) ?_|refine zu ?_|refine zH ?_|refine zG ?_|refine zF ?_|((first|refine kz env fun Q hQ=>?_|refine kj fun Q hQ=>?_);simp only [vkt,seval,zC,jA,qf,zq,eTr,eTk,qD,qo,qc,mTk,qm,ql,qw,buO,shT,shH,qR,jT,wX,s1L,dfE,rTr,List.length_map,nth,hwL,Nat.zero_add,Nat.sub_zero];(try simp only [ite_and]);(repeat' (first|with_reducible assumption|refine And.intro ?_ ?_|intro hp));all_goals (first|(refine hQ _ ?_;clear hQ Q)|(refine hQ _ (fun h=>?_) (fun h=>?_) <;> clear hQ Q <;> (try simp only [vki,reduceCtorEq] at h))|(refine kx ?_;kernel_rfl)|omega|assumption|with_reducible rfl|skip)))
  refine xy (S':={ t:=asg shT0,h:=qg (shH cs s a ts k w (Jn cs sold k 0) (Jp cs s a r sold k 0)++[(9,buO cs s)]),n:=10,j:=0,d:=[.call 120 [.ptr 8 0,.ptr 2 0,.ptr 7 0]],m:=2 }) ?_ ?_
  · show Le _ { t:=asg [(3,.ptr 2 0),(4,.ptr 3 0),(5,.ptr 4 0),(6,.ptr 5 0),(7,.ptr 6 0),(8,.ptr 7 0),(9,.ptr 8 0),(43,.clo 123 [.ptr 9 0])],h:=qg [(0,qm cs s 1),(1,ql sold),(2,.cells [.ptr 0 0]),(3,.cells [.sl (ts.map zX)]),(4,.cells (qo a)),(5,.cells [.sl []]),(6,.cells [aB false]),(7,.cells [aI k]),(8,.cells [.v (.int .i64 w.cab),.v (.int .i64 w.bed)]),(9,buO cs s)],n:=10,j:=0,d:=[.call 120 [.ptr 8 0,.ptr 2 0,.ptr 7 0]],m:=2 }
    rw [← hwc,← hwb]
    (refine Le.ok some [] ?_;constructor;all_goals (try simp only [vle,vkt,seval,zC,jA,qf,zq,eTr,eTk,qD,qo,qc,mTk,qm,ql,qw,buO,shT,shH,qR,jT,wX,s1L,dfE,rTr,List.length_map,nth,hwL,Nat.zero_add,Nat.sub_zero]))
    all_goals first|rfl|(simp [ADf.le,ADf.ids,AV.leL,AV.le,AV.idsL,AV.ids];done)
  rw [← Vq cs s]
  refine vH (fun F h=>h) 1 (L:=shT0) (L':=shT) (xs:=[]) (hs:=[9]) (n:=10) (nl:=0) (hc:=fun j=>shH cs s a ts k w (Jn cs sold k j) (Jp cs s a r sold k j)) (Lp:=[buO cs s]) (jj:=fun _=>0) (d:=[.call 120 [.ptr 8 0,.ptr 2 0,.ptr 7 0]]) (ys:=buY cs) (hl:=fun _=>[buO cs s]) (ans:=fun j=>(f ((qQ cs).getD j default)).isNone) (ex:=.ret) (caps:=[.ptr 9 0]) (caps0:=[.ptr 0 0]) (N:=(qQ cs).length) (R:=R) (A':=fun _ _=>True) rfl (VV cs s hcab) hRo (.inl rfl) ?_ ?_ ?_ rfl (by simp) ?_ (by simp) (fun _ _ _ _ _ _=>trivial) ?_ ?_ ?_ ?_ ?_ ?_ (fun j hj=>?_) ?_ (fun j hj=>?_) (fun hall=>?_) (fun hpos hlast=>?_)
  · simp [AV.leL,AV.le]
  · simp [AV.nocbL,AV.nocb]
  · simp [Wx,buO,AObj.nocb,AV.nocbL,AV.nocb,AObj.ids,AV.ids,AV.idsL,AObj.ren,AV.renL,AV.ren,AObj.le,AV.leL,AV.le,j4]
  · simp [shH,qg]
  · simp [shH,qg]
  · exact fun _ _ _ _ h=>h
  · simp [Ui,shT,shT0,asg,upd]
  · simp [Qbl]
  · intro j hj
    simp [absent]
  · simp [JZ,shT,AV.ids]
  · refine ⟨?_,rfl, ?_, ?_,rfl, ?_⟩
    · simp [Qw,shH,AObj.ids,AV.ids,AV.idsL,qm,ql,qo,aB,aI]
    · simp [Wi,buO,AObj.nocb,AV.nocbL,AV.nocb,AObj.ids,AV.ids,AV.idsL]
    · simp [Vf,buY,qf,AV.nocb,AV.nocbL,AV.ids,AV.idsL]
    · simp [Qp,WV,zl,qy,shH,shT,xJ,AV.ids,AV.idsL,ADf.ids,List.range_succ]
  · simp [Qw,shH,AObj.ids,AV.ids,AV.idsL,qm,ql,qo,aB,aI]
  · have env:Env (fun _:Frm=>True) Try.prog tyB (tab [(87,fnE (jT cs s a m))]):=qP ⟨Qjo ih,trivial⟩
    obtain ⟨b,hb⟩:∃ b,(qQ cs).getD j default=b:=⟨_,rfl⟩
    obtain ⟨T,hT⟩:∃ T,Jn cs sold k j=T:=⟨_,rfl⟩
    have hTs:=hcs j
    rw [hT] at hTs
    have hcS:=hcS j
    rw [hb,hT] at hcS
    have hoS:=hout j
    rw [hb] at hoS
    have hfb:=hfb b
    rw [hf] at hfb
    have hst:jo shT [44] [9] 10 0 (buY cs j) (shH cs s a ts k w (Jn cs sold k j) (Jp cs s a r sold k j)) [buO cs s]={ t:=asg [(44,qf b),(3,.ptr 2 0),(4,.ptr 3 0),(5,.ptr 4 0),(6,.ptr 5 0),(7,.ptr 6 0),(8,.ptr 7 0),(9,.ptr 8 0)],h:=qg [(10,.mark),(0,qm cs s 1),(1,ql T),(2,.cells [.ptr 0 0]),(3,.cells [.sl (ts.map zX)]),(4,.cells (qo a)),(5,.cells [.sl []]),(6,.cells [aB false]),(7,.cells [aI k]),(8,.cells [.v (.int .i64 w.cab),.v (.int .i64 w.bed)]),(9,buO cs s)],n:=11,m:=11 }:=by
      simp only [jo,Nat.reduceAdd,buY,hb,hT,houtN j hj,Vq,qf,List.map_cons,List.map_nil,AV.ren,AV.renL,List.zip_cons_cons,List.zip_nil_right,shH,shT,Zc,List.cons_append,List.nil_append]
      rfl
    show Sym _ _ _ (jo shT [44] [9] 10 0 (buY cs j) (shH cs s a ts k w (Jn cs sold k j) (Jp cs s a r sold k j)) [buO cs s]) _
    rw [hst]
    by_cases hbw:b=w
    · rw [if_pos hbw] at hcS hfb
      have hba:(f ((qQ cs).getD j default)).isNone=true:=by rw [hb,hfb];rfl
      rw [hfb] at hoS
      rw [hbw]
      repeat' (first|(apply nx;with_reducible constructor)|refine jq (by decide) ?_|refine zu ?_|refine zH ?_|refine zG ?_|refine zF ?_|((first|refine kz env fun Q hQ=>?_|refine kj fun Q hQ=>?_);simp only [vkt,seval,zC,jA,qf,zq,eTr,eTk,qD,qo,qc,mTk,qm,ql,qw,buO,shT,shH,qR,jT,wX,s1L,dfE,rTr,List.length_map,nth,hwL,Nat.zero_add,Nat.sub_zero,decide_true];(try simp only [ite_and]);(repeat' (first|with_reducible assumption|refine And.intro ?_ ?_|intro hp));all_goals (first|(refine hQ _ ?_;clear hQ Q)|(refine hQ _ (fun h=>?_) (fun h=>?_) <;> clear hQ Q <;> (try simp only [vki,reduceCtorEq] at h))|(refine kx ?_;kernel_rfl)|omega|assumption|with_reducible rfl|skip)))
      refine ⟨by simp only [hba];rfl,rfl,some,_,RFin.okQ some [] ?_⟩
      constructor
      all_goals (try simp only [vle,xH,xe,qy,hcS,hoS,Option.getD_none,Option.isSome_none,Option.getD_some,Option.isSome_some,vkt,seval,zC,jA,qf,zq,eTr,eTk,qD,qo,qc,mTk,qm,ql,qw,buO,shT,shH,qR,jT,wX,s1L,dfE,rTr,List.length_map,nth,hwL,Nat.zero_add,Nat.sub_zero])
      all_goals first|rfl|(simp;done)|(simp [qo,AV.leL,AV.le];done)
    · rw [if_neg hbw] at hcS hfb
      have hne:(decide (b.cab=w.cab) && decide (b.bed=w.bed))=false:=by
        cases b;cases w
        simp at hbw ⊢
        exact hbw
      obtain ⟨y,hy⟩:∃ y,T.getD k default=y:=⟨_,rfl⟩
      have hkT:k < T.length:=by rw [hTs.1];exact hnl
      have hgT:=hTk hkT
      rw [hy] at hgT
      have hset:=LF T k b hy
      rw [hTs.2] at hset
      obtain ⟨U,hU⟩:∃ U,Qe sold k b=U:=⟨_,rfl⟩
      have hok:ShOk cs s a U r:=by
        have h:=ok.tail k b
        rwa [hU] at h
      rw [hU] at hset hcS hfb
      have hset:=hset.symm
      cases hsh:yO cs s a r U with
      |none =>
        rw [hsh,Option.map_none] at hfb
        have hba:(f ((qQ cs).getD j default)).isNone=true:=by rw [hb,hfb];rfl
        rw [hfb] at hoS
        repeat' (first|(apply nx;with_reducible constructor)|refine jq (by decide) ?_|refine zu ?_|refine zH ?_|refine zG ?_|refine zF ?_|((first|refine kz env fun Q hQ=>?_|refine kj fun Q hQ=>?_);simp only [vkt,seval,zC,jA,qf,zq,eTr,eTk,qD,qo,qc,mTk,qm,ql,qw,buO,shT,shH,qR,jT,wX,s1L,dfE,rTr,List.length_map,nth,hwL,Nat.zero_add,Nat.sub_zero,hne,hgT,i0,hkT,hset,hl1,hdr,h1m,hrl,hok,hsh,Option.getD_none,Option.isSome_none];(try simp only [ite_and]);(repeat' (first|with_reducible assumption|refine And.intro ?_ ?_|intro hp));all_goals (first|(refine hQ _ ?_;clear hQ Q)|(refine hQ _ (fun h=>?_) (fun h=>?_) <;> clear hQ Q <;> (try simp only [vki,reduceCtorEq] at h))|(refine kx ?_;kernel_rfl)|omega|assumption|with_reducible rfl|skip)))
        refine ⟨by simp only [hba];rfl,rfl,some,_,RFin.okQ some [] ?_⟩
        constructor
        all_goals (try simp only [vle,xH,xe,qy,hcS,hoS,Option.getD_none,Option.isSome_none,Option.getD_some,Option.isSome_some,vkt,seval,zC,jA,qf,zq,eTr,eTk,qD,qo,qc,mTk,qm,ql,qw,buO,shT,shH,qR,jT,wX,s1L,dfE,rTr,List.length_map,nth,hwL,Nat.zero_add,Nat.sub_zero])
        all_goals first|rfl|(simp;done)|(simp [qo,AV.leL,AV.le];done)
      |some l =>
        have hll:=Xx hsh
        rw [hrl] at hll
        have hl2:1+l.length≤maxLen:=by omega
        rw [hsh,Option.map_some] at hfb
        have hba:(f ((qQ cs).getD j default)).isNone=false:=by rw [hb,hfb];rfl
        rw [hfb] at hoS
        repeat' (first|(apply nx;with_reducible constructor)|refine jq (by decide) ?_|refine zu ?_|refine zH ?_|refine zG ?_|refine zF ?_|((first|refine kz env fun Q hQ=>?_|refine kj fun Q hQ=>?_);simp only [vkt,seval,zC,jA,qf,zq,eTr,eTk,qD,qo,qc,mTk,qm,ql,qw,buO,shT,shH,qR,jT,wX,s1L,dfE,rTr,List.length_map,nth,hwL,Nat.zero_add,Nat.sub_zero,hne,hgT,i0,hkT,hset,hl1,hdr,h1m,hrl,hok,hsh,Option.getD_some,Option.isSome_some,hl2];(try simp only [ite_and]);(repeat' (first|with_reducible assumption|refine And.intro ?_ ?_|intro hp));all_goals (first|(refine hQ _ ?_;clear hQ Q)|(refine hQ _ (fun h=>?_) (fun h=>?_) <;> clear hQ Q <;> (try simp only [vki,reduceCtorEq] at h))|(refine kx ?_;kernel_rfl)|omega|assumption|with_reducible rfl|skip)))
        refine ⟨by simp only [hba];rfl,rfl,some,_,RFin.okQ some [13] ?_⟩
        constructor
        all_goals (try simp only [vle,xH,xe,qy,hcS,hoS,Option.getD_none,Option.isSome_none,Option.getD_some,Option.isSome_some,vkt,seval,zC,jA,qf,zq,eTr,eTk,qD,qo,qc,mTk,qm,ql,qw,buO,shT,shH,qR,jT,wX,s1L,dfE,rTr,List.length_map,nth,hwL,Nat.zero_add,Nat.sub_zero])
        all_goals first|rfl|(simp;done)|(simp [qo,AV.leL,AV.le];done)
  · have hoR:Jp cs s a r sold k R=none:=by
      by_cases hR0:R=0
      · unfold Jp;rw [if_pos hR0]
      · have h1:=hall (R - 1) (by omega)
        unfold Jp
        rw [if_neg hR0,hf]
        simpa using h1
    obtain ⟨T,hT⟩:∃ T,Jn cs sold k R=T:=⟨_,rfl⟩
    have hTs:=hcs R
    rw [hT] at hTs
    have hkT:k < T.length:=by rw [hTs.1];exact hnl
    have hput:Qe T k ⟨w.cab,w.bed⟩=sold:=by rw [hTs.2];exact hself
    have eh:qg ((10,AObj.mark) :: shH cs s a ts k w (Jn cs sold k R) (Jp cs s a r sold k R)++zl [9] (10+1) 0 [buO cs s])=qg [(10,.mark),(0,qm cs s 1),(1,ql T),(2,.cells [.ptr 0 0]),(3,.cells [.sl (ts.map zX)]),(4,.cells (qo a)),(5,.cells [.sl []]),(6,.cells [aB false]),(7,.cells [aI k]),(8,.cells [.v (.int .i64 w.cab),.v (.int .i64 w.bed)]),(9,buO cs s)]:=by
      rw [show zl [9] (10+1) 0 [buO cs s]=zl [9] 11 0 [buO cs s] from rfl,Vq,hT,hoR];rfl
    rw [eh,hoR]
    repeat' (first|(apply nx;with_reducible constructor)|refine jq (by decide) ?_|refine zu ?_|refine zH ?_|refine zG ?_|refine zF ?_|((first|refine kz env fun Q hQ=>?_|refine kj fun Q hQ=>?_);simp only [vkt,seval,zC,jA,qf,zq,eTr,eTk,qD,qo,qc,mTk,qm,ql,qw,buO,shT,shH,qR,jT,wX,s1L,dfE,rTr,List.length_map,nth,hwL,Nat.zero_add,Nat.sub_zero];(try simp only [ite_and]);(repeat' (first|with_reducible assumption|refine And.intro ?_ ?_|intro hp));all_goals (first|(refine hQ _ ?_;clear hQ Q)|(refine hQ _ (fun h=>?_) (fun h=>?_) <;> clear hQ Q <;> (try simp only [vki,reduceCtorEq] at h))|(refine kx ?_;kernel_rfl)|omega|assumption|with_reducible rfl|skip)))
    simp only [vrt,Try.results87,x8.eq_2,x8.eq_3,vkt,seval,zC,jA,qf,zq,eTr,eTk,qD,qo,qc,mTk,qm,ql,qw,buO,shT,shH,qR,jT,wX,s1L,dfE,rTr,List.length_map,nth,hwL,Nat.zero_add,Nat.sub_zero,i0,hput,hkT]
    refine Fin.ok some [] ?_ ?_ ?_ ?_ ?_ rfl
    all_goals (try simp only [vle,Option.getD_none,Option.isSome_none,Option.getD_some,Option.isSome_some,vkt,seval,zC,jA,qf,zq,eTr,eTk,qD,qo,qc,mTk,qm,ql,qw,buO,shT,shH,qR,jT,wX,s1L,dfE,rTr,List.length_map,nth,hwL,Nat.zero_add,Nat.sub_zero])
    all_goals first|rfl|(simp;done)|exact fun i hi=>(match i,hi with|0,_=>rfl|1,_=>rfl)
  · obtain ⟨l,hoR⟩:∃ l,Jp cs s a r sold k R=some l:=by
      unfold Jp
      rw [if_neg (by omega),hf]
      cases hq:f ((qQ cs).getD (R - 1) default) with
      |none=>rw [hq] at hlast;exact absurd hlast (by simp)
      |some l=>exact ⟨l,rfl⟩
    obtain ⟨T,hT⟩:∃ T,Jn cs sold k R=T:=⟨_,rfl⟩
    have hTs:=hcs R
    rw [hT] at hTs
    have hkT:k < T.length:=by rw [hTs.1];exact hnl
    have hput:Qe T k ⟨w.cab,w.bed⟩=sold:=by rw [hTs.2];exact hself
    have eh:qg ((10,AObj.mark) :: shH cs s a ts k w (Jn cs sold k R) (Jp cs s a r sold k R)++zl [9] (10+1) 0 [buO cs s])=qg [(10,.mark),(0,qm cs s 1),(1,ql T),(2,.cells [.ptr 0 0]),(3,.cells [.sl (ts.map zX)]),(4,.cells (qo a)),(5,.cells [.sl (l.map eTr)]),(6,.cells [aB true]),(7,.cells [aI k]),(8,.cells [.v (.int .i64 w.cab),.v (.int .i64 w.bed)]),(9,buO cs s)]:=by
      rw [show zl [9] (10+1) 0 [buO cs s]=zl [9] 11 0 [buO cs s] from rfl,Vq,hT,hoR];rfl
    rw [eh,hoR]
    repeat' (first|(apply nx;with_reducible constructor)|refine jq (by decide) ?_|refine zu ?_|refine zH ?_|refine zG ?_|refine zF ?_)
    simp only [vrt,Try.results87,x8.eq_2,x8.eq_3,vkt,seval,zC,jA,qf,zq,eTr,eTk,qD,qo,qc,mTk,qm,ql,qw,buO,shT,shH,qR,jT,wX,s1L,dfE,rTr,List.length_map,nth,hwL,Nat.zero_add,Nat.sub_zero,i0,hput,hkT]
    refine Fin.ok some [] ?_ ?_ ?_ ?_ ?_ rfl
    all_goals (try simp only [vle,Option.getD_none,Option.isSome_none,Option.getD_some,Option.isSome_some,vkt,seval,zC,jA,qf,zq,eTr,eTk,qD,qo,qc,mTk,qm,ql,qw,buO,shT,shH,qR,jT,wX,s1L,dfE,rTr,List.length_map,nth,hwL,Nat.zero_add,Nat.sub_zero])
    all_goals first|rfl|(simp;done)|exact fun i hi=>(match i,hi with|0,_=>rfl|1,_=>rfl)
theorem Kw (cs:List Cabin) (s:Int) (a:Ask):∀ m,Qf5 cs s a m
  |0=>Qa5 cs s a
  |m+1=>Qbm cs s a m (Kw cs s a m)
end Go.Sym.B
namespace Go.Sym.B
open Go Go.Sym Go.Proofs Go.Sym.C
def vV (cs:List Cabin) (s:Int) (a:Ask) (m:Nat) (S:St):List AV→Option Pk
  |[.ptr p 0,.row q,.agg aa]=>match S.h p,S.h q with
    |some (.cells [.sl cc,.v (.int .i64 s'),.row r]),some (.row _ _ ts)=>match S.h r with
      |some (.row _ _ xs)=>some { pre:=cc=cs.map qj∧s'=s∧aa=qo a∧ts=(ts.map zY).map zX∧xs=(xs.map dTk).map eTk∧(ts.map zY).length=m∧ShOk cs s a (xs.map dTk) (ts.map zY),hs:=[p,r],bo:=[q],ar:=[.ptr 0 0,.sl ts,.agg aa],L0:=qw cs s (xs.map dTk),v:=.tup [zq ((yO cs s a (ts.map zY) (xs.map dTk)).getD []),aB (yO cs s a (ts.map zY) (xs.map dTk)).isSome],L1:=(qw cs s (xs.map dTk)).map some }
      |_=>none
    |_,_=>none
  |_=>none
theorem QgV {A:Frm→Prop} {cs:List Cabin} {s:Int} {a:Ask} {m:Nat}:qB A Try.prog 87 (fnE (vV cs s a m)):=wE fun S bs q h hp=>by
  unfold vV at h
  split at h
  · split at h
    · split at h
      · cases h
        obtain ⟨_,_,h3,h4,_,h6,h7⟩:=hp
        have:=Kw cs s a m _ _ h6 h7
        rw [qA,← h4,qD,← h3] at this
        exact this
      · cases h
    · cases h
  · cases h
def mvW (c:Chart) (a:Ask) (l:List Int):Option (List Tr):=yO c.cabins c.secs a (Qu c l) c.sold
def mvL (c:Chart) (a:Ask) (out:List Tr):List AObj:=[qm c.cabins c.secs 1,ql c.sold,.cells [.ptr 0 0],.cells [.sl ((jS c.sold).map zX)],.cells (qo a),.cells [.sl (out.map eTr)]]
structure MvOk (c:Chart) (a:Ask) (l:List Int):Prop where
  val:Val c
  sx:a.sexes.length≤3
  len:l.length≤2
  mem:∀ i ∈ l,0≤i∧i.toNat < (jS c.sold).length
theorem Qf9 {sold:List Tk} {i:Int} (h:i ∈ jS sold):0≤i∧i.toNat < sold.length:=by
  unfold jS at h
  obtain ⟨j,hj,rfl⟩:=List.mem_map.1 h
  have:=(List.mem_filter.1 hj).1
  rw [List.mem_range] at this
  exact ⟨Int.natCast_nonneg _,this⟩
theorem Qgr (sold:List Tk):(jS sold).length≤sold.length:=QcF sold sold.length
theorem MvOk.sh {c:Chart} {a:Ask} {l:List Int} (h:MvOk c a l):ShOk c.cabins c.secs a c.sold (Qu c l):=by
  refine ⟨h.val.car.cabs,h.val.car.beds,h.val.many,h.sx,by have:=h.len;simp [Qu];omega,fun n hn=>?_⟩
  obtain ⟨i,hi,rfl⟩:=List.mem_map.1 hn
  exact Qf9 (vK (h.mem i hi).2)
theorem QbV {c:Chart} {a:Ask} {o:List Tr}:∀ i ob,qg (qO 0 (mvL c a o)) i=some ob→i < 6∧∀ id ∈ ob.ids,id < 6:=by
  intro i ob hi
  have h:=qV hi
  simp [qO,mvL] at h
  rcases h with ⟨rfl,rfl⟩|⟨rfl,rfl⟩|⟨rfl,rfl⟩|⟨rfl,rfl⟩|⟨rfl,rfl⟩|⟨rfl,rfl⟩ <;> simp [AObj.ids,AV.ids,AV.idsL,qm,ql,qo]
def mvS (c:Chart) (a:Ask) (o:List Tr) (l:List Int) (k:Nat):St:={ t:=asg [(1,.ptr 3 0),(2,.ptr 2 0),(3,.ptr 4 0),(4,.ptr 5 0),(6,aB false),(7,.row 6),(12,qA l),(13,aI l.length),(14,aI k)],h:=qg [(0,qm c.cabins c.secs 1),(1,ql c.sold),(2,.cells [.ptr 0 0]),(3,.cells [.sl ((jS c.sold).map zX)]),(4,.cells (qo a)),(5,.cells [.sl (o.map eTr)]),(6,.row 3 1 (((Qu c l).take k).map zX))],n:=7,m:=6 }
def yZ:=kk @ty3 (kk @Wl (kk @JE (kk @Qdf (kk @QdC (kk @Zu (kk @ti3.eq_1 (kk @Zk.eq_1 (kk @Wm.eq_1 (kk @Ub.eq_1 (kk @R8.eq_1 @Qv.eq_1))))))))))
def kZ:=kk @aI.eq_1 (kk @aB.eq_1 (kk @qA.eq_1 (kk @zX.eq_1 (kk @U3 (kk @QaE (@WS))))))
set_option maxHeartbeats 1000000 in
theorem QiY (c:Chart) (a:Ask) (o:List Tr) (l:List Int) (ok:MvOk c a l):Fn noB Try.prog 86 [qA l,.ptr 3 0,.ptr 2 0,.ptr 4 0,.ptr 5 0] (qg (qO 0 (mvL c a o))) (aB (mvW c a l).isSome) (qg (wH 0 ((mvL c a ((mvW c a l).getD o)).map some))) 0:=by
  have env:Env (fun _=>True) Try.prog tyB (tab [(87,fnE (vV c.cabins c.secs a l.length))]):=qP ⟨QgV,trivial⟩
  refine Fn.of (A:=fun _=>True) (n0:=6) (D:=noD) (Fn0 Try.func86 rfl (fun vs w=>by kernel_rfl) (by kernel_rfl)) (by simp) (by simp [AV.ids,AV.idsL,qA]) QbV (fun _ _ _ _=>trivial) qF ?_
  have hsh:=ok.sh
  have hlen:=ok.len
  have hmx:(100000:Nat)≤maxLen:=by decide
  have hsl:(Qu c l).length=l.length:=by simp [Qu]
  obtain ⟨W,hW⟩:∃ W,mvW c a l=W:=⟨_,rfl⟩
  rw [hW]
  unfold mvW at hW
  show Sym _ _ _ (zZ [qA l,.ptr 3 0,.ptr 2 0,.ptr 4 0,.ptr 5 0] 6 (qg [(0,qm c.cabins c.secs 1),(1,ql c.sold),(2,.cells [.ptr 0 0]),(3,.cells [.sl ((jS c.sold).map zX)]),(4,.cells (qo a)),(5,.cells [.sl (o.map eTr)])])) (xN tyB noD Try.f86 fun S rv=>Fin S rv _ 6 (qg [(0,qm c.cabins c.secs 1),(1,ql c.sold),(2,.cells [.ptr 0 0]),(3,.cells [.sl ((jS c.sold).map zX)]),(4,.cells (qo a)),(5,.cells [.sl ((W.getD o).map eTr)])]) 0)
  repeat' (first|(apply nx;with_reducible constructor)|refine jq (by decide) ?_|((first|refine kz env fun Q hQ=>?_|refine kj fun Q hQ=>?_);simp only [vkt,seval,yZ,kZ,zq,mTk,qm,ql,qw,mvL,mvS,qo,vV,List.length_map];(try simp only [ite_and]);(repeat' (first|with_reducible assumption|refine And.intro ?_ ?_|intro hp));all_goals (first|(refine hQ _ ?_;clear hQ Q)|(refine hQ _ (fun h=>?_) (fun h=>?_) <;> clear hQ Q <;> (try simp only [vki,reduceCtorEq] at h))|(refine kx ?_;kernel_rfl)|omega|assumption|with_reducible rfl|skip)))
  refine qX (fun k:{ k:Nat // k≤l.length }=>mvS c a o l k.1) (fun k=>l.length - k.1) ⟨0,Nat.zero_le _⟩ ?_ fun ⟨k,hk⟩=>?_
  · (refine Le.ok (fun i=>if i=6 then none else some i) [] ?_;constructor;all_goals (try simp only [vle,vkt,seval,yZ,kZ,zq,mTk,qm,ql,qw,mvL,mvS,qo,vV,List.length_map]))
    all_goals first|rfl|(simp;done)|(intro i hi;rw [if_neg (by omega)];done)
  simp only at hk ⊢
  by_cases hkl:k < l.length
  · have d1:decide ((k:Int) < (l.length:Int))=true:=decide_eq_true (by omega)
    have e9:IntKind.wrap .i64 ((k:Int)+1)=((k+1:Nat):Int):=by rw [wrap64 (by omega) (by omega)];rfl
    obtain ⟨x,hx⟩:∃ x,l.getD k 0=x:=⟨_,rfl⟩
    obtain ⟨hx0,hxl⟩:=ok.mem x (by rw [← hx];exact vK hkl)
    obtain ⟨i,rfl⟩:∃ i:Nat,x=i:=⟨x.toNat,by omega⟩
    have i0:((i:Int)).toNat=i:=rfl
    rw [i0] at hxl
    obtain ⟨y,hy⟩:∃ y,(jS c.sold).getD i 0=y:=⟨_,rfl⟩
    have hS:(Qu c l).take (k+1)=(Qu c l).take k++[y]:=by
      rw [List.take_succ_eq_append_getElem (by rw [hsl];exact hkl)]
      congr 2
      unfold Qu
      rw [List.getElem_map]
      rw [show l[k]=(i:Int) by rw [← hx];simp [List.getD_eq_getElem?_getD,hkl]]
      exact hy
    have hl1:((Qu c l).take k).length+1≤maxLen:=by rw [List.length_take];omega
    have hl2:((Qu c l).take k).length≤2:=by rw [List.length_take];omega
    repeat' (first|(apply nx;with_reducible constructor)|refine jq (by decide) ?_|((first|refine kz env fun Q hQ=>?_|refine kj fun Q hQ=>?_);simp only [vkt,seval,yZ,kZ,zq,mTk,qm,ql,qw,mvL,mvS,qo,vV,List.length_map,d1,e9,hx,hy,i0,hxl,hl1];(try simp only [ite_and]);(repeat' (first|with_reducible assumption|refine And.intro ?_ ?_|intro hp));all_goals (first|(refine hQ _ ?_;clear hQ Q)|(refine hQ _ (fun h=>?_) (fun h=>?_) <;> clear hQ Q <;> (try simp only [vki,reduceCtorEq] at h))|(refine kx ?_;kernel_rfl)|omega|assumption|with_reducible rfl|skip)))
    refine ⟨⟨k+1,hkl⟩,by show l.length - (k+1) < l.length - k;omega, ?_⟩
    show Le _ (mvS c a o l (k+1))
    unfold mvS
    rw [hS]
    (refine Le.ok (fun i=>if i=6 then some 8 else some i) [] ?_;constructor;all_goals (try simp only [vle,vkt,seval,yZ,kZ,zq,mTk,qm,ql,qw,mvL,mvS,qo,vV,List.length_map]))
    all_goals first|rfl|(rw [List.map_append];rfl)|(simp;done)|(intro i hi;rw [if_neg (by omega)];done)
  · have d1:decide ((k:Int) < (l.length:Int))=false:=decide_eq_false (by omega)
    obtain rfl:k=l.length:=by omega
    have htk:(Qu c l).take l.length=Qu c l:=List.take_of_length_le (by omega)
    cases W with
    |none =>
      repeat' (first|(apply nx;with_reducible constructor)|refine jq (by decide) ?_|((first|refine kz env fun Q hQ=>?_|refine kj fun Q hQ=>?_);simp only [vkt,seval,yZ,kZ,zq,mTk,qm,ql,qw,mvL,mvS,qo,vV,List.length_map,d1,htk,hsl,hsh,hW,Option.getD_none,Option.isSome_none];(try simp only [ite_and]);(repeat' (first|with_reducible assumption|refine And.intro ?_ ?_|intro hp));all_goals (first|(refine hQ _ ?_;clear hQ Q)|(refine hQ _ (fun h=>?_) (fun h=>?_) <;> clear hQ Q <;> (try simp only [vki,reduceCtorEq] at h))|(refine kx ?_;kernel_rfl)|omega|assumption|with_reducible rfl|skip)))
      · exact ⟨_,_,rfl⟩
      (simp only [vrt,Try.results86,vkt,seval,yZ,kZ,zq,mTk,qm,ql,qw,mvL,mvS,qo,vV,List.length_map];refine Fin.ok some [] ?_ ?_ ?_ ?_ ?_ rfl;all_goals (try simp only [vle,vkt,seval,yZ,kZ,zq,mTk,qm,ql,qw,mvL,mvS,qo,vV,List.length_map]))
      all_goals first|rfl|(simp;done)|exact fun i hi=>(match i,hi with|0,_=>rfl|1,_=>rfl)
    |some t =>
      repeat' (first|(apply nx;with_reducible constructor)|refine jq (by decide) ?_|((first|refine kz env fun Q hQ=>?_|refine kj fun Q hQ=>?_);simp only [vkt,seval,yZ,kZ,zq,mTk,qm,ql,qw,mvL,mvS,qo,vV,List.length_map,d1,htk,hsl,hsh,hW,Option.getD_some,Option.isSome_some];(try simp only [ite_and]);(repeat' (first|with_reducible assumption|refine And.intro ?_ ?_|intro hp));all_goals (first|(refine hQ _ ?_;clear hQ Q)|(refine hQ _ (fun h=>?_) (fun h=>?_) <;> clear hQ Q <;> (try simp only [vki,reduceCtorEq] at h))|(refine kx ?_;kernel_rfl)|omega|assumption|with_reducible rfl|skip)))
      · exact ⟨_,_,rfl⟩
      (simp only [vrt,Try.results86,vkt,seval,yZ,kZ,zq,mTk,qm,ql,qw,mvL,mvS,qo,vV,List.length_map];refine Fin.ok some [] ?_ ?_ ?_ ?_ ?_ rfl;all_goals (try simp only [vle,vkt,seval,yZ,kZ,zq,mTk,qm,ql,qw,mvL,mvS,qo,vV,List.length_map]))
      all_goals first|rfl|(simp;done)|exact fun i hi=>(match i,hi with|0,_=>rfl|1,_=>rfl)
end Go.Sym.B
namespace Go.Sym.B
open Go Go.Sym Go.Proofs Go.Sym.C
def yg:=kk @ty3 (kk @Wl (kk @ti3.eq_1 @Zk.eq_1))
end Go.Sym.B
