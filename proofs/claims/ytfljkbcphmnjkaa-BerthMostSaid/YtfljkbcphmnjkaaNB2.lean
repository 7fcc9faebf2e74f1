/- Walks and what they compute, joined: part 2. -/
import Derived.Test.YtfljkbcphmnjkaaNS3
import Derived.Test.YtfljkbcphmnjkaaProg
import Derived.KernelRfl
import Derived.Test.YtfljkbcphmnjkaaNB1
set_option linter.all false
namespace Go.Sym.B
open Go Go.Sym Go.Proofs Go.Sym.C
theorem Qer (cs:List Cabin) (s:Int) (a:Ask):V3 cs s a 0:=by
  intro sold begun ys hl ans R ok
  obtain ⟨A0,hA0⟩:∃ A0:Frm→Prop,A0=Acb Try.prog (qg (qI 0 [qf cs s 1])) (qg (qI 0 (qm cs s sold))) ys (fun j=>nth (hl j)) ans R:=⟨_,rfl⟩
  have hA:∀ F,A0 F→Acb Try.prog (qg (qI 0 [qf cs s 1])) (qg (qI 0 (qm cs s sold))) ys (fun j=>nth (hl j)) ans R F:=fun F h=>hA0 ▸ h
  have env:Env A0 Try.prog tyB (Go.Sym.tabC (cbX [0,1] ys hl ans R) []):=⟨X3,U2 (fun S bs h hS ops o g args tys caps hw ho hg hb=>YV hA (QdI (l:=sold)) (by simp) h hS hw ho hg hb) trivial,by kernel_rfl⟩
  refine Fn.of (A:=A0) (n0:=2) (D:=noD) (Fn0 Try.func115 rfl (fun vs w=>by kernel_rfl) (by kernel_rfl)) (by simp) (by simp [AV.ids,AV.idsL,qw,qj,qc]) vE (fun F hb h0 _=>hA0 ▸ ⟨h0,QeM,hb⟩) qH ?_
  have hr:=ok.rounds
  have hy:=ok.ys 0 (by simp [ww])
  have hh:=ok.hl 0 (by simp [ww])
  have hsz:=ok.sz
  simp only [ww,List.length_cons,List.length_nil,List.getD_cons_zero] at hr hy hh
  have hR:R=1:=by
    have h1:=hr.le
    have h2:=hr.lt (k:=0) (by omega) (fun j hj=>by omega)
    omega
  subst hR
  rw [qc] at hy
  rw [show Qz ans 1=ans 0 by simp [Qz]]
  have d1:decide ((begun.length:Int)=(a.sexes.length:Int))=true:=decide_eq_true (by omega)
  show Sym _ _ _ (zq [.ptr 0 0,qw a,qc begun,.cb] 2 (qg [(0,qf cs s 1),(1,qh sold)])) (yB tyB noD Try.f115 fun S rv=>Fin S rv _ 2 (qg [(0,qf cs s 1),(1,qh sold)]) 1)
  repeat' (first|(apply nx;with_reducible constructor)|refine jq (by decide) ?_|((first|refine kz env fun Q hQ=>?_|refine kj fun Q hQ=>?_);simp only [vkt,seval,zH,Qbl,qw,qj,qc,ze,mTk,qd,qf,qh,qm,List.length_map,Go.Sym.tabC,cbX,zS,qR,nth,hwL,Nat.zero_add,Nat.sub_zero,hy,hh,d1];(try simp only [ite_and]);(repeat' (first|with_reducible assumption|refine And.intro ?_ ?_|intro hp));all_goals (first|(refine hQ _ ?_;clear hQ Q)|(refine hQ _ (fun h=>?_) (fun h=>?_) <;> clear hQ Q <;> (try simp only [vki,reduceCtorEq] at h))|(refine kx ?_;kernel_rfl)|omega|assumption|with_reducible rfl|skip)))
  (simp only [vrt,Try.results115,vkt,seval,zH,Qbl,qw,qj,qc,ze,mTk,qd,qf,qh,qm,List.length_map,Go.Sym.tabC,cbX,zS,qR,nth,hwL,Nat.zero_add,Nat.sub_zero];refine Fin.ok some [] ?_ ?_ ?_ ?_ ?_ rfl;all_goals (try simp only [vle,vkt,seval,zH,Qbl,qw,qj,qc,ze,mTk,qd,qf,qh,qm,List.length_map,Go.Sym.tabC,cbX,zS,qR,nth,hwL,Nat.zero_add,Nat.sub_zero]))
  all_goals first|rfl|(simp;done)|exact fun i hi=>(match i,hi with|0,_=>rfl|1,_=>rfl)
def gbL (cs:List Cabin) (a:Ask) (m:Nat) (sold:List Tk) (begun:List Bunk) (b:Bunk):List (List Bunk × List Tk):=if goB cs a sold begun b then ww cs a m (sold++[kD a begun.length b]) (begun++[b]) else []
def gsL (cs:List Cabin) (a:Ask) (m:Nat) (sold:List Tk) (begun:List Bunk):List Nat:=(qV cs).map fun b=>(gbL cs a m sold begun b).length
theorem xR (cs:List Cabin) (a:Ask) (m:Nat) (sold:List Tk) (begun:List Bunk):ww cs a (m+1) sold begun=(qV cs).flatMap (gbL cs a m sold begun):=rfl
theorem KP (cs:List Cabin) (a:Ask) (m:Nat) (sold:List Tk) (begun:List Bunk):(ww cs a (m+1) sold begun).length=(gsL cs a m sold begun).sum:=by rw [xR,Qge];rfl
theorem Qe8 {cs:List Cabin} {a:Ask} {m:Nat} {sold:List Tk} {begun:List Bunk} {i k:Nat} (hi:i < (qV cs).length) (hk:k < (gbL cs a m sold begun ((qV cs).getD i default)).length) :
    (ww cs a (m+1) sold begun).getD (((gsL cs a m sold begun).take i).sum+k) default=(gbL cs a m sold begun ((qV cs).getD i default)).getD k default:=by
  have:=QbM (gbL cs a m sold begun) default default (qV cs) i k hi hk
  rw [xR,gsL,← List.map_take]
  exact this
theorem Qf7 {cs:List Cabin} {a:Ask} {m:Nat} {sold:List Tk} {begun:List Bunk} {i:Nat} (hi:i < (qV cs).length):(gsL cs a m sold begun).getD i 0=(gbL cs a m sold begun ((qV cs).getD i default)).length:=by
  simp [gsL,List.getD_eq_getElem?_getD,hi]
theorem Qc5 {cs:List Cabin} {i:Nat} (hi:i < (qV cs).length):0≤((qV cs).getD i default).cab∧((qV cs).getD i default).cab.toNat < cs.length:=by
  obtain ⟨x,y,h1,h2,h3⟩:=XC.1 (vL (d:=default) hi)
  rw [h3]
  exact ⟨Int.natCast_nonneg _,by simpa using h1⟩
theorem Qbj {cs:List Cabin} {s:Int} {a:Ask} {m:Nat} {sold:List Tk} {begun:List Bunk} {ys:Nat→List AV} {hl:Nat→List AObj} {ans:Nat→Bool} {R:Nat} (ok:GrowOk cs s a (m+1) sold begun ys hl ans R) {i o:Nat} {b:Bunk} (hi:i < (qV cs).length) (hb:(qV cs).getD i default=b)
    (ho:((gsL cs a m sold begun).take i).sum=o) (hg:goB cs a sold begun b=true) {D:Nat} (hr:Rounds (fun j=>ans (o+j)) D (ww cs a m (sold++[kD a begun.length b]) (begun++[b])).length) :
    GrowOk cs s a m (sold++[kD a begun.length b]) (begun++[b]) (fun j=>ys (o+j)) (fun j=>hl (o+j)) (fun j=>ans (o+j)) D:=by
  have hgb:gbL cs a m sold begun b=ww cs a m (sold++[kD a begun.length b]) (begun++[b]):=by unfold gbL;rw [if_pos hg]
  have hlen:∀ j,j < (ww cs a m (sold++[kD a begun.length b]) (begun++[b])).length→o+j < (ww cs a (m+1) sold begun).length:=fun j hj=>by
    rw [KP,← ho]
    have h1:=Ym (g:=gsL cs a m sold begun) (i:=i) (by simpa [gsL] using hi)
    have h2:=Qy (g:=gsL cs a m sold begun) (show i+1≤(gsL cs a m sold begun).length by simp [gsL];omega)
    rw [List.take_length] at h2
    rw [Qf7 hi,hb,hgb] at h1
    omega
  have hget:∀ j,j < (ww cs a m (sold++[kD a begun.length b]) (begun++[b])).length→(ww cs a (m+1) sold begun).getD (o+j) default=(ww cs a m (sold++[kD a begun.length b]) (begun++[b])).getD j default:=fun j hj=>by
    rw [← ho,Qe8 hi (by rw [hb,hgb];exact hj),hb,hgb]
  have h1:=ok.sz
  have h2:=ok.many
  refine ⟨by simp;omega,ok.sx,ok.cab,ok.c100,by simp;omega,fun x hx=>?_,hr,fun j hj=>?_,fun j hj=>?_⟩
  · rcases List.mem_append.1 hx with hx|hx
    · exact ok.mem x hx
    · rw [List.mem_singleton.1 hx,← hb];exact Qc5 hi
  · show ys (o+j)=_
    rw [ok.ys _ (hlen j hj),hget j hj]
  · show hl (o+j)=_
    rw [ok.hl _ (hlen j hj),hget j hj]
def gwL:List (Nat × AV):=[(4,.ptr 2 0),(5,.ptr 3 0),(6,.ptr 4 0),(7,.ptr 5 0),(8,.ptr 6 0),(25,.clo 123 [.ptr 7 0])]
def gwH (cs:List Cabin) (s:Int) (a:Ask) (sold:List Tk) (begun:List Bunk):List (Nat × AObj):=[(0,qf cs s 1),(1,qh sold),(2,.cells [.ptr 0 0]),(3,.cells (qj a)),(4,.cells [.sl (begun.map qp)]),(5,.cells [.cb]),(6,.cells [aB false])]
theorem QcE (cs:List Cabin) (s:Int):za [7] 9 0 [buO cs s]=[(7,buO cs s)]:=rfl
def yj:=kk @aI.eq_1 (kk @aB.eq_1 (kk @kW (kk @Y4 (@zC.eq_1))))
theorem QdN (cs:List Cabin) (s:Int) (a:Ask) (m:Nat) (ih:Qb8 cs s a m):V3 cs s a (m+1):=by
  intro sold begun ys hl ans R ok
  obtain ⟨A0,hA0⟩:∃ A0:Frm→Prop,A0=fun F=>F.r=none∧Acb Try.prog (qg (qI 0 [qf cs s 1])) (qg (qI 0 (qm cs s sold))) ys (fun j=>nth (hl j)) ans R F:=⟨_,rfl⟩
  have hr0:∀ F,A0 F→F.r=none:=fun F h=>by rw [hA0] at h;exact h.1
  have hA:∀ F,A0 F→Acb Try.prog (qg (qI 0 [qf cs s 1])) (qg (qI 0 (qm cs s sold))) ys (fun j=>nth (hl j)) ans R F:=fun F h=>by rw [hA0] at h;exact h.2
  have env:Env A0 Try.prog tyB (tab [(94,fnE zA)]):=qM ⟨QcF,trivial⟩
  refine Fn.of (A:=A0) (n0:=2) (D:=noD) (Fn0 Try.func115 rfl (fun vs w=>by kernel_rfl) (by kernel_rfl)) (by simp) (by simp [AV.ids,AV.idsL,qw,qj,qc]) vE (fun F hb h0 h1=>by rw [hA0];exact ⟨h1,h0,QeM,hb⟩) qH ?_
  have hr:=ok.rounds
  rw [KP] at hr
  have hsz:=ok.sz
  have hsx:=ok.sx
  have d0:decide ((begun.length:Int)=(a.sexes.length:Int))=false:=decide_eq_false (by omega)
  obtain ⟨RB,ansB,hRB,hN,hend,hres⟩:=nest _ hr
  rw [show (gsL cs a m sold begun).length=(qV cs).length by simp [gsL]] at hRB
  have hRl:=hRB.le
  rw [hres]
  show Sym _ _ _ (zq [.ptr 0 0,qw a,qc begun,.cb] 2 (qg [(0,qf cs s 1),(1,qh sold)])) (yB tyB noD Try.f115 fun S rv=>Fin S rv _ 2 (qg [(0,qf cs s 1),(1,qh sold)]) R)
  repeat' (first|(apply nx;with_reducible constructor)|refine jq (by decide) ?_|((first|refine kz env fun Q hQ=>?_|refine kj fun Q hQ=>?_);simp only [vkt,seval,zH,yj,aTk,cTk,qw,qj,ql,qc,qp,qW,ze,mTk,qd,qf,qh,qm,g1L,gwL,gwH,buO,zA,wL,vD,vo,vB,jM,List.length_map,fnI,zS,qR,nth,hwL,Nat.zero_add,Nat.sub_zero,d0];(try simp only [ite_and]);(repeat' (first|with_reducible assumption|refine And.intro ?_ ?_|intro hp));all_goals (first|(refine hQ _ ?_;clear hQ Q)|(refine hQ _ (fun h=>?_) (fun h=>?_) <;> clear hQ Q <;> (try simp only [vki,reduceCtorEq] at h))|(refine kx ?_;kernel_rfl)|omega|assumption|with_reducible rfl|skip)))
  refine xO (S':={ t:=asg gwL,h:=qg (gwH cs s a sold begun++[(7,buO cs s)]),n:=8,j:=0,d:=[],m:=2 }) ?_ ?_
  · show Le _ { t:=asg [(4,.ptr 2 0),(5,.ptr 3 0),(6,.ptr 4 0),(7,.ptr 5 0),(8,.ptr 6 0),(25,.clo 123 [.ptr 7 0])],h:=qg [(0,qf cs s 1),(1,qh sold),(2,.cells [.ptr 0 0]),(3,.cells (qj a)),(4,.cells [.sl (begun.map qp)]),(5,.cells [.cb]),(6,.cells [aB false]),(7,buO cs s)],n:=8,j:=0,d:=[],m:=2 }
    (refine Le.ok some [] ?_;constructor;all_goals (try simp only [vle,vkt,seval,zH,yj,aTk,cTk,qw,qj,ql,qc,qp,qW,ze,mTk,qd,qf,qh,qm,g1L,gwL,gwH,buO,zA,wL,vD,vo,vB,jM,List.length_map,fnI,zS,qR,nth,hwL,Nat.zero_add,Nat.sub_zero]))
    all_goals first|rfl|(simp;done)
  rw [← QcE cs s]
  have ej:(fun i=>min ((gsL cs a m sold begun).take i).sum R) 0=0:=by simp
  rw [show ({ t:=asg gwL,h:=qg (gwH cs s a sold begun++za [7] 9 0 [buO cs s]),n:=8,j:=0,d:=[],m:=2 }:St)={ t:=asg gwL,h:=qg ((fun _=>gwH cs s a sold begun) 0++za [7] (8+1) 0 [buO cs s]),n:=8,j:=(fun i=>min ((gsL cs a m sold begun).take i).sum R) 0,d:=[],m:=2 } by rw [ej]]
  refine vV hr0 1 (L:=gwL) (L':=gwL) (xs:=[]) (hs:=[7]) (n:=8) (nl:=0) (hc:=fun _=>gwH cs s a sold begun) (Lp:=[buO cs s]) (jj:=fun i=>min ((gsL cs a m sold begun).take i).sum R) (d:=[]) (ys:=buY cs) (hl:=fun _=>[buO cs s]) (ans:=ansB) (ex:=.ret) (caps:=[.ptr 7 0]) (caps0:=[.ptr 0 0]) (N:=(qV cs).length) (R:=RB) (A':=fun i=>Acb Try.prog (qg (qI 0 [qf cs s 1])) (qg ((8,.mark) :: gwH cs s a sold begun++[(7,buO cs s)])) (fun k=>ys (min ((gsL cs a m sold begun).take i).sum R+k)) (fun k=>nth (hl (min ((gsL cs a m sold begun).take i).sum R+k))) (fun k=>ans (min ((gsL cs a m sold begun).take i).sum R+k)) (R - min ((gsL cs a m sold begun).take i).sum R)) rfl (QaI cs s ok.cab) hRB (.inl rfl) ?_ ?_ ?_ rfl (by simp) ?_ (by simp) ?_ ?_ ?_ (fun _ _=>rfl) (fun x hx=>by cases hx) (fun j hj p _ h=>by cases h) ?_ (fun j hj=>?_) ?_ (fun j hj=>?_) (fun hall=>?_) (fun hpos hlast=>?_)
  · simp [AV.leL,AV.le]
  · simp [AV.nocbL,AV.nocb]
  · simp [WW,buO,AObj.nocb,AV.nocbL,AV.nocb,AObj.ids,AV.ids,AV.idsL,AObj.ren,AV.renL,AV.ren,AObj.le,AV.leL,AV.le,yu]
  · simp [gwH,qg]
  · intro F hF j hj F' hR
    refine KR (hA F hF) hR fun i o hi=>?_
    rw [jF] at hi
    cases i with
    |zero=>exact ⟨_,rfl⟩
    |succ i=>simp at hi
  · simp [gwH,qg]
  · exact fun _ _ _ _ h=>h
  · simp [YN,gwL,AV.ids,AV.idsL]
  · refine ⟨?_,rfl, ?_, ?_,rfl, ?_⟩
    · simp [QR,gwH,AObj.ids,AV.ids,AV.idsL,qf,qh,qj,aB]
    · simp [WA,buO,AObj.nocb,AV.nocbL,AV.nocb,AObj.ids,AV.ids,AV.idsL]
    · simp [VG,buY,ql,AV.nocb,AV.nocbL,AV.ids,AV.idsL]
    · simp [QG,WS,za,qy,gwH,gwL,kG,AV.ids,AV.idsL,ADf.ids,List.range_succ]
  · simp [QR,gwH,AObj.ids,AV.ids,AV.idsL,qf,qh,qj,aB]
  · have hjl:j < (qV cs).length:=by omega
    obtain ⟨n1,n2,n3,n4⟩:=hN j hj
    obtain ⟨o,ho⟩:∃ o,((gsL cs a m sold begun).take j).sum=o:=⟨_,rfl⟩
    have eo:min o R=o:=by omega
    rw [Qf7 hjl,ho] at n2 n3 n4
    obtain ⟨b,hb⟩:∃ b,(qV cs).getD j default=b:=⟨_,rfl⟩
    rw [hb] at n2 n3 n4
    have hbi:=Qc5 hjl
    rw [hb] at hbi
    simp only [ho,eo]
    have hst:jA gwL [26] [7] 8 0 (buY cs j) (gwH cs s a sold begun) [buO cs s]={ t:=asg [(26,ql b),(4,.ptr 2 0),(5,.ptr 3 0),(6,.ptr 4 0),(7,.ptr 5 0),(8,.ptr 6 0),(25,.clo 123 [.ptr 7 0])],h:=qg [(8,.mark),(0,qf cs s 1),(1,qh sold),(2,.cells [.ptr 0 0]),(3,.cells (qj a)),(4,.cells [.sl (begun.map qp)]),(5,.cells [.cb]),(6,.cells [aB false]),(7,buO cs s)],n:=9,m:=9 }:=by
      simp only [jA,buY,hb,ql,List.map_cons,List.map_nil,AV.ren,AV.renL,List.zip_cons_cons,List.zip_nil_right,gwH,gwL,Zt,List.cons_append,List.nil_append,QcE]
      rfl
    show Sym _ _ _ (jA gwL [26] [7] 8 0 (buY cs j) (gwH cs s a sold begun) [buO cs s]) _
    rw [hst]
    obtain ⟨A1,hA1⟩:∃ A1:Frm→Prop,A1=Acb Try.prog (qg (qI 0 [qf cs s 1])) (qg ((8,.mark) :: gwH cs s a sold begun++[(7,buO cs s)])) (fun k=>ys (o+k)) (fun k=>nth (hl (o+k))) (fun k=>ans (o+k)) (R - o):=⟨_,rfl⟩
    rw [← hA1]
    have env:Env A1 Try.prog tyB (tab [(132,fnE wL),(133,zk true jM),(134,fnE vD),(95,fnE vo),(135,fnI [qf cs s 1] (R - o) (vB cs s a m (fun k=>ys (o+k)) (fun k=>hl (o+k)) (fun k=>ans (o+k)) (R - o)))]) :=
      qM ⟨Qh3,Qkb,eNear,eFits,eWith ih (h0:=qg ((8,.mark) :: gwH cs s a sold begun++[(7,buO cs s)])) fun F hF=>by rw [hA1] at hF;exact hF,trivial⟩
    have hcl:=ok.c100
    have hmany:=ok.many
    obtain ⟨sx,hsx1⟩:∃ x,a.sexes.getD begun.length 0=x:=⟨_,rfl⟩
    have hlt:begun.length < a.sexes.length:=by omega
    have hb1:begun.length≤100:=by omega
    have hb2:begun.length≤100000:=by omega
    have hm:(100:Nat)+1≤maxLen:=by decide
    have hb3:begun.length+1≤maxLen:=by omega
    repeat' (first|(apply nx;with_reducible constructor)|refine jq (by decide) ?_)
    (refine kz env fun Q hQ=>?_;simp only [vkt,seval,zH,yj,aTk,cTk,qw,qj,ql,qc,qp,qW,ze,mTk,qd,qf,qh,qm,g1L,gwL,gwH,buO,zA,wL,vD,vo,vB,jM,List.length_map,fnI,zS,qR,nth,hwL,Nat.zero_add,Nat.sub_zero];(try simp only [ite_and]);(repeat' (first|with_reducible assumption|refine And.intro ?_ ?_|intro hp));all_goals (first|(refine hQ _ ?_;clear hQ Q)|(refine kx ?_;kernel_rfl)|omega|assumption|with_reducible rfl|skip))
    repeat' (first|(apply nx;with_reducible constructor)|refine jq (by decide) ?_)
    (refine kz env fun Q hQ=>?_;simp only [vkt,seval,zH,yj,aTk,cTk,qw,qj,ql,qc,qp,qW,ze,mTk,qd,qf,qh,qm,g1L,gwL,gwH,buO,zA,wL,vD,vo,vB,jM,List.length_map,fnI,zS,qR,nth,hwL,Nat.zero_add,Nat.sub_zero,hsx1,hlt,hb1,hb2,hb3];(try simp only [ite_and]);(repeat' (first|with_reducible assumption|refine And.intro ?_ ?_|intro hp));all_goals (first|(refine hQ _ ?_;clear hQ Q)|(refine kx ?_;kernel_rfl)|omega|assumption|with_reducible rfl|skip))
    repeat' (first|(apply nx;with_reducible constructor)|refine jq (by decide) ?_)
    (refine kz env fun Q hQ=>?_;simp only [vkt,seval,zH,yj,aTk,cTk,qw,qj,ql,qc,qp,qW,ze,mTk,qd,qf,qh,qm,g1L,gwL,gwH,buO,zA,wL,vD,vo,vB,jM,List.length_map,fnI,zS,qR,nth,hwL,Nat.zero_add,Nat.sub_zero,hsx1,hlt,hb1,hb2,hb3];(try simp only [ite_and]);(repeat' (first|with_reducible assumption|refine And.intro ?_ ?_|intro hp));all_goals (first|(refine hQ _ ?_;clear hQ Q)|(refine kx ?_;kernel_rfl)|omega|assumption|with_reducible rfl|skip))
    repeat' (first|(apply nx;with_reducible constructor)|refine jq (by decide) ?_)
    have hma:List.map qp begun++[[DV.v (.int .i64 b.cab),DV.v (.int .i64 b.bed)]]=List.map qp (begun++[b]):=by simp [qp]
    refine xO (S':={ t:=asg [(4,.ptr 2 0),(5,.ptr 3 0),(6,.ptr 4 0),(7,.ptr 5 0),(8,.ptr 6 0),(9,.ptr 9 0),(10,.ptr 10 0),(11,.ptr 11 0)],h:=qg [(8,.mark),(0,qf cs s 1),(1,qh sold),(2,.cells [.ptr 0 0]),(3,.cells (qj a)),(4,.cells [.sl (begun.map qp)]),(5,.cells [.cb]),(6,.cells [aB false]),(7,buO cs s),(9,.cells [.v (.int .i64 b.cab),.v (.int .i64 b.bed)]),(10,.cells [.sl (List.map qp (begun++[b]))]),(11,.cells [.v (.int .i64 a.party),.v (.int .i64 sx),.v (.int .i64 b.cab),.v (.int .i64 b.bed),.v (.int .i64 a.frm),.v (.int .i64 a.to),.v (.bool a.dog)])],n:=12,j:=0,d:=[],m:=9 }) ?_ ?_
    · (refine Le.ok (fun i=>if i=10 then some 13 else if i=11 then some 14 else some i) [12] ?_;constructor;all_goals (try simp only [vle,vkt,seval,zH,yj,aTk,cTk,qw,qj,ql,qc,qp,qW,ze,mTk,qd,qf,qh,qm,g1L,gwL,gwH,buO,zA,wL,vD,vo,vB,jM,List.length_map,fnI,zS,qR,nth,hwL,Nat.zero_add,Nat.sub_zero]))
      all_goals first|rfl|(simp;done)|(rw [hma];exact ⟨_,_,rfl⟩)|(intro i hi;rw [if_neg (by omega),if_neg (by omega)];done)
    have et:(⟨a.party,sx,b.cab,b.bed,a.frm,a.to,a.dog⟩:Tk)=kD a begun.length b:=by rw [← hsx1];rfl
    have eb:(⟨b.cab,b.bed⟩:Bunk)=b:=rfl
    have hno:NearOk cs (begun++[b]):=⟨by simp,by simp;omega,hcl,fun x hx=>by
      rcases List.mem_append.1 hx with hx|hx
      · exact ok.mem x hx
      · rw [List.mem_singleton.1 hx];exact hbi⟩
    have hs100:sold.length≤100:=by omega
    have stop:goB cs a sold begun b=false→ansB j=true∧min ((gsL cs a m sold begun).take (j+1)).sum R=o:=fun h=>by
      have e0:gbL cs a m sold begun b=[]:=by unfold gbL;rw [h];rfl
      rw [e0] at n3 n4
      simp only [List.length_nil,Nat.zero_min] at n3 n4
      exact ⟨by rw [n3];simp [Qz],by rw [n4];rfl⟩
    cases c1:begun.contains b with
    |true =>
      obtain ⟨s1,s2⟩:=stop (by unfold goB;rw [c1];rfl)
      repeat' (first|(apply nx;with_reducible constructor)|refine jq (by decide) ?_|((first|refine kz env fun Q hQ=>?_|refine kj fun Q hQ=>?_);simp only [vkt,seval,zH,yj,aTk,cTk,qw,qj,ql,qc,qp,qW,ze,mTk,qd,qf,qh,qm,g1L,gwL,gwH,buO,zA,wL,vD,vo,vB,jM,List.length_map,fnI,zS,qR,nth,hwL,Nat.zero_add,Nat.sub_zero,hb1,c1,eb,et,hno,hs100];(try simp only [ite_and]);(repeat' (first|with_reducible assumption|refine And.intro ?_ ?_|intro hp));all_goals (first|(refine hQ _ ?_;clear hQ Q)|(refine hQ _ (fun h=>?_) (fun h=>?_) <;> clear hQ Q <;> (try simp only [vki,reduceCtorEq] at h))|(refine kx ?_;kernel_rfl)|omega|assumption|with_reducible rfl|skip)))
      refine ⟨by rw [s1];rfl,by show _=_+0;simp only [s2,ho,eo];rfl,some,_,RFin.okQ some [] ?_⟩
      constructor
      all_goals (try simp only [vle,xz,xw,qy,vkt,seval,zH,yj,aTk,cTk,qw,qj,ql,qc,qp,qW,ze,mTk,qd,qf,qh,qm,g1L,gwL,gwH,buO,zA,wL,vD,vo,vB,jM,List.length_map,fnI,zS,qR,nth,hwL,Nat.zero_add,Nat.sub_zero])
      all_goals first|rfl|(simp;done)
    |false =>
      cases c2:Zz cs (begun++[b]) with
      |false =>
        obtain ⟨s1,s2⟩:=stop (by unfold goB;rw [c1,c2];rfl)
        repeat' (first|(apply nx;with_reducible constructor)|refine jq (by decide) ?_|((first|refine kz env fun Q hQ=>?_|refine kj fun Q hQ=>?_);simp only [vkt,seval,zH,yj,aTk,cTk,qw,qj,ql,qc,qp,qW,ze,mTk,qd,qf,qh,qm,g1L,gwL,gwH,buO,zA,wL,vD,vo,vB,jM,List.length_map,fnI,zS,qR,nth,hwL,Nat.zero_add,Nat.sub_zero,hb1,c1,c2,eb,et,hno,hs100];(try simp only [ite_and]);(repeat' (first|with_reducible assumption|refine And.intro ?_ ?_|intro hp));all_goals (first|(refine hQ _ ?_;clear hQ Q)|(refine hQ _ (fun h=>?_) (fun h=>?_) <;> clear hQ Q <;> (try simp only [vki,reduceCtorEq] at h))|(refine kx ?_;kernel_rfl)|omega|assumption|with_reducible rfl|skip)))
        refine ⟨by rw [s1];rfl,by show _=_+0;simp only [s2,ho,eo];rfl,some,_,RFin.okQ some [] ?_⟩
        constructor
        all_goals (try simp only [vle,xz,xw,qy,vkt,seval,zH,yj,aTk,cTk,qw,qj,ql,qc,qp,qW,ze,mTk,qd,qf,qh,qm,g1L,gwL,gwH,buO,zA,wL,vD,vo,vB,jM,List.length_map,fnI,zS,qR,nth,hwL,Nat.zero_add,Nat.sub_zero])
        all_goals first|rfl|(simp;done)
      |true =>
        cases c3:decide (wo (kD a begun.length b) sold=0) with
        |false =>
          obtain ⟨s1,s2⟩:=stop (by unfold goB;rw [c1,c2,c3];rfl)
          repeat' (first|(apply nx;with_reducible constructor)|refine jq (by decide) ?_|((first|refine kz env fun Q hQ=>?_|refine kj fun Q hQ=>?_);simp only [vkt,seval,zH,yj,aTk,cTk,qw,qj,ql,qc,qp,qW,ze,mTk,qd,qf,qh,qm,g1L,gwL,gwH,buO,zA,wL,vD,vo,vB,jM,List.length_map,fnI,zS,qR,nth,hwL,Nat.zero_add,Nat.sub_zero,hb1,c1,c2,c3,eb,et,hno,hs100];(try simp only [ite_and]);(repeat' (first|with_reducible assumption|refine And.intro ?_ ?_|intro hp));all_goals (first|(refine hQ _ ?_;clear hQ Q)|(refine hQ _ (fun h=>?_) (fun h=>?_) <;> clear hQ Q <;> (try simp only [vki,reduceCtorEq] at h))|(refine kx ?_;kernel_rfl)|omega|assumption|with_reducible rfl|skip)))
          refine ⟨by rw [s1];rfl,by show _=_+0;simp only [s2,ho,eo];rfl,some,_,RFin.okQ some [] ?_⟩
          constructor
          all_goals (try simp only [vle,xz,xw,qy,vkt,seval,zH,yj,aTk,cTk,qw,qj,ql,qc,qp,qW,ze,mTk,qd,qf,qh,qm,g1L,gwL,gwH,buO,zA,wL,vD,vo,vB,jM,List.length_map,fnI,zS,qR,nth,hwL,Nat.zero_add,Nat.sub_zero])
          all_goals first|rfl|(simp;done)
        |true =>
          have hgo:goB cs a sold begun b=true:=by unfold goB;rw [c1,c2,c3];rfl
          have hgb:gbL cs a m sold begun b=ww cs a m (sold++[kD a begun.length b]) (begun++[b]):=by unfold gbL;rw [if_pos hgo]
          rw [hgb] at n2 n3 n4
          have hG:=Qbj ok hjl hb ho hgo n2
          obtain ⟨D,hD⟩:∃ D,min (ww cs a m (sold++[kD a begun.length b]) (begun++[b])).length (R - o)=D:=⟨_,rfl⟩
          rw [hD] at hG n3 n4
          have hDle:D≤R - o:=by omega
          cases hab:ansB j with
          |false =>
            rw [hab] at n3
            have n3:=n3.symm
            repeat' (first|(apply nx;with_reducible constructor)|refine jq (by decide) ?_|((first|refine kz env fun Q hQ=>?_|refine kj fun Q hQ=>?_);simp only [vkt,seval,zH,yj,aTk,cTk,qw,qj,ql,qc,qp,qW,ze,mTk,qd,qf,qh,qm,g1L,gwL,gwH,buO,zA,wL,vD,vo,vB,jM,List.length_map,fnI,zS,qR,nth,hwL,Nat.zero_add,Nat.sub_zero,hb1,c1,c2,c3,eb,et,hno,hs100,hD,hDle,hG,n3];(try simp only [ite_and]);(repeat' (first|with_reducible assumption|refine And.intro ?_ ?_|intro hp));all_goals (first|(refine hQ _ ?_;clear hQ Q)|(refine hQ _ (fun h=>?_) (fun h=>?_) <;> clear hQ Q <;> (try simp only [vki,reduceCtorEq] at h))|(refine kx ?_;kernel_rfl)|omega|assumption|with_reducible rfl|skip)))
            refine ⟨by rw [hab];rfl,by simp only [n4,ho,eo],some,_,RFin.okQ some [] ?_⟩
            constructor
            all_goals (try simp only [vle,xz,xw,qy,vkt,seval,zH,yj,aTk,cTk,qw,qj,ql,qc,qp,qW,ze,mTk,qd,qf,qh,qm,g1L,gwL,gwH,buO,zA,wL,vD,vo,vB,jM,List.length_map,fnI,zS,qR,nth,hwL,Nat.zero_add,Nat.sub_zero])
            all_goals first|rfl|(simp;done)
          |true =>
            rw [hab] at n3
            have n3:=n3.symm
            repeat' (first|(apply nx;with_reducible constructor)|refine jq (by decide) ?_|((first|refine kz env fun Q hQ=>?_|refine kj fun Q hQ=>?_);simp only [vkt,seval,zH,yj,aTk,cTk,qw,qj,ql,qc,qp,qW,ze,mTk,qd,qf,qh,qm,g1L,gwL,gwH,buO,zA,wL,vD,vo,vB,jM,List.length_map,fnI,zS,qR,nth,hwL,Nat.zero_add,Nat.sub_zero,hb1,c1,c2,c3,eb,et,hno,hs100,hD,hDle,hG,n3];(try simp only [ite_and]);(repeat' (first|with_reducible assumption|refine And.intro ?_ ?_|intro hp));all_goals (first|(refine hQ _ ?_;clear hQ Q)|(refine hQ _ (fun h=>?_) (fun h=>?_) <;> clear hQ Q <;> (try simp only [vki,reduceCtorEq] at h))|(refine kx ?_;kernel_rfl)|omega|assumption|with_reducible rfl|skip)))
            refine ⟨by rw [hab];rfl,by simp only [n4,ho,eo],some,_,RFin.okQ some [] ?_⟩
            constructor
            all_goals (try simp only [vle,xz,xw,qy,vkt,seval,zH,yj,aTk,cTk,qw,qj,ql,qc,qp,qW,ze,mTk,qd,qf,qh,qm,g1L,gwL,gwH,buO,zA,wL,vD,vo,vB,jM,List.length_map,fnI,zS,qR,nth,hwL,Nat.zero_add,Nat.sub_zero])
            all_goals first|rfl|(simp;done)
  · have hR:Qz ansB RB=true:=by
      by_cases h0:RB=0
      · simp [Qz,h0]
      · simp [Qz,hall (RB - 1) (by omega)]
    rw [hR,hend]
    have eh:qg ((8,AObj.mark) :: gwH cs s a sold begun++za [7] (8+1) 0 [buO cs s])=qg [(8,.mark),(0,qf cs s 1),(1,qh sold),(2,.cells [.ptr 0 0]),(3,.cells (qj a)),(4,.cells [.sl (begun.map qp)]),(5,.cells [.cb]),(6,.cells [aB false]),(7,buO cs s)]:=rfl
    rw [eh]
    repeat' (first|(apply nx;with_reducible constructor)|refine jq (by decide) ?_|((first|refine kz env fun Q hQ=>?_|refine kj fun Q hQ=>?_);simp only [vkt,seval,zH,yj,aTk,cTk,qw,qj,ql,qc,qp,qW,ze,mTk,qd,qf,qh,qm,g1L,gwL,gwH,buO,zA,wL,vD,vo,vB,jM,List.length_map,fnI,zS,qR,nth,hwL,Nat.zero_add,Nat.sub_zero];(try simp only [ite_and]);(repeat' (first|with_reducible assumption|refine And.intro ?_ ?_|intro hp));all_goals (first|(refine hQ _ ?_;clear hQ Q)|(refine hQ _ (fun h=>?_) (fun h=>?_) <;> clear hQ Q <;> (try simp only [vki,reduceCtorEq] at h))|(refine kx ?_;kernel_rfl)|omega|assumption|with_reducible rfl|skip)))
    (simp only [vrt,Try.results115,vkt,seval,zH,yj,aTk,cTk,qw,qj,ql,qc,qp,qW,ze,mTk,qd,qf,qh,qm,g1L,gwL,gwH,buO,zA,wL,vD,vo,vB,jM,List.length_map,fnI,zS,qR,nth,hwL,Nat.zero_add,Nat.sub_zero];refine Fin.ok some [] ?_ ?_ ?_ ?_ ?_ rfl;all_goals (try simp only [vle,vkt,seval,zH,yj,aTk,cTk,qw,qj,ql,qc,qp,qW,ze,mTk,qd,qf,qh,qm,g1L,gwL,gwH,buO,zA,wL,vD,vo,vB,jM,List.length_map,fnI,zS,qR,nth,hwL,Nat.zero_add,Nat.sub_zero]))
    all_goals first|rfl|(simp;done)|exact fun i hi=>(match i,hi with|0,_=>rfl|1,_=>rfl)
  · have hR:Qz ansB RB=false:=by
      simp [Qz,hlast,show ¬ RB=0 by omega]
    rw [hR,hend]
    have eh:qg ((8,AObj.mark) :: gwH cs s a sold begun++za [7] (8+1) 0 [buO cs s])=qg [(8,.mark),(0,qf cs s 1),(1,qh sold),(2,.cells [.ptr 0 0]),(3,.cells (qj a)),(4,.cells [.sl (begun.map qp)]),(5,.cells [.cb]),(6,.cells [aB false]),(7,buO cs s)]:=rfl
    rw [eh]
    repeat' (first|(apply nx;with_reducible constructor)|refine jq (by decide) ?_|((first|refine kz env fun Q hQ=>?_|refine kj fun Q hQ=>?_);simp only [vkt,seval,zH,yj,aTk,cTk,qw,qj,ql,qc,qp,qW,ze,mTk,qd,qf,qh,qm,g1L,gwL,gwH,buO,zA,wL,vD,vo,vB,jM,List.length_map,fnI,zS,qR,nth,hwL,Nat.zero_add,Nat.sub_zero];(try simp only [ite_and]);(repeat' (first|with_reducible assumption|refine And.intro ?_ ?_|intro hp));all_goals (first|(refine hQ _ ?_;clear hQ Q)|(refine hQ _ (fun h=>?_) (fun h=>?_) <;> clear hQ Q <;> (try simp only [vki,reduceCtorEq] at h))|(refine kx ?_;kernel_rfl)|omega|assumption|with_reducible rfl|skip)))
    (simp only [vrt,Try.results115,vkt,seval,zH,yj,aTk,cTk,qw,qj,ql,qc,qp,qW,ze,mTk,qd,qf,qh,qm,g1L,gwL,gwH,buO,zA,wL,vD,vo,vB,jM,List.length_map,fnI,zS,qR,nth,hwL,Nat.zero_add,Nat.sub_zero];refine Fin.ok some [] ?_ ?_ ?_ ?_ ?_ rfl;all_goals (try simp only [vle,vkt,seval,zH,yj,aTk,cTk,qw,qj,ql,qc,qp,qW,ze,mTk,qd,qf,qh,qm,g1L,gwL,gwH,buO,zA,wL,vD,vo,vB,jM,List.length_map,fnI,zS,qR,nth,hwL,Nat.zero_add,Nat.sub_zero]))
    all_goals first|rfl|(simp;done)|exact fun i hi=>(match i,hi with|0,_=>rfl|1,_=>rfl)
theorem Qaf (cs:List Cabin) (s:Int) (a:Ask):∀ m,V3 cs s a m
  |0=>Qer cs s a
  |m+1=>QdN cs s a m (Qi3 (Qgp (Qaf cs s a m)))
end Go.Sym.B
namespace Go.Sym.B
open Go Go.Sym Go.Proofs Go.Sym.C
theorem Qh9 (a:Ask):PCs (qj a):=⟨by simp [qj,AV.idsL,AV.ids],by simp [qj,AV.leL,AV.le],by simp [qj,AV.renL,AV.ren]⟩
def Y5:=kk @ty3 (kk @kX (kk @xy (kk @ti3.eq_1 (kk @xB.eq_1 @vW.eq_1))))
def Qb9:=kk @aI.eq_1 (@aB.eq_1)
theorem Qh2 (a:Ask):JR 128 (qj a) (fun x=>decide (x.party=a.party)):=fun x=>by
  have env:Env (fun _=>True) Try.prog tyB (tab []):=qM trivial
  refine Fn.of (A:=fun _=>True) (n0:=1) (D:=noD) (Fn0 Try.func128 rfl (fun vs w=>by kernel_rfl) (by kernel_rfl)) (by simp) (by simp [AV.ids,AV.idsL,aTk,cTk]) ?_ (fun _ _ _ _=>trivial) qH ?_
  · intro i o hi
    have h:=qL hi
    simp at h;obtain ⟨rfl,rfl⟩:=h;simp [qj,AObj.ids,AV.ids,AV.idsL]
  repeat' (first|(apply nx;with_reducible constructor)|refine jq (by decide) ?_|((first|refine kz env fun Q hQ=>?_|refine kj fun Q hQ=>?_);simp only [vkt,seval,Y5,Qb9,aTk,cTk,qj];(try simp only [ite_and]);(repeat' (first|with_reducible assumption|refine And.intro ?_ ?_|intro hp));all_goals (first|(refine hQ _ ?_;clear hQ Q)|(refine hQ _ (fun h=>?_) (fun h=>?_) <;> clear hQ Q <;> (try simp only [vki,reduceCtorEq] at h))|(refine kx ?_;kernel_rfl)|omega|assumption|with_reducible rfl|skip)))
  all_goals (simp only [vrt,Try.results128,vkt,seval,Y5,Qb9,aTk,cTk,qj];refine Fin.ok some [] ?_ ?_ ?_ ?_ ?_ rfl;all_goals (try simp only [vle,vkt,seval,Y5,Qb9,aTk,cTk,qj]))
  all_goals first|rfl|(simp;done)
def yA (a:Ask) (S:St):List AV→Option Pk
  |[.sl xs,.clo f [.ptr t 0]]=>match S.h t with
    |some (.cells cs')=>some { pre:=f=128∧cs'=qj a∧xs=(xs.map dTk).map eTk∧xs.length≤100,hs:=[t],ar:=[.sl xs,.clo 128 [.ptr 0 0]],L0:=[.cells (qj a)],v:=aB ((xs.map dTk).any fun x=>decide (x.party=a.party)),L1:=[some (.cells (qj a))] }
    |_=>none
  |_=>none
theorem Qky {A:Frm→Prop} {a:Ask}:qC A Try.prog 127 (fnE (yA a)):=zx fun S bs q h hp=>by
  unfold yA at h
  split at h
  · split at h
    · cases h
      obtain ⟨_,_,h1,h2⟩:=hp
      have:=R3 (Qh9 a) (Qh2 a) (List.map dTk _) (by rw [List.length_map];exact h2)
      rw [qx,← h1] at this
      exact this
    · cases h
  · cases h
def akS (c:Chart) (a:Ask) (k:Nat):St:={ t:=asg [(2,.ptr 0 0),(3,.ptr 1 0),(4,aI 0),(36,.sl (a.sexes.map zC)),(37,aI a.sexes.length),(38,aI k)],h:=qg [(0,.cells (qb c)),(1,.cells (qj a))],n:=2 }
def Kt (s:Int):Int:=if !inB s 1 2 then 8 else 0
def ja:=kk @ty3 (kk @Qf (kk @Zb (kk @vg (kk @kX (kk @JH (kk @xy (kk @ti3.eq_1 (kk @kC.eq_1 (kk @Qx.eq_1 (kk @yI.eq_1 (kk @xB.eq_1 (kk @Wq.eq_1 @vW.eq_1))))))))))))
def vM:=kk @aI.eq_1 (kk @aB.eq_1 (kk @zC.eq_1 (kk @Y4 (@kW))))
theorem Qkx (c:Chart) (a:Ask) (hc:c.sold.length≤100) (ha:a.sexes.length≤maxLen):FnV Try.prog 102 [qa c,qw a] (aI (xh c a)):=by
  have env:Env (fun _=>True) Try.prog tyB (tab [(91,zk true sin),(101,zk true qJ),(92,zk true xf),(127,fnE (yA a))]):=qM ⟨ein,XV,eway,Qky,trivial⟩
  refine Fn.of (A:=fun _=>True) (n0:=0) (D:=noD) (Fn0 Try.func102 rfl (fun vs w=>by kernel_rfl) (by kernel_rfl)) (by simp) (by simp [AV.ids,AV.idsL,qa,qb,qw,qj]) (fun i o h=>by cases h) (fun _ _ _ _=>trivial) qH ?_
  cases h1:inB a.party 1 99
  · rw [show xh c a=1 by simp [xh,h1]]
    repeat' (first|(apply nx;with_reducible constructor)|refine jq (by decide) ?_|((first|refine kz env fun Q hQ=>?_|refine kj fun Q hQ=>?_);simp only [vkt,seval,ja,vM,qa,qb,qw,qj,mTk,qd,akS,sin,qJ,xf,yA,List.length_map,h1];(try simp only [ite_and]);(repeat' (first|with_reducible assumption|refine And.intro ?_ ?_|intro hp));all_goals (first|(refine hQ _ ?_;clear hQ Q)|(refine hQ _ (fun h=>?_) (fun h=>?_) <;> clear hQ Q <;> (try simp only [vki,reduceCtorEq] at h))|(refine kx ?_;kernel_rfl)|omega|assumption|with_reducible rfl|skip)))
    (simp only [vrt,Try.results102,vkt,seval,ja,vM,qa,qb,qw,qj,mTk,qd,akS,sin,qJ,xf,yA,List.length_map];refine Fin.val rfl ?_;(try simp only [AV.le,AV.leL]))
    all_goals first|rfl|(simp;done)
  cases h2:c.sold.any (fun t=>decide (t.party=a.party))
  case true =>
    rw [show xh c a=4 by simp only [xh,h1,h2];rfl]
    repeat' (first|(apply nx;with_reducible constructor)|refine jq (by decide) ?_|((first|refine kz env fun Q hQ=>?_|refine kj fun Q hQ=>?_);simp only [vkt,seval,ja,vM,qa,qb,qw,qj,mTk,qd,akS,sin,qJ,xf,yA,List.length_map,h1,h2,hc];(try simp only [ite_and]);(repeat' (first|with_reducible assumption|refine And.intro ?_ ?_|intro hp));all_goals (first|(refine hQ _ ?_;clear hQ Q)|(refine hQ _ (fun h=>?_) (fun h=>?_) <;> clear hQ Q <;> (try simp only [vki,reduceCtorEq] at h))|(refine kx ?_;kernel_rfl)|omega|assumption|with_reducible rfl|skip)))
    (simp only [vrt,Try.results102,vkt,seval,ja,vM,qa,qb,qw,qj,mTk,qd,akS,sin,qJ,xf,yA,List.length_map];refine Fin.val rfl ?_;(try simp only [AV.le,AV.leL]))
    all_goals first|rfl|(simp;done)
  by_cases h3:WH c.secs a.frm a.to=0
  case neg =>
    rw [show xh c a=WH c.secs a.frm a.to by unfold xh;rw [h1,h2];simp [h3]]
    repeat' (first|(apply nx;with_reducible constructor)|refine jq (by decide) ?_|((first|refine kz env fun Q hQ=>?_|refine kj fun Q hQ=>?_);simp only [vkt,seval,ja,vM,qa,qb,qw,qj,mTk,qd,akS,sin,qJ,xf,yA,List.length_map,h1,h2,h3,hc];(try simp only [ite_and]);(repeat' (first|with_reducible assumption|refine And.intro ?_ ?_|intro hp));all_goals (first|(refine hQ _ ?_;clear hQ Q)|(refine hQ _ (fun h=>?_) (fun h=>?_) <;> clear hQ Q <;> (try simp only [vki,reduceCtorEq] at h))|(refine kx ?_;kernel_rfl)|omega|assumption|with_reducible rfl|skip)))
    (simp only [vrt,Try.results102,vkt,seval,ja,vM,qa,qb,qw,qj,mTk,qd,akS,sin,qJ,xf,yA,List.length_map];refine Fin.val rfl ?_;(try simp only [AV.le,AV.leL]))
    all_goals first|rfl|(simp;done)
  by_cases h4:zD a.sexes.length 1 3=0
  case neg =>
    rw [show xh c a=zD a.sexes.length 1 3 by unfold xh;rw [h1,h2,h3];simp [h4]]
    repeat' (first|(apply nx;with_reducible constructor)|refine jq (by decide) ?_|((first|refine kz env fun Q hQ=>?_|refine kj fun Q hQ=>?_);simp only [vkt,seval,ja,vM,qa,qb,qw,qj,mTk,qd,akS,sin,qJ,xf,yA,List.length_map,h1,h2,h3,h4,hc];(try simp only [ite_and]);(repeat' (first|with_reducible assumption|refine And.intro ?_ ?_|intro hp));all_goals (first|(refine hQ _ ?_;clear hQ Q)|(refine hQ _ (fun h=>?_) (fun h=>?_) <;> clear hQ Q <;> (try simp only [vki,reduceCtorEq] at h))|(refine kx ?_;kernel_rfl)|omega|assumption|with_reducible rfl|skip)))
    (simp only [vrt,Try.results102,vkt,seval,ja,vM,qa,qb,qw,qj,mTk,qd,akS,sin,qJ,xf,yA,List.length_map];refine Fin.val rfl ?_;(try simp only [AV.le,AV.leL]))
    all_goals first|rfl|(simp;done)
  have hl:a.sexes.length≤3:=by
    unfold zD at h4
    split at h4
    · exact absurd h4 (by decide)
    · split at h4
      · exact absurd h4 (by decide)
      · omega
  rw [show xh c a=yK (a.sexes.map Kt) by unfold xh;rw [h1,h2,h3,h4];rfl]
  repeat' (first|(apply nx;with_reducible constructor)|refine jq (by decide) ?_|((first|refine kz env fun Q hQ=>?_|refine kj fun Q hQ=>?_);simp only [vkt,seval,ja,vM,qa,qb,qw,qj,mTk,qd,akS,sin,qJ,xf,yA,List.length_map,h1,h2,h3,h4,hc];(try simp only [ite_and]);(repeat' (first|with_reducible assumption|refine And.intro ?_ ?_|intro hp));all_goals (first|(refine hQ _ ?_;clear hQ Q)|(refine hQ _ (fun h=>?_) (fun h=>?_) <;> clear hQ Q <;> (try simp only [vki,reduceCtorEq] at h))|(refine kx ?_;kernel_rfl)|omega|assumption|with_reducible rfl|skip)))
  refine qU (fun k:{ k:Nat // k≤a.sexes.length∧∀ j,j < k→(a.sexes.map Kt).getD j 0=0 }=>akS c a k.1) (fun k=>a.sexes.length - k.1) ⟨0,Nat.zero_le _,fun j h=>absurd h (Nat.not_lt_zero _)⟩ ?_ fun ⟨k,hk,hno⟩=>?_
  · (refine Le.ok some [] ?_;constructor;all_goals (try simp only [vle,vkt,seval,ja,vM,qa,qb,qw,qj,mTk,qd,akS,sin,qJ,xf,yA,List.length_map]))
    all_goals first|rfl|(simp;done)
  · repeat' (first|(apply nx;with_reducible constructor)|refine jq (by decide) ?_)
    (refine kz env fun Q hQ=>?_;simp only [vkt,seval,ja,vM,qa,qb,qw,qj,mTk,qd,akS,sin,qJ,xf,yA,List.length_map];(try simp only [ite_and]);(repeat' (first|with_reducible assumption|refine And.intro ?_ ?_|intro hp));all_goals (first|(refine hQ _ ?_;clear hQ Q)|(refine kx ?_;kernel_rfl)|omega|assumption|with_reducible rfl|skip))
    repeat' (first|(apply nx;with_reducible constructor)|refine jq (by decide) ?_)
    (refine yF (by simp only [vkt,seval,ja,vM,qa,qb,qw,qj,mTk,qd,akS,sin,qJ,xf,yA,List.length_map];rfl) (fun h=>?_) (fun h=>?_) <;> (try simp only [vki,reduceCtorEq] at h))
    · have hlt:k < a.sexes.length:=by omega
      have e9:IntKind.wrap .i64 ((k:Int)+1)=((k+1:Nat):Int):=by rw [wrap64 (by omega) (by omega)];rfl
      obtain ⟨x,hx⟩:∃ x,a.sexes.getD k 0=x:=⟨_,rfl⟩
      have hm:(a.sexes.map Kt).getD k 0=Kt x:=by rw [mapD hlt];exact congrArg Kt hx
      cases hb:inB x 1 2
      · have hE:Kt x=8:=by simp [Kt,hb]
        have hf:=Zq hno (by simpa using hlt) (by rw [hm,hE];decide)
        rw [hm,hE] at hf
        rw [hf]
        repeat' (first|(apply nx;with_reducible constructor)|refine jq (by decide) ?_|((first|refine kz env fun Q hQ=>?_|refine kj fun Q hQ=>?_);simp only [vkt,seval,ja,vM,qa,qb,qw,qj,mTk,qd,akS,sin,qJ,xf,yA,List.length_map,hx,hb,e9];(try simp only [ite_and]);(repeat' (first|with_reducible assumption|refine And.intro ?_ ?_|intro hp));all_goals (first|(refine hQ _ ?_;clear hQ Q)|(refine hQ _ (fun h=>?_) (fun h=>?_) <;> clear hQ Q <;> (try simp only [vki,reduceCtorEq] at h))|(refine kx ?_;kernel_rfl)|omega|assumption|with_reducible rfl|skip)))
        (simp only [vrt,Try.results102,vkt,seval,ja,vM,qa,qb,qw,qj,mTk,qd,akS,sin,qJ,xf,yA,List.length_map];refine Fin.val rfl ?_;(try simp only [AV.le,AV.leL]))
        all_goals first|rfl|(simp;done)
      · have hE:Kt x=0:=by simp [Kt,hb]
        repeat' (first|(apply nx;with_reducible constructor)|refine jq (by decide) ?_|((first|refine kz env fun Q hQ=>?_|refine kj fun Q hQ=>?_);simp only [vkt,seval,ja,vM,qa,qb,qw,qj,mTk,qd,akS,sin,qJ,xf,yA,List.length_map,hx,hb,e9];(try simp only [ite_and]);(repeat' (first|with_reducible assumption|refine And.intro ?_ ?_|intro hp));all_goals (first|(refine hQ _ ?_;clear hQ Q)|(refine hQ _ (fun h=>?_) (fun h=>?_) <;> clear hQ Q <;> (try simp only [vki,reduceCtorEq] at h))|(refine kx ?_;kernel_rfl)|omega|assumption|with_reducible rfl|skip)))
        refine ⟨⟨k+1,hlt,fun j hj=>?_⟩,by show a.sexes.length - (k+1) < a.sexes.length - k;omega, ?_⟩
        · rcases Nat.lt_or_eq_of_le (Nat.le_of_lt_succ hj) with h2|h2
          · exact hno j h2
          · rw [h2,hm,hE]
        · (refine Le.ok some [] ?_;constructor;all_goals (try simp only [vle,vkt,seval,ja,vM,qa,qb,qw,qj,mTk,qd,akS,sin,qJ,xf,yA,List.length_map]))
          all_goals first|rfl|(simp;done)
    · have hke:k=a.sexes.length:=by omega
      subst hke
      rw [vS (l:=a.sexes.map Kt) (by simpa using hno)]
      repeat' (first|(apply nx;with_reducible constructor)|refine jq (by decide) ?_|((first|refine kz env fun Q hQ=>?_|refine kj fun Q hQ=>?_);simp only [vkt,seval,ja,vM,qa,qb,qw,qj,mTk,qd,akS,sin,qJ,xf,yA,List.length_map];(try simp only [ite_and]);(repeat' (first|with_reducible assumption|refine And.intro ?_ ?_|intro hp));all_goals (first|(refine hQ _ ?_;clear hQ Q)|(refine hQ _ (fun h=>?_) (fun h=>?_) <;> clear hQ Q <;> (try simp only [vki,reduceCtorEq] at h))|(refine kx ?_;kernel_rfl)|omega|assumption|with_reducible rfl|skip)))
      (simp only [vrt,Try.results102,vkt,seval,ja,vM,qa,qb,qw,qj,mTk,qd,akS,sin,qJ,xf,yA,List.length_map];refine Fin.val rfl ?_;(try simp only [AV.le,AV.leL]))
      all_goals first|rfl|(simp;done)
def vR:List AV→Prop × AV
  |[.agg [.sl c0,.v (.int .i64 c1),.sl c2],.agg [.v (.int .i64 a0),.v (.int .i64 a1),.v (.int .i64 a2),.sl a3,.v (.bool a4)]]=>(c0=(c0.map qB).map qo∧c2=(c2.map dTk).map eTk∧a3=(a3.map zl).map zC∧c2.length≤100∧a3.length≤maxLen,aI (xh (⟨(c0.map qB),c1,(c2.map dTk)⟩:Chart) (⟨a0,a1,a2,(a3.map zl),a4⟩:Ask)))
  |_=>(False,.junk)
theorem eask {A:Frm→Prop}:qC A Try.prog 102 (zk true vR):=zn fun vs hv h=>by
  clear hv
  unfold vR at h ⊢
  split at h
  · rename_i c0 c1 c2 a0 a1 a2 a3 a4;obtain ⟨q0,q1,q2,k0,k1⟩:=h
    refine ⟨by first|trivial|(simp [AV.plain,AV.plainL,aI,aB,qA,qc,qx,ql,aTk,cTk];done)|(repeat' split) <;> simp [AV.plain,AV.plainL,aI,aB,qA,qc,qx,ql,aTk,cTk],fun _=>(by simp [AV.flat,AV.flatL,aI,aB]), ?_⟩
    have:=Qkx (⟨(c0.map qB),c1,(c2.map dTk)⟩:Chart) (⟨a0,a1,a2,(a3.map zl),a4⟩:Ask) (by simpa using k0) (by simpa using k1)
    simp only [qw,aB,zR,qa,aI,qA,qx,qj,qb,← q0,← q1,← q2] at this
    first|exact this|(simp only [qw,aB,zR,qa,aI,qA,qx,qj,qb,← q0,← q1,← q2];exact this)
  · exact h.elim
def yO:=kk @VJ (kk @VD (kk @Yc.eq_1 @Yb.eq_1))
theorem QdT (xs:List (List DV)) (h1:zI 2 xs) (h2:xs.length≤100000):Fn noB Try.prog 121 [.sl xs] noH (.row 0) (qg [(0,.row 51 2 xs)]) 0:=by
  have env:Env (fun _=>True) Try.prog tyB (tab []):=qM trivial
  obtain ⟨b1,b2,b3,b5,b4⟩:=b47 h2
  refine Fn.of (A:=fun _=>True) (n0:=0) (D:=noD) (Fn0 Try.func121 rfl (fun vs w=>by kernel_rfl) (by kernel_rfl)) (by simp) (by simp [AV.ids]) (fun i o h=>by cases h) (fun _ _ _ _=>trivial) qH ?_
  repeat' (first|(apply nx;with_reducible constructor)|refine jq (by decide) ?_)
  (refine kz env fun Q hQ=>?_;simp only [vkt,seval,yO,@true_and];(try simp only [ite_and]);(repeat' (first|with_reducible assumption|refine And.intro ?_ ?_|intro hp));all_goals (first|(refine hQ _ ?_;clear hQ Q)|(refine kx ?_;kernel_rfl)|omega|assumption|with_reducible rfl|skip))
  repeat' (first|(apply nx;with_reducible constructor)|refine jq (by decide) ?_)
  refine Zy (d1:=3) (d2:=4) (t:=25) (e:=51) (x:=.tmp 0) (xs:=xs) rfl rfl rfl rfl rfl rfl Try.underlying25 rfl fun b hb=>?_
  repeat' (first|(apply nx;with_reducible constructor)|refine jq (by decide) ?_)
  (refine yF (by simp only [vkt,seval,yO,@true_and];rfl) (fun h=>?_) (fun h=>?_) <;> (try simp only [vki,reduceCtorEq] at h))
  · have hx:=hb h
    subst hx
    repeat' (first|(apply nx;with_reducible constructor)|refine jq (by decide) ?_|((first|refine kz env fun Q hQ=>?_|refine kj fun Q hQ=>?_);simp only [vkt,seval,yO,@true_and];(try simp only [ite_and]);(repeat' (first|with_reducible assumption|refine And.intro ?_ ?_|intro hp));all_goals (first|(refine hQ _ ?_;clear hQ Q)|(refine hQ _ (fun h=>?_) (fun h=>?_) <;> clear hQ Q <;> (try simp only [vki,reduceCtorEq] at h))|(refine kx ?_;kernel_rfl)|omega|assumption|with_reducible rfl|skip)))
    (simp only [vrt,Try.results121,vkt,seval,yO,@true_and];refine Fin.ok (fun _=>none) [] ?_ ?_ ?_ ?_ ?_ rfl;all_goals (try simp only [vle,vkt,seval,yO,@true_and]))
    all_goals simp
  · repeat' (first|(apply nx;with_reducible constructor)|refine jq (by decide) ?_|((first|refine kz env fun Q hQ=>?_|refine kj fun Q hQ=>?_);simp only [vkt,seval,yO,@true_and];(try simp only [ite_and]);(repeat' (first|with_reducible assumption|refine And.intro ?_ ?_|intro hp));all_goals (first|(refine hQ _ ?_;clear hQ Q)|(refine hQ _ (fun h=>?_) (fun h=>?_) <;> clear hQ Q <;> (try simp only [vki,reduceCtorEq] at h))|(refine kx ?_;kernel_rfl)|omega|assumption|with_reducible rfl|skip)))
    (simp only [vrt,Try.results121,vkt,seval,yO,@true_and];refine Fin.ok some [] ?_ ?_ ?_ ?_ ?_ rfl;all_goals (try simp only [vle,vkt,seval,yO,@true_and]))
    all_goals simp
def JC (_:St):List AV→Option Pk
  |[.sl xs]=>some { pre:=zI 2 xs∧xs.length≤100000,ar:=[.sl xs],v:=.row 0,L1:=[some (.row 51 2 xs)] }
  |_=>none
theorem QiQ {A:Frm→Prop}:qC A Try.prog 121 (fnE JC):=zx fun S bs q h hp=>by
  unfold JC at h
  split at h
  · cases h;exact QdT _ hp.1 hp.2
  · cases h
def J6:=kk @VJ (kk @Zb (kk @vg (kk @VD (kk @xy (kk @JO (kk @Yc.eq_1 (kk @Qx.eq_1 (kk @yI.eq_1 (kk @Yb.eq_1 (kk @vW.eq_1 @ZL.eq_1))))))))))
def Qa8:=kk @aI.eq_1 (@aB.eq_1)
theorem Qfq (c:Chart) (h1:c.cabins.length≤100000) (h2:c.sold.length≤100000):Fn noB Try.prog 93 [qa c] noH (.ptr 0 0) (qg (zT 0 ((qm c.cabins c.secs c.sold).map some))) 0:=by
  have env:Env (fun _=>True) Try.prog tyB (tab [(122,fnE Qp),(121,fnE JC)]):=qM ⟨Qdu,QiQ,trivial⟩
  refine Fn.of (A:=fun _=>True) (n0:=0) (D:=noD) (Fn0 Try.func93 rfl (fun vs w=>by kernel_rfl) (by kernel_rfl)) (by simp) (by simp [AV.ids,AV.idsL,qa,qb]) (fun i o h=>by cases h) (fun _ _ _ _=>trivial) qH ?_
  show Sym _ _ _ (zq [qa c] 0 noH) (yB tyB noD Try.f93 fun S rv=>Fin S rv _ 0 (qg [(0,qf c.cabins c.secs 1),(1,qh c.sold)]) 0)
  repeat' (first|(apply nx;with_reducible constructor)|refine jq (by decide) ?_|((first|refine kz env fun Q hQ=>?_|refine kj fun Q hQ=>?_);simp only [vkt,seval,J6,Qa8,qa,qb,rTk,wD,qf,qh,qm,Qp,JC,List.length_map,h1,h2];(try simp only [ite_and]);(repeat' (first|with_reducible assumption|refine And.intro ?_ ?_|intro hp));all_goals (first|(refine hQ _ ?_;clear hQ Q)|(refine hQ _ (fun h=>?_) (fun h=>?_) <;> clear hQ Q <;> (try simp only [vki,reduceCtorEq] at h))|(refine kx ?_;kernel_rfl)|omega|assumption|with_reducible rfl|skip)))
  all_goals (simp only [vrt,Try.results93,vkt,seval,J6,Qa8,qa,qb,rTk,wD,qf,qh,qm,Qp,JC,List.length_map];refine Fin.ok (fun j=>[3,2][j]?) [1] ?_ ?_ ?_ ?_ ?_ rfl;all_goals (try simp only [vle,vkt,seval,J6,Qa8,qa,qb,rTk,wD,qf,qh,qm,Qp,JC,List.length_map]))
  all_goals first|rfl|(simp;done)
end Go.Sym.B
namespace Go.Sym.B
open Go Go.Sym Go.Proofs Go.Sym.C
def zZ (_:St):List AV→Option Pk
  |[.agg [.sl cs,.v (.int .i64 s),.sl ts]]=>some { pre:=cs=(cs.map qB).map qo∧ts=(ts.map dTk).map eTk∧cs.length≤100000∧ts.length≤100000,ar:=[.agg [.sl cs,.v (.int .i64 s),.sl ts]],v:=.ptr 0 0,L1:=(qm (cs.map qB) s (ts.map dTk)).map some }
  |_=>none
theorem Qcu {A:Frm→Prop}:qC A Try.prog 93 (fnE zZ):=zx fun S bs q h hp=>by
  unfold zZ at h
  split at h
  · rename_i cs s ts
    cases h
    obtain ⟨h1,h2,h3,h4⟩:=hp
    have:=Qfq ⟨cs.map qB,s,ts.map dTk⟩ (by simpa using h3) (by simpa using h4)
    simp only [qa,qb,← h1,← h2] at this
    exact this
  · cases h
theorem yS {c:Chart} {a:Ask} (h:wy c a=0):wB c=0∧xh c a=0:=by
  unfold wy at h
  split at h
  · rename_i h1;exact absurd h h1
  · rename_i h1;exact ⟨Decidable.not_not.1 h1,h⟩
def vZ:=kk @vg (kk @kX (kk @JH (kk @yI.eq_1 (kk @xB.eq_1 @Wq.eq_1))))
def Z5:=kk @aI.eq_1 (kk @aB.eq_1 (@kW))
theorem QgY (c:Chart) (a:Ask) (h:wy c a=0) (hc:c.cabins.length≤maxLen) (ha:a.sexes.length≤maxLen):Fn noB Try.prog 66 [qa c,qw a] noH (.tup [.ptr 0 0,aI 0]) (qg (zT 0 ((qm c.cabins c.secs c.sold).map some))) 0:=by
  have env:Env (fun _=>True) Try.prog tyB (tab [(44,zk true zh),(102,zk true vR),(93,fnE zZ)]):=qM ⟨Xt,eask,Qcu,trivial⟩
  refine Fn.of (A:=fun _=>True) (n0:=0) (D:=noD) (Fn0 Try.func66 rfl (fun vs w=>by kernel_rfl) (by kernel_rfl)) (by simp) (by simp [AV.ids,AV.idsL,qa,qb,qw,qj]) (fun i o h=>by cases h) (fun _ _ _ _=>trivial) qH ?_
  obtain ⟨h1,h2⟩:=yS h
  have hv:=Q7 h1
  have b1:=hv.car.cabs
  have b2:=hv.many
  have ec:(⟨c.cabins,c.secs,c.sold⟩:Chart)=c:=rfl
  have ea:(⟨a.party,a.frm,a.to,a.sexes,a.dog⟩:Ask)=a:=rfl
  have b3:c.sold.length≤100:=by omega
  have b4:c.sold.length≤100000:=by omega
  have b5:c.cabins.length≤100000:=by omega
  show Sym _ _ _ (zq [qa c,qw a] 0 noH) (yB tyB noD Try.f66 fun S rv=>Fin S rv _ 0 (qg [(0,qf c.cabins c.secs 1),(1,qh c.sold)]) 0)
  repeat' (first|(apply nx;with_reducible constructor)|refine jq (by decide) ?_|((first|refine kz env fun Q hQ=>?_|refine kj fun Q hQ=>?_);simp only [vkt,seval,vZ,Z5,qa,qb,qw,qj,mTk,qd,qf,qh,qm,zh,vR,zZ,List.length_map,ec,ea,h1,h2,b3,b4,b5];(try simp only [ite_and]);(repeat' (first|with_reducible assumption|refine And.intro ?_ ?_|intro hp));all_goals (first|(refine hQ _ ?_;clear hQ Q)|(refine hQ _ (fun h=>?_) (fun h=>?_) <;> clear hQ Q <;> (try simp only [vki,reduceCtorEq] at h))|(refine kx ?_;kernel_rfl)|omega|assumption|with_reducible rfl|skip)))
  (simp only [vrt,Try.results66,vkt,seval,vZ,Z5,qa,qb,qw,qj,mTk,qd,qf,qh,qm,zh,vR,zZ,List.length_map];refine Fin.ok (fun j=>[2,3][j]?) [] ?_ ?_ ?_ ?_ ?_ rfl;all_goals (try simp only [vle,vkt,seval,vZ,Z5,qa,qb,qw,qj,mTk,qd,qf,qh,qm,zh,vR,zZ,List.length_map]))
  all_goals first|rfl|(simp;done)
theorem QdF (c:Chart) (a:Ask) (h0:wy c a ≠ 0) (hc:c.cabins.length≤maxLen) (ha:a.sexes.length≤maxLen):Fn noB Try.prog 66 [qa c,qw a] noH (.tup [.v (.pointer none),aI (wy c a)]) noH 0:=by
  have env:Env (fun _=>True) Try.prog tyB (tab [(44,zk true zh),(102,zk true vR),(93,fnE zZ)]):=qM ⟨Xt,eask,Qcu,trivial⟩
  refine Fn.of (A:=fun _=>True) (n0:=0) (D:=noD) (Fn0 Try.func66 rfl (fun vs w=>by kernel_rfl) (by kernel_rfl)) (by simp) (by simp [AV.ids,AV.idsL,qa,qb,qw,qj]) (fun i o h=>by cases h) (fun _ _ _ _=>trivial) qH ?_
  have ec:(⟨c.cabins,c.secs,c.sold⟩:Chart)=c:=rfl
  have ea:(⟨a.party,a.frm,a.to,a.sexes,a.dog⟩:Ask)=a:=rfl
  by_cases h1:wB c=0
  · have hE:wy c a=xh c a:=by unfold wy;rw [if_neg (by rw [h1];simp)]
    rw [hE] at h0 ⊢
    have hv:=Q7 h1
    have b2:=hv.many
    have b3:c.sold.length≤100:=by omega
    repeat' (first|(apply nx;with_reducible constructor)|refine jq (by decide) ?_|((first|refine kz env fun Q hQ=>?_|refine kj fun Q hQ=>?_);simp only [vkt,seval,vZ,Z5,qa,qb,qw,qj,mTk,qd,qf,qh,qm,zh,vR,zZ,List.length_map,ec,ea,h1,h0,b3];(try simp only [ite_and]);(repeat' (first|with_reducible assumption|refine And.intro ?_ ?_|intro hp));all_goals (first|(refine hQ _ ?_;clear hQ Q)|(refine hQ _ (fun h=>?_) (fun h=>?_) <;> clear hQ Q <;> (try simp only [vki,reduceCtorEq] at h))|(refine kx ?_;kernel_rfl)|omega|assumption|with_reducible rfl|skip)))
    (simp only [vrt,Try.results66,vkt,seval,vZ,Z5,qa,qb,qw,qj,mTk,qd,qf,qh,qm,zh,vR,zZ,List.length_map];refine Fin.val rfl ?_;(try simp only [AV.le,AV.leL]))
    all_goals first|rfl|(simp;done)
  · have hE:wy c a=wB c:=by unfold wy;rw [if_pos h1]
    rw [hE]
    repeat' (first|(apply nx;with_reducible constructor)|refine jq (by decide) ?_|((first|refine kz env fun Q hQ=>?_|refine kj fun Q hQ=>?_);simp only [vkt,seval,vZ,Z5,qa,qb,qw,qj,mTk,qd,qf,qh,qm,zh,vR,zZ,List.length_map,ec,ea,h1];(try simp only [ite_and]);(repeat' (first|with_reducible assumption|refine And.intro ?_ ?_|intro hp));all_goals (first|(refine hQ _ ?_;clear hQ Q)|(refine hQ _ (fun h=>?_) (fun h=>?_) <;> clear hQ Q <;> (try simp only [vki,reduceCtorEq] at h))|(refine kx ?_;kernel_rfl)|omega|assumption|with_reducible rfl|skip)))
    (simp only [vrt,Try.results66,vkt,seval,vZ,Z5,qa,qb,qw,qj,mTk,qd,qf,qh,qm,zh,vR,zZ,List.length_map];refine Fin.val rfl ?_;(try simp only [AV.le,AV.leL]))
    all_goals first|rfl|(simp;done)
def zb (_:St):List AV→Option Pk
  |[.agg [.sl cs,.v (.int .i64 s),.sl ts],.agg [.v (.int .i64 p),.v (.int .i64 f),.v (.int .i64 t),.sl xs,.v (.bool d)]] =>
    if wy ⟨cs.map qB,s,ts.map dTk⟩ ⟨p,f,t,xs.map zl,d⟩=0 then
      some { pre:=cs=(cs.map qB).map qo∧ts=(ts.map dTk).map eTk∧xs=(xs.map zl).map zC∧cs.length≤maxLen∧xs.length≤maxLen,ar:=[.agg [.sl cs,.v (.int .i64 s),.sl ts],.agg [.v (.int .i64 p),.v (.int .i64 f),.v (.int .i64 t),.sl xs,.v (.bool d)]],v:=.tup [.ptr 0 0,aI 0],L1:=(qm (cs.map qB) s (ts.map dTk)).map some }
    else some { pre:=cs=(cs.map qB).map qo∧ts=(ts.map dTk).map eTk∧xs=(xs.map zl).map zC∧cs.length≤maxLen∧xs.length≤maxLen,ar:=[.agg [.sl cs,.v (.int .i64 s),.sl ts],.agg [.v (.int .i64 p),.v (.int .i64 f),.v (.int .i64 t),.sl xs,.v (.bool d)]],v:=.tup [.v (.pointer none),aI (wy ⟨cs.map qB,s,ts.map dTk⟩ ⟨p,f,t,xs.map zl,d⟩)] }
  |_=>none
theorem V6 {A:Frm→Prop}:qC A Try.prog 66 (fnE zb):=zx fun S bs q h hp=>by
  unfold zb at h
  split at h
  · rename_i cs s ts p f t xs d
    split at h
    · rename_i hE
      cases h
      obtain ⟨h1,h2,h3,h4,h5⟩:=hp
      have:=QgY ⟨cs.map qB,s,ts.map dTk⟩ ⟨p,f,t,xs.map zl,d⟩ hE (by simpa using h4) (by simpa using h5)
      simp only [qa,qb,qw,qj,← h1,← h2,← h3] at this
      exact this
    · rename_i hE
      cases h
      obtain ⟨h1,h2,h3,h4,h5⟩:=hp
      have:=QdF ⟨cs.map qB,s,ts.map dTk⟩ ⟨p,f,t,xs.map zl,d⟩ hE (by simpa using h4) (by simpa using h5)
      simp only [qa,qb,qw,qj,← h1,← h2,← h3] at this
      exact this
  · cases h
end Go.Sym.B
namespace Go.Sym.B
open Go Go.Sym Go.Proofs Go.Sym.C
theorem Qc7 {t x:Tk} (h:Y6 t x=false):vY t x=false∧ZT x t=true:=by
  have e1:decide (t.to≤x.frm)=!decide (x.frm < t.to):=by rw [← decide_not,decide_eq_decide];omega
  have e2:decide (x.to≤t.frm)=!decide (t.frm < x.to):=by rw [← decide_not,decide_eq_decide];omega
  have e3:decide (x.cab ≠ t.cab)=!decide (x.cab=t.cab):=by rw [← decide_not]
  unfold Y6 at h
  unfold vY ZT QE
  rw [e1,e2] at h
  rw [e3]
  generalize decide (x.cab=t.cab)=A at *
  generalize decide (x.frm < t.to)=B at *
  generalize decide (t.frm < x.to)=C at *
  generalize decide (x.bed=t.bed)=D at *
  generalize decide (x.party=t.party)=E at *
  generalize decide (x.sex=t.sex)=F at *
  generalize x.dog=G at *
  generalize t.dog=H at *
  clear e1 e2 e3
  revert A B C D E F G H
  decide
theorem QaV {l:List Tk} {t:Tk} (h:Wx l t=true):wo t l=0:=by
  have hb:∀ x ∈ l,Y6 t x=false:=by
    unfold Wx at h
    intro x hx
    have:l.any (Y6 t)=false:=by simpa using h
    have:=List.any_eq_false.1 this x hx
    simpa using this
  unfold wo
  rw [if_neg,if_neg]
  · rw [List.any_eq_true]
    rintro ⟨x,hx,h1⟩
    rw [(Qc7 (hb x hx)).2] at h1
    exact absurd h1 (by decide)
  · rw [List.any_eq_true]
    rintro ⟨x,hx,h1⟩
    rw [(Qc7 (hb x hx)).1] at h1
    exact absurd h1 (by decide)
theorem Qas {cs:List Cabin} {secs:Int} {t:Tk} {l:List Tk} (h1:1≤t.party∧t.party≤99) (h2:1≤t.sex∧t.sex≤2) (h3:0≤t.cab∧t.cab.toNat < cs.length) (h4:0≤t.bed∧t.bed < (cs.getD t.cab.toNat default).beds) (h5:0≤t.frm∧t.frm < t.to∧t.to≤secs) (h6:wo t l=0) :
    w9 ⟨cs,secs,[]⟩ t l=0:=by
  have b1:inB t.party 1 99=true:=yc.2 h1
  have b2:inB t.sex 1 2=true:=yc.2 h2
  have b3:QV cs t.cab t.bed=true:=by
    unfold QV
    rw [yc.2 (by omega),yc.2 (by omega)];rfl
  have b4:WH secs t.frm t.to=0:=by unfold WH;rw [if_neg (by omega)]
  unfold w9
  rw [b1,b2]
  simp only [b3,b4,h6,Bool.not_true,Bool.false_eq_true,if_false,ne_eq,not_true_eq_false]
theorem Qhv {cs:List Cabin} {secs p s1:Int} (hc:1≤cs.length∧cs.length≤3) (hb:∀ x ∈ cs,1≤x.beds∧x.beds≤3) (hs:1≤secs∧secs≤5):(xu cs secs p s1).1.party=p∧(1≤(xu cs secs p s1).1.sex∧(xu cs secs p s1).1.sex≤2)∧(0≤(xu cs secs p s1).1.cab∧(xu cs secs p s1).1.cab.toNat < cs.length) ∧
    (0≤(xu cs secs p s1).1.bed∧(xu cs secs p s1).1.bed < (cs.getD (xu cs secs p s1).1.cab.toNat default).beds)∧0≤(xu cs secs p s1).1.frm∧(xu cs secs p s1).1.frm < (xu cs secs p s1).1.to∧(xu cs secs p s1).1.to≤secs:=by
  have hn:=up2 s1 (m:=(cs.length:Int) - 1) (by omega) (by omega)
  have hnl:(upV s1 ((cs.length:Int) - 1)).toNat < cs.length:=by omega
  have hbb:=hb _ (vL (d:=default) hnl)
  obtain ⟨bb,hbv⟩:∃ q,(cs.getD (upV s1 ((cs.length:Int) - 1)).toNat default).beds=q:=⟨_,rfl⟩
  rw [hbv] at hbb
  have hbd:=up2 (upS (upS s1 ((cs.length:Int) - 1)) 1) (m:=bb - 1) (by omega) (by omega)
  have hf:=up2 (upS (upS (upS s1 ((cs.length:Int) - 1)) 1) (bb - 1)) (m:=secs - 1) (by omega) (by omega)
  have hsx:=QfI (upS s1 ((cs.length:Int) - 1))
  unfold sxV at hsx
  unfold xu
  simp only [hbv]
  obtain ⟨f,hfv⟩:∃ q,upV (upS (upS (upS s1 ((cs.length:Int) - 1)) 1) (bb - 1)) (secs - 1)=q:=⟨_,rfl⟩
  rw [hfv] at hf
  simp only [hfv]
  have ht:=up2 (upS (upS (upS (upS (upS s1 ((cs.length:Int) - 1)) 1) (bb - 1)) (secs - 1)) 7) (m:=secs - (f+1)) (by omega) (by omega)
  generalize upV (upS (upS (upS (upS (upS s1 ((cs.length:Int) - 1)) 1) (bb - 1)) (secs - 1)) 7) (secs - (f+1))=tt at ht ⊢
  generalize upV (upS (upS s1 ((cs.length:Int) - 1)) 1) (bb - 1)=bd at hbd ⊢
  refine ⟨trivial,hsx,⟨hn.1,hnl⟩,⟨hbd.1,by omega⟩,hf.1,by omega,by omega⟩
theorem QgH {cs:List Cabin} {secs x:Int} (hc:1≤cs.length∧cs.length≤3) (hb:∀ x ∈ cs,1≤x.beds∧x.beds≤3) (hs:1≤secs∧secs≤5):∀ k,k≤8 →
    (∀ i,i < (tkK cs secs x k).2.1.length→w9 ⟨cs,secs,[]⟩ ((tkK cs secs x k).2.1.getD i default) ((tkK cs secs x k).2.1.take i)=0)∧∀ t ∈ (tkK cs secs x k).2.1,t.party≤24
  |0,_=>by simp [tkK]
  |k+1,hk=>by
    obtain ⟨ih1,ih2⟩:=QgH (x:=x) hc hb hs k (by omega)
    obtain ⟨h1,h2,h3⟩:=Ud cs secs x k
    rw [tkK]
    simp only
    obtain ⟨⟨p,l,s⟩,hK⟩:∃ q,tkK cs secs x k=q:=⟨_,rfl⟩
    rw [hK] at ih1 ih2 h1 h2 h3 ⊢
    simp only at ih1 ih2 h1 h2 h3 ⊢
    have h4:=Qjj (s:=s) h1
    obtain ⟨⟨p1,s1⟩,hA⟩:∃ q,pA p s=q:=⟨_,rfl⟩
    rw [hA] at h4 ⊢
    simp only at h4 ⊢
    obtain ⟨g1,g2,g3,g4,g5⟩:=Qhv (p:=p1) (s1:=s1) hc hb hs
    obtain ⟨⟨T,s7⟩,hT⟩:∃ q,xu cs secs p1 s1=q:=⟨_,rfl⟩
    rw [hT] at g1 g2 g3 g4 g5 ⊢
    simp only at g1 g2 g3 g4 g5 ⊢
    split
    · rename_i hg
      refine ⟨fun i hi=>?_,fun t ht=>?_⟩
      · rw [List.length_append,List.length_singleton] at hi
        rcases Nat.lt_or_eq_of_le (Nat.le_of_lt_succ hi) with h|h
        · have:=ih1 i h
          rw [List.getD_eq_getElem?_getD,List.getElem?_append_left h,← List.getD_eq_getElem?_getD,List.take_append_of_le_length (by omega)]
          exact this
        · subst h
          rw [show (l++[T]).getD l.length default=T by simp [List.getD_eq_getElem?_getD],List.take_append_of_le_length (Nat.le_refl _),List.take_length]
          exact Qas (by omega) g2 g3 g4 g5 (QaV hg)
      · rcases List.mem_append.1 ht with ht|ht
        · exact ih2 t ht
        · rw [List.mem_singleton.1 ht];omega
    · exact ⟨ih1,ih2⟩
theorem co_ok {x a g s:Int} (ha:1≤a∧a≤3) (hg:1≤g∧g≤5) (hs:0≤s∧s≤8):wB (coC x a g s)=0∧(∀ t ∈ (coC x a g s).sold,t.party≤24)∧((coC x a g s).sold.length:Int)≤s∧((coC x a g s).cabins.length:Int)≤a∧(coC x a g s).secs≤g:=by
  have hsc:=up2 x (m:=g - 1) (by omega) (by omega)
  have hsb:1≤Q5 x g∧Q5 x g≤g:=by unfold Q5;omega
  have hnc:=up2 (Xa x g) (m:=a - 1) (by omega) (by omega)
  have hcab:((xC x g a).1.length:Int)≤a∧1≤(xC x g a).1.length∧∀ c ∈ (xC x g a).1,1≤c.beds∧c.beds≤3:=by
    unfold xC
    obtain ⟨h1,h2⟩:=UO (upS (Xa x g) (a - 1)) (1+upV (Xa x g) (a - 1)).toNat
    refine ⟨by rw [h1];omega,by rw [h1];omega,h2⟩
  obtain ⟨hc0,hc1,hc2⟩:=hcab
  have hnt:=up2 (xC x g a).2 (m:=s) (by omega) (by omega)
  have htk:(Qfe x g a s)=tkK (xC x g a).1 (Q5 x g) (upS (xC x g a).2 s) (upV (xC x g a).2 s).toNat:=rfl
  obtain ⟨k1,k2⟩:=QgH (x:=upS (xC x g a).2 s) (cs:=(xC x g a).1) (secs:=Q5 x g) (by omega) hc2 (by omega) (upV (xC x g a).2 s).toNat (by omega)
  obtain ⟨k3,k4,k5⟩:=Ud (xC x g a).1 (Q5 x g) (upS (xC x g a).2 s) (upV (xC x g a).2 s).toNat
  rw [← htk] at k1 k2 k5
  unfold coC
  simp only
  generalize xC x g a=C at *
  generalize Q5 x g=S at *
  generalize (Qfe x g a s).2.1=T at *
  refine ⟨?_,k2,by omega,hc0,hsb.2⟩
  have hcar:WG ⟨C.1,S,T⟩=0:=by
    unfold WG
    have b1:zD (C.1.length:Int) 1 3=0:=by unfold zD;rw [if_neg (by omega),if_neg (by omega)]
    have b2:yK (C.1.map Yw)=0:=vS fun j hj=>by
      rw [List.length_map] at hj
      rw [List.getD_eq_getElem?_getD,List.getElem?_map,List.getElem?_eq_getElem hj]
      have:=hc2 C.1[j] (List.getElem_mem hj)
      show Yw C.1[j]=0
      unfold Yw
      rw [yc.2 this];rfl
    have b3:inB S 1 5=true:=yc.2 (by omega)
    have b4:zD (T.length:Int) 0 8=0:=by unfold zD;rw [if_neg (by omega),if_neg (by omega)]
    simp only [b1,b2,b3,b4,ne_eq,not_true_eq_false,if_false,Bool.not_true,Bool.false_eq_true]
  unfold wB
  rw [hcar]
  rw [if_neg (by decide)]
  unfold Zf
  refine vS fun j hj=>?_
  rw [List.length_map,List.length_range] at hj
  rw [List.getD_eq_getElem?_getD,List.getElem?_map,List.getElem?_range hj]
  exact k1 j hj
theorem ao_ok {x:Int} {c:Chart} {n:Int} (hc:wB c=0) (hp:∀ t ∈ c.sold,t.party≤24) (hn:1≤n∧n≤3):wy c (aoA x c.secs n)=0∧((aoA x c.secs n).sexes.length:Int)≤n∧1≤(aoA x c.secs n).sexes.length:=by
  have hS:=(Q7 hc).car.secs
  have hpt:=up2 x (m:=39) (by omega) (by omega)
  have hf:=up2 (upS x 39) (m:=c.secs - 1) (by omega) (by omega)
  have hf':upV (upS x 39) (c.secs - 1)=aoF x c.secs:=rfl
  rw [hf'] at hf
  have ht:=up2 (Qd2 x c.secs) (m:=c.secs - (aoF x c.secs+1)) (by omega) (by omega)
  have ht':aoF x c.secs+1+upV (Qd2 x c.secs) (c.secs - (aoF x c.secs+1))=aoT x c.secs:=rfl
  have hnp:=up2 (Yv x c.secs) (m:=n - 1) (by omega) (by omega)
  have hs:((aoS x c.secs n).1.length:Int)≤n∧1≤(aoS x c.secs n).1.length∧∀ c' ∈ (aoS x c.secs n).1,1≤c'∧c'≤2:=by
    unfold aoS
    obtain ⟨h1,h2⟩:=RI (upS (Yv x c.secs) (n - 1)) (1+upV (Yv x c.secs) (n - 1)).toNat
    exact ⟨by rw [h1];omega,by rw [h1];omega,h2⟩
  unfold aoA
  simp only
  refine ⟨?_,hs.1,hs.2.1⟩
  unfold wy
  rw [hc,if_neg (by decide)]
  unfold xh
  simp only
  have b1:inB (60+upV x 39) 1 99=true:=yc.2 (by omega)
  have b2:c.sold.any (fun t=>decide (t.party=60+upV x 39))=false:=List.any_eq_false.2 fun t htm=>by
    have:=hp t htm
    simp only [decide_eq_true_eq];omega
  have b3:WH c.secs (aoF x c.secs) (aoT x c.secs)=0:=by unfold WH;rw [if_neg (by omega)]
  have b4:zD ((aoS x c.secs n).1.length:Int) 1 3=0:=by unfold zD;rw [if_neg (by omega),if_neg (by omega)]
  rw [b1,b2]
  simp only [b3,b4,ne_eq,not_true_eq_false,if_false,Bool.not_true,Bool.false_eq_true]
  refine vS fun j hj=>?_
  rw [List.length_map] at hj
  rw [List.getD_eq_getElem?_getD,List.getElem?_map,List.getElem?_eq_getElem hj]
  have:=hs.2.2 _ (List.getElem_mem hj)
  show (if (!inB (aoS x c.secs n).1[j] 1 2)=true then (8:Int) else 0)=0
  rw [yc.2 this];rfl
end Go.Sym.B
namespace Go.Sym.B
open Go Go.Sym Go.Proofs Go.Sym.C
theorem ZO (L:List AObj):nth L=qg (qI 0 L):=by
  funext i
  rw [jF]
  simp [nth]
def plL (c:Chart) (a:Ask):List AObj:=[qf c.cabins c.secs 1,qh c.sold,.cells [.ptr 0 0],.cells (qj a)]
def plP (c:Chart) (a:Ask):List (List Bunk × List Tk):=ww c.cabins a a.sexes.length c.sold []
def plY (c:Chart) (a:Ask) (j:Nat):List AV:=[qc ((plP c a).getD j default).1]
def plH (c:Chart) (a:Ask) (j:Nat):List AObj:=qm c.cabins c.secs ((plP c a).getD j default).2
structure PlOk (c:Chart) (a:Ask):Prop where
  val:Val c
  sx:a.sexes.length≤3
theorem pl_ok {c:Chart} {a:Ask} (h:PlOk c a) {ans:Nat→Bool} {R:Nat} (hr:Rounds ans R (plP c a).length):GrowOk c.cabins c.secs a a.sexes.length c.sold [] (plY c a) (plH c a) ans R:=by
  have h1:=h.val.car.cabs
  have h2:=h.val.many
  have h3:=h.sx
  exact ⟨by simp,by omega,⟨by omega,fun x hx=>by have:=h.val.car.beds x hx;omega⟩,by omega,by omega,(by simp),hr,fun _ _=>rfl,fun _ _=>rfl⟩
def Qk (c:Chart) (a:Ask) (ys:Nat→List AV) (hl:Nat→List AObj) (ans:Nat→Bool) (R:Nat) (S:St):List AV→Option PkI
  |[.ptr p 0,.agg aa,.nil,.cb]=>match S.h p with
    |some (.cells [.sl cc,.v (.int .i64 s'),.row r])=>match S.h r with
      |some (.row _ _ xs)=>some { q:={ pre:=cc=c.cabins.map qo∧s'=c.secs∧aa=qj a∧xs=c.sold.map eTk∧S.j=0∧GrowOk c.cabins c.secs a a.sexes.length c.sold [] ys hl ans R,hs:=[p,r],ar:=[.ptr 0 0,qw a,qc [],.cb],L0:=qm c.cabins c.secs c.sold,v:=aB (Qz ans R),L1:=(qm c.cabins c.secs c.sold).map some },dj:=R }
      |_=>none
    |_=>none
  |_=>none
theorem QfP {A:Frm→Prop} {c:Chart} {a:Ask} {ys:Nat→List AV} {hl:Nat→List AObj} {ans:Nat→Bool} {R:Nat} {h0:Nat→Option AObj} (hA:∀ F,A F→Acb Try.prog (qg (qI 0 [qf c.cabins c.secs 1])) h0 ys (fun j=>nth (hl j)) ans R F) :
    qC A Try.prog 115 (fnI [qf c.cabins c.secs 1] R (Qk c a ys hl ans R)):=UA hA fun S bs q h hp=>by
  unfold Qk at h
  split at h
  · split at h
    · split at h
      · cases h
        obtain ⟨_,_,_,_,h4,h6⟩:=hp
        have:=Qaf _ _ _ _ _ _ _ _ _ _ h6
        simp only [h4,Nat.zero_add]
        exact this
      · cases h
    · cases h
  · cases h
theorem VU {c:Chart} {a:Ask}:∀ i o,qg (qI 0 (plL c a)) i=some o→i < 4∧∀ id ∈ o.ids,id < 4:=by
  intro i o hi
  have h:=qL hi
  simp [qI,plL] at h
  rcases h with ⟨rfl,rfl⟩|⟨rfl,rfl⟩|⟨rfl,rfl⟩|⟨rfl,rfl⟩ <;> simp [AObj.ids,AV.ids,AV.idsL,qf,qh,qj]
def ZC:=kk @kX (kk @Qb (kk @xB.eq_1 @xE.eq_1))
def JE:=kk @aI.eq_1 (@aB.eq_1)
theorem Jq {c:Chart} {a:Ask} (h:PlOk c a):QaA Try.prog 114 [.cb,.ptr 2 0,.ptr 3 0] (nth ((plL c a).take 1)) (nth (plL c a)) (plY c a) (plP c a).length (fun j=>nth (plH c a j)) (fun _ _=>.tup []):=by
  intro ans R hr
  have ok:=pl_ok h hr
  rw [ZO,ZO]
  obtain ⟨A0,hA0⟩:∃ A0:Frm→Prop,A0=Acb Try.prog (qg (qI 0 [qf c.cabins c.secs 1])) (qg (qI 0 (plL c a))) (plY c a) (fun j=>nth (plH c a j)) ans R:=⟨_,rfl⟩
  have hA:∀ F,A0 F→Acb Try.prog (qg (qI 0 [qf c.cabins c.secs 1])) (qg (qI 0 (plL c a))) (plY c a) (fun j=>nth (plH c a j)) ans R F:=fun F h=>hA0 ▸ h
  have env:Env A0 Try.prog tyB (tab [(115,fnI [qf c.cabins c.secs 1] R (Qk c a (plY c a) (plH c a) ans R))]):=qM ⟨QfP hA,trivial⟩
  refine Fn.of (A:=A0) (n0:=4) (D:=noD) (Fn0 Try.func114 rfl (fun vs w=>by kernel_rfl) (by kernel_rfl)) (by simp) (by simp [AV.ids]) VU (fun F hb h0 _=>hA0 ▸ ⟨h0,QeM,hb⟩) qH ?_
  show Sym _ _ _ (zq [.cb,.ptr 2 0,.ptr 3 0] 4 (qg [(0,qf c.cabins c.secs 1),(1,qh c.sold),(2,.cells [.ptr 0 0]),(3,.cells (qj a))])) (yB tyB noD Try.f114 fun S rv=>Fin S rv _ 4 (qg [(0,qf c.cabins c.secs 1),(1,qh c.sold),(2,.cells [.ptr 0 0]),(3,.cells (qj a))]) R)
  repeat' (first|(apply nx;with_reducible constructor)|refine jq (by decide) ?_|((first|refine kz env fun Q hQ=>?_|refine kj fun Q hQ=>?_);simp only [vkt,seval,ZC,JE,qw,qj,qc,mTk,qd,qf,qh,qm,plL,Qk,List.length_map,fnI,zS,qR,nth,hwL,Nat.zero_add,Nat.sub_zero,List.map_nil,ok];(try simp only [ite_and]);(repeat' (first|with_reducible assumption|refine And.intro ?_ ?_|intro hp));all_goals (first|(refine hQ _ ?_;clear hQ Q)|(refine hQ _ (fun h=>?_) (fun h=>?_) <;> clear hQ Q <;> (try simp only [vki,reduceCtorEq] at h))|(refine kx ?_;kernel_rfl)|omega|assumption|with_reducible rfl|skip)))
  (simp only [vrt,Try.results114,vkt,seval,ZC,JE,qw,qj,qc,mTk,qd,qf,qh,qm,plL,Qk,List.length_map,fnI,zS,qR,nth,hwL,Nat.zero_add,Nat.sub_zero,List.map_nil];refine Fin.ok some [] ?_ ?_ ?_ ?_ ?_ rfl;all_goals (try simp only [vle,vkt,seval,ZC,JE,qw,qj,qc,mTk,qd,qf,qh,qm,plL,Qk,List.length_map,fnI,zS,qR,nth,hwL,Nat.zero_add,Nat.sub_zero,List.map_nil]))
  all_goals first|rfl|(simp;done)
theorem Qeu (c:Chart) (a:Ask):Fn noB Try.prog 68 [.ptr 0 0,qw a] (qg (qI 0 (qm c.cabins c.secs c.sold))) (.clo 114 [.ptr 2 0,.ptr 3 0]) (qg (zT 0 ((plL c a).map some))) 0:=by
  have env:Env (fun _=>True) Try.prog tyB (tab []):=qM trivial
  refine Fn.of (A:=fun _=>True) (n0:=2) (D:=noD) (Fn0 Try.func68 rfl (fun vs w=>by kernel_rfl) (by kernel_rfl)) (by simp) (by simp [AV.ids,AV.idsL,qw,qj]) vE (fun _ _ _ _=>trivial) qH ?_
  show Sym _ _ _ (zq [.ptr 0 0,qw a] 2 (qg [(0,qf c.cabins c.secs 1),(1,qh c.sold)])) (yB tyB noD Try.f68 fun S rv=>Fin S rv _ 2 (qg [(0,qf c.cabins c.secs 1),(1,qh c.sold),(2,.cells [.ptr 0 0]),(3,.cells (qj a))]) 0)
  repeat' (first|(apply nx;with_reducible constructor)|refine jq (by decide) ?_|((first|refine kz env fun Q hQ=>?_|refine kj fun Q hQ=>?_);simp only [vkt,seval,JE,qw,qj,qc,mTk,qd,qf,qh,qm,plL,Qk,List.length_map,fnI,zS,qR,nth,hwL,Nat.zero_add,Nat.sub_zero,List.map_nil];(try simp only [ite_and]);(repeat' (first|with_reducible assumption|refine And.intro ?_ ?_|intro hp));all_goals (first|(refine hQ _ ?_;clear hQ Q)|(refine hQ _ (fun h=>?_) (fun h=>?_) <;> clear hQ Q <;> (try simp only [vki,reduceCtorEq] at h))|(refine kx ?_;kernel_rfl)|omega|assumption|with_reducible rfl|skip)))
  (simp only [vrt,Try.results68,vkt,seval,JE,qw,qj,qc,mTk,qd,qf,qh,qm,plL,Qk,List.length_map,fnI,zS,qR,nth,hwL,Nat.zero_add,Nat.sub_zero,List.map_nil];refine Fin.ok some [] ?_ ?_ ?_ ?_ ?_ rfl;all_goals (try simp only [vle,vkt,seval,JE,qw,qj,qc,mTk,qd,qf,qh,qm,plL,Qk,List.length_map,fnI,zS,qR,nth,hwL,Nat.zero_add,Nat.sub_zero,List.map_nil]))
  all_goals first|rfl|(simp;done)|exact fun i hi=>(match i,hi with|0,_=>rfl|1,_=>rfl)
def qF (S:St):List AV→Option Pk
  |[.ptr p 0,.agg [.v (.int .i64 a0),.v (.int .i64 a1),.v (.int .i64 a2),.sl a3,.v (.bool a4)]]=>match S.h p with
    |some (.cells [.sl cs,.v (.int .i64 s),.row r])=>match S.h r with
      |some (.row _ _ xs)=>some { pre:=cs=(cs.map qB).map qo∧xs=(xs.map dTk).map eTk∧a3=(a3.map zl).map zC,hs:=[p,r],ar:=[.ptr 0 0,.agg [.v (.int .i64 a0),.v (.int .i64 a1),.v (.int .i64 a2),.sl a3,.v (.bool a4)]],L0:=qm (cs.map qB) s (xs.map dTk),v:=.clo 114 [.ptr 2 0,.ptr 3 0],L1:=(plL ⟨cs.map qB,s,xs.map dTk⟩ ⟨a0,a1,a2,a3.map zl,a4⟩).map some }
      |_=>none
    |_=>none
  |_=>none
theorem Yg {A:Frm→Prop}:qC A Try.prog 68 (fnE qF):=zx fun S bs q h hp=>by
  unfold qF at h
  split at h
  · rename_i a0 a1 a2 a3 a4
    split at h
    · split at h
      · rename_i cs s _ _ _ _ _ xs _
        cases h
        obtain ⟨h1,h2,h3⟩:=hp
        have:=Qeu ⟨cs.map qB,s,xs.map dTk⟩ ⟨a0,a1,a2,a3.map zl,a4⟩
        simp only [qw,qj,← h3] at this
        exact this
      · cases h
    · cases h
  · cases h
end Go.Sym.B
namespace Go.Sym.B
open Go Go.Sym Go.Proofs Go.Sym.C
theorem RA {N:Nat}:Rounds (fun _=>true) N N:=⟨Nat.le_refl _,fun _ _=>rfl,fun h=>absurd h (Nat.lt_irrefl _)⟩
theorem Qfn {α β:Type} {f:α→List β} {M:Nat}:∀ {l:List α},(∀ a ∈ l,(f a).length≤M)→(l.flatMap f).length≤l.length * M
  |[],_=>by simp
  |a :: l,h=>by
    have h1:=Qfn (l:=l) fun b hb=>h b (List.mem_cons_of_mem _ hb)
    have h2:=h a List.mem_cons_self
    rw [List.flatMap_cons,List.length_append,List.length_cons,Nat.succ_mul];omega
theorem Qad (cs:List Cabin) (a:Ask) {K:Nat} (hK:(qV cs).length≤K):∀ (m:Nat) (sold:List Tk) (begun:List Bunk),(ww cs a m sold begun).length≤K ^ m
  |0,_,_=>by simp [ww]
  |m+1,sold,begun=>by
    have h1:(ww cs a (m+1) sold begun).length≤(qV cs).length * K ^ m:=Qfn fun b _=>by
      split
      · exact Qad cs a hK m _ _
      · simp
    rw [Nat.pow_succ,Nat.mul_comm (K ^ m) K]
    exact Nat.le_trans h1 (Nat.mul_le_mul_right _ hK)
theorem Qgi {cs:List Cabin} (h1:cs.length≤3) (h2:∀ x ∈ cs,x.beds≤3):(qV cs).length≤9:=by
  rw [Yi]
  refine Nat.le_trans (Qfn (M:=3) fun i hi=>?_) (by rw [List.length_range];omega)
  rw [List.length_map,List.length_range]
  have:=h2 _ (vL (d:=default) (List.mem_range.1 hi))
  omega
theorem Qcq {c:Chart} {a:Ask} (h:PlOk c a):(plP c a).length≤729:=by
  have h1:=Qad c.cabins a (Qgi h.val.car.cabs.2 fun x hx=>(h.val.car.beds x hx).2) a.sexes.length c.sold []
  refine Nat.le_trans h1 ?_
  have:=h.sx
  exact Nat.le_trans (Nat.pow_le_pow_right (by omega) this) (by decide)
def plR (c:Chart) (a:Ask) (j:Nat):List (List DV):=((plP c a).take j).map fun x=>qz x.1
theorem QgW {c:Chart} {a:Ask} {j:Nat} (h:j < (plP c a).length):plR c a (j+1)=plR c a j++[qz ((plP c a).getD j default).1]:=by
  unfold plR
  rw [List.take_succ_eq_append_getElem h,List.map_append]
  simp [List.getD_eq_getElem?_getD,h]
theorem JP (c:Chart) (a:Ask) (j:Nat):zI 1 (plR c a j)=True:=by
  unfold plR
  exact yV (f:=fun x:List Bunk × List Tk=>qz x.1) (k:=1) (fun _=>rfl) _
def aqL:List (Nat × AV):=[(2,.ptr 4 0)]
def aqL0:List (Nat × AV):=[(2,.ptr 4 0),(6,.clo 114 [.ptr 2 0,.ptr 3 0])]
def aqH (c:Chart) (a:Ask) (j:Nat):List (Nat × AObj):=[(4,.cells [.row 5]),(5,.row 37 1 (plR c a j))]
theorem QaK (c:Chart) (a:Ask):za [0,1,2,3] 7 0 (plL c a)=[(0,qf c.cabins c.secs 1),(1,qh c.sold),(2,.cells [.ptr 0 0]),(3,.cells (qj a))]:=by
  simp [za,plL,qy,AObj.ren,AV.renL,AV.ren,qf,qh,qj]
theorem Rz (c:Chart) (a:Ask) (j:Nat):za [0] 7 0 (plH c a j)=[(0,qf c.cabins c.secs 7),(7,qh ((plP c a).getD j default).2)]:=by
  simp [za,plH,qm,qy,AObj.ren,AV.renL,AV.ren,qf,qh]
def jJ:=kk @QeA (kk @JI (kk @UY.eq_1 @Wi.eq_1))
def Ws:=kk @aI.eq_1 (@aB.eq_1)
theorem QeH {c:Chart} {a:Ask} (h:PlOk c a):Fn noB Try.prog 113 [.nil,.clo 114 [.ptr 2 0,.ptr 3 0]] (qg (qI 0 (plL c a))) (.row 4) (qg (zT 0 ((plL c a).map some++[some (.row 37 1 (plR c a (plP c a).length))]))) 0:=by
  have env:Env (fun F=>F.r=none) Try.prog tyB (tab []):=qM trivial
  refine Fn.of (A:=fun F=>F.r=none) (n0:=4) (D:=noD) (Fn0 Try.func113 rfl (fun vs w=>by kernel_rfl) (by kernel_rfl)) (by simp) (by simp [AV.ids,AV.idsL]) VU (fun _ _ _ h=>h) qH ?_
  have hbd:=Qcq h
  have hm:(729:Nat)+1≤maxLen:=by decide
  obtain ⟨N,hN⟩:∃ N,(plP c a).length=N:=⟨_,rfl⟩
  rw [hN] at hbd ⊢
  show Sym _ _ _ (zq [.nil,.clo 114 [.ptr 2 0,.ptr 3 0]] 4 (qg [(0,qf c.cabins c.secs 1),(1,qh c.sold),(2,.cells [.ptr 0 0]),(3,.cells (qj a))])) (yB tyB noD Try.f113 fun S rv=>Fin S rv _ 4 (qg [(0,qf c.cabins c.secs 1),(1,qh c.sold),(2,.cells [.ptr 0 0]),(3,.cells (qj a)),(4,.row 37 1 (plR c a N))]) 0)
  repeat' (first|(apply nx;with_reducible constructor)|refine jq (by decide) ?_|((first|refine kz env fun Q hQ=>?_|refine kj fun Q hQ=>?_);simp only [vkt,seval,jJ,Ws,qc,qz,qf,qh,qm,plL,aqL,JP,List.length_map,nth,hwL,Nat.zero_add,Nat.sub_zero];(try simp only [ite_and]);(repeat' (first|with_reducible assumption|refine And.intro ?_ ?_|intro hp));all_goals (first|(refine hQ _ ?_;clear hQ Q)|(refine hQ _ (fun h=>?_) (fun h=>?_) <;> clear hQ Q <;> (try simp only [vki,reduceCtorEq] at h))|(refine kx ?_;kernel_rfl)|omega|assumption|with_reducible rfl|skip)))
  refine xO (S':={ t:=asg aqL0,h:=qg (aqH c a 0++[(0,qf c.cabins c.secs 1),(1,qh c.sold),(2,.cells [.ptr 0 0]),(3,.cells (qj a))]),n:=6,j:=0,d:=[],m:=4 }) ?_ ?_
  · show Le _ { t:=asg [(2,.ptr 4 0),(6,.clo 114 [.ptr 2 0,.ptr 3 0])],h:=qg [(4,.cells [.row 5]),(5,.row 37 1 []),(0,qf c.cabins c.secs 1),(1,qh c.sold),(2,.cells [.ptr 0 0]),(3,.cells (qj a))],n:=6,j:=0,d:=[],m:=4 }
    (refine Le.ok (fun i=>if i=5 then none else some i) [] ?_;constructor;all_goals (try simp only [vle,vkt,seval,jJ,Ws,qc,qz,qf,qh,qm,plL,aqL,JP,List.length_map,nth,hwL,Nat.zero_add,Nat.sub_zero]))
    all_goals first|rfl|(simp [qj,AV.leL,AV.le,AV.idsL,AV.ids];done)|(intro i hi;rw [if_neg (by omega)];done)
  rw [← QaK c a]
  refine vV (fun F h=>h) 1 (L:=aqL0) (L':=aqL) (xs:=[1,2,3]) (hs:=[0,1,2,3]) (n:=6) (nl:=1) (hc:=aqH c a) (Lp:=plL c a) (jj:=fun _=>0) (d:=[]) (ys:=plY c a) (hl:=plH c a) (ans:=fun _=>true) (ex:=.ret) (caps:=[.ptr 2 0,.ptr 3 0]) (caps0:=[.ptr 2 0,.ptr 3 0]) (N:=(plP c a).length) (R:=N) (A':=fun _ _=>True) rfl (Jq h) (by rw [hN];exact RA) (.inl rfl) ?_ ?_ ?_ rfl (by simp) ?_ (by simp) (fun _ _ _ _ _ _=>trivial) ?_ ?_ ?_ ?_ ?_ ?_ (fun j hj=>?_) ?_ (fun j hj=>?_) (fun _=>?_) (fun _ h=>by cases h)
  · simp [AV.leL,AV.le]
  · simp [AV.nocbL,AV.nocb]
  · simp [WW,plL,qf,qh,qj,AObj.nocb,AV.nocbL,AV.nocb,AObj.ids,AV.ids,AV.idsL,AObj.ren,AV.renL,AV.ren,AObj.le,AV.leL,AV.le,qy]
  · simp [aqH,qg]
  · simp [aqH,qg]
  · simp [aqH,AObj.ids,AV.ids,AV.idsL]
  · simp [RU,aqL,aqL0,asg,upd]
  · simp [LD]
  · intro j hj
    simp [absent,aqH,Rz]
  · simp [YN,aqL,AV.ids]
  · refine ⟨?_,rfl, ?_, ?_,rfl, ?_⟩
    · simp [QR,aqH,AObj.ids,AV.ids,AV.idsL]
    · simp [WA,plH,qm,qf,qh,AObj.nocb,AV.nocbL,AV.nocb,AObj.ids,AV.ids,AV.idsL]
    · simp [VG,plY,qc,AV.nocb,AV.ids]
    · simp [QG,WS,Rz,aqH,aqL,kG,AV.ids,ADf.ids,List.range_succ]
  · simp [QR,aqH,AObj.ids,AV.ids,AV.idsL]
  · have env:Env (fun _:Frm=>True) Try.prog tyB (tab []):=qM trivial
    obtain ⟨x,hx⟩:∃ x,((plP c a).getD j default).1=x:=⟨_,rfl⟩
    have hS:=QgW (c:=c) (a:=a) (j:=j) (by omega)
    rw [hx] at hS
    have hl:(plR c a j).length≤729:=by simp [plR];omega
    have hl1:(plR c a j).length+1≤maxLen:=by omega
    have hst:jA aqL [7] [0] 6 1 (plY c a j) (aqH c a j) (plH c a j)={ t:=asg [(7,qc x),(2,.ptr 4 0)],h:=qg [(6,.mark),(4,.cells [.row 5]),(5,.row 37 1 (plR c a j)),(0,qf c.cabins c.secs 7),(7,qh ((plP c a).getD j default).2)],n:=8,m:=8 }:=by
      simp only [jA,Rz,plY,hx,qc,List.map_cons,List.map_nil,AV.ren,List.zip_cons_cons,List.zip_nil_right,aqH,aqL,Zt,List.cons_append,List.nil_append]
      rfl
    show Sym _ _ _ (jA aqL [7] [0] 6 1 (plY c a j) (aqH c a j) (plH c a j)) _
    rw [hst]
    obtain ⟨r,hr⟩:∃ r,((plP c a).getD j default).2=r:=⟨_,rfl⟩
    rw [hr]
    repeat' (first|(apply nx;with_reducible constructor)|refine jq (by decide) ?_|((first|refine kz env fun Q hQ=>?_|refine kj fun Q hQ=>?_);simp only [vkt,seval,jJ,Ws,qc,qz,qf,qh,qm,plL,aqL,JP,List.length_map,nth,hwL,Nat.zero_add,Nat.sub_zero,hl1];(try simp only [ite_and]);(repeat' (first|with_reducible assumption|refine And.intro ?_ ?_|intro hp));all_goals (first|(refine hQ _ ?_;clear hQ Q)|(refine hQ _ (fun h=>?_) (fun h=>?_) <;> clear hQ Q <;> (try simp only [vki,reduceCtorEq] at h))|(refine kx ?_;kernel_rfl)|omega|assumption|with_reducible rfl|skip)))
    refine ⟨rfl,rfl,(fun i=>if i=5 then some 9 else some i),_,RFin.okQ (fun i=>if i=5 then some 9 else some i) [] ?_⟩
    constructor
    all_goals (try simp only [vle,xz,xw,qy,plH,aqH,hr,hS,qz,vkt,seval,jJ,Ws,qc,qz,qf,qh,qm,plL,aqL,JP,List.length_map,nth,hwL,Nat.zero_add,Nat.sub_zero])
    all_goals first|rfl|(simp;done)|(simp [aqL,kG,AV.ids,ADf.ids,List.range_succ];done)
  · have eh:qg ((6,AObj.mark) :: aqH c a N++za [0,1,2,3] (6+1) 0 (plL c a))=qg [(6,.mark),(4,.cells [.row 5]),(5,.row 37 1 (plR c a N)),(0,qf c.cabins c.secs 1),(1,qh c.sold),(2,.cells [.ptr 0 0]),(3,.cells (qj a))]:=by
      rw [show za [0,1,2,3] (6+1) 0 (plL c a)=za [0,1,2,3] 7 0 (plL c a) from rfl,QaK];rfl
    rw [eh]
    repeat' (first|(apply nx;with_reducible constructor)|refine jq (by decide) ?_|((first|refine kz env fun Q hQ=>?_|refine kj fun Q hQ=>?_);simp only [vkt,seval,jJ,Ws,qc,qz,qf,qh,qm,plL,aqL,JP,List.length_map,nth,hwL,Nat.zero_add,Nat.sub_zero];(try simp only [ite_and]);(repeat' (first|with_reducible assumption|refine And.intro ?_ ?_|intro hp));all_goals (first|(refine hQ _ ?_;clear hQ Q)|(refine hQ _ (fun h=>?_) (fun h=>?_) <;> clear hQ Q <;> (try simp only [vki,reduceCtorEq] at h))|(refine kx ?_;kernel_rfl)|omega|assumption|with_reducible rfl|skip)))
    (simp only [vrt,Try.results113,vkt,seval,jJ,Ws,qc,qz,qf,qh,qm,plL,aqL,JP,List.length_map,nth,hwL,Nat.zero_add,Nat.sub_zero];refine Fin.ok (fun j=>[0,1,2,3,5][j]?) [] ?_ ?_ ?_ ?_ ?_ rfl;all_goals (try simp only [vle,vkt,seval,jJ,Ws,qc,qz,qf,qh,qm,plL,aqL,JP,List.length_map,nth,hwL,Nat.zero_add,Nat.sub_zero]))
    all_goals first|rfl|(simp [qj,AV.leL,AV.le];done)|exact fun i hi=>(match i,hi with|0,_=>rfl|1,_=>rfl|2,_=>rfl|3,_=>rfl)
end Go.Sym.B
namespace Go.Sym.B
open Go Go.Sym Go.Proofs Go.Sym.C
def Jv (c:Chart) (a:Ask) (S:St):List AV→Option Pk
  |[.nil,.clo f [.ptr p2 0,.ptr p3 0]]=>match S.h p2 with
    |some (.cells [.ptr p 0])=>match S.h p with
      |some (.cells [_,_,.row r])=>some { pre:=f=114∧PlOk c a,hs:=[p,r,p2,p3],ar:=[.nil,.clo 114 [.ptr 2 0,.ptr 3 0]],L0:=plL c a,v:=.row 4,L1:=(plL c a).map some++[some (.row 37 1 (plR c a (plP c a).length))] }
      |_=>none
    |_=>none
  |_=>none
theorem Qiy {A:Frm→Prop} {c:Chart} {a:Ask}:qC A Try.prog 113 (fnE (Jv c a)):=zx fun S bs q h hp=>by
  unfold Jv at h
  split at h
  · split at h
    · split at h
      · cases h;exact QeH hp.2
      · cases h
    · cases h
  · cases h
def Ut:=kk @aI.eq_1 (@aB.eq_1)
theorem Qcc {c:Chart} {a:Ask} (h:PlOk c a):Fn noB Try.prog 67 [.clo 114 [.ptr 2 0,.ptr 3 0]] (qg (qI 0 (plL c a))) (.row 4) (qg (zT 0 ((plL c a).map some++[some (.row 37 1 (plR c a (plP c a).length))]))) 0:=by
  have env:Env (fun _=>True) Try.prog tyB (tab [(113,fnE (Jv c a))]):=qM ⟨Qiy,trivial⟩
  refine Fn.of (A:=fun _=>True) (n0:=4) (D:=noD) (Fn0 Try.func67 rfl (fun vs w=>by kernel_rfl) (by kernel_rfl)) (by simp) (by simp [AV.ids,AV.idsL]) VU (fun _ _ _ _=>trivial) qH ?_
  obtain ⟨X,hX⟩:∃ X,plR c a (plP c a).length=X:=⟨_,rfl⟩
  rw [hX]
  show Sym _ _ _ (zq [.clo 114 [.ptr 2 0,.ptr 3 0]] 4 (qg [(0,qf c.cabins c.secs 1),(1,qh c.sold),(2,.cells [.ptr 0 0]),(3,.cells (qj a))])) (yB tyB noD Try.f67 fun S rv=>Fin S rv _ 4 (qg [(0,qf c.cabins c.secs 1),(1,qh c.sold),(2,.cells [.ptr 0 0]),(3,.cells (qj a)),(4,.row 37 1 X)]) 0)
  repeat' (first|(apply nx;with_reducible constructor)|refine jq (by decide) ?_|((first|refine kz env fun Q hQ=>?_|refine kj fun Q hQ=>?_);simp only [vkt,seval,Ut,qj,qf,qh,plL,Jv,List.length_map,h,hX];(try simp only [ite_and]);(repeat' (first|with_reducible assumption|refine And.intro ?_ ?_|intro hp));all_goals (first|(refine hQ _ ?_;clear hQ Q)|(refine hQ _ (fun h=>?_) (fun h=>?_) <;> clear hQ Q <;> (try simp only [vki,reduceCtorEq] at h))|(refine kx ?_;kernel_rfl)|omega|assumption|with_reducible rfl|skip)))
  (simp only [vrt,Try.results67,vkt,seval,Ut,qj,qf,qh,plL,Jv,List.length_map];refine Fin.ok some [] ?_ ?_ ?_ ?_ ?_ rfl;all_goals (try simp only [vle,vkt,seval,Ut,qj,qf,qh,plL,Jv,List.length_map]))
  all_goals first|rfl|(simp [qj,AV.leL,AV.le];done)|exact fun i hi=>(match i,hi with|0,_=>rfl|1,_=>rfl|2,_=>rfl|3,_=>rfl)
def kS (c:Chart) (a:Ask) (S:St):List AV→Option Pk
  |[.clo f [.ptr p2 0,.ptr p3 0]]=>match S.h p2 with
    |some (.cells [.ptr p 0])=>match S.h p with
      |some (.cells [_,_,.row r])=>some { pre:=f=114∧PlOk c a,hs:=[p,r,p2,p3],ar:=[.clo 114 [.ptr 2 0,.ptr 3 0]],L0:=plL c a,v:=.row 4,L1:=(plL c a).map some++[some (.row 37 1 (plR c a (plP c a).length))] }
      |_=>none
    |_=>none
  |_=>none
theorem QhJ {A:Frm→Prop} {c:Chart} {a:Ask}:qC A Try.prog 67 (fnE (kS c a)):=zx fun S bs q h hp=>by
  unfold kS at h
  split at h
  · split at h
    · split at h
      · cases h;exact Qcc hp.2
      · cases h
    · cases h
  · cases h
theorem Kz {c:Chart} {a:Ask} (h:xh c a=0):a.sexes.length≤3∧1≤a.sexes.length:=by
  unfold xh at h
  split at h
  · exact absurd h (by decide)
  split at h
  · exact absurd h (by decide)
  split at h
  · exact absurd h ‹_›
  split at h
  · exact absurd h ‹_›
  rename_i h4
  have h4:=Decidable.not_not.1 h4
  unfold zD at h4
  split at h4
  · exact absurd h4 (by decide)
  · split at h4
    · exact absurd h4 (by decide)
    · omega
theorem Wj {c:Chart} {a:Ask} (h:wy c a=0):PlOk c a:=⟨Q7 (yS h).1,(Kz (yS h).2).1⟩
def VT (c:Chart) (a:Ask):List (List Bunk):=if wy c a=0 then (plP c a).map (·.1) else []
def xe:=kk @vg (kk @kX (kk @JH (kk @yI.eq_1 (kk @xB.eq_1 @Wq.eq_1))))
def Jz:=kk @aI.eq_1 (kk @aB.eq_1 (@kW))
theorem Qei (c:Chart) (a:Ask) (hc:c.cabins.length≤maxLen) (ha:a.sexes.length≤maxLen):Fn noB Try.prog 18 [qa c,qw a] noH (.tup [.row 0,aI (wy c a)]) (qg [(0,.row 37 1 ((VT c a).map qz))]) 0:=by
  have env:Env (fun _=>True) Try.prog tyB (tab [(66,fnE zb),(68,fnE qF),(67,fnE (kS c a))]):=qM ⟨V6,Yg,QhJ,trivial⟩
  refine Fn.of (A:=fun _=>True) (n0:=0) (D:=noD) (Fn0 Try.func18 rfl (fun vs w=>by kernel_rfl) (by kernel_rfl)) (by simp) (by simp [AV.ids,AV.idsL,qa,qb,qw,qj]) (fun i o h=>by cases h) (fun _ _ _ _=>trivial) qH ?_
  have ec:(⟨c.cabins,c.secs,c.sold⟩:Chart)=c:=rfl
  have ea:(⟨a.party,a.frm,a.to,a.sexes,a.dog⟩:Ask)=a:=rfl
  unfold VT
  by_cases h0:wy c a=0
  · have hok:=Wj h0
    rw [if_pos h0,h0]
    obtain ⟨X,hX⟩:∃ X,plR c a (plP c a).length=X:=⟨_,rfl⟩
    have hXe:(List.map (fun x=>x.1) (plP c a)).map qz=X:=by rw [← hX];unfold plR;rw [List.take_length,List.map_map];rfl
    rw [hXe]
    repeat' (first|(apply nx;with_reducible constructor)|refine jq (by decide) ?_|((first|refine kz env fun Q hQ=>?_|refine kj fun Q hQ=>?_);simp only [vkt,seval,xe,Jz,qa,qb,qw,qj,mTk,qd,qf,qh,qm,plL,zb,qF,kS,List.length_map,ec,ea,h0,hok,hX];(try simp only [ite_and]);(repeat' (first|with_reducible assumption|refine And.intro ?_ ?_|intro hp));all_goals (first|(refine hQ _ ?_;clear hQ Q)|(refine hQ _ (fun h=>?_) (fun h=>?_) <;> clear hQ Q <;> (try simp only [vki,reduceCtorEq] at h))|(refine kx ?_;kernel_rfl)|omega|assumption|with_reducible rfl|skip)))
    (simp only [vrt,Try.results18,vkt,seval,xe,Jz,qa,qb,qw,qj,mTk,qd,qf,qh,qm,plL,zb,qF,kS,List.length_map];refine Fin.ok (fun j=>[6][j]?) [] ?_ ?_ ?_ ?_ ?_ rfl;all_goals (try simp only [vle,vkt,seval,xe,Jz,qa,qb,qw,qj,mTk,qd,qf,qh,qm,plL,zb,qF,kS,List.length_map]))
    all_goals first|rfl|(simp;done)
  · rw [if_neg h0]
    repeat' (first|(apply nx;with_reducible constructor)|refine jq (by decide) ?_|((first|refine kz env fun Q hQ=>?_|refine kj fun Q hQ=>?_);simp only [vkt,seval,xe,Jz,qa,qb,qw,qj,mTk,qd,qf,qh,qm,plL,zb,qF,kS,List.length_map,ec,ea,h0];(try simp only [ite_and]);(repeat' (first|with_reducible assumption|refine And.intro ?_ ?_|intro hp));all_goals (first|(refine hQ _ ?_;clear hQ Q)|(refine hQ _ (fun h=>?_) (fun h=>?_) <;> clear hQ Q <;> (try simp only [vki,reduceCtorEq] at h))|(refine kx ?_;kernel_rfl)|omega|assumption|with_reducible rfl|skip)))
    (simp only [vrt,Try.results18,vkt,seval,xe,Jz,qa,qb,qw,qj,mTk,qd,qf,qh,qm,plL,zb,qF,kS,List.length_map];refine Fin.ok (fun _=>none) [] ?_ ?_ ?_ ?_ ?_ rfl;all_goals (try simp only [vle,vkt,seval,xe,Jz,qa,qb,qw,qj,mTk,qd,qf,qh,qm,plL,zb,qF,kS,List.length_map]))
    all_goals first|rfl|(simp;done)
end Go.Sym.B
namespace Go.Sym.B
open Go Go.Sym Go.Proofs Go.Sym.C
def aU (n:Int):AV:=.v (.int .u64 n)
def Xu (a b:Int):Int:=IntKind.wrap .u64 (BitVec.ofInt IntKind.u64.bits a ||| BitVec.ofInt IntKind.u64.bits (IntKind.wrap .u64 (1 * 2 ^ min b.toNat IntKind.u64.bits))).toNat
def Vw:=kk @Vv @WQ.eq_1
def Qda:=kk @aI.eq_1 (kk @aB.eq_1 (@aU.eq_1))
theorem QgK (a b:Int) (hb:0≤b):FnV Try.prog 106 [aU a,aI b] (aU (Xu a b)):=by
  have env:Env (fun _=>True) Try.prog tyB (tab []):=qM trivial
  refine Fn.of (A:=fun _=>True) (n0:=0) (D:=noD) (Fn0 Try.func106 rfl (fun vs w=>by kernel_rfl) (by kernel_rfl)) (by simp) (by simp [AV.ids,AV.idsL,aU,aI]) (fun i o h=>by cases h) (fun _ _ _ _=>trivial) qH ?_
  repeat' (first|(apply nx;with_reducible constructor)|refine jq (by decide) ?_|((first|refine kz env fun Q hQ=>?_|refine kj fun Q hQ=>?_);simp only [vkt,seval,Vw,Qda,hb];(try simp only [ite_and]);(repeat' (first|with_reducible assumption|refine And.intro ?_ ?_|intro hp));all_goals (first|(refine hQ _ ?_;clear hQ Q)|(refine hQ _ (fun h=>?_) (fun h=>?_) <;> clear hQ Q <;> (try simp only [vki,reduceCtorEq] at h))|(refine kx ?_;kernel_rfl)|omega|assumption|with_reducible rfl|skip)))
  (simp only [vrt,Try.results106,vkt,seval,Vw,Qda];refine Fin.val rfl ?_;(try simp only [AV.le,AV.leL]))
  all_goals first|rfl|(simp;done)
def yx:List AV→Prop × AV
  |[.v (.int .u64 a),.v (.int .i64 b)]=>(0≤b,aU (Xu a b))
  |_=>(False,.junk)
theorem Qf2 {A:Frm→Prop}:qC A Try.prog 106 (zk true yx):=zn fun vs hv h=>by
  clear hv
  unfold yx at h ⊢
  split at h
  · exact ⟨by simp [aU,AV.plain],fun _=>by simp [aU,AV.flat],QgK _ _ h⟩
  · exact h.elim
theorem jy (p:List Int):(p.map aU).all yu=true:=by simp [aU,yu]
theorem wC:∀ p:List Int,AV.idsL (p.map aU)=[]
  |[]=>rfl
  |x :: p=>by rw [List.map_cons,AV.idsL,wC p];rfl
theorem jI (h:Nat→Option AObj) (σ:Nat→Option Nat):∀ p:List Int,AV.leL h σ (p.map aU) (p.map aU)=True
  |[]=>by simp [AV.leL]
  |x :: p=>by simp [AV.leL,AV.le,aU,jI h σ p]
theorem jd (τ:Nat→Nat):∀ p:List Int,AV.renL τ (p.map aU)=p.map aU
  |[]=>rfl
  |x :: p=>by simp [AV.renL,AV.ren,aU,jd τ p]
theorem zM:∀ p:List Int,AV.plainL (p.map aU)=True
  |[]=>by simp [AV.plainL]
  |x :: p=>by simp [AV.plainL,AV.plain,aU,zM p]
theorem wh:∀ p:List Int,AV.flatL (p.map aU)=True
  |[]=>by simp [AV.flatL]
  |x :: p=>by simp [AV.flatL,AV.flat,aU,wh p]
theorem QhF {p:List Int} {i:Nat} (h:i < p.length):(((p.map aU).drop i).take 1).headD .junk=aU (p.getD i 0):=by
  rw [List.drop_eq_getElem_cons (by simpa using h)]
  simp [List.getD_eq_getElem?_getD,h]
theorem Qks {p:List Int} {i:Nat} {n:Int} (h:i < p.length):(p.map aU).take i++[aU n]++(p.map aU).drop (i+1)=(p.set i n).map aU:=by
  apply List.ext_getElem?
  intro j
  rw [List.set_eq_take_append_cons_drop,if_pos h]
  simp
structure Van (c:Chart):Prop where
  car:CarOk c
  many:c.sold.length≤100
  tk:∀ t ∈ c.sold,TkOk c t
theorem Val.van {c:Chart} (h:Val c):Van c:=⟨h.car,by have:=h.many;omega,h.tk⟩
def Jg (s:Int) (h:List Int) (t:Tk):List Int:=if inB s t.frm (t.to - 1) then h.set t.cab.toNat (Xu (h.getD t.cab.toNat 0) t.bed) else h
def ZK (l:List Tk) (s:Int) (k:Nat):List Int:=(l.take k).foldl (Jg s) [0,0,0]
theorem Ye {l:List Tk} {s:Int} {k:Nat} (h:k < l.length):ZK l s (k+1)=Jg s (ZK l s k) (l.getD k default):=by
  unfold ZK
  rw [List.take_succ_eq_append_getElem h,List.foldl_append]
  simp [List.getD_eq_getElem?_getD,h]
theorem QX (l:List Tk) (s:Int):∀ k,k≤l.length→(ZK l s k).length=3
  |0,_=>rfl
  |k+1,h=>by
    rw [Ye (by omega),Jg]
    split
    · rw [List.length_set];exact QX l s k (by omega)
    · exact QX l s k (by omega)
def heT (c:Chart) (s:Int) (k:Nat):St:={ t:=asg [(1,aI s),(4,.ptr 1 0),(5,.ptr 2 0),(10,qx c.sold),(11,aI c.sold.length),(12,aI k)],h:=qg [(0,.cells (qb c)),(1,.cells [aU 0,aU 0,aU 0]),(2,.cells ((ZK c.sold s k).map aU))],n:=3 }
def jl:=kk @ty3 (kk @Zb (kk @vg (kk @kZ (kk @xy (kk @Vv (kk @Qjw (kk @ti3.eq_1 (kk @Qx.eq_1 (kk @yI.eq_1 (kk @xQ.eq_1 (kk @vW.eq_1 (kk @WQ.eq_1 @Qab.eq_1))))))))))))
def Qn:=kk @aI.eq_1 (kk @aB.eq_1 (@aU.eq_1))
theorem QdW (c:Chart) (s:Int) (hv:Van c):FnV Try.prog 108 [qa c,aI s] (.agg ((ZK c.sold s c.sold.length).map aU)):=by
  have env:Env (fun _=>True) Try.prog tyB (tab [(91,zk true sin),(106,zk true yx)]):=qM ⟨ein,Qf2,trivial⟩
  refine Fn.of (A:=fun _=>True) (n0:=0) (D:=noD) (Fn0 Try.func108 rfl (fun vs w=>by kernel_rfl) (by kernel_rfl)) (by simp) (by simp [AV.ids,AV.idsL,qa,qb,aI]) (fun i o h=>by cases h) (fun _ _ _ _=>trivial) qH ?_
  have hsl:=hv.many
  repeat' (first|(apply nx;with_reducible constructor)|refine jq (by decide) ?_|((first|refine kz env fun Q hQ=>?_|refine kj fun Q hQ=>?_);simp only [vkt,seval,jl,Qn,qx,qa,qb,eTk,gTk,heT,sin,yx,jy,wC,jI,jd,zM,wh,List.length_map,Nat.mul_one];(try simp only [ite_and]);(repeat' (first|with_reducible assumption|refine And.intro ?_ ?_|intro hp));all_goals (first|(refine hQ _ ?_;clear hQ Q)|(refine hQ _ (fun h=>?_) (fun h=>?_) <;> clear hQ Q <;> (try simp only [vki,reduceCtorEq] at h))|(refine kx ?_;kernel_rfl)|omega|assumption|with_reducible rfl|skip)))
  refine qU (fun k:{ k:Nat // k≤c.sold.length }=>heT c s k.1) (fun k=>c.sold.length - k.1) ⟨0,Nat.zero_le _⟩ ?_ fun ⟨k,hk⟩=>?_
  · (refine Le.ok some [] ?_;constructor;all_goals (try simp only [vle,vkt,seval,jl,Qn,qx,qa,qb,eTk,gTk,heT,sin,yx,jy,wC,jI,jd,zM,wh,List.length_map,Nat.mul_one]))
    all_goals first|rfl|(simp [ZK,AV.leL,AV.le,aU];done)
  · repeat' (first|(apply nx;with_reducible constructor)|refine jq (by decide) ?_)
    (refine kz env fun Q hQ=>?_;simp only [vkt,seval,jl,Qn,qx,qa,qb,eTk,gTk,heT,sin,yx,jy,wC,jI,jd,zM,wh,List.length_map,Nat.mul_one];(try simp only [ite_and]);(repeat' (first|with_reducible assumption|refine And.intro ?_ ?_|intro hp));all_goals (first|(refine hQ _ ?_;clear hQ Q)|(refine kx ?_;kernel_rfl)|omega|assumption|with_reducible rfl|skip))
    repeat' (first|(apply nx;with_reducible constructor)|refine jq (by decide) ?_)
    (refine yF (by simp only [vkt,seval,jl,Qn,qx,qa,qb,eTk,gTk,heT,sin,yx,jy,wC,jI,jd,zM,wh,List.length_map,Nat.mul_one];rfl) (fun h=>?_) (fun h=>?_) <;> (try simp only [vki,reduceCtorEq] at h))
    · have hlt:k < c.sold.length:=by omega
      have e9:IntKind.wrap .i64 ((k:Int)+1)=((k+1:Nat):Int):=by rw [wrap64 (by omega) (by omega)];rfl
      obtain ⟨x,hx⟩:∃ x,c.sold.getD k default=x:=⟨_,rfl⟩
      have hS:=Ye (s:=s) hlt
      rw [hx] at hS
      have hok:=hv.tk x (hx ▸ vL hlt)
      have hcl:=hv.car.cabs
      obtain ⟨⟨g1,g2⟩,g3,g4,g5,g6⟩:=(⟨hok.cab,hok.bed.1,hok.frm,hok.way,hok.to⟩:_∧_∧_∧_∧_)
      have gs:=hv.car.secs
      have w1:IntKind.wrap .i64 (x.to - 1)=x.to - 1:=wrap64 (by omega) (by omega)
      obtain ⟨i,hi⟩:∃ i:Nat,x.cab=(i:Int):=⟨x.cab.toNat,by omega⟩
      have hi3:i < 3:=by omega
      have hi3':(i:Int) < 3:=by omega
      have i0:(0:Int)≤(i:Int):=by omega
      obtain ⟨P,hP⟩:∃ P,ZK c.sold s k=P:=⟨_,rfl⟩
      have hPl:P.length=3:=by rw [← hP];exact QX _ _ _ hk
      rw [hP,Jg,hi,Int.toNat_natCast] at hS
      try simp only [heT,hP]
      have hiP:i < P.length:=by omega
      have hiP1:i+1≤P.length:=by omega
      have pg:=QhF hiP
      have ps:=Qks (n:=Xu (P.getD i 0) x.bed) hiP
      cases hb:inB s x.frm (x.to - 1) with
      |false =>
        rw [hb] at hS
        repeat' (first|(apply nx;with_reducible constructor)|refine jq (by decide) ?_|((first|refine kz env fun Q hQ=>?_|refine kj fun Q hQ=>?_);simp only [vkt,seval,jl,Qn,qx,qa,qb,eTk,gTk,heT,sin,yx,jy,wC,jI,jd,zM,wh,List.length_map,Nat.mul_one,hx,hb,w1,e9];(try simp only [ite_and]);(repeat' (first|with_reducible assumption|refine And.intro ?_ ?_|intro hp));all_goals (first|(refine hQ _ ?_;clear hQ Q)|(refine hQ _ (fun h=>?_) (fun h=>?_) <;> clear hQ Q <;> (try simp only [vki,reduceCtorEq] at h))|(refine kx ?_;kernel_rfl)|omega|assumption|with_reducible rfl|skip)))
        refine ⟨⟨k+1,hlt⟩,by show c.sold.length - (k+1) < c.sold.length - k;omega, ?_⟩
        simp only [heT,hS]
        (refine Le.ok some [] ?_;constructor;all_goals (try simp only [vle,vkt,seval,jl,Qn,qx,qa,qb,eTk,gTk,heT,sin,yx,jy,wC,jI,jd,zM,wh,List.length_map,Nat.mul_one]))
        all_goals first|rfl|(simp [jI];done)
      |true =>
        rw [hb] at hS
        simp only [if_true] at hS
        simp only [aU] at pg ps
        repeat' (first|(apply nx;with_reducible constructor)|refine jq (by decide) ?_|((first|refine kz env fun Q hQ=>?_|refine kj fun Q hQ=>?_);simp only [vkt,seval,jl,Qn,qx,qa,qb,eTk,gTk,heT,sin,yx,jy,wC,jI,jd,zM,wh,List.length_map,Nat.mul_one,hx,hb,w1,e9,hi,hi3',i0,hiP1,hPl,pg,ps,g3];(try simp only [ite_and]);(repeat' (first|with_reducible assumption|refine And.intro ?_ ?_|intro hp));all_goals (first|(refine hQ _ ?_;clear hQ Q)|(refine hQ _ (fun h=>?_) (fun h=>?_) <;> clear hQ Q <;> (try simp only [vki,reduceCtorEq] at h))|(refine kx ?_;kernel_rfl)|omega|assumption|with_reducible rfl|skip)))
        refine ⟨⟨k+1,hlt⟩,by show c.sold.length - (k+1) < c.sold.length - k;omega, ?_⟩
        simp only [heT,hS]
        (refine Le.ok some [] ?_;constructor;all_goals (try simp only [vle,vkt,seval,jl,Qn,qx,qa,qb,eTk,gTk,heT,sin,yx,jy,wC,jI,jd,zM,wh,List.length_map,Nat.mul_one]))
        all_goals first|rfl|(simp [jI];done)
    · have hke:k=c.sold.length:=by omega
      subst hke
      obtain ⟨P,hP⟩:∃ P,ZK c.sold s c.sold.length=P:=⟨_,rfl⟩
      have hPl:P.length=3:=by rw [← hP];exact QX _ _ _ (Nat.le_refl _)
      try simp only [heT,hP]
      have tP:(P.map aU).take 3=P.map aU:=List.take_of_length_le (by simp [hPl])
      repeat' (first|(apply nx;with_reducible constructor)|refine jq (by decide) ?_|((first|refine kz env fun Q hQ=>?_|refine kj fun Q hQ=>?_);simp only [vkt,seval,jl,Qn,qx,qa,qb,eTk,gTk,heT,sin,yx,jy,wC,jI,jd,zM,wh,List.length_map,Nat.mul_one,hPl,tP];(try simp only [ite_and]);(repeat' (first|with_reducible assumption|refine And.intro ?_ ?_|intro hp));all_goals (first|(refine hQ _ ?_;clear hQ Q)|(refine hQ _ (fun h=>?_) (fun h=>?_) <;> clear hQ Q <;> (try simp only [vki,reduceCtorEq] at h))|(refine kx ?_;kernel_rfl)|omega|assumption|with_reducible rfl|skip)))
      (simp only [vrt,Try.results108,hPl,tP,vkt,seval,jl,Qn,qx,qa,qb,eTk,gTk,heT,sin,yx,jy,wC,jI,jd,zM,wh,List.length_map,Nat.mul_one];refine Fin.val rfl ?_;(try simp only [AV.le,AV.leL]))
      all_goals first|rfl|(simp [jI];done)
def jU:List AV→Prop × AV
  |[.agg [.sl cs,.v (.int .i64 n),.sl ts],.v (.int .i64 s)]=>(cs=(cs.map qB).map qo∧ts=(ts.map dTk).map eTk∧Van ⟨cs.map qB,n,ts.map dTk⟩,.agg ((ZK (ts.map dTk) s ts.length).map aU))
  |_=>(False,.junk)
theorem Qia {A:Frm→Prop}:qC A Try.prog 108 (zk true jU):=zn fun vs hv h=>by
  clear hv
  unfold jU at h ⊢
  split at h
  · rename_i cs n ts s
    obtain ⟨h1,h2,h3⟩:=h
    refine ⟨by simp only [AV.plain,zM],fun _=>by simp only [AV.flat,wh], ?_⟩
    have:=QdW ⟨cs.map qB,n,ts.map dTk⟩ s h3
    simp only [qa,qb,← h1,← h2,List.length_map] at this
    exact this
  · exact h.elim
theorem wrapU {n:Int} (h0:0≤n) (h1:n < 18446744073709551616):IntKind.wrap .u64 n=n:=by
  rw [show IntKind.wrap .u64 n=n % 18446744073709551616 from rfl];omega
theorem Qkd (x y:BitVec 64) (hy:y ≠ 0):IntKind.wrap .u64 ((x ||| y).toNat:Int) ≠ 0:=fun h=>by
  have hlt:=(x ||| y).isLt
  rw [wrapU (by omega) (by omega)] at h
  have h1:(x ||| y)=0:=by apply BitVec.eq_of_toNat_eq;rw [show (x ||| y).toNat=0 by omega];rfl
  exact hy (BitVec.or_eq_zero_iff.1 h1).2
theorem Qis {a b:Int} (h0:0≤b) (h3:b≤3):Xu a b ≠ 0:=by
  refine Qkd (BitVec.ofInt 64 a) (BitVec.ofInt 64 (IntKind.wrap .u64 (1 * 2 ^ min b.toNat 64))) ?_
  rcases (by omega:b=0∨b=1∨b=2∨b=3) with rfl|rfl|rfl|rfl <;> decide
theorem V7 {l:List Tk} {s:Int} (hl:∀ t ∈ l,0≤t.cab∧t.cab < 3∧0≤t.bed∧t.bed≤3) {i:Nat} (hi:i < 3):∀ k,k≤l.length→decide ((ZK l s k).getD i 0=0)=(l.take k).all fun t=>!(atB s t && decide (t.cab=(i:Int)))
  |0,_=>by
    rw [List.take_zero]
    match i,hi with
    |0,_=>rfl
    |1,_=>rfl
    |2,_=>rfl
  |k+1,hk=>by
    have hkl:k < l.length:=by omega
    have ih:=V7 (s:=s) hl hi k (by omega)
    have hlen:=QX l s k (by omega)
    obtain ⟨g1,g2,g3,g4⟩:=hl _ (vL (d:=default) hkl)
    rw [Ye hkl,List.take_succ_eq_append_getElem hkl,List.all_append,← ih]
    rw [show l[k]=l.getD k default by simp [List.getD_eq_getElem?_getD,hkl]]
    generalize l.getD k default=t at *
    have ha:inB s t.frm (t.to - 1)=atB s t:=by
      unfold inB atB
      rw [show decide (s≤t.to - 1)=decide (s < t.to) by rw [decide_eq_decide];omega]
    unfold Jg
    rw [ha]
    simp only [List.all_cons,List.all_nil,Bool.and_true]
    cases atB s t with
    |false=>simp
    |true =>
      simp only [if_true,Bool.true_and]
      by_cases hc:t.cab=(i:Int)
      · have e:t.cab.toNat=i:=by omega
        rw [e,decide_eq_true hc,List.getD_eq_getElem?_getD,List.getElem?_set_self (by omega),Option.getD_some,decide_eq_false (Qis g3 g4)]
        simp
      · have e:t.cab.toNat ≠ i:=by omega
        rw [decide_eq_false hc,List.getD_eq_getElem?_getD,List.getElem?_set_ne e,← List.getD_eq_getElem?_getD]
        simp
end Go.Sym.B
namespace Go.Sym.B
open Go Go.Sym Go.Proofs Go.Sym.C
def rcN (c:Chart) (s i:Nat):Nat:=((List.range i).filter fun (j:Nat)=>Vp c.sold s j).length
def rtN (c:Chart) (s:Nat):Nat:=((List.range s).map fun s=>rcN c s c.cabins.length).sum
theorem Qhw (c:Chart) (s i:Nat):rcN c s (i+1)=rcN c s i+if Vp c.sold s i then 1 else 0:=by
  unfold rcN
  rw [List.range_succ,List.filter_append,List.length_append]
  cases h:Vp c.sold s i <;> simp [h]
theorem Qak (c:Chart) (s:Nat):rtN c (s+1)=rtN c s+rcN c s c.cabins.length:=by
  unfold rtN
  rw [List.range_succ,List.map_append,List.sum_append]
  simp
theorem QfN (c:Chart) (s i:Nat):rcN c s i≤i:=by
  unfold rcN
  exact Nat.le_trans (List.length_filter_le _ _) (by simp)
theorem Qfu (c:Chart):∀ s,rtN c s≤s * c.cabins.length
  |0=>by simp [rtN]
  |s+1=>by
    have:=Qfu c s
    have:=QfN c s c.cabins.length
    rw [Qak,Nat.succ_mul];omega
theorem QgG (c:Chart):WC c.cabins c.secs c.sold=(rtN c c.secs.toNat:Int):=by
  unfold WC rtN
  rw [List.length_flatMap]
  rfl
def rsO (c:Chart) (s:Nat):St:={ t:=asg [(1,.ptr 0 0),(2,aI 0),(3,aI (rtN c s:Nat)),(8,aI c.secs),(9,aI s)],h:=qg [(0,.cells (qb c))],n:=1 }
def rsI (c:Chart) (s i:Nat):St:={ t:=asg [(1,.ptr 0 0),(2,aI 0),(3,aI (rtN c s+rcN c s i:Nat)),(4,aI s),(5,.ptr 1 0),(8,aI c.secs),(9,aI s),(17,aI c.cabins.length),(18,aI i)],h:=qg [(0,.cells (qb c)),(1,.cells ((ZK c.sold s c.sold.length).map aU))],n:=2 }
def wF:=kk @ty3 (kk @VJ (kk @vg (kk @VD (kk @Vv (kk @Qjw (kk @ti3.eq_1 (kk @Yc.eq_1 (kk @yI.eq_1 (kk @Yb.eq_1 (kk @WQ.eq_1 @Qab.eq_1))))))))))
def yE:=kk @aI.eq_1 (@aB.eq_1)
theorem QiF (c:Chart) (hv:Van c):FnV Try.prog 72 [qa c] (aI (WC c.cabins c.secs c.sold)):=by
  have env:Env (fun _=>True) Try.prog tyB (tab [(108,zk true jU)]):=qM ⟨Qia,trivial⟩
  refine Fn.of (A:=fun _=>True) (n0:=0) (D:=noD) (Fn0 Try.func72 rfl (fun vs w=>by kernel_rfl) (by kernel_rfl)) (by simp) (by simp [AV.ids,AV.idsL,qa,qb]) (fun i o h=>by cases h) (fun _ _ _ _=>trivial) qH ?_
  have hcl:=hv.car.cabs
  have hsec:=hv.car.secs
  have ec:(⟨c.cabins,c.secs,c.sold⟩:Chart)=c:=rfl
  have htk:∀ t ∈ c.sold,0≤t.cab∧t.cab < 3∧0≤t.bed∧t.bed≤3:=fun t ht=>by
    have h1:=hv.tk t ht
    have h2:=h1.cab
    have h3:=h1.bed
    have h4:=(hv.car.beds _ (vL (d:=default) h2.2)).2
    omega
  rw [QgG]
  repeat' (first|(apply nx;with_reducible constructor)|refine jq (by decide) ?_|((first|refine kz env fun Q hQ=>?_|refine kj fun Q hQ=>?_);simp only [vkt,seval,wF,yE,qa,qb,qd,mTk,jU,jy,wC,jI,jd,zM,wh,rsO,rsI,List.length_map,Nat.mul_one];(try simp only [ite_and]);(repeat' (first|with_reducible assumption|refine And.intro ?_ ?_|intro hp));all_goals (first|(refine hQ _ ?_;clear hQ Q)|(refine hQ _ (fun h=>?_) (fun h=>?_) <;> clear hQ Q <;> (try simp only [vki,reduceCtorEq] at h))|(refine kx ?_;kernel_rfl)|omega|assumption|with_reducible rfl|skip)))
  refine qU (fun s:{ s:Nat // s≤c.secs.toNat }=>rsO c s.1) (fun s=>c.secs.toNat - s.1) ⟨0,Nat.zero_le _⟩ ?_ fun ⟨s,hs⟩=>?_
  · (refine Le.ok some [] ?_;constructor;all_goals (try simp only [vle,vkt,seval,wF,yE,qa,qb,qd,mTk,jU,jy,wC,jI,jd,zM,wh,rsO,rsI,List.length_map,Nat.mul_one]))
    all_goals first|rfl|(simp [rtN];done)
  simp only at hs ⊢
  repeat' (first|(apply nx;with_reducible constructor)|refine jq (by decide) ?_)
  (refine kz env fun Q hQ=>?_;simp only [vkt,seval,wF,yE,qa,qb,qd,mTk,jU,jy,wC,jI,jd,zM,wh,rsO,rsI,List.length_map,Nat.mul_one];(try simp only [ite_and]);(repeat' (first|with_reducible assumption|refine And.intro ?_ ?_|intro hp));all_goals (first|(refine hQ _ ?_;clear hQ Q)|(refine kx ?_;kernel_rfl)|omega|assumption|with_reducible rfl|skip))
  repeat' (first|(apply nx;with_reducible constructor)|refine jq (by decide) ?_)
  (refine yF (by simp only [vkt,seval,wF,yE,qa,qb,qd,mTk,jU,jy,wC,jI,jd,zM,wh,rsO,rsI,List.length_map,Nat.mul_one];rfl) (fun h=>?_) (fun h=>?_) <;> (try simp only [vki,reduceCtorEq] at h))
  · have hlt:s < c.secs.toNat:=by omega
    have hT:=Qfu c s
    have hT3:rtN c s≤s * 3:=Nat.le_trans hT (Nat.mul_le_mul_left _ hcl.2)
    have e9:IntKind.wrap .i64 ((s:Int)+1)=((s+1:Nat):Int):=by rw [wrap64 (by omega) (by omega)];rfl
    obtain ⟨P,hP⟩:∃ P,ZK c.sold s c.sold.length=P:=⟨_,rfl⟩
    have hPl:P.length=3:=by rw [← hP];exact QX _ _ _ (Nat.le_refl _)
    repeat' (first|(apply nx;with_reducible constructor)|refine jq (by decide) ?_|((first|refine kz env fun Q hQ=>?_|refine kj fun Q hQ=>?_);simp only [vkt,seval,wF,yE,qa,qb,qd,mTk,jU,jy,wC,jI,jd,zM,wh,rsO,rsI,List.length_map,Nat.mul_one,ec,hv,hP];(try simp only [ite_and]);(repeat' (first|with_reducible assumption|refine And.intro ?_ ?_|intro hp));all_goals (first|(refine hQ _ ?_;clear hQ Q)|(refine hQ _ (fun h=>?_) (fun h=>?_) <;> clear hQ Q <;> (try simp only [vki,reduceCtorEq] at h))|(refine kx ?_;kernel_rfl)|omega|assumption|with_reducible rfl|skip)))
    refine qU (fun i:{ i:Nat // i≤c.cabins.length }=>rsI c s i.1) (fun i=>c.cabins.length - i.1) ⟨0,Nat.zero_le _⟩ ?_ fun ⟨i,hi⟩=>?_
    · simp only [rsI,hP,rcN,List.range_zero,List.filter_nil,List.length_nil,Nat.add_zero]
      (refine Le.ok some [] ?_;constructor;all_goals (try simp only [vle,vkt,seval,wF,yE,qa,qb,qd,mTk,jU,jy,wC,jI,jd,zM,wh,rsO,rsI,List.length_map,Nat.mul_one]))
      all_goals first|rfl|(simp [jI];done)|(simp [hPl,jI];done)
    simp only at hi ⊢
    repeat' (first|(apply nx;with_reducible constructor)|refine jq (by decide) ?_)
    (refine kz env fun Q hQ=>?_;simp only [vkt,seval,wF,yE,qa,qb,qd,mTk,jU,jy,wC,jI,jd,zM,wh,rsO,rsI,List.length_map,Nat.mul_one];(try simp only [ite_and]);(repeat' (first|with_reducible assumption|refine And.intro ?_ ?_|intro hp));all_goals (first|(refine hQ _ ?_;clear hQ Q)|(refine kx ?_;kernel_rfl)|omega|assumption|with_reducible rfl|skip))
    repeat' (first|(apply nx;with_reducible constructor)|refine jq (by decide) ?_)
    (refine yF (by simp only [vkt,seval,wF,yE,qa,qb,qd,mTk,jU,jy,wC,jI,jd,zM,wh,rsO,rsI,List.length_map,Nat.mul_one];rfl) (fun h=>?_) (fun h=>?_) <;> (try simp only [vki,reduceCtorEq] at h))
    · have hil:i < c.cabins.length:=by omega
      have hC:=QfN c s i
      have e8:IntKind.wrap .i64 ((i:Int)+1)=((i+1:Nat):Int):=by rw [wrap64 (by omega) (by omega)];rfl
      have e7:IntKind.wrap .i64 (((rtN c s+rcN c s i:Nat):Int)+1)=((rtN c s+rcN c s i+1:Nat):Int):=by rw [wrap64 (by omega) (by omega)];rfl
      have hz:=V7 (s:=(s:Int)) htk (show i < 3 by omega) c.sold.length (Nat.le_refl _)
      rw [List.take_length,hP] at hz
      have hz:decide (P.getD i 0=0)=Vp c.sold s i:=hz
      have hS:=Qhw c s i
      have i3:(i:Int) < 3:=by omega
      have hiP:i < P.length:=by omega
      have hiP1:i+1≤P.length:=by omega
      have pg:=QhF hiP
      simp only [aU] at pg
      cases hE:Vp c.sold s i with
      |true =>
        rw [hE] at hz hS
        simp only [if_true] at hS
        repeat' (first|(apply nx;with_reducible constructor)|refine jq (by decide) ?_|((first|refine kz env fun Q hQ=>?_|refine kj fun Q hQ=>?_);simp only [vkt,seval,wF,yE,qa,qb,qd,mTk,jU,jy,wC,jI,jd,zM,wh,rsO,rsI,List.length_map,Nat.mul_one,hP,hPl,pg,hz,i3,hiP1,e8,e7];(try simp only [ite_and]);(repeat' (first|with_reducible assumption|refine And.intro ?_ ?_|intro hp));all_goals (first|(refine hQ _ ?_;clear hQ Q)|(refine hQ _ (fun h=>?_) (fun h=>?_) <;> clear hQ Q <;> (try simp only [vki,reduceCtorEq] at h))|(refine kx ?_;kernel_rfl)|omega|assumption|with_reducible rfl|skip)))
        refine ⟨⟨i+1,hil⟩,by show c.cabins.length - (i+1) < c.cabins.length - i;omega, ?_⟩
        simp only [rsI,hP,hS,← Nat.add_assoc]
        (refine Le.ok some [] ?_;constructor;all_goals (try simp only [vle,vkt,seval,wF,yE,qa,qb,qd,mTk,jU,jy,wC,jI,jd,zM,wh,rsO,rsI,List.length_map,Nat.mul_one]))
        all_goals first|rfl|(simp [jI];done)
      |false =>
        rw [hE] at hz hS
        simp only [Bool.false_eq_true,if_false,Nat.add_zero] at hS
        repeat' (first|(apply nx;with_reducible constructor)|refine jq (by decide) ?_|((first|refine kz env fun Q hQ=>?_|refine kj fun Q hQ=>?_);simp only [vkt,seval,wF,yE,qa,qb,qd,mTk,jU,jy,wC,jI,jd,zM,wh,rsO,rsI,List.length_map,Nat.mul_one,hP,hPl,pg,hz,i3,hiP1,e8,e7];(try simp only [ite_and]);(repeat' (first|with_reducible assumption|refine And.intro ?_ ?_|intro hp));all_goals (first|(refine hQ _ ?_;clear hQ Q)|(refine hQ _ (fun h=>?_) (fun h=>?_) <;> clear hQ Q <;> (try simp only [vki,reduceCtorEq] at h))|(refine kx ?_;kernel_rfl)|omega|assumption|with_reducible rfl|skip)))
        refine ⟨⟨i+1,hil⟩,by show c.cabins.length - (i+1) < c.cabins.length - i;omega, ?_⟩
        simp only [rsI,hP,hS]
        (refine Le.ok some [] ?_;constructor;all_goals (try simp only [vle,vkt,seval,wF,yE,qa,qb,qd,mTk,jU,jy,wC,jI,jd,zM,wh,rsO,rsI,List.length_map,Nat.mul_one]))
        all_goals first|rfl|(simp [jI];done)
    · have hie:i=c.cabins.length:=by omega
      subst hie
      have hS:=Qak c s
      repeat' (first|(apply nx;with_reducible constructor)|refine jq (by decide) ?_|((first|refine kz env fun Q hQ=>?_|refine kj fun Q hQ=>?_);simp only [vkt,seval,wF,yE,qa,qb,qd,mTk,jU,jy,wC,jI,jd,zM,wh,rsO,rsI,List.length_map,Nat.mul_one,hP,e9];(try simp only [ite_and]);(repeat' (first|with_reducible assumption|refine And.intro ?_ ?_|intro hp));all_goals (first|(refine hQ _ ?_;clear hQ Q)|(refine hQ _ (fun h=>?_) (fun h=>?_) <;> clear hQ Q <;> (try simp only [vki,reduceCtorEq] at h))|(refine kx ?_;kernel_rfl)|omega|assumption|with_reducible rfl|skip)))
      refine ⟨⟨s+1,hlt⟩,by show c.secs.toNat - (s+1) < c.secs.toNat - s;omega, ?_⟩
      simp only [rsO,hS]
      (refine Le.ok some [] ?_;constructor;all_goals (try simp only [vle,vkt,seval,wF,yE,qa,qb,qd,mTk,jU,jy,wC,jI,jd,zM,wh,rsO,rsI,List.length_map,Nat.mul_one]))
      all_goals first|rfl|(simp;done)
  · have hse:s=c.secs.toNat:=by omega
    subst hse
    repeat' (first|(apply nx;with_reducible constructor)|refine jq (by decide) ?_|((first|refine kz env fun Q hQ=>?_|refine kj fun Q hQ=>?_);simp only [vkt,seval,wF,yE,qa,qb,qd,mTk,jU,jy,wC,jI,jd,zM,wh,rsO,rsI,List.length_map,Nat.mul_one];(try simp only [ite_and]);(repeat' (first|with_reducible assumption|refine And.intro ?_ ?_|intro hp));all_goals (first|(refine hQ _ ?_;clear hQ Q)|(refine hQ _ (fun h=>?_) (fun h=>?_) <;> clear hQ Q <;> (try simp only [vki,reduceCtorEq] at h))|(refine kx ?_;kernel_rfl)|omega|assumption|with_reducible rfl|skip)))
    (simp only [vrt,Try.results72,vkt,seval,wF,yE,qa,qb,qd,mTk,jU,jy,wC,jI,jd,zM,wh,rsO,rsI,List.length_map,Nat.mul_one];refine Fin.val rfl ?_;(try simp only [AV.le,AV.leL]))
    all_goals first|rfl|(simp;done)
def Jj:List AV→Prop × AV
  |[.agg [.sl cs,.v (.int .i64 n),.sl ts]]=>(cs=(cs.map qB).map qo∧ts=(ts.map dTk).map eTk∧Van ⟨cs.map qB,n,ts.map dTk⟩,aI (WC (cs.map qB) n (ts.map dTk)))
  |_=>(False,.junk)
theorem Qjv {A:Frm→Prop}:qC A Try.prog 72 (zk true Jj):=zn fun vs hv h=>by
  clear hv
  unfold Jj at h ⊢
  split at h
  · rename_i cs n ts
    obtain ⟨h1,h2,h3⟩:=h
    refine ⟨by simp [aI,AV.plain],fun _=>by simp [aI,AV.flat], ?_⟩
    have:=QiF ⟨cs.map qB,n,ts.map dTk⟩ h3
    simp only [qa,qb,← h1,← h2] at this
    exact this
  · exact h.elim
def QcO (c:Chart):Int:=if wB c=0 then WC c.cabins c.secs c.sold else 0
def Wu:=kk @vg (kk @JH (kk @yI.eq_1 @Wq.eq_1))
def VS:=kk @aI.eq_1 (@aB.eq_1)
theorem QhZ (c:Chart) (hc:c.cabins.length≤maxLen):FnV Try.prog 26 [qa c] (.tup [aI (QcO c),aI (wB c)]):=by
  have env:Env (fun _=>True) Try.prog tyB (tab [(44,zk true zh),(72,zk true Jj)]):=qM ⟨Xt,Qjv,trivial⟩
  refine Fn.of (A:=fun _=>True) (n0:=0) (D:=noD) (Fn0 Try.func26 rfl (fun vs w=>by kernel_rfl) (by kernel_rfl)) (by simp) (by simp [AV.ids,AV.idsL,qa,qb]) (fun i o h=>by cases h) (fun _ _ _ _=>trivial) qH ?_
  have ec:(⟨c.cabins,c.secs,c.sold⟩:Chart)=c:=rfl
  unfold QcO
  by_cases h1:wB c=0
  · have hv:=(Q7 h1).van
    rw [if_pos h1,h1]
    repeat' (first|(apply nx;with_reducible constructor)|refine jq (by decide) ?_|((first|refine kz env fun Q hQ=>?_|refine kj fun Q hQ=>?_);simp only [vkt,seval,Wu,VS,qa,qb,qd,mTk,zh,Jj,List.length_map,ec,h1,hv];(try simp only [ite_and]);(repeat' (first|with_reducible assumption|refine And.intro ?_ ?_|intro hp));all_goals (first|(refine hQ _ ?_;clear hQ Q)|(refine hQ _ (fun h=>?_) (fun h=>?_) <;> clear hQ Q <;> (try simp only [vki,reduceCtorEq] at h))|(refine kx ?_;kernel_rfl)|omega|assumption|with_reducible rfl|skip)))
    (simp only [vrt,Try.results26,vkt,seval,Wu,VS,qa,qb,qd,mTk,zh,Jj,List.length_map];refine Fin.val rfl ?_;(try simp only [AV.le,AV.leL]))
    all_goals first|rfl|(simp;done)
  · rw [if_neg h1]
    repeat' (first|(apply nx;with_reducible constructor)|refine jq (by decide) ?_|((first|refine kz env fun Q hQ=>?_|refine kj fun Q hQ=>?_);simp only [vkt,seval,Wu,VS,qa,qb,qd,mTk,zh,Jj,List.length_map,ec,h1];(try simp only [ite_and]);(repeat' (first|with_reducible assumption|refine And.intro ?_ ?_|intro hp));all_goals (first|(refine hQ _ ?_;clear hQ Q)|(refine hQ _ (fun h=>?_) (fun h=>?_) <;> clear hQ Q <;> (try simp only [vki,reduceCtorEq] at h))|(refine kx ?_;kernel_rfl)|omega|assumption|with_reducible rfl|skip)))
    (simp only [vrt,Try.results26,vkt,seval,Wu,VS,qa,qb,qd,mTk,zh,Jj,List.length_map];refine Fin.val rfl ?_;(try simp only [AV.le,AV.leL]))
    all_goals first|rfl|(simp;done)
end Go.Sym.B
namespace Go.Sym.B
open Go Go.Sym Go.Proofs Go.Sym.C
def bL3 (cs:List Cabin) (s:Int) (l:List Tk):List AObj:=[qf cs s 2,.cells [.ptr 0 0],qh l]
def Xl:=kk @vg (kk @Qb (kk @JO (kk @yI.eq_1 (kk @xE.eq_1 @ZL.eq_1))))
def RZ:=kk @aI.eq_1 (@aB.eq_1)
theorem bb_fn (cs:List Cabin) (s:Int) (l:List Tk) (hv:Van ⟨cs,s,l⟩):Fn noB Try.prog 71 [.ptr 1 0] (qg (qI 0 (bL3 cs s l))) (aI (WC cs s l)) (qg (zT 0 ((bL3 cs s l).map some))) 0:=by
  have env:Env (fun _=>True) Try.prog tyB (tab [(72,zk true Jj)]):=qM ⟨Qjv,trivial⟩
  refine Fn.of (A:=fun _=>True) (n0:=3) (D:=noD) (Fn0 Try.func71 rfl (fun vs w=>by kernel_rfl) (by kernel_rfl)) (by simp) (by simp [AV.ids]) ?_ (fun _ _ _ _=>trivial) qH ?_
  · intro i o hi
    have h:=qL hi
    simp [qI,bL3] at h
    rcases h with ⟨rfl,rfl⟩|⟨rfl,rfl⟩|⟨rfl,rfl⟩ <;> simp [AObj.ids,AV.ids,AV.idsL,qf,qh]
  show Sym _ _ _ (zq [.ptr 1 0] 3 (qg [(0,qf cs s 2),(1,.cells [.ptr 0 0]),(2,qh l)])) (yB tyB noD Try.f71 fun S rv=>Fin S rv _ 3 (qg [(0,qf cs s 2),(1,.cells [.ptr 0 0]),(2,qh l)]) 0)
  repeat' (first|(apply nx;with_reducible constructor)|refine jq (by decide) ?_|((first|refine kz env fun Q hQ=>?_|refine kj fun Q hQ=>?_);simp only [vkt,seval,Xl,RZ,qd,mTk,qf,qh,bL3,Jj,List.length_map,hv];(try simp only [ite_and]);(repeat' (first|with_reducible assumption|refine And.intro ?_ ?_|intro hp));all_goals (first|(refine hQ _ ?_;clear hQ Q)|(refine hQ _ (fun h=>?_) (fun h=>?_) <;> clear hQ Q <;> (try simp only [vki,reduceCtorEq] at h))|(refine kx ?_;kernel_rfl)|omega|assumption|with_reducible rfl|skip)))
  (simp only [vrt,Try.results71,vkt,seval,Xl,RZ,qd,mTk,qf,qh,bL3,Jj,List.length_map];refine Fin.ok some [] ?_ ?_ ?_ ?_ ?_ rfl;all_goals (try simp only [vle,vkt,seval,Xl,RZ,qd,mTk,qf,qh,bL3,Jj,List.length_map]))
  all_goals first|rfl|(simp;done)|exact fun i hi=>(match i,hi with|0,_=>rfl|1,_=>rfl|2,_=>rfl)
def yf (c:Chart) (a:Ask):List AObj:=[qf c.cabins c.secs 2,.cells [.ptr 0 0],qh c.sold,.cells (qj a)]
def vN (c:Chart) (a:Ask) (j:Nat):List AV:=[.agg [qc ((plP c a).getD j default).1,.clo 71 [.ptr 1 0]]]
def yC (c:Chart) (a:Ask) (j:Nat):List AObj:=bL3 c.cabins c.secs ((plP c a).getD j default).2
def bgL0:List (Nat × AV):=[(1,.ptr 1 0),(3,.ptr 4 0),(7,.clo 114 [.ptr 5 0,.ptr 6 0])]
def bgL:List (Nat × AV):=[(1,.ptr 1 0),(3,.ptr 4 0)]
def bgH (a:Ask):List (Nat × AObj):=[(1,.cells [.ptr 0 0]),(3,.cells (qj a)),(4,.cells [.cb])]
theorem XJ (c:Chart) (a:Ask):za [0,2,5,6] 8 0 (plL c a)=[(0,qf c.cabins c.secs 2),(2,qh c.sold),(5,.cells [.ptr 0 0]),(6,.cells (qj a))]:=by
  simp [za,plL,qy,AObj.ren,AV.renL,AV.ren,qf,qh,qj]
theorem U5 (c:Chart) (a:Ask) (j:Nat):za [0] 8 0 (plH c a j)=[(0,qf c.cabins c.secs 8),(8,qh ((plP c a).getD j default).2)]:=by
  simp [za,plH,qm,qy,AObj.ren,AV.renL,AV.ren,qf,qh]
def vw:=kk @kX (kk @Qb (kk @ty115 (kk @QjA (kk @xB.eq_1 (kk @xE.eq_1 (kk @Qc4.eq_1 @La.eq_1))))))
def xJ:=kk @aI.eq_1 (kk @aB.eq_1 (@kW))
theorem QhL {c:Chart} {a:Ask} (h:PlOk c a):QaA Try.prog 70 [.cb,.ptr 1 0,.ptr 3 0] (nth ((yf c a).take 2)) (nth (yf c a)) (vN c a) (plP c a).length (fun j=>nth (yC c a j)) (fun _ _=>.tup []):=by
  intro ans R hr
  rw [ZO,ZO]
  obtain ⟨A0,hA0⟩:∃ A0:Frm→Prop,A0=fun F=>F.r=none∧Acb Try.prog (qg (qI 0 ((yf c a).take 2))) (qg (qI 0 (yf c a))) (vN c a) (fun j=>nth (yC c a j)) ans R F:=⟨_,rfl⟩
  have hr0:∀ F,A0 F→F.r=none:=fun F h=>by rw [hA0] at h;exact h.1
  have hA:∀ F,A0 F→Acb Try.prog (qg (qI 0 ((yf c a).take 2))) (qg (qI 0 (yf c a))) (vN c a) (fun j=>nth (yC c a j)) ans R F:=fun F h=>by rw [hA0] at h;exact h.2
  have hp2:∀ i o,qg (qI 0 ((yf c a).take 2)) i=some o→i=0∨i=1:=fun i o hi=>by
    rw [jF,if_neg (by omega)] at hi
    have:=(List.getElem?_eq_some_iff.1 hi).1
    simp [yf] at this
    omega
  have env:Env A0 Try.prog tyB (tab [(68,fnE qF)]):=qM ⟨Yg,trivial⟩
  refine Fn.of (A:=A0) (n0:=4) (D:=noD) (Fn0 Try.func70 rfl (fun vs w=>by kernel_rfl) (by kernel_rfl)) (by simp) (by simp [AV.ids]) ?_ (fun F hb h0 h1=>by rw [hA0];exact ⟨h1,h0,fun i o hi=>(by rcases hp2 i o hi with rfl|rfl <;> exact ⟨_,rfl⟩),hb⟩) qH ?_
  · intro i o hi
    have h:=qL hi
    simp [qI,yf] at h
    rcases h with ⟨rfl,rfl⟩|⟨rfl,rfl⟩|⟨rfl,rfl⟩|⟨rfl,rfl⟩ <;> simp [AObj.ids,AV.ids,AV.idsL,qf,qh,qj]
  show Sym _ _ _ (zq [.cb,.ptr 1 0,.ptr 3 0] 4 (qg [(0,qf c.cabins c.secs 2),(1,.cells [.ptr 0 0]),(2,qh c.sold),(3,.cells (qj a))])) (yB tyB noD Try.f70 fun S rv=>Fin S rv _ 4 (qg [(0,qf c.cabins c.secs 2),(1,.cells [.ptr 0 0]),(2,qh c.sold),(3,.cells (qj a))]) R)
  repeat' (first|(apply nx;with_reducible constructor)|refine jq (by decide) ?_|((first|refine kz env fun Q hQ=>?_|refine kj fun Q hQ=>?_);simp only [vkt,seval,vw,xJ,qw,qj,qc,mTk,qd,qf,qh,qm,plL,bgL,qF,bL3,vN,yC,List.length_map,Go.Sym.tabC,cbX,zS,qR,nth,hwL,Nat.zero_add,Nat.sub_zero,Nat.add_zero];(try simp only [ite_and]);(repeat' (first|with_reducible assumption|refine And.intro ?_ ?_|intro hp));all_goals (first|(refine hQ _ ?_;clear hQ Q)|(refine hQ _ (fun h=>?_) (fun h=>?_) <;> clear hQ Q <;> (try simp only [vki,reduceCtorEq] at h))|(refine kx ?_;kernel_rfl)|omega|assumption|with_reducible rfl|skip)))
  refine xO (S':={ t:=asg bgL0,h:=qg (bgH a++[(0,qf c.cabins c.secs 2),(2,qh c.sold),(5,.cells [.ptr 0 0]),(6,.cells (qj a))]),n:=7,j:=0,d:=[],m:=4 }) ?_ ?_
  · show Le _ { t:=asg [(1,.ptr 1 0),(3,.ptr 4 0),(7,.clo 114 [.ptr 5 0,.ptr 6 0])],h:=qg [(1,.cells [.ptr 0 0]),(3,.cells (qj a)),(4,.cells [.cb]),(0,qf c.cabins c.secs 2),(2,qh c.sold),(5,.cells [.ptr 0 0]),(6,.cells (qj a))],n:=7,j:=0,d:=[],m:=4 }
    (refine Le.ok some [] ?_;constructor;all_goals (try simp only [vle,vkt,seval,vw,xJ,qw,qj,qc,mTk,qd,qf,qh,qm,plL,bgL,qF,bL3,vN,yC,List.length_map,Go.Sym.tabC,cbX,zS,qR,nth,hwL,Nat.zero_add,Nat.sub_zero,Nat.add_zero]))
    all_goals first|rfl|(simp;done)
  rw [← XJ c a]
  refine vV hr0 1 (L:=bgL0) (L':=bgL) (xs:=[2]) (hs:=[0,2,5,6]) (n:=7) (nl:=1) (hc:=fun _=>bgH a) (Lp:=plL c a) (jj:=fun j=>j) (d:=[]) (ys:=plY c a) (hl:=plH c a) (ans:=ans) (ex:=.ret) (caps:=[.ptr 5 0,.ptr 6 0]) (caps0:=[.ptr 2 0,.ptr 3 0]) (N:=(plP c a).length) (R:=R) (A':=fun j=>Acb Try.prog (qg (qI 0 ((yf c a).take 2))) (qg ((7,.mark) :: bgH a++za [0] 8 0 (plH c a j))) (fun k=>vN c a (j+k)) (fun k=>nth (yC c a (j+k))) (fun k=>ans (j+k)) (R - j)) rfl (Jq h) hr (.inl rfl) ?_ ?_ ?_ rfl (by simp) ?_ (by simp) ?_ ?_ ?_ ?_ ?_ ?_ ?_ (fun j hj=>?_) ?_ (fun j hj=>?_) (fun _=>?_) (fun hpos hlast=>?_)
  · simp [AV.leL,AV.le]
  · simp [AV.nocbL,AV.nocb]
  · simp [WW,plL,qf,qh,qj,AObj.nocb,AV.nocbL,AV.nocb,AObj.ids,AV.ids,AV.idsL,AObj.ren,AV.renL,AV.ren,AObj.le,AV.leL,AV.le,qy]
  · simp [bgH,qg]
  · intro F hF j hj F' hR
    refine KR (hA F hF) hR fun i o hi=>?_
    rcases hp2 i o hi with rfl|rfl
    · exact ⟨_,rfl⟩
    · exact ⟨_,rfl⟩
  · simp [bgH,qg]
  · simp [bgH,AObj.ids,AV.ids,AV.idsL,qj]
  · simp [RU,bgL,bgL0,asg,upd]
  · simp [LD]
  · intro j hj
    simp [absent,bgH,U5]
  · simp [YN,bgL,AV.ids]
  · refine ⟨?_,rfl, ?_, ?_,rfl, ?_⟩
    · simp [QR,bgH,AObj.ids,AV.ids,AV.idsL,qj]
    · simp [WA,plH,qm,qf,qh,AObj.nocb,AV.nocbL,AV.nocb,AObj.ids,AV.ids,AV.idsL]
    · simp [VG,plY,qc,AV.nocb,AV.ids]
    · simp [QG,WS,U5,bgH,bgL,kG,AV.ids,ADf.ids,List.range_succ]
  · simp [QR,bgH,AObj.ids,AV.ids,AV.idsL,qj]
  · obtain ⟨x,hx⟩:∃ x,((plP c a).getD j default).1=x:=⟨_,rfl⟩
    obtain ⟨r,hr2⟩:∃ r,((plP c a).getD j default).2=r:=⟨_,rfl⟩
    obtain ⟨A1,hA1⟩:∃ A1:Frm→Prop,A1=Acb Try.prog (qg (qI 0 ((yf c a).take 2))) (qg ((7,.mark) :: bgH a++za [0] 8 0 (plH c a j))) (fun k=>vN c a (j+k)) (fun k=>nth (yC c a (j+k))) (fun k=>ans (j+k)) (R - j):=⟨_,rfl⟩
    rw [← hA1]
    have hB:∀ F,A1 F→Acb Try.prog (qg (qI 0 ((yf c a).take 2))) (qg ((7,.mark) :: bgH a++za [0] 8 0 (plH c a j))) (fun k=>vN c a (j+k)) (fun k=>nth (yC c a (j+k))) (fun k=>ans (j+k)) (R - j) F:=fun F h=>hA1 ▸ h
    have env:Env A1 Try.prog tyB (Go.Sym.tabC (cbX [0,1,8] (fun k=>vN c a (j+k)) (fun k=>yC c a (j+k)) (fun k=>ans (j+k)) (R - j)) []):=⟨X3,U2 (fun S bs h hS ops o g args tys caps hw ho hg hb=>YV hB (fun i o hi=>by rcases hp2 i o hi with rfl|rfl <;> rfl) (by simp) h hS hw ho hg hb) trivial,by kernel_rfl⟩
    have hst:jA bgL [8] [0] 7 1 (plY c a j) (bgH a) (plH c a j)={ t:=asg [(8,qc x),(1,.ptr 1 0),(3,.ptr 4 0)],h:=qg [(7,.mark),(1,.cells [.ptr 0 0]),(3,.cells (qj a)),(4,.cells [.cb]),(0,qf c.cabins c.secs 8),(8,qh r)],n:=9,m:=9 }:=by
      simp only [jA,Nat.reduceAdd,U5,plY,hx,hr2,qc,List.map_cons,List.map_nil,AV.ren,List.zip_cons_cons,List.zip_nil_right,bgH,bgL,Zt,List.cons_append,List.nil_append]
      rfl
    show Sym _ _ _ (jA bgL [8] [0] 7 1 (plY c a j) (bgH a) (plH c a j)) _
    rw [hst]
    have hjR:0 < R - j:=by omega
    cases hb:ans j with
    |true =>
      repeat' (first|(apply nx;with_reducible constructor)|refine jq (by decide) ?_|((first|refine kz env fun Q hQ=>?_|refine kj fun Q hQ=>?_);simp only [vkt,seval,vw,xJ,qw,qj,qc,mTk,qd,qf,qh,qm,plL,bgL,qF,bL3,vN,yC,List.length_map,Go.Sym.tabC,cbX,zS,qR,nth,hwL,Nat.zero_add,Nat.sub_zero,Nat.add_zero,hx,hr2,hjR,hb];(try simp only [ite_and]);(repeat' (first|with_reducible assumption|refine And.intro ?_ ?_|intro hp));all_goals (first|(refine hQ _ ?_;clear hQ Q)|(refine hQ _ (fun h=>?_) (fun h=>?_) <;> clear hQ Q <;> (try simp only [vki,reduceCtorEq] at h))|(refine kx ?_;kernel_rfl)|omega|assumption|with_reducible rfl|skip)))
      refine ⟨by rw [hb];rfl,rfl,some,_,RFin.okQ some [] ?_⟩
      constructor
      all_goals (try simp only [vle,xz,xw,qy,plH,bgH,hr2,vkt,seval,vw,xJ,qw,qj,qc,mTk,qd,qf,qh,qm,plL,bgL,qF,bL3,vN,yC,List.length_map,Go.Sym.tabC,cbX,zS,qR,nth,hwL,Nat.zero_add,Nat.sub_zero,Nat.add_zero])
      all_goals first|rfl|(simp;done)|(simp [qj,AV.leL,AV.le];done)
    |false =>
      repeat' (first|(apply nx;with_reducible constructor)|refine jq (by decide) ?_|((first|refine kz env fun Q hQ=>?_|refine kj fun Q hQ=>?_);simp only [vkt,seval,vw,xJ,qw,qj,qc,mTk,qd,qf,qh,qm,plL,bgL,qF,bL3,vN,yC,List.length_map,Go.Sym.tabC,cbX,zS,qR,nth,hwL,Nat.zero_add,Nat.sub_zero,Nat.add_zero,hx,hr2,hjR,hb];(try simp only [ite_and]);(repeat' (first|with_reducible assumption|refine And.intro ?_ ?_|intro hp));all_goals (first|(refine hQ _ ?_;clear hQ Q)|(refine hQ _ (fun h=>?_) (fun h=>?_) <;> clear hQ Q <;> (try simp only [vki,reduceCtorEq] at h))|(refine kx ?_;kernel_rfl)|omega|assumption|with_reducible rfl|skip)))
      refine ⟨by rw [hb];rfl,rfl,some,_,RFin.okQ some [] ?_⟩
      constructor
      all_goals (try simp only [vle,xz,xw,qy,plH,bgH,hr2,vkt,seval,vw,xJ,qw,qj,qc,mTk,qd,qf,qh,qm,plL,bgL,qF,bL3,vN,yC,List.length_map,Go.Sym.tabC,cbX,zS,qR,nth,hwL,Nat.zero_add,Nat.sub_zero,Nat.add_zero])
      all_goals first|rfl|(simp;done)|(simp [qj,AV.leL,AV.le];done)
  · have eh:qg ((7,AObj.mark) :: bgH a++za [0,2,5,6] (7+1) 0 (plL c a))=qg [(7,.mark),(1,.cells [.ptr 0 0]),(3,.cells (qj a)),(4,.cells [.cb]),(0,qf c.cabins c.secs 2),(2,qh c.sold),(5,.cells [.ptr 0 0]),(6,.cells (qj a))]:=by
      rw [show za [0,2,5,6] (7+1) 0 (plL c a)=za [0,2,5,6] 8 0 (plL c a) from rfl,XJ];rfl
    rw [eh]
    repeat' (first|(apply nx;with_reducible constructor)|refine jq (by decide) ?_|((first|refine kz env fun Q hQ=>?_|refine kj fun Q hQ=>?_);simp only [vkt,seval,vw,xJ,qw,qj,qc,mTk,qd,qf,qh,qm,plL,bgL,qF,bL3,vN,yC,List.length_map,Go.Sym.tabC,cbX,zS,qR,nth,hwL,Nat.zero_add,Nat.sub_zero,Nat.add_zero];(try simp only [ite_and]);(repeat' (first|with_reducible assumption|refine And.intro ?_ ?_|intro hp));all_goals (first|(refine hQ _ ?_;clear hQ Q)|(refine hQ _ (fun h=>?_) (fun h=>?_) <;> clear hQ Q <;> (try simp only [vki,reduceCtorEq] at h))|(refine kx ?_;kernel_rfl)|omega|assumption|with_reducible rfl|skip)))
    (simp only [vrt,Try.results70,vkt,seval,vw,xJ,qw,qj,qc,mTk,qd,qf,qh,qm,plL,bgL,qF,bL3,vN,yC,List.length_map,Go.Sym.tabC,cbX,zS,qR,nth,hwL,Nat.zero_add,Nat.sub_zero,Nat.add_zero];refine Fin.ok some [] ?_ ?_ ?_ ?_ ?_ rfl;all_goals (try simp only [vle,vkt,seval,vw,xJ,qw,qj,qc,mTk,qd,qf,qh,qm,plL,bgL,qF,bL3,vN,yC,List.length_map,Go.Sym.tabC,cbX,zS,qR,nth,hwL,Nat.zero_add,Nat.sub_zero,Nat.add_zero]))
    all_goals first|rfl|(simp [qj,AV.leL,AV.le];done)|exact fun i hi=>(match i,hi with|0,_=>rfl|1,_=>rfl|2,_=>rfl|3,_=>rfl)
  · have eh:qg ((7,AObj.mark) :: bgH a++za [0,2,5,6] (7+1) 0 (plL c a))=qg [(7,.mark),(1,.cells [.ptr 0 0]),(3,.cells (qj a)),(4,.cells [.cb]),(0,qf c.cabins c.secs 2),(2,qh c.sold),(5,.cells [.ptr 0 0]),(6,.cells (qj a))]:=by
      rw [show za [0,2,5,6] (7+1) 0 (plL c a)=za [0,2,5,6] 8 0 (plL c a) from rfl,XJ];rfl
    rw [eh]
    repeat' (first|(apply nx;with_reducible constructor)|refine jq (by decide) ?_|((first|refine kz env fun Q hQ=>?_|refine kj fun Q hQ=>?_);simp only [vkt,seval,vw,xJ,qw,qj,qc,mTk,qd,qf,qh,qm,plL,bgL,qF,bL3,vN,yC,List.length_map,Go.Sym.tabC,cbX,zS,qR,nth,hwL,Nat.zero_add,Nat.sub_zero,Nat.add_zero];(try simp only [ite_and]);(repeat' (first|with_reducible assumption|refine And.intro ?_ ?_|intro hp));all_goals (first|(refine hQ _ ?_;clear hQ Q)|(refine hQ _ (fun h=>?_) (fun h=>?_) <;> clear hQ Q <;> (try simp only [vki,reduceCtorEq] at h))|(refine kx ?_;kernel_rfl)|omega|assumption|with_reducible rfl|skip)))
    (simp only [vrt,Try.results70,vkt,seval,vw,xJ,qw,qj,qc,mTk,qd,qf,qh,qm,plL,bgL,qF,bL3,vN,yC,List.length_map,Go.Sym.tabC,cbX,zS,qR,nth,hwL,Nat.zero_add,Nat.sub_zero,Nat.add_zero];refine Fin.ok some [] ?_ ?_ ?_ ?_ ?_ rfl;all_goals (try simp only [vle,vkt,seval,vw,xJ,qw,qj,qc,mTk,qd,qf,qh,qm,plL,bgL,qF,bL3,vN,yC,List.length_map,Go.Sym.tabC,cbX,zS,qR,nth,hwL,Nat.zero_add,Nat.sub_zero,Nat.add_zero]))
    all_goals first|rfl|(simp [qj,AV.leL,AV.le];done)|exact fun i hi=>(match i,hi with|0,_=>rfl|1,_=>rfl|2,_=>rfl|3,_=>rfl)
end Go.Sym.B
namespace Go.Sym.B
open Go Go.Sym Go.Proofs Go.Sym.C
theorem KC {cs:List Cabin} {a:Ask} {p:Tk→Prop}:∀ (m:Nat) (sold:List Tk) (begun:List Bunk),(∀ t ∈ sold,p t)→(∀ i b,i < begun.length+m→b ∈ qV cs→p (kD a i b))→∀ x ∈ ww cs a m sold begun,(∀ t ∈ x.2,p t)∧x.2.length=sold.length+m
  |0,sold,begun,h1,_,x,hx=>by
    simp only [ww,List.mem_singleton] at hx
    subst hx
    exact ⟨h1,rfl⟩
  |m+1,sold,begun,h1,h2,x,hx=>by
    rw [xR,List.mem_flatMap] at hx
    obtain ⟨b,hb,hx⟩:=hx
    unfold gbL at hx
    split at hx
    · obtain ⟨g1,g2⟩:=KC m _ _ (fun t ht=>by
        rcases List.mem_append.1 ht with ht|ht
        · exact h1 t ht
        · rw [List.mem_singleton.1 ht];exact h2 _ _ (by omega) hb) (fun i b' hi hb'=>h2 i b' (by simp at hi;omega) hb') x hx
      exact ⟨g1,by rw [g2];simp;omega⟩
    · simp at hx
theorem QhK {c:Chart} {a:Ask} (h:wy c a=0) {i:Nat} (hi:i < a.sexes.length) {b:Bunk} (hb:b ∈ qV c.cabins):TkOk c (kD a i b):=by
  have hk:=(yS h).2
  unfold xh at hk
  split at hk
  · exact absurd hk (by decide)
  rename_i h1
  split at hk
  · exact absurd hk (by decide)
  split at hk
  · exact absurd hk ‹_›
  rename_i h3
  split at hk
  · exact absurd hk ‹_›
  have g1:inB a.party 1 99=true:=by simpa using h1
  obtain ⟨w1,w2,w3⟩:=R9 (Decidable.not_not.1 h3)
  have gs:=Zx hk _ (List.mem_map.2 ⟨a.sexes.getD i 0,vL hi,rfl⟩)
  have g2:inB (a.sexes.getD i 0) 1 2=true:=by
    cases hq:inB (a.sexes.getD i 0) 1 2 with
    |true=>rfl
    |false=>rw [hq] at gs;exact absurd gs (by decide)
  obtain ⟨x,y,b1,b2,rfl⟩:=XC.1 hb
  refine ⟨yc.1 g1,yc.1 g2,⟨Int.natCast_nonneg _,by simpa [kD] using b1⟩,⟨Int.natCast_nonneg _, ?_⟩,w1,w2,w3⟩
  show (y:Int) < (c.cabins.getD ((x:Int)).toNat default).beds
  rw [Int.toNat_natCast]
  omega
theorem Qkg {c:Chart} {a:Ask} (h:wy c a=0) {j:Nat} (hj:j < (plP c a).length):Van ⟨c.cabins,c.secs,((plP c a).getD j default).2⟩:=by
  have hv:=Q7 (yS h).1
  have hs:=(Kz (yS h).2).1
  obtain ⟨g1,g2⟩:=KC (p:=TkOk c) a.sexes.length c.sold [] hv.tk (fun i b hi hb=>QhK h (by simpa using hi) hb) _ (vL (d:=default) hj)
  have hm:=hv.many
  exact ⟨⟨hv.car.cabs,hv.car.beds,hv.car.secs⟩,by show ((plP c a).getD j default).2.length≤100;rw [show ((plP c a).getD j default).2.length=c.sold.length+a.sexes.length from g2];omega,fun t ht=>⟨(g1 t ht).party,(g1 t ht).sex,(g1 t ht).cab,(g1 t ht).bed,(g1 t ht).frm,(g1 t ht).way,(g1 t ht).to⟩⟩
def pBb (S:St):List AV→Option Pk
  |[.ptr q 0]=>match S.h q with
    |some (.cells [.ptr p 0])=>match S.h p with
      |some (.cells [.sl cs,.v (.int .i64 s),.row r])=>match S.h r with
        |some (.row _ _ xs)=>some { pre:=cs=(cs.map qB).map qo∧xs=(xs.map dTk).map eTk∧Van ⟨cs.map qB,s,xs.map dTk⟩,hs:=[p,q,r],ar:=[.ptr 1 0],L0:=bL3 (cs.map qB) s (xs.map dTk),v:=aI (WC (cs.map qB) s (xs.map dTk)),L1:=(bL3 (cs.map qB) s (xs.map dTk)).map some }
        |_=>none
      |_=>none
    |_=>none
  |_=>none
theorem eBb {A:Frm→Prop}:qC A Try.prog 71 (fnE pBb):=zx fun S bs q h hp=>by
  unfold pBb at h
  split at h
  · split at h
    · split at h
      · split at h
        · cases h;exact bb_fn _ _ _ hp.2.2
        · cases h
      · cases h
    · cases h
  · cases h
def bsK (c:Chart) (a:Ask):Nat→Bool × List Bunk × Int
  |0=>(false,[],0)
  |j+1=>if !(bsK c a j).1 || decide ((bsK c a j).2.2 < WC c.cabins c.secs ((plP c a).getD j default).2) then (true,((plP c a).getD j default).1,WC c.cabins c.secs ((plP c a).getD j default).2) else bsK c a j
end Go.Sym.B
namespace Go.Sym.B
open Go Go.Sym Go.Proofs Go.Sym.C
def beL0:List (Nat × AV):=[(2,.ptr 4 0),(3,.ptr 5 0),(4,.ptr 6 0),(7,.clo 70 [.ptr 1 0,.ptr 3 0])]
def beL:List (Nat × AV):=[(2,.ptr 4 0),(3,.ptr 5 0),(4,.ptr 6 0)]
def beH (c:Chart) (a:Ask) (j:Nat):List (Nat × AObj):=[(4,.cells [.sl ((bsK c a j).2.1.map qp)]),(5,.cells [aB (bsK c a j).1]),(6,.cells [aI (bsK c a j).2.2])]
theorem XK (c:Chart) (a:Ask):za [0,1,2,3] 8 0 (yf c a)=[(0,qf c.cabins c.secs 2),(1,.cells [.ptr 0 0]),(2,qh c.sold),(3,.cells (qj a))]:=by
  simp [za,yf,qy,AObj.ren,AV.renL,AV.ren,qf,qh,qj]
theorem Uh (c:Chart) (a:Ask) (j:Nat):za [0,1] 8 0 (yC c a j)=[(0,qf c.cabins c.secs 8),(1,.cells [.ptr 0 0]),(8,qh ((plP c a).getD j default).2)]:=by
  simp [za,yC,bL3,qy,AObj.ren,AV.renL,AV.ren,qf,qh]
def j5:=kk @ty3 (kk @ty4 (kk @JI (kk @kZ (kk @ty119 (kk @QjA (kk @ti3.eq_1 (kk @ti4.eq_1 (kk @Wi.eq_1 (kk @xQ.eq_1 (kk @Qdl.eq_1 @La.eq_1))))))))))
def kK:=kk @aI.eq_1 (@aB.eq_1)
theorem QiS {c:Chart} {a:Ask} (h:wy c a=0):Fn noB Try.prog 69 [.clo 70 [.ptr 1 0,.ptr 3 0]] (qg (qI 0 (yf c a))) (.tup [.sl ((bsK c a (plP c a).length).2.1.map qp),aB (bsK c a (plP c a).length).1]) (qg (zT 0 ((yf c a).map some))) 0:=by
  have hok:=Wj h
  have env:Env (fun F=>F.r=none) Try.prog tyB (tab []):=qM trivial
  refine Fn.of (A:=fun F=>F.r=none) (n0:=4) (D:=noD) (Fn0 Try.func69 rfl (fun vs w=>by kernel_rfl) (by kernel_rfl)) (by simp) (by simp [AV.ids,AV.idsL]) ?_ (fun _ _ _ h=>h) qH ?_
  · intro i o hi
    have h:=qL hi
    simp [qI,yf] at h
    rcases h with ⟨rfl,rfl⟩|⟨rfl,rfl⟩|⟨rfl,rfl⟩|⟨rfl,rfl⟩ <;> simp [AObj.ids,AV.ids,AV.idsL,qf,qh,qj]
  obtain ⟨N,hN⟩:∃ N,(plP c a).length=N:=⟨_,rfl⟩
  rw [hN]
  show Sym _ _ _ (zq [.clo 70 [.ptr 1 0,.ptr 3 0]] 4 (qg [(0,qf c.cabins c.secs 2),(1,.cells [.ptr 0 0]),(2,qh c.sold),(3,.cells (qj a))])) (yB tyB noD Try.f69 fun S rv=>Fin S rv _ 4 (qg [(0,qf c.cabins c.secs 2),(1,.cells [.ptr 0 0]),(2,qh c.sold),(3,.cells (qj a))]) 0)
  repeat' (first|(apply nx;with_reducible constructor)|refine jq (by decide) ?_|((first|refine kz env fun Q hQ=>?_|refine kj fun Q hQ=>?_);simp only [vkt,seval,j5,kK,qc,mTk,qd,qf,qh,bL3,pBb,beL,List.length_map,nth,hwL,Nat.zero_add,Nat.sub_zero];(try simp only [ite_and]);(repeat' (first|with_reducible assumption|refine And.intro ?_ ?_|intro hp));all_goals (first|(refine hQ _ ?_;clear hQ Q)|(refine hQ _ (fun h=>?_) (fun h=>?_) <;> clear hQ Q <;> (try simp only [vki,reduceCtorEq] at h))|(refine kx ?_;kernel_rfl)|omega|assumption|with_reducible rfl|skip)))
  refine xO (S':={ t:=asg beL0,h:=qg (beH c a 0++[(0,qf c.cabins c.secs 2),(1,.cells [.ptr 0 0]),(2,qh c.sold),(3,.cells (qj a))]),n:=7,j:=0,d:=[],m:=4 }) ?_ ?_
  · show Le _ { t:=asg [(2,.ptr 4 0),(3,.ptr 5 0),(4,.ptr 6 0),(7,.clo 70 [.ptr 1 0,.ptr 3 0])],h:=qg [(4,.cells [.sl []]),(5,.cells [aB false]),(6,.cells [aI 0]),(0,qf c.cabins c.secs 2),(1,.cells [.ptr 0 0]),(2,qh c.sold),(3,.cells (qj a))],n:=7,j:=0,d:=[],m:=4 }
    (refine Le.ok some [] ?_;constructor;all_goals (try simp only [vle,vkt,seval,j5,kK,qc,mTk,qd,qf,qh,bL3,pBb,beL,List.length_map,nth,hwL,Nat.zero_add,Nat.sub_zero]))
    all_goals first|rfl|(simp [qj,AV.leL,AV.le,AV.idsL,AV.ids];done)
  rw [← XK c a]
  refine vV (fun F h=>h) 2 (L:=beL0) (L':=beL) (xs:=[2,3]) (hs:=[0,1,2,3]) (n:=7) (nl:=1) (hc:=beH c a) (Lp:=yf c a) (jj:=fun _=>0) (d:=[]) (ys:=vN c a) (hl:=yC c a) (ans:=fun _=>true) (ex:=.ret) (caps:=[.ptr 1 0,.ptr 3 0]) (caps0:=[.ptr 1 0,.ptr 3 0]) (N:=(plP c a).length) (R:=N) (A':=fun _ _=>True) rfl (QhL hok) (by rw [hN];exact RA) (.inl rfl) ?_ ?_ ?_ rfl (by simp) ?_ (by simp) (fun _ _ _ _ _ _=>trivial) ?_ ?_ ?_ ?_ ?_ ?_ (fun j hj=>?_) ?_ (fun j hj=>?_) (fun _=>?_) (fun _ h=>by cases h)
  · simp [AV.leL,AV.le]
  · simp [AV.nocbL,AV.nocb]
  · simp [WW,yf,qf,qh,qj,AObj.nocb,AV.nocbL,AV.nocb,AObj.ids,AV.ids,AV.idsL,AObj.ren,AV.renL,AV.ren,AObj.le,AV.leL,AV.le,qy]
  · simp [beH,qg]
  · simp [beH,qg]
  · simp [beH,AObj.ids,AV.ids,AV.idsL,aB,aI]
  · simp [RU,beL,beL0,asg,upd]
  · simp [LD]
  · intro j hj
    simp [absent,beH,Uh]
  · simp [YN,beL,AV.ids]
  · refine ⟨?_,rfl, ?_, ?_,rfl, ?_⟩
    · simp [QR,beH,AObj.ids,AV.ids,AV.idsL,aB,aI]
    · simp [WA,yC,bL3,qf,qh,AObj.nocb,AV.nocbL,AV.nocb,AObj.ids,AV.ids,AV.idsL]
    · simp [VG,vN,qc,AV.nocb,AV.nocbL,AV.ids,AV.idsL]
    · simp [QG,WS,Uh,beH,beL,kG,AV.ids,ADf.ids,List.range_succ]
  · simp [QR,beH,AObj.ids,AV.ids,AV.idsL,aB,aI]
  · have env:Env (fun _:Frm=>True) Try.prog tyB (tab [(71,fnE pBb)]):=qM ⟨eBb,trivial⟩
    have hvan:=Qkg h (j:=j) (by omega)
    have hS:bsK c a (j+1)=if !(bsK c a j).1 || decide ((bsK c a j).2.2 < WC c.cabins c.secs ((plP c a).getD j default).2) then (true,((plP c a).getD j default).1,WC c.cabins c.secs ((plP c a).getD j default).2) else bsK c a j:=rfl
    obtain ⟨⟨x,r⟩,hx⟩:∃ x,(plP c a).getD j default=x:=⟨_,rfl⟩
    obtain ⟨⟨f,p,v⟩,hK⟩:∃ x,bsK c a j=x:=⟨_,rfl⟩
    simp only [hx,hK] at hS hvan
    obtain ⟨w,hw⟩:∃ w,WC c.cabins c.secs r=w:=⟨_,rfl⟩
    rw [hw] at hS
    have hst:jA beL [8] [0,1] 7 1 (vN c a j) (beH c a j) (yC c a j)={ t:=asg [(8,.agg [qc x,.clo 71 [.ptr 1 0]]),(2,.ptr 4 0),(3,.ptr 5 0),(4,.ptr 6 0)],h:=qg [(7,.mark),(4,.cells [.sl (p.map qp)]),(5,.cells [aB f]),(6,.cells [aI v]),(0,qf c.cabins c.secs 8),(1,.cells [.ptr 0 0]),(8,qh r)],n:=9,m:=9 }:=by
      simp only [jA,Nat.reduceAdd,Uh,vN,hx,hK,qc,List.map_cons,List.map_nil,AV.ren,AV.renL,List.zip_cons_cons,List.zip_nil_right,beH,beL,Zt,List.cons_append,List.nil_append]
      rfl
    show Sym _ _ _ (jA beL [8] [0,1] 7 1 (vN c a j) (beH c a j) (yC c a j)) _
    rw [hst]
    cases f with
    |false =>
      simp only [Bool.not_false,Bool.true_or,if_true] at hS
      repeat' (first|(apply nx;with_reducible constructor)|refine jq (by decide) ?_|((first|refine kz env fun Q hQ=>?_|refine kj fun Q hQ=>?_);simp only [vkt,seval,j5,kK,qc,mTk,qd,qf,qh,bL3,pBb,beL,List.length_map,nth,hwL,Nat.zero_add,Nat.sub_zero,hvan,hw];(try simp only [ite_and]);(repeat' (first|with_reducible assumption|refine And.intro ?_ ?_|intro hp));all_goals (first|(refine hQ _ ?_;clear hQ Q)|(refine hQ _ (fun h=>?_) (fun h=>?_) <;> clear hQ Q <;> (try simp only [vki,reduceCtorEq] at h))|(refine kx ?_;kernel_rfl)|omega|assumption|with_reducible rfl|skip)))
      all_goals (refine ⟨rfl,rfl,some,_,RFin.okQ some [] ?_⟩;constructor)
      all_goals (try simp only [vle,xz,xw,qy,yC,beH,hx,hS,vkt,seval,j5,kK,qc,mTk,qd,qf,qh,bL3,pBb,beL,List.length_map,nth,hwL,Nat.zero_add,Nat.sub_zero])
      all_goals first|rfl|(simp;done)|(simp [beL,kG,AV.ids,ADf.ids,List.range_succ];done)
    |true =>
      cases hd:decide (v < w) with
      |true =>
        simp only [hd,Bool.not_true,Bool.false_or,if_true] at hS
        repeat' (first|(apply nx;with_reducible constructor)|refine jq (by decide) ?_|((first|refine kz env fun Q hQ=>?_|refine kj fun Q hQ=>?_);simp only [vkt,seval,j5,kK,qc,mTk,qd,qf,qh,bL3,pBb,beL,List.length_map,nth,hwL,Nat.zero_add,Nat.sub_zero,hvan,hw,hd];(try simp only [ite_and]);(repeat' (first|with_reducible assumption|refine And.intro ?_ ?_|intro hp));all_goals (first|(refine hQ _ ?_;clear hQ Q)|(refine hQ _ (fun h=>?_) (fun h=>?_) <;> clear hQ Q <;> (try simp only [vki,reduceCtorEq] at h))|(refine kx ?_;kernel_rfl)|omega|assumption|with_reducible rfl|skip)))
        all_goals (refine ⟨rfl,rfl,some,_,RFin.okQ some [] ?_⟩;constructor)
        all_goals (try simp only [vle,xz,xw,qy,yC,beH,hx,hS,vkt,seval,j5,kK,qc,mTk,qd,qf,qh,bL3,pBb,beL,List.length_map,nth,hwL,Nat.zero_add,Nat.sub_zero])
        all_goals first|rfl|(simp;done)|(simp [beL,kG,AV.ids,ADf.ids,List.range_succ];done)
      |false =>
        simp only [hd,Bool.not_true,Bool.false_or,Bool.false_eq_true,if_false] at hS
        repeat' (first|(apply nx;with_reducible constructor)|refine jq (by decide) ?_|((first|refine kz env fun Q hQ=>?_|refine kj fun Q hQ=>?_);simp only [vkt,seval,j5,kK,qc,mTk,qd,qf,qh,bL3,pBb,beL,List.length_map,nth,hwL,Nat.zero_add,Nat.sub_zero,hvan,hw,hd];(try simp only [ite_and]);(repeat' (first|with_reducible assumption|refine And.intro ?_ ?_|intro hp));all_goals (first|(refine hQ _ ?_;clear hQ Q)|(refine hQ _ (fun h=>?_) (fun h=>?_) <;> clear hQ Q <;> (try simp only [vki,reduceCtorEq] at h))|(refine kx ?_;kernel_rfl)|omega|assumption|with_reducible rfl|skip)))
        all_goals (refine ⟨rfl,rfl,some,_,RFin.okQ some [] ?_⟩;constructor)
        all_goals (try simp only [vle,xz,xw,qy,yC,beH,hx,hS,vkt,seval,j5,kK,qc,mTk,qd,qf,qh,bL3,pBb,beL,List.length_map,nth,hwL,Nat.zero_add,Nat.sub_zero])
        all_goals first|rfl|(simp;done)|(simp [beL,kG,AV.ids,ADf.ids,List.range_succ];done)
  · have eh:qg ((7,AObj.mark) :: beH c a N++za [0,1,2,3] (7+1) 0 (yf c a))=qg [(7,.mark),(4,.cells [.sl ((bsK c a N).2.1.map qp)]),(5,.cells [aB (bsK c a N).1]),(6,.cells [aI (bsK c a N).2.2]),(0,qf c.cabins c.secs 2),(1,.cells [.ptr 0 0]),(2,qh c.sold),(3,.cells (qj a))]:=by
      rw [show za [0,1,2,3] (7+1) 0 (yf c a)=za [0,1,2,3] 8 0 (yf c a) from rfl,XK];rfl
    rw [eh,XK c a]
    repeat' (first|(apply nx;with_reducible constructor)|refine jq (by decide) ?_|((first|refine kz env fun Q hQ=>?_|refine kj fun Q hQ=>?_);simp only [vkt,seval,j5,kK,qc,mTk,qd,qf,qh,bL3,pBb,beL,List.length_map,nth,hwL,Nat.zero_add,Nat.sub_zero];(try simp only [ite_and]);(repeat' (first|with_reducible assumption|refine And.intro ?_ ?_|intro hp));all_goals (first|(refine hQ _ ?_;clear hQ Q)|(refine hQ _ (fun h=>?_) (fun h=>?_) <;> clear hQ Q <;> (try simp only [vki,reduceCtorEq] at h))|(refine kx ?_;kernel_rfl)|omega|assumption|with_reducible rfl|skip)))
    (simp only [vrt,Try.results69,vkt,seval,j5,kK,qc,mTk,qd,qf,qh,bL3,pBb,beL,List.length_map,nth,hwL,Nat.zero_add,Nat.sub_zero];refine Fin.ok some [] ?_ ?_ ?_ ?_ ?_ rfl;all_goals (try simp only [vle,vkt,seval,j5,kK,qc,mTk,qd,qf,qh,bL3,pBb,beL,List.length_map,nth,hwL,Nat.zero_add,Nat.sub_zero]))
    all_goals first|rfl|(simp [qj,AV.leL,AV.le];done)|exact fun i hi=>(match i,hi with|0,_=>rfl|1,_=>rfl|2,_=>rfl|3,_=>rfl)
end Go.Sym.B
namespace Go.Sym.B
open Go Go.Sym Go.Proofs Go.Sym.C
def Yx (c:Chart) (a:Ask) (S:St):List AV→Option Pk
  |[.clo f [.ptr q 0,.ptr p3 0]]=>match S.h q with
    |some (.cells [.ptr p 0])=>match S.h p with
      |some (.cells [_,_,.row r])=>some { pre:=f=70∧wy c a=0,hs:=[p,q,r,p3],ar:=[.clo 70 [.ptr 1 0,.ptr 3 0]],L0:=yf c a,v:=.tup [.sl ((bsK c a (plP c a).length).2.1.map qp),aB (bsK c a (plP c a).length).1],L1:=(yf c a).map some }
      |_=>none
    |_=>none
  |_=>none
theorem eBest {A:Frm→Prop} {c:Chart} {a:Ask}:qC A Try.prog 69 (fnE (Yx c a)):=zx fun S bs q h hp=>by
  unfold Yx at h
  split at h
  · split at h
    · split at h
      · cases h;exact QiS hp.2
      · cases h
    · cases h
  · cases h
def Jk (c:Chart) (a:Ask):List Bunk × Int:=if wy c a=0 then (if (bsK c a (plP c a).length).1 then ((bsK c a (plP c a).length).2.1,0) else ([],11)) else ([],wy c a)
def Qi:=kk @vg (kk @kX (kk @JH (kk @Qb (kk @yI.eq_1 (kk @xB.eq_1 (kk @Wq.eq_1 @xE.eq_1))))))
def JD:=kk @aI.eq_1 (kk @aB.eq_1 (@kW))
theorem Qi0 (c:Chart) (a:Ask) (hc:c.cabins.length≤maxLen) (ha:a.sexes.length≤maxLen):FnV Try.prog 19 [qa c,qw a] (.tup [.sl ((Jk c a).1.map qp),aI (Jk c a).2]):=by
  have env:Env (fun _=>True) Try.prog tyB (tab [(66,fnE zb),(69,fnE (Yx c a))]):=qM ⟨V6,eBest,trivial⟩
  refine Fn.of (A:=fun _=>True) (n0:=0) (D:=noD) (Fn0 Try.func19 rfl (fun vs w=>by kernel_rfl) (by kernel_rfl)) (by simp) (by simp [AV.ids,AV.idsL,qa,qb,qw,qj]) (fun i o h=>by cases h) (fun _ _ _ _=>trivial) qH ?_
  have ec:(⟨c.cabins,c.secs,c.sold⟩:Chart)=c:=rfl
  have ea:(⟨a.party,a.frm,a.to,a.sexes,a.dog⟩:Ask)=a:=rfl
  by_cases h0:wy c a=0
  · obtain ⟨⟨f,p,v⟩,hK⟩:∃ x,bsK c a (plP c a).length=x:=⟨_,rfl⟩
    cases f with
    |true =>
      rw [show Jk c a=(p,0) by unfold Jk;rw [if_pos h0,hK];rfl]
      repeat' (first|(apply nx;with_reducible constructor)|refine jq (by decide) ?_|((first|refine kz env fun Q hQ=>?_|refine kj fun Q hQ=>?_);simp only [vkt,seval,Qi,JD,qa,qb,qw,qj,mTk,qd,qf,qh,qm,yf,zb,Yx,List.length_map,ec,ea,h0,hK];(try simp only [ite_and]);(repeat' (first|with_reducible assumption|refine And.intro ?_ ?_|intro hp));all_goals (first|(refine hQ _ ?_;clear hQ Q)|(refine hQ _ (fun h=>?_) (fun h=>?_) <;> clear hQ Q <;> (try simp only [vki,reduceCtorEq] at h))|(refine kx ?_;kernel_rfl)|omega|assumption|with_reducible rfl|skip)))
      (simp only [vrt,Try.results19,vkt,seval,Qi,JD,qa,qb,qw,qj,mTk,qd,qf,qh,qm,yf,zb,Yx,List.length_map];refine Fin.val rfl ?_;(try simp only [AV.le,AV.leL]))
      all_goals first|rfl|(simp;done)
    |false =>
      rw [show Jk c a=([],11) by unfold Jk;rw [if_pos h0,hK];rfl]
      repeat' (first|(apply nx;with_reducible constructor)|refine jq (by decide) ?_|((first|refine kz env fun Q hQ=>?_|refine kj fun Q hQ=>?_);simp only [vkt,seval,Qi,JD,qa,qb,qw,qj,mTk,qd,qf,qh,qm,yf,zb,Yx,List.length_map,ec,ea,h0,hK];(try simp only [ite_and]);(repeat' (first|with_reducible assumption|refine And.intro ?_ ?_|intro hp));all_goals (first|(refine hQ _ ?_;clear hQ Q)|(refine hQ _ (fun h=>?_) (fun h=>?_) <;> clear hQ Q <;> (try simp only [vki,reduceCtorEq] at h))|(refine kx ?_;kernel_rfl)|omega|assumption|with_reducible rfl|skip)))
      (simp only [vrt,Try.results19,vkt,seval,Qi,JD,qa,qb,qw,qj,mTk,qd,qf,qh,qm,yf,zb,Yx,List.length_map];refine Fin.val rfl ?_;(try simp only [AV.le,AV.leL]))
      all_goals first|rfl|(simp;done)
  · rw [show Jk c a=([],wy c a) by unfold Jk;rw [if_neg h0]]
    repeat' (first|(apply nx;with_reducible constructor)|refine jq (by decide) ?_|((first|refine kz env fun Q hQ=>?_|refine kj fun Q hQ=>?_);simp only [vkt,seval,Qi,JD,qa,qb,qw,qj,mTk,qd,qf,qh,qm,yf,zb,Yx,List.length_map,ec,ea,h0];(try simp only [ite_and]);(repeat' (first|with_reducible assumption|refine And.intro ?_ ?_|intro hp));all_goals (first|(refine hQ _ ?_;clear hQ Q)|(refine hQ _ (fun h=>?_) (fun h=>?_) <;> clear hQ Q <;> (try simp only [vki,reduceCtorEq] at h))|(refine kx ?_;kernel_rfl)|omega|assumption|with_reducible rfl|skip)))
    (simp only [vrt,Try.results19,vkt,seval,Qi,JD,qa,qb,qw,qj,mTk,qd,qf,qh,qm,yf,zb,Yx,List.length_map];refine Fin.val rfl ?_;(try simp only [AV.le,AV.leL]))
    all_goals first|rfl|(simp;done)
end Go.Sym.B
namespace Go.Sym.B
open Go Go.Sym Go.Proofs Go.Sym.C
def X4:=kk @kZ @xQ.eq_1
def Qdq:=kk @aI.eq_1 (@aB.eq_1)
theorem QiB (a b:Int):FnV Try.prog 28 [aI a,aI b] (ql ⟨a,b⟩):=by
  have env:Env (fun _=>True) Try.prog tyB (tab []):=qM trivial
  refine Fn.of (A:=fun _=>True) (n0:=0) (D:=noD) (Fn0 Try.func28 rfl (fun vs w=>by kernel_rfl) (by kernel_rfl)) (by simp) (by simp [AV.ids,aI]) (fun i o h=>by cases h) (fun _ _ _ _=>trivial) qH ?_
  repeat' (first|(apply nx;with_reducible constructor)|refine jq (by decide) ?_|((first|refine kz env fun Q hQ=>?_|refine kj fun Q hQ=>?_);simp only [vkt,seval,X4,Qdq,ql];(try simp only [ite_and]);(repeat' (first|with_reducible assumption|refine And.intro ?_ ?_|intro hp));all_goals (first|(refine hQ _ ?_;clear hQ Q)|(refine hQ _ (fun h=>?_) (fun h=>?_) <;> clear hQ Q <;> (try simp only [vki,reduceCtorEq] at h))|(refine kx ?_;kernel_rfl)|omega|assumption|with_reducible rfl|skip)))
  (simp only [vrt,Try.results28,vkt,seval,X4,Qdq,ql];refine Fin.val rfl ?_;(try simp only [AV.le,AV.leL]))
  all_goals first|rfl|(simp;done)
def Q3:List AV→Prop × AV
  |[.v (.int .i64 a),.v (.int .i64 b)]=>(True,ql ⟨a,b⟩)
  |_=>(False,.junk)
theorem Qjx {A:Frm→Prop}:qC A Try.prog 28 (zk false Q3):=zn fun vs hv h=>by
  clear hv
  unfold Q3 at h ⊢
  split at h
  · rename_i a b;clear h
    refine ⟨by first|trivial|(simp [AV.plain,AV.plainL,aI,aB,qA,qc,qx,ql,aTk,cTk];done)|(repeat' split) <;> simp [AV.plain,AV.plainL,aI,aB,qA,qc,qx,ql,aTk,cTk],fun h=>absurd h (by decide), ?_⟩
    have:=QiB a b
    simp only [aI] at this
    first|exact this|(simp only [aI];exact this)
  · exact h.elim
def XI:=kk @xy @vW.eq_1
def QcT:=kk @aI.eq_1 (@aB.eq_1)
theorem QiP (p x c b f t:Int):FnV Try.prog 117 [aI p,aI x,aI c,aI b,aI f,aI t] (aTk ⟨p,x,c,b,f,t,false⟩):=by
  have env:Env (fun _=>True) Try.prog tyB (tab [(28,zk false Q3)]):=qM ⟨Qjx,trivial⟩
  refine Fn.of (A:=fun _=>True) (n0:=0) (D:=noD) (Fn0 Try.func117 rfl (fun vs w=>by kernel_rfl) (by kernel_rfl)) (by simp) (by simp [AV.ids,aI]) (fun i o h=>by cases h) (fun _ _ _ _=>trivial) qH ?_
  repeat' (first|(apply nx;with_reducible constructor)|refine jq (by decide) ?_|((first|refine kz env fun Q hQ=>?_|refine kj fun Q hQ=>?_);simp only [vkt,seval,XI,QcT,ql,aTk,cTk,Q3];(try simp only [ite_and]);(repeat' (first|with_reducible assumption|refine And.intro ?_ ?_|intro hp));all_goals (first|(refine hQ _ ?_;clear hQ Q)|(refine hQ _ (fun h=>?_) (fun h=>?_) <;> clear hQ Q <;> (try simp only [vki,reduceCtorEq] at h))|(refine kx ?_;kernel_rfl)|omega|assumption|with_reducible rfl|skip)))
  (simp only [vrt,Try.results117,vkt,seval,XI,QcT,ql,aTk,cTk,Q3];refine Fin.val rfl ?_;(try simp only [AV.le,AV.leL]))
  all_goals first|rfl|(simp;done)
def Yk:List AV→Prop × AV
  |[.v (.int .i64 p),.v (.int .i64 x),.v (.int .i64 c),.v (.int .i64 b),.v (.int .i64 f),.v (.int .i64 t)]=>(True,aTk ⟨p,x,c,b,f,t,false⟩)
  |_=>(False,.junk)
theorem Qjk {A:Frm→Prop}:qC A Try.prog 117 (zk false Yk):=zn fun vs hv h=>by
  clear hv
  unfold Yk at h ⊢
  split at h
  · rename_i p x c b f t;clear h
    refine ⟨by first|trivial|(simp [AV.plain,AV.plainL,aI,aB,qA,qc,qx,ql,aTk,cTk];done)|(repeat' split) <;> simp [AV.plain,AV.plainL,aI,aB,qA,qc,qx,ql,aTk,cTk],fun h=>absurd h (by decide), ?_⟩
    have:=QiP p x c b f t
    simp only [aI] at this
    first|exact this|(simp only [aI];exact this)
  · exact h.elim
end Go.Sym.B
namespace Go.Sym.B
open Go Go.Sym Go.Proofs Go.Sym.C
theorem Xr {α:Type} [Inhabited α] {l m:List α} (h0:l.length=m.length) (h:∀ j,j < l.length→l.getD j default=m.getD j default):l=m:=by
  apply List.ext_getElem h0
  intro j h1 h2
  have:=h j h1
  simpa [List.getD_eq_getElem?_getD,h1,h2] using this
def eqS (l m:List Bunk) (k:Nat):St:={ t:=asg [(0,qc l),(1,qc m),(4,aB false),(5,aI k)],h:=qg [],n:=0 }
def jE:=kk @ty3 (kk @JI (kk @kZ (kk @ti3.eq_1 (kk @Wi.eq_1 @xQ.eq_1))))
def vP:=kk @aI.eq_1 (@aB.eq_1)
theorem QkH (l m:List Bunk) (hl:l.length≤1000) (hm:m.length≤1000):FnV Try.prog 24 [qc l,qc m] (aB (decide (l=m))):=by
  have env:Env (fun _=>True) Try.prog tyB (tab []):=qM trivial
  refine Fn.of (A:=fun _=>True) (n0:=0) (D:=noD) (Fn0 Try.func24 rfl (fun vs w=>by kernel_rfl) (by kernel_rfl)) (by simp) (by simp [AV.ids,qc]) (fun i o h=>by cases h) (fun _ _ _ _=>trivial) qH ?_
  by_cases h0:l.length=m.length
  · have d0:decide ((l.length:Int)=(m.length:Int))=true:=decide_eq_true (by omega)
    repeat' (first|(apply nx;with_reducible constructor)|refine jq (by decide) ?_|((first|refine kz env fun Q hQ=>?_|refine kj fun Q hQ=>?_);simp only [vkt,seval,jE,vP,qc,qp,qE,eqS,Bool.true_and,Bool.false_and,d0];(try simp only [ite_and]);(repeat' (first|with_reducible assumption|refine And.intro ?_ ?_|intro hp));all_goals (first|(refine hQ _ ?_;clear hQ Q)|(refine hQ _ (fun h=>?_) (fun h=>?_) <;> clear hQ Q <;> (try simp only [vki,reduceCtorEq] at h))|(refine kx ?_;kernel_rfl)|omega|assumption|with_reducible rfl|skip)))
    refine qU (fun k:{ k:Nat // k≤l.length∧∀ j,j < k→l.getD j default=m.getD j default }=>eqS l m k.1) (fun k=>l.length - k.1) ⟨0,Nat.zero_le _,fun j h=>absurd h (Nat.not_lt_zero _)⟩ ?_ fun ⟨k,hk,hno⟩=>?_
    · (refine Le.ok some [] ?_;constructor;all_goals (try simp only [vle,vkt,seval,jE,vP,qc,qp,qE,eqS,Bool.true_and,Bool.false_and]))
      all_goals first|rfl|(simp;done)
    · repeat' (first|(apply nx;with_reducible constructor)|refine jq (by decide) ?_)
      (refine kz env fun Q hQ=>?_;simp only [vkt,seval,jE,vP,qc,qp,qE,eqS,Bool.true_and,Bool.false_and];(try simp only [ite_and]);(repeat' (first|with_reducible assumption|refine And.intro ?_ ?_|intro hp));all_goals (first|(refine hQ _ ?_;clear hQ Q)|(refine kx ?_;kernel_rfl)|omega|assumption|with_reducible rfl|skip))
      repeat' (first|(apply nx;with_reducible constructor)|refine jq (by decide) ?_)
      (refine yF (by simp only [vkt,seval,jE,vP,qc,qp,qE,eqS,Bool.true_and,Bool.false_and];rfl) (fun h=>?_) (fun h=>?_) <;> (try simp only [vki,reduceCtorEq] at h))
      · have hlt:k < l.length:=by omega
        have hlm:k < m.length:=by omega
        have e9:IntKind.wrap .i64 ((k:Int)+1)=((k+1:Nat):Int):=by rw [wrap64 (by omega) (by omega)];rfl
        obtain ⟨x,hx⟩:∃ x,l.getD k default=x:=⟨_,rfl⟩
        obtain ⟨y,hy⟩:∃ x,m.getD k default=x:=⟨_,rfl⟩
        have hxy:(x=y)=(x.cab=y.cab∧x.bed=y.bed):=by cases x;cases y;simp
        have hne:¬ x=y→decide (l=m)=false:=fun h=>decide_eq_false fun e=>h (by rw [← hx,← hy,e])
        cases q1:decide (x.cab=y.cab)
        · rw [hne (by rw [hxy];exact fun h=>of_decide_eq_false q1 h.1)]
          repeat' (first|(apply nx;with_reducible constructor)|refine jq (by decide) ?_|((first|refine kz env fun Q hQ=>?_|refine kj fun Q hQ=>?_);simp only [vkt,seval,jE,vP,qc,qp,qE,eqS,Bool.true_and,Bool.false_and,hx,hy,q1,hlm,e9];(try simp only [ite_and]);(repeat' (first|with_reducible assumption|refine And.intro ?_ ?_|intro hp));all_goals (first|(refine hQ _ ?_;clear hQ Q)|(refine hQ _ (fun h=>?_) (fun h=>?_) <;> clear hQ Q <;> (try simp only [vki,reduceCtorEq] at h))|(refine kx ?_;kernel_rfl)|omega|assumption|with_reducible rfl|skip)))
          (simp only [vrt,Try.results24,vkt,seval,jE,vP,qc,qp,qE,eqS,Bool.true_and,Bool.false_and];refine Fin.val rfl ?_;(try simp only [AV.le,AV.leL]))
          all_goals first|rfl|(simp;done)
        · cases q2:decide (x.bed=y.bed)
          · rw [hne (by rw [hxy];exact fun h=>of_decide_eq_false q2 h.2)]
            repeat' (first|(apply nx;with_reducible constructor)|refine jq (by decide) ?_|((first|refine kz env fun Q hQ=>?_|refine kj fun Q hQ=>?_);simp only [vkt,seval,jE,vP,qc,qp,qE,eqS,Bool.true_and,Bool.false_and,hx,hy,q1,q2,hlm,e9];(try simp only [ite_and]);(repeat' (first|with_reducible assumption|refine And.intro ?_ ?_|intro hp));all_goals (first|(refine hQ _ ?_;clear hQ Q)|(refine hQ _ (fun h=>?_) (fun h=>?_) <;> clear hQ Q <;> (try simp only [vki,reduceCtorEq] at h))|(refine kx ?_;kernel_rfl)|omega|assumption|with_reducible rfl|skip)))
            (simp only [vrt,Try.results24,vkt,seval,jE,vP,qc,qp,qE,eqS,Bool.true_and,Bool.false_and];refine Fin.val rfl ?_;(try simp only [AV.le,AV.leL]))
            all_goals first|rfl|(simp;done)
          · have he:x=y:=by rw [hxy];exact ⟨of_decide_eq_true q1,of_decide_eq_true q2⟩
            repeat' (first|(apply nx;with_reducible constructor)|refine jq (by decide) ?_|((first|refine kz env fun Q hQ=>?_|refine kj fun Q hQ=>?_);simp only [vkt,seval,jE,vP,qc,qp,qE,eqS,Bool.true_and,Bool.false_and,hx,hy,q1,q2,hlm,e9];(try simp only [ite_and]);(repeat' (first|with_reducible assumption|refine And.intro ?_ ?_|intro hp));all_goals (first|(refine hQ _ ?_;clear hQ Q)|(refine hQ _ (fun h=>?_) (fun h=>?_) <;> clear hQ Q <;> (try simp only [vki,reduceCtorEq] at h))|(refine kx ?_;kernel_rfl)|omega|assumption|with_reducible rfl|skip)))
            refine ⟨⟨k+1,hlt,fun j hj=>?_⟩,by show l.length - (k+1) < l.length - k;omega, ?_⟩
            · rcases Nat.lt_or_eq_of_le (Nat.le_of_lt_succ hj) with h1|h1
              · exact hno j h1
              · rw [h1,hx,hy];exact he
            · (refine Le.ok some [] ?_;constructor;all_goals (try simp only [vle,vkt,seval,jE,vP,qc,qp,qE,eqS,Bool.true_and,Bool.false_and]))
              all_goals first|rfl|(simp;done)
      · have hke:k=l.length:=by omega
        subst hke
        rw [decide_eq_true (Xr h0 hno)]
        repeat' (first|(apply nx;with_reducible constructor)|refine jq (by decide) ?_|((first|refine kz env fun Q hQ=>?_|refine kj fun Q hQ=>?_);simp only [vkt,seval,jE,vP,qc,qp,qE,eqS,Bool.true_and,Bool.false_and];(try simp only [ite_and]);(repeat' (first|with_reducible assumption|refine And.intro ?_ ?_|intro hp));all_goals (first|(refine hQ _ ?_;clear hQ Q)|(refine hQ _ (fun h=>?_) (fun h=>?_) <;> clear hQ Q <;> (try simp only [vki,reduceCtorEq] at h))|(refine kx ?_;kernel_rfl)|omega|assumption|with_reducible rfl|skip)))
        (simp only [vrt,Try.results24,vkt,seval,jE,vP,qc,qp,qE,eqS,Bool.true_and,Bool.false_and];refine Fin.val rfl ?_;(try simp only [AV.le,AV.leL]))
        all_goals first|rfl|(simp;done)
  · have d0:decide ((l.length:Int)=(m.length:Int))=false:=decide_eq_false (by omega)
    rw [decide_eq_false (fun e=>h0 (by rw [e]))]
    repeat' (first|(apply nx;with_reducible constructor)|refine jq (by decide) ?_|((first|refine kz env fun Q hQ=>?_|refine kj fun Q hQ=>?_);simp only [vkt,seval,jE,vP,qc,qp,qE,eqS,Bool.true_and,Bool.false_and,d0];(try simp only [ite_and]);(repeat' (first|with_reducible assumption|refine And.intro ?_ ?_|intro hp));all_goals (first|(refine hQ _ ?_;clear hQ Q)|(refine hQ _ (fun h=>?_) (fun h=>?_) <;> clear hQ Q <;> (try simp only [vki,reduceCtorEq] at h))|(refine kx ?_;kernel_rfl)|omega|assumption|with_reducible rfl|skip)))
    (simp only [vrt,Try.results24,vkt,seval,jE,vP,qc,qp,qE,eqS,Bool.true_and,Bool.false_and];refine Fin.val rfl ?_;(try simp only [AV.le,AV.leL]))
    all_goals first|rfl|(simp;done)
def seqB:List AV→Prop × AV
  |[.sl l,.sl m]=>(l=(l.map zG).map qp∧m=(m.map zG).map qp∧(l.map zG).length≤1000∧(m.map zG).length≤1000,aB (decide ((l.map zG)=(m.map zG))))
  |_=>(False,.junk)
theorem eeqB {A:Frm→Prop}:qC A Try.prog 24 (zk true seqB):=zn fun vs hv h=>by
  clear hv
  unfold seqB at h ⊢
  split at h
  · rename_i l m;obtain ⟨q0,q1,k0,k1⟩:=h
    refine ⟨by first|trivial|(simp [AV.plain,AV.plainL,aI,aB,qA,qc,qx,ql,aTk,cTk];done)|(repeat' split) <;> simp [AV.plain,AV.plainL,aI,aB,qA,qc,qx,ql,aTk,cTk],fun _=>(by simp [AV.flat,AV.flatL,aI,aB]), ?_⟩
    have:=QkH (l.map zG) (m.map zG) k0 k1
    simp only [qc,← q0,← q1] at this
    first|exact this|(simp only [qc,← q0,← q1];exact this)
  · exact h.elim
end Go.Sym.B
namespace Go.Sym.B
open Go Go.Sym Go.Proofs Go.Sym.C
def yo (more:List Tk):Chart:=⟨[⟨2,true⟩,⟨2,false⟩,⟨1,false⟩],4,⟨1,1,0,0,0,2,false⟩ :: ⟨2,2,1,0,1,4,false⟩ :: more⟩
def WR:=kk @VJ (kk @Zb (kk @vg (kk @VD (kk @xy (kk @Yc.eq_1 (kk @Qx.eq_1 (kk @yI.eq_1 (kk @Yb.eq_1 @vW.eq_1))))))))
def RS:=kk @aI.eq_1 (@aB.eq_1)
theorem QfQ (more:List Tk) (hm:more.length≤100):FnV Try.prog 77 [qx more] (qa (yo more)):=by
  have env:Env (fun _=>True) Try.prog tyB (tab [(117,zk false Yk)]):=qM ⟨Qjk,trivial⟩
  refine Fn.of (A:=fun _=>True) (n0:=0) (D:=noD) (Fn0 Try.func77 rfl (fun vs w=>by kernel_rfl) (by kernel_rfl)) (by simp) (by simp [AV.ids,qx]) (fun i o h=>by cases h) (fun _ _ _ _=>trivial) qH ?_
  have hx:(100:Nat)+2≤maxLen:=by decide
  have h1:more.length+2≤maxLen:=by omega
  have h2:2+more.length≤maxLen:=by omega
  show Sym _ _ _ (zq [qx more] 0 noH) (yB tyB noD Try.f77 fun S rv=>Fin S rv _ 0 (qg []) 0)
  repeat' (first|(apply nx;with_reducible constructor)|refine jq (by decide) ?_|((first|refine kz env fun Q hQ=>?_|refine kj fun Q hQ=>?_);simp only [vkt,seval,WR,RS,aTk,cTk,qx,eTk,rTk,mTk,Yk,yo,qa,qb,qo,List.length_map,hm,h1,h2];(try simp only [ite_and]);(repeat' (first|with_reducible assumption|refine And.intro ?_ ?_|intro hp));all_goals (first|(refine hQ _ ?_;clear hQ Q)|(refine hQ _ (fun h=>?_) (fun h=>?_) <;> clear hQ Q <;> (try simp only [vki,reduceCtorEq] at h))|(refine kx ?_;kernel_rfl)|omega|assumption|with_reducible rfl|skip)))
  simp only [yo,qa,qb,qo,List.map_cons,List.map_nil]
  (simp only [vrt,Try.results77,vkt,seval,WR,RS,aTk,cTk,qx,eTk,rTk,mTk,Yk,yo,qa,qb,qo,List.length_map];refine Fin.ok some [1,3] ?_ ?_ ?_ ?_ ?_ rfl;all_goals (try simp only [vle,vkt,seval,WR,RS,aTk,cTk,qx,eTk,rTk,mTk,Yk,yo,qa,qb,qo,List.length_map]))
  all_goals first|rfl|(simp [eTk];done)
def VY:=kk @kX @xB.eq_1
def Qcz:=kk @aI.eq_1 (kk @aB.eq_1 (@qA.eq_1))
theorem Qh5 (f t:Int) (d:Bool) (l:List Int):FnV Try.prog 78 [aI f,aI t,aB d,qA l] (qw ⟨9,f,t,l,d⟩):=by
  have env:Env (fun _=>True) Try.prog tyB (tab []):=qM trivial
  refine Fn.of (A:=fun _=>True) (n0:=0) (D:=noD) (Fn0 Try.func78 rfl (fun vs w=>by kernel_rfl) (by kernel_rfl)) (by simp) (by simp [AV.ids,aI,aB,qA]) (fun i o h=>by cases h) (fun _ _ _ _=>trivial) qH ?_
  repeat' (first|(apply nx;with_reducible constructor)|refine jq (by decide) ?_|((first|refine kz env fun Q hQ=>?_|refine kj fun Q hQ=>?_);simp only [vkt,seval,VY,Qcz,qw,qj,List.length_map];(try simp only [ite_and]);(repeat' (first|with_reducible assumption|refine And.intro ?_ ?_|intro hp));all_goals (first|(refine hQ _ ?_;clear hQ Q)|(refine hQ _ (fun h=>?_) (fun h=>?_) <;> clear hQ Q <;> (try simp only [vki,reduceCtorEq] at h))|(refine kx ?_;kernel_rfl)|omega|assumption|with_reducible rfl|skip)))
  (simp only [vrt,Try.results78,vkt,seval,VY,Qcz,qw,qj,List.length_map];refine Fin.val rfl ?_;(try simp only [AV.le,AV.leL]))
  all_goals first|rfl|(simp;done)
end Go.Sym.B
namespace Go.Sym.B
open Go Go.Sym Go.Proofs Go.Sym.C
def pkK (f:Bunk→Int) (l:List Bunk):Nat→Bunk × Int
  |0=>(⟨0,0⟩,0)
  |i+1=>if i=0∨f (l.getD i default) < (pkK f l i).2 then (l.getD i default,f (l.getD i default)) else pkK f l i
def yJ:List (List Bunk)→Bunk→Bunk × Int
  |[],_=>(⟨0,0⟩,0)
  |l :: rest,b=>pkK (fun y=>(yJ rest y).2+if y=b then 0 else 1) l l.length
def nxF (L:List (List Bunk)) (at_:Nat) (b y:Bunk):Int:=(yJ (L.drop (at_+1)) y).2+if y=b then 0 else 1
theorem Qhu {L:List (List Bunk)} {i:Nat} (h:i < L.length) (b:Bunk):yJ (L.drop i) b=pkK (nxF L i b) (L.getD i []) (L.getD i []).length:=by
  rw [List.drop_eq_getElem_cons h,yJ]
  rw [show L.getD i []=L[i] by simp [List.getD_eq_getElem?_getD,h]]
  rfl
def XP:List (List Bunk)→Bunk→List Bunk
  |[],_=>[]
  |l :: rest,b=>(yJ (l :: rest) b).1 :: XP rest (yJ (l :: rest) b).1
theorem QfT {f:Bunk→Int} {l:List Bunk} {n:Int} (hn:0≤n) (h:∀ b ∈ l,0≤f b∧f b≤n):∀ i,i≤l.length→0≤(pkK f l i).2∧(pkK f l i).2≤n
  |0,_=>⟨Int.le_refl 0,hn⟩
  |i+1,hi=>by
    rw [pkK]
    split
    · exact h _ (vL hi)
    · exact QfT hn h i (by omega)
theorem XR:∀ (L:List (List Bunk)) (b:Bunk),0≤(yJ L b).2∧(yJ L b).2≤(L.length:Int)
  |[],_=>by simp [yJ]
  |l :: rest,b=>by
    rw [yJ]
    refine QfT (by omega) (fun y _=>?_) _ (Nat.le_refl _)
    have:=XR rest y
    rw [List.length_cons]
    split <;> omega
theorem Qkf (L:List (List Bunk)) (i:Nat) (b y:Bunk):0≤nxF L i b y∧nxF L i b y≤(L.length:Int)+1:=by
  have h:=XR (L.drop (i+1)) y
  rw [List.length_drop] at h
  unfold nxF
  split <;> omega
def wkK (L:List (List Bunk)):Nat→List Bunk
  |0=>[]
  |i+1=>wkK L i++[(yJ (L.drop i) (if i=0 then ⟨-1,0⟩ else (wkK L i).getD (i - 1) default)).1]
theorem U6 (L:List (List Bunk)):∀ i,(wkK L i).length=i
  |0=>rfl
  |i+1=>by rw [wkK,List.length_append,U6 L i];rfl
def wkB (L:List (List Bunk)) (i:Nat):Bunk:=if i=0 then ⟨-1,0⟩ else (wkK L i).getD (i - 1) default
theorem Xw (L:List (List Bunk)) (i:Nat):wkK L (i+1)=wkK L i++[(yJ (L.drop i) (wkB L i)).1]:=rfl
theorem QfW (L:List (List Bunk)) (i:Nat):wkB L (i+1)=(yJ (L.drop i) (wkB L i)).1:=by
  unfold wkB
  rw [if_neg (by omega),Xw]
  have h:=U6 L i
  rw [show i+1 - 1=i by omega,List.getD_eq_getElem?_getD,List.getElem?_append_right (by omega),h]
  simp
  rfl
theorem Qdr (L:List (List Bunk)):∀ i,i≤L.length→XP L ⟨-1,0⟩=wkK L i++XP (L.drop i) (wkB L i)
  |0,_=>by simp [wkK,wkB]
  |i+1,h=>by
    rw [Qdr L i (by omega),Xw,QfW]
    conv=>lhs;rw [List.drop_eq_getElem_cons (show i < L.length by omega),XP]
    rw [← List.drop_eq_getElem_cons (show i < L.length by omega)]
    simp
theorem QjQ (L:List (List Bunk)):wkK L L.length=XP L ⟨-1,0⟩:=by
  rw [Qdr L L.length (Nat.le_refl _),List.drop_length,XP,List.append_nil]
def X9 (a:Ask) (s:Int):Ask:=⟨a.party,s,s+1,a.sexes,a.dog⟩
def xN (c:Chart) (a:Ask) (s:Int):List Bunk:=(plP c (X9 a s)).map fun x=>x.1.getD 0 default
def Zu (c:Chart) (a:Ask) (k:Nat):List (List Bunk):=(List.range k).map fun (i:Nat)=>xN c a (a.frm+i)
def Je (c:Chart) (a:Ask):List (List Bunk):=Zu c a (a.to - a.frm).toNat
theorem QbV (c:Chart) (a:Ask) (k:Nat):Zu c a (k+1)=Zu c a k++[xN c a (a.frm+k)]:=by
  unfold Zu;rw [List.range_succ,List.map_append];rfl
def Zw (c:Chart) (a:Ask):List Bunk × Int × Int :=
  if wy c a ≠ 0 then ([],0,wy c a) else if 1 < a.sexes.length then ([],0,6) else if a.dog then ([],0,9) else
  if (Je c a).any (·.isEmpty) then ([],0,11) else (XP (Je c a) ⟨-1,0⟩,(yJ (Je c a) ⟨-1,0⟩).2 - 1,0)
def ZH (i:Int) (b:Bunk):Value:=.agg #[.int .i64 i,.int .i64 b.cab,.int .i64 b.bed]
theorem Lm {i j:Int} {b c:Bunk} (h:ZH i b=ZH j c):i=j∧b=c:=by
  cases b;cases c
  simp [ZH] at h
  obtain ⟨rfl,rfl,rfl⟩:=h
  exact ⟨rfl,rfl⟩
def Qdn:KeyInfo:={ kd:=.agg [some .i64,some .i64,some .i64],z:=.v (.int .i64 0),agg:=false }
def R8 (es:List (Value × Value)) (kv:Value) (n:Int):Prop:=∃ b,yM Qdn (yg es kv)=(True,.v (.int .i64 n),b)
theorem Qfd {es:List (Value × Value)} {kv:Value} (h:yg es kv=none):R8 es kv 0:=by
  refine ⟨false, ?_⟩
  rw [h]
  show (_,_,_)=_
  simp [Qdn,AV.ids]
theorem Qfc {es:List (Value × Value)} {kv:Value} {n:Int} (h:yg es kv=some (.int .i64 n)):R8 es kv n:=by
  refine ⟨true, ?_⟩
  rw [h]
  show (_,_,_)=_
  simp [Qdn,Xx,Value.oneCell',vAV]
theorem QeV {es:List (Value × Value)} {kv:Value} {n:Int}:R8 (yT es kv (.int .i64 n)) kv n:=Qfc (by rw [WX,if_pos rfl])
theorem Qc1 {es:List (Value × Value)} {kv kv' v:Value} {n:Int} (hne:kv ≠ kv') (h:R8 es kv' n):R8 (yT es kv v) kv' n:=by
  unfold R8
  rw [WX,if_neg hne]
  exact h
theorem ZR {es:List (Value × Value)} {k v:Value}:(yT es k v).length≤es.length+1:=by
  induction es with
  |nil=>simp [yT]
  |cons p es ih =>
    rw [yT]
    split
    · simp
    · rw [List.length_cons,List.length_cons];omega
abbrev Qjb:Value→Prop:=KD.Q (.agg [some .i64,some .i64,some .i64])
theorem spotQ (i:Int) (b:Bunk):Qjb (ZH i b):=⟨⟨_,rfl⟩,⟨_,rfl⟩,⟨_,rfl⟩,trivial⟩
structure BhOk (L:List (List Bunk)) (es:List (Value × Value)) (at_:Nat):Prop where
  ok:MOK Qjb es
  look:∀ j,at_≤j→j < L.length→∀ x ∈ L.getD j [],R8 es (ZH j x) (yJ (L.drop (j+1)) x).2
theorem QkE (L:List (List Bunk)):BhOk L [] (L.length - 1):=⟨MOK.nil _,fun j h1 h2 x _=>by
  rw [List.drop_eq_nil_iff.2 (by omega)]
  exact Qfd rfl⟩
structure BhIn (L:List (List Bunk)) (es:List (Value × Value)) (at_ i:Nat):Prop where
  bh:BhOk L es (at_+1)
  cur:∀ k,k < i→k < (L.getD at_ []).length→R8 es (ZH at_ ((L.getD at_ []).getD k default)) (yJ (L.drop (at_+1)) ((L.getD at_ []).getD k default)).2
theorem BhOk.inn {L:List (List Bunk)} {es:List (Value × Value)} {i:Nat} (h:BhOk L es (i+1)):BhIn L es i 0:=⟨h,fun k hk=>absurd hk (Nat.not_lt_zero _)⟩
theorem BhIn.step {L:List (List Bunk)} {es:List (Value × Value)} {at_ i:Nat} (h:BhIn L es at_ i) {b:Bunk} (hb:(L.getD at_ []).getD i default=b) {n:Int} (hn:(yJ (L.drop (at_+1)) b).2=n) :
    BhIn L (yT es (ZH at_ b) (.int .i64 n)) at_ (i+1):=by
  refine ⟨⟨h.bh.ok.set (spotQ _ _),fun j h1 h2 x hx=>Qc1 (fun e=>?_) (h.bh.look j h1 h2 x hx)⟩,fun k hk hl=>?_⟩
  · have:=(Lm e).1;omega
  · obtain ⟨x,hx⟩:∃ x,(L.getD at_ []).getD k default=x:=⟨_,rfl⟩
    rw [hx]
    by_cases hxb:b=x
    · subst hxb;rw [hn];exact QeV
    · have hki:k < i:=by
        rcases Nat.lt_or_eq_of_le (Nat.le_of_lt_succ hk) with h1|h1
        · exact h1
        · subst h1;exact absurd (hb.symm.trans hx) hxb
      have:=h.cur k hki hl
      rw [hx] at this
      exact Qc1 (fun e=>hxb (Lm e).2) this
theorem BhIn.out {L:List (List Bunk)} {es:List (Value × Value)} {i:Nat} (h:BhIn L es i (L.getD i []).length):BhOk L es i:=⟨h.bh.ok,fun j h1 h2 x hx=>by
  rcases Nat.lt_or_eq_of_le h1 with h3|h3
  · exact h.bh.look j h3 h2 x hx
  · subst h3
    obtain ⟨k,hk,rfl⟩:=List.mem_iff_getElem.1 hx
    have:=h.cur k hk hk
    rwa [show (L.getD i []).getD k default=(L.getD i [])[k] by rw [List.getD_eq_getElem?_getD,List.getElem?_eq_getElem hk];rfl] at this⟩
end Go.Sym.B
namespace Go.Sym.B
open Go Go.Sym Go.Proofs Go.Sym.C
structure NxOk (L:List (List Bunk)) (es:List (Value × Value)) (i:Nat):Prop where
  len:L.length≤100
  lt:i < L.length
  each:∀ l ∈ L,l.length≤1000
  bh:BhOk L es i
def nxL (L:List (List Bunk)) (es:List (Value × Value)):List AObj:=[.cells [.row 2],.cells [.mp 3],.row 37 1 (L.map qz),.map es]
theorem QiG {L:List (List Bunk)} {es:List (Value × Value)}:∀ i o,qg (qI 0 (nxL L es)) i=some o→i < 4∧∀ id ∈ o.ids,id < 4:=by
  intro i o hi
  have h:=qL hi
  simp [qI,nxL] at h
  rcases h with ⟨rfl,rfl⟩|⟨rfl,rfl⟩|⟨rfl,rfl⟩|⟨rfl,rfl⟩ <;> simp [AObj.ids,AV.ids,AV.idsL]
def ncS (L:List (List Bunk)) (es:List (Value × Value)) (i:Nat) (b:Bunk) (l:List Bunk) (k:Nat) (o:Bunk) (n:Int):St:={ t:=asg [(0,aI i),(2,.ptr 0 0),(3,.ptr 1 0),(5,.ptr 4 0),(6,.ptr 5 0),(7,aI n),(14,qc l),(15,aI l.length),(16,aI k)],h:=qg [(0,.cells [.row 2]),(1,.cells [.mp 3]),(2,.row 37 1 (L.map qz)),(3,.map es),(4,.cells [.v (.int .i64 b.cab),.v (.int .i64 b.bed)]),(5,.cells [.v (.int .i64 o.cab),.v (.int .i64 o.bed)])],n:=6,m:=4 }
def wz:=kk @ty3 (kk @QeA (kk @JI (kk @kZ (kk @Qjm (kk @Qjz (kk @ti3.eq_1 (kk @UY.eq_1 (kk @Wi.eq_1 (kk @xQ.eq_1 (kk @Lc.eq_1 @Qar.eq_1))))))))))
def jS:=kk @aI.eq_1 (@aB.eq_1)
set_option maxHeartbeats 2000000 in
theorem QjJ (L:List (List Bunk)) (es:List (Value × Value)) (i:Nat) (b:Bunk) (ok:NxOk L es i):Fn noB Try.prog 82 [aI i,ql b,.ptr 0 0,.ptr 1 0] (qg (qI 0 (nxL L es))) (.tup [ql (yJ (L.drop i) b).1,aI (yJ (L.drop i) b).2]) (qg (zT 0 ((nxL L es).map some))) 0:=by
  have env:Env (fun _=>True) Try.prog tyB (tab []):=qM trivial
  refine Fn.of (A:=fun _=>True) (n0:=4) (D:=noD) (Fn0 Try.func82 rfl (fun vs w=>by kernel_rfl) (by kernel_rfl)) (by simp) (by simp [AV.ids,AV.idsL,aI,ql]) QiG (fun _ _ _ _=>trivial) qH ?_
  have hlen:=ok.len
  have hlt:=ok.lt
  have hbd:=Qkf L i b
  rw [Qhu hlt]
  obtain ⟨l,hl⟩:∃ l,L.getD i []=l:=⟨_,rfl⟩
  have hll:l.length≤1000:=ok.each l (by rw [← hl];exact vL hlt)
  have hlook:∀ x ∈ l,R8 es (ZH i x) (yJ (L.drop (i+1)) x).2:=fun x hx=>ok.bh.look i (Nat.le_refl _) hlt x (by rw [hl];exact hx)
  have hM:MOK (KD.Q (.agg [some .i64,some .i64,some .i64])) es:=ok.bh.ok
  rw [hl]
  show Sym _ _ _ (zq [aI i,ql b,.ptr 0 0,.ptr 1 0] 4 (qg [(0,.cells [.row 2]),(1,.cells [.mp 3]),(2,.row 37 1 (L.map qz)),(3,.map es)])) (yB tyB noD Try.f82 fun S rv=>Fin S rv _ 4 (qg [(0,.cells [.row 2]),(1,.cells [.mp 3]),(2,.row 37 1 (L.map qz)),(3,.map es)]) 0)
  have i0:((i:Int)).toNat=i:=rfl
  have hg:=UZ hlt
  rw [hl] at hg
  repeat' (first|(apply nx;with_reducible constructor)|refine jq (by decide) ?_|((first|refine kz env fun Q hQ=>?_|refine kj fun Q hQ=>?_);simp only [vkt,seval,wz,jS,ql,qc,qp,qz,qE,qP,qQ,ncS,List.length_map,hg,hl,hlt,i0];(try simp only [ite_and]);(repeat' (first|with_reducible assumption|refine And.intro ?_ ?_|intro hp));all_goals (first|(refine hQ _ ?_;clear hQ Q)|(refine hQ _ (fun h=>?_) (fun h=>?_) <;> clear hQ Q <;> (try simp only [vki,reduceCtorEq] at h))|(refine kx ?_;kernel_rfl)|omega|assumption|with_reducible rfl|skip)))
  refine qU (fun k:{ k:Nat // k≤l.length }=>ncS L es i b l k.1 (pkK (nxF L i b) l k.1).1 (pkK (nxF L i b) l k.1).2) (fun k=>l.length - k.1) ⟨0,Nat.zero_le _⟩ ?_ fun ⟨k,hk⟩=>?_
  · (refine Le.ok some [] ?_;constructor;all_goals (try simp only [vle,vkt,seval,wz,jS,ql,qc,qp,qz,qE,qP,qQ,ncS,List.length_map]))
    all_goals first|rfl|(simp [pkK];done)
  simp only at hk ⊢
  obtain ⟨⟨o,n⟩,hon⟩:∃ z,pkK (nxF L i b) l k=z:=⟨_,rfl⟩
  have hS:pkK (nxF L i b) l (k+1)=if k=0∨nxF L i b (l.getD k default) < n then (l.getD k default,nxF L i b (l.getD k default)) else (o,n):=by rw [pkK,hon]
  rw [hon]
  repeat' (first|(apply nx;with_reducible constructor)|refine jq (by decide) ?_)
  (refine kz env fun Q hQ=>?_;simp only [vkt,seval,wz,jS,ql,qc,qp,qz,qE,qP,qQ,ncS,List.length_map];(try simp only [ite_and]);(repeat' (first|with_reducible assumption|refine And.intro ?_ ?_|intro hp));all_goals (first|(refine hQ _ ?_;clear hQ Q)|(refine kx ?_;kernel_rfl)|omega|assumption|with_reducible rfl|skip))
  repeat' (first|(apply nx;with_reducible constructor)|refine jq (by decide) ?_)
  (refine yF (by simp only [vkt,seval,wz,jS,ql,qc,qp,qz,qE,qP,qQ,ncS,List.length_map];rfl) (fun h=>?_) (fun h=>?_) <;> (try simp only [vki,reduceCtorEq] at h))
  · have hkl:k < l.length:=by omega
    have e9:IntKind.wrap .i64 ((k:Int)+1)=((k+1:Nat):Int):=by rw [wrap64 (by omega) (by omega)];rfl
    obtain ⟨x,hx⟩:∃ x,l.getD k default=x:=⟨_,rfl⟩
    obtain ⟨v,hv⟩:∃ v,(yJ (L.drop (i+1)) x).2=v:=⟨_,rfl⟩
    obtain ⟨bb,hlk⟩:=hlook x (by rw [← hx];exact vL hkl)
    rw [hv] at hlk
    simp only [Qdn,ZH] at hlk
    have hF:nxF L i b x=v+if x=b then 0 else 1:=by unfold nxF;rw [hv]
    have hb:=hbd x
    rw [hx] at hS
    obtain ⟨f,hf⟩:∃ f,nxF L i b x=f:=⟨_,rfl⟩
    rw [hf] at hS hF hb
    have key:∀ (o':Bunk) (n':Int),pkK (nxF L i b) l (k+1)=(o',n')→ncS L es i b l (k+1) (pkK (nxF L i b) l (k+1)).1 (pkK (nxF L i b) l (k+1)).2=ncS L es i b l (k+1) o' n':=fun o' n' h=>by rw [h]
    have fin:∀ (S:St) (o':Bunk) (n':Int),pkK (nxF L i b) l (k+1)=(o',n')→Le S (ncS L es i b l (k+1) o' n')→∃ y:{ k:Nat // k≤l.length },(l.length - y.1 < l.length - k)∧Le S (ncS L es i b l y.1 (pkK (nxF L i b) l y.1).1 (pkK (nxF L i b) l y.1).2):=fun S o' n' h hle=>⟨⟨k+1,hkl⟩,by show l.length - (k+1) < l.length - k;omega,by rw [key o' n' h];exact hle⟩
    by_cases hxb:x=b
    · subst hxb
      rw [if_pos rfl,Int.add_zero] at hF
      subst hF
      have xx:((x.cab == x.cab) && (x.bed == x.bed))=true:=by simp
      by_cases hk0:k=0
      · rw [if_pos (.inl hk0)] at hS
        have d0:decide ((k:Int)=0)=true:=decide_eq_true (by omega)
        repeat' (first|(apply nx;with_reducible constructor)|refine jq (by decide) ?_|((first|refine kz env fun Q hQ=>?_|refine kj fun Q hQ=>?_);simp only [vkt,seval,wz,jS,ql,qc,qp,qz,qE,qP,qQ,ncS,List.length_map,hx,e9,hlk,hM,d0];(try simp only [ite_and]);(repeat' (first|with_reducible assumption|refine And.intro ?_ ?_|intro hp));all_goals (first|(refine hQ _ ?_;clear hQ Q)|(refine hQ _ (fun h=>?_) (fun h=>?_) <;> clear hQ Q <;> (try simp only [vki,reduceCtorEq] at h))|(refine kx ?_;kernel_rfl)|omega|assumption|with_reducible rfl|skip)))
        refine fin _ _ _ hS ?_
        (refine Le.ok some [] ?_;constructor;all_goals (try simp only [vle,vkt,seval,wz,jS,ql,qc,qp,qz,qE,qP,qQ,ncS,List.length_map]))
        all_goals first|rfl|(simp;done)
      · have d0:decide ((k:Int)=0)=false:=decide_eq_false (by omega)
        by_cases hc:f < n
        · rw [if_pos (.inr hc)] at hS
          have d1:decide (f < n)=true:=decide_eq_true hc
          repeat' (first|(apply nx;with_reducible constructor)|refine jq (by decide) ?_|((first|refine kz env fun Q hQ=>?_|refine kj fun Q hQ=>?_);simp only [vkt,seval,wz,jS,ql,qc,qp,qz,qE,qP,qQ,ncS,List.length_map,hx,e9,hlk,hM,d0,d1];(try simp only [ite_and]);(repeat' (first|with_reducible assumption|refine And.intro ?_ ?_|intro hp));all_goals (first|(refine hQ _ ?_;clear hQ Q)|(refine hQ _ (fun h=>?_) (fun h=>?_) <;> clear hQ Q <;> (try simp only [vki,reduceCtorEq] at h))|(refine kx ?_;kernel_rfl)|omega|assumption|with_reducible rfl|skip)))
          refine fin _ _ _ hS ?_
          (refine Le.ok some [] ?_;constructor;all_goals (try simp only [vle,vkt,seval,wz,jS,ql,qc,qp,qz,qE,qP,qQ,ncS,List.length_map]))
          all_goals first|rfl|(simp;done)
        · rw [if_neg (by omega)] at hS
          have d1:decide (f < n)=false:=decide_eq_false hc
          repeat' (first|(apply nx;with_reducible constructor)|refine jq (by decide) ?_|((first|refine kz env fun Q hQ=>?_|refine kj fun Q hQ=>?_);simp only [vkt,seval,wz,jS,ql,qc,qp,qz,qE,qP,qQ,ncS,List.length_map,hx,e9,hlk,hM,d0,d1];(try simp only [ite_and]);(repeat' (first|with_reducible assumption|refine And.intro ?_ ?_|intro hp));all_goals (first|(refine hQ _ ?_;clear hQ Q)|(refine hQ _ (fun h=>?_) (fun h=>?_) <;> clear hQ Q <;> (try simp only [vki,reduceCtorEq] at h))|(refine kx ?_;kernel_rfl)|omega|assumption|with_reducible rfl|skip)))
          refine fin _ _ _ hS ?_
          (refine Le.ok some [] ?_;constructor;all_goals (try simp only [vle,vkt,seval,wz,jS,ql,qc,qp,qz,qE,qP,qQ,ncS,List.length_map]))
          all_goals first|rfl|(simp;done)
    · rw [if_neg hxb] at hF
      have w1:IntKind.wrap .i64 (v+1)=f:=by rw [wrap64 (by omega) (by omega)];exact hF.symm
      have hne:(decide (x.cab=b.cab) && decide (x.bed=b.bed))=false:=by
        cases x;cases b
        simp at hxb ⊢
        exact hxb
      by_cases hk0:k=0
      · rw [if_pos (.inl hk0)] at hS
        have d0:decide ((k:Int)=0)=true:=decide_eq_true (by omega)
        repeat' (first|(apply nx;with_reducible constructor)|refine jq (by decide) ?_|((first|refine kz env fun Q hQ=>?_|refine kj fun Q hQ=>?_);simp only [vkt,seval,wz,jS,ql,qc,qp,qz,qE,qP,qQ,ncS,List.length_map,hx,e9,hlk,hM,hne,w1,d0];(try simp only [ite_and]);(repeat' (first|with_reducible assumption|refine And.intro ?_ ?_|intro hp));all_goals (first|(refine hQ _ ?_;clear hQ Q)|(refine hQ _ (fun h=>?_) (fun h=>?_) <;> clear hQ Q <;> (try simp only [vki,reduceCtorEq] at h))|(refine kx ?_;kernel_rfl)|omega|assumption|with_reducible rfl|skip)))
        refine fin _ _ _ hS ?_
        (refine Le.ok some [] ?_;constructor;all_goals (try simp only [vle,vkt,seval,wz,jS,ql,qc,qp,qz,qE,qP,qQ,ncS,List.length_map]))
        all_goals first|rfl|(simp;done)
      · have d0:decide ((k:Int)=0)=false:=decide_eq_false (by omega)
        by_cases hc:f < n
        · rw [if_pos (.inr hc)] at hS
          have d1:decide (f < n)=true:=decide_eq_true hc
          repeat' (first|(apply nx;with_reducible constructor)|refine jq (by decide) ?_|((first|refine kz env fun Q hQ=>?_|refine kj fun Q hQ=>?_);simp only [vkt,seval,wz,jS,ql,qc,qp,qz,qE,qP,qQ,ncS,List.length_map,hx,e9,hlk,hM,hne,w1,d0,d1];(try simp only [ite_and]);(repeat' (first|with_reducible assumption|refine And.intro ?_ ?_|intro hp));all_goals (first|(refine hQ _ ?_;clear hQ Q)|(refine hQ _ (fun h=>?_) (fun h=>?_) <;> clear hQ Q <;> (try simp only [vki,reduceCtorEq] at h))|(refine kx ?_;kernel_rfl)|omega|assumption|with_reducible rfl|skip)))
          refine fin _ _ _ hS ?_
          (refine Le.ok some [] ?_;constructor;all_goals (try simp only [vle,vkt,seval,wz,jS,ql,qc,qp,qz,qE,qP,qQ,ncS,List.length_map]))
          all_goals first|rfl|(simp;done)
        · rw [if_neg (by omega)] at hS
          have d1:decide (f < n)=false:=decide_eq_false hc
          repeat' (first|(apply nx;with_reducible constructor)|refine jq (by decide) ?_|((first|refine kz env fun Q hQ=>?_|refine kj fun Q hQ=>?_);simp only [vkt,seval,wz,jS,ql,qc,qp,qz,qE,qP,qQ,ncS,List.length_map,hx,e9,hlk,hM,hne,w1,d0,d1];(try simp only [ite_and]);(repeat' (first|with_reducible assumption|refine And.intro ?_ ?_|intro hp));all_goals (first|(refine hQ _ ?_;clear hQ Q)|(refine hQ _ (fun h=>?_) (fun h=>?_) <;> clear hQ Q <;> (try simp only [vki,reduceCtorEq] at h))|(refine kx ?_;kernel_rfl)|omega|assumption|with_reducible rfl|skip)))
          refine fin _ _ _ hS ?_
          (refine Le.ok some [] ?_;constructor;all_goals (try simp only [vle,vkt,seval,wz,jS,ql,qc,qp,qz,qE,qP,qQ,ncS,List.length_map]))
          all_goals first|rfl|(simp;done)
  · have hke:k=l.length:=by omega
    subst hke
    repeat' (first|(apply nx;with_reducible constructor)|refine jq (by decide) ?_|((first|refine kz env fun Q hQ=>?_|refine kj fun Q hQ=>?_);simp only [vkt,seval,wz,jS,ql,qc,qp,qz,qE,qP,qQ,ncS,List.length_map];(try simp only [ite_and]);(repeat' (first|with_reducible assumption|refine And.intro ?_ ?_|intro hp));all_goals (first|(refine hQ _ ?_;clear hQ Q)|(refine hQ _ (fun h=>?_) (fun h=>?_) <;> clear hQ Q <;> (try simp only [vki,reduceCtorEq] at h))|(refine kx ?_;kernel_rfl)|omega|assumption|with_reducible rfl|skip)))
    (simp only [vrt,Try.results82,vkt,seval,wz,jS,ql,qc,qp,qz,qE,qP,qQ,ncS,List.length_map];refine Fin.ok some [] ?_ ?_ ?_ ?_ ?_ rfl;all_goals (try simp only [vle,vkt,seval,wz,jS,ql,qc,qp,qz,qE,qP,qQ,ncS,List.length_map]))
    all_goals first|rfl|(simp;done)|(rw [hon];exact ⟨⟨rfl,rfl⟩,rfl⟩)
def vI (S:St):List AV→Option Pk
  |[.v (.int .i64 i),.agg [.v (.int .i64 c),.v (.int .i64 d)],.ptr p 0,.ptr q 0]=>match S.h p,S.h q with
    |some (.cells [.row r]),some (.cells [.mp m])=>match S.h r,S.h m with
      |some (.row _ _ xs),some (.map es)=>some { pre:=xs=(xs.map Jm).map qz∧i=(i.toNat:Int)∧NxOk (xs.map Jm) es i.toNat,hs:=[p,q,r,m],ar:=[.v (.int .i64 i),.agg [.v (.int .i64 c),.v (.int .i64 d)],.ptr 0 0,.ptr 1 0],L0:=nxL (xs.map Jm) es,v:=.tup [ql (yJ ((xs.map Jm).drop i.toNat) ⟨c,d⟩).1,aI (yJ ((xs.map Jm).drop i.toNat) ⟨c,d⟩).2],L1:=(nxL (xs.map Jm) es).map some }
      |_,_=>none
    |_,_=>none
  |_=>none
theorem Qi2:∀ S bs q,vI S bs=some q→q.pre→Fn noB Try.prog 82 q.ar (qg (qI 0 q.L0)) q.v (qg (zT 0 q.L1)) 0:=fun S bs q h hp=>by
  unfold vI at h
  split at h
  · rename_i i c d p q
    split at h
    · split at h
      · rename_i m _ _ _ _ _ xs es _ _
        cases h
        obtain ⟨h1,h2,h3⟩:=hp
        have:=QjJ _ _ _ ⟨c,d⟩ h3
        rw [aI,← h2] at this
        exact this
      · cases h
    · cases h
  · cases h
theorem eNx1 {A:Frm→Prop}:qC A Try.prog 82 (fnQ vI):=QjN Qi2
end Go.Sym.B
namespace Go.Sym.B
open Go Go.Sym Go.Proofs Go.Sym.C
def Qt (n:Nat):Nat→List Int→Nat→List (List Int)
  |0,l,_=>[l]
  |m+1,l,f=>(List.range (n - f)).flatMap fun k=>Qt n m (l++[((f+k:Nat):Int)]) (f+k+1)
def Q4 (sold:List Tk) (p:Int):Nat:=sold.countP fun t=>decide (t.party=p)
def j3 (sold:List Tk):List Int:=((List.range sold.length).filter fun i=>decide (Q4 sold (sold.getD i default).party=1)).map fun (i:Nat)=>(i:Int)
def QD (sold:List Tk) (n:Nat) (b:Bunk):List Tk:=sold.set n ⟨(sold.getD n default).party,(sold.getD n default).sex,b.cab,b.bed,(sold.getD n default).frm,(sold.getD n default).to,(sold.getD n default).dog⟩
def yQ (cs:List Cabin) (s:Int) (a:Ask):List Int→List Tk→Option (List Tr)
  |[],sold=>if wB ⟨cs,s,sold⟩=0∧plP ⟨cs,s,sold⟩ a ≠ [] then some [] else none
  |n :: r,sold=>(qV cs).findSome? fun b=>if b=(sold.getD n.toNat default).bunk then none else (yQ cs s a r (QD sold n.toNat b)).map (⟨n,b.cab,b.bed⟩ :: ·)
def QQ (c:Chart) (l:List Int):List Int:=l.map fun i=>(j3 c.sold).getD i.toNat 0
def Vj (c:Chart) (a:Ask) (m:Nat):Option (List Tr):=(Qt (j3 c.sold).length m [] 0).findSome? fun l=>yQ c.cabins c.secs a (QQ c l) c.sold
def Q9 (c:Chart) (a:Ask):List Tr × Int :=
  if wy c a ≠ 0 then ([],wy c a) else match (List.range 3).findSome? (Vj c a) with
  |some t=>(t,0)
  |none=>([],11)
end Go.Sym.B
namespace Go.Sym.B
open Go Go.Sym Go.Proofs Go.Sym.C
def QfU:KeyInfo:={ kd:=.one (.int .i64),z:=.v (.int .i64 0),agg:=false }
def Rh (es:List (Value × Value)) (p n:Int):Prop:=∃ b,yM QfU (yg es (.int .i64 p))=(True,.v (.int .i64 n),b)
theorem Qbx {es:List (Value × Value)} {p:Int} (h:yg es (.int .i64 p)=none):Rh es p 0:=by
  refine ⟨false, ?_⟩
  rw [h]
  show (_,_,_)=_
  simp [QfU,AV.ids]
theorem Qbi {es:List (Value × Value)} {p n:Int} (h:yg es (.int .i64 p)=some (.int .i64 n)):Rh es p n:=by
  refine ⟨true, ?_⟩
  rw [h]
  show (_,_,_)=_
  simp [QfU,Xx,Value.oneCell',vAV]
theorem QeO {es:List (Value × Value)} {p q n m:Int} (h:p ≠ q→Rh es q m) (h2:p=q→n=m):Rh (yT es (.int .i64 p) (.int .i64 n)) q m:=by
  by_cases hpq:p=q
  · subst hpq
    rw [← h2 rfl]
    exact Qbi (by rw [WX,if_pos rfl])
  · unfold Rh
    rw [WX,if_neg (by simpa using hpq)]
    exact h hpq
structure LnOk (sold:List Tk) (es:List (Value × Value)) (k:Nat):Prop where
  ok:MOK (KD.Q (.one (.int .i64))) es
  look:∀ p,Rh es p (Q4 (sold.take k) p)
  len:es.length≤k
theorem Qka (sold:List Tk):LnOk sold [] 0:=⟨MOK.nil _,fun p=>by rw [List.take_zero];exact Qbx rfl,Nat.le_refl _⟩
theorem QaX {sold:List Tk} {k:Nat} (h:k < sold.length) (p:Int):Q4 (sold.take (k+1)) p=Q4 (sold.take k) p+if (sold.getD k default).party=p then 1 else 0:=by
  unfold Q4
  rw [List.take_succ_eq_append_getElem h,List.countP_append]
  rw [show sold.getD k default=sold[k] by simp [List.getD_eq_getElem?_getD,h]]
  simp
theorem LnOk.step {sold:List Tk} {es:List (Value × Value)} {k:Nat} (h:LnOk sold es k) (hk:k < sold.length) {p:Int} (hp:(sold.getD k default).party=p) {n:Nat} (hn:Q4 (sold.take k) p=n) :
    LnOk sold (yT es (.int .i64 p) (.int .i64 ((n+1:Nat):Int))) (k+1):=by
  refine ⟨h.ok.set rfl,fun q=>?_, ?_⟩
  · rw [QaX hk,hp]
    refine QeO (fun hne=>?_) fun e=>?_
    · rw [if_neg hne,Nat.add_zero];exact h.look q
    · subst e;rw [if_pos rfl,hn]
  · have:=ZR (es:=es) (k:=.int .i64 p) (v:=.int .i64 ((n+1:Nat):Int))
    have:=h.len
    omega
theorem Qet (sold:List Tk) (p:Int):Q4 sold p≤sold.length:=List.countP_le_length
def lnK (sold:List Tk) (k:Nat):List Int:=((List.range k).filter fun i=>decide (Q4 sold (sold.getD i default).party=1)).map fun (i:Nat)=>(i:Int)
theorem Qgm (sold:List Tk) (k:Nat):lnK sold (k+1)=if Q4 sold (sold.getD k default).party=1 then lnK sold k++[(k:Int)] else lnK sold k:=by
  unfold lnK
  rw [List.range_succ,List.filter_append,List.map_append]
  split
  · rename_i h;simp [-List.getD_eq_getElem?_getD,h]
  · rename_i h;simp [-List.getD_eq_getElem?_getD,h]
theorem Qdk (sold:List Tk) (k:Nat):(lnK sold k).length≤k:=by
  unfold lnK
  rw [List.length_map]
  exact Nat.le_trans (List.length_filter_le _ _) (by simp)
theorem Qie (sold:List Tk):lnK sold sold.length=j3 sold:=rfl
def lnA (c:Chart) (es:List (Value × Value)) (k:Nat):St:={ t:=asg [(1,.ptr 0 0),(3,.mp 1),(11,qx c.sold),(12,aI c.sold.length),(13,aI k)],h:=qg [(0,.cells (qb c)),(1,.map es)],n:=2 }
def lnB (c:Chart) (es:List (Value × Value)) (k:Nat):St:={ t:=asg [(3,.mp 1),(6,.row 2),(24,qx c.sold),(25,aI c.sold.length),(26,aI k)],h:=qg [(1,.map es),(2,.row 3 1 ((lnK c.sold k).map zC))],n:=3 }
def jc:=kk @ty3 (kk @Qf (kk @Zb (kk @vg (kk @xy (kk @ty172 (kk @ti3.eq_1 (kk @kC.eq_1 (kk @Qx.eq_1 (kk @yI.eq_1 (kk @vW.eq_1 @Qdb.eq_1))))))))))
def xg:=kk @aI.eq_1 (kk @aB.eq_1 (kk @zC.eq_1 (kk @UN (@qA.eq_1))))
theorem QiR (c:Chart) (hc:c.sold.length≤100):FnV Try.prog 84 [qa c] (qA (j3 c.sold)):=by
  have env:Env (fun _=>True) Try.prog tyB (tab []):=qM trivial
  refine Fn.of (A:=fun _=>True) (n0:=0) (D:=noD) (Fn0 Try.func84 rfl (fun vs w=>by kernel_rfl) (by kernel_rfl)) (by simp) (by simp [AV.ids,AV.idsL,qa,qb]) (fun i o h=>by cases h) (fun _ _ _ _=>trivial) qH ?_
  have hmx:(100000:Nat)≤maxLen:=by decide
  repeat' (first|(apply nx;with_reducible constructor)|refine jq (by decide) ?_|((first|refine kz env fun Q hQ=>?_|refine kj fun Q hQ=>?_);simp only [vkt,seval,jc,xg,qx,eTk,gTk,qa,qb,lnA,lnB,MapKept.IsKey,List.length_map];(try simp only [ite_and]);(repeat' (first|with_reducible assumption|refine And.intro ?_ ?_|intro hp));all_goals (first|(refine hQ _ ?_;clear hQ Q)|(refine hQ _ (fun h=>?_) (fun h=>?_) <;> clear hQ Q <;> (try simp only [vki,reduceCtorEq] at h))|(refine kx ?_;kernel_rfl)|omega|assumption|with_reducible rfl|skip)))
  refine qU (fun x:{ x:Nat × List (Value × Value) // x.1≤c.sold.length∧LnOk c.sold x.2 x.1 }=>lnA c x.1.2 x.1.1) (fun x=>c.sold.length - x.1.1) ⟨(0,[]),Nat.zero_le _,Qka _⟩ ?_ fun ⟨(k,es),hk,hL⟩=>?_
  · (refine Le.ok some [] ?_;constructor;all_goals (try simp only [vle,vkt,seval,jc,xg,qx,eTk,gTk,qa,qb,lnA,lnB,MapKept.IsKey,List.length_map]))
    all_goals first|rfl|(simp;done)
  simp only at hk hL ⊢
  by_cases hkl:k < c.sold.length
  · have d1:decide ((k:Int) < (c.sold.length:Int))=true:=decide_eq_true (by omega)
    have e9:IntKind.wrap .i64 ((k:Int)+1)=((k+1:Nat):Int):=by rw [wrap64 (by omega) (by omega)];rfl
    obtain ⟨x,hx⟩:∃ x,c.sold.getD k default=x:=⟨_,rfl⟩
    obtain ⟨n,hn⟩:∃ n,Q4 (c.sold.take k) x.party=n:=⟨_,rfl⟩
    have hnb:=Qet (c.sold.take k) x.party
    rw [hn,List.length_take] at hnb
    obtain ⟨b,hl⟩:=hL.look x.party
    rw [hn] at hl
    simp only [QfU] at hl
    have hM:=hL.ok
    have w1:IntKind.wrap .i64 ((n:Int)+1)=((n+1:Nat):Int):=by rw [wrap64 (by omega) (by omega)];rfl
    have hml:(yT es (.int .i64 x.party) (.int .i64 ((n+1:Nat):Int))).length≤maxLen:=by
      have h1:=ZR (es:=es) (k:=.int .i64 x.party) (v:=.int .i64 ((n+1:Nat):Int))
      have h2:=hL.len
      omega
    repeat' (first|(apply nx;with_reducible constructor)|refine jq (by decide) ?_|((first|refine kz env fun Q hQ=>?_|refine kj fun Q hQ=>?_);simp only [vkt,seval,jc,xg,qx,eTk,gTk,qa,qb,lnA,lnB,MapKept.IsKey,List.length_map,d1,e9,hx,hl,hM,w1,hml];(try simp only [ite_and]);(repeat' (first|with_reducible assumption|refine And.intro ?_ ?_|intro hp));all_goals (first|(refine hQ _ ?_;clear hQ Q)|(refine hQ _ (fun h=>?_) (fun h=>?_) <;> clear hQ Q <;> (try simp only [vki,reduceCtorEq] at h))|(refine kx ?_;kernel_rfl)|omega|assumption|with_reducible rfl|skip)))
    refine ⟨⟨(k+1,yT es (.int .i64 x.party) (.int .i64 ((n+1:Nat):Int))),hkl,hL.step hkl (by rw [hx]) hn⟩,by show c.sold.length - (k+1) < c.sold.length - k;omega, ?_⟩
    (refine Le.ok some [] ?_;constructor;all_goals (try simp only [vle,vkt,seval,jc,xg,qx,eTk,gTk,qa,qb,lnA,lnB,MapKept.IsKey,List.length_map]))
    all_goals first|rfl|(simp;done)
  · have d1:decide ((k:Int) < (c.sold.length:Int))=false:=decide_eq_false (by omega)
    obtain rfl:k=c.sold.length:=by omega
    repeat' (first|(apply nx;with_reducible constructor)|refine jq (by decide) ?_|((first|refine kz env fun Q hQ=>?_|refine kj fun Q hQ=>?_);simp only [vkt,seval,jc,xg,qx,eTk,gTk,qa,qb,lnA,lnB,MapKept.IsKey,List.length_map,d1];(try simp only [ite_and]);(repeat' (first|with_reducible assumption|refine And.intro ?_ ?_|intro hp));all_goals (first|(refine hQ _ ?_;clear hQ Q)|(refine hQ _ (fun h=>?_) (fun h=>?_) <;> clear hQ Q <;> (try simp only [vki,reduceCtorEq] at h))|(refine kx ?_;kernel_rfl)|omega|assumption|with_reducible rfl|skip)))
    refine qU (fun k:{ k:Nat // k≤c.sold.length }=>lnB c es k.1) (fun k=>c.sold.length - k.1) ⟨0,Nat.zero_le _⟩ ?_ fun ⟨k,hk⟩=>?_
    · (refine Le.ok (fun i=>if i=2 then none else some i) [] ?_;constructor;all_goals (try simp only [vle,vkt,seval,jc,xg,qx,eTk,gTk,qa,qb,lnA,lnB,MapKept.IsKey,List.length_map]))
      all_goals first|rfl|(simp [lnK];done)|(intro i hi;rw [if_neg (by omega)];done)
    simp only at hk ⊢
    by_cases hkl:k < c.sold.length
    · have d1:decide ((k:Int) < (c.sold.length:Int))=true:=decide_eq_true (by omega)
      have e9:IntKind.wrap .i64 ((k:Int)+1)=((k+1:Nat):Int):=by rw [wrap64 (by omega) (by omega)];rfl
      obtain ⟨x,hx⟩:∃ x,c.sold.getD k default=x:=⟨_,rfl⟩
      obtain ⟨n,hn⟩:∃ n,Q4 c.sold x.party=n:=⟨_,rfl⟩
      obtain ⟨b,hl⟩:=hL.look x.party
      rw [List.take_length,hn] at hl
      simp only [QfU] at hl
      have hM:=hL.ok
      have hS:=Qgm c.sold k
      have hkn:=Qdk c.sold k
      have hkm:(lnK c.sold k).length+1≤maxLen:=by omega
      rw [hx,hn] at hS
      by_cases h1:n=1
      · rw [if_pos h1] at hS
        rw [show (n:Int)=1 by omega] at hl
        repeat' (first|(apply nx;with_reducible constructor)|refine jq (by decide) ?_|((first|refine kz env fun Q hQ=>?_|refine kj fun Q hQ=>?_);simp only [vkt,seval,jc,xg,qx,eTk,gTk,qa,qb,lnA,lnB,MapKept.IsKey,List.length_map,d1,e9,hx,hl,hM,hkm,decide_true];(try simp only [ite_and]);(repeat' (first|with_reducible assumption|refine And.intro ?_ ?_|intro hp));all_goals (first|(refine hQ _ ?_;clear hQ Q)|(refine hQ _ (fun h=>?_) (fun h=>?_) <;> clear hQ Q <;> (try simp only [vki,reduceCtorEq] at h))|(refine kx ?_;kernel_rfl)|omega|assumption|with_reducible rfl|skip)))
        refine ⟨⟨k+1,hkl⟩,by show c.sold.length - (k+1) < c.sold.length - k;omega, ?_⟩
        show Le _ (lnB c es (k+1))
        unfold lnB
        rw [hS]
        (refine Le.ok (fun i=>if i=2 then some 5 else some i) [] ?_;constructor;all_goals (try simp only [vle,vkt,seval,jc,xg,qx,eTk,gTk,qa,qb,lnA,lnB,MapKept.IsKey,List.length_map]))
        all_goals first|rfl|(rw [List.map_append];rfl)|(simp;done)|(intro i hi;rw [if_neg (by omega)];done)
      · rw [if_neg h1] at hS
        have d2:decide ((n:Int)=1)=false:=decide_eq_false (by omega)
        repeat' (first|(apply nx;with_reducible constructor)|refine jq (by decide) ?_|((first|refine kz env fun Q hQ=>?_|refine kj fun Q hQ=>?_);simp only [vkt,seval,jc,xg,qx,eTk,gTk,qa,qb,lnA,lnB,MapKept.IsKey,List.length_map,d1,e9,hx,hl,hM,d2];(try simp only [ite_and]);(repeat' (first|with_reducible assumption|refine And.intro ?_ ?_|intro hp));all_goals (first|(refine hQ _ ?_;clear hQ Q)|(refine hQ _ (fun h=>?_) (fun h=>?_) <;> clear hQ Q <;> (try simp only [vki,reduceCtorEq] at h))|(refine kx ?_;kernel_rfl)|omega|assumption|with_reducible rfl|skip)))
        refine ⟨⟨k+1,hkl⟩,by show c.sold.length - (k+1) < c.sold.length - k;omega, ?_⟩
        show Le _ (lnB c es (k+1))
        unfold lnB
        rw [hS]
        (refine Le.ok some [] ?_;constructor;all_goals (try simp only [vle,vkt,seval,jc,xg,qx,eTk,gTk,qa,qb,lnA,lnB,MapKept.IsKey,List.length_map]))
        all_goals first|rfl|(simp;done)
    · have d1:decide ((k:Int) < (c.sold.length:Int))=false:=decide_eq_false (by omega)
      obtain rfl:k=c.sold.length:=by omega
      have hall:=Qie c.sold
      repeat' (first|(apply nx;with_reducible constructor)|refine jq (by decide) ?_|((first|refine kz env fun Q hQ=>?_|refine kj fun Q hQ=>?_);simp only [vkt,seval,jc,xg,qx,eTk,gTk,qa,qb,lnA,lnB,MapKept.IsKey,List.length_map,d1,hall];(try simp only [ite_and]);(repeat' (first|with_reducible assumption|refine And.intro ?_ ?_|intro hp));all_goals (first|(refine hQ _ ?_;clear hQ Q)|(refine hQ _ (fun h=>?_) (fun h=>?_) <;> clear hQ Q <;> (try simp only [vki,reduceCtorEq] at h))|(refine kx ?_;kernel_rfl)|omega|assumption|with_reducible rfl|skip)))
      simp only [vrt,Try.results84,vkt,seval,jc,xg,qx,eTk,gTk,qa,qb,lnA,lnB,MapKept.IsKey,List.length_map]
      show Fin _ _ _ 0 (qg []) 0
      refine Fin.ok some [2] ?_ ?_ ?_ ?_ ?_ rfl
      all_goals (try simp only [vle,vkt,seval,jc,xg,qx,eTk,gTk,qa,qb,lnA,lnB,MapKept.IsKey,List.length_map])
      all_goals first|rfl|(simp;done)
def ZP:List AV→Prop × AV
  |[.agg [.sl c0,.v (.int .i64 c1),.sl c2]]=>(c0=(c0.map qB).map qo∧c2=(c2.map dTk).map eTk∧((⟨(c0.map qB),c1,(c2.map dTk)⟩:Chart)).sold.length≤100,qA (j3 ((⟨(c0.map qB),c1,(c2.map dTk)⟩:Chart)).sold))
  |_=>(False,.junk)
theorem elone {A:Frm→Prop}:qC A Try.prog 84 (zk false ZP):=zn fun vs hv h=>by
  clear hv
  unfold ZP at h ⊢
  split at h
  · rename_i c0 c1 c2;obtain ⟨q0,q1,k0⟩:=h
    refine ⟨by first|trivial|(simp [AV.plain,AV.plainL,aI,aB,qA,qc,qx,ql,aTk,cTk];done)|(repeat' split) <;> simp [AV.plain,AV.plainL,aI,aB,qA,qc,qx,ql,aTk,cTk],fun h=>absurd h (by decide), ?_⟩
    have:=QiR ((⟨(c0.map qB),c1,(c2.map dTk)⟩:Chart)) k0
    simp only [zR,qa,aI,qx,qb,← q0,← q1] at this
    first|exact this|(simp only [zR,qa,aI,qx,qb,← q0,← q1];exact this)
  · exact h.elim
end Go.Sym.B
namespace Go.Sym.B
open Go Go.Sym Go.Proofs Go.Sym.C
theorem QaD (sold:List Tk) (n:Nat) (b:Bunk) {x:Tk} (hx:sold.getD n default=x):(QD sold n b).map eTk=(sold.map eTk).set n [.v (.int .i64 x.party),.v (.int .i64 x.sex),.v (.int .i64 b.cab),.v (.int .i64 b.bed),.v (.int .i64 x.frm),.v (.int .i64 x.to),.v (.bool x.dog)]:=by
  unfold QD
  rw [hx,List.map_set]
  rfl
theorem XG (sold:List Tk) (n:Nat) (b:Bunk):(QD sold n b).length=sold.length:=by simp [QD]
theorem QgE (sold:List Tk) (n:Nat) (b d:Bunk) (h:n < sold.length):QD (QD sold n b) n d=QD sold n d:=by
  unfold QD
  rw [show (sold.set n ⟨(sold.getD n default).party,(sold.getD n default).sex,b.cab,b.bed,(sold.getD n default).frm,(sold.getD n default).to,(sold.getD n default).dog⟩).getD n default=⟨(sold.getD n default).party,(sold.getD n default).sex,b.cab,b.bed,(sold.getD n default).frm,(sold.getD n default).to,(sold.getD n default).dog⟩ by simp [List.getD_eq_getElem?_getD,h]]
  simp
theorem QeX (sold:List Tk) (n:Nat) (h:n < sold.length):QD sold n (sold.getD n default).bunk=sold:=by
  unfold QD Tk.bunk
  rw [show (⟨(sold.getD n default).party,(sold.getD n default).sex,(sold.getD n default).cab,(sold.getD n default).bed,(sold.getD n default).frm,(sold.getD n default).to,(sold.getD n default).dog⟩:Tk)=sold[n] by simp [List.getD_eq_getElem?_getD,h]]
  exact List.set_getElem_self h
def s1L (cs:List Cabin) (s:Int) (sold:List Tk) (was:Bunk) (n:Nat):List AObj:=[qf cs s 1,qh sold,.cells [.ptr 0 0],.cells [.v (.int .i64 was.cab),.v (.int .i64 was.bed)],.cells [aI n]]
def ZZ:=kk @ty3 (kk @Zb (kk @vg (kk @kZ (kk @xy (kk @Qb (kk @JO (kk @ti3.eq_1 (kk @Qx.eq_1 (kk @yI.eq_1 (kk @xQ.eq_1 (kk @vW.eq_1 (kk @xE.eq_1 @ZL.eq_1))))))))))))
def UX:=kk @aI.eq_1 (@aB.eq_1)
theorem QeN (cs:List Cabin) (s:Int) (sold:List Tk) (was:Bunk) (n:Nat) (hn:n < sold.length):FnD Try.prog 120 [.ptr 3 0,.ptr 2 0,.ptr 4 0] (qg (qI 0 (s1L cs s sold was n))) (.tup []) (qg (zT 0 ((s1L cs s (QD sold n was) was n).map some))):=by
  have env:Env (fun F=>F.r=none) Try.prog tyB (tab []):=qM trivial
  refine FnD.of (n0:=5) (Fn0 Try.func120 rfl (fun vs w=>by kernel_rfl) (by kernel_rfl)) (by simp) (by simp [AV.ids,AV.idsL]) ?_ ?_
  · intro i o hi
    have h:=qL hi
    simp [qI,s1L] at h
    rcases h with ⟨rfl,rfl⟩|⟨rfl,rfl⟩|⟨rfl,rfl⟩|⟨rfl,rfl⟩|⟨rfl,rfl⟩ <;> simp [AObj.ids,AV.ids,AV.idsL,qf,qh,aI]
  obtain ⟨x,hx⟩:∃ x,sold.getD n default=x:=⟨_,rfl⟩
  have hp:=QaD sold n was hx
  have hg:=hTk hn
  rw [hx] at hg
  have i0:((n:Int)).toNat=n:=rfl
  show Sym _ _ _ (zq [.ptr 3 0,.ptr 2 0,.ptr 4 0] 5 (qg [(0,qf cs s 1),(1,qh sold),(2,.cells [.ptr 0 0]),(3,.cells [.v (.int .i64 was.cab),.v (.int .i64 was.bed)]),(4,.cells [aI n])])) (QhG tyB Try.f120 fun S rv=>Fin S rv _ 5 (qg [(0,qf cs s 1),(1,.row 81 7 ((QD sold n was).map eTk)),(2,.cells [.ptr 0 0]),(3,.cells [.v (.int .i64 was.cab),.v (.int .i64 was.bed)]),(4,.cells [aI n])]) 0)
  rw [hp]
  repeat' (first|(apply nx;with_reducible constructor)|refine jq (by decide) ?_|((first|refine kz env fun Q hQ=>?_|refine kj fun Q hQ=>?_);simp only [vkt,seval,ZZ,UX,eTk,qf,qh,s1L,List.length_map,hg,i0,hn];(try simp only [ite_and]);(repeat' (first|with_reducible assumption|refine And.intro ?_ ?_|intro hp));all_goals (first|(refine hQ _ ?_;clear hQ Q)|(refine hQ _ (fun h=>?_) (fun h=>?_) <;> clear hQ Q <;> (try simp only [vki,reduceCtorEq] at h))|(refine kx ?_;kernel_rfl)|omega|assumption|with_reducible rfl|skip)))
  simp only [QhG.eq_1]
  refine ⟨trivial, ?_⟩
  (simp only [vrt,Try.results120,vkt,seval,ZZ,UX,eTk,qf,qh,s1L,List.length_map];refine Fin.ok some [] ?_ ?_ ?_ ?_ ?_ rfl;all_goals (try simp only [vle,vkt,seval,ZZ,UX,eTk,qf,qh,s1L,List.length_map]))
  all_goals first|rfl|(simp;done)
def wW (S:St):List AV→Option Pk
  |[.ptr w 0,.ptr q 0,.ptr m 0]=>match S.h w,S.h q,S.h m with
    |some (.cells [.v (.int .i64 a),.v (.int .i64 b)]),some (.cells [.ptr c 0]),some (.cells [.v (.int .i64 n)])=>match S.h c with
      |some (.cells [.sl cs,.v (.int .i64 s),.row r])=>match S.h r with
        |some (.row _ _ xs)=>some { pre:=cs=(cs.map qB).map qo∧xs=(xs.map dTk).map eTk∧n=(n.toNat:Int)∧n.toNat < (xs.map dTk).length,hs:=[c,r,q,w,m],ar:=[.ptr 3 0,.ptr 2 0,.ptr 4 0],L0:=s1L (cs.map qB) s (xs.map dTk) ⟨a,b⟩ n.toNat,v:=.tup [],L1:=(s1L (cs.map qB) s (QD (xs.map dTk) n.toNat ⟨a,b⟩) ⟨a,b⟩ n.toNat).map some }
        |_=>none
      |_=>none
    |_,_,_=>none
  |_=>none
theorem QhQ {A:Frm→Prop}:Zr.OK A Try.prog (dfE 120 wW):=Qhd fun S bs q h hp=>by
  unfold wW at h
  split at h
  · split at h
    · split at h
      · split at h
        · cases h
          obtain ⟨h1,h2,h3,h4⟩:=hp
          exact QeN _ _ _ _ _ h4
        · cases h
      · cases h
    · cases h
  · cases h
end Go.Sym.B
namespace Go.Sym.B
open Go Go.Sym Go.Proofs Go.Sym.C
theorem Qdh (f:Bunk→Option (List Tr)):∀ l:List Bunk,∃ R,R≤l.length∧(∀ j,j+1 < R→f (l.getD j default)=none)∧(R < l.length→0 < R∧f (l.getD (R - 1) default) ≠ none)∧l.findSome? f=if R=0 then none else f (l.getD (R - 1) default)
  |[]=>⟨0,Nat.le_refl _,fun _ h=>absurd h (Nat.not_lt_zero _),fun h=>absurd h (Nat.lt_irrefl _),rfl⟩
  |b :: l=>by
    cases hb:f b with
    |some t =>
      refine ⟨1,by simp,fun j h=>by omega,fun _=>⟨by omega, ?_⟩, ?_⟩
      · show f b ≠ none
        rw [hb];simp
      · rw [List.findSome?_cons,hb,if_neg (by omega)]
        exact hb.symm
    |none =>
      obtain ⟨R,h1,h2,h3,h4⟩:=Qdh f l
      refine ⟨R+1,by simpa using h1,fun j hj=>?_,fun hlt=>?_, ?_⟩
      · cases j with
        |zero=>exact hb
        |succ j=>exact h2 j (by omega)
      · obtain ⟨g1,g2⟩:=h3 (by simpa using hlt)
        refine ⟨by omega, ?_⟩
        rw [show R+1 - 1=(R - 1)+1 by omega]
        exact g2
      · rw [List.findSome?_cons,hb,if_neg (by omega)]
        simp only
        rw [h4]
        by_cases hR:R=0
        · subst hR;rw [if_pos rfl];exact hb.symm
        · rw [if_neg hR,show R+1 - 1=(R - 1)+1 by omega];rfl
def shF (cs:List Cabin) (s:Int) (a:Ask) (r:List Int) (sold:List Tk) (k:Nat) (b:Bunk):Option (List Tr):=if b=(sold.getD k default).bunk then none else (yQ cs s a r (QD sold k b)).map (⟨(k:Int),b.cab,b.bed⟩ :: ·)
theorem QaT (cs:List Cabin) (s:Int) (a:Ask) (r:List Int) (sold:List Tk) (k:Nat):yQ cs s a ((k:Int) :: r) sold=(qV cs).findSome? (shF cs s a r sold k):=rfl
def JN (cs:List Cabin) (sold:List Tk) (k:Nat):Nat→List Tk
  |0=>sold
  |j+1=>if (qV cs).getD j default=(sold.getD k default).bunk then JN cs sold k j else QD sold k ((qV cs).getD j default)
theorem KT (cs:List Cabin) (sold:List Tk) (k:Nat) (h:k < sold.length):∀ j,(JN cs sold k j).length=sold.length∧∀ d,QD (JN cs sold k j) k d=QD sold k d
  |0=>⟨rfl,fun _=>rfl⟩
  |j+1=>by
    rw [JN]
    split
    · exact KT cs sold k h j
    · exact ⟨XG _ _ _,fun d=>QgE _ _ _ _ h⟩
structure ShOk (cs:List Cabin) (s:Int) (a:Ask) (sold:List Tk) (ts:List Int):Prop where
  cabs:1≤cs.length∧cs.length≤3
  beds:∀ x ∈ cs,1≤x.beds∧x.beds≤3
  many:sold.length≤8
  sx:a.sexes.length≤3
  lenT:ts.length≤3
  ts:∀ n ∈ ts,0≤n∧n.toNat < sold.length
theorem ShOk.tail {cs:List Cabin} {s:Int} {a:Ask} {sold:List Tk} {n:Int} {r:List Int} (h:ShOk cs s a sold (n :: r)) (m:Nat) (b:Bunk):ShOk cs s a (QD sold m b) r:=by
  refine ⟨h.cabs,h.beds,by rw [XG];exact h.many,h.sx,by have:=h.lenT;simp at this;omega,fun n hn=>?_⟩
  rw [XG]
  exact h.ts n (List.mem_cons_of_mem _ hn)
theorem Xi {cs:List Cabin} {s:Int} {a:Ask}:∀ {ts:List Int} {sold:List Tk} {l:List Tr},yQ cs s a ts sold=some l→l.length=ts.length
  |[],sold,l,h=>by
    unfold yQ at h
    split at h
    · cases h;rfl
    · cases h
  |n :: r,sold,l,h=>by
    unfold yQ at h
    obtain ⟨b,hb⟩:∃ b,(if b=(sold.getD n.toNat default).bunk then none else (yQ cs s a r (QD sold n.toNat b)).map (⟨n,b.cab,b.bed⟩ :: ·))=some l:=by
      obtain ⟨b,_,hb⟩:=List.exists_of_findSome?_eq_some h
      exact ⟨b,hb⟩
    split at hb
    · cases hb
    · obtain ⟨l',hl',rfl⟩:=Option.map_eq_some_iff.1 hb
      rw [List.length_cons,Xi hl',List.length_cons]
end Go.Sym.B
namespace Go.Sym.B
open Go Go.Sym Go.Proofs Go.Sym.C
def Qgz (cs:List Cabin) (s:Int) (a:Ask) (m:Nat):Prop:=∀ (sold:List Tk) (ts:List Int),ts.length=m→ShOk cs s a sold ts →
  Fn noB Try.prog 87 [.ptr 0 0,qA ts,qw a] (qg (qI 0 (qm cs s sold))) (.tup [zi ((yQ cs s a ts sold).getD []),aB (yQ cs s a ts sold).isSome]) (qg (zT 0 ((qm cs s sold).map some))) 0
def s0L0:List (Nat × AV):=[(6,.ptr 5 0),(7,.ptr 6 0),(24,.clo 114 [.ptr 7 0,.ptr 8 0])]
def s0L:List (Nat × AV):=[(6,.ptr 5 0),(7,.ptr 6 0)]
def s0H (k:Nat):List (Nat × AObj):=[(5,.cells [.nil]),(6,.cells [aB (decide (0 < k))])]
theorem Xv (c:Chart) (a:Ask):za [0,1,7,8] 10 0 (plL c a)=[(0,qf c.cabins c.secs 1),(1,qh c.sold),(7,.cells [.ptr 0 0]),(8,.cells (qj a))]:=by
  simp [za,plL,qy,AObj.ren,AV.renL,AV.ren,qf,qh,qj]
theorem RX (c:Chart) (a:Ask) (j:Nat):za [0] 10 0 (plH c a j)=[(0,qf c.cabins c.secs 10),(10,qh ((plP c a).getD j default).2)]:=by
  simp [za,plH,qm,qy,AObj.ren,AV.renL,AV.ren,qf,qh]
def wP:=kk @ty3 (kk @ty4 (kk @Qf (kk @Zb (kk @vg (kk @kX (kk @JH (kk @kZ (kk @QeZ (kk @Qd1 (kk @xy (kk @Qb (kk @JO (kk @ti3.eq_1 (kk @ti4.eq_1 (kk @kC.eq_1 (kk @Qx.eq_1 (kk @yI.eq_1 (kk @xB.eq_1 (kk @Wq.eq_1 (kk @xQ.eq_1 (kk @R4.eq_1 (kk @Ul.eq_1 (kk @vW.eq_1 (kk @xE.eq_1 @ZL.eq_1))))))))))))))))))))))))
def xm:=kk @aI.eq_1 (kk @aB.eq_1 (kk @qA.eq_1 (@kW)))
set_option maxHeartbeats 2000000 in
theorem QbH (cs:List Cabin) (s:Int) (a:Ask):Qgz cs s a 0:=by
  intro sold ts ht ok
  obtain rfl:=List.eq_nil_of_length_eq_zero ht
  have env:Env (fun F=>F.r=none) Try.prog tyB (tab [(44,zk true zh),(68,fnE qF)]):=qM ⟨Xt,Yg,trivial⟩
  refine Fn.of (A:=fun F=>F.r=none) (n0:=2) (D:=noD) (Fn0 Try.func87 rfl (fun vs w=>by kernel_rfl) (by kernel_rfl)) (by simp) (by simp [AV.ids,AV.idsL,qA,qw,qj]) vE (fun _ _ _ h=>h) qH ?_
  obtain ⟨c,hc⟩:∃ c:Chart,(⟨cs,s,sold⟩:Chart)=c:=⟨_,rfl⟩
  have e1:cs=c.cabins:=by rw [← hc]
  have e2:s=c.secs:=by rw [← hc]
  have e3:sold=c.sold:=by rw [← hc]
  have hcm:c.cabins.length≤maxLen:=by
    have h1:=ok.cabs
    have h2:(3:Nat)≤maxLen:=by decide
    rw [← e1];omega
  show Sym _ _ _ (zq [.ptr 0 0,qA [],qw a] 2 (qg [(0,qf cs s 1),(1,qh sold)])) (yB tyB noD Try.f87 fun S rv=>Fin S rv (.tup [zi ((if wB ⟨cs,s,sold⟩=0∧plP ⟨cs,s,sold⟩ a ≠ [] then some [] else none:Option (List Tr)).getD []),aB (if wB ⟨cs,s,sold⟩=0∧plP ⟨cs,s,sold⟩ a ≠ [] then some [] else none:Option (List Tr)).isSome]) 2 (qg [(0,qf cs s 1),(1,qh sold)]) 0)
  rw [e1,e2,e3] at hc ⊢
  rw [hc]
  by_cases h0:wB c=0
  · have hpo:PlOk c a:=⟨Q7 h0,ok.sx⟩
    repeat' (first|(apply nx;with_reducible constructor)|refine jq (by decide) ?_|refine wS ?_|refine jr ?_|refine jC ?_|refine jB ?_|((first|refine kz env fun Q hQ=>?_|refine kj fun Q hQ=>?_);simp only [vkt,seval,wP,xm,zi,qw,qj,qd,mTk,qf,qh,qm,plL,s0L,s0H,zh,qF,List.length_map,List.map_nil,nth,hwL,Nat.zero_add,Nat.sub_zero,hc,h0,decide_true];(try simp only [ite_and]);(repeat' (first|with_reducible assumption|refine And.intro ?_ ?_|intro hp));all_goals (first|(refine hQ _ ?_;clear hQ Q)|(refine hQ _ (fun h=>?_) (fun h=>?_) <;> clear hQ Q <;> (try simp only [vki,reduceCtorEq] at h))|(refine kx ?_;kernel_rfl)|omega|assumption|with_reducible rfl|skip)))
    refine xO (S':={ t:=asg s0L0,h:=qg (s0H 0++[(0,qf c.cabins c.secs 1),(1,qh c.sold),(7,.cells [.ptr 0 0]),(8,.cells (qj a))]),n:=9,j:=0,d:=[],m:=2 }) ?_ ?_
    · show Le _ { t:=asg [(6,.ptr 5 0),(7,.ptr 6 0),(24,.clo 114 [.ptr 7 0,.ptr 8 0])],h:=qg [(5,.cells [.nil]),(6,.cells [aB false]),(0,qf c.cabins c.secs 1),(1,qh c.sold),(7,.cells [.ptr 0 0]),(8,.cells (qj a))],n:=9,j:=0,d:=[],m:=2 }
      (refine Le.ok some [] ?_;constructor;all_goals (try simp only [vle,vkt,seval,wP,xm,zi,qw,qj,qd,mTk,qf,qh,qm,plL,s0L,s0H,zh,qF,List.length_map,List.map_nil,nth,hwL,Nat.zero_add,Nat.sub_zero]))
      all_goals first|rfl|(simp [qj,AV.leL,AV.le,AV.idsL,AV.ids];done)
    rw [← Xv c a]
    obtain ⟨N,hN⟩:∃ N,(plP c a).length=N:=⟨_,rfl⟩
    obtain ⟨R,hR⟩:∃ R,(if N=0 then 0 else 1)=R:=⟨_,rfl⟩
    have hRo:Rounds (fun _=>false) R N:=by
      by_cases hN0:N=0
      · rw [if_pos hN0] at hR
        exact ⟨by omega,fun j hj=>by omega,fun h=>by omega⟩
      · rw [if_neg hN0] at hR
        exact ⟨by omega,fun j hj=>by omega,fun h=>⟨by omega,rfl⟩⟩
    have hR1:∀ j,j < R→j=0∧R=1:=fun j hj=>by
      by_cases hN0:N=0
      · rw [if_pos hN0] at hR;omega
      · rw [if_neg hN0] at hR;omega
    refine vV (fun F h=>h) 1 (L:=s0L0) (L':=s0L) (xs:=[1,7,8]) (hs:=[0,1,7,8]) (n:=9) (nl:=1) (hc:=s0H) (Lp:=plL c a) (jj:=fun _=>0) (d:=[]) (ys:=plY c a) (hl:=plH c a) (ans:=fun _=>false) (ex:=.ret) (caps:=[.ptr 7 0,.ptr 8 0]) (caps0:=[.ptr 2 0,.ptr 3 0]) (N:=(plP c a).length) (R:=R) (A':=fun _ _=>True) rfl (Jq hpo) (by rw [hN];exact hRo) (.inl rfl) ?_ ?_ ?_ rfl (by simp) ?_ (by simp) (fun _ _ _ _ _ _=>trivial) ?_ ?_ ?_ ?_ ?_ ?_ (fun j hj=>?_) ?_ (fun j hj=>?_) (fun hall=>?_) (fun hpos _=>?_)
    · simp [AV.leL,AV.le]
    · simp [AV.nocbL,AV.nocb]
    · simp [WW,plL,qf,qh,qj,AObj.nocb,AV.nocbL,AV.nocb,AObj.ids,AV.ids,AV.idsL,AObj.ren,AV.renL,AV.ren,AObj.le,AV.leL,AV.le,qy]
    · simp [s0H,qg]
    · simp [s0H,qg]
    · simp [s0H,AObj.ids,AV.ids,AV.idsL,aB]
    · simp [RU,s0L,s0L0,asg,upd]
    · simp [LD]
    · intro j hj
      simp [absent,s0H,RX]
    · simp [YN,s0L,AV.ids]
    · refine ⟨?_,rfl, ?_, ?_,rfl, ?_⟩
      · simp [QR,s0H,AObj.ids,AV.ids,AV.idsL,aB]
      · simp [WA,plH,qm,qf,qh,AObj.nocb,AV.nocbL,AV.nocb,AObj.ids,AV.ids,AV.idsL]
      · simp [VG,plY,qc,AV.nocb,AV.ids]
      · simp [QG,WS,RX,s0H,s0L,kG,AV.ids,ADf.ids,List.range_succ]
    · simp [QR,s0H,AObj.ids,AV.ids,AV.idsL,aB]
    · obtain ⟨rfl,hR1⟩:=hR1 j hj
      have env:Env (fun _:Frm=>True) Try.prog tyB (tab []):=qM trivial
      obtain ⟨x,hx⟩:∃ x,((plP c a).getD 0 default).1=x:=⟨_,rfl⟩
      obtain ⟨r,hr⟩:∃ r,((plP c a).getD 0 default).2=r:=⟨_,rfl⟩
      have hst:jA s0L [25] [0] 9 1 (plY c a 0) (s0H 0) (plH c a 0)={ t:=asg [(25,qc x),(6,.ptr 5 0),(7,.ptr 6 0)],h:=qg [(9,.mark),(5,.cells [.nil]),(6,.cells [aB false]),(0,qf c.cabins c.secs 10),(10,qh r)],n:=11,m:=11 }:=by
        simp only [jA,Nat.reduceAdd,RX,plY,hx,hr,qc,List.map_cons,List.map_nil,AV.ren,List.zip_cons_cons,List.zip_nil_right,s0H,s0L,Zt,List.cons_append,List.nil_append]
        rfl
      show Sym _ _ _ (jA s0L [25] [0] 9 1 (plY c a 0) (s0H 0) (plH c a 0)) _
      rw [hst]
      repeat' (first|(apply nx;with_reducible constructor)|refine jq (by decide) ?_|refine wS ?_|refine jr ?_|refine jC ?_|refine jB ?_|((first|refine kz env fun Q hQ=>?_|refine kj fun Q hQ=>?_);simp only [vkt,seval,wP,xm,zi,qw,qj,qd,mTk,qf,qh,qm,plL,s0L,s0H,zh,qF,List.length_map,List.map_nil,nth,hwL,Nat.zero_add,Nat.sub_zero];(try simp only [ite_and]);(repeat' (first|with_reducible assumption|refine And.intro ?_ ?_|intro hp));all_goals (first|(refine hQ _ ?_;clear hQ Q)|(refine hQ _ (fun h=>?_) (fun h=>?_) <;> clear hQ Q <;> (try simp only [vki,reduceCtorEq] at h))|(refine kx ?_;kernel_rfl)|omega|assumption|with_reducible rfl|skip)))
      refine ⟨rfl,rfl,some,_,RFin.okQ some [] ?_⟩
      constructor
      all_goals (try simp only [vle,xz,xw,qy,plH,hr,vkt,seval,wP,xm,zi,qw,qj,qd,mTk,qf,qh,qm,plL,s0L,s0H,zh,qF,List.length_map,List.map_nil,nth,hwL,Nat.zero_add,Nat.sub_zero])
      all_goals first|rfl|(simp;done)
    · have hR0:R=0:=by
        by_cases h:R=0
        · exact h
        · exact absurd (hall 0 (by omega)) (by simp)
      have hN0:N=0:=by
        by_cases h:N=0
        · exact h
        · rw [if_neg h] at hR;omega
      have hpe:plP c a=[]:=List.eq_nil_of_length_eq_zero (by rw [hN];exact hN0)
      have eh:qg ((9,AObj.mark) :: s0H R++za [0,1,7,8] (9+1) 0 (plL c a))=qg [(9,.mark),(5,.cells [.nil]),(6,.cells [aB false]),(0,qf c.cabins c.secs 1),(1,qh c.sold),(7,.cells [.ptr 0 0]),(8,.cells (qj a))]:=by
        rw [show za [0,1,7,8] (9+1) 0 (plL c a)=za [0,1,7,8] 10 0 (plL c a) from rfl,Xv,hR0];rfl
      rw [eh,if_neg (by simp [hpe])]
      repeat' (first|(apply nx;with_reducible constructor)|refine jq (by decide) ?_|refine wS ?_|refine jr ?_|refine jC ?_|refine jB ?_|((first|refine kz env fun Q hQ=>?_|refine kj fun Q hQ=>?_);simp only [vkt,seval,wP,xm,zi,qw,qj,qd,mTk,qf,qh,qm,plL,s0L,s0H,zh,qF,List.length_map,List.map_nil,nth,hwL,Nat.zero_add,Nat.sub_zero];(try simp only [ite_and]);(repeat' (first|with_reducible assumption|refine And.intro ?_ ?_|intro hp));all_goals (first|(refine hQ _ ?_;clear hQ Q)|(refine hQ _ (fun h=>?_) (fun h=>?_) <;> clear hQ Q <;> (try simp only [vki,reduceCtorEq] at h))|(refine kx ?_;kernel_rfl)|omega|assumption|with_reducible rfl|skip)))
      (simp only [vrt,Try.results87,vkt,seval,wP,xm,zi,qw,qj,qd,mTk,qf,qh,qm,plL,s0L,s0H,zh,qF,List.length_map,List.map_nil,nth,hwL,Nat.zero_add,Nat.sub_zero];refine Fin.ok some [] ?_ ?_ ?_ ?_ ?_ rfl;all_goals (try simp only [vle,vkt,seval,wP,xm,zi,qw,qj,qd,mTk,qf,qh,qm,plL,s0L,s0H,zh,qF,List.length_map,List.map_nil,nth,hwL,Nat.zero_add,Nat.sub_zero]))
      all_goals first|rfl|(simp [qj,AV.leL,AV.le];done)|exact fun i hi=>(match i,hi with|0,_=>rfl|1,_=>rfl)
    · have hRe:=(hR1 0 hpos).2
      have hN0:¬ N=0:=fun h=>by rw [if_pos h] at hR;omega
      have hpe:plP c a ≠ []:=fun h=>by rw [h] at hN;exact hN0 hN.symm
      have eh:qg ((9,AObj.mark) :: s0H R++za [0,1,7,8] (9+1) 0 (plL c a))=qg [(9,.mark),(5,.cells [.nil]),(6,.cells [aB true]),(0,qf c.cabins c.secs 1),(1,qh c.sold),(7,.cells [.ptr 0 0]),(8,.cells (qj a))]:=by
        rw [show za [0,1,7,8] (9+1) 0 (plL c a)=za [0,1,7,8] 10 0 (plL c a) from rfl,Xv,hRe];rfl
      rw [eh,if_pos ⟨h0,hpe⟩]
      repeat' (first|(apply nx;with_reducible constructor)|refine jq (by decide) ?_|refine wS ?_|refine jr ?_|refine jC ?_|refine jB ?_|((first|refine kz env fun Q hQ=>?_|refine kj fun Q hQ=>?_);simp only [vkt,seval,wP,xm,zi,qw,qj,qd,mTk,qf,qh,qm,plL,s0L,s0H,zh,qF,List.length_map,List.map_nil,nth,hwL,Nat.zero_add,Nat.sub_zero];(try simp only [ite_and]);(repeat' (first|with_reducible assumption|refine And.intro ?_ ?_|intro hp));all_goals (first|(refine hQ _ ?_;clear hQ Q)|(refine hQ _ (fun h=>?_) (fun h=>?_) <;> clear hQ Q <;> (try simp only [vki,reduceCtorEq] at h))|(refine kx ?_;kernel_rfl)|omega|assumption|with_reducible rfl|skip)))
      (simp only [vrt,Try.results87,vkt,seval,wP,xm,zi,qw,qj,qd,mTk,qf,qh,qm,plL,s0L,s0H,zh,qF,List.length_map,List.map_nil,nth,hwL,Nat.zero_add,Nat.sub_zero];refine Fin.ok some [] ?_ ?_ ?_ ?_ ?_ rfl;all_goals (try simp only [vle,vkt,seval,wP,xm,zi,qw,qj,qd,mTk,qf,qh,qm,plL,s0L,s0H,zh,qF,List.length_map,List.map_nil,nth,hwL,Nat.zero_add,Nat.sub_zero]))
      all_goals first|rfl|(simp [qj,AV.leL,AV.le];done)|exact fun i hi=>(match i,hi with|0,_=>rfl|1,_=>rfl)
  · rw [if_neg (fun h=>h0 h.1)]
    repeat' (first|(apply nx;with_reducible constructor)|refine jq (by decide) ?_|refine wS ?_|refine jr ?_|refine jC ?_|refine jB ?_|((first|refine kz env fun Q hQ=>?_|refine kj fun Q hQ=>?_);simp only [vkt,seval,wP,xm,zi,qw,qj,qd,mTk,qf,qh,qm,plL,s0L,s0H,zh,qF,List.length_map,List.map_nil,nth,hwL,Nat.zero_add,Nat.sub_zero,hc,h0,decide_true];(try simp only [ite_and]);(repeat' (first|with_reducible assumption|refine And.intro ?_ ?_|intro hp));all_goals (first|(refine hQ _ ?_;clear hQ Q)|(refine hQ _ (fun h=>?_) (fun h=>?_) <;> clear hQ Q <;> (try simp only [vki,reduceCtorEq] at h))|(refine kx ?_;kernel_rfl)|omega|assumption|with_reducible rfl|skip)))
    (simp only [vrt,Try.results87,vkt,seval,wP,xm,zi,qw,qj,qd,mTk,qf,qh,qm,plL,s0L,s0H,zh,qF,List.length_map,List.map_nil,nth,hwL,Nat.zero_add,Nat.sub_zero];refine Fin.ok some [] ?_ ?_ ?_ ?_ ?_ rfl;all_goals (try simp only [vle,vkt,seval,wP,xm,zi,qw,qj,qd,mTk,qf,qh,qm,plL,s0L,s0H,zh,qF,List.length_map,List.map_nil,nth,hwL,Nat.zero_add,Nat.sub_zero]))
    all_goals first|rfl|(simp [qj,AV.leL,AV.le];done)
end Go.Sym.B
namespace Go.Sym.B
open Go Go.Sym Go.Proofs Go.Sym.C
def j6 (cs:List Cabin) (s:Int) (a:Ask) (m:Nat) (S:St):List AV→Option Pk
  |[.ptr p 0,.sl ts,.agg aa]=>match S.h p with
    |some (.cells [.sl cc,.v (.int .i64 s'),.row r])=>match S.h r with
      |some (.row _ _ xs)=>some { pre:=cc=cs.map qo∧s'=s∧aa=qj a∧ts=(ts.map zl).map zC∧xs=(xs.map dTk).map eTk∧(ts.map zl).length=m∧ShOk cs s a (xs.map dTk) (ts.map zl),hs:=[p,r],ar:=[.ptr 0 0,.sl ts,.agg aa],L0:=qm cs s (xs.map dTk),v:=.tup [zi ((yQ cs s a (ts.map zl) (xs.map dTk)).getD []),aB (yQ cs s a (ts.map zl) (xs.map dTk)).isSome],L1:=(qm cs s (xs.map dTk)).map some }
      |_=>none
    |_=>none
  |_=>none
theorem QkF {A:Frm→Prop} {cs:List Cabin} {s:Int} {a:Ask} {m:Nat} (ih:Qgz cs s a m):qC A Try.prog 87 (fnE (j6 cs s a m)):=zx fun S bs q h hp=>by
  unfold j6 at h
  split at h
  · split at h
    · split at h
      · cases h
        obtain ⟨_,_,h3,h4,_,h6,h7⟩:=hp
        have:=ih _ _ h6 h7
        rw [qA,← h4,qw,← h3] at this
        exact this
      · cases h
    · cases h
  · cases h
def shT:List (Nat × AV):=[(3,.ptr 2 0),(4,.ptr 3 0),(5,.ptr 4 0),(6,.ptr 5 0),(7,.ptr 6 0),(8,.ptr 7 0),(9,.ptr 8 0)]
def shT0:List (Nat × AV):=shT++[(43,.clo 123 [.ptr 9 0])]
def JK (cs:List Cabin) (s:Int) (a:Ask) (r:List Int) (sold:List Tk) (k j:Nat):Option (List Tr):=if j=0 then none else shF cs s a r sold k ((qV cs).getD (j - 1) default)
def shH (cs:List Cabin) (s:Int) (a:Ask) (ts:List Int) (k:Nat) (was:Bunk) (T:List Tk) (o:Option (List Tr)):List (Nat × AObj):=[(0,qf cs s 1),(1,qh T),(2,.cells [.ptr 0 0]),(3,.cells [.sl (ts.map zC)]),(4,.cells (qj a)),(5,.cells [.sl ((o.getD []).map eTr)]),(6,.cells [aB o.isSome]),(7,.cells [aI k]),(8,.cells [.v (.int .i64 was.cab),.v (.int .i64 was.bed)])]
theorem VM (cs:List Cabin) (s:Int):za [9] 11 0 [buO cs s]=[(9,buO cs s)]:=by
  simp [za,qy,buO,AObj.ren,AV.renL,AV.ren]
def zz:=kk @ty3 (kk @ty4 (kk @Qf (kk @Zb (kk @vg (kk @kX (kk @JH (kk @kZ (kk @QeZ (kk @Qd1 (kk @xy (kk @Qb (kk @JO (kk @ti3.eq_1 (kk @ti4.eq_1 (kk @kC.eq_1 (kk @Qx.eq_1 (kk @yI.eq_1 (kk @xB.eq_1 (kk @Wq.eq_1 (kk @xQ.eq_1 (kk @R4.eq_1 (kk @Ul.eq_1 (kk @vW.eq_1 (kk @xE.eq_1 @ZL.eq_1))))))))))))))))))))))))
def jH:=kk @aI.eq_1 (kk @aB.eq_1 (kk @qA.eq_1 (kk @kW (kk @UN (@zC.eq_1)))))
set_option maxHeartbeats 8000000 in
theorem Qcr (cs:List Cabin) (s:Int) (a:Ask) (m:Nat) (ih:Qgz cs s a m):Qgz cs s a (m+1):=by
  intro sold ts ht ok
  have env:Env (fun F=>F.r=none) Try.prog tyB (tab [(94,fnE zA)]):=qM ⟨QcF,trivial⟩
  refine Fn.of (A:=fun F=>F.r=none) (n0:=2) (D:=dfE 120 wW) (Fn0 Try.func87 rfl (fun vs w=>by kernel_rfl) (by kernel_rfl)) (by simp) (by simp [AV.ids,AV.idsL,qA,qw,qj]) vE (fun _ _ _ h=>h) QhQ ?_
  obtain ⟨n,r,rfl⟩:∃ n r,ts=n :: r:=by
    cases ts with
    |nil=>simp at ht
    |cons n r=>exact ⟨n,r,rfl⟩
  obtain ⟨hn0,hnl⟩:=ok.ts n List.mem_cons_self
  obtain ⟨k,rfl⟩:∃ k:Nat,n=k:=⟨n.toNat,by omega⟩
  have hnl:k < sold.length:=hnl
  have hrl:r.length=m:=by simpa using ht
  rw [QaT]
  obtain ⟨ts,hts⟩:∃ ts,(k:Int) :: r=ts:=⟨_,rfl⟩
  have hl1:ts.length=m+1:=by rw [← hts];exact ht
  have hg0:(ts.map zC).getD 0 [.v (.int .i64 0)]=[.v (.int .i64 (k:Int))]:=by rw [← hts];rfl
  have hdr:List.drop 1 (List.take (m+1) (ts.map zC))=r.map zC:=by
    rw [List.take_of_length_le (by rw [List.length_map,hl1];exact Nat.le_refl _),← hts];rfl
  rw [hts]
  obtain ⟨x,hx⟩:∃ x,sold.getD k default=x:=⟨_,rfl⟩
  have hg:=hTk hnl
  rw [hx] at hg
  have i0:((k:Int)).toNat=k:=rfl
  have d0:decide ((((m+1:Nat)):Int)=0)=false:=decide_eq_false (by omega)
  obtain ⟨w,hw⟩:∃ w:Bunk,x.bunk=w:=⟨_,rfl⟩
  have hwc:x.cab=w.cab:=by rw [← hw];rfl
  have hwb:x.bed=w.bed:=by rw [← hw];rfl
  have hsw:(sold.getD k default).bunk=w:=by rw [hx];exact hw
  have hfb:∀ b,shF cs s a r sold k b=if b=w then none else (yQ cs s a r (QD sold k b)).map (⟨(k:Int),b.cab,b.bed⟩ :: ·):=fun b=>by unfold shF;rw [hsw]
  have hcS:∀ j,JN cs sold k (j+1)=if (qV cs).getD j default=w then JN cs sold k j else QD sold k ((qV cs).getD j default):=fun j=>by rw [JN,hsw]
  have hcs:=KT cs sold k hnl
  have hself:QD sold k w=sold:=by rw [← hsw];exact QeX _ _ hnl
  obtain ⟨f,hf⟩:∃ f,shF cs s a r sold k=f:=⟨_,rfl⟩
  obtain ⟨R,hR1,hR2,hR3,hR4⟩:=Qdh f (qV cs)
  have hRo:Rounds (fun j=>(f ((qV cs).getD j default)).isNone) R (qV cs).length:=⟨hR1,fun j hj=>by show Option.isNone _=true;rw [hR2 j hj];rfl,fun h=>⟨(hR3 h).1,by
    have:=(hR3 h).2
    show Option.isNone _=false
    cases hq:f ((qV cs).getD (R - 1) default) with
    |none=>exact absurd hq this
    |some _=>rfl⟩⟩
  have hout:∀ j,JK cs s a r sold k (j+1)=f ((qV cs).getD j default):=fun j=>by unfold JK;rw [if_neg (by omega),hf];rfl
  have houtN:∀ j,j < R→JK cs s a r sold k j=none:=fun j hj=>by
    cases j with
    |zero=>rfl
    |succ j=>rw [hout];exact hR2 j hj
  have hres:(qV cs).findSome? f=JK cs s a r sold k R:=by
    rw [hR4]
    unfold JK
    rw [hf]
  have hcab:CabsOk cs:=⟨by have:=ok.cabs;omega,fun y hy=>by have:=ok.beds y hy;omega⟩
  have hm7:=ok.lenT
  rw [hts,hl1] at hm7
  have h1m:(1:Int)≤((m+1:Nat):Int):=by omega
  have hmx:(100:Nat)≤maxLen:=by decide
  rw [hf,hres]
  show Sym _ _ _ (zq [.ptr 0 0,qA ts,qw a] 2 (qg [(0,qf cs s 1),(1,qh sold)])) (yB tyB _ Try.f87 fun S rv=>Fin S rv _ 2 (qg [(0,qf cs s 1),(1,qh sold)]) 0)
  repeat' (first|(apply nx;with_reducible constructor)|refine jq (by decide) ?_|refine wS ?_|refine jr ?_|refine jC ?_|refine jB ?_)
  ((first|refine kz env fun Q hQ=>?_|refine kj fun Q hQ=>?_);simp only [vkt,seval,zz,jH,ql,zi,eTr,eTk,qw,qj,qd,mTk,qf,qh,qm,buO,shT,shH,zA,j6,wW,s1L,dfE,rTr,List.length_map,nth,hwL,Nat.zero_add,Nat.sub_zero];(try simp only [ite_and]);(repeat' (first|with_reducible assumption|refine And.intro ?_ ?_|intro hp));all_goals (first|(refine hQ _ ?_;clear hQ Q)|(refine hQ _ (fun h=>?_) (fun h=>?_) <;> clear hQ Q <;> (try simp only [vki,reduceCtorEq] at h))|(refine kx ?_;kernel_rfl)|omega|assumption|with_reducible rfl|skip))
  repeat' (first|(apply nx;with_reducible constructor)|refine jq (by decide) ?_|refine wS ?_|refine jr ?_|refine jC ?_|refine jB ?_)
  ((first|refine kz env fun Q hQ=>?_|refine kj fun Q hQ=>?_);simp only [vkt,seval,zz,jH,ql,zi,eTr,eTk,qw,qj,qd,mTk,qf,qh,qm,buO,shT,shH,zA,j6,wW,s1L,dfE,rTr,List.length_map,nth,hwL,Nat.zero_add,Nat.sub_zero,hl1,d0];(try simp only [ite_and]);(repeat' (first|with_reducible assumption|refine And.intro ?_ ?_|intro hp));all_goals (first|(refine hQ _ ?_;clear hQ Q)|(refine hQ _ (fun h=>?_) (fun h=>?_) <;> clear hQ Q <;> (try simp only [vki,reduceCtorEq] at h))|(refine kx ?_;kernel_rfl)|omega|assumption|with_reducible rfl|skip))
  repeat' (first|(apply nx;with_reducible constructor)|refine jq (by decide) ?_|refine wS ?_|refine jr ?_|refine jC ?_|refine jB ?_)
  ((first|refine kz env fun Q hQ=>?_|refine kj fun Q hQ=>?_);simp only [vkt,seval,zz,jH,ql,zi,eTr,eTk,qw,qj,qd,mTk,qf,qh,qm,buO,shT,shH,zA,j6,wW,s1L,dfE,rTr,List.length_map,nth,hwL,Nat.zero_add,Nat.sub_zero];(try simp only [ite_and]);(repeat' (first|with_reducible assumption|refine And.intro ?_ ?_|intro hp));all_goals (first|(refine hQ _ ?_;clear hQ Q)|(refine hQ _ (fun h=>?_) (fun h=>?_) <;> clear hQ Q <;> (try simp only [vki,reduceCtorEq] at h))|(refine kx ?_;kernel_rfl)|omega|assumption|with_reducible rfl|skip))
  repeat' (first|(apply nx;with_reducible constructor)|refine jq (by decide) ?_|refine wS ?_|refine jr ?_|refine jC ?_|refine jB ?_)
  ((first|refine kz env fun Q hQ=>?_|refine kj fun Q hQ=>?_);simp only [vkt,seval,zz,jH,ql,zi,eTr,eTk,qw,qj,qd,mTk,qf,qh,qm,buO,shT,shH,zA,j6,wW,s1L,dfE,rTr,List.length_map,nth,hwL,Nat.zero_add,Nat.sub_zero,hg0];(try simp only [ite_and]);(repeat' (first|with_reducible assumption|refine And.intro ?_ ?_|intro hp));all_goals (first|(refine hQ _ ?_;clear hQ Q)|(refine hQ _ (fun h=>?_) (fun h=>?_) <;> clear hQ Q <;> (try simp only [vki,reduceCtorEq] at h))|(refine kx ?_;kernel_rfl)|omega|assumption|with_reducible rfl|skip))
  repeat' (first|(apply nx;with_reducible constructor)|refine jq (by decide) ?_|refine wS ?_|refine jr ?_|refine jC ?_|refine jB ?_)
  ((first|refine kz env fun Q hQ=>?_|refine kj fun Q hQ=>?_);simp only [vkt,seval,zz,jH,ql,zi,eTr,eTk,qw,qj,qd,mTk,qf,qh,qm,buO,shT,shH,zA,j6,wW,s1L,dfE,rTr,List.length_map,nth,hwL,Nat.zero_add,Nat.sub_zero,hg,i0,hnl];(try simp only [ite_and]);(repeat' (first|with_reducible assumption|refine And.intro ?_ ?_|intro hp));all_goals (first|(refine hQ _ ?_;clear hQ Q)|(refine hQ _ (fun h=>?_) (fun h=>?_) <;> clear hQ Q <;> (try simp only [vki,reduceCtorEq] at h))|(refine kx ?_;kernel_rfl)|omega|assumption|with_reducible rfl|skip))
  repeat' (first|(apply nx;with_reducible constructor)|refine jq (by decide) ?_|refine wS ?_|refine jr ?_|refine jC ?_|refine jB ?_)
  refine QaB (fun F h=>h) env rfl rfl rfl fun Q hQ=>?_
  simp only [List.dropLast]
  simp only [vkt,seval,zz,jH,ql,zi,eTr,eTk,qw,qj,qd,mTk,qf,qh,qm,buO,shT,shH,zA,j6,wW,s1L,dfE,rTr,List.length_map,nth,hwL,Nat.zero_add,Nat.sub_zero]
  refine hQ _ _ _ (by simp only [vkt,seval,zz,jH,ql,zi,eTr,eTk,qw,qj,qd,mTk,qf,qh,qm,buO,shT,shH,zA,j6,wW,s1L,dfE,rTr,List.length_map,nth,hwL,Nat.zero_add,Nat.sub_zero];rfl) ?_
  clear hQ Q
  dsimp only [put]
  repeat' (first|(apply nx;with_reducible constructor)|refine jq (by decide) ?_|refine wS ?_|refine jr ?_|refine jC ?_|refine jB ?_|((first|refine kz env fun Q hQ=>?_|refine kj fun Q hQ=>?_);simp only [vkt,seval,zz,jH,ql,zi,eTr,eTk,qw,qj,qd,mTk,qf,qh,qm,buO,shT,shH,zA,j6,wW,s1L,dfE,rTr,List.length_map,nth,hwL,Nat.zero_add,Nat.sub_zero];(try simp only [ite_and]);(repeat' (first|with_reducible assumption|refine And.intro ?_ ?_|intro hp));all_goals (first|(refine hQ _ ?_;clear hQ Q)|(refine hQ _ (fun h=>?_) (fun h=>?_) <;> clear hQ Q <;> (try simp only [vki,reduceCtorEq] at h))|(refine kx ?_;kernel_rfl)|omega|assumption|with_reducible rfl|skip)))
  refine xO (S':={ t:=asg shT0,h:=qg (shH cs s a ts k w (JN cs sold k 0) (JK cs s a r sold k 0)++[(9,buO cs s)]),n:=10,j:=0,d:=[.call 120 [.ptr 8 0,.ptr 2 0,.ptr 7 0]],m:=2 }) ?_ ?_
  · show Le _ { t:=asg [(3,.ptr 2 0),(4,.ptr 3 0),(5,.ptr 4 0),(6,.ptr 5 0),(7,.ptr 6 0),(8,.ptr 7 0),(9,.ptr 8 0),(43,.clo 123 [.ptr 9 0])],h:=qg [(0,qf cs s 1),(1,qh sold),(2,.cells [.ptr 0 0]),(3,.cells [.sl (ts.map zC)]),(4,.cells (qj a)),(5,.cells [.sl []]),(6,.cells [aB false]),(7,.cells [aI k]),(8,.cells [.v (.int .i64 w.cab),.v (.int .i64 w.bed)]),(9,buO cs s)],n:=10,j:=0,d:=[.call 120 [.ptr 8 0,.ptr 2 0,.ptr 7 0]],m:=2 }
    rw [← hwc,← hwb]
    (refine Le.ok some [] ?_;constructor;all_goals (try simp only [vle,vkt,seval,zz,jH,ql,zi,eTr,eTk,qw,qj,qd,mTk,qf,qh,qm,buO,shT,shH,zA,j6,wW,s1L,dfE,rTr,List.length_map,nth,hwL,Nat.zero_add,Nat.sub_zero]))
    all_goals first|rfl|(simp [ADf.le,ADf.ids,AV.leL,AV.le,AV.idsL,AV.ids];done)
  rw [← VM cs s]
  refine vV (fun F h=>h) 1 (L:=shT0) (L':=shT) (xs:=[]) (hs:=[9]) (n:=10) (nl:=0) (hc:=fun j=>shH cs s a ts k w (JN cs sold k j) (JK cs s a r sold k j)) (Lp:=[buO cs s]) (jj:=fun _=>0) (d:=[.call 120 [.ptr 8 0,.ptr 2 0,.ptr 7 0]]) (ys:=buY cs) (hl:=fun _=>[buO cs s]) (ans:=fun j=>(f ((qV cs).getD j default)).isNone) (ex:=.ret) (caps:=[.ptr 9 0]) (caps0:=[.ptr 0 0]) (N:=(qV cs).length) (R:=R) (A':=fun _ _=>True) rfl (QaI cs s hcab) hRo (.inl rfl) ?_ ?_ ?_ rfl (by simp) ?_ (by simp) (fun _ _ _ _ _ _=>trivial) ?_ ?_ ?_ ?_ ?_ ?_ (fun j hj=>?_) ?_ (fun j hj=>?_) (fun hall=>?_) (fun hpos hlast=>?_)
  · simp [AV.leL,AV.le]
  · simp [AV.nocbL,AV.nocb]
  · simp [WW,buO,AObj.nocb,AV.nocbL,AV.nocb,AObj.ids,AV.ids,AV.idsL,AObj.ren,AV.renL,AV.ren,AObj.le,AV.leL,AV.le,yu]
  · simp [shH,qg]
  · simp [shH,qg]
  · exact fun _ _ _ _ h=>h
  · simp [RU,shT,shT0,asg,upd]
  · simp [LD]
  · intro j hj
    simp [absent]
  · simp [YN,shT,AV.ids]
  · refine ⟨?_,rfl, ?_, ?_,rfl, ?_⟩
    · simp [QR,shH,AObj.ids,AV.ids,AV.idsL,qf,qh,qj,aB,aI]
    · simp [WA,buO,AObj.nocb,AV.nocbL,AV.nocb,AObj.ids,AV.ids,AV.idsL]
    · simp [VG,buY,ql,AV.nocb,AV.nocbL,AV.ids,AV.idsL]
    · simp [QG,WS,za,qy,shH,shT,kG,AV.ids,AV.idsL,ADf.ids,List.range_succ]
  · simp [QR,shH,AObj.ids,AV.ids,AV.idsL,qf,qh,qj,aB,aI]
  · have env:Env (fun _:Frm=>True) Try.prog tyB (tab [(87,fnE (j6 cs s a m))]):=qM ⟨QkF ih,trivial⟩
    obtain ⟨b,hb⟩:∃ b,(qV cs).getD j default=b:=⟨_,rfl⟩
    obtain ⟨T,hT⟩:∃ T,JN cs sold k j=T:=⟨_,rfl⟩
    have hTs:=hcs j
    rw [hT] at hTs
    have hcS:=hcS j
    rw [hb,hT] at hcS
    have hoS:=hout j
    rw [hb] at hoS
    have hfb:=hfb b
    rw [hf] at hfb
    have hst:jA shT [44] [9] 10 0 (buY cs j) (shH cs s a ts k w (JN cs sold k j) (JK cs s a r sold k j)) [buO cs s]={ t:=asg [(44,ql b),(3,.ptr 2 0),(4,.ptr 3 0),(5,.ptr 4 0),(6,.ptr 5 0),(7,.ptr 6 0),(8,.ptr 7 0),(9,.ptr 8 0)],h:=qg [(10,.mark),(0,qf cs s 1),(1,qh T),(2,.cells [.ptr 0 0]),(3,.cells [.sl (ts.map zC)]),(4,.cells (qj a)),(5,.cells [.sl []]),(6,.cells [aB false]),(7,.cells [aI k]),(8,.cells [.v (.int .i64 w.cab),.v (.int .i64 w.bed)]),(9,buO cs s)],n:=11,m:=11 }:=by
      simp only [jA,Nat.reduceAdd,buY,hb,hT,houtN j hj,VM,ql,List.map_cons,List.map_nil,AV.ren,AV.renL,List.zip_cons_cons,List.zip_nil_right,shH,shT,Zt,List.cons_append,List.nil_append]
      rfl
    show Sym _ _ _ (jA shT [44] [9] 10 0 (buY cs j) (shH cs s a ts k w (JN cs sold k j) (JK cs s a r sold k j)) [buO cs s]) _
    rw [hst]
    by_cases hbw:b=w
    · rw [if_pos hbw] at hcS hfb
      have hba:(f ((qV cs).getD j default)).isNone=true:=by rw [hb,hfb];rfl
      rw [hfb] at hoS
      rw [hbw]
      repeat' (first|(apply nx;with_reducible constructor)|refine jq (by decide) ?_|refine wS ?_|refine jr ?_|refine jC ?_|refine jB ?_|((first|refine kz env fun Q hQ=>?_|refine kj fun Q hQ=>?_);simp only [vkt,seval,zz,jH,ql,zi,eTr,eTk,qw,qj,qd,mTk,qf,qh,qm,buO,shT,shH,zA,j6,wW,s1L,dfE,rTr,List.length_map,nth,hwL,Nat.zero_add,Nat.sub_zero,decide_true];(try simp only [ite_and]);(repeat' (first|with_reducible assumption|refine And.intro ?_ ?_|intro hp));all_goals (first|(refine hQ _ ?_;clear hQ Q)|(refine hQ _ (fun h=>?_) (fun h=>?_) <;> clear hQ Q <;> (try simp only [vki,reduceCtorEq] at h))|(refine kx ?_;kernel_rfl)|omega|assumption|with_reducible rfl|skip)))
      refine ⟨by simp only [hba];rfl,rfl,some,_,RFin.okQ some [] ?_⟩
      constructor
      all_goals (try simp only [vle,xz,xw,qy,hcS,hoS,Option.getD_none,Option.isSome_none,Option.getD_some,Option.isSome_some,vkt,seval,zz,jH,ql,zi,eTr,eTk,qw,qj,qd,mTk,qf,qh,qm,buO,shT,shH,zA,j6,wW,s1L,dfE,rTr,List.length_map,nth,hwL,Nat.zero_add,Nat.sub_zero])
      all_goals first|rfl|(simp;done)|(simp [qj,AV.leL,AV.le];done)
    · rw [if_neg hbw] at hcS hfb
      have hne:(decide (b.cab=w.cab) && decide (b.bed=w.bed))=false:=by
        cases b;cases w
        simp at hbw ⊢
        exact hbw
      obtain ⟨y,hy⟩:∃ y,T.getD k default=y:=⟨_,rfl⟩
      have hkT:k < T.length:=by rw [hTs.1];exact hnl
      have hgT:=hTk hkT
      rw [hy] at hgT
      have hset:=QaD T k b hy
      rw [hTs.2] at hset
      obtain ⟨U,hU⟩:∃ U,QD sold k b=U:=⟨_,rfl⟩
      have hok:ShOk cs s a U r:=by
        have h:=ok.tail k b
        rwa [hU] at h
      rw [hU] at hset hcS hfb
      have hset:=hset.symm
      cases hsh:yQ cs s a r U with
      |none =>
        rw [hsh,Option.map_none] at hfb
        have hba:(f ((qV cs).getD j default)).isNone=true:=by rw [hb,hfb];rfl
        rw [hfb] at hoS
        repeat' (first|(apply nx;with_reducible constructor)|refine jq (by decide) ?_|refine wS ?_|refine jr ?_|refine jC ?_|refine jB ?_|((first|refine kz env fun Q hQ=>?_|refine kj fun Q hQ=>?_);simp only [vkt,seval,zz,jH,ql,zi,eTr,eTk,qw,qj,qd,mTk,qf,qh,qm,buO,shT,shH,zA,j6,wW,s1L,dfE,rTr,List.length_map,nth,hwL,Nat.zero_add,Nat.sub_zero,hne,hgT,i0,hkT,hset,hl1,hdr,h1m,hrl,hok,hsh,Option.getD_none,Option.isSome_none];(try simp only [ite_and]);(repeat' (first|with_reducible assumption|refine And.intro ?_ ?_|intro hp));all_goals (first|(refine hQ _ ?_;clear hQ Q)|(refine hQ _ (fun h=>?_) (fun h=>?_) <;> clear hQ Q <;> (try simp only [vki,reduceCtorEq] at h))|(refine kx ?_;kernel_rfl)|omega|assumption|with_reducible rfl|skip)))
        refine ⟨by simp only [hba];rfl,rfl,some,_,RFin.okQ some [] ?_⟩
        constructor
        all_goals (try simp only [vle,xz,xw,qy,hcS,hoS,Option.getD_none,Option.isSome_none,Option.getD_some,Option.isSome_some,vkt,seval,zz,jH,ql,zi,eTr,eTk,qw,qj,qd,mTk,qf,qh,qm,buO,shT,shH,zA,j6,wW,s1L,dfE,rTr,List.length_map,nth,hwL,Nat.zero_add,Nat.sub_zero])
        all_goals first|rfl|(simp;done)|(simp [qj,AV.leL,AV.le];done)
      |some l =>
        have hll:=Xi hsh
        rw [hrl] at hll
        have hl2:1+l.length≤maxLen:=by omega
        rw [hsh,Option.map_some] at hfb
        have hba:(f ((qV cs).getD j default)).isNone=false:=by rw [hb,hfb];rfl
        rw [hfb] at hoS
        repeat' (first|(apply nx;with_reducible constructor)|refine jq (by decide) ?_|refine wS ?_|refine jr ?_|refine jC ?_|refine jB ?_|((first|refine kz env fun Q hQ=>?_|refine kj fun Q hQ=>?_);simp only [vkt,seval,zz,jH,ql,zi,eTr,eTk,qw,qj,qd,mTk,qf,qh,qm,buO,shT,shH,zA,j6,wW,s1L,dfE,rTr,List.length_map,nth,hwL,Nat.zero_add,Nat.sub_zero,hne,hgT,i0,hkT,hset,hl1,hdr,h1m,hrl,hok,hsh,Option.getD_some,Option.isSome_some,hl2];(try simp only [ite_and]);(repeat' (first|with_reducible assumption|refine And.intro ?_ ?_|intro hp));all_goals (first|(refine hQ _ ?_;clear hQ Q)|(refine hQ _ (fun h=>?_) (fun h=>?_) <;> clear hQ Q <;> (try simp only [vki,reduceCtorEq] at h))|(refine kx ?_;kernel_rfl)|omega|assumption|with_reducible rfl|skip)))
        refine ⟨by simp only [hba];rfl,rfl,some,_,RFin.okQ some [13] ?_⟩
        constructor
        all_goals (try simp only [vle,xz,xw,qy,hcS,hoS,Option.getD_none,Option.isSome_none,Option.getD_some,Option.isSome_some,vkt,seval,zz,jH,ql,zi,eTr,eTk,qw,qj,qd,mTk,qf,qh,qm,buO,shT,shH,zA,j6,wW,s1L,dfE,rTr,List.length_map,nth,hwL,Nat.zero_add,Nat.sub_zero])
        all_goals first|rfl|(simp;done)|(simp [qj,AV.leL,AV.le];done)
  · have hoR:JK cs s a r sold k R=none:=by
      by_cases hR0:R=0
      · unfold JK;rw [if_pos hR0]
      · have h1:=hall (R - 1) (by omega)
        unfold JK
        rw [if_neg hR0,hf]
        simpa using h1
    obtain ⟨T,hT⟩:∃ T,JN cs sold k R=T:=⟨_,rfl⟩
    have hTs:=hcs R
    rw [hT] at hTs
    have hkT:k < T.length:=by rw [hTs.1];exact hnl
    have hput:QD T k ⟨w.cab,w.bed⟩=sold:=by rw [hTs.2];exact hself
    have eh:qg ((10,AObj.mark) :: shH cs s a ts k w (JN cs sold k R) (JK cs s a r sold k R)++za [9] (10+1) 0 [buO cs s])=qg [(10,.mark),(0,qf cs s 1),(1,qh T),(2,.cells [.ptr 0 0]),(3,.cells [.sl (ts.map zC)]),(4,.cells (qj a)),(5,.cells [.sl []]),(6,.cells [aB false]),(7,.cells [aI k]),(8,.cells [.v (.int .i64 w.cab),.v (.int .i64 w.bed)]),(9,buO cs s)]:=by
      rw [show za [9] (10+1) 0 [buO cs s]=za [9] 11 0 [buO cs s] from rfl,VM,hT,hoR];rfl
    rw [eh,hoR]
    repeat' (first|(apply nx;with_reducible constructor)|refine jq (by decide) ?_|refine wS ?_|refine jr ?_|refine jC ?_|refine jB ?_|((first|refine kz env fun Q hQ=>?_|refine kj fun Q hQ=>?_);simp only [vkt,seval,zz,jH,ql,zi,eTr,eTk,qw,qj,qd,mTk,qf,qh,qm,buO,shT,shH,zA,j6,wW,s1L,dfE,rTr,List.length_map,nth,hwL,Nat.zero_add,Nat.sub_zero];(try simp only [ite_and]);(repeat' (first|with_reducible assumption|refine And.intro ?_ ?_|intro hp));all_goals (first|(refine hQ _ ?_;clear hQ Q)|(refine hQ _ (fun h=>?_) (fun h=>?_) <;> clear hQ Q <;> (try simp only [vki,reduceCtorEq] at h))|(refine kx ?_;kernel_rfl)|omega|assumption|with_reducible rfl|skip)))
    simp only [vrt,Try.results87,kL.eq_2,kL.eq_3,vkt,seval,zz,jH,ql,zi,eTr,eTk,qw,qj,qd,mTk,qf,qh,qm,buO,shT,shH,zA,j6,wW,s1L,dfE,rTr,List.length_map,nth,hwL,Nat.zero_add,Nat.sub_zero,i0,hput,hkT]
    refine Fin.ok some [] ?_ ?_ ?_ ?_ ?_ rfl
    all_goals (try simp only [vle,Option.getD_none,Option.isSome_none,Option.getD_some,Option.isSome_some,vkt,seval,zz,jH,ql,zi,eTr,eTk,qw,qj,qd,mTk,qf,qh,qm,buO,shT,shH,zA,j6,wW,s1L,dfE,rTr,List.length_map,nth,hwL,Nat.zero_add,Nat.sub_zero])
    all_goals first|rfl|(simp;done)|exact fun i hi=>(match i,hi with|0,_=>rfl|1,_=>rfl)
  · obtain ⟨l,hoR⟩:∃ l,JK cs s a r sold k R=some l:=by
      unfold JK
      rw [if_neg (by omega),hf]
      cases hq:f ((qV cs).getD (R - 1) default) with
      |none=>rw [hq] at hlast;exact absurd hlast (by simp)
      |some l=>exact ⟨l,rfl⟩
    obtain ⟨T,hT⟩:∃ T,JN cs sold k R=T:=⟨_,rfl⟩
    have hTs:=hcs R
    rw [hT] at hTs
    have hkT:k < T.length:=by rw [hTs.1];exact hnl
    have hput:QD T k ⟨w.cab,w.bed⟩=sold:=by rw [hTs.2];exact hself
    have eh:qg ((10,AObj.mark) :: shH cs s a ts k w (JN cs sold k R) (JK cs s a r sold k R)++za [9] (10+1) 0 [buO cs s])=qg [(10,.mark),(0,qf cs s 1),(1,qh T),(2,.cells [.ptr 0 0]),(3,.cells [.sl (ts.map zC)]),(4,.cells (qj a)),(5,.cells [.sl (l.map eTr)]),(6,.cells [aB true]),(7,.cells [aI k]),(8,.cells [.v (.int .i64 w.cab),.v (.int .i64 w.bed)]),(9,buO cs s)]:=by
      rw [show za [9] (10+1) 0 [buO cs s]=za [9] 11 0 [buO cs s] from rfl,VM,hT,hoR];rfl
    rw [eh,hoR]
    repeat' (first|(apply nx;with_reducible constructor)|refine jq (by decide) ?_|refine wS ?_|refine jr ?_|refine jC ?_|refine jB ?_)
    simp only [vrt,Try.results87,kL.eq_2,kL.eq_3,vkt,seval,zz,jH,ql,zi,eTr,eTk,qw,qj,qd,mTk,qf,qh,qm,buO,shT,shH,zA,j6,wW,s1L,dfE,rTr,List.length_map,nth,hwL,Nat.zero_add,Nat.sub_zero,i0,hput,hkT]
    refine Fin.ok some [] ?_ ?_ ?_ ?_ ?_ rfl
    all_goals (try simp only [vle,Option.getD_none,Option.isSome_none,Option.getD_some,Option.isSome_some,vkt,seval,zz,jH,ql,zi,eTr,eTk,qw,qj,qd,mTk,qf,qh,qm,buO,shT,shH,zA,j6,wW,s1L,dfE,rTr,List.length_map,nth,hwL,Nat.zero_add,Nat.sub_zero])
    all_goals first|rfl|(simp;done)|exact fun i hi=>(match i,hi with|0,_=>rfl|1,_=>rfl)
theorem KQ (cs:List Cabin) (s:Int) (a:Ask):∀ m,Qgz cs s a m
  |0=>QbH cs s a
  |m+1=>Qcr cs s a m (KQ cs s a m)
end Go.Sym.B
namespace Go.Sym.B
open Go Go.Sym Go.Proofs Go.Sym.C
def xk (cs:List Cabin) (s:Int) (a:Ask) (m:Nat) (S:St):List AV→Option Pk
  |[.ptr p 0,.row q,.agg aa]=>match S.h p,S.h q with
    |some (.cells [.sl cc,.v (.int .i64 s'),.row r]),some (.row _ _ ts)=>match S.h r with
      |some (.row _ _ xs)=>some { pre:=cc=cs.map qo∧s'=s∧aa=qj a∧ts=(ts.map zl).map zC∧xs=(xs.map dTk).map eTk∧(ts.map zl).length=m∧ShOk cs s a (xs.map dTk) (ts.map zl),hs:=[p,r],bo:=[q],ar:=[.ptr 0 0,.sl ts,.agg aa],L0:=qm cs s (xs.map dTk),v:=.tup [zi ((yQ cs s a (ts.map zl) (xs.map dTk)).getD []),aB (yQ cs s a (ts.map zl) (xs.map dTk)).isSome],L1:=(qm cs s (xs.map dTk)).map some }
      |_=>none
    |_,_=>none
  |_=>none
theorem QiA {A:Frm→Prop} {cs:List Cabin} {s:Int} {a:Ask} {m:Nat}:qC A Try.prog 87 (fnE (xk cs s a m)):=zx fun S bs q h hp=>by
  unfold xk at h
  split at h
  · split at h
    · split at h
      · cases h
        obtain ⟨_,_,h3,h4,_,h6,h7⟩:=hp
        have:=KQ cs s a m _ _ h6 h7
        rw [qA,← h4,qw,← h3] at this
        exact this
      · cases h
    · cases h
  · cases h
def mvW (c:Chart) (a:Ask) (l:List Int):Option (List Tr):=yQ c.cabins c.secs a (QQ c l) c.sold
def mvL (c:Chart) (a:Ask) (out:List Tr):List AObj:=[qf c.cabins c.secs 1,qh c.sold,.cells [.ptr 0 0],.cells [.sl ((j3 c.sold).map zC)],.cells (qj a),.cells [.sl (out.map eTr)]]
structure MvOk (c:Chart) (a:Ask) (l:List Int):Prop where
  val:Val c
  sx:a.sexes.length≤3
  len:l.length≤2
  mem:∀ i ∈ l,0≤i∧i.toNat < (j3 c.sold).length
theorem Qhl {sold:List Tk} {i:Int} (h:i ∈ j3 sold):0≤i∧i.toNat < sold.length:=by
  unfold j3 at h
  obtain ⟨j,hj,rfl⟩:=List.mem_map.1 h
  have:=(List.mem_filter.1 hj).1
  rw [List.mem_range] at this
  exact ⟨Int.natCast_nonneg _,this⟩
theorem Qgg (sold:List Tk):(j3 sold).length≤sold.length:=Qdk sold sold.length
theorem MvOk.sh {c:Chart} {a:Ask} {l:List Int} (h:MvOk c a l):ShOk c.cabins c.secs a c.sold (QQ c l):=by
  refine ⟨h.val.car.cabs,h.val.car.beds,h.val.many,h.sx,by have:=h.len;simp [QQ];omega,fun n hn=>?_⟩
  obtain ⟨i,hi,rfl⟩:=List.mem_map.1 hn
  exact Qhl (vL (h.mem i hi).2)
theorem Qds {c:Chart} {a:Ask} {o:List Tr}:∀ i ob,qg (qI 0 (mvL c a o)) i=some ob→i < 6∧∀ id ∈ ob.ids,id < 6:=by
  intro i ob hi
  have h:=qL hi
  simp [qI,mvL] at h
  rcases h with ⟨rfl,rfl⟩|⟨rfl,rfl⟩|⟨rfl,rfl⟩|⟨rfl,rfl⟩|⟨rfl,rfl⟩|⟨rfl,rfl⟩ <;> simp [AObj.ids,AV.ids,AV.idsL,qf,qh,qj]
def mvS (c:Chart) (a:Ask) (o:List Tr) (l:List Int) (k:Nat):St:={ t:=asg [(1,.ptr 3 0),(2,.ptr 2 0),(3,.ptr 4 0),(4,.ptr 5 0),(6,aB false),(7,.row 6),(12,qA l),(13,aI l.length),(14,aI k)],h:=qg [(0,qf c.cabins c.secs 1),(1,qh c.sold),(2,.cells [.ptr 0 0]),(3,.cells [.sl ((j3 c.sold).map zC)]),(4,.cells (qj a)),(5,.cells [.sl (o.map eTr)]),(6,.row 3 1 (((QQ c l).take k).map zC))],n:=7,m:=6 }
def vF:=kk @ty3 (kk @Qf (kk @kX (kk @QeZ (kk @Qd1 (kk @Qb (kk @ti3.eq_1 (kk @kC.eq_1 (kk @xB.eq_1 (kk @R4.eq_1 (kk @Ul.eq_1 @xE.eq_1))))))))))
def Qm:=kk @aI.eq_1 (kk @aB.eq_1 (kk @qA.eq_1 (kk @zC.eq_1 (kk @Y4 (kk @UN (@kW))))))
end Go.Sym.B
