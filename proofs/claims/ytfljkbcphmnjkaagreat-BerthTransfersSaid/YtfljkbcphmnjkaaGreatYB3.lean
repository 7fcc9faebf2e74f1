/- Walks and what they compute, joined: part 3. -/
import Derived.Test.YtfljkbcphmnjkaaGreatYS3
import Derived.Test.YtfljkbcphmnjkaaGreatProg
import Derived.KernelRfl
import Derived.Test.YtfljkbcphmnjkaaGreatYB2
set_option linter.all false
namespace Go.Sym.B
open Go Go.Sym Go.Proofs Go.Sym.C
set_option maxHeartbeats 8000000 in
theorem Qbc (cs:List Cabin) (s:Int) (a:Ask) (m:Nat) (ih:QfJ cs s a m):QfJ cs s a (m+1):=by
 intro sold ts ht ok
 have env:Env (fun F=>F.r=none) Tryz.prog tyB (tab [(80,fnE zA)]):=qL ⟨QcH,trivial⟩
 refine Fn.of (A:=fun F=>F.r=none) (n0:=2) (D:=dfE 111 jb) (Fn0 Tryz.func66 rfl (fun vs w=>by kernel_rfl) (by kernel_rfl)) (by simp) (by simp [AV.ids,AV.idsL,qz,qx,qg]) Ql (fun _ _ _ h=>h) QiR ?_
 obtain ⟨n,r,rfl⟩:∃ n r,ts=n :: r:=by
  cases ts with
  |nil=>simp at ht
  |cons n r=>exact ⟨n,r,rfl⟩
 obtain ⟨hn0,hnl⟩:=ok.ts n List.mem_cons_self
 obtain ⟨k,rfl⟩:∃ k:Nat,n=k:=⟨n.toNat,by omega⟩
 have hnl:k < sold.length:=hnl
 have hrl:r.length=m:=by simpa using ht
 rw [Qau]
 obtain ⟨ts,hts⟩:∃ ts,(k:Int) :: r=ts:=⟨_,rfl⟩
 have hl1:ts.length=m+1:=by rw [← hts];exact ht
 have hg0:(ts.map zF).getD 0 [.v (.int .i64 0)]=[.v (.int .i64 (k:Int))]:=by rw [← hts];rfl
 have hdr:List.drop 1 (List.take (m+1) (ts.map zF))=r.map zF:=by
  rw [List.take_of_length_le (by rw [List.length_map,hl1];exact Nat.le_refl _),← hts];rfl
 rw [hts]
 obtain ⟨x,hx⟩:∃ x,sold.getD k default=x:=⟨_,rfl⟩
 have hg:=hTk hnl
 rw [hx] at hg
 have i0:((k:Int)).toNat=k:=rfl
 have d0:decide ((((m+1:Nat)):Int)=0)=false:=decide_eq_false (by omega)
 obtain ⟨w,hw⟩:∃ w:Bunk,x.bunk=w:=⟨_,rfl⟩
 have hwc:x.cab=w.cab:=by rw [← hw];rfl
 have hwb:x.bed=w.bed:=by rw [← hw];rfl
 have hsw:(sold.getD k default).bunk=w:=by rw [hx];exact hw
 have hfb:∀ b,shF cs s a r sold k b=if b=w then none else (wP cs s a r (vw sold k b)).map (⟨(k:Int),b.cab,b.bed⟩ :: ·):=fun b=>by unfold shF;rw [hsw]
 have hcS:∀ j,JV cs sold k (j+1)=if (qV cs).getD j default=w then JV cs sold k j else vw sold k ((qV cs).getD j default):=fun j=>by rw [JV,hsw]
 have hcs:=Ru cs sold k hnl
 have hself:vw sold k w=sold:=by rw [← hsw];exact Qep _ _ hnl
 obtain ⟨f,hf⟩:∃ f,shF cs s a r sold k=f:=⟨_,rfl⟩
 obtain ⟨R,hR1,hR2,hR3,hR4⟩:=QcV f (qV cs)
 have hRo:Rounds (fun j=>(f ((qV cs).getD j default)).isNone) R (qV cs).length:=⟨hR1,fun j hj=>by show Option.isNone _=true;rw [hR2 j hj];rfl,fun h=>⟨(hR3 h).1,by
  have:=(hR3 h).2
  show Option.isNone _=false
  cases hq:f ((qV cs).getD (R - 1) default) with
  |none=>exact absurd hq this
  |some _=>rfl⟩⟩
 have hout:∀ j,JY cs s a r sold k (j+1)=f ((qV cs).getD j default):=fun j=>by unfold JY;rw [if_neg (by omega),hf];rfl
 have houtN:∀ j,j < R→JY cs s a r sold k j=none:=fun j hj=>by
  cases j with
  |zero=>rfl
  |succ j=>rw [hout];exact hR2 j hj
 have hres:(qV cs).findSome? f=JY cs s a r sold k R:=by
  rw [hR4]
  unfold JY
  rw [hf]
 have hcab:CabsOk cs:=⟨by have:=ok.cabs;omega,fun y hy=>by have:=ok.beds y hy;omega⟩
 have hm7:=ok.lenT
 rw [hts,hl1] at hm7
 have h1m:(1:Int)≤((m+1:Nat):Int):=by omega
 have hmx:(100:Nat)≤maxLen:=by decide
 rw [hf,hres]
 show Sym _ _ _ (zV [.ptr 0 0,qz ts,qx a] 2 (qj [(0,qm cs s 1),(1,qp sold)])) (xM tyB _ Tryz.f66 fun S rv=>Fin S rv _ 2 (qj [(0,qm cs s 1),(1,qp sold)]) 0)
 repeat' (first|(apply nx;with_reducible constructor)|refine jq (by decide) ?_|refine wX ?_|refine jK ?_|refine jJ ?_|refine jF ?_)
 ((first|refine kz env fun Q hQ=>?_|refine kj fun Q hQ=>?_);simp only [vkt,seval,zy,jO,qf,qI,eTr,eTk,qx,qg,qd,mTk,qm,qp,qy,buO,shT,shH,zA,yu,jb,s1L,dfE,rTr,List.length_map,nth,hwL,Nat.zero_add,Nat.sub_zero];(try simp only [ite_and]);(repeat' (first|with_reducible assumption|refine And.intro ?_ ?_|intro hp));all_goals (first|(refine hQ _ ?_;clear hQ Q)|(refine hQ _ (fun h=>?_) (fun h=>?_) <;> clear hQ Q <;> (try simp only [vki,reduceCtorEq] at h))|(refine kx ?_;kernel_rfl)|omega|assumption|with_reducible rfl|skip))
 repeat' (first|(apply nx;with_reducible constructor)|refine jq (by decide) ?_|refine wX ?_|refine jK ?_|refine jJ ?_|refine jF ?_)
 ((first|refine kz env fun Q hQ=>?_|refine kj fun Q hQ=>?_);simp only [vkt,seval,zy,jO,qf,qI,eTr,eTk,qx,qg,qd,mTk,qm,qp,qy,buO,shT,shH,zA,yu,jb,s1L,dfE,rTr,List.length_map,nth,hwL,Nat.zero_add,Nat.sub_zero,hl1,d0];(try simp only [ite_and]);(repeat' (first|with_reducible assumption|refine And.intro ?_ ?_|intro hp));all_goals (first|(refine hQ _ ?_;clear hQ Q)|(refine hQ _ (fun h=>?_) (fun h=>?_) <;> clear hQ Q <;> (try simp only [vki,reduceCtorEq] at h))|(refine kx ?_;kernel_rfl)|omega|assumption|with_reducible rfl|skip))
 repeat' (first|(apply nx;with_reducible constructor)|refine jq (by decide) ?_|refine wX ?_|refine jK ?_|refine jJ ?_|refine jF ?_)
 ((first|refine kz env fun Q hQ=>?_|refine kj fun Q hQ=>?_);simp only [vkt,seval,zy,jO,qf,qI,eTr,eTk,qx,qg,qd,mTk,qm,qp,qy,buO,shT,shH,zA,yu,jb,s1L,dfE,rTr,List.length_map,nth,hwL,Nat.zero_add,Nat.sub_zero];(try simp only [ite_and]);(repeat' (first|with_reducible assumption|refine And.intro ?_ ?_|intro hp));all_goals (first|(refine hQ _ ?_;clear hQ Q)|(refine hQ _ (fun h=>?_) (fun h=>?_) <;> clear hQ Q <;> (try simp only [vki,reduceCtorEq] at h))|(refine kx ?_;kernel_rfl)|omega|assumption|with_reducible rfl|skip))
 repeat' (first|(apply nx;with_reducible constructor)|refine jq (by decide) ?_|refine wX ?_|refine jK ?_|refine jJ ?_|refine jF ?_)
 ((first|refine kz env fun Q hQ=>?_|refine kj fun Q hQ=>?_);simp only [vkt,seval,zy,jO,qf,qI,eTr,eTk,qx,qg,qd,mTk,qm,qp,qy,buO,shT,shH,zA,yu,jb,s1L,dfE,rTr,List.length_map,nth,hwL,Nat.zero_add,Nat.sub_zero,hg0];(try simp only [ite_and]);(repeat' (first|with_reducible assumption|refine And.intro ?_ ?_|intro hp));all_goals (first|(refine hQ _ ?_;clear hQ Q)|(refine hQ _ (fun h=>?_) (fun h=>?_) <;> clear hQ Q <;> (try simp only [vki,reduceCtorEq] at h))|(refine kx ?_;kernel_rfl)|omega|assumption|with_reducible rfl|skip))
 repeat' (first|(apply nx;with_reducible constructor)|refine jq (by decide) ?_|refine wX ?_|refine jK ?_|refine jJ ?_|refine jF ?_)
 ((first|refine kz env fun Q hQ=>?_|refine kj fun Q hQ=>?_);simp only [vkt,seval,zy,jO,qf,qI,eTr,eTk,qx,qg,qd,mTk,qm,qp,qy,buO,shT,shH,zA,yu,jb,s1L,dfE,rTr,List.length_map,nth,hwL,Nat.zero_add,Nat.sub_zero,hg,i0,hnl];(try simp only [ite_and]);(repeat' (first|with_reducible assumption|refine And.intro ?_ ?_|intro hp));all_goals (first|(refine hQ _ ?_;clear hQ Q)|(refine hQ _ (fun h=>?_) (fun h=>?_) <;> clear hQ Q <;> (try simp only [vki,reduceCtorEq] at h))|(refine kx ?_;kernel_rfl)|omega|assumption|with_reducible rfl|skip))
 repeat' (first|(apply nx;with_reducible constructor)|refine jq (by decide) ?_|refine wX ?_|refine jK ?_|refine jJ ?_|refine jF ?_)
 refine Qag (fun F h=>h) env rfl rfl rfl fun Q hQ=>?_
 simp only [List.dropLast]
 simp only [vkt,seval,zy,jO,qf,qI,eTr,eTk,qx,qg,qd,mTk,qm,qp,qy,buO,shT,shH,zA,yu,jb,s1L,dfE,rTr,List.length_map,nth,hwL,Nat.zero_add,Nat.sub_zero]
 refine hQ _ _ _ (by simp only [vkt,seval,zy,jO,qf,qI,eTr,eTk,qx,qg,qd,mTk,qm,qp,qy,buO,shT,shH,zA,yu,jb,s1L,dfE,rTr,List.length_map,nth,hwL,Nat.zero_add,Nat.sub_zero];rfl) ?_
 clear hQ Q
 dsimp only [put]
 repeat' (first|(apply nx;with_reducible constructor)|refine jq (by decide) ?_|refine wX ?_|refine jK ?_|refine jJ ?_|refine jF ?_|((first|refine kz env fun Q hQ=>?_|refine kj fun Q hQ=>?_);simp only [vkt,seval,zy,jO,qf,qI,eTr,eTk,qx,qg,qd,mTk,qm,qp,qy,buO,shT,shH,zA,yu,jb,s1L,dfE,rTr,List.length_map,nth,hwL,Nat.zero_add,Nat.sub_zero];(try simp only [ite_and]);(repeat' (first|with_reducible assumption|refine And.intro ?_ ?_|intro hp));all_goals (first|(refine hQ _ ?_;clear hQ Q)|(refine hQ _ (fun h=>?_) (fun h=>?_) <;> clear hQ Q <;> (try simp only [vki,reduceCtorEq] at h))|(refine kx ?_;kernel_rfl)|omega|assumption|with_reducible rfl|skip)))
 refine kY (S':={ t:=asg shT0,h:=qj (shH cs s a ts k w (JV cs sold k 0) (JY cs s a r sold k 0)++[(9,buO cs s)]),n:=10,j:=0,d:=[.call 111 [.ptr 8 0,.ptr 2 0,.ptr 7 0]],m:=2 }) ?_ ?_
 ·show Le _ { t:=asg [(3,.ptr 2 0),(4,.ptr 3 0),(5,.ptr 4 0),(6,.ptr 5 0),(7,.ptr 6 0),(8,.ptr 7 0),(9,.ptr 8 0),(43,.clo 117 [.ptr 9 0])],h:=qj [(0,qm cs s 1),(1,qp sold),(2,.cells [.ptr 0 0]),(3,.cells [.sl (ts.map zF)]),(4,.cells (qg a)),(5,.cells [.sl []]),(6,.cells [aB false]),(7,.cells [aI k]),(8,.cells [.v (.int .i64 w.cab),.v (.int .i64 w.bed)]),(9,buO cs s)],n:=10,j:=0,d:=[.call 111 [.ptr 8 0,.ptr 2 0,.ptr 7 0]],m:=2 }
  rw [← hwc,← hwb]
  (refine Le.ok some [] ?_;constructor;all_goals (try simp only [vle,vkt,seval,zy,jO,qf,qI,eTr,eTk,qx,qg,qd,mTk,qm,qp,qy,buO,shT,shH,zA,yu,jb,s1L,dfE,rTr,List.length_map,nth,hwL,Nat.zero_add,Nat.sub_zero]))
  all_goals first|rfl|(simp [ADf.le,ADf.ids,AV.leL,AV.le,AV.idsL,AV.ids];done)
 rw [← V3 cs s]
 refine xY (fun F h=>h) 1 (L:=shT0) (L':=shT) (xs:=[]) (hs:=[9]) (n:=10) (nl:=0) (hc:=fun j=>shH cs s a ts k w (JV cs sold k j) (JY cs s a r sold k j)) (Lp:=[buO cs s]) (jj:=fun _=>0) (d:=[.call 111 [.ptr 8 0,.ptr 2 0,.ptr 7 0]]) (ys:=buY cs) (hl:=fun _=>[buO cs s]) (ans:=fun j=>(f ((qV cs).getD j default)).isNone) (ex:=.ret) (caps:=[.ptr 9 0]) (caps0:=[.ptr 0 0]) (N:=(qV cs).length) (R:=R) (A':=fun _ _=>True) rfl (Qaq cs s hcab) hRo (.inl rfl) ?_ ?_ ?_ rfl (by simp) ?_ (by simp) (fun _ _ _ _ _ _=>trivial) ?_ ?_ ?_ ?_ ?_ ?_ (fun j hj=>?_) ?_ (fun j hj=>?_) (fun hall=>?_) (fun hpos hlast=>?_)
 ·simp [AV.leL,AV.le]
 ·simp [AV.nocbL,AV.nocb]
 ·simp [J4,buO,AObj.nocb,AV.nocbL,AV.nocb,AObj.ids,AV.ids,AV.idsL,AObj.ren,AV.renL,AV.ren,AObj.le,AV.leL,AV.le,yM]
 ·simp [shH,qj]
 ·simp [shH,qj]
 ·exact fun _ _ _ _ h=>h
 ·simp [LP,shT,shT0,asg,upd]
 ·simp [Qbd]
 ·intro j hj
  simp [absent]
 ·simp [Vt,shT,AV.ids]
 ·refine ⟨?_,rfl, ?_, ?_,rfl, ?_⟩
  ·simp [Zp,shH,AObj.ids,AV.ids,AV.idsL,qm,qp,qg,aB,aI]
  ·simp [Js,buO,AObj.nocb,AV.nocbL,AV.nocb,AObj.ids,AV.ids,AV.idsL]
  ·simp [Xe,buY,qf,AV.nocb,AV.nocbL,AV.ids,AV.idsL]
  ·simp [Zk,J3,zk,qB,shH,shT,Qf,AV.ids,AV.idsL,ADf.ids,List.range_succ]
 ·simp [Zp,shH,AObj.ids,AV.ids,AV.idsL,qm,qp,qg,aB,aI]
 ·have env:Env (fun _:Frm=>True) Tryz.prog tyB (tab [(66,fnE (yu cs s a m))]):=qL ⟨Qkx ih,trivial⟩
  obtain ⟨b,hb⟩:∃ b,(qV cs).getD j default=b:=⟨_,rfl⟩
  obtain ⟨T,hT⟩:∃ T,JV cs sold k j=T:=⟨_,rfl⟩
  have hTs:=hcs j
  rw [hT] at hTs
  have hcS:=hcS j
  rw [hb,hT] at hcS
  have hoS:=hout j
  rw [hb] at hoS
  have hfb:=hfb b
  rw [hf] at hfb
  have hst:ym shT [44] [9] 10 0 (buY cs j) (shH cs s a ts k w (JV cs sold k j) (JY cs s a r sold k j)) [buO cs s]={ t:=asg [(44,qf b),(3,.ptr 2 0),(4,.ptr 3 0),(5,.ptr 4 0),(6,.ptr 5 0),(7,.ptr 6 0),(8,.ptr 7 0),(9,.ptr 8 0)],h:=qj [(10,.mark),(0,qm cs s 1),(1,qp T),(2,.cells [.ptr 0 0]),(3,.cells [.sl (ts.map zF)]),(4,.cells (qg a)),(5,.cells [.sl []]),(6,.cells [aB false]),(7,.cells [aI k]),(8,.cells [.v (.int .i64 w.cab),.v (.int .i64 w.bed)]),(9,buO cs s)],n:=11,m:=11 }:=by
   simp only [ym,Nat.reduceAdd,buY,hb,hT,houtN j hj,V3,qf,List.map_cons,List.map_nil,AV.ren,AV.renL,List.zip_cons_cons,List.zip_nil_right,shH,shT,We,List.cons_append,List.nil_append]
   rfl
  show Sym _ _ _ (ym shT [44] [9] 10 0 (buY cs j) (shH cs s a ts k w (JV cs sold k j) (JY cs s a r sold k j)) [buO cs s]) _
  rw [hst]
  by_cases hbw:b=w
  ·rw [if_pos hbw] at hcS hfb
   have hba:(f ((qV cs).getD j default)).isNone=true:=by rw [hb,hfb];rfl
   rw [hfb] at hoS
   rw [hbw]
   repeat' (first|(apply nx;with_reducible constructor)|refine jq (by decide) ?_|refine wX ?_|refine jK ?_|refine jJ ?_|refine jF ?_|((first|refine kz env fun Q hQ=>?_|refine kj fun Q hQ=>?_);simp only [vkt,seval,zy,jO,qf,qI,eTr,eTk,qx,qg,qd,mTk,qm,qp,qy,buO,shT,shH,zA,yu,jb,s1L,dfE,rTr,List.length_map,nth,hwL,Nat.zero_add,Nat.sub_zero,decide_true];(try simp only [ite_and]);(repeat' (first|with_reducible assumption|refine And.intro ?_ ?_|intro hp));all_goals (first|(refine hQ _ ?_;clear hQ Q)|(refine hQ _ (fun h=>?_) (fun h=>?_) <;> clear hQ Q <;> (try simp only [vki,reduceCtorEq] at h))|(refine kx ?_;kernel_rfl)|omega|assumption|with_reducible rfl|skip)))
   refine ⟨by simp only [hba];rfl,rfl,some,_,RFin.okQ some [] ?_⟩
   constructor
   all_goals (try simp only [vle,kV,kC,qB,hcS,hoS,Option.getD_none,Option.isSome_none,Option.getD_some,Option.isSome_some,vkt,seval,zy,jO,qf,qI,eTr,eTk,qx,qg,qd,mTk,qm,qp,qy,buO,shT,shH,zA,yu,jb,s1L,dfE,rTr,List.length_map,nth,hwL,Nat.zero_add,Nat.sub_zero])
   all_goals first|rfl|(simp;done)|(simp [qg,AV.leL,AV.le];done)
  ·rw [if_neg hbw] at hcS hfb
   have hne:(decide (b.cab=w.cab) && decide (b.bed=w.bed))=false:=by
    cases b;cases w
    simp at hbw ⊢
    exact hbw
   obtain ⟨y,hy⟩:∃ y,T.getD k default=y:=⟨_,rfl⟩
   have hkT:k < T.length:=by rw [hTs.1];exact hnl
   have hgT:=hTk hkT
   rw [hy] at hgT
   have hset:=V6 T k b hy
   rw [hTs.2] at hset
   obtain ⟨U,hU⟩:∃ U,vw sold k b=U:=⟨_,rfl⟩
   have hok:ShOk cs s a U r:=by
    have h:=ok.tail k b
    rwa [hU] at h
   rw [hU] at hset hcS hfb
   have hset:=hset.symm
   cases hsh:wP cs s a r U with
   |none =>
    rw [hsh,Option.map_none] at hfb
    have hba:(f ((qV cs).getD j default)).isNone=true:=by rw [hb,hfb];rfl
    rw [hfb] at hoS
    repeat' (first|(apply nx;with_reducible constructor)|refine jq (by decide) ?_|refine wX ?_|refine jK ?_|refine jJ ?_|refine jF ?_|((first|refine kz env fun Q hQ=>?_|refine kj fun Q hQ=>?_);simp only [vkt,seval,zy,jO,qf,qI,eTr,eTk,qx,qg,qd,mTk,qm,qp,qy,buO,shT,shH,zA,yu,jb,s1L,dfE,rTr,List.length_map,nth,hwL,Nat.zero_add,Nat.sub_zero,hne,hgT,i0,hkT,hset,hl1,hdr,h1m,hrl,hok,hsh,Option.getD_none,Option.isSome_none];(try simp only [ite_and]);(repeat' (first|with_reducible assumption|refine And.intro ?_ ?_|intro hp));all_goals (first|(refine hQ _ ?_;clear hQ Q)|(refine hQ _ (fun h=>?_) (fun h=>?_) <;> clear hQ Q <;> (try simp only [vki,reduceCtorEq] at h))|(refine kx ?_;kernel_rfl)|omega|assumption|with_reducible rfl|skip)))
    refine ⟨by simp only [hba];rfl,rfl,some,_,RFin.okQ some [] ?_⟩
    constructor
    all_goals (try simp only [vle,kV,kC,qB,hcS,hoS,Option.getD_none,Option.isSome_none,Option.getD_some,Option.isSome_some,vkt,seval,zy,jO,qf,qI,eTr,eTk,qx,qg,qd,mTk,qm,qp,qy,buO,shT,shH,zA,yu,jb,s1L,dfE,rTr,List.length_map,nth,hwL,Nat.zero_add,Nat.sub_zero])
    all_goals first|rfl|(simp;done)|(simp [qg,AV.leL,AV.le];done)
   |some l =>
    have hll:=XZ hsh
    rw [hrl] at hll
    have hl2:1+l.length≤maxLen:=by omega
    rw [hsh,Option.map_some] at hfb
    have hba:(f ((qV cs).getD j default)).isNone=false:=by rw [hb,hfb];rfl
    rw [hfb] at hoS
    repeat' (first|(apply nx;with_reducible constructor)|refine jq (by decide) ?_|refine wX ?_|refine jK ?_|refine jJ ?_|refine jF ?_|((first|refine kz env fun Q hQ=>?_|refine kj fun Q hQ=>?_);simp only [vkt,seval,zy,jO,qf,qI,eTr,eTk,qx,qg,qd,mTk,qm,qp,qy,buO,shT,shH,zA,yu,jb,s1L,dfE,rTr,List.length_map,nth,hwL,Nat.zero_add,Nat.sub_zero,hne,hgT,i0,hkT,hset,hl1,hdr,h1m,hrl,hok,hsh,Option.getD_some,Option.isSome_some,hl2];(try simp only [ite_and]);(repeat' (first|with_reducible assumption|refine And.intro ?_ ?_|intro hp));all_goals (first|(refine hQ _ ?_;clear hQ Q)|(refine hQ _ (fun h=>?_) (fun h=>?_) <;> clear hQ Q <;> (try simp only [vki,reduceCtorEq] at h))|(refine kx ?_;kernel_rfl)|omega|assumption|with_reducible rfl|skip)))
    refine ⟨by simp only [hba];rfl,rfl,some,_,RFin.okQ some [13] ?_⟩
    constructor
    all_goals (try simp only [vle,kV,kC,qB,hcS,hoS,Option.getD_none,Option.isSome_none,Option.getD_some,Option.isSome_some,vkt,seval,zy,jO,qf,qI,eTr,eTk,qx,qg,qd,mTk,qm,qp,qy,buO,shT,shH,zA,yu,jb,s1L,dfE,rTr,List.length_map,nth,hwL,Nat.zero_add,Nat.sub_zero])
    all_goals first|rfl|(simp;done)|(simp [qg,AV.leL,AV.le];done)
 ·have hoR:JY cs s a r sold k R=none:=by
   by_cases hR0:R=0
   ·unfold JY;rw [if_pos hR0]
   ·have h1:=hall (R - 1) (by omega)
    unfold JY
    rw [if_neg hR0,hf]
    simpa using h1
  obtain ⟨T,hT⟩:∃ T,JV cs sold k R=T:=⟨_,rfl⟩
  have hTs:=hcs R
  rw [hT] at hTs
  have hkT:k < T.length:=by rw [hTs.1];exact hnl
  have hput:vw T k ⟨w.cab,w.bed⟩=sold:=by rw [hTs.2];exact hself
  have eh:qj ((10,AObj.mark) :: shH cs s a ts k w (JV cs sold k R) (JY cs s a r sold k R)++zk [9] (10+1) 0 [buO cs s])=qj [(10,.mark),(0,qm cs s 1),(1,qp T),(2,.cells [.ptr 0 0]),(3,.cells [.sl (ts.map zF)]),(4,.cells (qg a)),(5,.cells [.sl []]),(6,.cells [aB false]),(7,.cells [aI k]),(8,.cells [.v (.int .i64 w.cab),.v (.int .i64 w.bed)]),(9,buO cs s)]:=by
   rw [show zk [9] (10+1) 0 [buO cs s]=zk [9] 11 0 [buO cs s] from rfl,V3,hT,hoR];rfl
  rw [eh,hoR]
  repeat' (first|(apply nx;with_reducible constructor)|refine jq (by decide) ?_|refine wX ?_|refine jK ?_|refine jJ ?_|refine jF ?_|((first|refine kz env fun Q hQ=>?_|refine kj fun Q hQ=>?_);simp only [vkt,seval,zy,jO,qf,qI,eTr,eTk,qx,qg,qd,mTk,qm,qp,qy,buO,shT,shH,zA,yu,jb,s1L,dfE,rTr,List.length_map,nth,hwL,Nat.zero_add,Nat.sub_zero];(try simp only [ite_and]);(repeat' (first|with_reducible assumption|refine And.intro ?_ ?_|intro hp));all_goals (first|(refine hQ _ ?_;clear hQ Q)|(refine hQ _ (fun h=>?_) (fun h=>?_) <;> clear hQ Q <;> (try simp only [vki,reduceCtorEq] at h))|(refine kx ?_;kernel_rfl)|omega|assumption|with_reducible rfl|skip)))
  simp only [vrt,Tryz.results66,kZ.eq_2,kZ.eq_3,vkt,seval,zy,jO,qf,qI,eTr,eTk,qx,qg,qd,mTk,qm,qp,qy,buO,shT,shH,zA,yu,jb,s1L,dfE,rTr,List.length_map,nth,hwL,Nat.zero_add,Nat.sub_zero,i0,hput,hkT]
  refine Fin.ok some [] ?_ ?_ ?_ ?_ ?_ rfl
  all_goals (try simp only [vle,Option.getD_none,Option.isSome_none,Option.getD_some,Option.isSome_some,vkt,seval,zy,jO,qf,qI,eTr,eTk,qx,qg,qd,mTk,qm,qp,qy,buO,shT,shH,zA,yu,jb,s1L,dfE,rTr,List.length_map,nth,hwL,Nat.zero_add,Nat.sub_zero])
  all_goals first|rfl|(simp;done)|exact fun i hi=>(match i,hi with|0,_=>rfl|1,_=>rfl)
 ·obtain ⟨l,hoR⟩:∃ l,JY cs s a r sold k R=some l:=by
   unfold JY
   rw [if_neg (by omega),hf]
   cases hq:f ((qV cs).getD (R - 1) default) with
   |none=>rw [hq] at hlast;exact absurd hlast (by simp)
   |some l=>exact ⟨l,rfl⟩
  obtain ⟨T,hT⟩:∃ T,JV cs sold k R=T:=⟨_,rfl⟩
  have hTs:=hcs R
  rw [hT] at hTs
  have hkT:k < T.length:=by rw [hTs.1];exact hnl
  have hput:vw T k ⟨w.cab,w.bed⟩=sold:=by rw [hTs.2];exact hself
  have eh:qj ((10,AObj.mark) :: shH cs s a ts k w (JV cs sold k R) (JY cs s a r sold k R)++zk [9] (10+1) 0 [buO cs s])=qj [(10,.mark),(0,qm cs s 1),(1,qp T),(2,.cells [.ptr 0 0]),(3,.cells [.sl (ts.map zF)]),(4,.cells (qg a)),(5,.cells [.sl (l.map eTr)]),(6,.cells [aB true]),(7,.cells [aI k]),(8,.cells [.v (.int .i64 w.cab),.v (.int .i64 w.bed)]),(9,buO cs s)]:=by
   rw [show zk [9] (10+1) 0 [buO cs s]=zk [9] 11 0 [buO cs s] from rfl,V3,hT,hoR];rfl
  rw [eh,hoR]
  repeat' (first|(apply nx;with_reducible constructor)|refine jq (by decide) ?_|refine wX ?_|refine jK ?_|refine jJ ?_|refine jF ?_)
  simp only [vrt,Tryz.results66,kZ.eq_2,kZ.eq_3,vkt,seval,zy,jO,qf,qI,eTr,eTk,qx,qg,qd,mTk,qm,qp,qy,buO,shT,shH,zA,yu,jb,s1L,dfE,rTr,List.length_map,nth,hwL,Nat.zero_add,Nat.sub_zero,i0,hput,hkT]
  refine Fin.ok some [] ?_ ?_ ?_ ?_ ?_ rfl
  all_goals (try simp only [vle,Option.getD_none,Option.isSome_none,Option.getD_some,Option.isSome_some,vkt,seval,zy,jO,qf,qI,eTr,eTk,qx,qg,qd,mTk,qm,qp,qy,buO,shT,shH,zA,yu,jb,s1L,dfE,rTr,List.length_map,nth,hwL,Nat.zero_add,Nat.sub_zero])
  all_goals first|rfl|(simp;done)|exact fun i hi=>(match i,hi with|0,_=>rfl|1,_=>rfl)
theorem K7 (cs:List Cabin) (s:Int) (a:Ask):∀ m,QfJ cs s a m
 |0=>Qa7 cs s a
 |m+1=>Qbc cs s a m (K7 cs s a m)
def xz (cs:List Cabin) (s:Int) (a:Ask) (m:Nat) (S:St):List AV→Option Pk
 |[.ptr p 0,.row q,.agg aa]=>match S.h p,S.h q with
  |some (.cells [.sl cc,.v (.int .i64 s'),.row r]),some (.row _ _ ts)=>match S.h r with
   |some (.row _ _ xs)=>some { pre:=cc=cs.map qh∧s'=s∧aa=qg a∧ts=(ts.map zb).map zF∧xs=(xs.map dTk).map eTk∧(ts.map zb).length=m∧ShOk cs s a (xs.map dTk) (ts.map zb),hs:=[p,r],bo:=[q],ar:=[.ptr 0 0,.sl ts,.agg aa],L0:=qy cs s (xs.map dTk),v:=.tup [qI ((wP cs s a (ts.map zb) (xs.map dTk)).getD []),aB (wP cs s a (ts.map zb) (xs.map dTk)).isSome],L1:=(qy cs s (xs.map dTk)).map some }
   |_=>none
  |_,_=>none
 |_=>none
theorem Qh8 {A:Frm→Prop} {cs:List Cabin} {s:Int} {a:Ask} {m:Nat}:qE A Tryz.prog 66 (fnE (xz cs s a m)):=zY fun S bs q h hp=>by
 unfold xz at h
 split at h
 ·split at h
  ·split at h
   ·cases h
    obtain ⟨_,_,h3,h4,_,h6,h7⟩:=hp
    have:=K7 cs s a m _ _ h6 h7
    rw [qz,← h4,qx,← h3] at this
    exact this
   ·cases h
  ·cases h
 ·cases h
def mvW (c:Chart) (a:Ask) (l:List Int):Option (List Tr):=wP c.cabins c.secs a (jf c l) c.sold
def mvL (c:Chart) (a:Ask) (out:List Tr):List AObj:=[qm c.cabins c.secs 1,qp c.sold,.cells [.ptr 0 0],.cells [.sl ((zS c.sold).map zF)],.cells (qg a),.cells [.sl (out.map eTr)]]
structure MvOk (c:Chart) (a:Ask) (l:List Int):Prop where
 val:Val c
 sx:a.sexes.length≤3
 len:l.length≤2
 mem:∀ i ∈ l,0≤i∧i.toNat < (zS c.sold).length
theorem QgL {sold:List Tk} {i:Int} (h:i ∈ zS sold):0≤i∧i.toNat < sold.length:=by
 unfold zS at h
 obtain ⟨j,hj,rfl⟩:=List.mem_map.1 h
 have:=(List.mem_filter.1 hj).1
 rw [List.mem_range] at this
 exact ⟨Int.natCast_nonneg _,this⟩
theorem LB (sold:List Tk):(zS sold).length≤sold.length:=Uf sold sold.length
theorem MvOk.sh {c:Chart} {a:Ask} {l:List Int} (h:MvOk c a l):ShOk c.cabins c.secs a c.sold (jf c l):=by
 refine ⟨h.val.car.cabs,h.val.car.beds,h.val.many,h.sx,by have:=h.len;simp [jf];omega,fun n hn=>?_⟩
 obtain ⟨i,hi,rfl⟩:=List.mem_map.1 hn
 exact QgL (yB (h.mem i hi).2)
theorem QcZ {c:Chart} {a:Ask} {o:List Tr}:∀ i ob,qj (qQ 0 (mvL c a o)) i=some ob→i < 6∧∀ id ∈ ob.ids,id < 6:=by
 intro i ob hi
 have h:=qR hi
 simp [qQ,mvL] at h
 rcases h with ⟨rfl,rfl⟩|⟨rfl,rfl⟩|⟨rfl,rfl⟩|⟨rfl,rfl⟩|⟨rfl,rfl⟩|⟨rfl,rfl⟩ <;> simp [AObj.ids,AV.ids,AV.idsL,qm,qp,qg]
def mvS (c:Chart) (a:Ask) (o:List Tr) (l:List Int) (k:Nat):St:={ t:=asg [(1,.ptr 3 0),(2,.ptr 2 0),(3,.ptr 4 0),(4,.ptr 5 0),(6,aB false),(7,.row 6),(12,qz l),(13,aI l.length),(14,aI k)],h:=qj [(0,qm c.cabins c.secs 1),(1,qp c.sold),(2,.cells [.ptr 0 0]),(3,.cells [.sl ((zS c.sold).map zF)]),(4,.cells (qg a)),(5,.cells [.sl (o.map eTr)]),(6,.row 3 1 (((jf c l).take k).map zF))],n:=7,m:=6 }
def vN:=kk @ty3 (kk @Qe (kk @QM (kk @UZ (kk @Uc (kk @YW (kk @ti3.eq_1 (kk @x8.eq_1 (kk @Qb.eq_1 (kk @VL.eq_1 (kk @VQ.eq_1 @JZ.eq_1))))))))))
def Qr:=kk @aI.eq_1 (kk @aB.eq_1 (kk @qz.eq_1 (kk @zF.eq_1 (kk @XE (kk @Kv (@QT))))))
set_option maxHeartbeats 1000000 in
theorem Qkc (c:Chart) (a:Ask) (o:List Tr) (l:List Int) (ok:MvOk c a l):Fn noB Tryz.prog 65 [qz l,.ptr 3 0,.ptr 2 0,.ptr 4 0,.ptr 5 0] (qj (qQ 0 (mvL c a o))) (aB (mvW c a l).isSome) (qj (wH 0 ((mvL c a ((mvW c a l).getD o)).map some))) 0:=by
 have env:Env (fun _=>True) Tryz.prog tyB (tab [(66,fnE (xz c.cabins c.secs a l.length))]):=qL ⟨Qh8,trivial⟩
 refine Fn.of (A:=fun _=>True) (n0:=6) (D:=noD) (Fn0 Tryz.func65 rfl (fun vs w=>by kernel_rfl) (by kernel_rfl)) (by simp) (by simp [AV.ids,AV.idsL,qz]) QcZ (fun _ _ _ _=>trivial) qF ?_
 have hsh:=ok.sh
 have hlen:=ok.len
 have hmx:(100000:Nat)≤maxLen:=by decide
 have hsl:(jf c l).length=l.length:=by simp [jf]
 obtain ⟨W,hW⟩:∃ W,mvW c a l=W:=⟨_,rfl⟩
 rw [hW]
 unfold mvW at hW
 show Sym _ _ _ (zV [qz l,.ptr 3 0,.ptr 2 0,.ptr 4 0,.ptr 5 0] 6 (qj [(0,qm c.cabins c.secs 1),(1,qp c.sold),(2,.cells [.ptr 0 0]),(3,.cells [.sl ((zS c.sold).map zF)]),(4,.cells (qg a)),(5,.cells [.sl (o.map eTr)])])) (xM tyB noD Tryz.f65 fun S rv=>Fin S rv _ 6 (qj [(0,qm c.cabins c.secs 1),(1,qp c.sold),(2,.cells [.ptr 0 0]),(3,.cells [.sl ((zS c.sold).map zF)]),(4,.cells (qg a)),(5,.cells [.sl ((W.getD o).map eTr)])]) 0)
 repeat' (first|(apply nx;with_reducible constructor)|refine jq (by decide) ?_|((first|refine kz env fun Q hQ=>?_|refine kj fun Q hQ=>?_);simp only [vkt,seval,vN,Qr,qI,mTk,qm,qp,qy,mvL,mvS,qg,xz,List.length_map];(try simp only [ite_and]);(repeat' (first|with_reducible assumption|refine And.intro ?_ ?_|intro hp));all_goals (first|(refine hQ _ ?_;clear hQ Q)|(refine hQ _ (fun h=>?_) (fun h=>?_) <;> clear hQ Q <;> (try simp only [vki,reduceCtorEq] at h))|(refine kx ?_;kernel_rfl)|omega|assumption|with_reducible rfl|skip)))
 refine qN (fun k:{ k:Nat // k≤l.length }=>mvS c a o l k.1) (fun k=>l.length - k.1) ⟨0,Nat.zero_le _⟩ ?_ fun ⟨k,hk⟩=>?_
 ·(refine Le.ok (fun i=>if i=6 then none else some i) [] ?_;constructor;all_goals (try simp only [vle,vkt,seval,vN,Qr,qI,mTk,qm,qp,qy,mvL,mvS,qg,xz,List.length_map]))
  all_goals first|rfl|(simp;done)|(intro i hi;rw [if_neg (by omega)];done)
 simp only at hk ⊢
 by_cases hkl:k < l.length
 ·have d1:decide ((k:Int) < (l.length:Int))=true:=decide_eq_true (by omega)
  have e9:IntKind.wrap .i64 ((k:Int)+1)=((k+1:Nat):Int):=by rw [wrap64 (by omega) (by omega)];rfl
  obtain ⟨x,hx⟩:∃ x,l.getD k 0=x:=⟨_,rfl⟩
  obtain ⟨hx0,hxl⟩:=ok.mem x (by rw [← hx];exact yB hkl)
  obtain ⟨i,rfl⟩:∃ i:Nat,x=i:=⟨x.toNat,by omega⟩
  have i0:((i:Int)).toNat=i:=rfl
  rw [i0] at hxl
  obtain ⟨y,hy⟩:∃ y,(zS c.sold).getD i 0=y:=⟨_,rfl⟩
  have hS:(jf c l).take (k+1)=(jf c l).take k++[y]:=by
   rw [List.take_succ_eq_append_getElem (by rw [hsl];exact hkl)]
   congr 2
   unfold jf
   rw [List.getElem_map]
   rw [show l[k]=(i:Int) by rw [← hx];simp [List.getD_eq_getElem?_getD,hkl]]
   exact hy
  have hl1:((jf c l).take k).length+1≤maxLen:=by rw [List.length_take];omega
  have hl2:((jf c l).take k).length≤2:=by rw [List.length_take];omega
  repeat' (first|(apply nx;with_reducible constructor)|refine jq (by decide) ?_|((first|refine kz env fun Q hQ=>?_|refine kj fun Q hQ=>?_);simp only [vkt,seval,vN,Qr,qI,mTk,qm,qp,qy,mvL,mvS,qg,xz,List.length_map,d1,e9,hx,hy,i0,hxl,hl1];(try simp only [ite_and]);(repeat' (first|with_reducible assumption|refine And.intro ?_ ?_|intro hp));all_goals (first|(refine hQ _ ?_;clear hQ Q)|(refine hQ _ (fun h=>?_) (fun h=>?_) <;> clear hQ Q <;> (try simp only [vki,reduceCtorEq] at h))|(refine kx ?_;kernel_rfl)|omega|assumption|with_reducible rfl|skip)))
  refine ⟨⟨k+1,hkl⟩,by show l.length - (k+1) < l.length - k;omega, ?_⟩
  show Le _ (mvS c a o l (k+1))
  unfold mvS
  rw [hS]
  (refine Le.ok (fun i=>if i=6 then some 8 else some i) [] ?_;constructor;all_goals (try simp only [vle,vkt,seval,vN,Qr,qI,mTk,qm,qp,qy,mvL,mvS,qg,xz,List.length_map]))
  all_goals first|rfl|(rw [List.map_append];rfl)|(simp;done)|(intro i hi;rw [if_neg (by omega)];done)
 ·have d1:decide ((k:Int) < (l.length:Int))=false:=decide_eq_false (by omega)
  obtain rfl:k=l.length:=by omega
  have htk:(jf c l).take l.length=jf c l:=List.take_of_length_le (by omega)
  cases W with
  |none =>
   repeat' (first|(apply nx;with_reducible constructor)|refine jq (by decide) ?_|((first|refine kz env fun Q hQ=>?_|refine kj fun Q hQ=>?_);simp only [vkt,seval,vN,Qr,qI,mTk,qm,qp,qy,mvL,mvS,qg,xz,List.length_map,d1,htk,hsl,hsh,hW,Option.getD_none,Option.isSome_none];(try simp only [ite_and]);(repeat' (first|with_reducible assumption|refine And.intro ?_ ?_|intro hp));all_goals (first|(refine hQ _ ?_;clear hQ Q)|(refine hQ _ (fun h=>?_) (fun h=>?_) <;> clear hQ Q <;> (try simp only [vki,reduceCtorEq] at h))|(refine kx ?_;kernel_rfl)|omega|assumption|with_reducible rfl|skip)))
   ·exact ⟨_,_,rfl⟩
   (simp only [vrt,Tryz.results65,vkt,seval,vN,Qr,qI,mTk,qm,qp,qy,mvL,mvS,qg,xz,List.length_map];refine Fin.ok some [] ?_ ?_ ?_ ?_ ?_ rfl;all_goals (try simp only [vle,vkt,seval,vN,Qr,qI,mTk,qm,qp,qy,mvL,mvS,qg,xz,List.length_map]))
   all_goals first|rfl|(simp;done)|exact fun i hi=>(match i,hi with|0,_=>rfl|1,_=>rfl)
  |some t =>
   repeat' (first|(apply nx;with_reducible constructor)|refine jq (by decide) ?_|((first|refine kz env fun Q hQ=>?_|refine kj fun Q hQ=>?_);simp only [vkt,seval,vN,Qr,qI,mTk,qm,qp,qy,mvL,mvS,qg,xz,List.length_map,d1,htk,hsl,hsh,hW,Option.getD_some,Option.isSome_some];(try simp only [ite_and]);(repeat' (first|with_reducible assumption|refine And.intro ?_ ?_|intro hp));all_goals (first|(refine hQ _ ?_;clear hQ Q)|(refine hQ _ (fun h=>?_) (fun h=>?_) <;> clear hQ Q <;> (try simp only [vki,reduceCtorEq] at h))|(refine kx ?_;kernel_rfl)|omega|assumption|with_reducible rfl|skip)))
   ·exact ⟨_,_,rfl⟩
   (simp only [vrt,Tryz.results65,vkt,seval,vN,Qr,qI,mTk,qm,qp,qy,mvL,mvS,qg,xz,List.length_map];refine Fin.ok some [] ?_ ?_ ?_ ?_ ?_ rfl;all_goals (try simp only [vle,vkt,seval,vN,Qr,qI,mTk,qm,qp,qy,mvL,mvS,qg,xz,List.length_map]))
   all_goals first|rfl|(simp;done)|exact fun i hi=>(match i,hi with|0,_=>rfl|1,_=>rfl)
def yI:=kk @ty3 (kk @Qe (kk @ti3.eq_1 @x8.eq_1))
theorem QeS (xs:List (List DV)) (h1:zJ 1 xs) (h2:xs.length≤100000):Fn noB Tryz.prog 110 [.sl xs] noH (.row 0) (qj [(0,.row 3 1 xs)]) 0:=by
 have env:Env (fun _=>True) Tryz.prog tyB (tab []):=qL trivial
 obtain ⟨b1,b2,b3,b5,b4⟩:=b47 h2
 refine Fn.of (A:=fun _=>True) (n0:=0) (D:=noD) (Fn0 Tryz.func110 rfl (fun vs w=>by kernel_rfl) (by kernel_rfl)) (by simp) (by simp [AV.ids]) (fun i o h=>by cases h) (fun _ _ _ _=>trivial) qF ?_
 repeat' (first|(apply nx;with_reducible constructor)|refine jq (by decide) ?_)
 (refine kz env fun Q hQ=>?_;simp only [vkt,seval,yI,@true_and];(try simp only [ite_and]);(repeat' (first|with_reducible assumption|refine And.intro ?_ ?_|intro hp));all_goals (first|(refine hQ _ ?_;clear hQ Q)|(refine kx ?_;kernel_rfl)|omega|assumption|with_reducible rfl|skip))
 repeat' (first|(apply nx;with_reducible constructor)|refine jq (by decide) ?_)
 refine Zu (d1:=3) (d2:=4) (t:=26) (e:=3) (x:=.tmp 0) (xs:=xs) rfl rfl rfl rfl rfl rfl Tryz.underlying26 rfl fun b hb=>?_
 repeat' (first|(apply nx;with_reducible constructor)|refine jq (by decide) ?_)
 (refine yY (by simp only [vkt,seval,yI,@true_and];rfl) (fun h=>?_) (fun h=>?_) <;> (try simp only [vki,reduceCtorEq] at h))
 ·have hx:=hb h
  subst hx
  repeat' (first|(apply nx;with_reducible constructor)|refine jq (by decide) ?_|((first|refine kz env fun Q hQ=>?_|refine kj fun Q hQ=>?_);simp only [vkt,seval,yI,@true_and];(try simp only [ite_and]);(repeat' (first|with_reducible assumption|refine And.intro ?_ ?_|intro hp));all_goals (first|(refine hQ _ ?_;clear hQ Q)|(refine hQ _ (fun h=>?_) (fun h=>?_) <;> clear hQ Q <;> (try simp only [vki,reduceCtorEq] at h))|(refine kx ?_;kernel_rfl)|omega|assumption|with_reducible rfl|skip)))
  (simp only [vrt,Tryz.results110,vkt,seval,yI,@true_and];refine Fin.ok (fun _=>none) [] ?_ ?_ ?_ ?_ ?_ rfl;all_goals (try simp only [vle,vkt,seval,yI,@true_and]))
  all_goals simp
 ·repeat' (first|(apply nx;with_reducible constructor)|refine jq (by decide) ?_|((first|refine kz env fun Q hQ=>?_|refine kj fun Q hQ=>?_);simp only [vkt,seval,yI,@true_and];(try simp only [ite_and]);(repeat' (first|with_reducible assumption|refine And.intro ?_ ?_|intro hp));all_goals (first|(refine hQ _ ?_;clear hQ Q)|(refine hQ _ (fun h=>?_) (fun h=>?_) <;> clear hQ Q <;> (try simp only [vki,reduceCtorEq] at h))|(refine kx ?_;kernel_rfl)|omega|assumption|with_reducible rfl|skip)))
  (simp only [vrt,Tryz.results110,vkt,seval,yI,@true_and];refine Fin.ok some [] ?_ ?_ ?_ ?_ ?_ rfl;all_goals (try simp only [vle,vkt,seval,yI,@true_and]))
  all_goals simp
def ji (_:St):List AV→Option Pk
 |[.sl xs]=>some { pre:=zJ 1 xs∧xs.length≤100000,ar:=[.sl xs],v:=.row 0,L1:=[some (.row 3 1 xs)] }
 |_=>none
theorem Qi1 {A:Frm→Prop}:qE A Tryz.prog 110 (fnE ji):=zY fun S bs q h hp=>by
 unfold ji at h
 split at h
 ·cases h;exact QeS _ hp.1 hp.2
 ·cases h
theorem fsr {α:Type} {g:Nat→Option α} {k N:Nat} (h:∀ j,j < k→g j=none) (hk:k < N) {t:α} (ht:g k=some t):(List.range N).findSome? g=some t:=by
 rw [show N=k+(N - k) by omega,List.range_add,List.findSome?_append]
 rw [show (List.range k).findSome? g=none from List.findSome?_eq_none_iff.2 fun j hj=>h j (List.mem_range.1 hj)]
 rw [show N - k=(N - k - 1)+1 by omega,List.range_succ_eq_map]
 simp [ht]
theorem QaW {α:Type} {g:Nat→Option α} {N:Nat} (h:∀ j,j < N→g j=none):(List.range N).findSome? g=none:=List.findSome?_eq_none_iff.2 fun j hj=>h j (List.mem_range.1 hj)
def lsG (c:Chart) (a:Ask) (l:List Int):Option (List Int × List Tr):=(mvW c a l).map fun t=>(l,t)
def lsF (c:Chart) (a:Ask) (m:Nat) (l:List Int) (f:Nat):Option (List Int × List Tr):=(QI (zS c.sold).length m l f).findSome? (lsG c a)
theorem Qfq (c:Chart) (a:Ask) (l:List Int) (f:Nat):lsF c a 0 l f=lsG c a l:=by
 unfold lsF
 rw [QI]
 cases h:lsG c a l <;> simp [h]
theorem Qdj {α β γ:Type} (f:α→List β) (g:β→Option γ):∀ l:List α,(l.flatMap f).findSome? g=l.findSome? fun a=>(f a).findSome? g
 |[]=>rfl
 |a :: l=>by rw [List.flatMap_cons,List.findSome?_append,List.findSome?_cons,Qdj f g l];cases (f a).findSome? g <;> rfl
theorem QfM (c:Chart) (a:Ask) (m:Nat) (l:List Int) (f:Nat):lsF c a (m+1) l f=(List.range ((zS c.sold).length - f)).findSome? fun k=>lsF c a m (l++[((f+k:Nat):Int)]) (f+k+1):=by
 unfold lsF
 rw [QI,Qdj]
structure LsOk (c:Chart) (a:Ask) (l:List Int) (f m:Nat):Prop where
 val:Val c
 sx:a.sexes.length≤3
 len:l.length+m≤2
 from':f≤(zS c.sold).length∨m=0
 mem:∀ i ∈ l,0≤i∧i.toNat < (zS c.sold).length
def lsL (c:Chart) (a:Ask) (many:Nat) (o:Option (List Int × List Tr)):List AObj:=[qm c.cabins c.secs 1,qp c.sold,.cells [.ptr 0 0],.cells [.sl ((zS c.sold).map zF)],.cells (qg a),.cells [.sl (((o.map (·.2)).getD []).map eTr)],
 .cells [aI many],.cells [.clo 65 [.ptr 3 0,.ptr 2 0,.ptr 4 0,.ptr 5 0]],.cells [.sl (((o.map (·.1)).getD []).map zF)],.cells [aB o.isSome],.cells [aI (zS c.sold).length],.cells [.clo 109 [.ptr 6 0,.ptr 7 0,.ptr 8 0,.ptr 9 0,.ptr 10 0,.ptr 11 0]]]
theorem Qdy {c:Chart} {a:Ask} {many:Nat} {o:Option (List Int × List Tr)}:∀ i ob,qj (qQ 0 (lsL c a many o)) i=some ob→i < 12∧∀ id ∈ ob.ids,id < 12:=by
 intro i ob hi
 have h:=qR hi
 simp [qQ,lsL] at h
 rcases h with ⟨rfl,rfl⟩|⟨rfl,rfl⟩|⟨rfl,rfl⟩|⟨rfl,rfl⟩|⟨rfl,rfl⟩|⟨rfl,rfl⟩|⟨rfl,rfl⟩|⟨rfl,rfl⟩|⟨rfl,rfl⟩|⟨rfl,rfl⟩|⟨rfl,rfl⟩|⟨rfl,rfl⟩ <;> simp [AObj.ids,AV.ids,AV.idsL,qm,qp,qg,aI,aB]
def LsFn (c:Chart) (a:Ask) (many m:Nat):Prop:=∀ (l:List Int) (f:Nat),l.length+m=many→LsOk c a l f m →
 Fn noB Tryz.prog 109 [qz l,aI f,.ptr 6 0,.ptr 7 0,.ptr 8 0,.ptr 9 0,.ptr 10 0,.ptr 11 0] (qj (qQ 0 (lsL c a many none))) (.tup []) (qj (wH 0 ((lsL c a many (lsF c a m l f)).map some))) 0
def Zq (c:Chart) (a:Ask) (S:St):List AV→Option Pk
 |[.sl xs,.ptr p3 0,.ptr p2 0,.ptr p4 0,.ptr p5 0]=>match S.h p2,S.h p5 with
  |some (.cells [.ptr p0 0]),some (.cells [.sl os])=>match S.h p0 with
   |some (.cells [_,_,.row p1])=>some { pre:=xs=(xs.map zb).map zF∧os=(os.map dTr).map eTr∧MvOk c a (xs.map zb),hs:=[p0,p1,p2,p3,p4,p5],ar:=[.sl xs,.ptr 3 0,.ptr 2 0,.ptr 4 0,.ptr 5 0],L0:=mvL c a (os.map dTr),v:=aB (mvW c a (xs.map zb)).isSome,L1:=(mvL c a ((mvW c a (xs.map zb)).getD (os.map dTr))).map some }
   |_=>none
  |_,_=>none
 |_=>none
theorem eMv1 {A:Frm→Prop} {c:Chart} {a:Ask}:qE A Tryz.prog 65 (fnE (Zq c a)):=zY fun S bs q h hp=>by
 unfold Zq at h
 split at h
 ·split at h
  ·split at h
   ·cases h
    obtain ⟨h1,h2,h3⟩:=hp
    have:=Qkc c a (List.map dTr (by assumption)) _ h3
    rw [qz,← h1] at this
    exact this
   ·cases h
  ·cases h
 ·cases h
def Zr (c:Chart) (a:Ask) (many m:Nat) (S:St):List AV→Option Pk
 |[.row q,.v (.int .i64 f),.ptr p6 0,.ptr p7 0,.ptr p8 0,.ptr p9 0,.ptr p10 0,.ptr p11 0]=>match S.h q,S.h p7 with
  |some (.row _ _ xs),some (.cells [.clo _ [.ptr p3 0,.ptr p2 0,.ptr p4 0,.ptr p5 0]])=>match S.h p2 with
   |some (.cells [.ptr p0 0])=>match S.h p0 with
    |some (.cells [_,_,.row p1])=>some { pre:=xs=(xs.map zb).map zF∧f=(f.toNat:Int)∧(xs.map zb).length+m=many∧LsOk c a (xs.map zb) f.toNat m,hs:=[p0,p1,p2,p3,p4,p5,p6,p7,p8,p9,p10,p11],bo:=[q],ar:=[.sl xs,.v (.int .i64 f),.ptr 6 0,.ptr 7 0,.ptr 8 0,.ptr 9 0,.ptr 10 0,.ptr 11 0],L0:=lsL c a many none,v:=.tup [],L1:=(lsL c a many (lsF c a m (xs.map zb) f.toNat)).map some }
    |_=>none
   |_=>none
  |_,_=>none
 |_=>none
theorem eLs1 {A:Frm→Prop} {c:Chart} {a:Ask} {many m:Nat} (ih:LsFn c a many m):qE A Tryz.prog 109 (fnE (Zr c a many m)):=zY fun S bs q h hp=>by
 unfold Zr at h
 split at h
 ·split at h
  ·split at h
   ·split at h
    ·cases h
     obtain ⟨h1,h2,h3,h4⟩:=hp
     have:=ih _ _ h3 h4
     rw [qz,← h1,aI,← h2] at this
     exact this
    ·cases h
   ·cases h
  ·cases h
 ·cases h
def lsS (c:Chart) (a:Ask) (many:Nat) (l:List Int) (i:Nat) (o:Option (List Int × List Tr)):St:={ t:=asg [(0,qz l),(2,.ptr 6 0),(3,.ptr 7 0),(4,.ptr 8 0),(5,.ptr 9 0),(6,.ptr 10 0),(7,.ptr 11 0),(10,aI i)],h:=qj [(0,qm c.cabins c.secs 1),(1,qp c.sold),(2,.cells [.ptr 0 0]),(3,.cells [.sl ((zS c.sold).map zF)]),(4,.cells (qg a)),(5,.cells [.sl (((o.map (·.2)).getD []).map eTr)]),
 (6,.cells [aI many]),(7,.cells [.clo 65 [.ptr 3 0,.ptr 2 0,.ptr 4 0,.ptr 5 0]]),(8,.cells [.sl (((o.map (·.1)).getD []).map zF)]),(9,.cells [aB o.isSome]),(10,.cells [aI (zS c.sold).length]),(11,.cells [.clo 109 [.ptr 6 0,.ptr 7 0,.ptr 8 0,.ptr 9 0,.ptr 10 0,.ptr 11 0]])],n:=12,m:=12 }
def zq:=kk @ty3 (kk @ty4 (kk @Qe (kk @ty120 (kk @Qju (kk @ti3.eq_1 (kk @ti4.eq_1 (kk @x8.eq_1 (kk @Qdx.eq_1 @Qar.eq_1))))))))
def j3:=kk @aI.eq_1 (kk @aB.eq_1 (kk @qz.eq_1 (kk @zF.eq_1 (kk @XE (kk @Kv (@QT))))))
set_option maxHeartbeats 2000000 in
theorem KI (c:Chart) (a:Ask) (many m:Nat) (ih:∀ m',m=m'+1→LsFn c a many m'):LsFn c a many m:=by
 intro l f hlm ok
 have hlen:=ok.len
 have hlo:=LB c.sold
 have hv8:=ok.val.many
 have hmx:(100000:Nat)≤maxLen:=by decide
 have hmm:l.length≤100000:=by omega
 have hml1:l.length+1≤maxLen:=by omega
 obtain ⟨n,hn⟩:∃ n,(zS c.sold).length=n:=⟨_,rfl⟩
 rw [hn] at hlo
 cases m with
 |zero =>
  have env:Env (fun _=>True) Tryz.prog tyB (tab [(65,fnE (Zq c a))]):=qL ⟨eMv1,trivial⟩
  refine Fn.of (A:=fun _=>True) (n0:=12) (D:=noD) (Fn0 Tryz.func109 rfl (fun vs w=>by kernel_rfl) (by kernel_rfl)) (by simp) (by simp [AV.ids,AV.idsL,qz,aI]) Qdy (fun _ _ _ _=>trivial) qF ?_
  have hmv:MvOk c a l:=⟨ok.val,ok.sx,by omega,ok.mem⟩
  have d0:decide ((l.length:Int)=(many:Int))=true:=decide_eq_true (by omega)
  rw [Qfq]
  show Sym _ _ _ (zV [qz l,aI f,.ptr 6 0,.ptr 7 0,.ptr 8 0,.ptr 9 0,.ptr 10 0,.ptr 11 0] 12 (lsS c a many l f none).h) (xM tyB noD Tryz.f109 fun S rv=>Fin S rv _ 12 (lsS c a many l f (lsG c a l)).h 0)
  unfold lsG
  cases hW:mvW c a l with
  |none =>
   repeat' (first|(apply nx;with_reducible constructor)|refine jq (by decide) ?_|((first|refine kz env fun Q hQ=>?_|refine kj fun Q hQ=>?_);simp only [vkt,seval,zq,j3,qI,eTr,mTr,mTk,qm,qp,mvL,lsL,lsS,qg,Zq,Zr,ji,List.length_map,d0,hmv,hW,Option.getD_none,Option.isSome_none,Option.map_none];(try simp only [ite_and]);(repeat' (first|with_reducible assumption|refine And.intro ?_ ?_|intro hp));all_goals (first|(refine hQ _ ?_;clear hQ Q)|(refine hQ _ (fun h=>?_) (fun h=>?_) <;> clear hQ Q <;> (try simp only [vki,reduceCtorEq] at h))|(refine kx ?_;kernel_rfl)|omega|assumption|with_reducible rfl|skip)))
   (simp only [vrt,Tryz.results109,vkt,seval,zq,j3,qI,eTr,mTr,mTk,qm,qp,mvL,lsL,lsS,qg,Zq,Zr,ji,List.length_map];refine Fin.ok some [] ?_ ?_ ?_ ?_ ?_ rfl;all_goals (try simp only [vle,vkt,seval,zq,j3,qI,eTr,mTr,mTk,qm,qp,mvL,lsL,lsS,qg,Zq,Zr,ji,List.length_map]))
   all_goals (try simp only [Option.getD_none,Option.isSome_none,Option.map_none])
   all_goals first|rfl|(simp;done)
  |some t =>
   repeat' (first|(apply nx;with_reducible constructor)|refine jq (by decide) ?_|((first|refine kz env fun Q hQ=>?_|refine kj fun Q hQ=>?_);simp only [vkt,seval,zq,j3,qI,eTr,mTr,mTk,qm,qp,mvL,lsL,lsS,qg,Zq,Zr,ji,List.length_map,d0,hmv,hW,Option.getD_some,Option.isSome_some,Option.map_some,Option.getD_none,Option.isSome_none,Option.map_none];(try simp only [ite_and]);(repeat' (first|with_reducible assumption|refine And.intro ?_ ?_|intro hp));all_goals (first|(refine hQ _ ?_;clear hQ Q)|(refine hQ _ (fun h=>?_) (fun h=>?_) <;> clear hQ Q <;> (try simp only [vki,reduceCtorEq] at h))|(refine kx ?_;kernel_rfl)|omega|assumption|with_reducible rfl|skip)))
   (simp only [vrt,Tryz.results109,vkt,seval,zq,j3,qI,eTr,mTr,mTk,qm,qp,mvL,lsL,lsS,qg,Zq,Zr,ji,List.length_map];refine Fin.ok some [] ?_ ?_ ?_ ?_ ?_ rfl;all_goals (try simp only [vle,vkt,seval,zq,j3,qI,eTr,mTr,mTk,qm,qp,mvL,lsL,lsS,qg,Zq,Zr,ji,List.length_map]))
   all_goals (try simp only [Option.getD_some,Option.isSome_some,Option.map_some])
   all_goals first|rfl|(simp;done)
 |succ m =>
  have env:Env (fun _=>True) Tryz.prog tyB (tab [(110,fnE ji),(109,fnE (Zr c a many m))]):=qL ⟨Qi1,eLs1 (ih m rfl),trivial⟩
  refine Fn.of (A:=fun _=>True) (n0:=12) (D:=noD) (Fn0 Tryz.func109 rfl (fun vs w=>by kernel_rfl) (by kernel_rfl)) (by simp) (by simp [AV.ids,AV.idsL,qz,aI]) Qdy (fun _ _ _ _=>trivial) qF ?_
  have d0:decide ((l.length:Int)=(many:Int))=false:=decide_eq_false (by omega)
  have hfn:f≤n:=by have:=ok.from';omega
  rw [QfM,hn]
  obtain ⟨g,hg⟩:∃ g:Nat→Option (List Int × List Tr),(fun k=>lsF c a m (l++[((f+k:Nat):Int)]) (f+k+1))=g:=⟨_,rfl⟩
  rw [hg]
  show Sym _ _ _ (zV [qz l,aI f,.ptr 6 0,.ptr 7 0,.ptr 8 0,.ptr 9 0,.ptr 10 0,.ptr 11 0] 12 (lsS c a many l f none).h) (xM tyB noD Tryz.f109 fun S rv=>Fin S rv _ 12 (lsS c a many l f ((List.range (n - f)).findSome? g)).h 0)
  repeat' (first|(apply nx;with_reducible constructor)|refine jq (by decide) ?_|((first|refine kz env fun Q hQ=>?_|refine kj fun Q hQ=>?_);simp only [vkt,seval,zq,j3,qI,eTr,mTr,mTk,qm,qp,mvL,lsL,lsS,qg,Zq,Zr,ji,List.length_map,d0,Option.getD_none,Option.isSome_none,Option.map_none];(try simp only [ite_and]);(repeat' (first|with_reducible assumption|refine And.intro ?_ ?_|intro hp));all_goals (first|(refine hQ _ ?_;clear hQ Q)|(refine hQ _ (fun h=>?_) (fun h=>?_) <;> clear hQ Q <;> (try simp only [vki,reduceCtorEq] at h))|(refine kx ?_;kernel_rfl)|omega|assumption|with_reducible rfl|skip)))
  refine qN (fun x:{ x:Nat × Option (List Int × List Tr) // x.1≤n - f∧((x.2=none∧∀ j,j < x.1→g j=none)∨∃ t,x.2=some t∧(List.range (n - f)).findSome? g=some t) }=>lsS c a many l (f+x.1.1) x.1.2) (fun x=>n - f - x.1.1) ⟨(0,none),Nat.zero_le _,.inl ⟨rfl,fun j h=>absurd h (Nat.not_lt_zero _)⟩⟩ ?_ fun ⟨(k,o),hk,ho⟩=>?_
  ·show Le _ (lsS c a many l f none)
   unfold lsS
   (refine Le.ok some [] ?_;constructor;all_goals (try simp only [vle,vkt,seval,zq,j3,qI,eTr,mTr,mTk,qm,qp,mvL,lsL,lsS,qg,Zq,Zr,ji,List.length_map]))
   all_goals first|rfl|(simp;done)
  simp only at hk ho ⊢
  rcases ho with ⟨rfl,hno⟩|⟨t,rfl,ht⟩
  ·by_cases hkl:k < n - f
   ·have d1:decide (((f+k:Nat):Int) < (n:Int))=true:=decide_eq_true (by omega)
    have w1:IntKind.wrap .i64 (((f+k:Nat):Int)+1)=((f+k+1:Nat):Int):=by rw [wrap64 (by omega) (by omega)];rfl
    have hla:l.map zF++[[.v (.int .i64 ((f+k:Nat):Int))]]=(l++[((f+k:Nat):Int)]).map zF:=by rw [List.map_append];rfl
    have hll:(l++[((f+k:Nat):Int)]).length=l.length+1:=by simp
    have hnm:l.length+1+m=many:=by omega
    have i0:(((f+k+1:Nat):Int)).toNat=f+k+1:=rfl
    have hok:LsOk c a (l++[((f+k:Nat):Int)]) (f+k+1) m:=⟨ok.val,ok.sx,by rw [hll];omega,.inl (by omega),fun i hi=>by
     rcases List.mem_append.1 hi with hi|hi
     ·exact ok.mem i hi
     ·rw [List.mem_singleton.1 hi,hn];omega⟩
    obtain ⟨o',ho'⟩:∃ o',lsF c a m (l++[((f+k:Nat):Int)]) (f+k+1)=o':=⟨_,rfl⟩
    have hgk:g k=o':=by rw [← hg];exact ho'
    repeat' (first|(apply nx;with_reducible constructor)|refine jq (by decide) ?_|((first|refine kz env fun Q hQ=>?_|refine kj fun Q hQ=>?_);simp only [vkt,seval,zq,j3,qI,eTr,mTr,mTk,qm,qp,mvL,lsL,lsS,qg,Zq,Zr,ji,List.length_map,hn,d1,w1,hla,hll,hnm,i0,hok,ho',hmm,hml1,Option.getD_none,Option.isSome_none,Option.map_none];(try simp only [ite_and]);(repeat' (first|with_reducible assumption|refine And.intro ?_ ?_|intro hp));all_goals (first|(refine hQ _ ?_;clear hQ Q)|(refine hQ _ (fun h=>?_) (fun h=>?_) <;> clear hQ Q <;> (try simp only [vki,reduceCtorEq] at h))|(refine kx ?_;kernel_rfl)|omega|assumption|with_reducible rfl|skip)))
    ·exact ⟨_,_,rfl⟩
    refine ⟨⟨(k+1,o'),by show k+1≤n - f;omega, ?_⟩,by show n - f - (k+1) < n - f - k;omega, ?_⟩
    ·cases o' with
     |none =>
      refine .inl ⟨rfl,fun j hj=>?_⟩
      rcases Nat.lt_or_eq_of_le (Nat.le_of_lt_succ hj) with h1|h1
      ·exact hno j h1
      ·rw [h1];exact hgk
     |some t=>exact .inr ⟨t,rfl,fsr hno hkl hgk⟩
    ·show Le _ (lsS c a many l (f+k+1) o')
     unfold lsS
     rw [hn]
     (refine Le.ok some [] ?_;constructor;all_goals (try simp only [vle,vkt,seval,zq,j3,qI,eTr,mTr,mTk,qm,qp,mvL,lsL,lsS,qg,Zq,Zr,ji,List.length_map]))
     all_goals first|rfl|(simp;done)
   ·have d1:decide (((f+k:Nat):Int) < (n:Int))=false:=decide_eq_false (by omega)
    rw [QaW (fun j hj=>hno j (by omega))]
    repeat' (first|(apply nx;with_reducible constructor)|refine jq (by decide) ?_|((first|refine kz env fun Q hQ=>?_|refine kj fun Q hQ=>?_);simp only [vkt,seval,zq,j3,qI,eTr,mTr,mTk,qm,qp,mvL,lsL,lsS,qg,Zq,Zr,ji,List.length_map,hn,d1,Option.getD_none,Option.isSome_none,Option.map_none];(try simp only [ite_and]);(repeat' (first|with_reducible assumption|refine And.intro ?_ ?_|intro hp));all_goals (first|(refine hQ _ ?_;clear hQ Q)|(refine hQ _ (fun h=>?_) (fun h=>?_) <;> clear hQ Q <;> (try simp only [vki,reduceCtorEq] at h))|(refine kx ?_;kernel_rfl)|omega|assumption|with_reducible rfl|skip)))
    (simp only [vrt,Tryz.results109,vkt,seval,zq,j3,qI,eTr,mTr,mTk,qm,qp,mvL,lsL,lsS,qg,Zq,Zr,ji,List.length_map];refine Fin.ok some [] ?_ ?_ ?_ ?_ ?_ rfl;all_goals (try simp only [vle,vkt,seval,zq,j3,qI,eTr,mTr,mTk,qm,qp,mvL,lsL,lsS,qg,Zq,Zr,ji,List.length_map]))
    all_goals (try simp only [hn,Option.getD_none,Option.isSome_none,Option.map_none])
    all_goals first|rfl|(simp;done)
  ·rw [ht]
   by_cases hkl:f+k < n
   ·have d1:decide (((f+k:Nat):Int) < (n:Int))=true:=decide_eq_true (by omega)
    repeat' (first|(apply nx;with_reducible constructor)|refine jq (by decide) ?_|((first|refine kz env fun Q hQ=>?_|refine kj fun Q hQ=>?_);simp only [vkt,seval,zq,j3,qI,eTr,mTr,mTk,qm,qp,mvL,lsL,lsS,qg,Zq,Zr,ji,List.length_map,hn,d1,Option.getD_some,Option.isSome_some,Option.map_some];(try simp only [ite_and]);(repeat' (first|with_reducible assumption|refine And.intro ?_ ?_|intro hp));all_goals (first|(refine hQ _ ?_;clear hQ Q)|(refine hQ _ (fun h=>?_) (fun h=>?_) <;> clear hQ Q <;> (try simp only [vki,reduceCtorEq] at h))|(refine kx ?_;kernel_rfl)|omega|assumption|with_reducible rfl|skip)))
    (simp only [vrt,Tryz.results109,vkt,seval,zq,j3,qI,eTr,mTr,mTk,qm,qp,mvL,lsL,lsS,qg,Zq,Zr,ji,List.length_map];refine Fin.ok some [] ?_ ?_ ?_ ?_ ?_ rfl;all_goals (try simp only [vle,vkt,seval,zq,j3,qI,eTr,mTr,mTk,qm,qp,mvL,lsL,lsS,qg,Zq,Zr,ji,List.length_map]))
    all_goals (try simp only [hn,Option.getD_some,Option.isSome_some,Option.map_some])
    all_goals first|rfl|(simp;done)
   ·have d1:decide (((f+k:Nat):Int) < (n:Int))=false:=decide_eq_false (by omega)
    repeat' (first|(apply nx;with_reducible constructor)|refine jq (by decide) ?_|((first|refine kz env fun Q hQ=>?_|refine kj fun Q hQ=>?_);simp only [vkt,seval,zq,j3,qI,eTr,mTr,mTk,qm,qp,mvL,lsL,lsS,qg,Zq,Zr,ji,List.length_map,hn,d1,Option.getD_some,Option.isSome_some,Option.map_some];(try simp only [ite_and]);(repeat' (first|with_reducible assumption|refine And.intro ?_ ?_|intro hp));all_goals (first|(refine hQ _ ?_;clear hQ Q)|(refine hQ _ (fun h=>?_) (fun h=>?_) <;> clear hQ Q <;> (try simp only [vki,reduceCtorEq] at h))|(refine kx ?_;kernel_rfl)|omega|assumption|with_reducible rfl|skip)))
    (simp only [vrt,Tryz.results109,vkt,seval,zq,j3,qI,eTr,mTr,mTk,qm,qp,mvL,lsL,lsS,qg,Zq,Zr,ji,List.length_map];refine Fin.ok some [] ?_ ?_ ?_ ?_ ?_ rfl;all_goals (try simp only [vle,vkt,seval,zq,j3,qI,eTr,mTr,mTk,qm,qp,mvL,lsL,lsS,qg,Zq,Zr,ji,List.length_map]))
    all_goals (try simp only [hn,Option.getD_some,Option.isSome_some,Option.map_some])
    all_goals first|rfl|(simp;done)
theorem Xq (c:Chart) (a:Ask) (many:Nat):∀ m,LsFn c a many m
 |0=>KI c a many 0 fun _ h=>by omega
 |m+1=>KI c a many (m+1) fun m' h=>by
   obtain rfl:m=m':=by omega
   exact Xq c a many m
def QeT (c:Chart) (a:Ask) (many:Nat) (S:St):List AV→Option Pk
 |[.nil,.v (.int .i64 f),.ptr p6 0,.ptr p7 0,.ptr p8 0,.ptr p9 0,.ptr p10 0,.ptr p11 0]=>match S.h p7 with
  |some (.cells [.clo _ [.ptr p3 0,.ptr p2 0,.ptr p4 0,.ptr p5 0]])=>match S.h p2 with
   |some (.cells [.ptr p0 0])=>match S.h p0 with
    |some (.cells [_,_,.row p1])=>some { pre:=f=0∧LsOk c a [] 0 many,hs:=[p0,p1,p2,p3,p4,p5,p6,p7,p8,p9,p10,p11],ar:=[.sl [],.v (.int .i64 0),.ptr 6 0,.ptr 7 0,.ptr 8 0,.ptr 9 0,.ptr 10 0,.ptr 11 0],L0:=lsL c a many none,v:=.tup [],L1:=(lsL c a many (lsF c a many [] 0)).map some }
    |_=>none
   |_=>none
  |_=>none
 |_=>none
theorem eLs0 {A:Frm→Prop} {c:Chart} {a:Ask} {many:Nat}:qE A Tryz.prog 109 (fnE (QeT c a many)):=zY fun S bs q h hp=>by
 unfold QeT at h
 split at h
 ·split at h
  ·split at h
   ·split at h
    ·cases h
     exact Xq c a many many [] 0 (by simp) hp.2
    ·cases h
   ·cases h
  ·cases h
 ·cases h
def WX:=kk @ty3 (kk @ty4 (kk @Qe (kk @Qju (kk @ti3.eq_1 (kk @ti4.eq_1 (kk @x8.eq_1 @Qar.eq_1))))))
def Ul:=kk @aI.eq_1 (kk @aB.eq_1 (kk @qz.eq_1 (kk @zF.eq_1 (kk @Kv (@QT)))))
set_option maxHeartbeats 1000000 in
theorem Qgg (c:Chart) (a:Ask) (many:Nat) (ok:LsOk c a [] 0 many):Fn noB Tryz.prog 64 [aI (zS c.sold).length,aI many,.clo 65 [.ptr 3 0,.ptr 2 0,.ptr 4 0,.ptr 5 0]] (qj (qQ 0 (mvL c a []))) (.tup [qz (((lsF c a many [] 0).map (·.1)).getD []),aB (lsF c a many [] 0).isSome]) (qj (wH 0 ((mvL c a (((lsF c a many [] 0).map (·.2)).getD [])).map some))) 0:=by
 have env:Env (fun _=>True) Tryz.prog tyB (tab [(109,fnE (QeT c a many))]):=qL ⟨eLs0,trivial⟩
 refine Fn.of (A:=fun _=>True) (n0:=6) (D:=noD) (Fn0 Tryz.func64 rfl (fun vs w=>by kernel_rfl) (by kernel_rfl)) (by simp) (by simp [AV.ids,AV.idsL,aI]) QcZ (fun _ _ _ _=>trivial) qF ?_
 obtain ⟨o,ho⟩:∃ o,lsF c a many [] 0=o:=⟨_,rfl⟩
 rw [ho]
 show Sym _ _ _ (zV [aI (zS c.sold).length,aI many,.clo 65 [.ptr 3 0,.ptr 2 0,.ptr 4 0,.ptr 5 0]] 6 (qj [(0,qm c.cabins c.secs 1),(1,qp c.sold),(2,.cells [.ptr 0 0]),(3,.cells [.sl ((zS c.sold).map zF)]),(4,.cells (qg a)),(5,.cells [.sl []])])) (xM tyB noD Tryz.f64 fun S rv=>Fin S rv _ 6 (qj [(0,qm c.cabins c.secs 1),(1,qp c.sold),(2,.cells [.ptr 0 0]),(3,.cells [.sl ((zS c.sold).map zF)]),(4,.cells (qg a)),(5,.cells [.sl (((o.map (·.2)).getD []).map eTr)])]) 0)
 repeat' (first|(apply nx;with_reducible constructor)|refine jq (by decide) ?_|((first|refine kz env fun Q hQ=>?_|refine kj fun Q hQ=>?_);simp only [vkt,seval,WX,Ul,qI,eTr,mTr,mTk,qm,qp,mvL,lsL,qg,QeT,List.length_map,List.map_nil,ho,ok,Option.getD_none,Option.isSome_none,Option.map_none];(try simp only [ite_and]);(repeat' (first|with_reducible assumption|refine And.intro ?_ ?_|intro hp));all_goals (first|(refine hQ _ ?_;clear hQ Q)|(refine hQ _ (fun h=>?_) (fun h=>?_) <;> clear hQ Q <;> (try simp only [vki,reduceCtorEq] at h))|(refine kx ?_;kernel_rfl)|omega|assumption|with_reducible rfl|skip)))
 (simp only [vrt,Tryz.results64,vkt,seval,WX,Ul,qI,eTr,mTr,mTk,qm,qp,mvL,lsL,qg,QeT,List.length_map,List.map_nil];refine Fin.ok some [] ?_ ?_ ?_ ?_ ?_ rfl;all_goals (try simp only [vle,vkt,seval,WX,Ul,qI,eTr,mTr,mTk,qm,qp,mvL,lsL,qg,QeT,List.length_map,List.map_nil]))
 all_goals first|rfl|(simp;done)|exact fun i hi=>(match i,hi with|0,_=>rfl|1,_=>rfl)
theorem QeF (c:Chart) (a:Ask) (m:Nat):yP c a m=(lsF c a m [] 0).map (·.2):=by
 unfold yP lsF
 generalize QI (zS c.sold).length m [] 0=L
 induction L with
 |nil=>rfl
 |cons l L ih =>
  rw [List.findSome?_cons,List.findSome?_cons]
  have hl:lsG c a l=(wP c.cabins c.secs a (jf c l) c.sold).map fun t=>(l,t):=rfl
  rw [hl]
  cases wP c.cabins c.secs a (jf c l) c.sold with
  |none=>exact ih
  |some t=>rfl
def Qh (c:Chart) (a:Ask) (many:Nat) (S:St):List AV→Option Pk
 |[.v (.int .i64 n),.v (.int .i64 m),.clo f [.ptr p3 0,.ptr p2 0,.ptr p4 0,.ptr p5 0]]=>match S.h p2 with
  |some (.cells [.ptr p0 0])=>match S.h p0 with
   |some (.cells [_,_,.row p1])=>some { pre:=n=(zS c.sold).length∧m=(many:Int)∧f=65∧LsOk c a [] 0 many,hs:=[p0,p1,p2,p3,p4,p5],ar:=[aI (zS c.sold).length,aI many,.clo 65 [.ptr 3 0,.ptr 2 0,.ptr 4 0,.ptr 5 0]],L0:=mvL c a [],v:=.tup [qz (((lsF c a many [] 0).map (·.1)).getD []),aB (lsF c a many [] 0).isSome],L1:=(mvL c a (((lsF c a many [] 0).map (·.2)).getD [])).map some }
   |_=>none
  |_=>none
 |_=>none
theorem QkN {A:Frm→Prop} {c:Chart} {a:Ask} {many:Nat}:qE A Tryz.prog 64 (fnE (Qh c a many)):=zY fun S bs q h hp=>by
 unfold Qh at h
 split at h
 ·split at h
  ·split at h
   ·cases h
    exact Qgg c a many hp.2.2.2
   ·cases h
  ·cases h
 ·cases h
theorem Qaf {c:Chart} {a:Ask} (h:zw c a=0) {t:List Tr} (ht:(List.range 3).findSome? (yP c a)=some t):wV c a=(t,0):=by
 unfold wV
 rw [if_neg (by simpa using h),ht]
theorem LX {c:Chart} {a:Ask} (h:zw c a=0) (ht:(List.range 3).findSome? (yP c a)=none):wV c a=([],11):=by
 unfold wV
 rw [if_neg (by simpa using h),ht]
def mdS (c:Chart) (a:Ask) (k:Nat):St:={ t:=asg [(3,.ptr 1 0),(4,.nil),(5,aI 0),(6,.ptr 4 0),(8,.ptr 5 0),(24,aI k)],h:=qj [(1,.cells (qg a)),(2,qm c.cabins c.secs 3),(3,qp c.sold),(4,.cells [.ptr 2 0]),(5,.cells [.sl ((zS c.sold).map zF)])],n:=6 }
def yj:=kk @ty3 (kk @yc (kk @Qe (kk @QM (kk @Zc (kk @UZ (kk @Uc (kk @YW (kk @ti3.eq_1 (kk @jM.eq_1 (kk @x8.eq_1 (kk @Qb.eq_1 (kk @QA.eq_1 (kk @VL.eq_1 (kk @VQ.eq_1 @JZ.eq_1))))))))))))))
def Qp:=kk @aI.eq_1 (kk @aB.eq_1 (kk @qz.eq_1 (@QT)))
set_option maxHeartbeats 1000000 in
theorem QfN (c:Chart) (a:Ask) (hc:c.cabins.length≤maxLen) (ha:a.sexes.length≤maxLen):FnV Tryz.prog 23 [qa c,qx a] (.tup [qI (wV c a).1,aI (wV c a).2]):=by
 have ec:(⟨c.cabins,c.secs,c.sold⟩:Chart)=c:=rfl
 have ea:(⟨a.party,a.frm,a.to,a.sexes,a.dog⟩:Ask)=a:=rfl
 by_cases h0:zw c a=0
 ·have hval:=(Zx h0).val
  have hsx:=(Zx h0).sx
  have h8:=hval.many
  have h100:c.sold.length≤100:=by omega
  have env0:Env (fun _=>True) Tryz.prog tyB (tab [(50,fnE za),(63,qX false Z7)]):=qL ⟨XB,elone,trivial⟩
  have env1:∀ k,Env (fun _=>True) Tryz.prog tyB (tab [(64,fnE (Qh c a k))]):=fun k=>qL ⟨QkN,trivial⟩
  have env:=env0
  refine Fn.of (A:=fun _=>True) (n0:=0) (D:=noD) (Fn0 Tryz.func23 rfl (fun vs w=>by kernel_rfl) (by kernel_rfl)) (by simp) (by simp [AV.ids,AV.idsL,qa,qb,qx,qg]) (fun i o h=>by cases h) (fun _ _ _ _=>trivial) qF ?_
  repeat' (first|(apply nx;with_reducible constructor)|refine jq (by decide) ?_|((first|refine kz env fun Q hQ=>?_|refine kj fun Q hQ=>?_);simp only [vkt,seval,yj,Qp,qI,qa,qb,qx,qg,mTk,qd,qm,qp,qy,mvL,mdS,za,Z7,Qh,List.length_map,List.map_nil,ec,ea,h0,h100];(try simp only [ite_and]);(repeat' (first|with_reducible assumption|refine And.intro ?_ ?_|intro hp));all_goals (first|(refine hQ _ ?_;clear hQ Q)|(refine hQ _ (fun h=>?_) (fun h=>?_) <;> clear hQ Q <;> (try simp only [vki,reduceCtorEq] at h))|(refine kx ?_;kernel_rfl)|omega|assumption|with_reducible rfl|skip)))
  refine qN (fun k:{ k:Nat // k≤3∧∀ j,j < k→yP c a j=none }=>mdS c a k.1) (fun k=>3 - k.1) ⟨0,Nat.zero_le _,fun j h=>absurd h (Nat.not_lt_zero _)⟩ ?_ fun ⟨k,hk,hno⟩=>?_
  ·(refine Le.ok some [] ?_;constructor;all_goals (try simp only [vle,vkt,seval,yj,Qp,qI,qa,qb,qx,qg,mTk,qd,qm,qp,qy,mvL,mdS,za,Z7,Qh,List.length_map,List.map_nil]))
   all_goals first|rfl|(simp;done)
  simp only at hk hno ⊢
  clear env
  have env:=env1 k
  by_cases hk3:k < 3
  ·have d1:decide ((k:Int) < 3)=true:=decide_eq_true (by omega)
   have w1:IntKind.wrap .i64 ((k:Int)+1)=((k+1:Nat):Int):=by rw [wrap64 (by omega) (by omega)];rfl
   have hok:LsOk c a [] 0 k:=⟨hval,hsx,by simp;omega,.inl (Nat.zero_le _),by simp⟩
   have hN:=QeF c a k
   obtain ⟨o,ho⟩:∃ o,lsF c a k [] 0=o:=⟨_,rfl⟩
   rw [ho] at hN
   cases o with
   |none =>
    repeat' (first|(apply nx;with_reducible constructor)|refine jq (by decide) ?_|((first|refine kz env fun Q hQ=>?_|refine kj fun Q hQ=>?_);simp only [vkt,seval,yj,Qp,qI,qa,qb,qx,qg,mTk,qd,qm,qp,qy,mvL,mdS,za,Z7,Qh,List.length_map,List.map_nil,d1,w1,hok,ho,Option.getD_none,Option.isSome_none,Option.map_none];(try simp only [ite_and]);(repeat' (first|with_reducible assumption|refine And.intro ?_ ?_|intro hp));all_goals (first|(refine hQ _ ?_;clear hQ Q)|(refine hQ _ (fun h=>?_) (fun h=>?_) <;> clear hQ Q <;> (try simp only [vki,reduceCtorEq] at h))|(refine kx ?_;kernel_rfl)|omega|assumption|with_reducible rfl|skip)))
    refine ⟨⟨k+1,hk3,fun j hj=>?_⟩,by show 3 - (k+1) < 3 - k;omega, ?_⟩
    ·rcases Nat.lt_or_eq_of_le (Nat.le_of_lt_succ hj) with h1|h1
     ·exact hno j h1
     ·rw [h1];exact hN
    ·(refine Le.ok some [] ?_;constructor;all_goals (try simp only [vle,vkt,seval,yj,Qp,qI,qa,qb,qx,qg,mTk,qd,qm,qp,qy,mvL,mdS,za,Z7,Qh,List.length_map,List.map_nil]))
     all_goals first|rfl|(simp;done)
   |some t =>
    rw [Qaf h0 (fsr hno hk3 hN)]
    repeat' (first|(apply nx;with_reducible constructor)|refine jq (by decide) ?_|((first|refine kz env fun Q hQ=>?_|refine kj fun Q hQ=>?_);simp only [vkt,seval,yj,Qp,qI,qa,qb,qx,qg,mTk,qd,qm,qp,qy,mvL,mdS,za,Z7,Qh,List.length_map,List.map_nil,d1,w1,hok,ho,Option.getD_some,Option.isSome_some,Option.map_some];(try simp only [ite_and]);(repeat' (first|with_reducible assumption|refine And.intro ?_ ?_|intro hp));all_goals (first|(refine hQ _ ?_;clear hQ Q)|(refine hQ _ (fun h=>?_) (fun h=>?_) <;> clear hQ Q <;> (try simp only [vki,reduceCtorEq] at h))|(refine kx ?_;kernel_rfl)|omega|assumption|with_reducible rfl|skip)))
    (simp only [vrt,Tryz.results23,vkt,seval,yj,Qp,qI,qa,qb,qx,qg,mTk,qd,qm,qp,qy,mvL,mdS,za,Z7,Qh,List.length_map,List.map_nil];refine Fin.val rfl ?_;(try simp only [AV.le,AV.leL]))
    all_goals first|rfl|(simp;done)
  ·have d1:decide ((k:Int) < 3)=false:=decide_eq_false (by omega)
   rw [LX h0 (QaW (fun j hj=>hno j (by omega)))]
   repeat' (first|(apply nx;with_reducible constructor)|refine jq (by decide) ?_|((first|refine kz env fun Q hQ=>?_|refine kj fun Q hQ=>?_);simp only [vkt,seval,yj,Qp,qI,qa,qb,qx,qg,mTk,qd,qm,qp,qy,mvL,mdS,za,Z7,Qh,List.length_map,List.map_nil,d1];(try simp only [ite_and]);(repeat' (first|with_reducible assumption|refine And.intro ?_ ?_|intro hp));all_goals (first|(refine hQ _ ?_;clear hQ Q)|(refine hQ _ (fun h=>?_) (fun h=>?_) <;> clear hQ Q <;> (try simp only [vki,reduceCtorEq] at h))|(refine kx ?_;kernel_rfl)|omega|assumption|with_reducible rfl|skip)))
   (simp only [vrt,Tryz.results23,vkt,seval,yj,Qp,qI,qa,qb,qx,qg,mTk,qd,qm,qp,qy,mvL,mdS,za,Z7,Qh,List.length_map,List.map_nil];refine Fin.val rfl ?_;(try simp only [AV.le,AV.leL]))
   all_goals first|rfl|(simp;done)
 ·have env:Env (fun _=>True) Tryz.prog tyB (tab [(50,fnE za)]):=qL ⟨XB,trivial⟩
  refine Fn.of (A:=fun _=>True) (n0:=0) (D:=noD) (Fn0 Tryz.func23 rfl (fun vs w=>by kernel_rfl) (by kernel_rfl)) (by simp) (by simp [AV.ids,AV.idsL,qa,qb,qx,qg]) (fun i o h=>by cases h) (fun _ _ _ _=>trivial) qF ?_
  rw [show wV c a=([],zw c a) by unfold wV;rw [if_pos (by simpa using h0)]]
  repeat' (first|(apply nx;with_reducible constructor)|refine jq (by decide) ?_|((first|refine kz env fun Q hQ=>?_|refine kj fun Q hQ=>?_);simp only [vkt,seval,yj,Qp,qI,qa,qb,qx,qg,mTk,qd,qm,qp,qy,mvL,mdS,za,Z7,Qh,List.length_map,List.map_nil,ec,ea,h0];(try simp only [ite_and]);(repeat' (first|with_reducible assumption|refine And.intro ?_ ?_|intro hp));all_goals (first|(refine hQ _ ?_;clear hQ Q)|(refine hQ _ (fun h=>?_) (fun h=>?_) <;> clear hQ Q <;> (try simp only [vki,reduceCtorEq] at h))|(refine kx ?_;kernel_rfl)|omega|assumption|with_reducible rfl|skip)))
  (simp only [vrt,Tryz.results23,vkt,seval,yj,Qp,qI,qa,qb,qx,qg,mTk,qd,qm,qp,qy,mvL,mdS,za,Z7,Qh,List.length_map,List.map_nil];refine Fin.val rfl ?_;(try simp only [AV.le,AV.leL]))
  all_goals first|rfl|(simp;done)
theorem KR {cs:List Cabin} {a:Ask}:∀ (m:Nat) (sold:List Tk) (begun:List Bunk),∀ x ∈ wU cs a m sold begun,x.1.length=begun.length+m
 |0,sold,begun,x,hx=>by
  simp only [wU,List.mem_singleton] at hx
  subst hx;rfl
 |m+1,sold,begun,x,hx=>by
  rw [Zf,List.mem_flatMap] at hx
  obtain ⟨b,hb,hx⟩:=hx
  unfold gbL at hx
  split at hx
  ·rw [KR m _ _ x hx];simp;omega
  ·simp at hx
theorem QjP {c:Chart} {a:Ask} (h:a.sexes.length=1) {j:Nat} (hj:j < (plP c a).length):((plP c a).getD j default).1=[((plP c a).getD j default).1.getD 0 default]:=by
 have:=KR a.sexes.length c.sold [] _ (yB (l:=plP c a) (d:=default) hj)
 rw [h] at this
 generalize ((plP c a).getD j default).1=l at this ⊢
 match l,this with
 |[b],_=>rfl
theorem Wt (c:Chart) (a:Ask) (s:Int):(ku c a s).length=(plP c (Kr a s)).length:=by simp [ku]
theorem Qbm {c:Chart} {a:Ask} {s:Int} {j:Nat} (hj:j < (plP c (Kr a s)).length):(ku c a s).getD j default=((plP c (Kr a s)).getD j default).1.getD 0 default:=by
 simp [ku,List.getD_eq_getElem?_getD,hj]
def opR (c:Chart) (a:Ask) (s:Int) (j:Nat):List (List DV):=((ku c a s).take j).map qo
theorem Qho {c:Chart} {a:Ask} {s:Int} {j:Nat} (hj:j < (plP c (Kr a s)).length):opR c a s (j+1)=opR c a s j++[qo (((plP c (Kr a s)).getD j default).1.getD 0 default)]:=by
 unfold opR
 rw [← Qbm hj,List.take_succ_eq_append_getElem (by rw [Wt];exact hj),List.map_append]
 simp [List.getD_eq_getElem?_getD,show j < (ku c a s).length by rw [Wt];exact hj]
theorem wJ (c:Chart) (a:Ask) (s:Int) (j:Nat):zJ 2 (opR c a s j)=True:=by
 unfold opR
 exact qO _
theorem KW (c:Chart) (a:Ask) (k:Nat):(ZG c a k).length=k:=by simp [ZG]
theorem QeB (c:Chart) (a:Ask):(Jt c a).length=(a.to - a.frm).toNat:=KW _ _ _
theorem QeD {c:Chart} {a:Ask} {i:Nat} (hi:i < (a.to - a.frm).toNat) (h:ku c a (a.frm+i)=[]):(Jt c a).any (·.isEmpty)=true:=by
 rw [List.any_eq_true]
 refine ⟨_,List.mem_map.2 ⟨i,List.mem_range.2 hi,rfl⟩, ?_⟩
 show (ku c a (a.frm+i)).isEmpty=true
 rw [h];rfl
theorem Qev {c:Chart} {a:Ask} (h:∀ i,i < (a.to - a.frm).toNat→ku c a (a.frm+i) ≠ []):(Jt c a).any (·.isEmpty)=false:=by
 rw [List.any_eq_false]
 intro l hl
 obtain ⟨i,hi,rfl⟩:=List.mem_map.1 hl
 have:=h i (List.mem_range.1 hi)
 simpa using this
theorem UB {c:Chart} {a:Ask} (h:zw c a=0):0≤a.frm∧a.frm < a.to∧a.to≤c.secs:=by
 have hk:=(yK h).2
 unfold vK at hk
 split at hk
 ·exact absurd hk (by decide)
 split at hk
 ·exact absurd hk (by decide)
 split at hk
 ·exact absurd hk ‹_›
 rename_i h3
 exact UC (Decidable.not_not.1 h3)
theorem L8 {c:Chart} {a:Ask} (h:zw c a=0) (s:Int):PlOk c (Kr a s):=⟨(Zx h).val,(Zx h).sx⟩
theorem BhOk.mono {L:List (List Bunk)} {es:List (Value × Value)} {i j:Nat} (h:BhOk L es i) (hij:i≤j):BhOk L es j:=⟨h.ok,fun k h1 h2=>h.look k (by omega) h2⟩
theorem QdR {c:Chart} {a:Ask} (h:zw c a=0):∀ l ∈ Jt c a,l.length≤1000:=by
 intro l hl
 obtain ⟨i,hi,rfl⟩:=List.mem_map.1 hl
 rw [Wt]
 have:=UJ (L8 h (a.frm+i))
 omega
def chC (L:List (List Bunk)) (k:Nat):Int:=if k=0 then 0 else (y7 L ⟨-1,0⟩).2 - 1
def mks:Nat→List (Nat × AObj)
 |0=>[]
 |k+1=>(20+k,.mark) :: mks k
def dks:Nat→List ADf
 |0=>[]
 |k+1=>.mark (20+k) :: dks k
def chT (s:Int):List (Nat × AV):=[(3,.ptr 1 0),(4,.nil),(5,aI 0),(6,aI 0),(7,.ptr 2 0),(8,.ptr 4 0),(9,aI s)]
def chS (c:Chart) (a:Ask) (i:Nat):St:={ t:=asg (chT (a.frm+i)),h:=qj ([(1,.cells (qg a)),(2,qm c.cabins c.secs 3),(3,qp c.sold),(4,.cells [.row 5]),(5,.row 44 1 ((ZG c a i).map qA))]++mks i),n:=25,d:=dks i }
def crL0 (s:Int):List (Nat × AV):=chT s++[(11,.ptr 26 0),(56,.clo 103 [.ptr 27 0,.ptr 28 0])]
def crL (s:Int):List (Nat × AV):=chT s++[(11,.ptr 26 0)]
def crH (c:Chart) (a:Ask) (T:List (Nat × AObj)) (i j:Nat):List (Nat × AObj):=[(1,.cells (qg a)),(4,.cells [.row 5]),(5,.row 44 1 ((ZG c a i).map qA)),(26,.cells [.row 29]),(29,.row 62 2 (opR c a (a.frm+i) j))]++T
theorem LQ (c:Chart) (a:Ask):zk [2,3,27,28] 31 0 (plL c a)=[(2,qm c.cabins c.secs 3),(3,qp c.sold),(27,.cells [.ptr 2 0]),(28,.cells (qg a))]:=by
 simp [zk,plL,qB,AObj.ren,AV.renL,AV.ren,qm,qp,qg]
theorem U7 (c:Chart) (a:Ask) (j:Nat):zk [2] 31 0 (plH c a j)=[(2,qm c.cabins c.secs 31),(31,qp ((plP c a).getD j default).2)]:=by
 simp [zk,plH,qy,qB,AObj.ren,AV.renL,AV.ren,qm,qp]
def c2O (L:List (List Bunk)) (es:List (Value × Value)):List (Nat × AObj):=[(4,.cells [.row 5]),(5,.row 44 1 (L.map qA)),(25,.map es),(26,.cells [.mp 25])]
def c2T:List (Nat × AV):=[(4,.nil),(5,aI 0),(6,aI 0),(8,.ptr 4 0),(13,.ptr 26 0),(14,.clo 72 [.ptr 4 0,.ptr 26 0])]
def c2S (T:List (Nat × AObj)) (D:List ADf) (L:List (List Bunk)) (es:List (Value × Value)) (y:Nat):St:={ t:=asg (c2T++[(15,aI ((y:Int) - 1))]),h:=qj (c2O L es++T),n:=27,d:=D }
def c3S (T:List (Nat × AObj)) (D:List ADf) (L:List (List Bunk)) (es:List (Value × Value)) (A:Nat) (l:List Bunk) (k:Nat):St:={ t:=asg (c2T++[(15,aI (A:Nat)),(83,qc l),(84,aI l.length),(85,aI k)]),h:=qj (c2O L es++T),n:=27,d:=D }
def c4S (T:List (Nat × AObj)) (D:List ADf) (L:List (List Bunk)) (es:List (Value × Value)) (k:Nat):St:={ t:=asg [(4,.row 27),(5,aI (chC L k)),(6,aI 0),(8,.ptr 4 0),(13,.ptr 26 0),(14,.clo 72 [.ptr 4 0,.ptr 26 0]),(103,aI L.length),(104,aI k)],h:=qj (c2O L es++(27,.row 62 2 ((wkK L k).map qo)) :: T),n:=28,d:=D }
def qP:=kk @ty3 (kk @ty4 (kk @yc (kk @Qe (kk @QM (kk @QbK (kk @Zc (kk @WQ (kk @xJ (kk @Qjw (kk @Qjg (kk @ti3.eq_1 (kk @ti4.eq_1 (kk @jM.eq_1 (kk @x8.eq_1 (kk @Qb.eq_1 (kk @Kt.eq_1 (kk @QA.eq_1 (kk @ZO.eq_1 (kk @vZ.eq_1 (kk @Qat.eq_1 @QaS.eq_1))))))))))))))))))))
def zP:=kk @aI.eq_1 (kk @aB.eq_1 (kk @fnQ.eq_1 (kk @Qfw.eq_1 (kk @Qfw.eq_2 (@QT)))))
set_option maxHeartbeats 40000000 in
theorem QeM (c:Chart) (a:Ask) (hc:c.cabins.length≤maxLen) (ha:a.sexes.length≤maxLen):FnV Tryz.prog 27 [qa c,qx a] (.tup [qc (Zz c a).1,aI (Zz c a).2.1,aI (Zz c a).2.2]):=by
 have env:Env (fun F=>F.r=none) Tryz.prog tyB (tab [(50,fnE za),(52,fnE qK),(72,fnQ vS)]):=qL ⟨XB,V5,eNx1,trivial⟩
 refine Fn.of (A:=fun F=>F.r=none) (n0:=0) (D:=noD) (Fn0 Tryz.func27 rfl (fun vs w=>by kernel_rfl) (by kernel_rfl)) (by simp) (by simp [AV.ids,AV.idsL,qa,qb,qx,qg]) (fun i o h=>by cases h) (fun _ _ _ h=>h) qF ?_
 have ec:(⟨c.cabins,c.secs,c.sold⟩:Chart)=c:=rfl
 have ea:(⟨a.party,a.frm,a.to,a.sexes,a.dog⟩:Ask)=a:=rfl
 unfold Zz
 by_cases h0:zw c a=0
 ·rw [if_neg (by simpa using h0)]
  by_cases h1:1 < a.sexes.length
  ·rw [if_pos h1]
   have d1:decide ((1:Int) < (a.sexes.length:Int))=true:=decide_eq_true (by omega)
   repeat' (first|(apply nx;with_reducible constructor)|refine jq (by decide) ?_|((first|refine kz env fun Q hQ=>?_|refine kj fun Q hQ=>?_);simp only [vkt,seval,qP,zP,qf,qc,qo,qA,qD,qH,qO,qG,qa,qb,qx,qg,mTk,qd,qm,qp,qy,plL,za,qK,vS,nxL,wK,chT,chS,crL,c2O,c2T,c2S,c3S,c4S,wJ,List.length_map,nth,hwL,Nat.zero_add,Nat.sub_zero,ec,ea,h0,d1];(try simp only [ite_and]);(repeat' (first|with_reducible assumption|refine And.intro ?_ ?_|intro hp));all_goals (first|(refine hQ _ ?_;clear hQ Q)|(refine hQ _ (fun h=>?_) (fun h=>?_) <;> clear hQ Q <;> (try simp only [vki,reduceCtorEq] at h))|(refine kx ?_;kernel_rfl)|omega|assumption|with_reducible rfl|skip)))
   (simp only [vrt,Tryz.results27,vkt,seval,qP,zP,qf,qc,qo,qA,qD,qH,qO,qG,qa,qb,qx,qg,mTk,qd,qm,qp,qy,plL,za,qK,vS,nxL,wK,chT,chS,crL,c2O,c2T,c2S,c3S,c4S,wJ,List.length_map,nth,hwL,Nat.zero_add,Nat.sub_zero];refine Fin.val rfl ?_;(try simp only [AV.le,AV.leL]))
   all_goals first|rfl|(simp;done)
  rw [if_neg h1]
  have d1:decide ((1:Int) < (a.sexes.length:Int))=false:=decide_eq_false (by omega)
  cases hd:a.dog with
  |true =>
   rw [hd] at ea
   repeat' (first|(apply nx;with_reducible constructor)|refine jq (by decide) ?_|((first|refine kz env fun Q hQ=>?_|refine kj fun Q hQ=>?_);simp only [vkt,seval,qP,zP,qf,qc,qo,qA,qD,qH,qO,qG,qa,qb,qx,qg,mTk,qd,qm,qp,qy,plL,za,qK,vS,nxL,wK,chT,chS,crL,c2O,c2T,c2S,c3S,c4S,wJ,List.length_map,nth,hwL,Nat.zero_add,Nat.sub_zero,ec,ea,h0,d1,hd];(try simp only [ite_and]);(repeat' (first|with_reducible assumption|refine And.intro ?_ ?_|intro hp));all_goals (first|(refine hQ _ ?_;clear hQ Q)|(refine hQ _ (fun h=>?_) (fun h=>?_) <;> clear hQ Q <;> (try simp only [vki,reduceCtorEq] at h))|(refine kx ?_;kernel_rfl)|omega|assumption|with_reducible rfl|skip)))
   (simp only [vrt,Tryz.results27,vkt,seval,qP,zP,qf,qc,qo,qA,qD,qH,qO,qG,qa,qb,qx,qg,mTk,qd,qm,qp,qy,plL,za,qK,vS,nxL,wK,chT,chS,crL,c2O,c2T,c2S,c3S,c4S,wJ,List.length_map,nth,hwL,Nat.zero_add,Nat.sub_zero];refine Fin.val rfl ?_;(try simp only [AV.le,AV.leL]))
   all_goals first|rfl|(simp;done)
  |false =>
   rw [if_neg (by decide)]
   have hone:a.sexes.length=1:=by have:=(Qc5 (yK h0).2).2;omega
   have hway:=UB h0
   have hsec:=(Zx h0).val.car.secs
   obtain ⟨M,hM⟩:∃ M,(a.to - a.frm).toNat=M:=⟨_,rfl⟩
   have ea':=ea
   rw [hd] at ea'
   repeat' (first|(apply nx;with_reducible constructor)|refine jq (by decide) ?_|((first|refine kz env fun Q hQ=>?_|refine kj fun Q hQ=>?_);simp only [vkt,seval,qP,zP,qf,qc,qo,qA,qD,qH,qO,qG,qa,qb,qx,qg,mTk,qd,qm,qp,qy,plL,za,qK,vS,nxL,wK,chT,chS,crL,c2O,c2T,c2S,c3S,c4S,wJ,List.length_map,nth,hwL,Nat.zero_add,Nat.sub_zero,ec,ea',h0,d1,hd];(try simp only [ite_and]);(repeat' (first|with_reducible assumption|refine And.intro ?_ ?_|intro hp));all_goals (first|(refine hQ _ ?_;clear hQ Q)|(refine hQ _ (fun h=>?_) (fun h=>?_) <;> clear hQ Q <;> (try simp only [vki,reduceCtorEq] at h))|(refine kx ?_;kernel_rfl)|omega|assumption|with_reducible rfl|skip)))
   refine qN (fun i:{ i:Nat // i≤M∧∀ j,j < i→ku c a (a.frm+j) ≠ [] }=>chS c a i.1) (fun i=>M - i.1) ⟨0,Nat.zero_le _,fun j h=>absurd h (Nat.not_lt_zero _)⟩ ?_ fun ⟨i,hi,hno⟩=>?_
   ·show Le _ { t:=asg (chT (a.frm+(0:Nat))),h:=qj [(1,.cells (qg a)),(2,qm c.cabins c.secs 3),(3,qp c.sold),(4,.cells [.row 5]),(5,.row 44 1 [])],n:=25 }
    (refine Le.ok (fun i=>if i=5 then none else some i) [] ?_;constructor;all_goals (try simp only [vle,vkt,seval,qP,zP,qf,qc,qo,qA,qD,qH,qO,qG,qa,qb,qx,qg,mTk,qd,qm,qp,qy,plL,za,qK,vS,nxL,wK,chT,chS,crL,c2O,c2T,c2S,c3S,c4S,wJ,List.length_map,nth,hwL,Nat.zero_add,Nat.sub_zero]))
    all_goals first|rfl|(simp [hd,ZG,qg,AV.leL,AV.le,AV.idsL,AV.ids];done)|(intro i hi;rw [if_neg (by omega)];done)
   simp only at hi hno ⊢
   by_cases hlt:i < M
   ·have hi5:i=0∨i=1∨i=2∨i=3∨i=4:=by omega
    rcases hi5 with hi5|hi5|hi5|hi5|hi5
    all_goals
     have hmk:=congrArg mks hi5
     have hdk:=congrArg dks hi5
     simp only [mks,dks,Nat.reduceAdd] at hmk hdk
     have w1:IntKind.wrap .i64 (a.frm+(i:Int)+1)=a.frm+(i:Int)+1:=wrap64 (by omega) (by omega)
     obtain ⟨s,hs⟩:∃ s,a.frm+(i:Int)=s:=⟨_,rfl⟩
     have hoa:(⟨a.party,s,s+1,a.sexes,a.dog⟩:Ask)=Kr a s:=rfl
     have dlt:decide (s < a.to)=true:=decide_eq_true (by omega)
     rw [hs] at w1
     have hpo:=L8 h0 s
     unfold chS
     rw [hmk,hdk]
     repeat' (first|(apply nx;with_reducible constructor)|refine jq (by decide) ?_|((first|refine kz env fun Q hQ=>?_|refine kj fun Q hQ=>?_);simp only [vkt,seval,qP,zP,qf,qc,qo,qA,qD,qH,qO,qG,qa,qb,qx,qg,mTk,qd,qm,qp,qy,plL,za,qK,vS,nxL,wK,chT,chS,crL,c2O,c2T,c2S,c3S,c4S,wJ,List.length_map,nth,hwL,Nat.zero_add,Nat.sub_zero,hs,w1,dlt,List.cons_append,List.nil_append];(try simp only [ite_and]);(repeat' (first|with_reducible assumption|refine And.intro ?_ ?_|intro hp));all_goals (first|(refine hQ _ ?_;clear hQ Q)|(refine hQ _ (fun h=>?_) (fun h=>?_) <;> clear hQ Q <;> (try simp only [vki,reduceCtorEq] at h))|(refine kx ?_;kernel_rfl)|omega|assumption|with_reducible rfl|skip)))
     obtain ⟨o,ho⟩:∃ o,Kr a s=o:=⟨_,rfl⟩
     rw [ho] at hpo hoa
     have hbd:=UJ hpo
     have hm:(729:Nat)+1≤maxLen:=by decide
     obtain ⟨N,hN⟩:∃ N,(plP c o).length=N:=⟨_,rfl⟩
     rw [hN] at hbd
     have hoc:qg o=[.v (.int .i64 a.party),.v (.int .i64 s),.v (.int .i64 (s+1)),.sl (a.sexes.map zF),.v (.bool a.dog)]:=by rw [← ho];rfl
     refine kY (S':={ t:=asg (crL0 s),h:=qj (crH c a (mks i) i 0++[(2,qm c.cabins c.secs 3),(3,qp c.sold),(27,.cells [.ptr 2 0]),(28,.cells (qg o))]),n:=30,j:=0,d:=dks i,m:=0 }) ?_ ?_
     ·show Le _ { t:=asg [(3,.ptr 1 0),(4,.nil),(5,aI 0),(6,aI 0),(7,.ptr 2 0),(8,.ptr 4 0),(9,aI s),(11,.ptr 26 0),(56,.clo 103 [.ptr 27 0,.ptr 28 0])],h:=qj (([(1,.cells (qg a)),(4,.cells [.row 5]),(5,.row 44 1 ((ZG c a i).map qA)),(26,.cells [.row 29]),(29,.row 62 2 [])]++mks i)++[(2,qm c.cabins c.secs 3),(3,qp c.sold),(27,.cells [.ptr 2 0]),(28,.cells (qg o))]),n:=30,j:=0,d:=dks i,m:=0 }
      rw [hoc,hmk,hdk]
      simp only [List.cons_append,List.nil_append]
      (refine Le.ok (fun i=>if i=29 then none else some i) [] ?_;constructor;all_goals (try simp only [vle,vkt,seval,qP,zP,qf,qc,qo,qA,qD,qH,qO,qG,qa,qb,qx,qg,mTk,qd,qm,qp,qy,plL,za,qK,vS,nxL,wK,chT,chS,crL,c2O,c2T,c2S,c3S,c4S,wJ,List.length_map,nth,hwL,Nat.zero_add,Nat.sub_zero]))
      all_goals first|rfl|(simp [hd,AV.leL,AV.le,AV.idsL,AV.ids];done)|(intro i hi;rw [if_neg (by omega)];done)|(simp [ADf.le,ADf.ids];done)
     rw [← LQ c o]
     refine xY (fun F h=>h) 1 (L:=crL0 s) (L':=crL s) (xs:=[3,27,28]) (hs:=[2,3,27,28]) (n:=30) (nl:=1) (hc:=crH c a (mks i) i) (Lp:=plL c o) (jj:=fun _=>0) (d:=dks i) (ys:=plY c o) (hl:=plH c o) (ans:=fun _=>true) (ex:=.ret) (caps:=[.ptr 27 0,.ptr 28 0]) (caps0:=[.ptr 2 0,.ptr 3 0]) (N:=(plP c o).length) (R:=N) (A':=fun _ _=>True) rfl (JU hpo) (by rw [hN];exact R7) (.inl rfl) ?_ ?_ ?_ rfl (by simp) ?_ (by simp) (fun _ _ _ _ _ _=>trivial) ?_ ?_ ?_ ?_ ?_ ?_ (fun j hj=>?_) ?_ (fun j hj=>?_) (fun _=>?_) (fun _ h=>by cases h)
     ·simp [AV.leL,AV.le]
     ·simp [AV.nocbL,AV.nocb]
     ·simp [J4,plL,qm,qp,qg,AObj.nocb,AV.nocbL,AV.nocb,AObj.ids,AV.ids,AV.idsL,AObj.ren,AV.renL,AV.ren,AObj.le,AV.leL,AV.le,qB]
     ·simp [crH,qj,hmk]
     ·simp [crH,qj,hmk]
     ·simp [crH,AObj.ids,AV.ids,AV.idsL,qg,hmk]
     ·simp [LP,crL,crL0,chT,asg,upd]
     ·simp [Qbd]
     ·intro j hj
      simp [absent,crH,U7,hmk]
     ·simp [Vt,crL,chT,AV.ids,aI]
     ·refine ⟨?_,rfl, ?_, ?_,rfl, ?_⟩
      ·simp [Zp,crH,AObj.ids,AV.ids,AV.idsL,qg,hmk]
      ·simp [Js,plH,qy,qm,qp,AObj.nocb,AV.nocbL,AV.nocb,AObj.ids,AV.ids,AV.idsL]
      ·simp [Xe,plY,qc,AV.nocb,AV.ids]
      ·simp [Zk,J3,U7,crH,crL,chT,Qf,AV.ids,ADf.ids,List.range_succ,aI,hmk,hdk]
     ·simp [Zp,crH,AObj.ids,AV.ids,AV.idsL,qg,hmk]
     ·have env:Env (fun _:Frm=>True) Tryz.prog tyB (tab []):=qL trivial
      have hjl:j < (plP c (Kr a (a.frm+i))).length:=by rw [hs,ho];omega
      have h1x:((plP c o).getD j default).1=[((plP c o).getD j default).1.getD 0 default]:=QjP (by rw [← ho];exact hone) (by omega)
      have hS:=Qho hjl
      rw [hs,ho] at hS
      obtain ⟨b,hb⟩:∃ b,((plP c o).getD j default).1.getD 0 default=b:=⟨_,rfl⟩
      rw [hb] at h1x hS
      have hl:(opR c a s j).length≤729:=by
       unfold opR
       rw [List.length_map,List.length_take]
       omega
      have hl1:(opR c a s j).length+1≤maxLen:=by omega
      obtain ⟨r,hr⟩:∃ r,((plP c o).getD j default).2=r:=⟨_,rfl⟩
      have hst:ym (crL s) [57] [2] 30 1 (plY c o j) (crH c a (mks i) i j) (plH c o j)={ t:=asg [(57,qc [b]),(3,.ptr 1 0),(4,.nil),(5,aI 0),(6,aI 0),(7,.ptr 2 0),(8,.ptr 4 0),(9,aI s),(11,.ptr 26 0)],h:=qj ((30,.mark) :: ([(1,.cells (qg a)),(4,.cells [.row 5]),(5,.row 44 1 ((ZG c a i).map qA)),(26,.cells [.row 29]),(29,.row 62 2 (opR c a s j))]++mks i++[(2,qm c.cabins c.secs 31),(31,qp r)])),n:=32,m:=32 }:=by
       simp only [ym,Nat.reduceAdd,U7,plY,h1x,hr,hs,qc,List.map_cons,List.map_nil,AV.ren,List.zip_cons_cons,List.zip_nil_right,crH,crL,chT,We,List.cons_append,List.nil_append,List.append_assoc]
       rfl
      show Sym _ _ _ (ym (crL s) [57] [2] 30 1 (plY c o j) (crH c a (mks i) i j) (plH c o j)) _
      rw [hst,hmk]
      simp only [List.cons_append,List.nil_append]
      repeat' (first|(apply nx;with_reducible constructor)|refine jq (by decide) ?_|((first|refine kz env fun Q hQ=>?_|refine kj fun Q hQ=>?_);simp only [vkt,seval,qP,zP,qf,qc,qo,qA,qD,qH,qO,qG,qa,qb,qx,qg,mTk,qd,qm,qp,qy,plL,za,qK,vS,nxL,wK,chT,chS,crL,c2O,c2T,c2S,c3S,c4S,wJ,List.length_map,nth,hwL,Nat.zero_add,Nat.sub_zero,hl1,List.getD_cons_zero];(try simp only [ite_and]);(repeat' (first|with_reducible assumption|refine And.intro ?_ ?_|intro hp));all_goals (first|(refine hQ _ ?_;clear hQ Q)|(refine hQ _ (fun h=>?_) (fun h=>?_) <;> clear hQ Q <;> (try simp only [vki,reduceCtorEq] at h))|(refine kx ?_;kernel_rfl)|omega|assumption|with_reducible rfl|skip)))
      refine ⟨rfl,rfl,(fun i=>if i=29 then some 33 else some i),_,RFin.okQ (fun i=>if i=29 then some 33 else some i) [] ?_⟩
      constructor
      all_goals (try simp only [vle,kV,kC,qB,plH,crH,hr,hs,hS,hmk,hdk,List.cons_append,List.nil_append,vkt,seval,qP,zP,qf,qc,qo,qA,qD,qH,qO,qG,qa,qb,qx,qg,mTk,qd,qm,qp,qy,plL,za,qK,vS,nxL,wK,chT,chS,crL,c2O,c2T,c2S,c3S,c4S,wJ,List.length_map,nth,hwL,Nat.zero_add,Nat.sub_zero])
      all_goals first|rfl|(simp;done)|(simp [crL,chT,Qf,AV.ids,ADf.ids,List.range_succ,aI];done)|(simp [qg,AV.leL,AV.le];done)
     ·have eh:qj ((30,AObj.mark) :: crH c a (mks i) i N++zk [2,3,27,28] (30+1) 0 (plL c o))=qj ((30,.mark) :: ([(1,.cells (qg a)),(4,.cells [.row 5]),(5,.row 44 1 ((ZG c a i).map qA)),(26,.cells [.row 29]),(29,.row 62 2 (opR c a s N))]++mks i++[(2,qm c.cabins c.secs 3),(3,qp c.sold),(27,.cells [.ptr 2 0]),(28,.cells (qg o))])):=by
       rw [show zk [2,3,27,28] (30+1) 0 (plL c o)=zk [2,3,27,28] 31 0 (plL c o) from rfl,LQ,← hs];rfl
      rw [eh,hmk,hdk]
      simp only [List.cons_append,List.nil_append]
      have hNl:(ku c a s).length=N:=by rw [Wt,ho];exact hN
      have hoN:opR c a s N=(ku c a s).map qo:=by unfold opR;rw [← hNl,List.take_length]
      have hkl:(ZG c a i).length=i:=KW c a i
      have hkm:i+1≤maxLen:=by omega
      have hkS:=QbQ c a i
      rw [hoN]
      rw [hs] at hkS
      by_cases hN0:N=0
      ·have hoe:ku c a s=[]:=List.eq_nil_of_length_eq_zero (by rw [hNl];exact hN0)
       rw [QeD (c:=c) (a:=a) (i:=i) (by omega) (by rw [hs];exact hoe)]
       rw [hoe]
       repeat' (first|(apply nx;with_reducible constructor)|refine jq (by decide) ?_|((first|refine kz env fun Q hQ=>?_|refine kj fun Q hQ=>?_);simp only [vkt,seval,qP,zP,qf,qc,qo,qA,qD,qH,qO,qG,qa,qb,qx,qg,mTk,qd,qm,qp,qy,plL,za,qK,vS,nxL,wK,chT,chS,crL,c2O,c2T,c2S,c3S,c4S,wJ,List.length_map,nth,hwL,Nat.zero_add,Nat.sub_zero];(try simp only [ite_and]);(repeat' (first|with_reducible assumption|refine And.intro ?_ ?_|intro hp));all_goals (first|(refine hQ _ ?_;clear hQ Q)|(refine hQ _ (fun h=>?_) (fun h=>?_) <;> clear hQ Q <;> (try simp only [vki,reduceCtorEq] at h))|(refine kx ?_;kernel_rfl)|omega|assumption|with_reducible rfl|skip)))
       (simp only [vrt,Tryz.results27,vkt,seval,qP,zP,qf,qc,qo,qA,qD,qH,qO,qG,qa,qb,qx,qg,mTk,qd,qm,qp,qy,plL,za,qK,vS,nxL,wK,chT,chS,crL,c2O,c2T,c2S,c3S,c4S,wJ,List.length_map,nth,hwL,Nat.zero_add,Nat.sub_zero];refine Fin.val rfl ?_;(try simp only [AV.le,AV.leL]))
       all_goals first|rfl|(simp;done)
      ·have d2:decide ((N:Int)=0)=false:=decide_eq_false (by omega)
       repeat' (first|(apply nx;with_reducible constructor)|refine jq (by decide) ?_|((first|refine kz env fun Q hQ=>?_|refine kj fun Q hQ=>?_);simp only [vkt,seval,qP,zP,qf,qc,qo,qA,qD,qH,qO,qG,qa,qb,qx,qg,mTk,qd,qm,qp,qy,plL,za,qK,vS,nxL,wK,chT,chS,crL,c2O,c2T,c2S,c3S,c4S,wJ,List.length_map,nth,hwL,Nat.zero_add,Nat.sub_zero,hNl,d2,hkl,hkm,w1];(try simp only [ite_and]);(repeat' (first|with_reducible assumption|refine And.intro ?_ ?_|intro hp));all_goals (first|(refine hQ _ ?_;clear hQ Q)|(refine hQ _ (fun h=>?_) (fun h=>?_) <;> clear hQ Q <;> (try simp only [vki,reduceCtorEq] at h))|(refine kx ?_;kernel_rfl)|omega|assumption|with_reducible rfl|skip)))
       refine ⟨⟨i+1,hlt,fun j hj=>?_⟩,by show M - (i+1) < M - i;omega, ?_⟩
       ·rcases Nat.lt_or_eq_of_le (Nat.le_of_lt_succ hj) with h3|h3
        ·exact hno j h3
        ·subst h3;rw [hs];intro h4;rw [h4] at hNl;exact hN0 hNl.symm
       ·have hs1:a.frm+((i+1:Nat):Int)=s+1:=by omega
        show Le _ (chS c a (i+1))
        unfold chS
        rw [hkS,hs1]
        simp only [mks,dks,hmk,hdk,hi5,Nat.reduceAdd,List.cons_append,List.nil_append]
        refine Le.ok (fun k=>if k=5 then some 32 else if k=20+i then some 30 else some k) [] ?_
        constructor
        all_goals (try simp only [hi5,Nat.reduceAdd,vle,vkt,seval,qP,zP,qf,qc,qo,qA,qD,qH,qO,qG,qa,qb,qx,qg,mTk,qd,qm,qp,qy,plL,za,qK,vS,nxL,wK,chT,chS,crL,c2O,c2T,c2S,c3S,c4S,wJ,List.length_map,nth,hwL,Nat.zero_add,Nat.sub_zero])
        all_goals first|rfl|(simp;done)|(simp [ADf.le,ADf.ids];done)
   ·have hie:i=M:=by omega
    subst hie
    have hns:(Jt c a).any (·.isEmpty)=false:=Qev (fun i hi=>hno i (by omega))
    rw [hns]
    have hLl:(Jt c a).length=i:=by rw [QeB];exact hM
    have hLe:ZG c a i=Jt c a:=by rw [← hM];rfl
    have hea:=QdR h0
    obtain ⟨L,hL⟩:∃ L,Jt c a=L:=⟨_,rfl⟩
    rw [hL] at hLl hLe hea ⊢
    have hmx:(100000:Nat)≤maxLen:=by decide
    have hi5:i=1∨i=2∨i=3∨i=4∨i=5:=by omega
    have dlt:decide (a.frm+(i:Int) < a.to)=false:=decide_eq_false (by omega)
    have w2:IntKind.wrap .i64 ((i:Int) - 2)=((i - 1:Nat):Int) - 1:=by rw [wrap64 (by omega) (by omega)];omega
    rcases hi5 with hi5|hi5|hi5|hi5|hi5
    all_goals
     have hmk:=congrArg mks hi5
     have hdk:=congrArg dks hi5
     simp only [mks,dks,Nat.reduceAdd] at hmk hdk
     unfold chS
     rw [hmk,hdk,hLe]
     simp only [List.cons_append,List.nil_append]
     repeat' (first|(apply nx;with_reducible constructor)|refine jq (by decide) ?_|((first|refine kz env fun Q hQ=>?_|refine kj fun Q hQ=>?_);simp only [vkt,seval,qP,zP,qf,qc,qo,qA,qD,qH,qO,qG,qa,qb,qx,qg,mTk,qd,qm,qp,qy,plL,za,qK,vS,nxL,wK,chT,chS,crL,c2O,c2T,c2S,c3S,c4S,wJ,List.length_map,nth,hwL,Nat.zero_add,Nat.sub_zero,dlt,hLl,w2];(try simp only [ite_and]);(repeat' (first|with_reducible assumption|refine And.intro ?_ ?_|intro hp));all_goals (first|(refine hQ _ ?_;clear hQ Q)|(refine hQ _ (fun h=>?_) (fun h=>?_) <;> clear hQ Q <;> (try simp only [vki,reduceCtorEq] at h))|(refine kx ?_;kernel_rfl)|omega|assumption|with_reducible rfl|skip)))
     refine qN (fun y:{ y:Nat × List (Value × Value) // y.1 < i∧BhOk L y.2 y.1∧y.2.length≤1000 * (i - y.1) }=>c2S (mks i) (dks i) L y.1.2 y.1.1) (fun y=>y.1.1) ⟨(i - 1,[]),by omega,by rw [← hLl];exact QjW L,Nat.zero_le _⟩ ?_ fun ⟨(y,es),hy,hB,hel⟩=>?_
     ·simp only [c2S,hmk,hdk,c2O,c2T,List.cons_append,List.nil_append]
      (refine Le.ok some [] ?_;constructor;all_goals (try simp only [vle,vkt,seval,qP,zP,qf,qc,qo,qA,qD,qH,qO,qG,qa,qb,qx,qg,mTk,qd,qm,qp,qy,plL,za,qK,vS,nxL,wK,chT,chS,crL,c2O,c2T,c2S,c3S,c4S,wJ,List.length_map,nth,hwL,Nat.zero_add,Nat.sub_zero]))
      all_goals first|rfl|(simp [ADf.le,ADf.ids];done)
     simp only at hy hB hel ⊢
     simp only [c2S,hmk,hdk,c2O,c2T,List.cons_append,List.nil_append]
     cases y with
     |succ A =>
      have e1:((A+1:Nat):Int) - 1=(A:Int):=by omega
      have d3:decide ((0:Int)≤(A:Int))=true:=decide_eq_true (by omega)
      have hAl:A < L.length:=by omega
      have hg:=V7 hAl
      obtain ⟨l,hl⟩:∃ l,L.getD A []=l:=⟨_,rfl⟩
      rw [hl] at hg
      have hll:l.length≤1000:=hea l (by rw [← hl];exact yB hAl)
      have iA:((A:Int)).toNat=A:=rfl
      rw [e1]
      repeat' (first|(apply nx;with_reducible constructor)|refine jq (by decide) ?_|((first|refine kz env fun Q hQ=>?_|refine kj fun Q hQ=>?_);simp only [vkt,seval,qP,zP,qf,qc,qo,qA,qD,qH,qO,qG,qa,qb,qx,qg,mTk,qd,qm,qp,qy,plL,za,qK,vS,nxL,wK,chT,chS,crL,c2O,c2T,c2S,c3S,c4S,wJ,List.length_map,nth,hwL,Nat.zero_add,Nat.sub_zero,d3,hg,iA,hAl];(try simp only [ite_and]);(repeat' (first|with_reducible assumption|refine And.intro ?_ ?_|intro hp));all_goals (first|(refine hQ _ ?_;clear hQ Q)|(refine hQ _ (fun h=>?_) (fun h=>?_) <;> clear hQ Q <;> (try simp only [vki,reduceCtorEq] at h))|(refine kx ?_;kernel_rfl)|omega|assumption|with_reducible rfl|skip)))
      refine qN (fun z:{ z:Nat × List (Value × Value) // z.1≤l.length∧BhIn L z.2 A z.1∧z.2.length≤1000 * (i - (A+1))+z.1 }=>c3S (mks i) (dks i) L z.1.2 A l z.1.1) (fun z=>l.length - z.1.1) ⟨(0,es),Nat.zero_le _,hB.inn,hel⟩ ?_ fun ⟨(k,es),hk,hI,hel⟩=>?_
      ·simp only [c3S,hmk,hdk,c2O,c2T,List.cons_append,List.nil_append]
       (refine Le.ok some [] ?_;constructor;all_goals (try simp only [vle,vkt,seval,qP,zP,qf,qc,qo,qA,qD,qH,qO,qG,qa,qb,qx,qg,mTk,qd,qm,qp,qy,plL,za,qK,vS,nxL,wK,chT,chS,crL,c2O,c2T,c2S,c3S,c4S,wJ,List.length_map,nth,hwL,Nat.zero_add,Nat.sub_zero]))
       all_goals first|rfl|(simp [ADf.le,ADf.ids];done)
      simp only at hk hI hel ⊢
      simp only [c3S,hmk,hdk,c2O,c2T,List.cons_append,List.nil_append]
      by_cases hkl:k < l.length
      ·have d4:decide ((k:Int) < (l.length:Int))=true:=decide_eq_true (by omega)
       have e9:IntKind.wrap .i64 ((k:Int)+1)=((k+1:Nat):Int):=by rw [wrap64 (by omega) (by omega)];rfl
       have wA:IntKind.wrap .i64 ((A:Int)+1)=((A+1:Nat):Int):=by rw [wrap64 (by omega) (by omega)];rfl
       have iA1:(((A+1:Nat):Int)).toNat=A+1:=rfl
       obtain ⟨b,hb⟩:∃ b,l.getD k default=b:=⟨_,rfl⟩
       have eb:(⟨b.cab,b.bed⟩:Bunk)=b:=rfl
       obtain ⟨⟨q,v⟩,hv⟩:∃ p,y7 (L.drop (A+1)) b=p:=⟨_,rfl⟩
       have hNx:NxOk L es (A+1):=⟨by omega,by omega,hea,hI.bh⟩
       have hM1:MOK (KD.Q (.agg [some .i64,some .i64,some .i64])) es:=hI.bh.ok
       have hml:(xf es (.agg #[.int .i64 (A:Int),.int .i64 b.cab,.int .i64 b.bed]) (.int .i64 v)).length≤maxLen:=by
        have:=YA (es:=es) (k:=.agg #[.int .i64 (A:Int),.int .i64 b.cab,.int .i64 b.bed]) (v:=.int .i64 v)
        omega
       repeat' (first|(apply nx;with_reducible constructor)|refine jq (by decide) ?_|((first|refine kz env fun Q hQ=>?_|refine kj fun Q hQ=>?_);simp only [vkt,seval,qP,zP,qf,qc,qo,qA,qD,qH,qO,qG,qa,qb,qx,qg,mTk,qd,qm,qp,qy,plL,za,qK,vS,nxL,wK,chT,chS,crL,c2O,c2T,c2S,c3S,c4S,wJ,List.length_map,nth,hwL,Nat.zero_add,Nat.sub_zero,d4,e9,wA,iA1,hb,eb,hv,hNx,hM1,hml];(try simp only [ite_and]);(repeat' (first|with_reducible assumption|refine And.intro ?_ ?_|intro hp));all_goals (first|(refine hQ _ ?_;clear hQ Q)|(refine hQ _ (fun h=>?_) (fun h=>?_) <;> clear hQ Q <;> (try simp only [vki,reduceCtorEq] at h))|(refine kx ?_;kernel_rfl)|omega|assumption|with_reducible rfl|skip)))
       have hel':(xf es (ZP A b) (.int .i64 v)).length≤1000 * (i - (A+1))+(k+1):=by
        have h2:=YA (es:=es) (k:=ZP A b) (v:=.int .i64 v)
        omega
       refine ⟨⟨(k+1,xf es (ZP A b) (.int .i64 v)),hkl,hI.step (by rw [hl];exact hb) (by rw [hv]),hel'⟩,by show l.length - (k+1) < l.length - k;omega, ?_⟩
       simp only [c3S,ZP,hmk,hdk,c2O,c2T,List.cons_append,List.nil_append]
       (refine Le.ok some [] ?_;constructor;all_goals (try simp only [vle,vkt,seval,qP,zP,qf,qc,qo,qA,qD,qH,qO,qG,qa,qb,qx,qg,mTk,qd,qm,qp,qy,plL,za,qK,vS,nxL,wK,chT,chS,crL,c2O,c2T,c2S,c3S,c4S,wJ,List.length_map,nth,hwL,Nat.zero_add,Nat.sub_zero]))
       all_goals first|rfl|(simp [ADf.le,ADf.ids];done)
      ·have d4:decide ((k:Int) < (l.length:Int))=false:=decide_eq_false (by omega)
       have hke:k=l.length:=by omega
       subst hke
       have wm:IntKind.wrap .i64 ((A:Int) - 1)=(A:Int) - 1:=wrap64 (by omega) (by omega)
       repeat' (first|(apply nx;with_reducible constructor)|refine jq (by decide) ?_|((first|refine kz env fun Q hQ=>?_|refine kj fun Q hQ=>?_);simp only [vkt,seval,qP,zP,qf,qc,qo,qA,qD,qH,qO,qG,qa,qb,qx,qg,mTk,qd,qm,qp,qy,plL,za,qK,vS,nxL,wK,chT,chS,crL,c2O,c2T,c2S,c3S,c4S,wJ,List.length_map,nth,hwL,Nat.zero_add,Nat.sub_zero,d4,wm];(try simp only [ite_and]);(repeat' (first|with_reducible assumption|refine And.intro ?_ ?_|intro hp));all_goals (first|(refine hQ _ ?_;clear hQ Q)|(refine hQ _ (fun h=>?_) (fun h=>?_) <;> clear hQ Q <;> (try simp only [vki,reduceCtorEq] at h))|(refine kx ?_;kernel_rfl)|omega|assumption|with_reducible rfl|skip)))
       refine ⟨⟨(A,es),by omega,by rw [← hl] at hI;exact hI.out,by show es.length≤1000 * (i - A);omega⟩,Nat.lt_succ_self _, ?_⟩
       simp only [c2S,hmk,hdk,c2O,c2T,List.cons_append,List.nil_append]
       (refine Le.ok some [] ?_;constructor;all_goals (try simp only [vle,vkt,seval,qP,zP,qf,qc,qo,qA,qD,qH,qO,qG,qa,qb,qx,qg,mTk,qd,qm,qp,qy,plL,za,qK,vS,nxL,wK,chT,chS,crL,c2O,c2T,c2S,c3S,c4S,wJ,List.length_map,nth,hwL,Nat.zero_add,Nat.sub_zero]))
       all_goals first|rfl|(simp [ADf.le,ADf.ids];done)
     |zero =>
      have d3:decide ((0:Int)≤((0:Nat):Int) - 1)=false:=by decide
      repeat' (first|(apply nx;with_reducible constructor)|refine jq (by decide) ?_|((first|refine kz env fun Q hQ=>?_|refine kj fun Q hQ=>?_);simp only [vkt,seval,qP,zP,qf,qc,qo,qA,qD,qH,qO,qG,qa,qb,qx,qg,mTk,qd,qm,qp,qy,plL,za,qK,vS,nxL,wK,chT,chS,crL,c2O,c2T,c2S,c3S,c4S,wJ,List.length_map,nth,hwL,Nat.zero_add,Nat.sub_zero,d3,hLl];(try simp only [ite_and]);(repeat' (first|with_reducible assumption|refine And.intro ?_ ?_|intro hp));all_goals (first|(refine hQ _ ?_;clear hQ Q)|(refine hQ _ (fun h=>?_) (fun h=>?_) <;> clear hQ Q <;> (try simp only [vki,reduceCtorEq] at h))|(refine kx ?_;kernel_rfl)|omega|assumption|with_reducible rfl|skip)))
      refine qN (fun k:{ k:Nat // k≤i }=>c4S (mks i) (dks i) L es k.1) (fun k=>i - k.1) ⟨0,Nat.zero_le _⟩ ?_ fun ⟨k,hk⟩=>?_
      ·simp only [c4S,hmk,hdk,c2O,chC,wkK,List.cons_append,List.nil_append]
       (refine Le.ok (fun i=>if i=27 then none else some i) [] ?_;constructor;all_goals (try simp only [vle,vkt,seval,qP,zP,qf,qc,qo,qA,qD,qH,qO,qG,qa,qb,qx,qg,mTk,qd,qm,qp,qy,plL,za,qK,vS,nxL,wK,chT,chS,crL,c2O,c2T,c2S,c3S,c4S,wJ,List.length_map,nth,hwL,Nat.zero_add,Nat.sub_zero]))
       all_goals first|rfl|(simp [hLl];done)|(simp [ADf.le,ADf.ids];done)|(intro i hi;rw [if_neg (by omega)];done)
      simp only at hk ⊢
      simp only [c4S,hmk,hdk,c2O,List.cons_append,List.nil_append,hLl]
      have hwl:=R4 L k
      by_cases hkl:k < i
      ·have d4:decide ((k:Int) < (i:Int))=true:=decide_eq_true (by omega)
       have e9:IntKind.wrap .i64 ((k:Int)+1)=((k+1:Nat):Int):=by rw [wrap64 (by omega) (by omega)];rfl
       have hNx:NxOk L es k:=⟨by omega,by omega,hea,hB.mono (Nat.zero_le _)⟩
       have ik:((k:Int)).toNat=k:=rfl
       have hkm:k+1≤maxLen:=by omega
       have hS:=X7 L k
       obtain ⟨⟨q,v⟩,hv⟩:∃ p,y7 (L.drop k) (wkB L k)=p:=⟨_,rfl⟩
       rw [hv] at hS
       have hvb:=XU (L.drop k) (wkB L k)
       rw [hv,List.length_drop] at hvb
       have hvb:0≤v∧v≤1000:=by simp only at hvb;omega
       by_cases hk0:k=0
       ·have d5:decide ((0:Int) < (k:Int))=false:=decide_eq_false (by omega)
        have d6:decide ((k:Int)=0)=true:=decide_eq_true (by omega)
        have wv:IntKind.wrap .i64 (v - 1)=v - 1:=wrap64 (by omega) (by omega)
        have hwb:wkB L k=⟨-1,0⟩:=if_pos hk0
        rw [hwb] at hv
        have hc1:chC L (k+1)=v - 1:=by
         unfold chC
         rw [if_neg (by omega)]
         rw [hk0,List.drop_zero] at hv
         rw [hv]
        repeat' (first|(apply nx;with_reducible constructor)|refine jq (by decide) ?_|((first|refine kz env fun Q hQ=>?_|refine kj fun Q hQ=>?_);simp only [vkt,seval,qP,zP,qf,qc,qo,qA,qD,qH,qO,qG,qa,qb,qx,qg,mTk,qd,qm,qp,qy,plL,za,qK,vS,nxL,wK,chT,chS,crL,c2O,c2T,c2S,c3S,c4S,wJ,List.length_map,nth,hwL,Nat.zero_add,Nat.sub_zero,d4,d5,d6,e9,ik,hv,hNx,wv,hwl,hkm];(try simp only [ite_and]);(repeat' (first|with_reducible assumption|refine And.intro ?_ ?_|intro hp));all_goals (first|(refine hQ _ ?_;clear hQ Q)|(refine hQ _ (fun h=>?_) (fun h=>?_) <;> clear hQ Q <;> (try simp only [vki,reduceCtorEq] at h))|(refine kx ?_;kernel_rfl)|omega|assumption|with_reducible rfl|skip)))
        refine ⟨⟨k+1,hkl⟩,by show i - (k+1) < i - k;omega, ?_⟩
        simp only [hS,hc1]
        (refine Le.ok (fun i=>if i=27 then some 31 else some i) [] ?_;constructor;all_goals (try simp only [vle,vkt,seval,qP,zP,qf,qc,qo,qA,qD,qH,qO,qG,qa,qb,qx,qg,mTk,qd,qm,qp,qy,plL,za,qK,vS,nxL,wK,chT,chS,crL,c2O,c2T,c2S,c3S,c4S,wJ,List.length_map,nth,hwL,Nat.zero_add,Nat.sub_zero]))
        all_goals first|rfl|(rw [List.map_append];rfl)|(simp [ADf.le,ADf.ids];done)|(intro i hi;rw [if_neg (by omega)];done)
       ·have d5:decide ((0:Int) < (k:Int))=true:=decide_eq_true (by omega)
        have d6:decide ((k:Int)=0)=false:=decide_eq_false (by omega)
        have wk:IntKind.wrap .i64 ((k:Int) - 1)=((k - 1:Nat):Int):=by rw [wrap64 (by omega) (by omega)];omega
        have ik1:(((k - 1:Nat):Int)).toNat=k - 1:=rfl
        have hk1:k - 1 < k:=by omega
        have hgb:=hBunk (l:=wkK L k) (n:=k - 1) (by omega)
        obtain ⟨b,hb⟩:∃ b,wkB L k=b:=⟨_,rfl⟩
        rw [show (wkK L k).getD (k - 1) default=b by rw [← hb];unfold wkB;rw [if_neg hk0]] at hgb
        rw [hb] at hv
        have eb:(⟨b.cab,b.bed⟩:Bunk)=b:=rfl
        have hc1:chC L (k+1)=chC L k:=by
         unfold chC
         rw [if_neg (by omega),if_neg hk0]
        repeat' (first|(apply nx;with_reducible constructor)|refine jq (by decide) ?_|((first|refine kz env fun Q hQ=>?_|refine kj fun Q hQ=>?_);simp only [vkt,seval,qP,zP,qf,qc,qo,qA,qD,qH,qO,qG,qa,qb,qx,qg,mTk,qd,qm,qp,qy,plL,za,qK,vS,nxL,wK,chT,chS,crL,c2O,c2T,c2S,c3S,c4S,wJ,List.length_map,nth,hwL,Nat.zero_add,Nat.sub_zero,d4,d5,d6,e9,ik,wk,ik1,hk1,hgb,eb,hv,hNx,hwl,hkm];(try simp only [ite_and]);(repeat' (first|with_reducible assumption|refine And.intro ?_ ?_|intro hp));all_goals (first|(refine hQ _ ?_;clear hQ Q)|(refine hQ _ (fun h=>?_) (fun h=>?_) <;> clear hQ Q <;> (try simp only [vki,reduceCtorEq] at h))|(refine kx ?_;kernel_rfl)|omega|assumption|with_reducible rfl|skip)))
        refine ⟨⟨k+1,hkl⟩,by show i - (k+1) < i - k;omega, ?_⟩
        simp only [hS,hc1]
        (refine Le.ok (fun i=>if i=27 then some 31 else some i) [] ?_;constructor;all_goals (try simp only [vle,vkt,seval,qP,zP,qf,qc,qo,qA,qD,qH,qO,qG,qa,qb,qx,qg,mTk,qd,qm,qp,qy,plL,za,qK,vS,nxL,wK,chT,chS,crL,c2O,c2T,c2S,c3S,c4S,wJ,List.length_map,nth,hwL,Nat.zero_add,Nat.sub_zero]))
        all_goals first|rfl|(rw [List.map_append];rfl)|(simp [ADf.le,ADf.ids];done)|(intro i hi;rw [if_neg (by omega)];done)
      ·have d4:decide ((k:Int) < (i:Int))=false:=decide_eq_false (by omega)
       have hke:k=L.length:=by omega
       have hww:=Qks L
       have hcc:chC L L.length=(y7 L ⟨-1,0⟩).2 - 1:=if_neg (by omega)
       rw [hke,hww,hcc]
       rw [hke] at d4
       repeat' (first|(apply nx;with_reducible constructor)|refine jq (by decide) ?_|((first|refine kz env fun Q hQ=>?_|refine kj fun Q hQ=>?_);simp only [vkt,seval,qP,zP,qf,qc,qo,qA,qD,qH,qO,qG,qa,qb,qx,qg,mTk,qd,qm,qp,qy,plL,za,qK,vS,nxL,wK,chT,chS,crL,c2O,c2T,c2S,c3S,c4S,wJ,List.length_map,nth,hwL,Nat.zero_add,Nat.sub_zero,d4];(try simp only [ite_and]);(repeat' (first|with_reducible assumption|refine And.intro ?_ ?_|intro hp));all_goals (first|(refine hQ _ ?_;clear hQ Q)|(refine hQ _ (fun h=>?_) (fun h=>?_) <;> clear hQ Q <;> (try simp only [vki,reduceCtorEq] at h))|(refine kx ?_;kernel_rfl)|omega|assumption|with_reducible rfl|skip)))
       simp only [vrt,Tryz.results27,vkt,seval,qP,zP,qf,qc,qo,qA,qD,qH,qO,qG,qa,qb,qx,qg,mTk,qd,qm,qp,qy,plL,za,qK,vS,nxL,wK,chT,chS,crL,c2O,c2T,c2S,c3S,c4S,wJ,List.length_map,nth,hwL,Nat.zero_add,Nat.sub_zero]
       show Fin _ _ _ 0 (qj []) 0
       refine Fin.ok some [27] ?_ ?_ ?_ ?_ ?_ rfl
       all_goals (try simp only [vle,vkt,seval,qP,zP,qf,qc,qo,qA,qD,qH,qO,qG,qa,qb,qx,qg,mTk,qd,qm,qp,qy,plL,za,qK,vS,nxL,wK,chT,chS,crL,c2O,c2T,c2S,c3S,c4S,wJ,List.length_map,nth,hwL,Nat.zero_add,Nat.sub_zero])
       all_goals first|rfl|(simp;done)|(simp [ADf.le,ADf.ids];done)
 ·rw [if_pos (by simpa using h0)]
  repeat' (first|(apply nx;with_reducible constructor)|refine jq (by decide) ?_|((first|refine kz env fun Q hQ=>?_|refine kj fun Q hQ=>?_);simp only [vkt,seval,qP,zP,qf,qc,qo,qA,qD,qH,qO,qG,qa,qb,qx,qg,mTk,qd,qm,qp,qy,plL,za,qK,vS,nxL,wK,chT,chS,crL,c2O,c2T,c2S,c3S,c4S,wJ,List.length_map,nth,hwL,Nat.zero_add,Nat.sub_zero,ec,ea,h0];(try simp only [ite_and]);(repeat' (first|with_reducible assumption|refine And.intro ?_ ?_|intro hp));all_goals (first|(refine hQ _ ?_;clear hQ Q)|(refine hQ _ (fun h=>?_) (fun h=>?_) <;> clear hQ Q <;> (try simp only [vki,reduceCtorEq] at h))|(refine kx ?_;kernel_rfl)|omega|assumption|with_reducible rfl|skip)))
  (simp only [vrt,Tryz.results27,vkt,seval,qP,zP,qf,qc,qo,qA,qD,qH,qO,qG,qa,qb,qx,qg,mTk,qd,qm,qp,qy,plL,za,qK,vS,nxL,wK,chT,chS,crL,c2O,c2T,c2S,c3S,c4S,wJ,List.length_map,nth,hwL,Nat.zero_add,Nat.sub_zero];refine Fin.val rfl ?_;(try simp only [AV.le,AV.leL]))
  all_goals first|rfl|(simp;done)
def Y8 (l m:List Tr) (k:Nat):St:={ t:=asg [(0,qI l),(1,qI m),(4,aB false),(5,aI k)],h:=qj [],n:=0 }
def yG:=kk @ty3 (kk @UZ (kk @Uc (kk @ti3.eq_1 (kk @VL.eq_1 @VQ.eq_1))))
def xQ:=kk @aI.eq_1 (@aB.eq_1)
theorem QkM (l m:List Tr) (hl:l.length≤1000) (hm:m.length≤1000):FnV Tryz.prog 25 [qI l,qI m] (aB (decide (l=m))):=by
 have env:Env (fun _=>True) Tryz.prog tyB (tab []):=qL trivial
 refine Fn.of (A:=fun _=>True) (n0:=0) (D:=noD) (Fn0 Tryz.func25 rfl (fun vs w=>by kernel_rfl) (by kernel_rfl)) (by simp) (by simp [AV.ids,qI]) (fun i o h=>by cases h) (fun _ _ _ _=>trivial) qF ?_
 by_cases h0:l.length=m.length
 ·have d0:decide ((l.length:Int)=(m.length:Int))=true:=decide_eq_true (by omega)
  repeat' (first|(apply nx;with_reducible constructor)|refine jq (by decide) ?_|((first|refine kz env fun Q hQ=>?_|refine kj fun Q hQ=>?_);simp only [vkt,seval,yG,xQ,qI,eTr,gTr,Y8,Bool.true_and,Bool.false_and,d0];(try simp only [ite_and]);(repeat' (first|with_reducible assumption|refine And.intro ?_ ?_|intro hp));all_goals (first|(refine hQ _ ?_;clear hQ Q)|(refine hQ _ (fun h=>?_) (fun h=>?_) <;> clear hQ Q <;> (try simp only [vki,reduceCtorEq] at h))|(refine kx ?_;kernel_rfl)|omega|assumption|with_reducible rfl|skip)))
  refine qN (fun k:{ k:Nat // k≤l.length∧∀ j,j < k→l.getD j default=m.getD j default }=>Y8 l m k.1) (fun k=>l.length - k.1) ⟨0,Nat.zero_le _,fun j h=>absurd h (Nat.not_lt_zero _)⟩ ?_ fun ⟨k,hk,hno⟩=>?_
  ·(refine Le.ok some [] ?_;constructor;all_goals (try simp only [vle,vkt,seval,yG,xQ,qI,eTr,gTr,Y8,Bool.true_and,Bool.false_and]))
   all_goals first|rfl|(simp;done)
  ·repeat' (first|(apply nx;with_reducible constructor)|refine jq (by decide) ?_)
   (refine kz env fun Q hQ=>?_;simp only [vkt,seval,yG,xQ,qI,eTr,gTr,Y8,Bool.true_and,Bool.false_and];(try simp only [ite_and]);(repeat' (first|with_reducible assumption|refine And.intro ?_ ?_|intro hp));all_goals (first|(refine hQ _ ?_;clear hQ Q)|(refine kx ?_;kernel_rfl)|omega|assumption|with_reducible rfl|skip))
   repeat' (first|(apply nx;with_reducible constructor)|refine jq (by decide) ?_)
   (refine yY (by simp only [vkt,seval,yG,xQ,qI,eTr,gTr,Y8,Bool.true_and,Bool.false_and];rfl) (fun h=>?_) (fun h=>?_) <;> (try simp only [vki,reduceCtorEq] at h))
   ·have hlt:k < l.length:=by omega
    have hlm:k < m.length:=by omega
    have e9:IntKind.wrap .i64 ((k:Int)+1)=((k+1:Nat):Int):=by rw [wrap64 (by omega) (by omega)];rfl
    obtain ⟨x,hx⟩:∃ x,l.getD k default=x:=⟨_,rfl⟩
    obtain ⟨y,hy⟩:∃ x,m.getD k default=x:=⟨_,rfl⟩
    have hxy:(x=y)=(x.ticket=y.ticket∧x.cab=y.cab∧x.bed=y.bed):=by cases x;cases y;simp
    have hne:¬ x=y→decide (l=m)=false:=fun h=>decide_eq_false fun e=>h (by rw [← hx,← hy,e])
    by_cases hxe:x=y
    ·rw [hxe] at hx
     repeat' (first|(apply nx;with_reducible constructor)|refine jq (by decide) ?_|((first|refine kz env fun Q hQ=>?_|refine kj fun Q hQ=>?_);simp only [vkt,seval,yG,xQ,qI,eTr,gTr,Y8,Bool.true_and,Bool.false_and,hx,hy,hlm,e9,decide_true];(try simp only [ite_and]);(repeat' (first|with_reducible assumption|refine And.intro ?_ ?_|intro hp));all_goals (first|(refine hQ _ ?_;clear hQ Q)|(refine hQ _ (fun h=>?_) (fun h=>?_) <;> clear hQ Q <;> (try simp only [vki,reduceCtorEq] at h))|(refine kx ?_;kernel_rfl)|omega|assumption|with_reducible rfl|skip)))
     refine ⟨⟨k+1,hlt,fun j hj=>?_⟩,by show l.length - (k+1) < l.length - k;omega, ?_⟩
     ·rcases Nat.lt_or_eq_of_le (Nat.le_of_lt_succ hj) with h1|h1
      ·exact hno j h1
      ·rw [h1,hx,hy]
     ·(refine Le.ok some [] ?_;constructor;all_goals (try simp only [vle,vkt,seval,yG,xQ,qI,eTr,gTr,Y8,Bool.true_and,Bool.false_and]))
      all_goals first|rfl|(simp;done)
    ·rw [hne hxe]
     have q:(decide (x.ticket=y.ticket) && (decide (x.cab=y.cab) && decide (x.bed=y.bed)))=false:=by
      rw [hxy] at hxe
      simpa using hxe
     repeat' (first|(apply nx;with_reducible constructor)|refine jq (by decide) ?_|((first|refine kz env fun Q hQ=>?_|refine kj fun Q hQ=>?_);simp only [vkt,seval,yG,xQ,qI,eTr,gTr,Y8,Bool.true_and,Bool.false_and,hx,hy,q,hlm,e9];(try simp only [ite_and]);(repeat' (first|with_reducible assumption|refine And.intro ?_ ?_|intro hp));all_goals (first|(refine hQ _ ?_;clear hQ Q)|(refine hQ _ (fun h=>?_) (fun h=>?_) <;> clear hQ Q <;> (try simp only [vki,reduceCtorEq] at h))|(refine kx ?_;kernel_rfl)|omega|assumption|with_reducible rfl|skip)))
     (simp only [vrt,Tryz.results25,vkt,seval,yG,xQ,qI,eTr,gTr,Y8,Bool.true_and,Bool.false_and];refine Fin.val rfl ?_;(try simp only [AV.le,AV.leL]))
     all_goals first|rfl|(simp;done)
   ·have hke:k=l.length:=by omega
    subst hke
    rw [decide_eq_true (Z9 h0 hno)]
    repeat' (first|(apply nx;with_reducible constructor)|refine jq (by decide) ?_|((first|refine kz env fun Q hQ=>?_|refine kj fun Q hQ=>?_);simp only [vkt,seval,yG,xQ,qI,eTr,gTr,Y8,Bool.true_and,Bool.false_and];(try simp only [ite_and]);(repeat' (first|with_reducible assumption|refine And.intro ?_ ?_|intro hp));all_goals (first|(refine hQ _ ?_;clear hQ Q)|(refine hQ _ (fun h=>?_) (fun h=>?_) <;> clear hQ Q <;> (try simp only [vki,reduceCtorEq] at h))|(refine kx ?_;kernel_rfl)|omega|assumption|with_reducible rfl|skip)))
    (simp only [vrt,Tryz.results25,vkt,seval,yG,xQ,qI,eTr,gTr,Y8,Bool.true_and,Bool.false_and];refine Fin.val rfl ?_;(try simp only [AV.le,AV.leL]))
    all_goals first|rfl|(simp;done)
 ·have d0:decide ((l.length:Int)=(m.length:Int))=false:=decide_eq_false (by omega)
  rw [decide_eq_false (fun e=>h0 (by rw [e]))]
  repeat' (first|(apply nx;with_reducible constructor)|refine jq (by decide) ?_|((first|refine kz env fun Q hQ=>?_|refine kj fun Q hQ=>?_);simp only [vkt,seval,yG,xQ,qI,eTr,gTr,Y8,Bool.true_and,Bool.false_and,d0];(try simp only [ite_and]);(repeat' (first|with_reducible assumption|refine And.intro ?_ ?_|intro hp));all_goals (first|(refine hQ _ ?_;clear hQ Q)|(refine hQ _ (fun h=>?_) (fun h=>?_) <;> clear hQ Q <;> (try simp only [vki,reduceCtorEq] at h))|(refine kx ?_;kernel_rfl)|omega|assumption|with_reducible rfl|skip)))
  (simp only [vrt,Tryz.results25,vkt,seval,yG,xQ,qI,eTr,gTr,Y8,Bool.true_and,Bool.false_and];refine Fin.val rfl ?_;(try simp only [AV.le,AV.leL]))
  all_goals first|rfl|(simp;done)
def VM:List AV→Prop × AV
 |[.sl l,.sl m]=>(l=(l.map dTr).map eTr∧m=(m.map dTr).map eTr∧(l.map dTr).length≤1000∧(m.map dTr).length≤1000,aB (decide ((l.map dTr)=(m.map dTr))))
 |_=>(False,.junk)
theorem eeqT {A:Frm→Prop}:qE A Tryz.prog 25 (qX true VM):=qW fun vs hv h=>by
 clear hv
 unfold VM at h ⊢
 split at h
 ·rename_i l m;obtain ⟨q0,q1,k0,k1⟩:=h
  refine ⟨by first|trivial|(simp [AV.plain,AV.plainL,aI,aB,qz,qc,ql,qf,aTk,cTk];done)|(repeat' split) <;> simp [AV.plain,AV.plainL,aI,aB,qz,qc,ql,qf,aTk,cTk],fun _=>(by simp [AV.flat,AV.flatL,aI,aB]), ?_⟩
  have:=QkM (l.map dTr) (m.map dTr) k0 k1
  simp only [qI,← q0,← q1] at this
  first|exact this|(simp only [qI,← q0,← q1];exact this)
 ·exact h.elim
def ky:List AV→Prop × AV
 |[.sl m]=>(m=(m.map dTk).map eTk∧(m.map dTk).length≤100,qa (yN (m.map dTk)))
 |_=>(False,.junk)
theorem QgA {A:Frm→Prop}:qE A Tryz.prog 43 (qX false ky):=qW fun vs hv h=>by
 clear hv
 unfold ky at h ⊢
 split at h
 ·rename_i m;obtain ⟨q0,k0⟩:=h
  refine ⟨by first|trivial|(simp [AV.plain,AV.plainL,aI,aB,qz,qc,ql,qf,aTk,cTk];done)|(repeat' split) <;> simp [AV.plain,AV.plainL,aI,aB,qz,qc,ql,qf,aTk,cTk],fun h=>absurd h (by decide), ?_⟩
  have:=QhF (m.map dTk) k0
  simp only [ql,← q0] at this
  first|exact this|(simp only [ql,← q0];exact this)
 ·exact h.elim
def WM:List AV→Prop × AV
 |[.v (.int .i64 f),.v (.int .i64 t),.v (.bool d),.sl l]=>(l=(l.map zb).map zF,qx ⟨9,f,t,(l.map zb),d⟩)
 |_=>(False,.junk)
theorem elask {A:Frm→Prop}:qE A Tryz.prog 44 (qX false WM):=qW fun vs hv h=>by
 clear hv
 unfold WM at h ⊢
 split at h
 ·rename_i f t d l;have q0:l=(l.map zb).map zF:=h;clear h
  refine ⟨by first|trivial|(simp [AV.plain,AV.plainL,aI,aB,qz,qc,ql,qf,aTk,cTk];done)|(repeat' split) <;> simp [AV.plain,AV.plainL,aI,aB,qz,qc,ql,qf,aTk,cTk],fun h=>absurd h (by decide), ?_⟩
  have:=QhL f t d (l.map zb)
  simp only [aB,aI,qz,← q0] at this
  first|exact this|(simp only [aB,aI,qz,← q0];exact this)
 ·exact h.elim
theorem Q0 (a b:Int):zz [.v (.int .i64 a),.v (.int .i64 b)]=⟨a,b⟩:=rfl
theorem Yu (a b c:Int):dTr [.v (.int .i64 a),.v (.int .i64 b),.v (.int .i64 c)]=⟨a,b,c⟩:=rfl
theorem Wy (a:Int):zb [.v (.int .i64 a)]=a:=rfl
theorem Qjm (a b c d e f:Int) (g:Bool):dTk [.v (.int .i64 a),.v (.int .i64 b),.v (.int .i64 c),.v (.int .i64 d),.v (.int .i64 e),.v (.int .i64 f),.v (.bool g)]=⟨a,b,c,d,e,f,g⟩:=rfl
def JH:List Tk:=[⟨3,1,2,0,0,4,false⟩,⟨4,2,1,1,2,4,false⟩]
def YR:=kk @x9 (kk @yc (kk @yU (kk @xD.eq_1 (kk @jM.eq_1 @yA.eq_1))))
def Qdr:=kk @aI.eq_1 (@aB.eq_1)
theorem Qes:FnV Tryz.prog 45 [] (qa (yN JH)):=by
 have env:Env (fun _=>True) Tryz.prog tyB (tab [(101,qX false Yr),(43,qX false ky)]):=qL ⟨Qjk,QgA,trivial⟩
 refine Fn.of (A:=fun _=>True) (n0:=0) (D:=noD) (Fn0 Tryz.func45 rfl (fun vs w=>by kernel_rfl) (by kernel_rfl)) (by simp) (by simp) (fun i o h=>by cases h) (fun _ _ _ _=>trivial) qF ?_
 have hlen:([⟨3,1,2,0,0,4,false⟩,⟨4,2,1,1,2,4,false⟩]:List Tk).length≤100:=by decide
 have hfl:([⟨3,1,2,0,0,4,false⟩,⟨4,2,1,1,2,4,false⟩]:List Tk)=JH:=rfl
 repeat' (first|(apply nx;with_reducible constructor)|refine jq (by decide) ?_|((first|refine kz env fun Q hQ=>?_|refine kj fun Q hQ=>?_);simp only [vkt,seval,YR,Qdr,aTk,cTk,eTk,ql,qa,qb,Yr,ky,Qjm,List.length_map,List.map_cons,List.map_nil,hlen,hfl];(try simp only [ite_and]);(repeat' (first|with_reducible assumption|refine And.intro ?_ ?_|intro hp));all_goals (first|(refine hQ _ ?_;clear hQ Q)|(refine hQ _ (fun h=>?_) (fun h=>?_) <;> clear hQ Q <;> (try simp only [vki,reduceCtorEq] at h))|(refine kx ?_;kernel_rfl)|omega|assumption|with_reducible rfl|skip)))
 ·rfl
 (simp only [vrt,Tryz.results45,vkt,seval,YR,Qdr,aTk,cTk,eTk,ql,qa,qb,Yr,ky,Qjm,List.length_map,List.map_cons,List.map_nil];refine Fin.val rfl ?_;(try simp only [AV.le,AV.leL]))
 all_goals first|rfl|(simp;done)
def xU:List AV→Prop × AV
 |[]=>(True,qa (yN JH))
 |_=>(False,.junk)
theorem Qir {A:Frm→Prop}:qE A Tryz.prog 45 (qX false xU):=qW fun vs hv h=>by
 clear hv
 unfold xU at h ⊢
 split at h
 ·clear h
  refine ⟨by first|trivial|(simp [AV.plain,AV.plainL,aI,aB,qz,qc,ql,qf,aTk,cTk];done)|(repeat' split) <;> simp [AV.plain,AV.plainL,aI,aB,qz,qc,ql,qf,aTk,cTk],fun h=>absurd h (by decide), ?_⟩
  have:=Qes
  first|exact this|(simp only [];exact this)
 ·exact h.elim
def QU:List AV→Prop × AV
 |[.agg [.sl c0,.v (.int .i64 c1),.sl c2]]=>(c0=(c0.map qw).map qh∧c2=(c2.map dTk).map eTk∧((⟨(c0.map qw),c1,(c2.map dTk)⟩:Chart)).cabins.length≤maxLen,.tup [aI (QcN ((⟨(c0.map qw),c1,(c2.map dTk)⟩:Chart))),aI (zu ((⟨(c0.map qw),c1,(c2.map dTk)⟩:Chart)))])
 |_=>(False,.junk)
theorem Qkq {A:Frm→Prop}:qE A Tryz.prog 42 (qX true QU):=qW fun vs hv h=>by
 clear hv
 unfold QU at h ⊢
 split at h
 ·rename_i c0 c1 c2;obtain ⟨q0,q1,k0⟩:=h
  refine ⟨by first|trivial|(simp [AV.plain,AV.plainL,aI,aB,qz,qc,ql,qf,aTk,cTk];done)|(repeat' split) <;> simp [AV.plain,AV.plainL,aI,aB,qz,qc,ql,qf,aTk,cTk],fun _=>(by simp [AV.flat,AV.flatL,aI,aB]), ?_⟩
  have:=Qin ((⟨(c0.map qw),c1,(c2.map dTk)⟩:Chart)) k0
  simp only [qY,qa,aI,ql,qb,← q0,← q1] at this
  first|exact this|(simp only [qY,qa,aI,ql,qb,← q0,← q1];exact this)
 ·exact h.elim
def QS:List AV→Prop × AV
 |[.agg [.sl c0,.v (.int .i64 c1),.sl c2],.agg [.v (.int .i64 a0),.v (.int .i64 a1),.v (.int .i64 a2),.sl a3,.v (.bool a4)]]=>(c0=(c0.map qw).map qh∧c2=(c2.map dTk).map eTk∧a3=(a3.map zb).map zF∧((⟨(c0.map qw),c1,(c2.map dTk)⟩:Chart)).cabins.length≤maxLen∧((⟨a0,a1,a2,(a3.map zb),a4⟩:Ask)).sexes.length≤maxLen,.tup [qc (JA ((⟨(c0.map qw),c1,(c2.map dTk)⟩:Chart)) ((⟨a0,a1,a2,(a3.map zb),a4⟩:Ask))).1,aI (JA ((⟨(c0.map qw),c1,(c2.map dTk)⟩:Chart)) ((⟨a0,a1,a2,(a3.map zb),a4⟩:Ask))).2])
 |_=>(False,.junk)
theorem Qky {A:Frm→Prop}:qE A Tryz.prog 18 (qX false QS):=qW fun vs hv h=>by
 clear hv
 unfold QS at h ⊢
 split at h
 ·rename_i c0 c1 c2 a0 a1 a2 a3 a4;obtain ⟨q0,q1,q2,k0,k1⟩:=h
  refine ⟨by first|trivial|(simp [AV.plain,AV.plainL,aI,aB,qz,qc,ql,qf,aTk,cTk];done)|(repeat' split) <;> simp [AV.plain,AV.plainL,aI,aB,qz,qc,ql,qf,aTk,cTk],fun h=>absurd h (by decide), ?_⟩
  have:=QiX ((⟨(c0.map qw),c1,(c2.map dTk)⟩:Chart)) ((⟨a0,a1,a2,(a3.map zb),a4⟩:Ask)) k0 k1
  simp only [qx,aB,qY,qa,aI,qz,ql,qg,qb,← q0,← q1,← q2] at this
  first|exact this|(simp only [qx,aB,qY,qa,aI,qz,ql,qg,qb,← q0,← q1,← q2];exact this)
 ·exact h.elim
def vF:List AV→Prop × AV
 |[.agg [.sl c0,.v (.int .i64 c1),.sl c2],.agg [.v (.int .i64 a0),.v (.int .i64 a1),.v (.int .i64 a2),.sl a3,.v (.bool a4)]]=>(c0=(c0.map qw).map qh∧c2=(c2.map dTk).map eTk∧a3=(a3.map zb).map zF∧((⟨(c0.map qw),c1,(c2.map dTk)⟩:Chart)).cabins.length≤maxLen∧((⟨a0,a1,a2,(a3.map zb),a4⟩:Ask)).sexes.length≤maxLen,.tup [qc (Zz ((⟨(c0.map qw),c1,(c2.map dTk)⟩:Chart)) ((⟨a0,a1,a2,(a3.map zb),a4⟩:Ask))).1,aI (Zz ((⟨(c0.map qw),c1,(c2.map dTk)⟩:Chart)) ((⟨a0,a1,a2,(a3.map zb),a4⟩:Ask))).2.1,aI (Zz ((⟨(c0.map qw),c1,(c2.map dTk)⟩:Chart)) ((⟨a0,a1,a2,(a3.map zb),a4⟩:Ask))).2.2])
 |_=>(False,.junk)
theorem Qgq {A:Frm→Prop}:qE A Tryz.prog 27 (qX false vF):=qW fun vs hv h=>by
 clear hv
 unfold vF at h ⊢
 split at h
 ·rename_i c0 c1 c2 a0 a1 a2 a3 a4;obtain ⟨q0,q1,q2,k0,k1⟩:=h
  refine ⟨by first|trivial|(simp [AV.plain,AV.plainL,aI,aB,qz,qc,ql,qf,aTk,cTk];done)|(repeat' split) <;> simp [AV.plain,AV.plainL,aI,aB,qz,qc,ql,qf,aTk,cTk],fun h=>absurd h (by decide), ?_⟩
  have:=QeM ((⟨(c0.map qw),c1,(c2.map dTk)⟩:Chart)) ((⟨a0,a1,a2,(a3.map zb),a4⟩:Ask)) k0 k1
  simp only [qx,aB,qY,qa,aI,qz,ql,qg,qb,← q0,← q1,← q2] at this
  first|exact this|(simp only [qx,aB,qY,qa,aI,qz,ql,qg,qb,← q0,← q1,← q2];exact this)
 ·exact h.elim
def wG:List AV→Prop × AV
 |[.agg [.sl c0,.v (.int .i64 c1),.sl c2],.agg [.v (.int .i64 a0),.v (.int .i64 a1),.v (.int .i64 a2),.sl a3,.v (.bool a4)]]=>(c0=(c0.map qw).map qh∧c2=(c2.map dTk).map eTk∧a3=(a3.map zb).map zF∧((⟨(c0.map qw),c1,(c2.map dTk)⟩:Chart)).cabins.length≤maxLen∧((⟨a0,a1,a2,(a3.map zb),a4⟩:Ask)).sexes.length≤maxLen,.tup [qI (wV ((⟨(c0.map qw),c1,(c2.map dTk)⟩:Chart)) ((⟨a0,a1,a2,(a3.map zb),a4⟩:Ask))).1,aI (wV ((⟨(c0.map qw),c1,(c2.map dTk)⟩:Chart)) ((⟨a0,a1,a2,(a3.map zb),a4⟩:Ask))).2])
 |_=>(False,.junk)
theorem Qds {A:Frm→Prop}:qE A Tryz.prog 23 (qX false wG):=qW fun vs hv h=>by
 clear hv
 unfold wG at h ⊢
 split at h
 ·rename_i c0 c1 c2 a0 a1 a2 a3 a4;obtain ⟨q0,q1,q2,k0,k1⟩:=h
  refine ⟨by first|trivial|(simp [AV.plain,AV.plainL,aI,aB,qz,qc,ql,qf,aTk,cTk];done)|(repeat' split) <;> simp [AV.plain,AV.plainL,aI,aB,qz,qc,ql,qf,aTk,cTk],fun h=>absurd h (by decide), ?_⟩
  have:=QfN ((⟨(c0.map qw),c1,(c2.map dTk)⟩:Chart)) ((⟨a0,a1,a2,(a3.map zb),a4⟩:Ask)) k0 k1
  simp only [qx,aB,qY,qa,aI,qz,ql,qg,qb,← q0,← q1,← q2] at this
  first|exact this|(simp only [qx,aB,qY,qa,aI,qz,ql,qg,qb,← q0,← q1,← q2];exact this)
 ·exact h.elim
def vI (_:St):List AV→Option Pk
 |[.agg [.sl cs,.v (.int .i64 s),.sl ts],.agg [.v (.int .i64 p),.v (.int .i64 f),.v (.int .i64 t),.sl xs,.v (.bool d)]]=>some { pre:=cs=(cs.map qw).map qh∧ts=(ts.map dTk).map eTk∧xs=(xs.map zb).map zF∧cs.length≤maxLen∧xs.length≤maxLen,ar:=[.agg [.sl cs,.v (.int .i64 s),.sl ts],.agg [.v (.int .i64 p),.v (.int .i64 f),.v (.int .i64 t),.sl xs,.v (.bool d)]],v:=.tup [.row 0,aI (zw ⟨cs.map qw,s,ts.map dTk⟩ ⟨p,f,t,xs.map zb,d⟩)],L1:=[some (.row 44 1 ((xP ⟨cs.map qw,s,ts.map dTk⟩ ⟨p,f,t,xs.map zb,d⟩).map qA))] }
 |_=>none
theorem Qgj {A:Frm→Prop}:qE A Tryz.prog 16 (fnE vI):=zY fun S bs q h hp=>by
 unfold vI at h
 split at h
 ·rename_i cs s ts p f t xs d
  cases h
  obtain ⟨h1,h2,h3,h4,h5⟩:=hp
  have:=QeN ⟨cs.map qw,s,ts.map dTk⟩ ⟨p,f,t,xs.map zb,d⟩ (by simpa using h4) (by simpa using h5)
  simp only [qa,qb,qx,qg,← h1,← h2,← h3] at this
  exact this
 ·cases h
theorem Qix:QcN (yN [])=7∧zu (yN [])=0:=by decide +kernel
theorem QdP:zw (yN []) ⟨9,0,4,[1],false⟩=0∧xP (yN []) ⟨9,0,4,[1],false⟩=[[⟨0,1⟩],[⟨2,0⟩]]:=by decide +kernel
theorem QiN:JA (yN []) ⟨9,2,4,[2,1],false⟩=([⟨0,0⟩,⟨0,1⟩],0):=by decide +kernel
theorem QdQ:Zz (yN JH) ⟨9,0,4,[2],false⟩=([⟨1,1⟩,⟨1,1⟩,⟨0,0⟩,⟨0,0⟩],1,0):=by decide +kernel
theorem QgO:wV (yN JH) ⟨9,0,4,[1],true⟩=([⟨2,0,1⟩],0):=by decide +kernel
def jE:=kk @ty3 (kk @Qe (kk @QbK (kk @Zc (kk @WQ (kk @UZ (kk @xJ (kk @Uc (kk @ti3.eq_1 (kk @x8.eq_1 (kk @Kt.eq_1 (kk @QA.eq_1 (kk @ZO.eq_1 (kk @VL.eq_1 (kk @vZ.eq_1 @VQ.eq_1))))))))))))))
def QY:=kk @aI.eq_1 (kk @aB.eq_1 (kk @qz.eq_1 (kk @zF.eq_1 (@QT))))
set_option maxRecDepth 100000 in
set_option maxHeartbeats 4000000 in
theorem QbM:FnV Tryz.prog 9 [] (aB true):=by
 have env:Env (fun _=>True) Tryz.prog tyB (tab [(43,qX false ky),(45,qX false xU),(44,qX false WM),(42,qX true QU),(16,fnE vI),(18,qX false QS),(27,qX false vF),(23,qX false wG),(46,qX false Zn),(20,qX true seqB),(25,qX true VM)]):=qL ⟨QgA,Qir,elask,Qkq,Qgj,Qky,Qgq,Qds,QjG,eeqB,eeqT,trivial⟩
 refine Fn.of (A:=fun _=>True) (n0:=0) (D:=noD) (Fn0 Tryz.func9 rfl (fun vs w=>by kernel_rfl) (by kernel_rfl)) (by simp) (by simp) (fun i o h=>by cases h) (fun _ _ _ _=>trivial) qF ?_
 have h1:=Qix
 have h2:=QdP
 have h3:=QiN
 have h4:=QdQ
 have h5:=QgO
 obtain ⟨C,hC⟩:∃ C,yN []=C:=⟨_,rfl⟩
 obtain ⟨D,hD⟩:∃ D,yN JH=D:=⟨_,rfl⟩
 have eC:(⟨C.cabins,C.secs,C.sold⟩:Chart)=C:=rfl
 have eD:(⟨D.cabins,D.secs,D.sold⟩:Chart)=D:=rfl
 have m1:(1:Nat)≤maxLen:=by decide
 have m2:(2:Nat)≤maxLen:=by decide
 have c1:C.cabins.length≤maxLen:=by rw [← hC];decide
 have c2:D.cabins.length≤maxLen:=by rw [← hD];decide
 rw [hC] at h1 h2 h3
 rw [hD] at h4 h5
 obtain ⟨h1a,h1b⟩:=h1
 obtain ⟨h2a,h2b⟩:=h2
 repeat' (first|(apply nx;with_reducible constructor)|refine jq (by decide) ?_)
 ((first|refine kz env fun Q hQ=>?_|refine kj fun Q hQ=>?_);simp only [vkt,seval,jE,QY,qf,qc,qI,qo,qA,eTr,qa,qb,qx,qg,qd,mTk,qM,mTr,Q0,Yu,Wy,QU,vI,QS,vF,wG,xU,ky,WM,Zn,seqB,VM,List.length_map,List.map_cons,List.map_nil,List.getD_cons_zero,List.getD_cons_succ,List.length_cons,List.length_nil];(try simp only [ite_and]);(repeat' (first|with_reducible assumption|refine And.intro ?_ ?_|intro hp));all_goals (first|(refine hQ _ ?_;clear hQ Q)|(refine hQ _ (fun h=>?_) (fun h=>?_) <;> clear hQ Q <;> (try simp only [vki,reduceCtorEq] at h))|(refine kx ?_;kernel_rfl)|omega|assumption|with_reducible rfl|skip))
 repeat' (first|(apply nx;with_reducible constructor)|refine jq (by decide) ?_)
 ((first|refine kz env fun Q hQ=>?_|refine kj fun Q hQ=>?_);simp only [vkt,seval,jE,QY,qf,qc,qI,qo,qA,eTr,qa,qb,qx,qg,qd,mTk,qM,mTr,Q0,Yu,Wy,QU,vI,QS,vF,wG,xU,ky,WM,Zn,seqB,VM,List.length_map,List.map_cons,List.map_nil,List.getD_cons_zero,List.getD_cons_succ,List.length_cons,List.length_nil,hC,eC,c1,h1a,h1b];(try simp only [ite_and]);(repeat' (first|with_reducible assumption|refine And.intro ?_ ?_|intro hp));all_goals (first|(refine hQ _ ?_;clear hQ Q)|(refine hQ _ (fun h=>?_) (fun h=>?_) <;> clear hQ Q <;> (try simp only [vki,reduceCtorEq] at h))|(refine kx ?_;kernel_rfl)|omega|assumption|with_reducible rfl|skip))
 repeat' (first|(apply nx;with_reducible constructor)|refine jq (by decide) ?_)
 ((first|refine kz env fun Q hQ=>?_|refine kj fun Q hQ=>?_);simp only [vkt,seval,jE,QY,qf,qc,qI,qo,qA,eTr,qa,qb,qx,qg,qd,mTk,qM,mTr,Q0,Yu,Wy,QU,vI,QS,vF,wG,xU,ky,WM,Zn,seqB,VM,List.length_map,List.map_cons,List.map_nil,List.getD_cons_zero,List.getD_cons_succ,List.length_cons,List.length_nil,hC,eC,c1,h2a,h2b];(try simp only [ite_and]);(repeat' (first|with_reducible assumption|refine And.intro ?_ ?_|intro hp));all_goals (first|(refine hQ _ ?_;clear hQ Q)|(refine hQ _ (fun h=>?_) (fun h=>?_) <;> clear hQ Q <;> (try simp only [vki,reduceCtorEq] at h))|(refine kx ?_;kernel_rfl)|omega|assumption|with_reducible rfl|skip))
 repeat' (first|(apply nx;with_reducible constructor)|refine jq (by decide) ?_)
 ((first|refine kz env fun Q hQ=>?_|refine kj fun Q hQ=>?_);simp only [vkt,seval,jE,QY,qf,qc,qI,qo,qA,eTr,qa,qb,qx,qg,qd,mTk,qM,mTr,Q0,Yu,Wy,QU,vI,QS,vF,wG,xU,ky,WM,Zn,seqB,VM,List.length_map,List.map_cons,List.map_nil,List.getD_cons_zero,List.getD_cons_succ,List.length_cons,List.length_nil,hC,eC,c1,h3];(try simp only [ite_and]);(repeat' (first|with_reducible assumption|refine And.intro ?_ ?_|intro hp));all_goals (first|(refine hQ _ ?_;clear hQ Q)|(refine hQ _ (fun h=>?_) (fun h=>?_) <;> clear hQ Q <;> (try simp only [vki,reduceCtorEq] at h))|(refine kx ?_;kernel_rfl)|omega|assumption|with_reducible rfl|skip))
 repeat' (first|(apply nx;with_reducible constructor)|refine jq (by decide) ?_)
 ((first|refine kz env fun Q hQ=>?_|refine kj fun Q hQ=>?_);simp only [vkt,seval,jE,QY,qf,qc,qI,qo,qA,eTr,qa,qb,qx,qg,qd,mTk,qM,mTr,Q0,Yu,Wy,QU,vI,QS,vF,wG,xU,ky,WM,Zn,seqB,VM,List.length_map,List.map_cons,List.map_nil,List.getD_cons_zero,List.getD_cons_succ,List.length_cons,List.length_nil,hD,eD,c2,h4];(try simp only [ite_and]);(repeat' (first|with_reducible assumption|refine And.intro ?_ ?_|intro hp));all_goals (first|(refine hQ _ ?_;clear hQ Q)|(refine hQ _ (fun h=>?_) (fun h=>?_) <;> clear hQ Q <;> (try simp only [vki,reduceCtorEq] at h))|(refine kx ?_;kernel_rfl)|omega|assumption|with_reducible rfl|skip))
 repeat' (first|(apply nx;with_reducible constructor)|refine jq (by decide) ?_)
 ((first|refine kz env fun Q hQ=>?_|refine kj fun Q hQ=>?_);simp only [vkt,seval,jE,QY,qf,qc,qI,qo,qA,eTr,qa,qb,qx,qg,qd,mTk,qM,mTr,Q0,Yu,Wy,QU,vI,QS,vF,wG,xU,ky,WM,Zn,seqB,VM,List.length_map,List.map_cons,List.map_nil,List.getD_cons_zero,List.getD_cons_succ,List.length_cons,List.length_nil,hD,eD,c2,h5];(try simp only [ite_and]);(repeat' (first|with_reducible assumption|refine And.intro ?_ ?_|intro hp));all_goals (first|(refine hQ _ ?_;clear hQ Q)|(refine hQ _ (fun h=>?_) (fun h=>?_) <;> clear hQ Q <;> (try simp only [vki,reduceCtorEq] at h))|(refine kx ?_;kernel_rfl)|omega|assumption|with_reducible rfl|skip))
 repeat' (first|(apply nx;with_reducible constructor)|refine jq (by decide) ?_)
 obtain ⟨p0,hp0⟩:∃ p:List Bunk,p=[⟨0,1⟩]:=⟨_,rfl⟩
 obtain ⟨p1,hp1⟩:∃ p:List Bunk,p=[⟨2,0⟩]:=⟨_,rfl⟩
 obtain ⟨p5,hp5⟩:∃ p:List Bunk,p=[⟨0,0⟩,⟨0,1⟩]:=⟨_,rfl⟩
 obtain ⟨p7,hp7⟩:∃ p:List Bunk,p=[⟨1,1⟩,⟨1,1⟩,⟨0,0⟩,⟨0,0⟩]:=⟨_,rfl⟩
 obtain ⟨p10,hp10⟩:∃ p:List Tr,p=[⟨2,0,1⟩]:=⟨_,rfl⟩
 refine kY (S':={ t:=asg [(0,aB false),(1,aI 7),(2,aI 0),(3,.row 1),(4,aI 0),(5,qc p5),(6,aI 0),(7,qc p7),(8,aI 1),(9,aI 0),(10,qI p10),(11,aI 0)],h:=qj [(1,.row 44 1 [qA p0,qA p1])],n:=2,j:=0,d:=[],m:=0 }) ?_ ?_
 ·rw [hp0,hp1,hp5,hp7,hp10]
  (refine Le.ok some [] ?_;constructor;all_goals (try simp only [vle,vkt,seval,jE,QY,qf,qc,qI,qo,qA,eTr,qa,qb,qx,qg,qd,mTk,qM,mTr,Q0,Yu,Wy,QU,vI,QS,vF,wG,xU,ky,WM,Zn,seqB,VM,List.length_map,List.map_cons,List.map_nil,List.getD_cons_zero,List.getD_cons_succ,List.length_cons,List.length_nil]))
  all_goals first|rfl|(simp;done)
 have q0:decide (p0=[⟨0,1⟩])=true:=decide_eq_true hp0
 have q1:decide (p1=[⟨2,0⟩])=true:=decide_eq_true hp1
 have q5:decide (p5=[⟨0,0⟩,⟨0,1⟩])=true:=decide_eq_true hp5
 have q7:decide (p7=[⟨1,1⟩,⟨1,1⟩,⟨0,0⟩,⟨0,0⟩])=true:=decide_eq_true hp7
 have q10:decide (p10=[⟨2,0,1⟩])=true:=decide_eq_true hp10
 have l0:p0.length≤1000:=by rw [hp0];decide
 have l1:p1.length≤1000:=by rw [hp1];decide
 have l5:p5.length≤1000:=by rw [hp5];decide
 have l7:p7.length≤1000:=by rw [hp7];decide
 have l10:p10.length≤1000:=by rw [hp10];decide
 clear hp0 hp1 hp5 hp7 hp10 h1a h1b h2a h2b h3 h4 h5
 refine kz env fun Q hQ=>?_
 simp only [vkt,seval,jE,QY,qf,qc,qI,qo,qA,eTr,qa,qb,qx,qg,qd,mTk,qM,mTr,Q0,Yu,Wy,QU,vI,QS,vF,wG,xU,ky,WM,Zn,seqB,VM,List.length_map,List.map_cons,List.map_nil,List.getD_cons_zero,List.getD_cons_succ,List.length_cons,List.length_nil,q0,q1,q5,q7,q10,l0,l1,l5,l7,l10,List.append_eq,List.cons_append,List.nil_append]
 refine And.intro ?_ ?_
 ·refine kx ?_
  kernel_rfl
 refine hQ _ ?_
 clear hQ Q
 repeat' (first|(apply nx;with_reducible constructor)|refine jq (by decide) ?_)
 (simp only [vrt,Tryz.results9,vkt,seval,jE,QY,qf,qc,qI,qo,qA,eTr,qa,qb,qx,qg,qd,mTk,qM,mTr,Q0,Yu,Wy,QU,vI,QS,vF,wG,xU,ky,WM,Zn,seqB,VM,List.length_map,List.map_cons,List.map_nil,List.getD_cons_zero,List.getD_cons_succ,List.length_cons,List.length_nil];refine Fin.val rfl ?_;(try simp only [AV.le,AV.leL]))
 all_goals first|rfl|(simp;done)
noncomputable def jH (S:St):List AV→Option Pk
 |[.ptr i 0,.v (.int .i64 a),.v (.int .i64 g),.v (.int .i64 s)]=>match S.h i with
  |some (.cells [.v (.int .u64 x)])=>some { pre:=(1≤a∧a≤3)∧(1≤g∧g≤5)∧(0≤s∧s≤8),hs:=[i],ar:=[.ptr 0 0,.v (.int .i64 a),.v (.int .i64 g),.v (.int .i64 s)],L0:=[.cells [.v (.int .u64 x)]],v:=qa (coC x a g s),L1:=[some (.cells [.v (.int .u64 (coX x a g s))])] }
  |_=>none
 |_=>none
theorem QfI {A:Frm→Prop}:qE A Tryz.prog 11 (fnE jH):=zY fun S bs q h hp=>by
 unfold jH at h
 split at h
 ·split at h
  ·cases h;exact Qch _ _ _ _ hp.1 hp.2.1 hp.2.2
  ·cases h
 ·cases h
noncomputable def jI (S:St):List AV→Option Pk
 |[.ptr i 0,.agg [.sl cs,.v (.int .i64 s),.sl ts],.v (.int .i64 n)]=>match S.h i with
  |some (.cells [.v (.int .u64 x)])=>some { pre:=cs=(cs.map qw).map qh∧ts=(ts.map dTk).map eTk∧(1≤s∧s≤5)∧(1≤n∧n≤3),hs:=[i],ar:=[.ptr 0 0,.agg [.sl cs,.v (.int .i64 s),.sl ts],.v (.int .i64 n)],L0:=[.cells [.v (.int .u64 x)]],v:=qx (aoA x s n),L1:=[some (.cells [.v (.int .u64 (aoX x s n))])] }
  |_=>none
 |_=>none
theorem Qgx {A:Frm→Prop}:qE A Tryz.prog 12 (fnE jI):=zY fun S bs q h hp=>by
 unfold jI at h
 split at h
 ·rename_i cs s ts n
  split at h
  ·cases h
   obtain ⟨h1,h2,h3,h4⟩:=hp
   have:=Qca (by assumption) ⟨cs.map qw,s,ts.map dTk⟩ n h3 h4
   simp only [qa,qb,← h1,← h2] at this
   exact this
  ·cases h
 ·cases h
def jL:List AV→Prop × AV
 |[]=>(True,aB true)
 |_=>(False,.junk)
theorem QgX {A:Frm→Prop}:qE A Tryz.prog 9 (qX true jL):=qW fun vs hv h=>by
 clear hv
 unfold jL at h ⊢
 split at h
 ·clear h
  refine ⟨by first|trivial|(simp [AV.plain,AV.plainL,aI,aB,qz,qc,ql,qf,aTk,cTk];done)|(repeat' split) <;> simp [AV.plain,AV.plainL,aI,aB,qz,qc,ql,qf,aTk,cTk],fun _=>(by simp [AV.flat,AV.flatL,aI,aB]), ?_⟩
  have:=QbM
  first|exact this|(simp only [];exact this)
 ·exact h.elim
end Go.Sym.B
