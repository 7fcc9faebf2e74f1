/- Walks and what they compute, joined: part 2. -/
import Derived.Test.YtfljkbcphmnjkaaGreatVB3
import Derived.Test.YtfljkbcphmnjkaaGreatV1
set_option linter.all false
namespace Go.Sym.B
open Go Go.Sym Go.Proofs Go.Sym.C
set_option maxRecDepth 100000 in
set_option maxHeartbeats 40000000 in
theorem placesLaw_fn (c:Chart) (a:Ask) (nums:List Int) (hnums:nums.length≤maxLen):FnV Tryz.prog 3 [qa c,qx a,qB nums] (aB true):=by
  have env:Env (fun _=>True) Tryz.prog tyB (tab [(8,qU true yV),(10,fnE Z7),(13,fnE zQ),(11,fnE wY),(12,fnE wZ),(14,qU false yX),(15,qU false yY),(16,fnE zF),(17,qU false wW),(18,qU false wU),(19,qU false yZ),(20,qU true seqB),(21,qU true Wh),(22,qU true WC),(9,qU true wX)]):=qL ⟨QjB,eBag,Qha,Qgx,QfS,QjF,Qka,U1,Qfv,Qfa,Qkj,eeqB,eeqC,eeqA,QfK,trivial⟩
  refine Fn.of (A:=fun _=>True) (n0:=0) (D:=noD) (Fn0 Tryz.func3 rfl (fun vs w=>by kernel_rfl) (by kernel_rfl)) (by simp) (by simp [AV.ids,AV.idsL,qB,qa,qb,qx,qh]) (fun i o h=>by cases h) (fun _ _ _ _=>trivial) qF ?_
  cases q0:decide (20 < (c.cabins.length:Int)) with
  |true =>
    repeat' (first|(apply nx;with_reducible constructor)|refine uq (by decide) ?_|((first|refine vx env fun Q hQ=>?_|refine vz fun Q hQ=>?_);simp only [vkt,seval,jR,xC,qf,qc,ze,qm,qA,qD,qG,qP,qI,qg,eTk,yG,ZE,xD,JM,rTk,zo,qJ,mTk,qd,qa,qb,qx,qh,lpS,yV,Z7,zQ,wY,wZ,yX,yY,zF,wW,wU,yZ,seqB,Wh,WC,wX,List.length_map,q0,Bool.true_or];(try simp only [ite_and]);(repeat' (first|with_reducible assumption|refine And.intro ?_ ?_|intro hp));all_goals (first|(refine hQ _ ?_;clear hQ Q)|(refine hQ _ (fun h=>?_) (fun h=>?_) <;> clear hQ Q <;> (try simp only [vki,reduceCtorEq] at h))|(refine vq ?_;kernel_rfl)|omega|assumption|with_reducible rfl|skip)))
    (simp only [vrt,Tryz.results3,vkt,seval,jR,xC,qf,qc,ze,qm,qA,qD,qG,qP,qI,qg,eTk,yG,ZE,xD,JM,rTk,zo,qJ,mTk,qd,qa,qb,qx,qh,lpS,yV,Z7,zQ,wY,wZ,yX,yY,zF,wW,wU,yZ,seqB,Wh,WC,wX,List.length_map];refine Fin.val rfl ?_;(try simp only [AV.le,AV.leL]))
    all_goals first|rfl|(simp;done)
  |false =>
  cases q1:decide (20 < (c.sold.length:Int)) with
  |true =>
    repeat' (first|(apply nx;with_reducible constructor)|refine uq (by decide) ?_|((first|refine vx env fun Q hQ=>?_|refine vz fun Q hQ=>?_);simp only [vkt,seval,jR,xC,qf,qc,ze,qm,qA,qD,qG,qP,qI,qg,eTk,yG,ZE,xD,JM,rTk,zo,qJ,mTk,qd,qa,qb,qx,qh,lpS,yV,Z7,zQ,wY,wZ,yX,yY,zF,wW,wU,yZ,seqB,Wh,WC,wX,List.length_map,q0,q1,Bool.false_or];(try simp only [ite_and]);(repeat' (first|with_reducible assumption|refine And.intro ?_ ?_|intro hp));all_goals (first|(refine hQ _ ?_;clear hQ Q)|(refine hQ _ (fun h=>?_) (fun h=>?_) <;> clear hQ Q <;> (try simp only [vki,reduceCtorEq] at h))|(refine vq ?_;kernel_rfl)|omega|assumption|with_reducible rfl|skip)))
    (simp only [vrt,Tryz.results3,vkt,seval,jR,xC,qf,qc,ze,qm,qA,qD,qG,qP,qI,qg,eTk,yG,ZE,xD,JM,rTk,zo,qJ,mTk,qd,qa,qb,qx,qh,lpS,yV,Z7,zQ,wY,wZ,yX,yY,zF,wW,wU,yZ,seqB,Wh,WC,wX,List.length_map];refine Fin.val rfl ?_;(try simp only [AV.le,AV.leL]))
    all_goals first|rfl|(simp;done)
  |false =>
  cases q2:decide (20 < (a.sexes.length:Int)) with
  |true =>
    repeat' (first|(apply nx;with_reducible constructor)|refine uq (by decide) ?_|((first|refine vx env fun Q hQ=>?_|refine vz fun Q hQ=>?_);simp only [vkt,seval,jR,xC,qf,qc,ze,qm,qA,qD,qG,qP,qI,qg,eTk,yG,ZE,xD,JM,rTk,zo,qJ,mTk,qd,qa,qb,qx,qh,lpS,yV,Z7,zQ,wY,wZ,yX,yY,zF,wW,wU,yZ,seqB,Wh,WC,wX,List.length_map,q0,q1,q2,Bool.false_or];(try simp only [ite_and]);(repeat' (first|with_reducible assumption|refine And.intro ?_ ?_|intro hp));all_goals (first|(refine hQ _ ?_;clear hQ Q)|(refine hQ _ (fun h=>?_) (fun h=>?_) <;> clear hQ Q <;> (try simp only [vki,reduceCtorEq] at h))|(refine vq ?_;kernel_rfl)|omega|assumption|with_reducible rfl|skip)))
    (simp only [vrt,Tryz.results3,vkt,seval,jR,xC,qf,qc,ze,qm,qA,qD,qG,qP,qI,qg,eTk,yG,ZE,xD,JM,rTk,zo,qJ,mTk,qd,qa,qb,qx,qh,lpS,yV,Z7,zQ,wY,wZ,yX,yY,zF,wW,wU,yZ,seqB,Wh,WC,wX,List.length_map];refine Fin.val rfl ?_;(try simp only [AV.le,AV.leL]))
    all_goals first|rfl|(simp;done)
  |false =>
  have g0:=of_decide_eq_false q0
  have g1:=of_decide_eq_false q1
  have g2:=of_decide_eq_false q2
  obtain ⟨x0,hx0⟩:∃ x,nbS nums=x:=⟨_,rfl⟩
  obtain ⟨hC0,hCp,hCs,hCc,hCg⟩:=co_ok (x:=x0) (a:=3) (g:=5) (s:=5) (by decide) (by decide) (by decide)
  obtain ⟨C,hC⟩:∃ C,coC x0 3 5 5=C:=⟨_,rfl⟩
  obtain ⟨x1,hx1⟩:∃ x,coX x0 3 5 5=x:=⟨_,rfl⟩
  rw [hC] at hC0 hCp hCs hCc hCg
  have hu:=up2 x1 (m:=2) (by omega) (by omega)
  obtain ⟨u,hU⟩:∃ u,upV x1 2=u:=⟨_,rfl⟩
  obtain ⟨x2,hx2⟩:∃ x,upS x1 2=x:=⟨_,rfl⟩
  rw [hU] at hu
  obtain ⟨hA0,hA1,hA2⟩:=ao_ok (x:=x2) (n:=1+u) hC0 hCp (by omega)
  obtain ⟨A,hA⟩:∃ A,aoA x2 C.secs (1+u)=A:=⟨_,rfl⟩
  rw [hA] at hA0 hA1 hA2
  have hsec:=(Qg hC0).car.secs
  have h31:(3:Int) - 1=2:=rfl
  have hu1:1≤1+u∧1+u≤3:=by omega
  have hmx:(100000:Nat)≤maxLen:=by decide
  have c1:C.cabins.length≤maxLen:=by omega
  have c2:C.sold.length≤maxLen:=by omega
  have c3:c.cabins.length≤maxLen:=by omega
  have c4:c.sold.length≤maxLen:=by omega
  have c5:a.sexes.length≤maxLen:=by omega
  have eC:(⟨C.cabins,C.secs,C.sold⟩:Chart)=C:=rfl
  obtain ⟨CL,hCL⟩:∃ CL,[c,C,C]=CL:=⟨_,rfl⟩
  obtain ⟨AL,hAL⟩:∃ AL,[a,A,a]=AL:=⟨_,rfl⟩
  have hCl:CL.length=3:=by rw [← hCL];rfl
  have hAl:AL.length=3:=by rw [← hAL];rfl
  have hCb:∀ x ∈ CL,x.cabins.length≤20∧x.sold.length≤20:=by
    rw [← hCL]
    intro x hx
    simp only [List.mem_cons,List.not_mem_nil,or_false] at hx
    rcases hx with rfl|rfl|rfl <;> omega
  have hAb:∀ x ∈ AL,x.sexes.length≤20:=by
    rw [← hAL]
    intro x hx
    simp only [List.mem_cons,List.not_mem_nil,or_false] at hx
    rcases hx with rfl|rfl|rfl <;> omega
  repeat' (first|(apply nx;with_reducible constructor)|refine uq (by decide) ?_|((first|refine vx env fun Q hQ=>?_|refine vz fun Q hQ=>?_);simp only [vkt,seval,jR,xC,qf,qc,ze,qm,qA,qD,qG,qP,qI,qg,eTk,yG,ZE,xD,JM,rTk,zo,qJ,mTk,qd,qa,qb,qx,qh,lpS,yV,Z7,zQ,wY,wZ,yX,yY,zF,wW,wU,yZ,seqB,Wh,WC,wX,List.length_map,q0,q1,q2,hx0,hC,hx1,h31,hU,hx2,hu1,hA,hsec,eC,c1,c2,c3,c4,c5,Bool.false_or];(try simp only [ite_and]);(repeat' (first|with_reducible assumption|refine And.intro ?_ ?_|intro hp));all_goals (first|(refine hQ _ ?_;clear hQ Q)|(refine hQ _ (fun h=>?_) (fun h=>?_) <;> clear hQ Q <;> (try simp only [vki,reduceCtorEq] at h))|(refine vq ?_;kernel_rfl)|omega|assumption|with_reducible rfl|skip)))
  refine qO (fun i:{ i:Nat // i≤CL.length }=>lpS CL AL i.1 [] [] 11) (fun i=>CL.length - i.1) ⟨0,Nat.zero_le _⟩ ?_ fun ⟨i,hi⟩=>?_
  · simp only [lpS,← hCL,← hAL,List.nil_append]
    (refine Le.ok (fun i=>if i=9 then some 4 else if i=10 then some 5 else none) [] ?_;constructor;all_goals (try simp only [vle,vkt,seval,jR,xC,qf,qc,ze,qm,qA,qD,qG,qP,qI,qg,eTk,yG,ZE,xD,JM,rTk,zo,qJ,mTk,qd,qa,qb,qx,qh,lpS,yV,Z7,zQ,wY,wZ,yX,yY,zF,wW,wU,yZ,seqB,Wh,WC,wX,List.length_map]))
    all_goals first|rfl|(simp;done)
  simp only at hi ⊢
  simp only [lpS,List.nil_append]
  by_cases hil:i < CL.length
  · have d1:decide ((i:Int) < (CL.length:Int))=true:=decide_eq_true (by omega)
    have e9:IntKind.wrap .i64 ((i:Int)+1)=((i+1:Nat):Int):=by rw [wrap64 (by omega) (by omega)];rfl
    have i0:((i:Int)).toNat=i:=rfl
    have hia:i < AL.length:=by omega
    have hg:=Qjc hil
    have hga:=hAsk hia
    obtain ⟨b1,b2⟩:=hCb _ (yL (d:=default) hil)
    have b3:=hAb _ (yL (d:=default) hia)
    obtain ⟨x,hx⟩:∃ x,CL.getD i default=x:=⟨_,rfl⟩
    obtain ⟨y,hy⟩:∃ y,AL.getD i default=y:=⟨_,rfl⟩
    rw [hx] at hg b1 b2
    rw [hy] at hga b3
    have ex:(⟨x.cabins,x.secs,x.sold⟩:Chart)=x:=rfl
    have ey:(⟨y.party,y.frm,y.to,y.sexes,y.dog⟩:Ask)=y:=rfl
    have b4:x.cabins.length≤maxLen:=by omega
    have b5:x.sold.length≤maxLen:=by omega
    have b6:y.sexes.length≤maxLen:=by omega
    have b7:x.cabins.length≤100000:=by omega
    have b8:x.sold.length≤100000:=by omega
    have b9:y.sexes.length≤100000:=by omega
    obtain ⟨p1,p2⟩:=Qdn x y
    have p3:=Qhl x y
    obtain ⟨L,hL⟩:∃ l,zg x y=l:=⟨_,rfl⟩
    obtain ⟨E,hE⟩:∃ e,zu x y=e:=⟨_,rfl⟩
    obtain ⟨⟨B,F⟩,hB⟩:∃ p,vD x y=p:=⟨_,rfl⟩
    rw [hL] at p1 p2
    rw [hB] at p3
    simp only at p3
    have p4:L.length≤maxLen:=by omega
    have p5:B.length≤maxLen:=by omega
    have p6:∀ p ∈ L,p.length≤maxLen:=fun p hp=>by have:=p2 p hp;omega
    repeat' (first|(apply nx;with_reducible constructor)|refine uq (by decide) ?_|((first|refine vx env fun Q hQ=>?_|refine vz fun Q hQ=>?_);simp only [vkt,seval,jR,xC,qf,qc,ze,qm,qA,qD,qG,qP,qI,qg,eTk,yG,ZE,xD,JM,rTk,zo,qJ,mTk,qd,qa,qb,qx,qh,lpS,yV,Z7,zQ,wY,wZ,yX,yY,zF,wW,wU,yZ,seqB,Wh,WC,wX,List.length_map,d1,i0,hil,hia,hg,hga,hx,hy,ex,ey,b1,b2,b3,b4,b5,b6,b7,b8,b9,hL,hE,hB,p1,p3,p4,p5,decide_true,Bool.not_true,Bool.not_false];(try simp only [ite_and]);(repeat' (first|with_reducible assumption|refine And.intro ?_ ?_|intro hp));all_goals (first|(refine hQ _ ?_;clear hQ Q)|(refine hQ _ (fun h=>?_) (fun h=>?_) <;> clear hQ Q <;> (try simp only [vki,reduceCtorEq] at h))|(refine vq ?_;kernel_rfl)|omega|assumption|with_reducible rfl|skip)))
    refine qO (fun k:{ k:Nat // k≤L.length }=>lpS CL AL i [(14,.row 11),(16,ze L),(22,aI k.1)] [(11,.row 44 1 (L.map qA))] 12) (fun k=>L.length - k.1) ⟨0,Nat.zero_le _⟩ ?_ fun ⟨k,hk⟩=>?_
    · simp only [lpS,List.cons_append,List.nil_append]
      (refine Le.ok (fun i=>if i=11 then some 13 else some i) [] ?_;constructor;all_goals (try simp only [vle,vkt,seval,jR,xC,qf,qc,ze,qm,qA,qD,qG,qP,qI,qg,eTk,yG,ZE,xD,JM,rTk,zo,qJ,mTk,qd,qa,qb,qx,qh,lpS,yV,Z7,zQ,wY,wZ,yX,yY,zF,wW,wU,yZ,seqB,Wh,WC,wX,List.length_map]))
      all_goals first|rfl|(simp;done)|(intro i hi;rw [if_neg (by omega)];done)
    simp only at hk ⊢
    simp only [lpS,List.cons_append,List.nil_append]
    by_cases hkl:k < L.length
    · have d2:decide ((k:Int) < (L.length:Int))=true:=decide_eq_true (by omega)
      have e8:IntKind.wrap .i64 ((k:Int)+1)=((k+1:Nat):Int):=by rw [wrap64 (by omega) (by omega)];rfl
      have k0:((k:Int)).toNat=k:=rfl
      have hgk:=Ye hkl
      have hm:=p2 _ (yL (d:=[]) hkl)
      obtain ⟨p,hp⟩:∃ p,L.getD k []=p:=⟨_,rfl⟩
      rw [hp] at hgk hm
      have hm2:p.length≤maxLen:=by omega
      repeat' (first|(apply nx;with_reducible constructor)|refine uq (by decide) ?_|((first|refine vx env fun Q hQ=>?_|refine vz fun Q hQ=>?_);simp only [vkt,seval,jR,xC,qf,qc,ze,qm,qA,qD,qG,qP,qI,qg,eTk,yG,ZE,xD,JM,rTk,zo,qJ,mTk,qd,qa,qb,qx,qh,lpS,yV,Z7,zQ,wY,wZ,yX,yY,zF,wW,wU,yZ,seqB,Wh,WC,wX,List.length_map,d2,e8,k0,hkl,hgk,hp,hm,hm2,decide_true,Bool.not_true,Bool.not_false];(try simp only [ite_and]);(repeat' (first|with_reducible assumption|refine And.intro ?_ ?_|intro hp));all_goals (first|(refine hQ _ ?_;clear hQ Q)|(refine hQ _ (fun h=>?_) (fun h=>?_) <;> clear hQ Q <;> (try simp only [vki,reduceCtorEq] at h))|(refine vq ?_;kernel_rfl)|omega|assumption|with_reducible rfl|skip)))
      refine ⟨⟨k+1,hkl⟩,by show L.length - (k+1) < L.length - k;omega, ?_⟩
      simp only [lpS,List.cons_append,List.nil_append]
      (refine Le.ok some [] ?_;constructor;all_goals (try simp only [vle,vkt,seval,jR,xC,qf,qc,ze,qm,qA,qD,qG,qP,qI,qg,eTk,yG,ZE,xD,JM,rTk,zo,qJ,mTk,qd,qa,qb,qx,qh,lpS,yV,Z7,zQ,wY,wZ,yX,yY,zF,wW,wU,yZ,seqB,Wh,WC,wX,List.length_map]))
      all_goals first|rfl|(simp;done)
    · have d2:decide ((k:Int) < (L.length:Int))=false:=decide_eq_false (by omega)
      repeat' (first|(apply nx;with_reducible constructor)|refine uq (by decide) ?_|((first|refine vx env fun Q hQ=>?_|refine vz fun Q hQ=>?_);simp only [vkt,seval,jR,xC,qf,qc,ze,qm,qA,qD,qG,qP,qI,qg,eTk,yG,ZE,xD,JM,rTk,zo,qJ,mTk,qd,qa,qb,qx,qh,lpS,yV,Z7,zQ,wY,wZ,yX,yY,zF,wW,wU,yZ,seqB,Wh,WC,wX,List.length_map,d2,e9];(try simp only [ite_and]);(repeat' (first|with_reducible assumption|refine And.intro ?_ ?_|intro hp));all_goals (first|(refine hQ _ ?_;clear hQ Q)|(refine hQ _ (fun h=>?_) (fun h=>?_) <;> clear hQ Q <;> (try simp only [vki,reduceCtorEq] at h))|(refine vq ?_;kernel_rfl)|omega|assumption|with_reducible rfl|skip)))
      refine ⟨⟨i+1,hil⟩,by show CL.length - (i+1) < CL.length - i;omega, ?_⟩
      simp only [lpS,List.nil_append]
      (refine Le.ok (fun i=>if i=11 then none else some i) [] ?_;constructor;all_goals (try simp only [vle,vkt,seval,jR,xC,qf,qc,ze,qm,qA,qD,qG,qP,qI,qg,eTk,yG,ZE,xD,JM,rTk,zo,qJ,mTk,qd,qa,qb,qx,qh,lpS,yV,Z7,zQ,wY,wZ,yX,yY,zF,wW,wU,yZ,seqB,Wh,WC,wX,List.length_map]))
      all_goals first|rfl|(simp;done)|(intro i hi;rw [if_neg (by omega)];done)
  · have d1:decide ((i:Int) < (CL.length:Int))=false:=decide_eq_false (by omega)
    repeat' (first|(apply nx;with_reducible constructor)|refine uq (by decide) ?_|((first|refine vx env fun Q hQ=>?_|refine vz fun Q hQ=>?_);simp only [vkt,seval,jR,xC,qf,qc,ze,qm,qA,qD,qG,qP,qI,qg,eTk,yG,ZE,xD,JM,rTk,zo,qJ,mTk,qd,qa,qb,qx,qh,lpS,yV,Z7,zQ,wY,wZ,yX,yY,zF,wW,wU,yZ,seqB,Wh,WC,wX,List.length_map,d1];(try simp only [ite_and]);(repeat' (first|with_reducible assumption|refine And.intro ?_ ?_|intro hp));all_goals (first|(refine hQ _ ?_;clear hQ Q)|(refine hQ _ (fun h=>?_) (fun h=>?_) <;> clear hQ Q <;> (try simp only [vki,reduceCtorEq] at h))|(refine vq ?_;kernel_rfl)|omega|assumption|with_reducible rfl|skip)))
    (simp only [vrt,Tryz.results3,vkt,seval,jR,xC,qf,qc,ze,qm,qA,qD,qG,qP,qI,qg,eTk,yG,ZE,xD,JM,rTk,zo,qJ,mTk,qd,qa,qb,qx,qh,lpS,yV,Z7,zQ,wY,wZ,yX,yY,zF,wW,wU,yZ,seqB,Wh,WC,wX,List.length_map];refine Fin.val rfl ?_;(try simp only [AV.le,AV.leL]))
    all_goals first|rfl|(simp;done)
end Go.Sym.B
