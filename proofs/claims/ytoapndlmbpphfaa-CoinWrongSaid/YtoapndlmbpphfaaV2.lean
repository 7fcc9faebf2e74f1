/- Walks and what they compute, joined: part 2. -/
import Derived.Test.YtoapndlmbpphfaaVB2
import Derived.Test.YtoapndlmbpphfaaV1
set_option linter.all false
namespace Go.Sym.B
open Go Go.Sym Go.Proofs Go.Sym.C
set_option maxRecDepth 100000 in
set_option maxHeartbeats 40000000 in
theorem wrongLaw_fn (ns:List Int) (h2:ns.length≤maxLen):FnV Try.prog 5 [aInts ns] (aB true):=by
  have env0:Env (fun _=>True) Try.prog tyB (tab [(19,valE true c19),(20,fnE p20),(27,fnE p27d),(31,fnE p31d),(32,valE false c32),(33,valE true c33),(34,valE false (c34 100)),(35,valE false c35),(36,valE true s36),(37,fnE p37)]):=mkEnv ⟨d19,e20,e27d,e31d,d32,d33,d34 (fun m _=>cho_all m),d35,d36,e37,trivial⟩
  have env:=deepE env0
  clear env0
  refine Fn.of (A:=fun _=>True) (n0:=0) (D:=noD) (Fn0 Try.func5 rfl (fun vs w=>by kernel_rfl) (by kernel_rfl)) (by simp) (by simp [AV.ids,AV.idsL,aInts,aI]) (fun i o h=>by cases h) (fun _ _ _ _=>trivial) noD_ok ?_
  have big:(100000:Nat)≤maxLen:=by decide
  have z1:(1:Int)≤4∧(4:Int)≤4:=by decide
  have z2:(0:Int)≤6∧(6:Int)≤6:=by decide
  have z3:(1:Int)≤3∧(3:Int)≤4:=by decide
  have z4:(1:Int)≤3∧(3:Int)≤3:=by decide
  have hok:=lg_ok (x:=nbS ns) (w:=5) z1 z3 z2
  have hchk:=lg_chk (x:=nbS ns) (w:=5) z1 z3 z2
  have hrl:=(dyK_ok ((lg1 (nbS ns) 4).cs.length - 1) (upS (lg1 (nbS ns) 4).x (3 - 1)) (1+upV (lg1 (nbS ns) 4).x (3 - 1)).toNat).1
  have hr3:(lgL (nbS ns) 4 3 6 5).rates.length≤3:=by
    have h:=upV_le (x:=(lg1 (nbS ns) 4).x) (m:=3 - 1) (by decide) (by decide)
    show (lg2 (nbS ns) 4 3).1.length≤3
    unfold lg2
    rw [hrl]
    omega
  clear hrl
  obtain ⟨L,hL⟩:∃ L,lgL (nbS ns) 4 3 6 5=L:=⟨_,rfl⟩
  obtain ⟨y,hy⟩:∃ y,lgS (nbS ns) 4 3 6 5=y:=⟨_,rfl⟩
  rw [hL] at hok hchk hr3
  have hfit:=hok.fit
  have hV:=val_of hchk
  have hc:=hok.c
  have hr:=hok.r.len
  obtain ⟨m,i0,F,hmin⟩:=firstHit ⟨_,growN_all hV⟩
  have hmB:m≤(badL L).length:=by
    obtain ⟨s,hs,hl,hh⟩:=cover hV
    have:=hmin _ (growN_some (sub_cho hs) hh)
    omega
  have hwl:=F.len
  have hww:=F.w
  have hB:=badOk hV
  have hBl:(badL L).length≤6:=Nat.le_trans (badK_len L _) hV.e
  have hWr:aWrong L=.tup [aIntss (wrongL L),.v (.int .i64 0)]:=if_neg (by rw [hchk];simp)
  have hpl:=pairs_len hV
  have hp2:=pairs_two L
  have hch:=F.hit
  have hi0:=F.hi
  have hmem:wrongL L ∈ choF m (pairsOf L):=by rw [hww];exact gMem hi0
  have hwp:=(cho_le m _ _ hmem).2
  repeat' (first|(apply nx;with_reducible constructor)|refine uq (by decide) ?_)
  (refine vx env fun Q hQ=>?_;simp only [vkt,seval,tbL11_5,xbL11_1,cwH,cwT,cwS1,cwS2,cwS3,cwS4,cwS5,cwS6,renL_ridR,ids3R,lgDH,tyD,ti55d,gIntss,eIntss,p27d,p31d,p37,c33,c34,c35,List.map_nil];(try simp only [ite_and]);(repeat' (first|with_reducible assumption|refine And.intro ?_ ?_|intro hp));all_goals (first|(refine hQ _ ?_;clear hQ Q)|(refine vq ?_;kernel_rfl)|omega|assumption|with_reducible rfl|skip))
  repeat' (first|(apply nx;with_reducible constructor)|refine uq (by decide) ?_)
  (refine vx env fun Q hQ=>?_;simp only [vkt,seval,tbL11_5,xbL11_1,cwH,cwT,cwS1,cwS2,cwS3,cwS4,cwS5,cwS6,renL_ridR,ids3R,lgDH,tyD,ti55d,gIntss,eIntss,p27d,p31d,p37,c33,c34,c35,List.map_nil];(try simp only [ite_and]);(repeat' (first|with_reducible assumption|refine And.intro ?_ ?_|intro hp));all_goals (first|(refine hQ _ ?_;clear hQ Q)|(refine vq ?_;kernel_rfl)|omega|assumption|with_reducible rfl|skip))
  repeat' (first|(apply nx;with_reducible constructor)|refine uq (by decide) ?_)
  (refine vx env fun Q hQ=>?_;simp only [vkt,seval,tbL11_5,xbL11_1,cwH,cwT,cwS1,cwS2,cwS3,cwS4,cwS5,cwS6,renL_ridR,ids3R,lgDH,tyD,ti55d,gIntss,eIntss,p27d,p31d,p37,c33,c34,c35,List.map_nil,hL,hy];(try simp only [ite_and]);(repeat' (first|with_reducible assumption|refine And.intro ?_ ?_|intro hp));all_goals (first|(refine hQ _ ?_;clear hQ Q)|(refine vq ?_;kernel_rfl)|omega|assumption|with_reducible rfl|skip))
  repeat' (first|(apply nx;with_reducible constructor)|refine uq (by decide) ?_)
  have hF:=rkvL_eq L.rates hr3
  refine (sym_le (Le.trans (S':=cwS1 L (rkvL L.rates) y) ?_ ?_:Le _ (cwS2 L y)) ?_:Sym _ _ _ _ _)
  · rcases (show L.rates.length=1∨L.rates.length=2∨L.rates.length=3 by omega) with hW|hW|hW
    · have hq:List.take L.rates.length [AV.row 2,AV.row 3,AV.row 4]=[AV.row 2]:=by rw [hW];rfl
      have hl:rkvL L.rates=[[.sl (rkv L.rates L.rates.length 0)]]:=by unfold rkvL;rw [hW];rfl
      (refine Le.ok (fun j=>if j=0 then some 0 else if j=1 then some 5 else if j=2 then some 1 else none) [2,3,4] ?_;constructor;all_goals (try simp only [vle,vkt,seval,tbL11_5,xbL11_1,cwH,cwT,cwS1,cwS2,cwS3,cwS4,cwS5,cwS6,renL_ridR,ids3R,lgDH,tyD,ti55d,gIntss,eIntss,p27d,p31d,p37,c33,c34,c35,List.map_nil]))
      all_goals first|rfl|(rw [hq,hl];simp only [rowsLe,AV.le];exact ⟨⟨_,_,rfl⟩,trivial⟩)
    · have hq:List.take L.rates.length [AV.row 2,AV.row 3,AV.row 4]=[AV.row 2,AV.row 3]:=by rw [hW];rfl
      have hl:rkvL L.rates=[[.sl (rkv L.rates L.rates.length 0)],[.sl (rkv L.rates L.rates.length 1)]]:=by unfold rkvL;rw [hW];rfl
      (refine Le.ok (fun j=>if j=0 then some 0 else if j=1 then some 5 else if j=2 then some 1 else none) [2,3,4] ?_;constructor;all_goals (try simp only [vle,vkt,seval,tbL11_5,xbL11_1,cwH,cwT,cwS1,cwS2,cwS3,cwS4,cwS5,cwS6,renL_ridR,ids3R,lgDH,tyD,ti55d,gIntss,eIntss,p27d,p31d,p37,c33,c34,c35,List.map_nil]))
      all_goals first|rfl|(rw [hq,hl];simp only [rowsLe,AV.le];exact ⟨⟨_,_,rfl⟩,⟨_,_,rfl⟩,trivial⟩)
    · have hq:List.take L.rates.length [AV.row 2,AV.row 3,AV.row 4]=[AV.row 2,AV.row 3,AV.row 4]:=by rw [hW];rfl
      have hl:rkvL L.rates=[[.sl (rkv L.rates L.rates.length 0)],[.sl (rkv L.rates L.rates.length 1)],[.sl (rkv L.rates L.rates.length 2)]]:=by unfold rkvL;rw [hW];rfl
      (refine Le.ok (fun j=>if j=0 then some 0 else if j=1 then some 5 else if j=2 then some 1 else none) [2,3,4] ?_;constructor;all_goals (try simp only [vle,vkt,seval,tbL11_5,xbL11_1,cwH,cwT,cwS1,cwS2,cwS3,cwS4,cwS5,cwS6,renL_ridR,ids3R,lgDH,tyD,ti55d,gIntss,eIntss,p27d,p31d,p37,c33,c34,c35,List.map_nil]))
      all_goals first|rfl|(rw [hq,hl];simp only [rowsLe,AV.le];exact ⟨⟨_,_,rfl⟩,⟨_,_,rfl⟩,⟨_,_,rfl⟩,trivial⟩)
  · rw [hF]
    (refine Le.ok some [2] ?_;constructor;all_goals (try simp only [vle,vkt,seval,tbL11_5,xbL11_1,cwH,cwT,cwS1,cwS2,cwS3,cwS4,cwS5,cwS6,renL_ridR,ids3R,lgDH,tyD,ti55d,gIntss,eIntss,p27d,p31d,p37,c33,c34,c35,List.map_nil]))
    all_goals first|rfl|exact ⟨_,_,rfl⟩|(simp;done)
  have d0:decide (((badL L).length:Int) < ((wrongL L).length:Int))=false:=decide_eq_false (by omega)
  obtain ⟨B,hBB⟩:∃ B,badL L=B:=⟨_,rfl⟩
  obtain ⟨w,hw⟩:∃ w,wrongL L=w:=⟨_,rfl⟩
  have hup:∀ k,k+1 < B.length→B.getD k 0 < B.getD (k+1) 0:=fun k hk=>by rw [← hBB] at hk ⊢;exact badL_up hk
  have hbm:∀ n ∈ B,∃ i:Nat,n=i∧i < L.entries.length∧(L.entries.getD i default).kind=3:=fun n hn=>by
    rw [← hBB] at hn
    obtain ⟨i,h1,h2,h3⟩:=badL_mem hn
    exact ⟨i,h1,h2,isBad_kind h3⟩
  have hw2:∀ p ∈ w,p.length=2:=fun p hp=>by rw [← hw] at hp;exact pairs_2 (hwp p hp)
  have hno:=F.no
  have hni:=F.ni
  rw [hBB] at d0 hB hBl hmB hch hno hni
  rw [hw] at d0 hWr hwl hww
  have hhw:hitB L B w=true:=by rw [hww];exact hch
  clear hmin F hwp hmem
  repeat' (first|(apply nx;with_reducible constructor)|refine uq (by decide) ?_)
  (refine vx env fun Q hQ=>?_;simp only [vkt,seval,tbL11_5,xbL11_1,cwH,cwT,cwS1,cwS2,cwS3,cwS4,cwS5,cwS6,renL_ridR,ids3R,lgDH,tyD,ti55d,gIntss,eIntss,p27d,p31d,p37,c33,c34,c35,List.map_nil,hchk,hBB];(try simp only [ite_and]);(repeat' (first|with_reducible assumption|refine And.intro ?_ ?_|intro hp));all_goals (first|(refine hQ _ ?_;clear hQ Q)|(refine vq ?_;kernel_rfl)|omega|assumption|with_reducible rfl|skip))
  repeat' (first|(apply nx;with_reducible constructor)|refine uq (by decide) ?_)
  (refine vx env fun Q hQ=>?_;simp only [vkt,seval,tbL11_5,xbL11_1,cwH,cwT,cwS1,cwS2,cwS3,cwS4,cwS5,cwS6,renL_ridR,ids3R,lgDH,tyD,ti55d,gIntss,eIntss,p27d,p31d,p37,c33,c34,c35,List.map_nil,hWr];(try simp only [ite_and]);(repeat' (first|with_reducible assumption|refine And.intro ?_ ?_|intro hp));all_goals (first|(refine hQ _ ?_;clear hQ Q)|(refine vq ?_;kernel_rfl)|omega|assumption|with_reducible rfl|skip))
  repeat' (first|(apply nx;with_reducible constructor)|refine uq (by decide) ?_)
  (refine vx env fun Q hQ=>?_;simp only [vkt,seval,tbL11_5,xbL11_1,cwH,cwT,cwS1,cwS2,cwS3,cwS4,cwS5,cwS6,renL_ridR,ids3R,lgDH,tyD,ti55d,gIntss,eIntss,p27d,p31d,p37,c33,c34,c35,List.map_nil,d0];(try simp only [ite_and]);(repeat' (first|with_reducible assumption|refine And.intro ?_ ?_|intro hp));all_goals (first|(refine hQ _ ?_;clear hQ Q)|(refine vq ?_;kernel_rfl)|omega|assumption|with_reducible rfl|skip))
  repeat' (first|(apply nx;with_reducible constructor)|refine uq (by decide) ?_)
  (refine sym_cd (by simp only [vkt,seval,tbL11_5,xbL11_1,cwH,cwT,cwS1,cwS2,cwS3,cwS4,cwS5,cwS6,renL_ridR,ids3R,lgDH,tyD,ti55d,gIntss,eIntss,p27d,p31d,p37,c33,c34,c35,List.map_nil];rfl) (fun h=>?_) (fun h=>?_) <;> (try simp only [vki,reduceCtorEq] at h))
  repeat' (first|(apply nx;with_reducible constructor)|refine uq (by decide) ?_)
  (refine vx env fun Q hQ=>?_;simp only [vkt,seval,tbL11_5,xbL11_1,cwH,cwT,cwS1,cwS2,cwS3,cwS4,cwS5,cwS6,renL_ridR,ids3R,lgDH,tyD,ti55d,gIntss,eIntss,p27d,p31d,p37,c33,c34,c35,List.map_nil];(try simp only [ite_and]);(repeat' (first|with_reducible assumption|refine And.intro ?_ ?_|intro hp));all_goals (first|(refine hQ _ ?_;clear hQ Q)|(refine vq ?_;kernel_rfl)|omega|assumption|with_reducible rfl|skip))
  repeat' (first|(apply nx;with_reducible constructor)|refine uq (by decide) ?_)
  refine sym_loop (fun k:{ k:Nat // k≤B.length }=>cwS3 L y B w k.1) (fun k=>B.length - k.1) ⟨0,Nat.zero_le _⟩ ?_ fun ⟨k,hk⟩=>?_
  · (refine Le.ok some [] ?_;constructor;all_goals (try simp only [vle,vkt,seval,tbL11_5,xbL11_1,cwH,cwT,cwS1,cwS2,cwS3,cwS4,cwS5,cwS6,renL_ridR,ids3R,lgDH,tyD,ti55d,gIntss,eIntss,p27d,p31d,p37,c33,c34,c35,List.map_nil]))
    all_goals first|rfl|(simp;done)
  have hle:=hV.e
  by_cases hlt:k < B.length
  · obtain ⟨j,hj,hjl,hjk⟩:=hbm _ (gMem (l:=B) (k:=k) (d:=0) hlt)
    have d1:decide ((k:Int) < (B.length:Int))=true:=decide_eq_true (by omega)
    have e9:=wrap_succ hlt (show B.length≤maxLen by omega)
    have d2:decide ((j:Int) < 0)=false:=decide_eq_false (by omega)
    have d3:decide ((L.entries.length:Int)≤(j:Int))=false:=decide_eq_false (by omega)
    have d4:decide ((L.entries.getD j default).kind=3)=true:=decide_eq_true hjk
    by_cases hk0:k=0
    · have d5:decide ((0:Int) < (k:Int))=false:=decide_eq_false (by omega)
      repeat' (first|(apply nx;with_reducible constructor)|refine uq (by decide) ?_|((first|refine vx env fun Q hQ=>?_|refine vz fun Q hQ=>?_);simp only [vkt,seval,tbL11_5,xbL11_1,cwH,cwT,cwS1,cwS2,cwS3,cwS4,cwS5,cwS6,renL_ridR,ids3R,lgDH,tyD,ti55d,gIntss,eIntss,p27d,p31d,p37,c33,c34,c35,List.map_nil,d1,e9,hj,d2,d3,d4,d5];(try simp only [ite_and]);(repeat' (first|with_reducible assumption|refine And.intro ?_ ?_));all_goals (first|(refine hQ _ ?_;clear hQ Q)|(refine hQ _ (fun h=>?_) (fun h=>?_) <;> clear hQ Q <;> (try simp only [vki,reduceCtorEq] at h))|(refine vq ?_;kernel_rfl)|omega|with_reducible assumption|with_reducible rfl|skip)))
      refine ⟨⟨k+1,hlt⟩,by show B.length - (k+1) < B.length - k;omega, ?_⟩
      (refine Le.ok some [] ?_;constructor;all_goals (try simp only [vle,vkt,seval,tbL11_5,xbL11_1,cwH,cwT,cwS1,cwS2,cwS3,cwS4,cwS5,cwS6,renL_ridR,ids3R,lgDH,tyD,ti55d,gIntss,eIntss,p27d,p31d,p37,c33,c34,c35,List.map_nil]))
      all_goals first|rfl|(simp;done)
    · have d5:decide ((0:Int) < (k:Int))=true:=decide_eq_true (by omega)
      have e5:IntKind.wrap .i64 ((k:Int) - 1)=((k - 1:Nat):Int):=by rw [wrap64 (by omega) (by omega)];omega
      have u1:=hup (k - 1) (by omega)
      rw [show k - 1+1=k by omega,hj] at u1
      have lt1:k - 1 < B.length:=by omega
      have d6:decide ((j:Int)≤B.getD (k - 1) 0)=false:=decide_eq_false (by omega)
      repeat' (first|(apply nx;with_reducible constructor)|refine uq (by decide) ?_|((first|refine vx env fun Q hQ=>?_|refine vz fun Q hQ=>?_);simp only [vkt,seval,tbL11_5,xbL11_1,cwH,cwT,cwS1,cwS2,cwS3,cwS4,cwS5,cwS6,renL_ridR,ids3R,lgDH,tyD,ti55d,gIntss,eIntss,p27d,p31d,p37,c33,c34,c35,List.map_nil,d1,e9,hj,d2,d3,d4,d5,e5,d6];(try simp only [ite_and]);(repeat' (first|with_reducible assumption|refine And.intro ?_ ?_));all_goals (first|(refine hQ _ ?_;clear hQ Q)|(refine hQ _ (fun h=>?_) (fun h=>?_) <;> clear hQ Q <;> (try simp only [vki,reduceCtorEq] at h))|(refine vq ?_;kernel_rfl)|omega|with_reducible assumption|with_reducible rfl|skip)))
      refine ⟨⟨k+1,hlt⟩,by show B.length - (k+1) < B.length - k;omega, ?_⟩
      (refine Le.ok some [] ?_;constructor;all_goals (try simp only [vle,vkt,seval,tbL11_5,xbL11_1,cwH,cwT,cwS1,cwS2,cwS3,cwS4,cwS5,cwS6,renL_ridR,ids3R,lgDH,tyD,ti55d,gIntss,eIntss,p27d,p31d,p37,c33,c34,c35,List.map_nil]))
      all_goals first|rfl|(simp;done)
  have d1:decide ((k:Int) < (B.length:Int))=false:=decide_eq_false (by omega)
  have hw6:w.length≤6:=by omega
  repeat' (first|(apply nx;with_reducible constructor)|refine uq (by decide) ?_|((first|refine vx env fun Q hQ=>?_|refine vz fun Q hQ=>?_);simp only [vkt,seval,tbL11_5,xbL11_1,cwH,cwT,cwS1,cwS2,cwS3,cwS4,cwS5,cwS6,renL_ridR,ids3R,lgDH,tyD,ti55d,gIntss,eIntss,p27d,p31d,p37,c33,c34,c35,List.map_nil,d1];(try simp only [ite_and]);(repeat' (first|with_reducible assumption|refine And.intro ?_ ?_));all_goals (first|(refine hQ _ ?_;clear hQ Q)|(refine hQ _ (fun h=>?_) (fun h=>?_) <;> clear hQ Q <;> (try simp only [vki,reduceCtorEq] at h))|(refine vq ?_;kernel_rfl)|omega|with_reducible assumption|with_reducible rfl|skip)))
  clear d1
  refine sym_loop (fun k:{ k:Nat // k≤w.length }=>cwS4 L y B w k.1) (fun k=>w.length - k.1) ⟨0,Nat.zero_le _⟩ ?_ fun ⟨k,hk⟩=>?_
  · (refine Le.ok some [] ?_;constructor;all_goals (try simp only [vle,vkt,seval,tbL11_5,xbL11_1,cwH,cwT,cwS1,cwS2,cwS3,cwS4,cwS5,cwS6,renL_ridR,ids3R,lgDH,tyD,ti55d,gIntss,eIntss,p27d,p31d,p37,c33,c34,c35,List.map_nil]))
    all_goals first|rfl|(simp;done)
  by_cases hlt:k < w.length
  · have d1:decide ((k:Int) < (w.length:Int))=true:=decide_eq_true (by omega)
    have e9:=wrap_succ hlt (show w.length≤maxLen by omega)
    have d2:decide (((w.getD k []).length:Int)=2)=true:=decide_eq_true (by have:=hw2 _ (gMem (l:=w) (k:=k) (d:=[]) hlt);omega)
    repeat' (first|(apply nx;with_reducible constructor)|refine uq (by decide) ?_|((first|refine vx env fun Q hQ=>?_|refine vz fun Q hQ=>?_);simp only [vkt,seval,tbL11_5,xbL11_1,cwH,cwT,cwS1,cwS2,cwS3,cwS4,cwS5,cwS6,renL_ridR,ids3R,lgDH,tyD,ti55d,gIntss,eIntss,p27d,p31d,p37,c33,c34,c35,List.map_nil,d1,e9,d2];(try simp only [ite_and]);(repeat' (first|with_reducible assumption|refine And.intro ?_ ?_));all_goals (first|(refine hQ _ ?_;clear hQ Q)|(refine hQ _ (fun h=>?_) (fun h=>?_) <;> clear hQ Q <;> (try simp only [vki,reduceCtorEq] at h))|(refine vq ?_;kernel_rfl)|omega|with_reducible assumption|with_reducible rfl|skip)))
    refine ⟨⟨k+1,hlt⟩,by show w.length - (k+1) < w.length - k;omega, ?_⟩
    (refine Le.ok some [] ?_;constructor;all_goals (try simp only [vle,vkt,seval,tbL11_5,xbL11_1,cwH,cwT,cwS1,cwS2,cwS3,cwS4,cwS5,cwS6,renL_ridR,ids3R,lgDH,tyD,ti55d,gIntss,eIntss,p27d,p31d,p37,c33,c34,c35,List.map_nil]))
    all_goals first|rfl|(simp;done)
  have d1:decide ((k:Int) < (w.length:Int))=false:=decide_eq_false (by omega)
  have hw100:w.length≤100:=by omega
  have hw2':∀ p ∈ w,2≤p.length:=fun p hp=>by rw [hw2 p hp];exact Nat.le_refl _
  repeat' (first|(apply nx;with_reducible constructor)|refine uq (by decide) ?_|((first|refine vx env fun Q hQ=>?_|refine vz fun Q hQ=>?_);simp only [vkt,seval,tbL11_5,xbL11_1,cwH,cwT,cwS1,cwS2,cwS3,cwS4,cwS5,cwS6,renL_ridR,ids3R,lgDH,tyD,ti55d,gIntss,eIntss,p27d,p31d,p37,c33,c34,c35,List.map_nil,d1,hhw];(try simp only [ite_and]);(repeat' (first|with_reducible assumption|refine And.intro ?_ ?_));all_goals (first|(refine hQ _ ?_;clear hQ Q)|(refine hQ _ (fun h=>?_) (fun h=>?_) <;> clear hQ Q <;> (try simp only [vki,reduceCtorEq] at h))|(refine vq ?_;kernel_rfl)|omega|with_reducible assumption|with_reducible rfl|skip)))
  clear d1
  refine sym_loop (fun k:{ k:Nat // k≤m }=>cwS5 L y B w k.1) (fun k=>m - k.1) ⟨0,Nat.zero_le _⟩ ?_ fun ⟨k,hk⟩=>?_
  · (refine Le.ok some [] ?_;constructor;all_goals (try simp only [vle,vkt,seval,tbL11_5,xbL11_1,cwH,cwT,cwS1,cwS2,cwS3,cwS4,cwS5,cwS6,renL_ridR,ids3R,lgDH,tyD,ti55d,gIntss,eIntss,p27d,p31d,p37,c33,c34,c35,List.map_nil]))
    all_goals first|rfl|(simp;done)
  have d1:decide ((k:Int)≤(w.length:Int))=true:=decide_eq_true (by omega)
  have hCh:ChOk (pairsOf L) k:=⟨hpl,by omega,fun p hp=>by rw [pairs_2 hp];decide⟩
  have k100:k < 100:=by omega
  have lA:(choF k (pairsOf L)).length≤12 ^ 6:=Nat.le_trans (cho_len k _ hpl) (Nat.pow_le_pow_right (by decide) (by omega))
  have hAi:k=m→i0 < (choF k (pairsOf L)).length:=fun h=>by rw [h];exact hi0
  have hAc:∀ c ∈ choF k (pairsOf L),c.length=k∧∀ p ∈ c,2≤p.length:=fun c hc=>⟨cho_mem_len k _ c hc,fun p hp=>by rw [pairs_2 ((cho_le k _ c hc).2 p hp)];exact Nat.le_refl _⟩
  have hA0:k < m→∀ c ∈ choF k (pairsOf L),hitB L B c=false:=fun h=>hno k h
  have hA1:k=m→hitB L B ((choF k (pairsOf L)).getD i0 [])=true∧(choF k (pairsOf L)).getD i0 []=w∧∀ j,j < i0→hitB L B ((choF k (pairsOf L)).getD j [])=false:=fun h=>by subst h;exact ⟨hch,hww.symm,hni⟩
  obtain ⟨A,hA⟩:∃ A,choF k (pairsOf L)=A:=⟨_,rfl⟩
  rw [hA] at lA hAi hAc hA0 hA1
  have lA':A.length≤2985984:=lA
  have bigA:(2985984:Nat)≤maxLen:=by decide
  repeat' (first|(apply nx;with_reducible constructor)|refine uq (by decide) ?_|((first|refine vx env fun Q hQ=>?_|refine vz fun Q hQ=>?_);simp only [vkt,seval,tbL11_5,xbL11_1,cwH,cwT,cwS1,cwS2,cwS3,cwS4,cwS5,cwS6,renL_ridR,ids3R,lgDH,tyD,ti55d,gIntss,eIntss,p27d,p31d,p37,c33,c34,c35,List.map_nil,d1,hA];(try simp only [ite_and]);(repeat' (first|with_reducible assumption|refine And.intro ?_ ?_));all_goals (first|(refine hQ _ ?_;clear hQ Q)|(refine hQ _ (fun h=>?_) (fun h=>?_) <;> clear hQ Q <;> (try simp only [vki,reduceCtorEq] at h))|(refine vq ?_;kernel_rfl)|omega|with_reducible assumption|with_reducible rfl|skip)))
  refine sym_loop (fun j:{ j:Nat // j≤A.length∧(k=m→j≤i0) }=>cwS6 L y B w A k j.1) (fun j=>A.length - j.1) ⟨0,Nat.zero_le _,fun _=>Nat.zero_le _⟩ ?_ fun ⟨j,hj,hj2⟩=>?_
  · (refine Le.ok some [] ?_;constructor;all_goals (try simp only [vle,vkt,seval,tbL11_5,xbL11_1,cwH,cwT,cwS1,cwS2,cwS3,cwS4,cwS5,cwS6,renL_ridR,ids3R,lgDH,tyD,ti55d,gIntss,eIntss,p27d,p31d,p37,c33,c34,c35,List.map_nil]))
    all_goals first|rfl|(simp;done)
  by_cases hlt:j < A.length
  · have d2:decide ((j:Int) < (A.length:Int))=true:=decide_eq_true (by omega)
    have e9:=wrap_succ hlt (show A.length≤maxLen by omega)
    have hcm:=gMem (l:=A) (k:=j) (d:=[]) hlt
    obtain ⟨c1,c2⟩:=hAc _ hcm
    have hA0':=fun h=>hA0 h _ hcm
    obtain ⟨c,hc0⟩:∃ c,A.getD j []=c:=⟨_,rfl⟩
    rw [hc0] at c1 c2 hA0'
    have c3:c.length≤100:=by omega
    have c4:c.length≤maxLen:=by omega
    have c5:∀ p ∈ c,p.length≤maxLen:=fun p hp=>by
      have:p ∈ A.getD j []:=by rw [hc0];exact hp
      have h3:=cho_le k (pairsOf L) _ (by rw [hA];exact hcm)
      have:=pairs_2 (h3.2 p this)
      omega
    by_cases hkm:k=m
    · have d3:decide ((k:Int) < (w.length:Int))=false:=decide_eq_false (by omega)
      have d4:decide ((k:Int)=(w.length:Int))=true:=decide_eq_true (by omega)
      by_cases hji:j=i0
      · have hh:hitB L B c=true:=by rw [← hc0,hji];exact (hA1 hkm).1
        have hcw:c=w:=by rw [← hc0,hji];exact (hA1 hkm).2.1
        have d5:decide (c=w)=true:=decide_eq_true hcw
        repeat' (first|(apply nx;with_reducible constructor)|refine uq (by decide) ?_|((first|refine vx env fun Q hQ=>?_|refine vz fun Q hQ=>?_);simp only [vkt,seval,tbL11_5,xbL11_1,cwH,cwT,cwS1,cwS2,cwS3,cwS4,cwS5,cwS6,renL_ridR,ids3R,lgDH,tyD,ti55d,gIntss,eIntss,p27d,p31d,p37,c33,c34,c35,List.map_nil,d2,hc0,hh,d3,d4,d5];(try simp only [ite_and]);(repeat' (first|with_reducible assumption|refine And.intro ?_ ?_));all_goals (first|(refine hQ _ ?_;clear hQ Q)|(refine hQ _ (fun h=>?_) (fun h=>?_) <;> clear hQ Q <;> (try simp only [vki,reduceCtorEq] at h))|(refine vq ?_;kernel_rfl)|omega|with_reducible assumption|with_reducible rfl|skip)))
        (simp only [vrt,Try.results5,vkt,seval,tbL11_5,xbL11_1,cwH,cwT,cwS1,cwS2,cwS3,cwS4,cwS5,cwS6,renL_ridR,ids3R,lgDH,tyD,ti55d,gIntss,eIntss,p27d,p31d,p37,c33,c34,c35,List.map_nil];refine Fin.val rfl ?_;(try simp only [AV.le,AV.leL]))
        all_goals first|rfl|(simp;done)
      · have hjl:j < i0:=by have:=hj2 hkm;omega
        have hh:hitB L B c=false:=by rw [← hc0];exact (hA1 hkm).2.2 j hjl
        repeat' (first|(apply nx;with_reducible constructor)|refine uq (by decide) ?_|((first|refine vx env fun Q hQ=>?_|refine vz fun Q hQ=>?_);simp only [vkt,seval,tbL11_5,xbL11_1,cwH,cwT,cwS1,cwS2,cwS3,cwS4,cwS5,cwS6,renL_ridR,ids3R,lgDH,tyD,ti55d,gIntss,eIntss,p27d,p31d,p37,c33,c34,c35,List.map_nil,d2,e9,hc0,hh,d3,d4];(try simp only [ite_and]);(repeat' (first|with_reducible assumption|refine And.intro ?_ ?_));all_goals (first|(refine hQ _ ?_;clear hQ Q)|(refine hQ _ (fun h=>?_) (fun h=>?_) <;> clear hQ Q <;> (try simp only [vki,reduceCtorEq] at h))|(refine vq ?_;kernel_rfl)|omega|with_reducible assumption|with_reducible rfl|skip)))
        refine ⟨⟨j+1,hlt,fun _=>hjl⟩,by show A.length - (j+1) < A.length - j;omega, ?_⟩
        (refine Le.ok some [] ?_;constructor;all_goals (try simp only [vle,vkt,seval,tbL11_5,xbL11_1,cwH,cwT,cwS1,cwS2,cwS3,cwS4,cwS5,cwS6,renL_ridR,ids3R,lgDH,tyD,ti55d,gIntss,eIntss,p27d,p31d,p37,c33,c34,c35,List.map_nil]))
        all_goals first|rfl|(simp;done)
    · have hh:hitB L B c=false:=hA0' (by omega)
      have d3:decide ((k:Int) < (w.length:Int))=true:=decide_eq_true (by omega)
      have d4:decide ((k:Int)=(w.length:Int))=false:=decide_eq_false (by omega)
      repeat' (first|(apply nx;with_reducible constructor)|refine uq (by decide) ?_|((first|refine vx env fun Q hQ=>?_|refine vz fun Q hQ=>?_);simp only [vkt,seval,tbL11_5,xbL11_1,cwH,cwT,cwS1,cwS2,cwS3,cwS4,cwS5,cwS6,renL_ridR,ids3R,lgDH,tyD,ti55d,gIntss,eIntss,p27d,p31d,p37,c33,c34,c35,List.map_nil,d2,e9,hc0,hh,d3,d4];(try simp only [ite_and]);(repeat' (first|with_reducible assumption|refine And.intro ?_ ?_));all_goals (first|(refine hQ _ ?_;clear hQ Q)|(refine hQ _ (fun h=>?_) (fun h=>?_) <;> clear hQ Q <;> (try simp only [vki,reduceCtorEq] at h))|(refine vq ?_;kernel_rfl)|omega|with_reducible assumption|with_reducible rfl|skip)))
      refine ⟨⟨j+1,hlt,fun h=>absurd h hkm⟩,by show A.length - (j+1) < A.length - j;omega, ?_⟩
      (refine Le.ok some [] ?_;constructor;all_goals (try simp only [vle,vkt,seval,tbL11_5,xbL11_1,cwH,cwT,cwS1,cwS2,cwS3,cwS4,cwS5,cwS6,renL_ridR,ids3R,lgDH,tyD,ti55d,gIntss,eIntss,p27d,p31d,p37,c33,c34,c35,List.map_nil]))
      all_goals first|rfl|(simp;done)
  have hkm:k < m:=by
    rcases Nat.lt_or_ge k m with h|h
    · exact h
    · have hk':k=m:=by omega
      have:=hj2 hk'
      have:=hAi hk'
      omega
  have d2:decide ((j:Int) < (A.length:Int))=false:=decide_eq_false (by omega)
  have e9:=wrap_succ hkm (show m≤maxLen by omega)
  repeat' (first|(apply nx;with_reducible constructor)|refine uq (by decide) ?_|((first|refine vx env fun Q hQ=>?_|refine vz fun Q hQ=>?_);simp only [vkt,seval,tbL11_5,xbL11_1,cwH,cwT,cwS1,cwS2,cwS3,cwS4,cwS5,cwS6,renL_ridR,ids3R,lgDH,tyD,ti55d,gIntss,eIntss,p27d,p31d,p37,c33,c34,c35,List.map_nil,d2,e9];(try simp only [ite_and]);(repeat' (first|with_reducible assumption|refine And.intro ?_ ?_));all_goals (first|(refine hQ _ ?_;clear hQ Q)|(refine hQ _ (fun h=>?_) (fun h=>?_) <;> clear hQ Q <;> (try simp only [vki,reduceCtorEq] at h))|(refine vq ?_;kernel_rfl)|omega|with_reducible assumption|with_reducible rfl|skip)))
  refine ⟨⟨k+1,hkm⟩,by show m - (k+1) < m - k;omega, ?_⟩
  (refine Le.ok some [] ?_;constructor;all_goals (try simp only [vle,vkt,seval,tbL11_5,xbL11_1,cwH,cwT,cwS1,cwS2,cwS3,cwS4,cwS5,cwS6,renL_ridR,ids3R,lgDH,tyD,ti55d,gIntss,eIntss,p27d,p31d,p37,c33,c34,c35,List.map_nil]))
  all_goals first|rfl|(simp;done)
end Go.Sym.B
