/- Walks and what they compute, joined: part 2. -/
import Derived.Test.YtoapndlmbpphfaaGreatDoorAS3
import Derived.Test.YtoapndlmbpphfaaGreatDoorProg
import Derived.KernelRfl
import Derived.Shelf.Strings.OnBuilder
import Derived.Shelf.Strconv.Itoa3
import Derived.Test.YtoapndlmbpphfaaGreatDoorAB1
set_option linter.all false
namespace Go.Sym.B
open Go Go.Sym Go.Proofs Go.Sym.C
set_option maxRecDepth 100000 in
set_option maxHeartbeats 4000000 in
theorem QcW (l:Led) (c n:Int) (hl:Fit l):FnV Tryz.prog 21 [zL l,aI c,aI n] (Wl l c n):=by
  have env:Env (fun _=>True) Tryz.prog tyB (tab [(39,qo true c86),(58,fnE p87),(42,fnE p88)]):=qY ⟨d86,e87,e88,trivial⟩
  refine Fn.of (A:=fun _=>True) (n0:=0) (D:=noD) (Fn0 Tryz.func21 rfl (fun vs w=>by kernel_rfl) (by kernel_rfl)) (by simp) (by simp [AV.ids,AV.idsL,aI,zL,zh]) (fun i o h=>by cases h) (fun _ _ _ _=>trivial) qA ?_
  have q0:∀ p ∈ ([]:List (List Int)),p.length≤maxLen:=fun p hp=>by simp at hp
  have q1:(0:Nat)≤maxLen:=Nat.zero_le _
  by_cases h0:jM l c n []=0
  · rw [show Wl l c n=_ from if_neg (by rw [h0];simp)]
    obtain ⟨hV,⟨g1,g2⟩,_,hn0,hn1⟩:=VI h0
    obtain ⟨A,rfl⟩:=Int.eq_ofNat_of_zero_le hn0
    rw [Int.toNat_natCast]
    generalize hP:l.coins.getD c.toNat []=ps at *
    have hps:PsOk ps:=hP ▸ YL (hV.cs _ g2)
    have hl1:=hps.l
    have w1:IntKind.wrap .i64 ((ps.length:Int)+1)=((ps.length+1:Nat):Int):=by rw [wrap64 (by omega) (by omega)];rfl
    have w2:IntKind.wrap .i64 ((A:Int)+1)=((A+1:Nat):Int):=by rw [wrap64 (by omega) (by omega)];rfl
    have w3:List.replicate (ps.length+1) AV.nil=tabC (fun _=>.nil) (ps.length+1):=Qdp _
    have w4:=Qbg (g:=fun _=>.nil) (n:=ps.length+1) (k:=ps.length) (v:=.row 3) (by omega)
    have w5:=WW (g:=fun j=>if j=ps.length then .row 3 else .nil) (n:=ps.length+1) (k:=ps.length) (by omega)
    rw [if_pos rfl] at w5
    have w6:(List.replicate (A+1) [.v (.int .i64 (-1))]).set 0 [.v (.int .i64 0)]=(jY (wV []) A).map qp:=row0 A
    have w8:(List.replicate (A+1) [.v (.int .i64 (-1))]).getD 0 []=[DV.v (.int .i64 (-1))]:=by simp [List.getD_eq_getElem?_getD]
    have w7:IntKind.wrap .i64 ((ps.length:Int) - 1)=(ps.length:Int) - 1:=wrap64 (by omega) (by omega)
    have big:(100000:Nat)≤maxLen:=by decide
    have b1:((24:Nat):Int) * ((ps.length+1:Nat):Int)≤140737488355328:=by omega
    have b2:((ps.length+1:Nat):Int)≤maxLen:=by
        have:(20:Nat)≤maxLen:=WM
        omega
    repeat' (first|(apply nx;with_reducible constructor)|refine jq (by decide) ?_|refine zY ?_|refine wI ?_|refine wH ?_|refine wF ?_|((first|refine kx env fun Q hQ=>?_|refine kz fun Q hQ=>?_);simp only [vkt,Nat.reduceEqDiff,Nat.reduceAdd,Nat.reduceMul,Nat.reduceSub,Nat.reduceLeDiff,reduceCtorEq,↓reduceIte,↓reduceDIte,Int.reduceToNat,Int.reduceLE,Int.reduceLT,Int.reduceEq,Int.reduceNeg,qb,q9,List.map_nil,List.length_nil,h0,hP,w1,w2,w3,w4,w5,w6,w7,w8];(try simp only [ite_and]);(repeat' (first|with_reducible assumption|refine And.intro ?_ ?_|intro hp));all_goals (first|(refine hQ _ ?_;clear hQ Q)|(refine hQ _ (fun h=>?_) (fun h=>?_) <;> clear hQ Q <;> (try simp only [vki,reduceCtorEq] at h))|omega|assumption|with_reducible rfl|(refine kq ?_;kernel_rfl)|skip)))
    · exact ⟨_,_,rfl⟩
    · rw [List.length_replicate];omega
    · rw [List.length_replicate];omega
    have hge:∀ q ∈ ps,1≤q:=fun q hq=>(hps.b q hq).1
    have b3:∀ k:Nat,k < ps.length→ps.getD k 0=(((ps.getD k 0).toNat:Nat):Int)∧1≤(ps.getD k 0).toNat∧(ps.getD k 0).toNat≤50:=fun k hk=>by
      have:=hps.b _ (jU (d:=0) hk);omega
    have nd:∀ k a:Nat,-1≤wV (ps.drop k) a∧wV (ps.drop k) a≤a:=fun k a=>VJ (fun q hq=>hge q (List.mem_of_mem_drop hq)) a
    refine qz (fun i:{ i:Nat // i≤ps.length }=>peS1 l c ps A i.1) (fun i=>i.1) ⟨ps.length,Nat.le_refl _⟩ ?_ fun ⟨i,hi⟩=>?_
    · (refine Le.ok some [3] ?_;constructor;all_goals (try simp only [vle,vkt,Nat.reduceEqDiff,Nat.reduceAdd,Nat.reduceMul,Nat.reduceSub,Nat.reduceLeDiff,reduceCtorEq,↓reduceIte,↓reduceDIte,Int.reduceToNat,Int.reduceLE,Int.reduceLT,Int.reduceEq,Int.reduceNeg,qb,q9,List.map_nil,List.length_nil]))
      all_goals first|rfl|(simp [upd];done)|exact yz|exact Qh7 rfl rfl
    · repeat' (first|(apply nx;with_reducible constructor)|refine jq (by decide) ?_|refine zY ?_|refine wI ?_|refine wH ?_|refine wF ?_)
      (refine kx env fun Q hQ=>?_;simp only [vkt,Nat.reduceEqDiff,Nat.reduceAdd,Nat.reduceMul,Nat.reduceSub,Nat.reduceLeDiff,reduceCtorEq,↓reduceIte,↓reduceDIte,Int.reduceToNat,Int.reduceLE,Int.reduceLT,Int.reduceEq,Int.reduceNeg,qb,q9,List.map_nil,List.length_nil];(try simp only [ite_and]);(repeat' (first|with_reducible assumption|refine And.intro ?_ ?_|intro hp));all_goals (first|(refine hQ _ ?_;clear hQ Q)|omega|assumption|with_reducible rfl|(refine kq ?_;kernel_rfl)|skip))
      repeat' (first|(apply nx;with_reducible constructor)|refine jq (by decide) ?_|refine zY ?_|refine wI ?_|refine wH ?_|refine wF ?_)
      (refine wh (by simp only [vkt,Nat.reduceEqDiff,Nat.reduceAdd,Nat.reduceMul,Nat.reduceSub,Nat.reduceLeDiff,reduceCtorEq,↓reduceIte,↓reduceDIte,Int.reduceToNat,Int.reduceLE,Int.reduceLT,Int.reduceEq,Int.reduceNeg,qb,q9,List.map_nil,List.length_nil];rfl) (fun h=>?_) (fun h=>?_) <;> (try simp only [vki,reduceCtorEq] at h))
      · obtain ⟨m,rfl⟩:∃ m,i=m+1:=⟨i - 1,by omega⟩
        have e1:((m+1:Nat):Int) - 1=(m:Int):=by omega
        have e2:IntKind.wrap .i64 ((m:Int)+1)=((m+1:Nat):Int):=by rw [wrap64 (by omega) (by omega)];rfl
        have v1:List.take 1 (List.drop ((m+1) * 1) (tabC (tbG ps A (m+1)) (ps.length+1)))=[.sl ((jY (wV (ps.drop (m+1))) A).map qp)]:=by rw [WW (by omega),tbG,if_neg (by omega)]
        have v2:List.take (m * 1) (tabC (tbG ps A (m+1)) (ps.length+1))++[.row 2]++List.drop (m * 1+1) (tabC (tbG ps A (m+1)) (ps.length+1))=tabC (tbH ps A m 2) (ps.length+1):=Qbg (by omega)
        obtain ⟨p1,p2,p3⟩:=b3 m (by omega)
        obtain ⟨p,hp⟩:∃ p:Nat,ps.getD m 0=(p:Int):=⟨_,p1⟩
        rw [hp,Int.toNat_natCast] at p2 p3
        have r1:=Ji (wV (ps.drop (m+1))) A
        have m2:(A+1) * 8≤140737488355328∧A+1≤maxLen:=by omega
        have lt1:m < ps.length:=by omega
        have fl:=nd (m+1)
        have nm:∀ a,wV (ps.drop m) a=gN p (wV (ps.drop (m+1))) a:=fun a=>by rw [JG lt1,hp,Int.toNat_natCast]
        repeat' (first|(apply nx;with_reducible constructor)|refine jq (by decide) ?_|refine zY ?_|refine wI ?_|refine wH ?_|refine wF ?_|((first|refine kx env fun Q hQ=>?_|refine kz fun Q hQ=>?_);simp only [vkt,Nat.reduceEqDiff,Nat.reduceAdd,Nat.reduceMul,Nat.reduceSub,Nat.reduceLeDiff,reduceCtorEq,↓reduceIte,↓reduceDIte,Int.reduceToNat,Int.reduceLE,Int.reduceLT,Int.reduceEq,Int.reduceNeg,qb,q9,List.map_nil,List.length_nil,e1,e2,v1,v2,hp];(try simp only [ite_and]);(repeat' (first|with_reducible assumption|refine And.intro ?_ ?_|intro hp));all_goals (first|(refine hQ _ ?_;clear hQ Q)|(refine hQ _ (fun h=>?_) (fun h=>?_) <;> clear hQ Q <;> (try simp only [vki,reduceCtorEq] at h))|omega|assumption|with_reducible rfl|(refine kq ?_;kernel_rfl)|skip)))
        generalize hf:wV (ps.drop (m+1))=f at *
        refine qz (fun n:{ n:Nat // p≤n }=>peS2 l c ps A p m n.1) (fun n=>A+1 - n.1) ⟨p,Nat.le_refl _⟩ ?_ fun ⟨n,hn⟩=>?_
        · (refine Le.ok some [] ?_;constructor;all_goals (try simp only [vle,vkt,Nat.reduceEqDiff,Nat.reduceAdd,Nat.reduceMul,Nat.reduceSub,Nat.reduceLeDiff,reduceCtorEq,↓reduceIte,↓reduceDIte,Int.reduceToNat,Int.reduceLE,Int.reduceLT,Int.reduceEq,Int.reduceNeg,qb,q9,List.map_nil,List.length_nil]))
          all_goals first|rfl|(simp [upd];done)|exact ⟨Q4 rfl,by rw [hf,Qcm]⟩|exact ⟨by decide,Jn (by decide)⟩|skip
        · unfold peS2
          rw [hf]
          repeat' (first|(apply nx;with_reducible constructor)|refine jq (by decide) ?_|refine zY ?_|refine wI ?_|refine wH ?_|refine wF ?_)
          (refine kx env fun Q hQ=>?_;simp only [vkt,Nat.reduceEqDiff,Nat.reduceAdd,Nat.reduceMul,Nat.reduceSub,Nat.reduceLeDiff,reduceCtorEq,↓reduceIte,↓reduceDIte,Int.reduceToNat,Int.reduceLE,Int.reduceLT,Int.reduceEq,Int.reduceNeg,qb,q9,List.map_nil,List.length_nil];(try simp only [ite_and]);(repeat' (first|with_reducible assumption|refine And.intro ?_ ?_|intro hp));all_goals (first|(refine hQ _ ?_;clear hQ Q)|omega|assumption|with_reducible rfl|(refine kq ?_;kernel_rfl)|skip))
          repeat' (first|(apply nx;with_reducible constructor)|refine jq (by decide) ?_|refine zY ?_|refine wI ?_|refine wH ?_|refine wF ?_)
          (refine wh (by simp only [vkt,Nat.reduceEqDiff,Nat.reduceAdd,Nat.reduceMul,Nat.reduceSub,Nat.reduceLeDiff,reduceCtorEq,↓reduceIte,↓reduceDIte,Int.reduceToNat,Int.reduceLE,Int.reduceLT,Int.reduceEq,Int.reduceNeg,qb,q9,List.map_nil,List.length_nil];rfl) (fun h=>?_) (fun h=>?_) <;> (try simp only [vki,reduceCtorEq] at h))
          · have hna:n≤A:=by omega
            have hgl:=QdF p2 (fun a=>(fl a).1)
            have hgu:=Qg1 p2 (fun a=>(fl a).2)
            have u1:IntKind.wrap .i64 ((n:Int) - (p:Int))=((n - p:Nat):Int):=by rw [wrap64 (by omega) (by omega)];omega
            have v3:List.take 1 (List.drop (m * 1) (tabC (tbH ps A m 2) (ps.length+1)))=[.row 2]:=by rw [WW (by omega),tbH,if_pos rfl]
            have r2:=Ji (Qq p f n) A
            have k1:((jY (Qq p f n) A).map qp).getD (n - p) []=[.v (.int .i64 (gN p f (n - p)))]:=by rw [gI0 (by omega),W9 (by omega),Qq,if_pos (by omega)];rfl
            have k2:((jY (Qq p f n) A).map qp).getD n []=[.v (.int .i64 (f n))]:=by rw [gI0 (by omega),W9 (by omega),Qq,if_neg (by omega)];rfl
            have g1:=hgl (n - p)
            have g2:=hgu (n - p)
            have u2:IntKind.wrap .i64 (gN p f (n - p)+1)=gN p f (n - p)+1:=wrap64 (by omega) (by omega)
            have u3:IntKind.wrap .i64 ((n:Int)+1)=((n+1:Nat):Int):=by rw [wrap64 (by omega) (by omega)];rfl
            have gn:=Yv (f:=f) p2 hn
            unfold KS at gn
            have stay:¬ (0≤gN p f (n - p)∧(f n < 0∨gN p f (n - p)+1 < f n))→jY (Qq p f n) A=jY (Qq p f (n+1)) A:=fun h=>QfE (by rw [gn,if_neg h])
            have move:(0≤gN p f (n - p)∧(f n < 0∨gN p f (n - p)+1 < f n))→(jY (Qq p f n) A).set n (gN p f (n - p)+1)=jY (Qq p f (n+1)) A:=fun h=>QgB (by rw [gn,if_pos h])
            by_cases c1:0≤gN p f (n - p)
            · by_cases c2:f n < 0
              · have mv:=move ⟨c1,.inl c2⟩
                repeat' (first|(apply nx;with_reducible constructor)|refine jq (by decide) ?_|refine zY ?_|refine wI ?_|refine wH ?_|refine wF ?_|((first|refine kx env fun Q hQ=>?_|refine kz fun Q hQ=>?_);simp only [vkt,Nat.reduceEqDiff,Nat.reduceAdd,Nat.reduceMul,Nat.reduceSub,Nat.reduceLeDiff,reduceCtorEq,↓reduceIte,↓reduceDIte,Int.reduceToNat,Int.reduceLE,Int.reduceLT,Int.reduceEq,Int.reduceNeg,qb,q9,List.map_nil,List.length_nil,u1,u2,u3,v3,k1,k2,r2,c1,c2,hp,mv];(try simp only [ite_and]);(repeat' (first|with_reducible assumption|refine And.intro ?_ ?_|intro hp));all_goals (first|(refine hQ _ ?_;clear hQ Q)|(refine hQ _ (fun h=>?_) (fun h=>?_) <;> clear hQ Q <;> (try simp only [vki,reduceCtorEq] at h))|omega|assumption|with_reducible rfl|(refine kq ?_;kernel_rfl)|skip)))
                refine ⟨⟨n+1,by omega⟩,by show A+1 - (n+1) < A+1 - n;omega, ?_⟩
                (refine Le.ok some [] ?_;constructor;all_goals (try simp only [vle,vkt,Nat.reduceEqDiff,Nat.reduceAdd,Nat.reduceMul,Nat.reduceSub,Nat.reduceLeDiff,reduceCtorEq,↓reduceIte,↓reduceDIte,Int.reduceToNat,Int.reduceLE,Int.reduceLT,Int.reduceEq,Int.reduceNeg,qb,q9,List.map_nil,List.length_nil]))
                all_goals first|rfl|(simp [upd];done)|exact Q4 rfl|exact ⟨Q4 rfl,by rw [hf]⟩|exact ⟨by decide,Jn (by decide)⟩
              · by_cases c3:gN p f (n - p)+1 < f n
                · have mv:=move ⟨c1,.inr c3⟩
                  repeat' (first|(apply nx;with_reducible constructor)|refine jq (by decide) ?_|refine zY ?_|refine wI ?_|refine wH ?_|refine wF ?_|((first|refine kx env fun Q hQ=>?_|refine kz fun Q hQ=>?_);simp only [vkt,Nat.reduceEqDiff,Nat.reduceAdd,Nat.reduceMul,Nat.reduceSub,Nat.reduceLeDiff,reduceCtorEq,↓reduceIte,↓reduceDIte,Int.reduceToNat,Int.reduceLE,Int.reduceLT,Int.reduceEq,Int.reduceNeg,qb,q9,List.map_nil,List.length_nil,u1,u2,u3,v3,k1,k2,r2,c1,c2,c3,hp,mv];(try simp only [ite_and]);(repeat' (first|with_reducible assumption|refine And.intro ?_ ?_|intro hp));all_goals (first|(refine hQ _ ?_;clear hQ Q)|(refine hQ _ (fun h=>?_) (fun h=>?_) <;> clear hQ Q <;> (try simp only [vki,reduceCtorEq] at h))|omega|assumption|with_reducible rfl|(refine kq ?_;kernel_rfl)|skip)))
                  refine ⟨⟨n+1,by omega⟩,by show A+1 - (n+1) < A+1 - n;omega, ?_⟩
                  (refine Le.ok some [] ?_;constructor;all_goals (try simp only [vle,vkt,Nat.reduceEqDiff,Nat.reduceAdd,Nat.reduceMul,Nat.reduceSub,Nat.reduceLeDiff,reduceCtorEq,↓reduceIte,↓reduceDIte,Int.reduceToNat,Int.reduceLE,Int.reduceLT,Int.reduceEq,Int.reduceNeg,qb,q9,List.map_nil,List.length_nil]))
                  all_goals first|rfl|(simp [upd];done)|exact Q4 rfl|exact ⟨Q4 rfl,by rw [hf]⟩|exact ⟨by decide,Jn (by decide)⟩
                · have st:=stay fun h=>by omega
                  repeat' (first|(apply nx;with_reducible constructor)|refine jq (by decide) ?_|refine zY ?_|refine wI ?_|refine wH ?_|refine wF ?_|((first|refine kx env fun Q hQ=>?_|refine kz fun Q hQ=>?_);simp only [vkt,Nat.reduceEqDiff,Nat.reduceAdd,Nat.reduceMul,Nat.reduceSub,Nat.reduceLeDiff,reduceCtorEq,↓reduceIte,↓reduceDIte,Int.reduceToNat,Int.reduceLE,Int.reduceLT,Int.reduceEq,Int.reduceNeg,qb,q9,List.map_nil,List.length_nil,u1,u2,u3,v3,k1,k2,r2,c1,c2,c3,hp];(try simp only [ite_and]);(repeat' (first|with_reducible assumption|refine And.intro ?_ ?_|intro hp));all_goals (first|(refine hQ _ ?_;clear hQ Q)|(refine hQ _ (fun h=>?_) (fun h=>?_) <;> clear hQ Q <;> (try simp only [vki,reduceCtorEq] at h))|omega|assumption|with_reducible rfl|(refine kq ?_;kernel_rfl)|skip)))
                  refine ⟨⟨n+1,by omega⟩,by show A+1 - (n+1) < A+1 - n;omega, ?_⟩
                  (refine Le.ok some [] ?_;constructor;all_goals (try simp only [vle,vkt,Nat.reduceEqDiff,Nat.reduceAdd,Nat.reduceMul,Nat.reduceSub,Nat.reduceLeDiff,reduceCtorEq,↓reduceIte,↓reduceDIte,Int.reduceToNat,Int.reduceLE,Int.reduceLT,Int.reduceEq,Int.reduceNeg,qb,q9,List.map_nil,List.length_nil]))
                  all_goals first|rfl|(simp [upd];done)|exact ⟨Q4 rfl,by rw [st]⟩|exact ⟨Q4 rfl,by rw [hf,st]⟩|exact ⟨by decide,Jn (by decide)⟩
            · have st:=stay fun h=>by omega
              repeat' (first|(apply nx;with_reducible constructor)|refine jq (by decide) ?_|refine zY ?_|refine wI ?_|refine wH ?_|refine wF ?_|((first|refine kx env fun Q hQ=>?_|refine kz fun Q hQ=>?_);simp only [vkt,Nat.reduceEqDiff,Nat.reduceAdd,Nat.reduceMul,Nat.reduceSub,Nat.reduceLeDiff,reduceCtorEq,↓reduceIte,↓reduceDIte,Int.reduceToNat,Int.reduceLE,Int.reduceLT,Int.reduceEq,Int.reduceNeg,qb,q9,List.map_nil,List.length_nil,u1,u2,u3,v3,k1,k2,r2,c1,hp];(try simp only [ite_and]);(repeat' (first|with_reducible assumption|refine And.intro ?_ ?_|intro hp));all_goals (first|(refine hQ _ ?_;clear hQ Q)|(refine hQ _ (fun h=>?_) (fun h=>?_) <;> clear hQ Q <;> (try simp only [vki,reduceCtorEq] at h))|omega|assumption|with_reducible rfl|(refine kq ?_;kernel_rfl)|skip)))
              refine ⟨⟨n+1,by omega⟩,by show A+1 - (n+1) < A+1 - n;omega, ?_⟩
              (refine Le.ok some [] ?_;constructor;all_goals (try simp only [vle,vkt,Nat.reduceEqDiff,Nat.reduceAdd,Nat.reduceMul,Nat.reduceSub,Nat.reduceLeDiff,reduceCtorEq,↓reduceIte,↓reduceDIte,Int.reduceToNat,Int.reduceLE,Int.reduceLT,Int.reduceEq,Int.reduceNeg,qb,q9,List.map_nil,List.length_nil]))
              all_goals first|rfl|(simp [upd];done)|exact ⟨Q4 rfl,by rw [st]⟩|exact ⟨Q4 rfl,by rw [hf,st]⟩|exact ⟨by decide,Jn (by decide)⟩
          · have he:jY (Qq p f n) A=jY (wV (ps.drop m)) A:=by rw [Qgo (by omega)];exact Qa fun a _=>(nm a).symm
            have u1:IntKind.wrap .i64 ((m:Int) - 1)=(m:Int) - 1:=wrap64 (by omega) (by omega)
            repeat' (first|(apply nx;with_reducible constructor)|refine jq (by decide) ?_|refine zY ?_|refine wI ?_|refine wH ?_|refine wF ?_|((first|refine kx env fun Q hQ=>?_|refine kz fun Q hQ=>?_);simp only [vkt,Nat.reduceEqDiff,Nat.reduceAdd,Nat.reduceMul,Nat.reduceSub,Nat.reduceLeDiff,reduceCtorEq,↓reduceIte,↓reduceDIte,Int.reduceToNat,Int.reduceLE,Int.reduceLT,Int.reduceEq,Int.reduceNeg,qb,q9,List.map_nil,List.length_nil,he,u1];(try simp only [ite_and]);(repeat' (first|with_reducible assumption|refine And.intro ?_ ?_|intro hp));all_goals (first|(refine hQ _ ?_;clear hQ Q)|(refine hQ _ (fun h=>?_) (fun h=>?_) <;> clear hQ Q <;> (try simp only [vki,reduceCtorEq] at h))|omega|assumption|with_reducible rfl|(refine kq ?_;kernel_rfl)|skip)))
            refine ⟨⟨m,by omega⟩,by show m < m+1;omega, ?_⟩
            (refine Le.ok some [2] ?_;constructor;all_goals (try simp only [vle,vkt,Nat.reduceEqDiff,Nat.reduceAdd,Nat.reduceMul,Nat.reduceSub,Nat.reduceLeDiff,reduceCtorEq,↓reduceIte,↓reduceDIte,Int.reduceToNat,Int.reduceLE,Int.reduceLT,Int.reduceEq,Int.reduceNeg,qb,q9,List.map_nil,List.length_nil]))
            all_goals first|rfl|(simp [upd];done)|exact Qhi rfl|exact yz|exact ⟨by decide,yz⟩
      · have:i=0:=by omega
        subst this
        have h00:0≤wV ps A:=Qdj hge hps.one hps.l.1 A
        repeat' (first|(apply nx;with_reducible constructor)|refine jq (by decide) ?_|refine zY ?_|refine wI ?_|refine wH ?_|refine wF ?_|((first|refine kx env fun Q hQ=>?_|refine kz fun Q hQ=>?_);simp only [vkt,Nat.reduceEqDiff,Nat.reduceAdd,Nat.reduceMul,Nat.reduceSub,Nat.reduceLeDiff,reduceCtorEq,↓reduceIte,↓reduceDIte,Int.reduceToNat,Int.reduceLE,Int.reduceLT,Int.reduceEq,Int.reduceNeg,qb,q9,List.map_nil,List.length_nil];(try simp only [ite_and]);(repeat' (first|with_reducible assumption|refine And.intro ?_ ?_|intro hp));all_goals (first|(refine hQ _ ?_;clear hQ Q)|(refine hQ _ (fun h=>?_) (fun h=>?_) <;> clear hQ Q <;> (try simp only [vki,reduceCtorEq] at h))|omega|assumption|with_reducible rfl|(refine kq ?_;kernel_rfl)|skip)))
        refine qz (fun i:{ i:Nat // i≤ps.length }=>peS3 l c ps A i.1) (fun i=>ps.length - i.1) ⟨0,Nat.zero_le _⟩ ?_ fun ⟨i,hi⟩=>?_
        · (refine Le.ok (fun j=>if j=2 then none else some j) [] ?_;constructor;all_goals (try simp only [vle,vkt,Nat.reduceEqDiff,Nat.reduceAdd,Nat.reduceMul,Nat.reduceSub,Nat.reduceLeDiff,reduceCtorEq,↓reduceIte,↓reduceDIte,Int.reduceToNat,Int.reduceLE,Int.reduceLT,Int.reduceEq,Int.reduceNeg,qb,q9,List.map_nil,List.length_nil]))
          all_goals first|rfl|(simp [upd];done)|exact Qw|exact ⟨Qw,rfl⟩|exact yz|exact ⟨by decide,yz⟩|exact ⟨rfl,rfl⟩
        · repeat' (first|(apply nx;with_reducible constructor)|refine jq (by decide) ?_|refine zY ?_|refine wI ?_|refine wH ?_|refine wF ?_)
          (refine kx env fun Q hQ=>?_;simp only [vkt,Nat.reduceEqDiff,Nat.reduceAdd,Nat.reduceMul,Nat.reduceSub,Nat.reduceLeDiff,reduceCtorEq,↓reduceIte,↓reduceDIte,Int.reduceToNat,Int.reduceLE,Int.reduceLT,Int.reduceEq,Int.reduceNeg,qb,q9,List.map_nil,List.length_nil];(try simp only [ite_and]);(repeat' (first|with_reducible assumption|refine And.intro ?_ ?_|intro hp));all_goals (first|(refine hQ _ ?_;clear hQ Q)|omega|assumption|with_reducible rfl|(refine kq ?_;kernel_rfl)|skip))
          repeat' (first|(apply nx;with_reducible constructor)|refine jq (by decide) ?_|refine zY ?_|refine wI ?_|refine wH ?_|refine wF ?_)
          (refine wh (by simp only [vkt,Nat.reduceEqDiff,Nat.reduceAdd,Nat.reduceMul,Nat.reduceSub,Nat.reduceLeDiff,reduceCtorEq,↓reduceIte,↓reduceDIte,Int.reduceToNat,Int.reduceLE,Int.reduceLT,Int.reduceEq,Int.reduceNeg,qb,q9,List.map_nil,List.length_nil];rfl) (fun h=>?_) (fun h=>?_) <;> (try simp only [vki,reduceCtorEq] at h))
          · have lt1:i < ps.length:=by omega
            obtain ⟨p1,p2,p3⟩:=b3 i lt1
            obtain ⟨p,hp⟩:∃ p:Nat,ps.getD i 0=(p:Int):=⟨_,p1⟩
            rw [hp,Int.toNat_natCast] at p2 p3
            generalize hf:wV (ps.drop (i+1))=f at *
            obtain ⟨q1,q2⟩:=Qeb hge h00 i hi
            have nm:=JG lt1 (pcA ps A i)
            rw [hp,Int.toNat_natCast,hf] at nm
            have fl:=nd (i+1)
            rw [hf] at fl
            have hM:pcM ps A i=yL p f (pcA ps A i):=by unfold pcM;rw [hp,Int.toNat_natCast,hf]
            have hN:pcA ps A (i+1)=pcA ps A i - yL p f (pcA ps A i) * p:=by rw [pcA,hp,Int.toNat_natCast,hf]
            have hS:=Qfm ps A i
            rw [hM] at hS
            have hLn:=Qga ps A i
            generalize hq:pcA ps A i=a at *
            rw [nm] at q1
            have hsp:=ZG p2 q1
            unfold Q0 at hsp
            simp only [Bool.and_eq_true,decide_eq_true_eq] at hsp
            repeat' (first|(apply nx;with_reducible constructor)|refine jq (by decide) ?_|refine zY ?_|refine wI ?_|refine wH ?_|refine wF ?_|((first|refine kx env fun Q hQ=>?_|refine kz fun Q hQ=>?_);simp only [vkt,Nat.reduceEqDiff,Nat.reduceAdd,Nat.reduceMul,Nat.reduceSub,Nat.reduceLeDiff,reduceCtorEq,↓reduceIte,↓reduceDIte,Int.reduceToNat,Int.reduceLE,Int.reduceLT,Int.reduceEq,Int.reduceNeg,qb,q9,List.map_nil,List.length_nil];(try simp only [ite_and]);(repeat' (first|with_reducible assumption|refine And.intro ?_ ?_|intro hp));all_goals (first|(refine hQ _ ?_;clear hQ Q)|(refine hQ _ (fun h=>?_) (fun h=>?_) <;> clear hQ Q <;> (try simp only [vki,reduceCtorEq] at h))|omega|assumption|with_reducible rfl|(refine kq ?_;kernel_rfl)|skip)))
            refine qz (fun m:{ m:Nat // m≤yL p f a∧∀ j,j < m→Q0 p f a j=false }=>peS4 l c ps A i m.1) (fun m=>yL p f a - m.1) ⟨0,Nat.zero_le _,fun j h=>absurd h (Nat.not_lt_zero _)⟩ ?_ fun ⟨m,hm,hno⟩=>?_
            · (refine Le.ok some [] ?_;constructor;all_goals (try simp only [vle,vkt,Nat.reduceEqDiff,Nat.reduceAdd,Nat.reduceMul,Nat.reduceSub,Nat.reduceLeDiff,reduceCtorEq,↓reduceIte,↓reduceDIte,Int.reduceToNat,Int.reduceLE,Int.reduceLT,Int.reduceEq,Int.reduceNeg,qb,q9,List.map_nil,List.length_nil]))
              all_goals first|rfl|(simp [upd,hq];done)|exact Qw|exact ⟨Qw,rfl⟩|exact yz|exact ⟨by decide,yz⟩|exact ⟨rfl,rfl⟩
            · have hmp:m * p≤yL p f a * p:=Nat.mul_le_mul_right p hm
              have hmm:m≤m * p:=Nat.le_mul_of_pos_right m p2
              have u1:IntKind.wrap .i64 ((m:Int) * (p:Int))=((m * p:Nat):Int):=by rw [← Int.natCast_mul,wrap64 (by omega) (by omega)]
              have u2:IntKind.wrap .i64 ((a:Int) - ((m * p:Nat):Int))=((a - m * p:Nat):Int):=by rw [wrap64 (by omega) (by omega)];omega
              have u3:IntKind.wrap .i64 ((i:Int)+1)=((i+1:Nat):Int):=by rw [wrap64 (by omega) (by omega)];rfl
              have v1:List.take 1 (List.drop ((i+1) * 1) (tabC (tbG ps A 0) (ps.length+1)))=[.sl ((jY f A).map qp)]:=by rw [WW (by omega),tbG,if_neg (by omega),hf]
              have v2:List.take 1 (List.drop (i * 1) (tabC (tbG ps A 0) (ps.length+1)))=[.sl ((jY (wV (ps.drop i)) A).map qp)]:=by rw [WW (by omega),tbG,if_neg (by omega)]
              have r1:=Ji f A
              have r2:=Ji (wV (ps.drop i)) A
              have k1:(jY f A).getD (a - m * p) 0=f (a - m * p):=W9 (by omega)
              have k2:(jY (wV (ps.drop i)) A).getD a 0=gN p f a:=by rw [W9 (by omega),nm]
              have g1:=fl (a - m * p)
              have u4:IntKind.wrap .i64 (f (a - m * p)+(m:Int))=f (a - m * p)+(m:Int):=wrap64 (by omega) (by omega)
              have u5:IntKind.wrap .i64 ((m:Int)+1)=((m+1:Nat):Int):=by rw [wrap64 (by omega) (by omega)];rfl
              have cap:(i+1) * 8≤140737488355328∧i+1≤maxLen:=by omega
              have la:a≤A:=q2
              unfold peS4
              rw [hq,hp]
              cases hh:Q0 p f a m
              · have hlt:m < yL p f a:=by
                  rcases Nat.lt_or_eq_of_le hm with h|h
                  · exact h
                  · have:=ZG p2 q1;rw [← h,hh] at this;cases this
                have hn:¬ (0≤f (a - m * p)∧f (a - m * p)+(m:Int)=gN p f a):=fun h=>by
                  have:Q0 p f a m=true:=by unfold Q0;simp only [Bool.and_eq_true,decide_eq_true_eq];exact ⟨⟨by omega,h.1⟩,h.2⟩
                  rw [hh] at this;cases this
                by_cases c1:0≤f (a - m * p)
                · have c2:¬ f (a - m * p)+(m:Int)=gN p f a:=fun h=>hn ⟨c1,h⟩
                  repeat' (first|(apply nx;with_reducible constructor)|refine jq (by decide) ?_|refine zY ?_|refine wI ?_|refine wH ?_|refine wF ?_|((first|refine kx env fun Q hQ=>?_|refine kz fun Q hQ=>?_);simp only [vkt,Nat.reduceEqDiff,Nat.reduceAdd,Nat.reduceMul,Nat.reduceSub,Nat.reduceLeDiff,reduceCtorEq,↓reduceIte,↓reduceDIte,Int.reduceToNat,Int.reduceLE,Int.reduceLT,Int.reduceEq,Int.reduceNeg,qb,q9,List.map_nil,List.length_nil,u1,u2,u3,u4,u5,v1,v2,k1,k2,r1,r2,c1,c2];(try simp only [ite_and]);(repeat' (first|with_reducible assumption|refine And.intro ?_ ?_|intro hp));all_goals (first|(refine hQ _ ?_;clear hQ Q)|(refine hQ _ (fun h=>?_) (fun h=>?_) <;> clear hQ Q <;> (try simp only [vki,reduceCtorEq] at h))|omega|assumption|with_reducible rfl|(refine kq ?_;kernel_rfl)|skip)))
                  refine ⟨⟨m+1,hlt,fun j hj=>?_⟩,by show yL p f a - (m+1) < yL p f a - m;omega, ?_⟩
                  · rcases Nat.lt_or_eq_of_le (Nat.le_of_lt_succ hj) with h1|h1
                    · exact hno j h1
                    · rw [h1];exact hh
                  · (refine Le.ok some [] ?_;constructor;all_goals (try simp only [vle,vkt,Nat.reduceEqDiff,Nat.reduceAdd,Nat.reduceMul,Nat.reduceSub,Nat.reduceLeDiff,reduceCtorEq,↓reduceIte,↓reduceDIte,Int.reduceToNat,Int.reduceLE,Int.reduceLT,Int.reduceEq,Int.reduceNeg,qb,q9,List.map_nil,List.length_nil]))
                    all_goals first|rfl|(simp [upd,hq];done)|exact Qw|exact ⟨Qw,rfl⟩|exact yz|exact ⟨by decide,yz⟩|exact ⟨hq.symm ▸ rfl,hp.symm ▸ rfl⟩|(simp [upd,hq,hp];done)
                · repeat' (first|(apply nx;with_reducible constructor)|refine jq (by decide) ?_|refine zY ?_|refine wI ?_|refine wH ?_|refine wF ?_|((first|refine kx env fun Q hQ=>?_|refine kz fun Q hQ=>?_);simp only [vkt,Nat.reduceEqDiff,Nat.reduceAdd,Nat.reduceMul,Nat.reduceSub,Nat.reduceLeDiff,reduceCtorEq,↓reduceIte,↓reduceDIte,Int.reduceToNat,Int.reduceLE,Int.reduceLT,Int.reduceEq,Int.reduceNeg,qb,q9,List.map_nil,List.length_nil,u1,u2,u3,u4,u5,v1,v2,k1,k2,r1,r2,c1];(try simp only [ite_and]);(repeat' (first|with_reducible assumption|refine And.intro ?_ ?_|intro hp));all_goals (first|(refine hQ _ ?_;clear hQ Q)|(refine hQ _ (fun h=>?_) (fun h=>?_) <;> clear hQ Q <;> (try simp only [vki,reduceCtorEq] at h))|omega|assumption|with_reducible rfl|(refine kq ?_;kernel_rfl)|skip)))
                  refine ⟨⟨m+1,hlt,fun j hj=>?_⟩,by show yL p f a - (m+1) < yL p f a - m;omega, ?_⟩
                  · rcases Nat.lt_or_eq_of_le (Nat.le_of_lt_succ hj) with h1|h1
                    · exact hno j h1
                    · rw [h1];exact hh
                  · (refine Le.ok some [] ?_;constructor;all_goals (try simp only [vle,vkt,Nat.reduceEqDiff,Nat.reduceAdd,Nat.reduceMul,Nat.reduceSub,Nat.reduceLeDiff,reduceCtorEq,↓reduceIte,↓reduceDIte,Int.reduceToNat,Int.reduceLE,Int.reduceLT,Int.reduceEq,Int.reduceNeg,qb,q9,List.map_nil,List.length_nil]))
                    all_goals first|rfl|(simp [upd,hq];done)|exact Qw|exact ⟨Qw,rfl⟩|exact yz|exact ⟨by decide,yz⟩|exact ⟨hq.symm ▸ rfl,hp.symm ▸ rfl⟩|(simp [upd,hq,hp];done)
              · have hc:=Lu p2 hh hno
                have hh':=hh
                unfold Q0 at hh'
                simp only [Bool.and_eq_true,decide_eq_true_eq] at hh'
                have c1:=hh'.1.2
                have c2:=hh'.2
                have ap:(pcL ps A i).map qp++[[.v (.int .i64 (m:Int))]]=(pcL ps A (i+1)).map qp:=by rw [hS,hc,List.map_append];rfl
                rw [hc] at hN
                have u6:IntKind.wrap .i64 (gN p f a)=gN p f a:=by rw [← c2];exact u4
                repeat' (first|(apply nx;with_reducible constructor)|refine jq (by decide) ?_|refine zY ?_|refine wI ?_|refine wH ?_|refine wF ?_|((first|refine kx env fun Q hQ=>?_|refine kz fun Q hQ=>?_);simp only [vkt,Nat.reduceEqDiff,Nat.reduceAdd,Nat.reduceMul,Nat.reduceSub,Nat.reduceLeDiff,reduceCtorEq,↓reduceIte,↓reduceDIte,Int.reduceToNat,Int.reduceLE,Int.reduceLT,Int.reduceEq,Int.reduceNeg,qb,q9,List.map_nil,List.length_nil,u1,u2,u3,u4,u5,u6,v1,v2,k1,k2,r1,r2,c1,c2,ap,hLn];(try simp only [ite_and]);(repeat' (first|with_reducible assumption|refine And.intro ?_ ?_|intro hp));all_goals (first|(refine hQ _ ?_;clear hQ Q)|(refine hQ _ (fun h=>?_) (fun h=>?_) <;> clear hQ Q <;> (try simp only [vki,reduceCtorEq] at h))|omega|assumption|with_reducible rfl|(refine kq ?_;kernel_rfl)|skip)))
                refine ⟨⟨i+1,lt1⟩,by show ps.length - (i+1) < ps.length - i;omega, ?_⟩
                (refine Le.ok (fun j=>if j=2 then some 4 else some j) [] ?_;constructor;all_goals (try simp only [vle,vkt,Nat.reduceEqDiff,Nat.reduceAdd,Nat.reduceMul,Nat.reduceSub,Nat.reduceLeDiff,reduceCtorEq,↓reduceIte,↓reduceDIte,Int.reduceToNat,Int.reduceLE,Int.reduceLT,Int.reduceEq,Int.reduceNeg,qb,q9,List.map_nil,List.length_nil]))
                all_goals first|rfl|(simp [upd,hN];done)|exact Qw|exact ⟨Qw,rfl⟩|exact yz|exact ⟨by decide,yz⟩|exact ⟨rfl,rfl⟩|(simp [upd,hN,u3];done)
          · have:i=ps.length:=by omega
            subst this
            repeat' (first|(apply nx;with_reducible constructor)|refine jq (by decide) ?_|refine zY ?_|refine wI ?_|refine wH ?_|refine wF ?_|((first|refine kx env fun Q hQ=>?_|refine kz fun Q hQ=>?_);simp only [vkt,Nat.reduceEqDiff,Nat.reduceAdd,Nat.reduceMul,Nat.reduceSub,Nat.reduceLeDiff,reduceCtorEq,↓reduceIte,↓reduceDIte,Int.reduceToNat,Int.reduceLE,Int.reduceLT,Int.reduceEq,Int.reduceNeg,qb,q9,List.map_nil,List.length_nil];(try simp only [ite_and]);(repeat' (first|with_reducible assumption|refine And.intro ?_ ?_|intro hp));all_goals (first|(refine hQ _ ?_;clear hQ Q)|(refine hQ _ (fun h=>?_) (fun h=>?_) <;> clear hQ Q <;> (try simp only [vki,reduceCtorEq] at h))|omega|assumption|with_reducible rfl|(refine kq ?_;kernel_rfl)|skip)))
            (simp only [vrt,Tryz.results21,LU,vkt,Nat.reduceEqDiff,Nat.reduceAdd,Nat.reduceMul,Nat.reduceSub,Nat.reduceLeDiff,reduceCtorEq,↓reduceIte,↓reduceDIte,Int.reduceToNat,Int.reduceLE,Int.reduceLT,Int.reduceEq,Int.reduceNeg,qb,q9,List.map_nil,List.length_nil];refine Fin.val rfl ?_;(try simp only [AV.le,AV.leL]))
            all_goals first|exact ⟨⟨_,_,rfl⟩,trivial,trivial⟩|(simp [piL,ql];done)
  · rw [show Wl l c n=_ from if_pos h0]
    repeat' (first|(apply nx;with_reducible constructor)|refine jq (by decide) ?_|refine zY ?_|refine wI ?_|refine wH ?_|refine wF ?_|((first|refine kx env fun Q hQ=>?_|refine kz fun Q hQ=>?_);simp only [vkt,Nat.reduceEqDiff,Nat.reduceAdd,Nat.reduceMul,Nat.reduceSub,Nat.reduceLeDiff,reduceCtorEq,↓reduceIte,↓reduceDIte,Int.reduceToNat,Int.reduceLE,Int.reduceLT,Int.reduceEq,Int.reduceNeg,qb,q9,List.map_nil,List.length_nil,h0];(try simp only [ite_and]);(repeat' (first|with_reducible assumption|refine And.intro ?_ ?_|intro hp));all_goals (first|(refine hQ _ ?_;clear hQ Q)|(refine hQ _ (fun h=>?_) (fun h=>?_) <;> clear hQ Q <;> (try simp only [vki,reduceCtorEq] at h))|omega|assumption|with_reducible rfl|(refine kq ?_;kernel_rfl)|skip)))
    (simp only [vrt,Tryz.results21,vkt,Nat.reduceEqDiff,Nat.reduceAdd,Nat.reduceMul,Nat.reduceSub,Nat.reduceLeDiff,reduceCtorEq,↓reduceIte,↓reduceDIte,Int.reduceToNat,Int.reduceLE,Int.reduceLT,Int.reduceEq,Int.reduceNeg,qb,q9,List.map_nil,List.length_nil];refine Fin.val rfl ?_;(try simp only [AV.le,AV.leL]))
    all_goals simp
def c28:List AV→Prop × AV
  |[.agg [.sl cs,.sl rs,.sl ss,.sl es],.v (.int .i64 c),.v (.int .i64 n)]=>(isL cs rs ss es∧Fit (zN cs rs ss es),Wl (zN cs rs ss es) c n)
  |_=>(False,.junk)
theorem d28 {A:Frm→Prop}:qh A Tryz.prog 21 (qo false c28):=qL fun vs hv h=>by
  clear hv
  unfold c28 at h ⊢
  split at h
  · refine ⟨by unfold Wl;split <;> simp [AV.plain,AV.plainL,aI,ql],fun h=>absurd h (by decide), ?_⟩
    rw [← jD h.1];exact QcW _ _ _ h.2
  · exact h.elim
end Go.Sym.B
namespace Go.Sym.B
open Go Go.Sym Go.Proofs Go.Sym.C
def Qd (a:Int) (ps:List Int) (s:Int) (i:Int):Int:=(a * ps.getD i.toNat 0).tmod s
def xU (a:Int) (ps:List Int) (s:Int) (x y:Int):Int:=Qd a ps s y - Qd a ps s x
structure DvOk (a:Int) (ps:List Int) (s:Int):Prop where
  a:0≤a∧a≤999
  p:∀ p ∈ ps,0≤p∧p≤9
  s:0 < s∧s≤1000
def dvH (a:Int) (ps:List Int) (s:Int):List (Nat × AObj):=[(0,.cells [aI a]),(1,.cells [.sl (ps.map qp)]),(2,.cells [aI s])]
theorem Us {a:Int} {ps:List Int} {s:Int} (h:DvOk a ps s) {i:Int} (hi:i.toNat < ps.length):0≤a * ps.getD i.toNat 0∧a * ps.getD i.toNat 0≤8991∧0≤Qd a ps s i∧Qd a ps s i < s:=by
  have hp:=h.p _ (jU (d:=0) hi)
  have ha:=h.a
  have hs:=h.s
  have h0:0≤a * ps.getD i.toNat 0:=Int.mul_nonneg ha.1 hp.1
  have h1:a * ps.getD i.toNat 0≤999 * 9:=Int.mul_le_mul ha.2 hp.2 hp.1 (by decide)
  refine ⟨h0,by omega, ?_⟩
  unfold Qd
  rw [Int.tmod_eq_emod_of_nonneg h0]
  exact ⟨Int.emod_nonneg _ (by omega),Int.emod_lt_of_pos _ hs.1⟩
def yN:=kj @ty3 (kj @jL (kj @ti3.eq_1 @jG.eq_1))
def Vq:=kj @aI.eq_1 (kj @aB.eq_1 (kj @qp.eq_1 (kj @Qn (@dvH.eq_1))))
theorem QhB (a:Int) (ps:List Int) (s:Int) (h:DvOk a ps s) (x y:Int) (hx:0≤x∧x.toNat < ps.length) (hy:0≤y∧y.toNat < ps.length):Fn noB Tryz.prog 51 [aI x,aI y,.ptr 0 0,.ptr 1 0,.ptr 2 0] (qc (dvH a ps s)) (aI (xU a ps s x y)) (qc (dvH a ps s)) 0:=by
  have env:Env (fun _=>True) Tryz.prog tyB (tab []):=qY trivial
  refine Fn.of (A:=fun _=>True) (n0:=3) (D:=noD) (Fn0 Tryz.func51 rfl (fun vs w=>by kernel_rfl) (by kernel_rfl)) (by simp) (by simp [AV.ids,aI]) ?_ (fun _ _ _ _=>trivial) qA ?_
  · intro i o hi
    have h:=qV hi
    simp [dvH,aI] at h
    rcases h with ⟨rfl,rfl⟩|⟨rfl,rfl⟩|⟨rfl,rfl⟩ <;> simp [AObj.ids,AV.ids,AV.idsL]
  obtain ⟨b1,b2,b3,b4⟩:=Us h hx.2
  obtain ⟨c1,c2,c3,c4⟩:=Us h hy.2
  have hs:=h.s
  have w1:IntKind.wrap .i64 (a * ps.getD x.toNat 0)=a * ps.getD x.toNat 0:=wrap64 (by omega) (by omega)
  have w2:IntKind.wrap .i64 (a * ps.getD y.toNat 0)=a * ps.getD y.toNat 0:=wrap64 (by omega) (by omega)
  have w3:(a * ps.getD y.toNat 0).tmod s=Qd a ps s y:=rfl
  have w4:(a * ps.getD x.toNat 0).tmod s=Qd a ps s x:=rfl
  have w5:IntKind.wrap .i64 (Qd a ps s y - Qd a ps s x)=xU a ps s x y:=wrap64 (by omega) (by omega)
  have s0:¬ s=0:=by omega
  repeat' (first|(apply nx;with_reducible constructor)|refine jq (by decide) ?_|((first|refine kx env fun Q hQ=>?_|refine kz fun Q hQ=>?_);simp only [vkt,seval,yN,Vq,w1,w2,w3,w4,w5,s0];(try simp only [ite_and]);(repeat' (first|with_reducible assumption|refine And.intro ?_ ?_|intro hp));all_goals (first|(refine hQ _ ?_;clear hQ Q)|(refine hQ _ (fun h=>?_) (fun h=>?_) <;> clear hQ Q <;> (try simp only [vki,reduceCtorEq] at h))|omega|assumption|with_reducible rfl|(refine kq ?_;kernel_rfl)|skip)))
  (simp only [vrt,Tryz.results51,vkt,seval,yN,Vq];refine Fin.ok some [] ?_ ?_ ?_ ?_ ?_ rfl;all_goals (try simp only [vle,vkt,seval,yN,Vq]))
  all_goals simp
def p81 (S:St):List AV→Option Pk
  |[.v (.int .i64 x),.v (.int .i64 y),.ptr i 0,.ptr j 0,.ptr k 0]=>match S.h i,S.h j,S.h k with
    |some (.cells [.v (.int .i64 a)]),some (.cells [.sl ps]),some (.cells [.v (.int .i64 s)])=>some { pre:=ps=(ps.map qJ).map qp∧DvOk a (ps.map qJ) s∧(0≤x∧x.toNat < ps.length)∧(0≤y∧y.toNat < ps.length),hs:=[i,j,k],ar:=[.v (.int .i64 x),.v (.int .i64 y),.ptr 0 0,.ptr 1 0,.ptr 2 0],L0:=[.cells [.v (.int .i64 a)],.cells [.sl ps],.cells [.v (.int .i64 s)]],v:=aI (xU a (ps.map qJ) s x y),L1:=[some (.cells [.v (.int .i64 a)]),some (.cells [.sl ps]),some (.cells [.v (.int .i64 s)])] }
    |_,_,_=>none
  |_=>none
theorem e81 {A:Frm→Prop}:qh A Tryz.prog 51 (fnE p81):=jC fun S bs q h hp=>by
  unfold p81 at h
  split at h
  · split at h
    · rename_i x y i j k _ _ _ a ps s _ _ _
      cases h
      have:=QhB a (ps.map qJ) s hp.2.1 x y (by simpa using hp.2.2.1) (by simpa using hp.2.2.2)
      simp only [dvH,aI,← hp.1] at this
      exact this
    · cases h
  · cases h
def WY (l:List Int) (j:Nat):List Int:=(l.set (j+1) (l.getD j 0)).set j (l.getD (j+1) 0)
def bub (c:Int→Int→Int):List Int→Nat→List Int
  |l,0=>l
  |l,j+1=>if c (l.getD (j+1) 0) (l.getD j 0) < 0 then bub c (WY l j) j else l
def xV (c:Int→Int→Int) (l:List Int):Nat→List Int
  |0=>l
  |k+1=>bub c (xV c l k) (k+1)
def Zu (c:Int→Int→Int) (l:List Int):List Int:=xV c l (l.length - 1)
theorem J2 (l:List Int) (j:Nat):(WY l j).length=l.length:=by simp [WY]
theorem Xq {l:List Int} {j:Nat} (h:j+1 < l.length) {P:Int→Prop} (hp:∀ x ∈ l,P x):∀ x ∈ WY l j,P x:=fun x hx=>by
  unfold WY at hx
  rcases List.mem_or_eq_of_mem_set hx with hx|rfl
  · rcases List.mem_or_eq_of_mem_set hx with hx|rfl
    · exact hp x hx
    · exact hp _ (jU (by omega))
  · exact hp _ (jU h)
theorem QbO {c:Int→Int→Int} {P:Int→Prop}:∀ (j:Nat) (l:List Int),j < l.length→(∀ x ∈ l,P x)→(bub c l j).length=l.length∧∀ x ∈ bub c l j,P x
  |0,l,_,h=>⟨rfl,h⟩
  |j+1,l,hj,h=>by
    rw [bub]
    split
    · obtain ⟨h1,h2⟩:=QbO (c:=c) j (WY l j) (by rw [J2];omega) (Xq hj h)
      exact ⟨by rw [h1,J2],h2⟩
    · exact ⟨rfl,h⟩
theorem WJ {c:Int→Int→Int} {P:Int→Prop} {l:List Int} (h:∀ x ∈ l,P x):∀ (k:Nat),k < l.length→(xV c l k).length=l.length∧∀ x ∈ xV c l k,P x
  |0,_=>⟨rfl,h⟩
  |k+1,hk=>by
    obtain ⟨h1,h2⟩:=WJ h k (by omega)
    obtain ⟨h3,h4⟩:=QbO (c:=c) (k+1) _ (by rw [h1];omega) h2
    exact ⟨by rw [xV,h3,h1],h4⟩
def soH (a:Int) (ps:List Int) (s:Int) (l:List Int):List (Nat × AObj):=dvH a ps s++[(3,.row 3 1 (l.map qp))]
def soS1 (a:Int) (ps:List Int) (s:Int) (n i:Nat) (l:List Int):St:={ t:=asg [(0,.row 3),(1,aI 0),(2,aI n),(3,.clo 51 [.ptr 0 0,.ptr 1 0,.ptr 2 0]),(8,aI i)],h:=qc (soH a ps s l),n:=4,m:=4 }
def soS2 (a:Int) (ps:List Int) (s:Int) (n i j:Nat) (l:List Int):St:={ t:=asg [(0,.row 3),(1,aI 0),(2,aI n),(3,.clo 51 [.ptr 0 0,.ptr 1 0,.ptr 2 0]),(8,aI i),(9,aI j)],h:=qc (soH a ps s l),n:=4,m:=4 }
def InI (n:Nat) (x:Int):Prop:=0≤x∧x.toNat < n
def qa:=kj @ty3 (kj @jL (kj @ti3.eq_1 @jG.eq_1))
def jy:=kj @aI.eq_1 (kj @aB.eq_1 (kj @qp.eq_1 (kj @Qn (kj @vH (kj @dvH.eq_1 (kj @soH.eq_1 (kj @soS1.eq_1 (kj @soS2.eq_1 (kj @p81.eq_1 (kj @p81.eq_2 (@setI)))))))))))
set_option maxHeartbeats 2000000 in
theorem QdG (a:Int) (ps:List Int) (s:Int) (h:DvOk a ps s) (l:List Int) (hn:1≤l.length∧l.length≤20) (hl:∀ x ∈ l,InI ps.length x):Fn noB Tryz.prog 80 [.row 3,aI 0,aI l.length,.clo 51 [.ptr 0 0,.ptr 1 0,.ptr 2 0]] (qc (soH a ps s l)) (.tup []) (qc (soH a ps s (Zu (xU a ps s) l))) 0:=by
  have env:Env (fun _=>True) Tryz.prog tyB (tab [(51,fnE p81)]):=qY ⟨e81,trivial⟩
  refine Fn.of (A:=fun _=>True) (n0:=4) (D:=noD) (Fn0 Tryz.func80 rfl (fun vs w=>by kernel_rfl) (by kernel_rfl)) (by simp) (by simp [AV.ids,AV.idsL,aI]) ?_ (fun _ _ _ _=>trivial) qA ?_
  · intro i o hi
    have h:=qV hi
    simp [soH,dvH,aI] at h
    rcases h with ⟨rfl,rfl⟩|⟨rfl,rfl⟩|⟨rfl,rfl⟩|⟨rfl,rfl⟩ <;> simp [AObj.ids,AV.ids,AV.idsL]
  generalize hN:l.length=n at *
  repeat' (first|(apply nx;with_reducible constructor)|refine jq (by decide) ?_|((first|refine kx env fun Q hQ=>?_|refine kz fun Q hQ=>?_);simp only [vkt,seval,qa,jy];(try simp only [ite_and]);(repeat' (first|with_reducible assumption|refine And.intro ?_ ?_|intro hp));all_goals (first|(refine hQ _ ?_;clear hQ Q)|(refine hQ _ (fun h=>?_) (fun h=>?_) <;> clear hQ Q <;> (try simp only [vki,reduceCtorEq] at h))|omega|assumption|with_reducible rfl|(refine kq ?_;kernel_rfl)|skip)))
  refine qz (fun i:{ i:Nat // 1≤i∧i≤n }=>soS1 a ps s n i.1 (xV (xU a ps s) l (i.1 - 1))) (fun i=>n - i.1) ⟨1,Nat.le_refl _,hn.1⟩ ?_ fun ⟨i,hi1,hi2⟩=>?_
  · (refine Le.ok some [] ?_;constructor;all_goals (try simp only [vle,vkt,seval,qa,jy]))
    all_goals first|rfl|(simp [xV];done)
  · obtain ⟨g1,g2⟩:=WJ (c:=xU a ps s) hl (i - 1) (by omega)
    rw [hN] at g1
    generalize hQ0:xV (xU a ps s) l (i - 1)=q at *
    repeat' (first|(apply nx;with_reducible constructor)|refine jq (by decide) ?_)
    (refine kx env fun Q hQ=>?_;simp only [vkt,seval,qa,jy];(try simp only [ite_and]);(repeat' (first|with_reducible assumption|refine And.intro ?_ ?_|intro hp));all_goals (first|(refine hQ _ ?_;clear hQ Q)|omega|assumption|with_reducible rfl|(refine kq ?_;kernel_rfl)|skip))
    repeat' (first|(apply nx;with_reducible constructor)|refine jq (by decide) ?_)
    (refine wh (by simp only [vkt,seval,qa,jy];rfl) (fun h=>?_) (fun h=>?_) <;> (try simp only [vki,reduceCtorEq] at h))
    · have hlt:i < n:=by omega
      have hnext:bub (xU a ps s) q i=xV (xU a ps s) l (i+1 - 1):=by
        rw [← hQ0,show i+1 - 1=(i - 1)+1 by omega,xV,show i - 1+1=i by omega]
      have e9:IntKind.wrap .i64 ((i:Int)+1)=((i+1:Nat):Int):=by rw [wrap64 (by omega) (by omega)];rfl
      repeat' (first|(apply nx;with_reducible constructor)|refine jq (by decide) ?_|((first|refine kx env fun Q hQ=>?_|refine kz fun Q hQ=>?_);simp only [vkt,seval,qa,jy];(try simp only [ite_and]);(repeat' (first|with_reducible assumption|refine And.intro ?_ ?_|intro hp));all_goals (first|(refine hQ _ ?_;clear hQ Q)|(refine hQ _ (fun h=>?_) (fun h=>?_) <;> clear hQ Q <;> (try simp only [vki,reduceCtorEq] at h))|omega|assumption|with_reducible rfl|(refine kq ?_;kernel_rfl)|skip)))
      refine qz (fun p:{ p:Nat × List Int // p.1≤i∧p.2.length=n∧(∀ x ∈ p.2,InI ps.length x)∧bub (xU a ps s) p.2 p.1=bub (xU a ps s) q i }=>soS2 a ps s n i p.1.1 p.1.2) (fun p=>p.1.1) ⟨(i,q),Nat.le_refl _,g1,g2,rfl⟩ ?_ fun ⟨⟨j,m⟩,hj,hm,hr,hb⟩=>?_
      · (refine Le.ok some [] ?_;constructor;all_goals (try simp only [vle,vkt,seval,qa,jy]))
        all_goals first|rfl|(simp;done)
      · simp only at hj hm hr hb
        cases j with
        |zero =>
          have c0:¬ ((0:Nat):Int) > 0:=by omega
          have hm':xV (xU a ps s) l (i+1 - 1)=m:=by rw [← hnext,← hb];rfl
          repeat' (first|(apply nx;with_reducible constructor)|refine jq (by decide) ?_|((first|refine kx env fun Q hQ=>?_|refine kz fun Q hQ=>?_);simp only [vkt,seval,qa,jy,c0,e9];(try simp only [ite_and]);(repeat' (first|with_reducible assumption|refine And.intro ?_ ?_|intro hp));all_goals (first|(refine hQ _ ?_;clear hQ Q)|(refine hQ _ (fun h=>?_) (fun h=>?_) <;> clear hQ Q <;> (try simp only [vki,reduceCtorEq] at h))|omega|assumption|with_reducible rfl|(refine kq ?_;kernel_rfl)|skip)))
          refine ⟨⟨i+1,by omega,hlt⟩,by show n - (i+1) < n - i;omega, ?_⟩
          (refine Le.ok some [] ?_;constructor;all_goals (try simp only [vle,vkt,seval,qa,jy]))
          all_goals first|rfl|(rw [hm'];done)|exact congrArg (List.map qp) hm'.symm|(simp [hm',e9];done)
        |succ j =>
          have c0:(0:Int) < ((j+1:Nat):Int):=by omega
          have e8:IntKind.wrap .i64 (((j+1:Nat):Int) - 1)=(j:Int):=by rw [wrap64 (by omega) (by omega)];omega
          have r1:=hr _ (jU (d:=0) (show j+1 < m.length by omega))
          have r2:=hr _ (jU (d:=0) (show j < m.length by omega))
          have r3:=r1.1
          have r4:=r1.2
          have r5:=r2.1
          have r6:=r2.2
          have k1:=gI0 (show j+1 < m.length by omega)
          have k2:=gI0 (show j < m.length by omega)
          have k4:=gI0 (l:=m.set (j+1) (m.getD j 0)) (n:=j) (by rw [List.length_set];omega)
          by_cases c1:xU a ps s (m.getD (j+1) 0) (m.getD j 0) < 0
          · have hb2:bub (xU a ps s) m (j+1)=bub (xU a ps s) (WY m j) j:=by rw [bub,if_pos c1]
            repeat' (first|(apply nx;with_reducible constructor)|refine jq (by decide) ?_|((first|refine kx env fun Q hQ=>?_|refine kz fun Q hQ=>?_);simp only [vkt,seval,qa,jy,c0,e8,c1,k1,k2,k4,List.length_set];(try simp only [ite_and]);(repeat' (first|with_reducible assumption|refine And.intro ?_ ?_|intro hp));all_goals (first|(refine hQ _ ?_;clear hQ Q)|(refine hQ _ (fun h=>?_) (fun h=>?_) <;> clear hQ Q <;> (try simp only [vki,reduceCtorEq] at h))|omega|assumption|with_reducible rfl|(refine kq ?_;kernel_rfl)|skip)))
            refine ⟨⟨(j,WY m j),by show j≤i;omega,by rw [J2];exact hm,Xq (by omega) hr,by rw [← hb2];exact hb⟩,by show j < j+1;omega, ?_⟩
            (refine Le.ok some [] ?_;constructor;all_goals (try simp only [vle,vkt,seval,qa,jy]))
            all_goals first|rfl|(simp [WY,e8,qp];done)
          · have hm':xV (xU a ps s) l (i+1 - 1)=m:=by rw [← hnext,← hb,bub,if_neg c1]
            repeat' (first|(apply nx;with_reducible constructor)|refine jq (by decide) ?_|((first|refine kx env fun Q hQ=>?_|refine kz fun Q hQ=>?_);simp only [vkt,seval,qa,jy,c0,e8,c1,e9,k1,k2];(try simp only [ite_and]);(repeat' (first|with_reducible assumption|refine And.intro ?_ ?_|intro hp));all_goals (first|(refine hQ _ ?_;clear hQ Q)|(refine hQ _ (fun h=>?_) (fun h=>?_) <;> clear hQ Q <;> (try simp only [vki,reduceCtorEq] at h))|omega|assumption|with_reducible rfl|(refine kq ?_;kernel_rfl)|skip)))
            refine ⟨⟨i+1,by omega,hlt⟩,by show n - (i+1) < n - i;omega, ?_⟩
            (refine Le.ok some [] ?_;constructor;all_goals (try simp only [vle,vkt,seval,qa,jy]))
            all_goals first|rfl|(rw [hm'];done)|exact congrArg (List.map qp) hm'.symm|(simp [hm',e9];done)
    · have hin:i=n:=by omega
      subst hin
      repeat' (first|(apply nx;with_reducible constructor)|refine jq (by decide) ?_|((first|refine kx env fun Q hQ=>?_|refine kz fun Q hQ=>?_);simp only [vkt,seval,qa,jy];(try simp only [ite_and]);(repeat' (first|with_reducible assumption|refine And.intro ?_ ?_|intro hp));all_goals (first|(refine hQ _ ?_;clear hQ Q)|(refine hQ _ (fun h=>?_) (fun h=>?_) <;> clear hQ Q <;> (try simp only [vki,reduceCtorEq] at h))|omega|assumption|with_reducible rfl|(refine kq ?_;kernel_rfl)|skip)))
      (simp only [vrt,Tryz.results80,vkt,seval,qa,jy];refine Fin.ok some [] ?_ ?_ ?_ ?_ ?_ rfl;all_goals (try simp only [vle,vkt,seval,qa,jy]))
      all_goals simp [Zu,hN,hQ0]
def Qe4 (S:St):List AV→Option Pk
  |[.row r,.v (.int .i64 z),.v (.int .i64 n),.clo 51 [.ptr i 0,.ptr j 0,.ptr k 0]]=>match S.h i,S.h j,S.h k,S.h r with
    |some (.cells [.v (.int .i64 a)]),some (.cells [.sl ps]),some (.cells [.v (.int .i64 s)]),some (.row 3 1 l)=>some { pre:=ps=(ps.map qJ).map qp∧DvOk a (ps.map qJ) s∧l=(l.map qJ).map qp∧(1≤l.length∧l.length≤20)∧(∀ x ∈ l.map qJ,InI ps.length x)∧z=0∧n=l.length,hs:=[i,j,k,r],ar:=[.row 3,.v (.int .i64 z),.v (.int .i64 n),.clo 51 [.ptr 0 0,.ptr 1 0,.ptr 2 0]],L0:=[.cells [.v (.int .i64 a)],.cells [.sl ps],.cells [.v (.int .i64 s)],.row 3 1 l],v:=.tup [],L1:=[some (.cells [.v (.int .i64 a)]),some (.cells [.sl ps]),some (.cells [.v (.int .i64 s)]),some (.row 3 1 ((Zu (xU a (ps.map qJ) s) (l.map qJ)).map qp))] }
    |_,_,_,_=>none
  |_=>none
theorem e147 {A:Frm→Prop}:qh A Tryz.prog 80 (fnE Qe4):=jC fun S bs q h hp=>by
  unfold Qe4 at h
  split at h
  · split at h
    · rename_i r z n i j k _ _ _ _ a ps s l _ _ _ _
      cases h
      obtain ⟨h1,h2,h3,h4,h5,h6,h7⟩:=hp
      subst h6 h7
      have:=QdG a (ps.map qJ) s h2 (l.map qJ) (by simpa using h4) (by simpa using h5)
      simp only [soH,dvH,aI,← h1,← h3,List.length_map] at this
      exact this
    · cases h
  · cases h
def qR:=kj @ty3 @ti3.eq_1
def kX:=kj @aI.eq_1 (kj @aB.eq_1 (kj @dvH.eq_1 (kj @soH.eq_1 (kj @Qe4.eq_1 (kj @Qe4.eq_2 (kj @vH (@InI.eq_1)))))))
theorem Qc8 (a:Int) (ps:List Int) (s:Int) (h:DvOk a ps s) (l:List Int) (hn:1≤l.length∧l.length≤19) (hl:∀ x ∈ l,InI ps.length x):Fn noB Tryz.prog 73 [.row 3,aI l.length,.clo 51 [.ptr 0 0,.ptr 1 0,.ptr 2 0]] (qc (soH a ps s l)) (.tup []) (qc (soH a ps s (Zu (xU a ps s) l))) 0:=by
  have env:Env (fun _=>True) Tryz.prog tyB (tab [(80,fnE Qe4)]):=qY ⟨e147,trivial⟩
  refine Fn.of (A:=fun _=>True) (n0:=4) (D:=noD) (Fn0 Tryz.func73 rfl (fun vs w=>by kernel_rfl) (by kernel_rfl)) (by simp) (by simp [AV.ids,AV.idsL,aI]) ?_ (fun _ _ _ _=>trivial) qA ?_
  · intro i o hi
    have h:=qV hi
    simp [soH,dvH,aI] at h
    rcases h with ⟨rfl,rfl⟩|⟨rfl,rfl⟩|⟨rfl,rfl⟩|⟨rfl,rfl⟩ <;> simp [AObj.ids,AV.ids,AV.idsL]
  have hl':∀ x ∈ l,0≤x∧x.toNat < ps.length:=hl
  have c1:¬ (20:Int)≤(l.length:Int):=by omega
  have c2:¬ (20:Int) < (l.length:Int):=by omega
  have hn1:=hn.1
  have hn2:l.length≤20:=by omega
  repeat' (first|(apply nx;with_reducible constructor)|refine jq (by decide) ?_|((first|refine kx env fun Q hQ=>?_|refine kz fun Q hQ=>?_);simp only [vkt,seval,qR,kX,List.length_map,c1];(try simp only [ite_and]);(repeat' (first|with_reducible assumption|refine And.intro ?_ ?_|intro hp));all_goals (first|(refine hQ _ ?_;clear hQ Q)|(refine hQ _ (fun h=>?_) (fun h=>?_) <;> clear hQ Q <;> (try simp only [vki,reduceCtorEq] at h))|omega|assumption|with_reducible rfl|(refine kq ?_;kernel_rfl)|skip)))
  refine qz (fun _:Unit=>{ t:=asg [(0,.row 3),(1,aI l.length),(2,.clo 51 [.ptr 0 0,.ptr 1 0,.ptr 2 0]),(6,aI 20),(7,aI 0),(8,aI 20)],h:=qc (soH a ps s l),n:=4,m:=4 }) (fun _=>0) () ?_ fun _=>?_
  · (refine Le.ok some [] ?_;constructor;all_goals (try simp only [vle,vkt,seval,qR,kX,List.length_map]))
    all_goals first|rfl|(simp;done)
  · repeat' (first|(apply nx;with_reducible constructor)|refine jq (by decide) ?_|((first|refine kx env fun Q hQ=>?_|refine kz fun Q hQ=>?_);simp only [vkt,seval,qR,kX,List.length_map,c1,c2];(try simp only [ite_and]);(repeat' (first|with_reducible assumption|refine And.intro ?_ ?_|intro hp));all_goals (first|(refine hQ _ ?_;clear hQ Q)|(refine hQ _ (fun h=>?_) (fun h=>?_) <;> clear hQ Q <;> (try simp only [vki,reduceCtorEq] at h))|omega|assumption|with_reducible rfl|(refine kq ?_;kernel_rfl)|skip)))
    refine qz (fun _:Unit=>{ t:=asg [(0,.row 3),(1,aI l.length),(2,.clo 51 [.ptr 0 0,.ptr 1 0,.ptr 2 0]),(6,aI 20)],h:=qc (soH a ps s (Zu (xU a ps s) l)),n:=4,m:=4 }) (fun _=>0) () ?_ fun _=>?_
    · (refine Le.ok some [] ?_;constructor;all_goals (try simp only [vle,vkt,seval,qR,kX,List.length_map]))
      all_goals first|rfl|(simp;done)
    · repeat' (first|(apply nx;with_reducible constructor)|refine jq (by decide) ?_|((first|refine kx env fun Q hQ=>?_|refine kz fun Q hQ=>?_);simp only [vkt,seval,qR,kX,List.length_map,c1,c2];(try simp only [ite_and]);(repeat' (first|with_reducible assumption|refine And.intro ?_ ?_|intro hp));all_goals (first|(refine hQ _ ?_;clear hQ Q)|(refine hQ _ (fun h=>?_) (fun h=>?_) <;> clear hQ Q <;> (try simp only [vki,reduceCtorEq] at h))|omega|assumption|with_reducible rfl|(refine kq ?_;kernel_rfl)|skip)))
      (simp only [vrt,Tryz.results73,vkt,seval,qR,kX,List.length_map];refine Fin.ok some [] ?_ ?_ ?_ ?_ ?_ rfl;all_goals (try simp only [vle,vkt,seval,qR,kX,List.length_map]))
      all_goals simp
end Go.Sym.B
namespace Go.Sym.B
open Go Go.Sym Go.Proofs Go.Sym.C
def Qep (S:St):List AV→Option Pk
  |[.row r,.v (.int .i64 n),.clo 51 [.ptr i 0,.ptr j 0,.ptr k 0]]=>match S.h i,S.h j,S.h k,S.h r with
    |some (.cells [.v (.int .i64 a)]),some (.cells [.sl ps]),some (.cells [.v (.int .i64 s)]),some (.row 3 1 l)=>some { pre:=ps=(ps.map qJ).map qp∧DvOk a (ps.map qJ) s∧l=(l.map qJ).map qp∧(1≤l.length∧l.length≤19)∧(∀ x ∈ l.map qJ,InI ps.length x)∧n=l.length,hs:=[i,j,k,r],ar:=[.row 3,.v (.int .i64 n),.clo 51 [.ptr 0 0,.ptr 1 0,.ptr 2 0]],L0:=[.cells [.v (.int .i64 a)],.cells [.sl ps],.cells [.v (.int .i64 s)],.row 3 1 l],v:=.tup [],L1:=[some (.cells [.v (.int .i64 a)]),some (.cells [.sl ps]),some (.cells [.v (.int .i64 s)]),some (.row 3 1 ((Zu (xU a (ps.map qJ) s) (l.map qJ)).map qp))] }
    |_,_,_,_=>none
  |_=>none
theorem e133 {A:Frm→Prop}:qh A Tryz.prog 73 (fnE Qep):=jC fun S bs q h hp=>by
  unfold Qep at h
  split at h
  · split at h
    · rename_i r n i j k _ _ _ _ a ps s l _ _ _ _
      cases h
      obtain ⟨h1,h2,h3,h4,h5,h7⟩:=hp
      subst h7
      have:=Qc8 a (ps.map qJ) s h2 (l.map qJ) (by simpa using h4) (by simpa using h5)
      simp only [soH,dvH,aI,← h1,← h3,List.length_map] at this
      exact this
    · cases h
  · cases h
def yB (f:Nat→Int):Nat→Int
  |0=>0
  |k+1=>yB f k+f k
theorem YF {f:Nat→Int} {c:Int}:∀ {k:Nat},(∀ i,i < k→0≤f i∧f i≤c)→0≤yB f k∧yB f k≤k * c
  |0,_=>by simp [yB]
  |k+1,h=>by
    obtain ⟨h1,h2⟩:=YF (f:=f) (k:=k) fun i hi=>h i (by omega)
    have h3:=h k (by omega)
    rw [yB,Int.natCast_succ,Int.add_mul]
    omega
theorem VG (f:Nat→Int) (c:Int):∀ k,yB (fun i=>c * f i) k=c * yB f k
  |0=>by simp [yB]
  |k+1=>by rw [yB,yB,VG f c k,Int.mul_add]
theorem U9 (f g:Nat→Int):∀ k,yB (fun i=>f i+g i) k=yB f k+yB g k
  |0=>by simp [yB]
  |k+1=>by rw [yB,yB,yB,U9 f g k];omega
theorem Va {f g:Nat→Int}:∀ {k:Nat},(∀ i,i < k→f i=g i)→yB f k=yB g k
  |0,_=>rfl
  |k+1,h=>by rw [yB,yB,Va fun i hi=>h i (by omega),h k (by omega)]
def xf (ps:List Int):Int:=yB (fun i=>ps.getD i 0) ps.length
def QI (ps:List Int) (k:Nat):Int:=if !inB (ps.getD k 0) 0 9 then 1 else 0
def xX (a:Int) (ps:List Int):Int:=if zI ps.length 1 6 ≠ 0 then zI ps.length 1 6 else if jb (errs ps.length (QI ps)) ≠ 0 then jb (errs ps.length (QI ps)) else if !inB a 0 999 then 1 else if xf ps=0 then 11 else 0
def xE (a:Int) (ps:List Int) (i:Nat):Int:=(a * ps.getD i 0).tdiv (xf ps)
def xg (a:Int) (ps:List Int) (k:Nat):List Int:=(List.range k).map (xE a ps)
def Je (k:Nat):List Int:=(List.range k).map fun i:Nat=>(i:Int)
theorem Vh (a:Int) (ps:List Int) (k:Nat):xg a ps (k+1)=xg a ps k++[xE a ps k]:=by unfold xg;rw [List.range_succ,List.map_append];rfl
theorem QcU (k:Nat):Je (k+1)=Je k++[(k:Int)]:=by unfold Je;rw [List.range_succ,List.map_append];rfl
theorem kE (a:Int) (ps:List Int) (k:Nat):(xg a ps k).length=k:=by simp [xg]
theorem Jj (k:Nat):(Je k).length=k:=by simp [Je]
def jP (a:Int) (ps:List Int) (k:Nat):Int:=a - yB (xE a ps) k
def Wz (out ord:List Int):Nat→List Int
  |0=>out
  |k+1=>(Wz out ord k).set (ord.getD k 0).toNat ((Wz out ord k).getD (ord.getD k 0).toNat 0+1)
theorem YS (out ord:List Int):∀ k,(Wz out ord k).length=out.length
  |0=>rfl
  |k+1=>by rw [Wz,List.length_set,YS out ord k]
def jE (a:Int) (ps:List Int):List Int:=Zu (xU a ps (xf ps)) (Je ps.length)
def Qaj (a:Int) (ps:List Int):List Int:=Wz (xg a ps ps.length) (jE a ps) (jP a ps ps.length).toNat
def yK (a:Int) (ps:List Int):AV:=if xX a ps ≠ 0 then .tup [.sl [],aI (xX a ps)] else .tup [ql (Qaj a ps),aI 0]
structure SpOk (a:Int) (ps:List Int):Prop where
  l:1≤ps.length∧ps.length≤6
  d:DvOk a ps (xf ps)
theorem WX {a:Int} {ps:List Int} (h:SpOk a ps) {i:Nat} (hi:i < ps.length):a * ps.getD i 0=xf ps * xE a ps i+Qd a ps (xf ps) i∧0≤xE a ps i∧xE a ps i≤8991:=by
  obtain ⟨h1,h2,h3,h4⟩:=Us h.d (i:=(i:Int)) (by rw [Int.toNat_natCast];exact hi)
  rw [Int.toNat_natCast] at h1 h2
  have hs:=h.d.s
  unfold xE Qd
  rw [Int.toNat_natCast,Int.tdiv_eq_ediv_of_nonneg h1,Int.tmod_eq_emod_of_nonneg h1]
  refine ⟨(Int.mul_ediv_add_emod _ _).symm,Int.ediv_nonneg h1 (by omega), ?_⟩
  exact Int.le_trans (Int.ediv_le_self _ h1) h2
theorem QfI {a:Int} {ps:List Int} (h:SpOk a ps):0≤jP a ps ps.length∧jP a ps ps.length < ps.length:=by
  have h1:a * xf ps=xf ps * yB (xE a ps) ps.length+yB (fun i=>Qd a ps (xf ps) i) ps.length:=by
    rw [← VG (xE a ps),← U9,show a * xf ps=yB (fun i=>a * ps.getD i 0) ps.length from (VG _ _ _).symm]
    exact Va fun i hi=>(WX h hi).1
  have hr:∀ i,i < ps.length→0≤Qd a ps (xf ps) i∧Qd a ps (xf ps) i≤xf ps - 1:=fun i hi=>by
    obtain ⟨_,_,h3,h4⟩:=Us h.d (i:=(i:Int)) (by rw [Int.toNat_natCast];exact hi)
    exact ⟨h3,by omega⟩
  obtain ⟨h2,h3⟩:=YF hr
  have hs:=h.d.s.1
  have hl:=h.l.1
  have e1:xf ps * jP a ps ps.length=yB (fun i=>Qd a ps (xf ps) i) ps.length:=by
    unfold jP;rw [Int.mul_sub,Int.mul_comm (xf ps) a];omega
  refine ⟨?_, ?_⟩
  · rcases Int.lt_or_le (jP a ps ps.length) 0 with hc|hc
    · have:=Int.mul_neg_of_pos_of_neg hs hc;omega
    · exact hc
  · rcases Int.lt_or_le (jP a ps ps.length) ps.length with hc|hc
    · exact hc
    · have h4:xf ps * (ps.length:Int)≤xf ps * jP a ps ps.length:=Int.mul_le_mul_of_nonneg_left hc (by omega)
      rw [Int.mul_sub,Int.mul_comm (ps.length:Int) (xf ps)] at h3
      omega
theorem Qay (n:Nat):∀ x ∈ Je n,InI n x:=fun x hx=>by
  obtain ⟨j,hj,rfl⟩:=List.mem_map.1 hx
  have:=List.mem_range.1 hj
  exact ⟨by omega,by rw [Int.toNat_natCast];exact this⟩
theorem sorted_in {a:Int} {ps:List Int} (h:SpOk a ps):(jE a ps).length=ps.length∧∀ x ∈ jE a ps,InI ps.length x:=by
  have h1:=h.l.1
  obtain ⟨h2,h3⟩:=WJ (c:=xU a ps (xf ps)) (Qay ps.length) ((Je ps.length).length - 1) (by rw [Jj];omega)
  exact ⟨by rw [jE,Zu,h2,Jj],h3⟩
theorem Rn {a:Int} {ps:List Int} (h:SpOk a ps) {k:Nat} (hk:k≤ps.length):-100000≤jP a ps k∧jP a ps k≤999:=by
  obtain ⟨h1,h2⟩:=YF (f:=xE a ps) (k:=k) fun i hi=>⟨(WX h (by omega)).2.1,(WX h (by omega)).2.2⟩
  have:=h.d.a
  have:=h.l.2
  unfold jP
  omega
def wK:=kj @ty3 (kj @jL (kj @ti3.eq_1 @jG.eq_1))
def Vx:=kj @aI.eq_1 (kj @aB.eq_1 (kj @dvH.eq_1 (kj @soH.eq_1 (kj @Qep.eq_1 (kj @Qep.eq_2 (kj @vH (@InI.eq_1)))))))
theorem QgL (a:Int) (ps:List Int) (s:Int) (h:DvOk a ps s) (l:List Int) (hn:1≤l.length∧l.length≤19) (hl:∀ x ∈ l,InI ps.length x):Fn noB Tryz.prog 50 [.row 3,.clo 51 [.ptr 0 0,.ptr 1 0,.ptr 2 0]] (qc (soH a ps s l)) (.tup []) (qc (soH a ps s (Zu (xU a ps s) l))) 0:=by
  have env:Env (fun _=>True) Tryz.prog tyB (tab [(73,fnE Qep)]):=qY ⟨e133,trivial⟩
  refine Fn.of (A:=fun _=>True) (n0:=4) (D:=noD) (Fn0 Tryz.func50 rfl (fun vs w=>by kernel_rfl) (by kernel_rfl)) (by simp) (by simp [AV.ids,AV.idsL]) ?_ (fun _ _ _ _=>trivial) qA ?_
  · intro i o hi
    have h:=qV hi
    simp [soH,dvH,aI] at h
    rcases h with ⟨rfl,rfl⟩|⟨rfl,rfl⟩|⟨rfl,rfl⟩|⟨rfl,rfl⟩ <;> simp [AObj.ids,AV.ids,AV.idsL]
  have hl':∀ x ∈ l,0≤x∧x.toNat < ps.length:=hl
  have hn1:=hn.1
  have hn2:=hn.2
  repeat' (first|(apply nx;with_reducible constructor)|refine jq (by decide) ?_|((first|refine kx env fun Q hQ=>?_|refine kz fun Q hQ=>?_);simp only [vkt,seval,wK,Vx,List.length_map];(try simp only [ite_and]);(repeat' (first|with_reducible assumption|refine And.intro ?_ ?_|intro hp));all_goals (first|(refine hQ _ ?_;clear hQ Q)|(refine hQ _ (fun h=>?_) (fun h=>?_) <;> clear hQ Q <;> (try simp only [vki,reduceCtorEq] at h))|omega|assumption|with_reducible rfl|(refine kq ?_;kernel_rfl)|skip)))
  (simp only [vrt,Tryz.results50,vkt,seval,wK,Vx,List.length_map];refine Fin.ok some [] ?_ ?_ ?_ ?_ ?_ rfl;all_goals (try simp only [vle,vkt,seval,wK,Vx,List.length_map]))
  all_goals simp
def p80 (S:St):List AV→Option Pk
  |[.row r,.clo 51 [.ptr i 0,.ptr j 0,.ptr k 0]]=>match S.h i,S.h j,S.h k,S.h r with
    |some (.cells [.v (.int .i64 a)]),some (.cells [.sl ps]),some (.cells [.v (.int .i64 s)]),some (.row 3 1 l)=>some { pre:=ps=(ps.map qJ).map qp∧DvOk a (ps.map qJ) s∧l=(l.map qJ).map qp∧(1≤l.length∧l.length≤19)∧(∀ x ∈ l.map qJ,InI ps.length x),hs:=[i,j,k,r],ar:=[.row 3,.clo 51 [.ptr 0 0,.ptr 1 0,.ptr 2 0]],L0:=[.cells [.v (.int .i64 a)],.cells [.sl ps],.cells [.v (.int .i64 s)],.row 3 1 l],v:=.tup [],L1:=[some (.cells [.v (.int .i64 a)]),some (.cells [.sl ps]),some (.cells [.v (.int .i64 s)]),some (.row 3 1 ((Zu (xU a (ps.map qJ) s) (l.map qJ)).map qp))] }
    |_,_,_,_=>none
  |_=>none
theorem e80 {A:Frm→Prop}:qh A Tryz.prog 50 (fnE p80):=jC fun S bs q h hp=>by
  unfold p80 at h
  split at h
  · split at h
    · rename_i r i j k _ _ _ _ a ps s l _ _ _ _
      cases h
      obtain ⟨h1,h2,h3,h4,h5⟩:=hp
      have:=QgL a (ps.map qJ) s h2 (l.map qJ) (by simpa using h4) (by simpa using h5)
      simp only [soH,dvH,aI,← h1,← h3] at this
      exact this
    · cases h
  · cases h
end Go.Sym.B
namespace Go.Sym.B
open Go Go.Sym Go.Proofs Go.Sym.C
def spH (a:Int) (ps:List Int) (s:Int):List (Nat × AObj):=[(0,.cells [aI a]),(1,.cells [.sl (ps.map qp)]),(2,.cells [aI s])]
def spS1 (a:Int) (ps:List Int) (k:Nat):St:={ t:=asg [(2,.ptr 0 0),(3,.ptr 1 0),(4,.nil),(5,aI 0),(7,.ptr 2 0),(23,.sl (ps.map qp)),(24,aI ps.length),(25,aI k)],h:=qc (spH a ps (yB (fun i=>ps.getD i 0) k)),n:=3 }
def spS2 (a:Int) (ps:List Int) (k:Nat):St:={ t:=asg [(2,.ptr 0 0),(3,.ptr 1 0),(4,.nil),(5,aI 0),(7,.ptr 2 0),(10,.row 3),(11,.row 4),(12,aI (jP a ps k)),(44,.sl (ps.map qp)),(45,aI ps.length),(46,aI k)],h:=qc (spH a ps (xf ps)++[(3,.row 3 1 ((xg a ps k).map qp)),(4,.row 3 1 ((Je k).map qp))]),n:=5 }
def spS3 (a:Int) (ps:List Int) (k:Nat):St:={ t:=asg [(2,.ptr 0 0),(3,.ptr 1 0),(4,.nil),(5,aI 0),(7,.ptr 2 0),(10,.row 3),(11,.row 4),(75,.rsl 4 1 0 (jP a ps ps.length).toNat),(76,aI ((jP a ps ps.length).toNat:Nat)),(77,aI k)],h:=qc (spH a ps (xf ps)++[(3,.row 3 1 ((Wz (xg a ps ps.length) (jE a ps) k).map qp)),(4,.row 3 1 ((jE a ps).map qp))]),n:=5 }
def qg:=kj @ty3 (kj @jL (kj @QJ (kj @ti3.eq_1 (kj @jG.eq_1 @Qe.eq_1))))
theorem Qbq {out:List Int} {c:Int} (h:∀ x ∈ out,0≤x∧x≤c) (ord:List Int) (ho:∀ x ∈ ord,x.toNat < out.length):∀ k,k≤ord.length→∀ x ∈ Wz out ord k,0≤x∧x≤c+k
  |0,_,x,hx=>by have:=h x hx;simp;omega
  |k+1,hk,x,hx=>by
    rw [Wz] at hx
    have ih:=Qbq h ord ho k (by omega)
    rcases List.mem_or_eq_of_mem_set hx with hx|rfl
    · have:=ih x hx;omega
    · have h1:=ho _ (jU (d:=0) (show k < ord.length by omega))
      have:=ih _ (jU (d:=0) (show (ord.getD k 0).toNat < (Wz out ord k).length by rw [YS];exact h1))
      omega
theorem Qem {a:Int} {ps:List Int} (h:SpOk a ps):∀ x ∈ xg a ps ps.length,0≤x∧x≤8991:=fun x hx=>by
  obtain ⟨j,hj,rfl⟩:=List.mem_map.1 hx
  have:=WX h (List.mem_range.1 hj)
  exact this.2
def zD:=kj @aI.eq_1 (kj @aB.eq_1 (kj @ql.eq_1 (kj @spH.eq_1 (kj @spS1.eq_1 (kj @spS2.eq_1 (kj @spS3.eq_1 (kj @s78.eq_1 (kj @s78.eq_2 (kj @s79.eq_1 (kj @s79.eq_2 (kj @p80.eq_1 (kj @p80.eq_2 (kj @qp.eq_1 (kj @Qn (kj @Uk (kj @vH (kj @setI (@InI.eq_1))))))))))))))))))
set_option maxHeartbeats 4000000 in
theorem Qd6 (a:Int) (ps:List Int) (hm:ps.length≤maxLen):FnV Tryz.prog 18 [aI a,ql ps] (yK a ps):=by
  have env:Env (fun _=>True) Tryz.prog tyB (tab [(24,qo true s78),(27,qo true s79),(50,fnE p80)]):=qY ⟨e78,e79,e80,trivial⟩
  refine Fn.of (A:=fun _=>True) (n0:=0) (D:=noD) (Fn0 Tryz.func18 rfl (fun vs w=>by kernel_rfl) (by kernel_rfl)) (by simp) (by simp [AV.ids,AV.idsL,aI,ql]) (fun i o h=>by cases h) (fun _ _ _ _=>trivial) qA ?_
  by_cases h0:zI ps.length 1 6=0
  · have hl:1≤ps.length∧ps.length≤6:=by unfold zI at h0;split at h0 <;> simp at h0;omega
    repeat' (first|(apply nx;with_reducible constructor)|refine jq (by decide) ?_|((first|refine kx env fun Q hQ=>?_|refine kz fun Q hQ=>?_);simp only [vkt,seval,qg,zD,List.length_map,h0];(try simp only [ite_and]);(repeat' (first|with_reducible assumption|refine And.intro ?_ ?_|intro hp));all_goals (first|(refine hQ _ ?_;clear hQ Q)|(refine hQ _ (fun h=>?_) (fun h=>?_) <;> clear hQ Q <;> (try simp only [vki,reduceCtorEq] at h))|omega|assumption|with_reducible rfl|(refine kq ?_;kernel_rfl)|skip)))
    refine qz (ι:=FI (errs ps.length (QI ps))) (fun i=>spS1 a ps i.k) (fun i=>ps.length - i.k) (FI.zero _) ?_ fun i=>?_
    · (refine Le.ok some [] ?_;constructor;all_goals (try simp only [vle,vkt,seval,qg,zD,List.length_map]))
      all_goals first|rfl|(simp [FI.zero,yB];done)
    · have hk:=i.le
      rw [jS] at hk
      have hin:∀ j,j < i.k→0≤ps.getD j 0∧ps.getD j 0≤9:=fun j hj=>by
        have:=i.all j hj
        rw [QB _ (by omega)] at this
        unfold QI at this
        cases hb:inB (ps.getD j 0) 0 9 with
        |true=>exact wC.1 hb
        |false=>rw [hb] at this;simp at this
      have hsb:=YF hin
      repeat' (first|(apply nx;with_reducible constructor)|refine jq (by decide) ?_)
      (refine kx env fun Q hQ=>?_;simp only [vkt,seval,qg,zD,List.length_map];(try simp only [ite_and]);(repeat' (first|with_reducible assumption|refine And.intro ?_ ?_|intro hp));all_goals (first|(refine hQ _ ?_;clear hQ Q)|omega|assumption|with_reducible rfl|(refine kq ?_;kernel_rfl)|skip))
      repeat' (first|(apply nx;with_reducible constructor)|refine jq (by decide) ?_)
      (refine wh (by simp only [vkt,seval,qg,zD,List.length_map];rfl) (fun h=>?_) (fun h=>?_) <;> (try simp only [vki,reduceCtorEq] at h))
      · have hlt:i.k < ps.length:=by omega
        have e9:=zt hlt hm
        by_cases c1:inB (ps.getD i.k 0) 0 9=true
        · have hb:=wC.1 c1
          have e8:IntKind.wrap .i64 (yB (fun i=>ps.getD i 0) i.k+ps.getD i.k 0)=yB (fun i=>ps.getD i 0) (i.k+1):=wrap64 (by omega) (by omega)
          repeat' (first|(apply nx;with_reducible constructor)|refine jq (by decide) ?_|((first|refine kx env fun Q hQ=>?_|refine kz fun Q hQ=>?_);simp only [vkt,seval,qg,zD,List.length_map,c1,e8];(try simp only [ite_and]);(repeat' (first|with_reducible assumption|refine And.intro ?_ ?_|intro hp));all_goals (first|(refine hQ _ ?_;clear hQ Q)|(refine hQ _ (fun h=>?_) (fun h=>?_) <;> clear hQ Q <;> (try simp only [vki,reduceCtorEq] at h))|omega|assumption|with_reducible rfl|(refine kq ?_;kernel_rfl)|skip)))
          refine ⟨i.next hlt (by unfold QI;rw [c1];rfl),by show ps.length - (i.k+1) < _;omega, ?_⟩
          (refine Le.ok some [] ?_;constructor;all_goals (try simp only [vle,vkt,seval,qg,zD,List.length_map]))
          all_goals first|rfl|(simp [FI.next,e9];done)
        · have c1:inB (ps.getD i.k 0) 0 9=false:=by simpa using c1
          have h1:QI ps i.k=1:=by unfold QI;rw [c1];rfl
          have h2:=i.hit hlt (by rw [h1];decide)
          have h3:xX a ps=1:=by unfold xX;rw [if_neg (by rw [h0];simp),if_pos (by rw [h2,h1];decide),h2,h1]
          rw [show yK a ps=.tup [.sl [],aI 1] by unfold yK;rw [if_pos (by rw [h3];decide),h3]]
          repeat' (first|(apply nx;with_reducible constructor)|refine jq (by decide) ?_|((first|refine kx env fun Q hQ=>?_|refine kz fun Q hQ=>?_);simp only [vkt,seval,qg,zD,List.length_map,c1];(try simp only [ite_and]);(repeat' (first|with_reducible assumption|refine And.intro ?_ ?_|intro hp));all_goals (first|(refine hQ _ ?_;clear hQ Q)|(refine hQ _ (fun h=>?_) (fun h=>?_) <;> clear hQ Q <;> (try simp only [vki,reduceCtorEq] at h))|omega|assumption|with_reducible rfl|(refine kq ?_;kernel_rfl)|skip)))
          (simp only [vrt,Tryz.results18,vkt,seval,qg,zD,List.length_map];refine Fin.val rfl ?_;(try simp only [AV.le,AV.leL]))
          all_goals simp
      · have hkn:i.k=ps.length:=by omega
        have hf:=i.last (by omega)
        rw [hkn] at hin hsb
        have hps:yB (fun i=>ps.getD i 0) i.k=xf ps:=by rw [hkn];rfl
        by_cases c1:inB a 0 999=true
        · by_cases c2:xf ps=0
          · have h3:xX a ps=11:=by unfold xX;rw [if_neg (by rw [h0];simp),if_neg (by rw [hf];simp),if_neg (by rw [c1];simp),if_pos c2]
            rw [show yK a ps=.tup [.sl [],aI 11] by unfold yK;rw [if_pos (by rw [h3];decide),h3]]
            repeat' (first|(apply nx;with_reducible constructor)|refine jq (by decide) ?_|((first|refine kx env fun Q hQ=>?_|refine kz fun Q hQ=>?_);simp only [vkt,seval,qg,zD,List.length_map,hps,c1,c2];(try simp only [ite_and]);(repeat' (first|with_reducible assumption|refine And.intro ?_ ?_|intro hp));all_goals (first|(refine hQ _ ?_;clear hQ Q)|(refine hQ _ (fun h=>?_) (fun h=>?_) <;> clear hQ Q <;> (try simp only [vki,reduceCtorEq] at h))|omega|assumption|with_reducible rfl|(refine kq ?_;kernel_rfl)|skip)))
            (simp only [vrt,Tryz.results18,vkt,seval,qg,zD,List.length_map];refine Fin.val rfl ?_;(try simp only [AV.le,AV.leL]))
            all_goals simp
          · have h3:xX a ps=0:=by unfold xX;rw [if_neg (by rw [h0];simp),if_neg (by rw [hf];simp),if_neg (by rw [c1];simp),if_neg c2]
            rw [show yK a ps=.tup [ql (Qaj a ps),aI 0] by unfold yK;rw [if_neg (by rw [h3];decide)]]
            have hok:SpOk a ps:=⟨hl,wC.1 c1,fun p hp=>by
              obtain ⟨j,hj,rfl⟩:=List.getElem_of_mem hp
              have:=hin j hj
              simpa [List.getD_eq_getElem?_getD,hj] using this,by
              have:(0:Int)≤xf ps:=hsb.1
              have:xf ps≤ps.length * 9:=hsb.2
              omega⟩
            repeat' (first|(apply nx;with_reducible constructor)|refine jq (by decide) ?_|((first|refine kx env fun Q hQ=>?_|refine kz fun Q hQ=>?_);simp only [vkt,seval,qg,zD,List.length_map,hps,c1,c2];(try simp only [ite_and]);(repeat' (first|with_reducible assumption|refine And.intro ?_ ?_|intro hp));all_goals (first|(refine hQ _ ?_;clear hQ Q)|(refine hQ _ (fun h=>?_) (fun h=>?_) <;> clear hQ Q <;> (try simp only [vki,reduceCtorEq] at h))|omega|assumption|with_reducible rfl|(refine kq ?_;kernel_rfl)|skip)))
            refine qz (fun k:{ k:Nat // k≤ps.length }=>spS2 a ps k.1) (fun k=>ps.length - k.1) ⟨0,Nat.zero_le _⟩ ?_ fun ⟨k,hk⟩=>?_
            · (refine Le.ok (fun j=>if j=3 then none else if j=4 then none else some j) [] ?_;constructor;all_goals (try simp only [vle,vkt,seval,qg,zD,List.length_map]))
              all_goals first|rfl|(rw [hps];done)|(simp [xg,Je,jP,yB,hps];done)
            · repeat' (first|(apply nx;with_reducible constructor)|refine jq (by decide) ?_)
              (refine kx env fun Q hQ=>?_;simp only [vkt,seval,qg,zD,List.length_map];(try simp only [ite_and]);(repeat' (first|with_reducible assumption|refine And.intro ?_ ?_|intro hp));all_goals (first|(refine hQ _ ?_;clear hQ Q)|omega|assumption|with_reducible rfl|(refine kq ?_;kernel_rfl)|skip))
              repeat' (first|(apply nx;with_reducible constructor)|refine jq (by decide) ?_)
              (refine wh (by simp only [vkt,seval,qg,zD,List.length_map];rfl) (fun h=>?_) (fun h=>?_) <;> (try simp only [vki,reduceCtorEq] at h))
              · have hlt:k < ps.length:=by omega
                have e9:=zt hlt hm
                obtain ⟨b1,b2,b3⟩:=WX hok hlt
                obtain ⟨d1,d2,d3,d4⟩:=Us hok.d (i:=(k:Int)) (by rw [Int.toNat_natCast];exact hlt)
                rw [Int.toNat_natCast] at d1 d2
                have l1:=Rn hok (k:=k) (by omega)
                have l2:=Rn hok (k:=k+1) hlt
                have w1:IntKind.wrap .i64 (a * ps.getD k 0)=a * ps.getD k 0:=wrap64 (by omega) (by omega)
                have w2:(a * ps.getD k 0).tdiv (xf ps)=xE a ps k:=rfl
                have w3:IntKind.wrap .i64 (xE a ps k)=xE a ps k:=wrap64 (by omega) (by omega)
                have w4:IntKind.wrap .i64 (jP a ps k - xE a ps k)=jP a ps (k+1):=by
                  have:jP a ps (k+1)=jP a ps k - xE a ps k:=by unfold jP;rw [yB];omega
                  rw [this];exact wrap64 (by omega) (by omega)
                have r1:(xg a ps k).map qp++[[.v (.int .i64 (xE a ps k))]]=(xg a ps (k+1)).map qp:=by rw [Vh,List.map_append];rfl
                have r2:(Je k).map qp++[[.v (.int .i64 (k:Int))]]=(Je (k+1)).map qp:=by rw [QcU,List.map_append];rfl
                have r3:=kE a ps k
                have r4:=Jj k
                have r5:((xg a ps (k+1)).map qp).getD k []=[.v (.int .i64 (xE a ps k))]:=by
                  rw [gI0 (by rw [kE];omega),Vh];simp [List.getD_eq_getElem?_getD,kE,qp]
                have r6:=kE a ps (k+1)
                have m1:(k+1) * 8≤140737488355328∧k+1≤maxLen:=by omega
                repeat' (first|(apply nx;with_reducible constructor)|refine jq (by decide) ?_|((first|refine kx env fun Q hQ=>?_|refine kz fun Q hQ=>?_);simp only [vkt,seval,qg,zD,List.length_map,w1,w2,w3,w4,r1,r2,r3,r4,r5,r6,c2,e9];(try simp only [ite_and]);(repeat' (first|with_reducible assumption|refine And.intro ?_ ?_|intro hp));all_goals (first|(refine hQ _ ?_;clear hQ Q)|(refine hQ _ (fun h=>?_) (fun h=>?_) <;> clear hQ Q <;> (try simp only [vki,reduceCtorEq] at h))|omega|assumption|with_reducible rfl|(refine kq ?_;kernel_rfl)|skip)))
                refine ⟨⟨k+1,hlt⟩,by show ps.length - (k+1) < ps.length - k;omega, ?_⟩
                (refine Le.ok (fun j=>if j=3 then some 6 else if j=4 then some 8 else some j) [] ?_;constructor;all_goals (try simp only [vle,vkt,seval,qg,zD,List.length_map]))
                all_goals first|rfl|(simp [e9];done)
              · have hke:k=ps.length:=by omega
                subst hke
                obtain ⟨l1,l2⟩:=QfI hok
                have l3:((jP a ps ps.length).toNat:Int)=jP a ps ps.length:=Int.toNat_of_nonneg l1
                have o1:=Jj ps.length
                have o2:=Qay ps.length
                have o3:∀ x ∈ Je ps.length,0≤x∧x.toNat < ps.length:=Qay ps.length
                have hd:=hok.d
                have n1:ps.length≤19:=by omega
                have n2:1≤ps.length:=hl.1
                have so:Zu (xU a ps (xf ps)) (Je ps.length)=jE a ps:=rfl
                obtain ⟨s1,s2⟩:=sorted_in hok
                repeat' (first|(apply nx;with_reducible constructor)|refine jq (by decide) ?_|((first|refine kx env fun Q hQ=>?_|refine kz fun Q hQ=>?_);simp only [vkt,seval,qg,zD,List.length_map,o1,so,s1];(try simp only [ite_and]);(repeat' (first|with_reducible assumption|refine And.intro ?_ ?_|intro hp));all_goals (first|(refine hQ _ ?_;clear hQ Q)|(refine hQ _ (fun h=>?_) (fun h=>?_) <;> clear hQ Q <;> (try simp only [vki,reduceCtorEq] at h))|omega|assumption|with_reducible rfl|(refine kq ?_;kernel_rfl)|skip)))
                refine qz (fun k:{ k:Nat // k≤(jP a ps ps.length).toNat }=>spS3 a ps k.1) (fun k=>(jP a ps ps.length).toNat - k.1) ⟨0,Nat.zero_le _⟩ ?_ fun ⟨k,hk⟩=>?_
                · (refine Le.ok some [] ?_;constructor;all_goals (try simp only [vle,vkt,seval,qg,zD,List.length_map]))
                  all_goals first|rfl|(simp [Wz];done)
                · repeat' (first|(apply nx;with_reducible constructor)|refine jq (by decide) ?_)
                  (refine kx env fun Q hQ=>?_;simp only [vkt,seval,qg,zD,List.length_map];(try simp only [ite_and]);(repeat' (first|with_reducible assumption|refine And.intro ?_ ?_|intro hp));all_goals (first|(refine hQ _ ?_;clear hQ Q)|omega|assumption|with_reducible rfl|(refine kq ?_;kernel_rfl)|skip))
                  repeat' (first|(apply nx;with_reducible constructor)|refine jq (by decide) ?_)
                  (refine wh (by simp only [vkt,seval,qg,zD,List.length_map];rfl) (fun h=>?_) (fun h=>?_) <;> (try simp only [vki,reduceCtorEq] at h))
                  · have hlt:k < (jP a ps ps.length).toNat:=by omega
                    have hlt2:k < (jE a ps).length:=by omega
                    have hlt3:k < ps.length:=by omega
                    have e9:=zt hlt3 hm
                    obtain ⟨t1,t2⟩:=s2 _ (jU (d:=0) hlt2)
                    have x1:(Wz (xg a ps ps.length) (jE a ps) k).length=ps.length:=by rw [YS,kE]
                    have k1:=gI0 hlt2
                    have k2:=gI0 (l:=Wz (xg a ps ps.length) (jE a ps) k) (n:=((jE a ps).getD k 0).toNat) (by omega)
                    have vb:=Qbq (Qem hok) (jE a ps) (fun x hx=>by rw [kE];exact (s2 x hx).2) k (by omega) _ (jU (d:=0) (show ((jE a ps).getD k 0).toNat < (Wz (xg a ps ps.length) (jE a ps) k).length by omega))
                    have e8:IntKind.wrap .i64 ((Wz (xg a ps ps.length) (jE a ps) k).getD ((jE a ps).getD k 0).toNat 0+1)=(Wz (xg a ps ps.length) (jE a ps) k).getD ((jE a ps).getD k 0).toNat 0+1:=wrap64 (by omega) (by omega)
                    repeat' (first|(apply nx;with_reducible constructor)|refine jq (by decide) ?_|((first|refine kx env fun Q hQ=>?_|refine kz fun Q hQ=>?_);simp only [vkt,seval,qg,zD,List.length_map,k1,k2,x1,s1,e8,e9];(try simp only [ite_and]);(repeat' (first|with_reducible assumption|refine And.intro ?_ ?_|intro hp));all_goals (first|(refine hQ _ ?_;clear hQ Q)|(refine hQ _ (fun h=>?_) (fun h=>?_) <;> clear hQ Q <;> (try simp only [vki,reduceCtorEq] at h))|omega|assumption|with_reducible rfl|(refine kq ?_;kernel_rfl)|skip)))
                    refine ⟨⟨k+1,hlt⟩,by show (jP a ps ps.length).toNat - (k+1) < (jP a ps ps.length).toNat - k;omega, ?_⟩
                    (refine Le.ok some [] ?_;constructor;all_goals (try simp only [vle,vkt,seval,qg,zD,List.length_map]))
                    all_goals first|rfl|(simp [Wz,qp,e9];done)
                  · have hkl:k=(jP a ps ps.length).toNat:=by omega
                    subst hkl
                    repeat' (first|(apply nx;with_reducible constructor)|refine jq (by decide) ?_|((first|refine kx env fun Q hQ=>?_|refine kz fun Q hQ=>?_);simp only [vkt,seval,qg,zD,List.length_map];(try simp only [ite_and]);(repeat' (first|with_reducible assumption|refine And.intro ?_ ?_|intro hp));all_goals (first|(refine hQ _ ?_;clear hQ Q)|(refine hQ _ (fun h=>?_) (fun h=>?_) <;> clear hQ Q <;> (try simp only [vki,reduceCtorEq] at h))|omega|assumption|with_reducible rfl|(refine kq ?_;kernel_rfl)|skip)))
                    (simp only [vrt,Tryz.results18,LU,vkt,seval,qg,zD,List.length_map];refine Fin.val rfl ?_;(try simp only [AV.le,AV.leL]))
                    all_goals first|exact ⟨⟨_,_,rfl⟩,trivial,trivial⟩|(simp [Qaj,ql];done)
        · have c1:inB a 0 999=false:=by simpa using c1
          have h3:xX a ps=1:=by unfold xX;rw [if_neg (by rw [h0];simp),if_neg (by rw [hf];simp),if_pos (by rw [c1];rfl)]
          rw [show yK a ps=.tup [.sl [],aI 1] by unfold yK;rw [if_pos (by rw [h3];decide),h3]]
          repeat' (first|(apply nx;with_reducible constructor)|refine jq (by decide) ?_|((first|refine kx env fun Q hQ=>?_|refine kz fun Q hQ=>?_);simp only [vkt,seval,qg,zD,List.length_map,c1];(try simp only [ite_and]);(repeat' (first|with_reducible assumption|refine And.intro ?_ ?_|intro hp));all_goals (first|(refine hQ _ ?_;clear hQ Q)|(refine hQ _ (fun h=>?_) (fun h=>?_) <;> clear hQ Q <;> (try simp only [vki,reduceCtorEq] at h))|omega|assumption|with_reducible rfl|(refine kq ?_;kernel_rfl)|skip)))
          (simp only [vrt,Tryz.results18,vkt,seval,qg,zD,List.length_map];refine Fin.val rfl ?_;(try simp only [AV.le,AV.leL]))
          all_goals simp
  · have h3:xX a ps=zI ps.length 1 6:=by unfold xX;rw [if_pos h0]
    rw [show yK a ps=.tup [.sl [],aI (zI ps.length 1 6)] by unfold yK;rw [if_pos (by rw [h3];exact h0),h3]]
    repeat' (first|(apply nx;with_reducible constructor)|refine jq (by decide) ?_|((first|refine kx env fun Q hQ=>?_|refine kz fun Q hQ=>?_);simp only [vkt,seval,qg,zD,List.length_map,h0];(try simp only [ite_and]);(repeat' (first|with_reducible assumption|refine And.intro ?_ ?_|intro hp));all_goals (first|(refine hQ _ ?_;clear hQ Q)|(refine hQ _ (fun h=>?_) (fun h=>?_) <;> clear hQ Q <;> (try simp only [vki,reduceCtorEq] at h))|omega|assumption|with_reducible rfl|(refine kq ?_;kernel_rfl)|skip)))
    (simp only [vrt,Tryz.results18,vkt,seval,qg,zD,List.length_map];refine Fin.val rfl ?_;(try simp only [AV.le,AV.leL]))
    all_goals simp
def c24:List AV→Prop × AV
  |[.v (.int .i64 a),.sl ps]=>(ps=(ps.map qJ).map qp∧ps.length≤maxLen,yK a (ps.map qJ))
  |_=>(False,.junk)
theorem d24 {A:Frm→Prop}:qh A Tryz.prog 18 (qo false c24):=qL fun vs hv h=>by
  clear hv
  unfold c24 at h ⊢
  split at h
  · refine ⟨by unfold yK;split <;> simp [AV.plain,AV.plainL,aI,ql],fun h=>absurd h (by decide), ?_⟩
    have:=Qd6 ‹_› _ (show (List.map qJ _).length≤maxLen by rw [List.length_map];exact h.2)
    simp only [ql,← h.1] at this
    exact this
  · exact h.elim
end Go.Sym.B
namespace Go.Sym.B
open Go Go.Sym Go.Proofs Go.Sym.C
def Qdz (S:St):List AV→Option Pk
  |[.sl ps,.clo 61 [.ptr t 0]]=>match S.h t with
    |some (.cells [.v (.int .i64 a),.v (.int .i64 b),.v (.int .i64 c),.v (.int .i64 d),.v (.int .i64 e),.v (.int .i64 f)])=>some { pre:=ps=(ps.map zw).map zH∧ps.length≤100∧∀ p ∈ ps.map zw,2≤p.length,hs:=[t],ar:=[.sl ps,.clo 61 [.ptr 0 0]],L0:=[.cells (QC ⟨a,b,c,d,e,f⟩)],v:=aI (Uw (Zr ⟨a,b,c,d,e,f⟩) (ps.map zw)),L1:=[some (.cells (QC ⟨a,b,c,d,e,f⟩))],fl:=true }
    |_=>none
  |_=>none
theorem e136 {A:Frm→Prop}:qh A Tryz.prog 79 (fnE Qdz):=jC fun S bs q h hp=>by
  unfold Qdz at h
  split at h
  · split at h
    · rename_i ps t _ a b c d e f _
      cases h
      have:=Qht ⟨a,b,c,d,e,f⟩ (ps.map zw) (by simpa using hp.2.1) hp.2.2
      rw [zz,← hp.1] at this
      exact this
    · cases h
  · cases h
def wJ:=kj @ty3 @ti3.eq_1
def VW:=kj @aI.eq_1 (kj @aB.eq_1 (kj @ql.eq_1 (kj @zz.eq_1 (kj @QC.eq_1 (kj @qp.eq_1 (kj @zH.eq_1 (kj @xC (kj @Qdz.eq_1 (@Qdz.eq_2)))))))))
theorem Ut (x:Ent) (ps:List (List Int)) (hl:ps.length≤100) (hp:∀ p ∈ ps,2≤p.length):Fn noB Tryz.prog 60 [zz ps,.clo 61 [.ptr 0 0]] (qc [(0,.cells (QC x))]) (aB (ps.any (Zr x))) (qc [(0,.cells (QC x))]) 0:=by
  have env:Env (fun _=>True) Tryz.prog tyB (tab [(79,fnE Qdz)]):=qY ⟨e136,trivial⟩
  refine Fn.of (A:=fun _=>True) (n0:=1) (D:=noD) (Fn0 Tryz.func60 rfl (fun vs w=>by kernel_rfl) (by kernel_rfl)) (by simp) (by simp [AV.ids,AV.idsL,zz]) ?_ (fun _ _ _ _=>trivial) qA ?_
  · intro i o hi
    have h:=qV hi
    simp at h;obtain ⟨rfl,rfl⟩:=h;simp [QC,AObj.ids,AV.ids,AV.idsL]
  have ex:(⟨x.day,x.kind,x.coin,x.to,x.amount,x.got⟩:Ent)=x:=rfl
  repeat' (first|(apply nx;with_reducible constructor)|refine jq (by decide) ?_|((first|refine kx env fun Q hQ=>?_|refine kz fun Q hQ=>?_);simp only [vkt,seval,wJ,VW,ex];(try simp only [ite_and]);(repeat' (first|with_reducible assumption|refine And.intro ?_ ?_|intro hp));all_goals (first|(refine hQ _ ?_;clear hQ Q)|(refine hQ _ (fun h=>?_) (fun h=>?_) <;> clear hQ Q <;> (try simp only [vki,reduceCtorEq] at h))|omega|assumption|with_reducible rfl|(refine kq ?_;kernel_rfl)|skip)))
  (simp only [vrt,Tryz.results60,Qde,vkt,seval,wJ,VW];refine Fin.ok some [] ?_ ?_ ?_ ?_ ?_ rfl;all_goals (try simp only [vle,vkt,seval,wJ,VW]))
  all_goals simp
def p92 (S:St):List AV→Option Pk
  |[.sl ps,.clo 61 [.ptr t 0]]=>match S.h t with
    |some (.cells [.v (.int .i64 a),.v (.int .i64 b),.v (.int .i64 c),.v (.int .i64 d),.v (.int .i64 e),.v (.int .i64 f)])=>some { pre:=ps=(ps.map zw).map zH∧ps.length≤100∧∀ p ∈ ps.map zw,2≤p.length,hs:=[t],ar:=[.sl ps,.clo 61 [.ptr 0 0]],L0:=[.cells (QC ⟨a,b,c,d,e,f⟩)],v:=aB ((ps.map zw).any (Zr ⟨a,b,c,d,e,f⟩)),L1:=[some (.cells (QC ⟨a,b,c,d,e,f⟩))],fl:=true }
    |_=>none
  |_=>none
theorem e92 {A:Frm→Prop}:qh A Tryz.prog 60 (fnE p92):=jC fun S bs q h hp=>by
  unfold p92 at h
  split at h
  · split at h
    · rename_i ps t _ a b c d e f _
      cases h
      have:=Ut ⟨a,b,c,d,e,f⟩ (ps.map zw) (by simpa using hp.2.1) hp.2.2
      rw [zz,← hp.1] at this
      exact this
    · cases h
  · cases h
def QU (l:Led) (bds:List Int) (own:List (List Int)):Bool:=bds.all fun i=>own.any (Zr (l.entries.getD i.toNat default))
structure BadOk (l:Led) (bds:List Int):Prop where
  len:bds.length≤100
  b:∀ i ∈ bds,0≤i∧i.toNat < l.entries.length
def htS (l:Led) (bds:List Int) (own:List (List Int)) (k:Nat):St:={ t:=asg [(0,zz own),(1,.ptr 0 0),(2,.ptr 1 0),(4,aB false),(8,ql bds),(9,aI bds.length),(10,aI k)],h:=qc [(0,.cells [.sl (bds.map qp)]),(1,.cells (zh l))],n:=2,m:=2 }
def qZ:=kj @ty3 (kj @jL (kj @V8 (kj @xm (kj @JI (kj @ti3.eq_1 (kj @jG.eq_1 (kj @J4.eq_1 (kj @vG.eq_1 @Wv.eq_1))))))))
def yc:=kj @aI.eq_1 (kj @aB.eq_1 (kj @ql.eq_1 (kj @zz.eq_1 (kj @QC.eq_1 (kj @zh.eq_1 (kj @qp.eq_1 (kj @Qn (kj @zH.eq_1 (kj @xC (kj @p92.eq_1 (kj @p92.eq_2 (kj @htS.eq_1 (kj @yg.eq_1 (@QaA))))))))))))))
theorem QhM (l:Led) (bds:List Int) (own:List (List Int)) (hb:BadOk l bds) (hl:own.length≤100) (hp:∀ p ∈ own,2≤p.length):Fn noB Tryz.prog 59 [zz own,.ptr 0 0,.ptr 1 0] (qc [(0,.cells [.sl (bds.map qp)]),(1,.cells (zh l))]) (aB (QU l bds own)) (qc [(0,.cells [.sl (bds.map qp)]),(1,.cells (zh l))]) 0:=by
  have env:Env (fun _=>True) Tryz.prog tyB (tab [(60,fnE p92)]):=qY ⟨e92,trivial⟩
  refine Fn.of (A:=fun _=>True) (n0:=2) (D:=noD) (Fn0 Tryz.func59 rfl (fun vs w=>by kernel_rfl) (by kernel_rfl)) (by simp) (by simp [AV.ids,AV.idsL,zz]) ?_ (fun _ _ _ _=>trivial) qA ?_
  · intro i o hi
    have h:=qV hi
    simp at h
    rcases h with ⟨rfl,rfl⟩|⟨rfl,rfl⟩ <;> simp [zh,AObj.ids,AV.ids,AV.idsL]
  have hm:bds.length≤maxLen:=by
      have:=hb.len;have:(100:Nat)≤maxLen:=by decide
      omega
  repeat' (first|(apply nx;with_reducible constructor)|refine jq (by decide) ?_|((first|refine kx env fun Q hQ=>?_|refine kz fun Q hQ=>?_);simp only [vkt,seval,qZ,yc];(try simp only [ite_and]);(repeat' (first|with_reducible assumption|refine And.intro ?_ ?_|intro hp));all_goals (first|(refine hQ _ ?_;clear hQ Q)|(refine hQ _ (fun h=>?_) (fun h=>?_) <;> clear hQ Q <;> (try simp only [vki,reduceCtorEq] at h))|omega|assumption|with_reducible rfl|(refine kq ?_;kernel_rfl)|skip)))
  refine qz (fun k:{ k:Nat // k≤bds.length∧∀ j,j < k→own.any (Zr (l.entries.getD (bds.getD j 0).toNat default))=true }=>htS l bds own k.1) (fun k=>bds.length - k.1) ⟨0,Nat.zero_le _,fun j h=>absurd h (Nat.not_lt_zero _)⟩ ?_ fun ⟨k,hk,hall⟩=>?_
  · (refine Le.ok some [] ?_;constructor;all_goals (try simp only [vle,vkt,seval,qZ,yc]))
    all_goals simp
  · repeat' (first|(apply nx;with_reducible constructor)|refine jq (by decide) ?_)
    (refine kx env fun Q hQ=>?_;simp only [vkt,seval,qZ,yc];(try simp only [ite_and]);(repeat' (first|with_reducible assumption|refine And.intro ?_ ?_|intro hp));all_goals (first|(refine hQ _ ?_;clear hQ Q)|omega|assumption|with_reducible rfl|(refine kq ?_;kernel_rfl)|skip))
    repeat' (first|(apply nx;with_reducible constructor)|refine jq (by decide) ?_)
    (refine wh (by simp only [vkt,seval,qZ,yc];rfl) (fun h=>?_) (fun h=>?_) <;> (try simp only [vki,reduceCtorEq] at h))
    · have hlt:k < bds.length:=by omega
      obtain ⟨h2,h3⟩:=hb.b _ (jU (d:=0) hlt)
      have e9:=zt hlt hm
      generalize hx:l.entries.getD (bds.getD k 0).toNat default=x at *
      have ex:(⟨x.day,x.kind,x.coin,x.to,x.amount,x.got⟩:Ent)=x:=rfl
      cases c1:own.any (Zr x)
      · have hi:QU l bds own=false:=by
          unfold QU
          rw [List.all_eq_false]
          exact ⟨_,jU (d:=0) hlt,by rw [hx,c1];simp⟩
        repeat' (first|(apply nx;with_reducible constructor)|refine jq (by decide) ?_|((first|refine kx env fun Q hQ=>?_|refine kz fun Q hQ=>?_);simp only [vkt,seval,qZ,yc,hx,ex,c1];(try simp only [ite_and]);(repeat' (first|with_reducible assumption|refine And.intro ?_ ?_|intro hp));all_goals (first|(refine hQ _ ?_;clear hQ Q)|(refine hQ _ (fun h=>?_) (fun h=>?_) <;> clear hQ Q <;> (try simp only [vki,reduceCtorEq] at h))|omega|assumption|with_reducible rfl|(refine kq ?_;kernel_rfl)|skip)))
        (simp only [vrt,Tryz.results59,vkt,seval,qZ,yc];refine Fin.ok some [] ?_ ?_ ?_ ?_ ?_ rfl;all_goals (try simp only [vle,vkt,seval,qZ,yc]))
        all_goals simp [hi]
      · repeat' (first|(apply nx;with_reducible constructor)|refine jq (by decide) ?_|((first|refine kx env fun Q hQ=>?_|refine kz fun Q hQ=>?_);simp only [vkt,seval,qZ,yc,hx,ex,c1];(try simp only [ite_and]);(repeat' (first|with_reducible assumption|refine And.intro ?_ ?_|intro hp));all_goals (first|(refine hQ _ ?_;clear hQ Q)|(refine hQ _ (fun h=>?_) (fun h=>?_) <;> clear hQ Q <;> (try simp only [vki,reduceCtorEq] at h))|omega|assumption|with_reducible rfl|(refine kq ?_;kernel_rfl)|skip)))
        refine ⟨⟨k+1,hlt,fun j hj=>?_⟩,by show bds.length - (k+1) < bds.length - k;omega, ?_⟩
        · rcases Nat.lt_or_eq_of_le (Nat.le_of_lt_succ hj) with h1|h1
          · exact hall j h1
          · rw [h1,hx];exact c1
        · (refine Le.ok some [] ?_;constructor;all_goals (try simp only [vle,vkt,seval,qZ,yc]))
          all_goals simp [e9]
    · have hi:QU l bds own=true:=by
        unfold QU
        rw [List.all_eq_true]
        intro y hy
        obtain ⟨j,hj,rfl⟩:=List.getElem_of_mem hy
        have:=hall j (by omega)
        simpa [List.getD_eq_getElem?_getD,hj] using this
      repeat' (first|(apply nx;with_reducible constructor)|refine jq (by decide) ?_|((first|refine kx env fun Q hQ=>?_|refine kz fun Q hQ=>?_);simp only [vkt,seval,qZ,yc];(try simp only [ite_and]);(repeat' (first|with_reducible assumption|refine And.intro ?_ ?_|intro hp));all_goals (first|(refine hQ _ ?_;clear hQ Q)|(refine hQ _ (fun h=>?_) (fun h=>?_) <;> clear hQ Q <;> (try simp only [vki,reduceCtorEq] at h))|omega|assumption|with_reducible rfl|(refine kq ?_;kernel_rfl)|skip)))
      (simp only [vrt,Tryz.results59,vkt,seval,qZ,yc];refine Fin.ok some [] ?_ ?_ ?_ ?_ ?_ rfl;all_goals (try simp only [vle,vkt,seval,qZ,yc]))
      all_goals simp [hi]
end Go.Sym.B
namespace Go.Sym.B
open Go Go.Sym Go.Proofs Go.Sym.C
def jV (hit:List (List Int)→Bool) (ps:List (List Int)):Nat→List (List Int)→Nat→List (List Int) × Bool
  |0,b,_=>(b,hit b)
  |m+1,b,f=>match (List.range (ps.length - f)).find? (fun i=>(jV hit ps m (b++[ps.getD (f+i) []]) (f+i+1)).2) with
    |some i=>((jV hit ps m (b++[ps.getD (f+i) []]) (f+i+1)).1,true)
    |none=>([],false)
theorem XB {hit:List (List Int)→Bool} {ps:List (List Int)} {m:Nat} {b:List (List Int)} {f i:Nat} (h0:f≤i) (h1:i < ps.length) (h2:(jV hit ps m (b++[ps.getD i []]) (i+1)).2=true) (h3:∀ j,f≤j→j < i→(jV hit ps m (b++[ps.getD j []]) (j+1)).2=false) :
    jV hit ps (m+1) b f=((jV hit ps m (b++[ps.getD i []]) (i+1)).1,true):=by
  have:(List.range (ps.length - f)).find? (fun i=>(jV hit ps m (b++[ps.getD (f+i) []]) (f+i+1)).2)=some (i - f):=by
    rw [List.find?_range_eq_some]
    refine ⟨?_,List.mem_range.2 (by omega),fun j hj=>?_⟩
    · rw [show f+(i - f)=i by omega];exact h2
    · rw [h3 (f+j) (by omega) (by omega)];rfl
  rw [jV,this]
  simp only
  rw [show f+(i - f)=i by omega]
theorem QaJ {hit:List (List Int)→Bool} {ps:List (List Int)} {m:Nat} {b:List (List Int)} {f:Nat} (h3:∀ j,f≤j→j < ps.length→(jV hit ps m (b++[ps.getD j []]) (j+1)).2=false):jV hit ps (m+1) b f=([],false):=by
  have:(List.range (ps.length - f)).find? (fun i=>(jV hit ps m (b++[ps.getD (f+i) []]) (f+i+1)).2)=none:=by
    rw [List.find?_eq_none]
    intro j hj
    have:=List.mem_range.1 hj
    rw [h3 (f+j) (by omega) (by omega)];simp
  rw [jV,this]
theorem Xk {hit:List (List Int)→Bool} {ps:List (List Int)}:∀ (m:Nat) (b:List (List Int)) (f:Nat),f+m=ps.length→hit (b++ps.drop f)=true→(jV hit ps m b f).2=true
  |0,b,f,h,hh=>by
    rw [jV]
    rw [List.drop_eq_nil_of_le (by omega),List.append_nil] at hh
    exact hh
  |m+1,b,f,h,hh=>by
    have h1:(jV hit ps m (b++[ps.getD f []]) (f+1)).2=true:=Xk m _ _ (by omega) (by
      rw [List.drop_eq_getElem_cons (show f < ps.length by omega)] at hh
      rw [List.append_assoc]
      simpa [List.getD_eq_getElem?_getD,show f < ps.length by omega] using hh)
    rw [XB (Nat.le_refl f) (by omega) h1 (fun j h1 h2=>by omega)]
def grH (l:Led) (bds:List Int) (ps:List (List Int)):List (Nat × AObj):=[(0,.cells [.clo 59 [.ptr 3 0,.ptr 4 0]]),(1,.cells [.row 5]),(2,.cells [.clo 62 [.ptr 0 0,.ptr 1 0,.ptr 2 0]]),(3,.cells [.sl (bds.map qp)]),(4,.cells (zh l)),(5,.row 24 1 (ps.map zH))]
def grS (l:Led) (bds:List Int) (ps b:List (List Int)) (f m i:Nat):St:={ t:=asg [(0,zz b),(1,aI f),(2,aI m),(3,.ptr 0 0),(4,.ptr 1 0),(5,.ptr 2 0),(9,.nil),(10,aB false),(11,aI i)],h:=qc (grH l bds ps),n:=6,m:=6 }
structure GrOk (l:Led) (bds:List Int) (ps:List (List Int)):Prop where
  b:BadOk l bds
  len:ps.length≤20
  two:∀ p ∈ ps,2≤p.length
structure BgOk (b:List (List Int)) (f m:Nat):Prop where
  len:b.length+m≤50
  two:∀ p ∈ b,2≤p.length
  f:f≤100
def p91 (S:St):List AV→Option Pk
  |[.sl own,.ptr s 0,.ptr t 0]=>match S.h s,S.h t with
    |some (.cells [.sl bd]),some (.cells [.sl cs,.sl rs,.sl ss,.sl es])=>some { pre:=own=(own.map zw).map zH∧bd=(bd.map qJ).map qp∧isL cs rs ss es∧BadOk (zN cs rs ss es) (bd.map qJ)∧own.length≤100∧(∀ p ∈ own.map zw,2≤p.length),hs:=[s,t],ar:=[.sl own,.ptr 0 0,.ptr 1 0],L0:=[.cells [.sl bd],.cells [.sl cs,.sl rs,.sl ss,.sl es]],v:=aB (QU (zN cs rs ss es) (bd.map qJ) (own.map zw)),L1:=[some (.cells [.sl bd]),some (.cells [.sl cs,.sl rs,.sl ss,.sl es])],fl:=false }
    |_,_=>none
  |_=>none
theorem ZC {cs rs ss es:List (List DV)} (h:isL cs rs ss es):zh (zN cs rs ss es)=[.sl cs,.sl rs,.sl ss,.sl es]:=by
  simp only [zh,zN,← h.1,← h.2.1,← h.2.2.1,← h.2.2.2]
theorem e91 {A:Frm→Prop}:qh A Tryz.prog 59 (fnE p91):=jC fun S bs q h hp=>by
  unfold p91 at h
  split at h
  · split at h
    · rename_i own s t _ _ bd cs rs ss es _ _
      cases h
      have:=QhM (zN cs rs ss es) (bd.map qJ) (own.map zw) hp.2.2.2.1 (by simpa using hp.2.2.2.2.1) hp.2.2.2.2.2
      simp only [zz,← hp.1,← hp.2.1,ZC hp.2.2.1] at this
      exact this
    · cases h
  · cases h
def p94 (M:Nat) (S:St):List AV→Option Pk
  |[.row r,.v (.int .i64 f),.v (.int .i64 m),.ptr a 0,.ptr b 0,.ptr c 0]=>match S.h r,S.h a,S.h b,S.h c with
    |some (.row 24 1 bg),some (.cells [.clo 59 [.ptr x 0,.ptr y 0]]),some (.cells [.row z]),some (.cells [.clo 62 [.ptr a' 0,.ptr b' 0,.ptr c' 0]])=>match S.h x,S.h y,S.h z with
      |some (.cells [.sl bd]),some (.cells [.sl cs,.sl rs,.sl ss,.sl es]),some (.row 24 1 ps) =>
        some { pre:=a'=a∧b'=b∧c'=c∧bg=(bg.map zw).map zH∧bd=(bd.map qJ).map qp∧isL cs rs ss es∧ps=(ps.map zw).map zH∧GrOk (zN cs rs ss es) (bd.map qJ) (ps.map zw)∧BgOk (bg.map zw) f.toNat m.toNat∧0≤f∧0≤m∧m.toNat < M,hs:=[a,b,c,x,y,z],bo:=[r],ar:=[.sl bg,.v (.int .i64 f),.v (.int .i64 m),.ptr 0 0,.ptr 1 0,.ptr 2 0],L0:=[.cells [.clo 59 [.ptr 3 0,.ptr 4 0]],.cells [.row 5],.cells [.clo 62 [.ptr 0 0,.ptr 1 0,.ptr 2 0]],.cells [.sl bd],.cells [.sl cs,.sl rs,.sl ss,.sl es],.row 24 1 ps],v:=.tup [zz (jV (QU (zN cs rs ss es) (bd.map qJ)) (ps.map zw) m.toNat (bg.map zw) f.toNat).1,aB (jV (QU (zN cs rs ss es) (bd.map qJ)) (ps.map zw) m.toNat (bg.map zw) f.toNat).2],L1:=[some (.cells [.clo 59 [.ptr 3 0,.ptr 4 0]]),some (.cells [.row 5]),some (.cells [.clo 62 [.ptr 0 0,.ptr 1 0,.ptr 2 0]]),some (.cells [.sl bd]),some (.cells [.sl cs,.sl rs,.sl ss,.sl es]),some (.row 24 1 ps)] }
      |_,_,_=>none
    |_,_,_,_=>none
  |_=>none
def GrFn (m:Nat):Prop:=∀ (l:Led) (bds:List Int) (ps b:List (List Int)) (f:Nat),GrOk l bds ps→BgOk b f m→Fn noB Tryz.prog 62 [zz b,aI f,aI m,.ptr 0 0,.ptr 1 0,.ptr 2 0] (qc (grH l bds ps)) (.tup [zz (jV (QU l bds) ps m b f).1,aB (jV (QU l bds) ps m b f).2]) (qc (grH l bds ps)) 0
theorem e94 {A:Frm→Prop} {M:Nat} (ih:∀ m,m < M→GrFn m):qh A Tryz.prog 62 (fnE (p94 M)):=jC fun S bs q h hp=>by
  unfold p94 at h
  split at h
  · split at h
    · split at h
      · rename_i r f m a b c _ _ _ _ bg x y z a' b' c' _ _ _ _ _ _ _ bd cs rs ss es ps _ _ _
        cases h
        obtain ⟨_,_,_,h1,h2,h3,h4,h5,h6,h7,h8,h9⟩:=hp
        have:=ih m.toNat h9 (zN cs rs ss es) (bd.map qJ) (ps.map zw) (bg.map zw) f.toNat h5 h6
        simp only [grH,zz,aI,← h1,← h2,← h4,ZC h3,Int.toNat_of_nonneg h7,Int.toNat_of_nonneg h8] at this
        exact this
      · cases h
    · cases h
  · cases h
end Go.Sym.B
namespace Go.Sym.B
open Go Go.Sym Go.Proofs Go.Sym.C
theorem gIn0 {l:List (List Int)} {n:Nat} (h:n < l.length):(l.map zH).getD n []=zH (l.getD n []):=by simp [List.getD_eq_getElem?_getD,h]
def qK:=kj @ty3 (kj @QA (kj @jL (kj @QgY (kj @QgX (kj @ti3.eq_1 (kj @kP.eq_1 (kj @jG.eq_1 (kj @UB.eq_1 @R9.eq_1))))))))
def jr:=kj @aI.eq_1 (kj @aB.eq_1 (kj @zL.eq_1 (kj @zh.eq_1 (kj @zH.eq_1 (kj @zz.eq_1 (kj @grH.eq_1 (kj @grS.eq_1 (kj @p91.eq_1 (kj @p91.eq_2 (kj @p95.eq_1 (kj @p95.eq_2 (kj @p95.eq_3 (kj @p94.eq_1 (kj @p94.eq_2 (kj @yT (kj @jO (kj @xC (kj @vH (@Qe7)))))))))))))))))))
set_option maxHeartbeats 2000000 in
theorem Qfj (m:Nat):GrFn m:=by
  induction m using Nat.strongRecOn with
  |_ m ih =>
    intro l bds ps b f hg hb
    have env:Env (fun _=>True) Tryz.prog tyB (tab [(59,fnE p91),(63,fnE p95),(62,fnE (p94 m))]):=qY ⟨e91,e95,e94 ih,trivial⟩
    refine Fn.of (A:=fun _=>True) (n0:=6) (D:=noD) (Fn0 Tryz.func62 rfl (fun vs w=>by kernel_rfl) (by kernel_rfl)) (by simp) (by simp [AV.ids,AV.idsL,zz,aI]) ?_ (fun _ _ _ _=>trivial) qA ?_
    · intro i o hi
      have h:=qV hi
      simp [grH] at h
      rcases h with ⟨rfl,rfl⟩|⟨rfl,rfl⟩|⟨rfl,rfl⟩|⟨rfl,rfl⟩|⟨rfl,rfl⟩|⟨rfl,rfl⟩ <;> simp [zh,AObj.ids,AV.ids,AV.idsL]
    have hB:=hg.b
    have hlen:b.length≤100:=by have:=hb.len;omega
    have htwo:=hb.two
    cases m with
    |zero =>
      have c0:(((0:Nat):Int)=0)=True:=by simp
      repeat' (first|(apply nx;with_reducible constructor)|refine jq (by decide) ?_|((first|refine kx env fun Q hQ=>?_|refine kz fun Q hQ=>?_);simp only [vkt,seval,qK,jr,c0];(try simp only [ite_and]);(repeat' (first|with_reducible assumption|refine And.intro ?_ ?_|intro hp));all_goals (first|(refine hQ _ ?_;clear hQ Q)|(refine hQ _ (fun h=>?_) (fun h=>?_) <;> clear hQ Q <;> (try simp only [vki,reduceCtorEq] at h))|omega|assumption|with_reducible rfl|(refine kq ?_;kernel_rfl)|skip)))
      (simp only [vrt,Tryz.results62,vkt,seval,qK,jr];refine Fin.ok some [] ?_ ?_ ?_ ?_ ?_ rfl;all_goals (try simp only [vle,vkt,seval,qK,jr]))
      all_goals simp [jV]
    |succ m =>
      have c0:(((m+1:Nat):Int)=0)=False:=by simp;omega
      repeat' (first|(apply nx;with_reducible constructor)|refine jq (by decide) ?_|((first|refine kx env fun Q hQ=>?_|refine kz fun Q hQ=>?_);simp only [vkt,seval,qK,jr,c0];(try simp only [ite_and]);(repeat' (first|with_reducible assumption|refine And.intro ?_ ?_|intro hp));all_goals (first|(refine hQ _ ?_;clear hQ Q)|(refine hQ _ (fun h=>?_) (fun h=>?_) <;> clear hQ Q <;> (try simp only [vki,reduceCtorEq] at h))|omega|assumption|with_reducible rfl|(refine kq ?_;kernel_rfl)|skip)))
      refine qz (fun i:{ i:Nat // f≤i∧i≤100∧∀ j,f≤j→j < i→(jV (QU l bds) ps m (b++[ps.getD j []]) (j+1)).2=false }=>grS l bds ps b f (m+1) i.1) (fun i=>ps.length - i.1) ⟨f,Nat.le_refl _,hb.f,fun j h1 h2=>by omega⟩ ?_ fun ⟨i,hi,hi1,hno⟩=>?_
      · (refine Le.ok some [] ?_;constructor;all_goals (try simp only [vle,vkt,seval,qK,jr]))
        all_goals simp
      · repeat' (first|(apply nx;with_reducible constructor)|refine jq (by decide) ?_)
        (refine kx env fun Q hQ=>?_;simp only [vkt,seval,qK,jr];(try simp only [ite_and]);(repeat' (first|with_reducible assumption|refine And.intro ?_ ?_|intro hp));all_goals (first|(refine hQ _ ?_;clear hQ Q)|omega|assumption|with_reducible rfl|(refine kq ?_;kernel_rfl)|skip))
        repeat' (first|(apply nx;with_reducible constructor)|refine jq (by decide) ?_)
        (refine wh (by simp only [vkt,seval,qK,jr];rfl) (fun h=>?_) (fun h=>?_) <;> (try simp only [vki,reduceCtorEq] at h))
        · have hlt:i < ps.length:=by omega
          have hpl:=hg.len
          have e9:=zt hlt (show ps.length≤maxLen by have:=WM;omega)
          have e8:IntKind.wrap .i64 (((m+1:Nat):Int) - 1)=(m:Int):=by have:=hb.len;rw [wrap64 (by omega) (by omega)];omega
          have g1:=gIn0 hlt
          have hbg:b.map zH++[[.sl ((ps.getD i []).map qp)]]=(b++[ps.getD i []]).map zH:=by rw [List.map_append];rfl
          have hB2:BgOk (b++[ps.getD i []]) (i+1) m:=⟨by have:=hb.len;simp;omega,fun p hp=>by
            rcases List.mem_append.1 hp with h|h
            · exact hb.two p h
            · rw [List.mem_singleton.1 h];exact hg.two _ (jU (d:=[]) hlt),by omega⟩
          have cap:(b.length+1) * 16≤140737488355328∧b.length+1≤maxLen:=by
            have:(100000:Nat)≤maxLen:=by decide
            omega
          have t1:((i+1:Nat):Int).toNat=i+1:=Int.toNat_natCast _
          have t2:(m:Int).toNat=m:=Int.toNat_natCast _
          cases cc:(jV (QU l bds) ps m (b++[ps.getD i []]) (i+1)).2
          · repeat' (first|(apply nx;with_reducible constructor)|refine jq (by decide) ?_|((first|refine kx env fun Q hQ=>?_|refine kz fun Q hQ=>?_);simp only [vkt,seval,qK,jr,e9,e8,g1,hbg,t1,t2,cc];(try simp only [ite_and]);(repeat' (first|with_reducible assumption|refine And.intro ?_ ?_|intro hp));all_goals (first|(refine hQ _ ?_;clear hQ Q)|(refine hQ _ (fun h=>?_) (fun h=>?_) <;> clear hQ Q <;> (try simp only [vki,reduceCtorEq] at h))|omega|assumption|with_reducible rfl|(refine kq ?_;kernel_rfl)|skip)))
            · exact ⟨_,_,rfl⟩
            · refine ⟨⟨i+1,by omega,by omega,fun j h1 h2=>?_⟩,by show ps.length - (i+1) < ps.length - i;omega, ?_⟩
              · rcases Nat.lt_or_eq_of_le (Nat.le_of_lt_succ h2) with h3|h3
                · exact hno j h1 h3
                · rw [h3];exact cc
              · (refine Le.ok some [] ?_;constructor;all_goals (try simp only [vle,vkt,seval,qK,jr]))
                all_goals first|rfl|(simp [e9];done)
          · repeat' (first|(apply nx;with_reducible constructor)|refine jq (by decide) ?_|((first|refine kx env fun Q hQ=>?_|refine kz fun Q hQ=>?_);simp only [vkt,seval,qK,jr,e9,e8,g1,hbg,t1,t2,cc];(try simp only [ite_and]);(repeat' (first|with_reducible assumption|refine And.intro ?_ ?_|intro hp));all_goals (first|(refine hQ _ ?_;clear hQ Q)|(refine hQ _ (fun h=>?_) (fun h=>?_) <;> clear hQ Q <;> (try simp only [vki,reduceCtorEq] at h))|omega|assumption|with_reducible rfl|(refine kq ?_;kernel_rfl)|skip)))
            · exact ⟨_,_,rfl⟩
            · have hh:=XB hi hlt cc hno
              (simp only [vrt,Tryz.results62,vkt,seval,qK,jr];refine Fin.ok some [] ?_ ?_ ?_ ?_ ?_ rfl;all_goals (try simp only [vle,vkt,seval,qK,jr]))
              all_goals first|rfl|(simp [hh];done)
        · have hn:=QaJ (hit:=QU l bds) (ps:=ps) (m:=m) (b:=b) (f:=f) fun j h1 h2=>hno j h1 (by omega)
          repeat' (first|(apply nx;with_reducible constructor)|refine jq (by decide) ?_|((first|refine kx env fun Q hQ=>?_|refine kz fun Q hQ=>?_);simp only [vkt,seval,qK,jr];(try simp only [ite_and]);(repeat' (first|with_reducible assumption|refine And.intro ?_ ?_|intro hp));all_goals (first|(refine hQ _ ?_;clear hQ Q)|(refine hQ _ (fun h=>?_) (fun h=>?_) <;> clear hQ Q <;> (try simp only [vki,reduceCtorEq] at h))|omega|assumption|with_reducible rfl|(refine kq ?_;kernel_rfl)|skip)))
          (simp only [vrt,Tryz.results62,vkt,seval,qK,jr];refine Fin.ok some [] ?_ ?_ ?_ ?_ ?_ rfl;all_goals (try simp only [vle,vkt,seval,qK,jr]))
          all_goals simp [hn]
end Go.Sym.B
namespace Go.Sym.B
open Go Go.Sym Go.Proofs Go.Sym.C
def eQ (q:Rat):List DV:=eSh (shQ q)
def dQ (r:List DV):Rat:=qI (dSh r).num (dSh r).den
theorem dQ_e (q:Rat):dQ (eQ q)=q:=Yy q
theorem mQ (l:List Rat):(l.map eQ).map dQ=l:=by simp [Function.comp_def,dQ_e]
theorem rQ (l:List Rat):zX 2 (l.map eQ)=True:=vk (f:=eQ) (k:=2) (fun _=>rfl) l
theorem gQ {l:List Rat} {n:Nat} {z:List DV} (h:n < l.length):(l.map eQ).getD n z=eQ (l.getD n 0):=by simp [List.getD_eq_getElem?_getD,h]
def sumS (l:List Rat) (k:Nat):St:={ t:=asg [(0,.sl (l.map eQ)),(2,.ptr 0 0),(3,.clo 67 []),(4,.ptr 1 0),(8,.sl (l.map eQ)),(9,aI l.length),(10,aI k)],h:=qc [(0,.cells [.v (.int .i64 0),.v (.int .i64 0)]),(1,.cells [.v (.int .i64 (xu (l.take k)).num),.v (.int .i64 (xu (l.take k)).den)])],n:=2 }
structure SumOk (l:List Rat):Prop where
  len:l.length≤10
  bd:∀ q ∈ l,Bd 1000000 q
theorem SumOk.part {l:List Rat} (h:SumOk l) (k:Nat):Sm (xu (l.take k)):=by
  have h1:=KV (l.take k) (B:=1000000) fun q hq=>h.bd q (List.mem_of_mem_take hq)
  refine (h1.mono (C:=10000000) ?_).sm (by decide)
  have:(l.take k).length≤10:=by have:=h.len;simp;omega
  calc (l.take k).length * 1000000≤10 * 1000000:=Nat.mul_le_mul_right _ this
    _=10000000:=rfl
theorem QcK {l:List Rat} {k:Nat} (h:k < l.length):xu (l.take (k+1))=xu (l.take k)+l.getD k 0:=by
  rw [List.take_succ_eq_append_getElem h,Ya];simp [List.getD_eq_getElem?_getD,h]
def wQ:=kj @ty3 (kj @ZQ (kj @QfC (kj @ti3.eq_1 (kj @Qx.eq_1 @Ub.eq_1))))
def xI:=kj @aI.eq_1 (kj @aB.eq_1 (kj @aSh.eq_1 (kj @shQ.eq_1 (kj @eSh.eq_1 (kj @eQ.eq_1 (kj @ZW.eq_1 (kj @ZW.eq_2 (kj @Jz.eq_1 (kj @Jz.eq_2 (kj @sumS.eq_1 (kj @Zt (kj @Yy (@rQ)))))))))))))
theorem QhC (l:List Rat) (hS:SumOk l):FnV Tryz.prog 56 [.sl (l.map eQ)] (aSh (shQ (xu l))):=by
  have env:Env (fun _=>True) Tryz.prog tyB (tab [(35,qo true ZW),(67,qo true Jz)]):=qY ⟨Qdd,e138,trivial⟩
  refine Fn.of (A:=fun _=>True) (n0:=0) (D:=noD) (Fn0 Tryz.func56 rfl (fun vs w=>by kernel_rfl) (by kernel_rfl)) (by simp) (by simp [AV.ids,AV.idsL]) (fun i o h=>by cases h) (fun _ _ _ _=>trivial) qA ?_
  have hl:=hS.len
  have hm:l.length≤maxLen:=by
      have:=WM;have:(100:Nat)≤maxLen:=by decide
      omega
  repeat' (first|(apply nx;with_reducible constructor)|refine jq (by decide) ?_|((first|refine kx env fun Q hQ=>?_|refine kz fun Q hQ=>?_);simp only [vkt,seval,wQ,xI];(try simp only [ite_and]);(repeat' (first|with_reducible assumption|refine And.intro ?_ ?_|intro hp));all_goals (first|(refine hQ _ ?_;clear hQ Q)|(refine hQ _ (fun h=>?_) (fun h=>?_) <;> clear hQ Q <;> (try simp only [vki,reduceCtorEq] at h))|omega|assumption|with_reducible rfl|(refine kq ?_;kernel_rfl)|skip)))
  refine qz (fun k=>sumS l k) (fun k=>l.length - k) 0 ?_ fun k=>?_
  · (refine Le.ok some [] ?_;constructor;all_goals (try simp only [vle,vkt,seval,wQ,xI]))
    all_goals simp [xu]
  · have h1:=hS.part k
    repeat' (first|(apply nx;with_reducible constructor)|refine jq (by decide) ?_)
    (refine kx env fun Q hQ=>?_;simp only [vkt,seval,wQ,xI];(try simp only [ite_and]);(repeat' (first|with_reducible assumption|refine And.intro ?_ ?_|intro hp));all_goals (first|(refine hQ _ ?_;clear hQ Q)|omega|assumption|with_reducible rfl|(refine kq ?_;kernel_rfl)|skip))
    repeat' (first|(apply nx;with_reducible constructor)|refine jq (by decide) ?_)
    (refine wh (by simp only [vkt,seval,wQ,xI];rfl) (fun h=>?_) (fun h=>?_) <;> (try simp only [vki,reduceCtorEq] at h))
    · have hlt:k < l.length:=by omega
      have h2:=(hS.bd _ (jU (d:=0) hlt)).sm (by decide)
      have g1:=gQ (z:=[.v (.int .i64 0),.v (.int .i64 0)]) hlt
      have e9:=zt hlt hm
      repeat' (first|(apply nx;with_reducible constructor)|refine jq (by decide) ?_|((first|refine kx env fun Q hQ=>?_|refine kz fun Q hQ=>?_);simp only [vkt,seval,wQ,xI,g1];(try simp only [ite_and]);(repeat' (first|with_reducible assumption|refine And.intro ?_ ?_|intro hp));all_goals (first|(refine hQ _ ?_;clear hQ Q)|(refine hQ _ (fun h=>?_) (fun h=>?_) <;> clear hQ Q <;> (try simp only [vki,reduceCtorEq] at h))|omega|assumption|with_reducible rfl|(refine kq ?_;kernel_rfl)|skip)))
      refine ⟨k+1,by omega, ?_⟩
      (refine Le.ok some [] ?_;constructor;all_goals (try simp only [vle,vkt,seval,wQ,xI]))
      all_goals simp [QcK hlt,e9]
    · have hk:l.take k=l:=List.take_of_length_le (by omega)
      repeat' (first|(apply nx;with_reducible constructor)|refine jq (by decide) ?_|((first|refine kx env fun Q hQ=>?_|refine kz fun Q hQ=>?_);simp only [vkt,seval,wQ,xI,hk];(try simp only [ite_and]);(repeat' (first|with_reducible assumption|refine And.intro ?_ ?_|intro hp));all_goals (first|(refine hQ _ ?_;clear hQ Q)|(refine hQ _ (fun h=>?_) (fun h=>?_) <;> clear hQ Q <;> (try simp only [vki,reduceCtorEq] at h))|omega|assumption|with_reducible rfl|(refine kq ?_;kernel_rfl)|skip)))
      (simp only [vrt,Tryz.results56,hk,vkt,seval,wQ,xI];refine Fin.val rfl ?_;(try simp only [AV.le,AV.leL]))
      all_goals simp
def Qda:List AV→Prop × AV
  |[.sl xs]=>(xs=(xs.map dQ).map eQ∧SumOk (xs.map dQ),aSh (shQ (xu (xs.map dQ))))
  |[.nil]=>(True,aSh (shQ (xu [])))
  |_=>(False,.junk)
theorem d102 {A:Frm→Prop}:qh A Tryz.prog 56 (qo true Qda):=qL fun vs hv h=>by
  unfold Qda at h ⊢
  split at h
  · refine ⟨by simp [AV.plain,AV.plainL,aSh],fun _=>by simp [AV.flat,AV.flatL,aSh], ?_⟩
    have:=QhC _ h.2
    rwa [← h.1] at this
  · simp [AV.plainL,AV.plain] at hv
  · exact h.elim
def xP (l:Led) (d:Int) (has:List Int) (k:Nat):Rat:=xu ((List.range k).map fun c:Nat=>rq l d c * (has.getD c 0:Int))
theorem Ri (l:Led) (d:Int) (has:List Int) (k:Nat):xP l d has (k+1)=xP l d has k+rq l d (k:Int) * (has.getD k 0:Int):=by
  unfold xP;rw [List.range_succ,List.map_append,List.map_cons,List.map_nil,Ya]
def wS (l:Led) (d:Int) (has:List Int) (k:Nat):St:={ t:=asg [(0,.ptr 0 0),(1,aI d),(4,.ptr 2 0),(5,.ptr 3 0),(12,.row 1),(13,aI has.length),(14,aI k)],h:=qc [(0,ym l 1),(1,ky has),(2,.cells [.v (.int .i64 0),.v (.int .i64 0)]),(3,.cells [.v (.int .i64 (xP l d has k).num),.v (.int .i64 (xP l d has k).den)])],n:=4,m:=2 }
structure WOk (l:Led) (d:Int) (has:List Int):Prop where
  len:has.length≤4
  rt:∀ c:Nat,c < has.length→Rt l d c
  b:∀ v ∈ has,-10000≤v∧v≤10000
theorem WOk.part {l:Led} {d:Int} {has:List Int} (h:WOk l d has) (k:Nat) (hk:k≤has.length):Bd (k * (20 * 10000)) (xP l d has k):=by
  unfold xP
  have:=KV ((List.range k).map fun c:Nat=>rq l d c * (has.getD c 0:Int)) (B:=20 * 10000) fun q hq=>by
    obtain ⟨c,hc,rfl⟩:=List.mem_map.1 hq
    have hc:=List.mem_range.1 hc
    have:=h.b _ (jU (d:=0) (show c < has.length by omega))
    exact (xB (h.rt c (by omega))).muli (by omega) (by omega)
  simpa using this
def zi:=kj @ty3 (kj @jL (kj @xm (kj @ZQ (kj @Qa3 (kj @ti3.eq_1 (kj @jG.eq_1 (kj @vG.eq_1 (kj @Qx.eq_1 @V6.eq_1))))))))
def vM:=kj @aI.eq_1 (kj @aB.eq_1 (kj @zL.eq_1 (kj @zh.eq_1 (kj @aSh.eq_1 (kj @shQ.eq_1 (kj @qp.eq_1 (kj @Qn (kj @ym.eq_1 (kj @ky.eq_1 (kj @ZW.eq_1 (kj @ZW.eq_2 (kj @Jz.eq_1 (kj @Jz.eq_2 (kj @c98.eq_1 (kj @c98.eq_2 (kj @s99.eq_1 (kj @s99.eq_2 (kj @wS.eq_1 (kj @yT (kj @jO (kj @Zt (@Yy))))))))))))))))))))))
theorem Qeu (l:Led) (d:Int) (has:List Int) (hW:WOk l d has):Fn noB Tryz.prog 57 [.ptr 0 0,aI d] (qc [(0,ym l 1),(1,ky has)]) (aSh (shQ (xP l d has has.length))) (qc [(0,ym l 1),(1,ky has)]) 0:=by
  have env:Env (fun _=>True) Tryz.prog tyB (tab [(29,qo true c98),(30,qo true s99),(35,qo true ZW),(67,qo true Jz)]):=qY ⟨d98,e99,Qdd,e138,trivial⟩
  refine Fn.of (A:=fun _=>True) (n0:=2) (D:=noD) (Fn0 Tryz.func57 rfl (fun vs w=>by kernel_rfl) (by kernel_rfl)) (by simp) (by simp [AV.ids,AV.idsL,aI]) ?_ (fun _ _ _ _=>trivial) qA ?_
  · intro i o hi
    rcases List.mem_cons.1 (qV hi) with h|h
    · cases h;simp [ym,zh,AObj.ids,AV.ids,AV.idsL]
    · simp at h;obtain ⟨rfl,rfl⟩:=h;simp [ky,AObj.ids]
  have hl:=hW.len
  have hm:has.length≤maxLen:=by have:=WM;omega
  repeat' (first|(apply nx;with_reducible constructor)|refine jq (by decide) ?_|((first|refine kx env fun Q hQ=>?_|refine kz fun Q hQ=>?_);simp only [vkt,seval,zi,vM];(try simp only [ite_and]);(repeat' (first|with_reducible assumption|refine And.intro ?_ ?_|intro hp));all_goals (first|(refine hQ _ ?_;clear hQ Q)|(refine hQ _ (fun h=>?_) (fun h=>?_) <;> clear hQ Q <;> (try simp only [vki,reduceCtorEq] at h))|omega|assumption|with_reducible rfl|(refine kq ?_;kernel_rfl)|skip)))
  refine qz (fun k:{ k:Nat // k≤has.length }=>wS l d has k.1) (fun k=>has.length - k.1) ⟨0,Nat.zero_le _⟩ ?_ fun ⟨k,hk⟩=>?_
  · (refine Le.ok some [] ?_;constructor;all_goals (try simp only [vle,vkt,seval,zi,vM]))
    all_goals simp [xP,xu]
  · have h1:=((hW.part k hk).mono (C:=4 * (20 * 10000)) (Nat.mul_le_mul_right _ (by omega))).sm (by decide)
    repeat' (first|(apply nx;with_reducible constructor)|refine jq (by decide) ?_)
    (refine kx env fun Q hQ=>?_;simp only [vkt,seval,zi,vM];(try simp only [ite_and]);(repeat' (first|with_reducible assumption|refine And.intro ?_ ?_|intro hp));all_goals (first|(refine hQ _ ?_;clear hQ Q)|omega|assumption|with_reducible rfl|(refine kq ?_;kernel_rfl)|skip))
    repeat' (first|(apply nx;with_reducible constructor)|refine jq (by decide) ?_)
    (refine wh (by simp only [vkt,seval,zi,vM];rfl) (fun h=>?_) (fun h=>?_) <;> (try simp only [vki,reduceCtorEq] at h))
    · have hlt:k < has.length:=by omega
      have h2:=hW.rt k hlt
      have h3:=hW.b _ (jU (d:=0) hlt)
      have h4:=Rw (xB h2) (show -100000≤has.getD k 0 by omega) (by omega)
      have h5:=((xB h2).muli (C:=10000) (n:=has.getD k 0) (by omega) (by omega)).sm (by decide)
      have e9:=zt hlt hm
      have g0:=gI0 hlt
      repeat' (first|(apply nx;with_reducible constructor)|refine jq (by decide) ?_|((first|refine kx env fun Q hQ=>?_|refine kz fun Q hQ=>?_);simp only [vkt,seval,zi,vM,g0];(try simp only [ite_and]);(repeat' (first|with_reducible assumption|refine And.intro ?_ ?_|intro hp));all_goals (first|(refine hQ _ ?_;clear hQ Q)|(refine hQ _ (fun h=>?_) (fun h=>?_) <;> clear hQ Q <;> (try simp only [vki,reduceCtorEq] at h))|omega|assumption|with_reducible rfl|(refine kq ?_;kernel_rfl)|skip)))
      refine ⟨⟨k+1,hlt⟩,by show has.length - (k+1) < has.length - k;omega, ?_⟩
      (refine Le.ok some [] ?_;constructor;all_goals (try simp only [vle,vkt,seval,zi,vM]))
      all_goals simp [Ri,e9]
    · have hk:k=has.length:=by omega
      subst hk
      repeat' (first|(apply nx;with_reducible constructor)|refine jq (by decide) ?_|((first|refine kx env fun Q hQ=>?_|refine kz fun Q hQ=>?_);simp only [vkt,seval,zi,vM];(try simp only [ite_and]);(repeat' (first|with_reducible assumption|refine And.intro ?_ ?_|intro hp));all_goals (first|(refine hQ _ ?_;clear hQ Q)|(refine hQ _ (fun h=>?_) (fun h=>?_) <;> clear hQ Q <;> (try simp only [vki,reduceCtorEq] at h))|omega|assumption|with_reducible rfl|(refine kq ?_;kernel_rfl)|skip)))
      (simp only [vrt,Tryz.results57,vkt,seval,zi,vM];refine Fin.ok some [] ?_ ?_ ?_ ?_ ?_ rfl;all_goals (try simp only [vle,vkt,seval,zi,vM]))
      all_goals simp
def QeV (S:St):List AV→Option Pk
  |[.ptr t 0,.v (.int .i64 d)]=>match S.h t with
    |some (.cells [.sl cs,.sl rs,.sl ss,.sl es,.row r])=>match S.h r with
      |some (.row 3 1 hs)=>some { pre:=isL cs rs ss es∧hs=(hs.map qJ).map qp∧WOk (zN cs rs ss es) d (hs.map qJ),hs:=[t,r],ar:=[.ptr 0 0,.v (.int .i64 d)],L0:=[.cells [.sl cs,.sl rs,.sl ss,.sl es,.row 1],.row 3 1 hs],v:=aSh (shQ (xP (zN cs rs ss es) d (hs.map qJ) (hs.map qJ).length)),L1:=[some (.cells [.sl cs,.sl rs,.sl ss,.sl es,.row 1]),some (.row 3 1 hs)] }
      |_=>none
    |_=>none
  |_=>none
theorem QgC {cs rs ss es:List (List DV)} (h:isL cs rs ss es):zh (zN cs rs ss es)=[.sl cs,.sl rs,.sl ss,.sl es]:=by
  simp only [zh,zN,← h.1,← h.2.1,← h.2.2.1,← h.2.2.2]
theorem e103 {A:Frm→Prop}:qh A Tryz.prog 57 (fnE QeV):=jC fun S bs q h hp=>by
  unfold QeV at h
  split at h
  · split at h
    · split at h
      · rename_i t d _ cs rs ss es r _ _ hs _
        cases h
        have:=Qeu (zN cs rs ss es) d (hs.map qJ) hp.2.2
        simp only [ym,ky,QgC hp.1,← hp.2.1] at this
        exact this
      · cases h
    · cases h
  · cases h
end Go.Sym.B
namespace Go.Sym.B
open Go Go.Sym Go.Proofs Go.Sym.C
theorem Qhu {a:Nat} {c:TypeId} {xs ys:List (List DV)}:(∃ e k,AObj.row c a xs=AObj.row e k ys)=(xs=ys):=by
  refine propext ⟨fun ⟨e,k,h⟩=>?_,fun h=>⟨c,a,by rw [h]⟩⟩
  cases h;rfl
def kd (l:Led) (d:Int):Nat:=(l.entries.takeWhile fun x=>decide (x.day≤d)).length
theorem WF {α:Type} (p:α→Bool):∀ (l:List α) (k:Nat) (d:α),k < (l.takeWhile p).length→p (l.getD k d)=true
  |[],k,d,h=>by simp at h
  |a :: l,k,d,h=>by
    rw [List.takeWhile_cons] at h
    split at h
    · cases k with
      |zero=>simpa
      |succ k=>simpa using WF p l k d (by simpa using h)
    · simp at h
theorem WH {α:Type} (p:α→Bool):∀ (l:List α) (d:α),(l.takeWhile p).length < l.length→p (l.getD (l.takeWhile p).length d)=false
  |[],d,h=>by simp at h
  |a :: l,d,h=>by
    rw [List.takeWhile_cons] at h ⊢
    split
    · rename_i hp
      rw [if_pos hp] at h
      simpa using WH p l d (by simpa using h)
    · rename_i hp;simpa using hp
theorem Jb {α:Type} (p q:α→Bool) (h:∀ a,p a=true→q a=true):∀ l:List α,(l.takeWhile p).length≤(l.takeWhile q).length
  |[]=>by simp
  |a :: l=>by
    rw [List.takeWhile_cons,List.takeWhile_cons]
    split
    · rename_i hp;rw [if_pos (h a hp)];simpa using Jb p q h l
    · simp
theorem QdE (l:Led) (d:Int):kd l d≤l.entries.length:=List.Sublist.length_le (List.takeWhile_sublist _)
theorem kd_lt {l:Led} {d:Int} {k:Nat} (h:k < kd l d):(l.entries.getD k default).day≤d:=by simpa using WF _ l.entries k default h
theorem Qif {l:Led} {d:Int} (h:kd l d < l.entries.length):¬ (l.entries.getD (kd l d) default).day≤d:=by
  have:=WH (fun x:Ent=>decide (x.day≤d)) l.entries default h
  change decide ((l.entries.getD (kd l d) default).day≤d)=false at this
  simpa only [decide_eq_false_iff_not] using this
theorem Qgk (l:Led) {d e:Int} (h:d≤e):kd l d≤kd l e:=Jb _ _ (fun a ha=>by simp at ha ⊢;omega) _
def evH (l:Led) (d:Int):List Int:=(stK l (kd l d)).2
def gT (l:Led) (c d:Nat):Rat:=(rq l ((d:Int)+1) c - rq l d c) * ((evH l d).getD c 0:Int)
def gQ1 (l:Led) (D c:Nat):Rat:=xu ((List.range D).map fun d=>gT l c d)
theorem QdZ (l:Led) (D c:Nat):gQ1 l (D+1) c=gQ1 l D c+gT l c D:=by
  unfold gQ1;rw [List.range_succ,List.map_append,List.map_cons,List.map_nil,Ya]
def kS (l:Led) (D c:Nat):List Rat:=(List.range l.coins.length).map fun i=>if i < c then gQ1 l (D+1) i else gQ1 l D i
def xW (l:Led):List Rat:=(List.range l.coins.length).map fun i=>gQ1 l (l.rates.length - 1) i
theorem UX (l:Led) (D c:Nat):(kS l D c).length=l.coins.length:=by simp [kS]
theorem Qej {l:Led} {D c:Nat} (h:c < l.coins.length):(kS l D c).getD c 0=gQ1 l D c:=by simp [kS,List.getD_eq_getElem?_getD,h]
theorem QdO {l:Led} {D c:Nat} (h:c < l.coins.length):(kS l D c).set c (gQ1 l D c+gT l c D)=kS l D (c+1):=by
  rw [← QdZ]
  apply List.ext_getElem
  · simp [kS]
  · intro i h1 h2
    simp only [kS,List.length_set,List.length_map,List.length_range] at h1
    rw [List.getElem_set]
    split
    · rename_i e;subst e;simp [kS]
    · simp only [kS,List.getElem_map,List.getElem_range]
      by_cases hi:i < c
      · rw [if_pos hi,if_pos (by omega)]
      · rw [if_neg hi,if_neg (by omega)]
theorem Qci (l:Led) (D:Nat):kS l D l.coins.length=kS l (D+1) 0:=by
  unfold kS
  refine List.map_congr_left fun i hi=>?_
  have:=List.mem_range.1 hi
  rw [if_pos this,if_neg (by omega)]
theorem QaK (l:Led):(kS l 0 0).map eQ=List.replicate l.coins.length (eQ 0):=by
  unfold kS
  rw [List.map_map]
  refine List.eq_replicate_iff.2 ⟨by simp,fun b hb=>?_⟩
  obtain ⟨i,hi,rfl⟩:=List.mem_map.1 hb
  simp [gQ1,xu]
theorem QeJ (l:Led) (h:1≤l.rates.length):kS l (l.rates.length - 1) 0=xW l:=by
  unfold kS xW
  refine List.map_congr_left fun i hi=>?_
  rw [if_neg (by omega)]
theorem Wn {l:Led} (h:Val l) (k:Nat) (hk:k≤l.entries.length):HasOk l k (stK l k).2:=Yg h.sl h.s k hk fun j hj=>h.es j (by omega)
theorem kF {l:Led} (h:Val l) {k:Nat} (hk:k < l.entries.length):EntryOk l (l.entries.getD k default) (stK l k).1:=by
  have h0:=h.es k hk
  rw [QeB] at h0
  unfold eV at h0
  split at h0
  · exact absurd h0 ‹_›
  · exact Z7 (Decidable.not_not.1 ‹_›)
theorem KZ {l:Led} (h:Val l) (k:Nat) (hk:k≤l.entries.length) (c:Nat):0≤(stK l k).2.getD c 0∧(stK l k).2.getD c 0≤6993:=by
  have h1:=Wn h k hk
  have:=h.e
  by_cases hc:c < (stK l k).2.length
  · have:=h1.b _ (jU (d:=0) hc);omega
  · rw [List.getD_eq_getElem?_getD,List.getElem?_eq_none (by omega)];simp
theorem QgU {l:Led} (h:Val l) {c d:Nat} (hc:c < l.coins.length) (hd:d+1 < l.rates.length):Bd 300000 (gT l c d):=by
  have r1:=xB (ve h (d:=(d:Int)+1) (c:=c) (by omega) (by omega) (by omega) (by omega))
  have r2:=xB (ve h (d:=(d:Int)) (c:=c) (by omega) (by omega) (by omega) (by omega))
  have hb:=KZ h (kd l d) (QdE _ _) c
  exact ((r1.sub r2).muli (C:=7000) (n:=(evH l d).getD c 0) (by unfold evH;omega) (by unfold evH;omega)).mono (by decide)
theorem QdH {l:Led} (h:Val l) {c D:Nat} (hc:c < l.coins.length) (hd:D < l.rates.length):Bd 900000 (gQ1 l D c):=by
  have:=KV ((List.range D).map fun d=>gT l c d) (B:=300000) fun q hq=>by
    obtain ⟨d,hd',rfl⟩:=List.mem_map.1 hq
    exact QgU h hc (by have:=List.mem_range.1 hd';omega)
  refine this.mono ?_
  have:=h.r
  simp;omega
def gS1 (l:Led) (D k:Nat):St:={ t:=asg [(1,.ptr 0 0),(3,.row 3),(4,.ptr 1 0),(5,aI k),(20,aI ((l.rates.length:Int) - 1)),(21,aI D)],h:=qc [(0,.cells (zh l)),(1,ym l 2),(2,ky (stK l k).2),(3,.row 69 2 ((kS l D 0).map eQ))],n:=4 }
def gS2 (l:Led) (D k:Nat):St:={ t:=asg [(1,.ptr 0 0),(3,.row 3),(4,.ptr 1 0),(5,aI k),(6,aI D),(20,aI ((l.rates.length:Int) - 1)),(21,aI D)],h:=qc [(0,.cells (zh l)),(1,ym l 2),(2,ky (stK l k).2),(3,.row 69 2 ((kS l D 0).map eQ))],n:=4 }
def gS3 (l:Led) (D c:Nat):St:={ t:=asg [(1,.ptr 0 0),(3,.row 3),(4,.ptr 1 0),(5,aI (kd l D)),(6,aI D),(20,aI ((l.rates.length:Int) - 1)),(21,aI D),(60,.row 2),(61,aI l.coins.length),(62,aI c)],h:=qc [(0,.cells (zh l)),(1,ym l 2),(2,ky (evH l D)),(3,.row 69 2 ((kS l D c).map eQ))],n:=4 }
theorem setQ (l:List Rat) (n:Nat) (q:Rat):(l.map eQ).set n [.v (.int .i64 q.num),.v (.int .i64 q.den)]=(l.set n q).map eQ:=by rw [List.map_set];rfl
end Go.Sym.B
namespace Go.Sym.B
open Go Go.Sym Go.Proofs Go.Sym.C
def Yf (n:Nat) (d:Nat):List (List Int):=(List.range (n - 1)).map fun c:Nat=>[(d:Int),(c:Int)+1]
def vB (n:Nat) (k:Nat):List (List Int):=(List.range k).flatMap (Yf n)
theorem Yx (n k:Nat):vB n (k+1)=vB n k++Yf n k:=by
  unfold vB;rw [List.range_succ,List.flatMap_append];simp
theorem Qam (n d:Nat):(Yf n d).length=n - 1:=by simp [Yf]
theorem Vd (n k:Nat):(vB n k).length=k * (n - 1):=by
  induction k with
  |zero=>simp [vB]
  |succ k ih=>rw [Yx,List.length_append,ih,Qam,Nat.succ_mul]
def w9 (l:Led):List (List Int):=vB l.coins.length l.rates.length
def WG (l:Led) (m:Nat):List (List Int) × Bool:=jV (QU l (K4 l)) (w9 l) m [] 0
theorem Xr {l:Led} {d c:Int} (hd:0≤d) (hd':d≤(l.rates.length:Int) - 1) (hc:1≤c) (hc':c≤(l.coins.length:Int) - 1):[d,c] ∈ w9 l:=by
  unfold w9 vB Yf
  refine List.mem_flatMap.2 ⟨d.toNat,List.mem_range.2 (by omega),List.mem_map.2 ⟨(c - 1).toNat,List.mem_range.2 (by omega), ?_⟩⟩
  rw [show ((d.toNat:Nat):Int)=d by omega,show (((c - 1).toNat:Nat):Int)+1=c by omega]
theorem QgK {l:Led} (hV:Val l):QU l (K4 l) (w9 l)=true:=by
  unfold QU
  rw [List.all_eq_true]
  intro y hy
  obtain ⟨i,hi,rfl⟩:=List.mem_map.1 hy
  obtain ⟨h1,h2⟩:=List.mem_filter.1 hi
  have h1:=List.mem_range.1 h1
  have hx:=kF hV h1
  unfold VO at h2
  rw [Bool.and_eq_true,decide_eq_true_eq] at h2
  rw [Int.toNat_natCast]
  generalize l.entries.getD i default=x at *
  have k3:=h2.1
  have t1:=hx.to k3
  have t2:=hx.ne k3
  rw [List.any_eq_true]
  by_cases hc:1≤x.coin
  · exact ⟨_,Xr hx.day.1 hx.day.2 hc hx.coin.2,by simp [Zr]⟩
  · exact ⟨_,Xr hx.day.1 hx.day.2 (show 1≤x.to by have:=hx.coin.1;omega) t1.2,by simp [Zr]⟩
theorem Qcr {l:Led} (hV:Val l):(WG l (w9 l).length).2=true :=
  Xk _ _ _ (by omega) (by rw [List.nil_append,List.drop_zero];exact QgK hV)
end Go.Sym.B
namespace Go.Sym.B
open Go Go.Sym Go.Proofs Go.Sym.C
def QaO (l:Led):Nat:=((List.range ((w9 l).length+1)).find? fun m=>(WG l m).2).getD 0
def Qba (l:Led):List (List Int):=(WG l (QaO l)).1
theorem Qa8 {l:Led} {m:Nat} (hm:m≤(w9 l).length) (h:(WG l m).2=true) (hb:∀ j,j < m→(WG l j).2=false):QaO l=m:=by
  unfold QaO
  have:(List.range ((w9 l).length+1)).find? (fun m=>(WG l m).2)=some m:=by
    rw [List.find?_range_eq_some]
    exact ⟨h,List.mem_range.2 (by omega),fun j hj=>by simpa using hb j hj⟩
  rw [this];rfl
def JQ (l:Led):AV:=if zB l ≠ 0 then .tup [.sl [],aI (zB l)] else .tup [zz (Qba l),aI 0]
def Qv (d:Nat) (c:Nat):List (List Int):=(List.range c).map fun c:Nat=>[(d:Int),(c:Int)+1]
theorem UF (d c:Nat):Qv d (c+1)=Qv d c++[[(d:Int),(c:Int)+1]]:=by
  unfold Qv;rw [List.range_succ,List.map_append];rfl
theorem QaE (d c:Nat):(Qv d c).length=c:=by simp [Qv]
def QdD (S:St):List AV→Option Pk
  |[.nil,.v (.int .i64 f),.v (.int .i64 m),.ptr a 0,.ptr b 0,.ptr c 0]=>match S.h a,S.h b,S.h c with
    |some (.cells [.clo 59 [.ptr x 0,.ptr y 0]]),some (.cells [.row z]),some (.cells [.clo 62 [.ptr a' 0,.ptr b' 0,.ptr c' 0]])=>match S.h x,S.h y,S.h z with
      |some (.cells [.sl bd]),some (.cells [.sl cs,.sl rs,.sl ss,.sl es]),some (.row 24 1 ps) =>
        some { pre:=a'=a∧b'=b∧c'=c∧bd=(bd.map qJ).map qp∧isL cs rs ss es∧ps=(ps.map zw).map zH∧GrOk (zN cs rs ss es) (bd.map qJ) (ps.map zw)∧BgOk [] f.toNat m.toNat∧0≤f∧0≤m,hs:=[a,b,c,x,y,z],ar:=[.sl [],.v (.int .i64 f),.v (.int .i64 m),.ptr 0 0,.ptr 1 0,.ptr 2 0],L0:=[.cells [.clo 59 [.ptr 3 0,.ptr 4 0]],.cells [.row 5],.cells [.clo 62 [.ptr 0 0,.ptr 1 0,.ptr 2 0]],.cells [.sl bd],.cells [.sl cs,.sl rs,.sl ss,.sl es],.row 24 1 ps],v:=.tup [zz (jV (QU (zN cs rs ss es) (bd.map qJ)) (ps.map zw) m.toNat [] f.toNat).1,aB (jV (QU (zN cs rs ss es) (bd.map qJ)) (ps.map zw) m.toNat [] f.toNat).2],L1:=[some (.cells [.clo 59 [.ptr 3 0,.ptr 4 0]]),some (.cells [.row 5]),some (.cells [.clo 62 [.ptr 0 0,.ptr 1 0,.ptr 2 0]]),some (.cells [.sl bd]),some (.cells [.sl cs,.sl rs,.sl ss,.sl es]),some (.row 24 1 ps)] }
      |_,_,_=>none
    |_,_,_=>none
  |_=>none
theorem e94n {A:Frm→Prop}:qh A Tryz.prog 62 (fnE QdD):=jC fun S bs q h hp=>by
  unfold QdD at h
  split at h
  · split at h
    · split at h
      · rename_i f m a b c _ _ _ x y z a' b' c' _ _ _ _ _ _ bd cs rs ss es ps _ _ _
        cases h
        obtain ⟨_,_,_,h2,h3,h4,h5,h6,h7,h8⟩:=hp
        have:=Qfj m.toNat (zN cs rs ss es) (bd.map qJ) (ps.map zw) [] f.toNat h5 h6
        simp only [grH,zz,aI,← h2,← h4,ZC h3,Int.toNat_of_nonneg h7,Int.toNat_of_nonneg h8,List.map_nil] at this
        exact this
      · cases h
    · cases h
  · cases h
def wrH (l:Led) (ps:List (List Int)):List (Nat × AObj):=[(0,.cells (zh l)),(1,.cells [.sl ((K4 l).map qp)]),(2,.cells [.row 3]),(3,.row 24 1 (ps.map zH))]
def wrS1 (l:Led) (k:Nat):St:={ t:=asg [(1,.ptr 0 0),(2,.nil),(3,aI 0),(4,.ptr 1 0),(6,.ptr 2 0),(24,aI l.rates.length),(25,aI k)],h:=qc (wrH l (vB l.coins.length k)),n:=4 }
def wrS2 (l:Led) (k c:Nat):St:={ t:=asg [(1,.ptr 0 0),(2,.nil),(3,aI 0),(4,.ptr 1 0),(6,.ptr 2 0),(7,aI k),(8,aI ((c:Int)+1)),(24,aI l.rates.length),(25,aI k)],h:=qc (wrH l (vB l.coins.length k++Qv k c)),n:=4 }
def wrS3 (l:Led) (m:Nat):St:={ t:=asg [(1,.ptr 0 0),(2,.nil),(3,aI 0),(4,.ptr 1 0),(6,.ptr 2 0),(9,.ptr 4 0),(10,.ptr 5 0),(11,aI m)],h:=qc ([(4,.cells [.clo 59 [.ptr 1 0,.ptr 0 0]]),(5,.cells [.clo 62 [.ptr 4 0,.ptr 2 0,.ptr 5 0]])]++wrH l (w9 l)),n:=6 }
theorem badOk {l:Led} (h:Val l):BadOk l (K4 l):=⟨by have:=Ug l l.entries.length;have:=h.e;unfold K4;omega,fun i hi=>by
  obtain ⟨j,hj,rfl⟩:=List.mem_map.1 hi
  have:=List.mem_range.1 (List.mem_filter.1 hj).1
  omega⟩
theorem Qc4 (l:Led):∀ p ∈ w9 l,2≤p.length:=fun p hp=>by
  unfold w9 vB Yf at hp
  obtain ⟨d,_,hp⟩:=List.mem_flatMap.1 hp
  obtain ⟨c,_,rfl⟩:=List.mem_map.1 hp
  simp
theorem Xy {l:Led} (h:Val l):(w9 l).length≤12:=by
  unfold w9;rw [Vd]
  have h1:=h.c
  have h2:=h.r
  calc l.rates.length * (l.coins.length - 1)≤4 * 3:=Nat.mul_le_mul h2.2 (by omega)
    _=12:=rfl
def qy:=kj @ty3 (kj @QA (kj @YB (kj @jL (kj @xm (kj @Wt (kj @QJ (kj @QgY (kj @QgX (kj @ti3.eq_1 (kj @kP.eq_1 (kj @WO.eq_1 (kj @jG.eq_1 (kj @vG.eq_1 (kj @Zo.eq_1 (kj @Qe.eq_1 (kj @UB.eq_1 @R9.eq_1))))))))))))))))
def wG:=kj @aI.eq_1 (kj @aB.eq_1 (kj @zL.eq_1 (kj @zh.eq_1 (kj @ql.eq_1 (kj @zz.eq_1 (kj @wrH.eq_1 (kj @wrS1.eq_1 (kj @wrS2.eq_1 (kj @wrS3.eq_1 (kj @c31.eq_1 (kj @c31.eq_2 (kj @QdD.eq_1 (kj @QdD.eq_2 (kj @yT (kj @jO (kj @qp.eq_1 (kj @Uk (kj @Qe7 (kj @vH (kj @xC (@zH.eq_1)))))))))))))))))))))
set_option maxHeartbeats 2000000 in
theorem Qe6 (l:Led) (hl:Fit l):FnV Tryz.prog 22 [zL l] (JQ l):=by
  have env:Env (fun _=>True) Tryz.prog tyB (tab [(17,qo false c31),(62,fnE QdD)]):=qY ⟨d31,e94n,trivial⟩
  refine Fn.of (A:=fun _=>True) (n0:=0) (D:=noD) (Fn0 Tryz.func22 rfl (fun vs w=>by kernel_rfl) (by kernel_rfl)) (by simp) (by simp [AV.ids,AV.idsL,zL,zh]) (fun i o h=>by cases h) (fun _ _ _ _=>trivial) qA ?_
  by_cases c0:zB l=0
  · rw [show JQ l=_ from if_neg (by rw [c0];simp)]
    have hb0:KR l=.tup [.sl ((K4 l).map qp),.v (.int .i64 0)]:=if_neg (by rw [c0];simp)
    have hV:=Qt c0
    have q1:=hV.c
    have q2:=hV.r
    have q5:=WM
    repeat' (first|(apply nx;with_reducible constructor)|refine jq (by decide) ?_|((first|refine kx env fun Q hQ=>?_|refine kz fun Q hQ=>?_);simp only [vkt,seval,qy,wG,hb0];(try simp only [ite_and]);(repeat' (first|with_reducible assumption|refine And.intro ?_ ?_|intro hp));all_goals (first|(refine hQ _ ?_;clear hQ Q)|(refine hQ _ (fun h=>?_) (fun h=>?_) <;> clear hQ Q <;> (try simp only [vki,reduceCtorEq] at h))|omega|assumption|with_reducible rfl|(refine kq ?_;kernel_rfl)|skip)))
    refine qz (fun k:{ k:Nat // k≤l.rates.length }=>wrS1 l k.1) (fun k=>l.rates.length - k.1) ⟨0,Nat.zero_le _⟩ ?_ fun ⟨k,hk⟩=>?_
    · (refine Le.ok (fun j=>if j=3 then none else some j) [] ?_;constructor;all_goals (try simp only [vle,vkt,seval,qy,wG]))
      all_goals first|rfl|trivial|(simp [vB];done)
    · repeat' (first|(apply nx;with_reducible constructor)|refine jq (by decide) ?_)
      (refine kx env fun Q hQ=>?_;simp only [vkt,seval,qy,wG];(try simp only [ite_and]);(repeat' (first|with_reducible assumption|refine And.intro ?_ ?_|intro hp));all_goals (first|(refine hQ _ ?_;clear hQ Q)|omega|assumption|with_reducible rfl|(refine kq ?_;kernel_rfl)|skip))
      repeat' (first|(apply nx;with_reducible constructor)|refine jq (by decide) ?_)
      (refine wh (by simp only [vkt,seval,qy,wG];rfl) (fun h=>?_) (fun h=>?_) <;> (try simp only [vki,reduceCtorEq] at h))
      · have hlt:k < l.rates.length:=by omega
        have e9:=zt hlt (show l.rates.length≤maxLen by omega)
        repeat' (first|(apply nx;with_reducible constructor)|refine jq (by decide) ?_|((first|refine kx env fun Q hQ=>?_|refine kz fun Q hQ=>?_);simp only [vkt,seval,qy,wG];(try simp only [ite_and]);(repeat' (first|with_reducible assumption|refine And.intro ?_ ?_|intro hp));all_goals (first|(refine hQ _ ?_;clear hQ Q)|(refine hQ _ (fun h=>?_) (fun h=>?_) <;> clear hQ Q <;> (try simp only [vki,reduceCtorEq] at h))|omega|assumption|with_reducible rfl|(refine kq ?_;kernel_rfl)|skip)))
        refine qz (fun c:{ c:Nat // c≤l.coins.length - 1 }=>wrS2 l k c.1) (fun c=>l.coins.length - 1 - c.1) ⟨0,Nat.zero_le _⟩ ?_ fun ⟨c,hc⟩=>?_
        · (refine Le.ok some [] ?_;constructor;all_goals (try simp only [vle,vkt,seval,qy,wG]))
          all_goals first|rfl|trivial|(simp [Qv];done)
        · repeat' (first|(apply nx;with_reducible constructor)|refine jq (by decide) ?_)
          (refine kx env fun Q hQ=>?_;simp only [vkt,seval,qy,wG];(try simp only [ite_and]);(repeat' (first|with_reducible assumption|refine And.intro ?_ ?_|intro hp));all_goals (first|(refine hQ _ ?_;clear hQ Q)|omega|assumption|with_reducible rfl|(refine kq ?_;kernel_rfl)|skip))
          repeat' (first|(apply nx;with_reducible constructor)|refine jq (by decide) ?_)
          (refine wh (by simp only [vkt,seval,qy,wG];rfl) (fun h=>?_) (fun h=>?_) <;> (try simp only [vki,reduceCtorEq] at h))
          · have hlc:c < l.coins.length - 1:=by omega
            have e8:IntKind.wrap .i64 ((c:Int)+1+1)=(c:Int)+1+1:=wrap64 (by omega) (by omega)
            have pl:=Vd l.coins.length k
            have pl2:k * (l.coins.length - 1)≤3 * 3:=Nat.mul_le_mul (by omega) (by omega)
            have cap:((vB l.coins.length k++Qv k c).length+1) * 24≤140737488355328∧(vB l.coins.length k++Qv k c).length+1≤maxLen:=by
              rw [List.length_append,pl,QaE];omega
            repeat' (first|(apply nx;with_reducible constructor)|refine jq (by decide) ?_|((first|refine kx env fun Q hQ=>?_|refine kz fun Q hQ=>?_);simp only [vkt,seval,qy,wG,e8];(try simp only [ite_and]);(repeat' (first|with_reducible assumption|refine And.intro ?_ ?_|intro hp));all_goals (first|(refine hQ _ ?_;clear hQ Q)|(refine hQ _ (fun h=>?_) (fun h=>?_) <;> clear hQ Q <;> (try simp only [vki,reduceCtorEq] at h))|omega|assumption|with_reducible rfl|(refine kq ?_;kernel_rfl)|skip)))
            refine ⟨⟨c+1,by omega⟩,by show l.coins.length - 1 - (c+1) < l.coins.length - 1 - c;omega, ?_⟩
            (refine Le.ok (fun j=>if j=3 then some 6 else some j) [] ?_;constructor;all_goals (try simp only [vle,vkt,seval,qy,wG]))
            all_goals first|rfl|trivial|(simp [UF,zH,qp];done)|(simp;done)
          · have hce:c=l.coins.length - 1:=by omega
            subst hce
            repeat' (first|(apply nx;with_reducible constructor)|refine jq (by decide) ?_|((first|refine kx env fun Q hQ=>?_|refine kz fun Q hQ=>?_);simp only [vkt,seval,qy,wG,e9];(try simp only [ite_and]);(repeat' (first|with_reducible assumption|refine And.intro ?_ ?_|intro hp));all_goals (first|(refine hQ _ ?_;clear hQ Q)|(refine hQ _ (fun h=>?_) (fun h=>?_) <;> clear hQ Q <;> (try simp only [vki,reduceCtorEq] at h))|omega|assumption|with_reducible rfl|(refine kq ?_;kernel_rfl)|skip)))
            refine ⟨⟨k+1,hlt⟩,by show l.rates.length - (k+1) < l.rates.length - k;omega, ?_⟩
            have hps:vB l.coins.length k++Qv k (l.coins.length - 1)=vB l.coins.length (k+1):=(Yx _ _).symm
            (refine Le.ok some [] ?_;constructor;all_goals (try simp only [vle,vkt,seval,qy,wG]))
            all_goals first|rfl|trivial|(rw [hps];done)|(simp [hps,e9];done)
      · have hkn:k=l.rates.length:=by omega
        subst hkn
        have hgo:GrOk l (K4 l) (w9 l):=⟨badOk hV,by have:=Xy hV;omega,Qc4 l⟩
        have hpl:=Xy hV
        repeat' (first|(apply nx;with_reducible constructor)|refine jq (by decide) ?_|((first|refine kx env fun Q hQ=>?_|refine kz fun Q hQ=>?_);simp only [vkt,seval,qy,wG];(try simp only [ite_and]);(repeat' (first|with_reducible assumption|refine And.intro ?_ ?_|intro hp));all_goals (first|(refine hQ _ ?_;clear hQ Q)|(refine hQ _ (fun h=>?_) (fun h=>?_) <;> clear hQ Q <;> (try simp only [vki,reduceCtorEq] at h))|omega|assumption|with_reducible rfl|(refine kq ?_;kernel_rfl)|skip)))
        refine qz (fun m:{ m:Nat // m≤(w9 l).length∧∀ j,j < m→(WG l j).2=false }=>wrS3 l m.1) (fun m=>(w9 l).length - m.1) ⟨0,Nat.zero_le _,fun j h=>absurd h (Nat.not_lt_zero _)⟩ ?_ fun ⟨m,hm,hno⟩=>?_
        · (refine Le.ok some [] ?_;constructor;all_goals (try simp only [vle,vkt,seval,qy,wG]))
          all_goals first|rfl|trivial|(simp [w9];done)
        · have hbg:BgOk [] 0 m:=⟨by simp;omega,fun p hp=>by simp at hp,Nat.zero_le _⟩
          have e9:IntKind.wrap .i64 ((m:Int)+1)=((m+1:Nat):Int):=by rw [wrap64 (by omega) (by omega)];rfl
          have t1:(m:Int).toNat=m:=Int.toNat_natCast _
          have hgr:jV (QU l (K4 l)) (w9 l) m [] 0=WG l m:=rfl
          cases cc:(WG l m).2
          · have hlt:m < (w9 l).length:=by
              rcases Nat.lt_or_eq_of_le hm with h|h
              · exact h
              · rw [h,Qcr hV] at cc;cases cc
            repeat' (first|(apply nx;with_reducible constructor)|refine jq (by decide) ?_|((first|refine kx env fun Q hQ=>?_|refine kz fun Q hQ=>?_);simp only [vkt,seval,qy,wG,e9,t1,hgr,cc];(try simp only [ite_and]);(repeat' (first|with_reducible assumption|refine And.intro ?_ ?_|intro hp));all_goals (first|(refine hQ _ ?_;clear hQ Q)|(refine hQ _ (fun h=>?_) (fun h=>?_) <;> clear hQ Q <;> (try simp only [vki,reduceCtorEq] at h))|omega|assumption|with_reducible rfl|(refine kq ?_;kernel_rfl)|skip)))
            refine ⟨⟨m+1,hlt,fun j hj=>?_⟩,by show (w9 l).length - (m+1) < (w9 l).length - m;omega, ?_⟩
            · rcases Nat.lt_or_eq_of_le (Nat.le_of_lt_succ hj) with h1|h1
              · exact hno j h1
              · rw [h1];exact cc
            · (refine Le.ok some [] ?_;constructor;all_goals (try simp only [vle,vkt,seval,qy,wG]))
              all_goals first|rfl|trivial|(simp [e9];done)
          · have hw:=Qa8 hm cc hno
            have hwl:Qba l=(WG l m).1:=by unfold Qba;rw [hw]
            repeat' (first|(apply nx;with_reducible constructor)|refine jq (by decide) ?_|((first|refine kx env fun Q hQ=>?_|refine kz fun Q hQ=>?_);simp only [vkt,seval,qy,wG,e9,t1,hgr,cc];(try simp only [ite_and]);(repeat' (first|with_reducible assumption|refine And.intro ?_ ?_|intro hp));all_goals (first|(refine hQ _ ?_;clear hQ Q)|(refine hQ _ (fun h=>?_) (fun h=>?_) <;> clear hQ Q <;> (try simp only [vki,reduceCtorEq] at h))|omega|assumption|with_reducible rfl|(refine kq ?_;kernel_rfl)|skip)))
            (simp only [vrt,Tryz.results22,vkt,seval,qy,wG];refine Fin.val rfl ?_;(try simp only [AV.le,AV.leL]))
            all_goals simp [hwl]
  · rw [show JQ l=_ from if_pos c0]
    have hb0:KR l=.tup [.sl [],aI (zB l)]:=if_pos c0
    repeat' (first|(apply nx;with_reducible constructor)|refine jq (by decide) ?_|((first|refine kx env fun Q hQ=>?_|refine kz fun Q hQ=>?_);simp only [vkt,seval,qy,wG,hb0,c0];(try simp only [ite_and]);(repeat' (first|with_reducible assumption|refine And.intro ?_ ?_|intro hp));all_goals (first|(refine hQ _ ?_;clear hQ Q)|(refine hQ _ (fun h=>?_) (fun h=>?_) <;> clear hQ Q <;> (try simp only [vki,reduceCtorEq] at h))|omega|assumption|with_reducible rfl|(refine kq ?_;kernel_rfl)|skip)))
    (simp only [vrt,Tryz.results22,vkt,seval,qy,wG];refine Fin.val rfl ?_;(try simp only [AV.le,AV.leL]))
    all_goals simp
def c32:List AV→Prop × AV
  |[.agg [.sl cs,.sl rs,.sl ss,.sl es]]=>(isL cs rs ss es∧Fit (zN cs rs ss es),JQ (zN cs rs ss es))
  |_=>(False,.junk)
theorem d32 {A:Frm→Prop}:qh A Tryz.prog 22 (qo false c32):=qL fun vs hv h=>by
  clear hv
  unfold c32 at h ⊢
  split at h
  · refine ⟨by unfold JQ;split <;> simp [AV.plain,AV.plainL,aI,zz],fun h=>absurd h (by decide), ?_⟩
    rw [← jD h.1];exact Qe6 _ h.2
  · exact h.elim
end Go.Sym.B
namespace Go.Sym.B
open Go Go.Sym Go.Proofs Go.Sym.C
def qH:=kj @ty3 (kj @QA (kj @YB (kj @jL (kj @V8 (kj @xm (kj @Wt (kj @JI (kj @ZQ (kj @QfC (kj @Qa3 (kj @ti3.eq_1 (kj @kP.eq_1 (kj @WO.eq_1 (kj @jG.eq_1 (kj @J4.eq_1 (kj @vG.eq_1 (kj @Zo.eq_1 (kj @Wv.eq_1 (kj @Qx.eq_1 (kj @Ub.eq_1 @V6.eq_1))))))))))))))))))))
def wU:=kj @aI.eq_1 (kj @aB.eq_1 (kj @zL.eq_1 (kj @zh.eq_1 (kj @aSh.eq_1 (kj @shQ.eq_1 (kj @eQ.eq_1 (kj @eSh.eq_1 (kj @ym.eq_1 (kj @ky.eq_1 (kj @gS1.eq_1 (kj @gS2.eq_1 (kj @gS3.eq_1 (kj @ZW.eq_1 (kj @ZW.eq_2 (kj @Qfk.eq_1 (kj @Qfk.eq_2 (kj @p97.eq_1 (kj @p97.eq_2 (kj @WV.eq_1 (kj @WV.eq_2 (kj @c98.eq_1 (kj @c98.eq_2 (kj @J6.eq_1 (kj @J6.eq_2 (kj @s99.eq_1 (kj @s99.eq_2 (kj @Jz.eq_1 (kj @Jz.eq_2 (kj @yT (kj @jO (kj @Zt (kj @Yy (kj @xC (kj @Kq (kj @vH (kj @WL (kj @yg.eq_1 (kj @QaA (kj @qp.eq_1 (@Qhu))))))))))))))))))))))))))))))))))))))))
set_option maxHeartbeats 2000000 in
theorem QdN (l:Led) (hV:Val l):FnV Tryz.prog 36 [zL l] (.sl ((xW l).map eQ)):=by
  have env:Env (fun _=>True) Tryz.prog tyB (tab [(35,qo true ZW),(68,fnE Qfk),(37,fnE p97),(38,fnE WV),(29,qo true c98),(34,qo true J6),(30,qo true s99),(67,qo true Jz)]):=qY ⟨Qdd,e137,e97,e101,d98,e100,e99,e138,trivial⟩
  refine Fn.of (A:=fun _=>True) (n0:=0) (D:=noD) (Fn0 Tryz.func36 rfl (fun vs w=>by kernel_rfl) (by kernel_rfl)) (by simp) (by simp [AV.ids,AV.idsL,zL,zh]) (fun i o h=>by cases h) (fun _ _ _ _=>trivial) qA ?_
  have q1:=hV.c
  have q2:=hV.r
  have q3:=hV.sl
  have q4:=hV.e
  have q5:l.start.length≤100000:=by omega
  have w1:IntKind.wrap .i64 ((l.rates.length:Int) - 1)=(l.rates.length:Int) - 1:=wrap64 (by omega) (by omega)
  repeat' (first|(apply nx;with_reducible constructor)|refine jq (by decide) ?_|((first|refine kx env fun Q hQ=>?_|refine kz fun Q hQ=>?_);simp only [vkt,Nat.reduceEqDiff,Nat.reduceAdd,Nat.reduceMul,Nat.reduceSub,Nat.reduceLeDiff,reduceCtorEq,↓reduceIte,↓reduceDIte,Int.reduceToNat,Int.reduceLE,Int.reduceLT,Int.reduceEq,Int.reduceNeg,qH,wU,w1];(try simp only [ite_and]);(repeat' (first|with_reducible assumption|refine And.intro ?_ ?_|intro hp));all_goals (first|(refine hQ _ ?_;clear hQ Q)|(refine hQ _ (fun h=>?_) (fun h=>?_) <;> clear hQ Q <;> (try simp only [vki,reduceCtorEq] at h))|omega|assumption|with_reducible rfl|(refine kq ?_;kernel_rfl)|skip)))
  have hst:=QaK l
  refine qz (fun D:{ D:Nat // D≤l.rates.length - 1 }=>gS1 l D.1 (if D.1=0 then 0 else kd l ((D.1:Int) - 1))) (fun D=>l.rates.length - 1 - D.1) ⟨0,Nat.zero_le _⟩ ?_ fun ⟨D,hD⟩=>?_
  · (refine Le.ok (fun j=>if j=0 then some 0 else if j=1 then some 3 else if j=2 then some 4 else if j=3 then some 2 else none) [] ?_;constructor;all_goals (try simp only [vle,vkt,Nat.reduceEqDiff,Nat.reduceAdd,Nat.reduceMul,Nat.reduceSub,Nat.reduceLeDiff,reduceCtorEq,↓reduceIte,↓reduceDIte,Int.reduceToNat,Int.reduceLE,Int.reduceLT,Int.reduceEq,Int.reduceNeg,qH,wU]))
    all_goals (first|(decide;done)|skip)
    · exact ⟨rfl,rfl⟩
    · exact ⟨rfl,hst.symm⟩
  · generalize hk0:(if D=0 then 0 else kd l ((D:Int) - 1))=k0
    have hk0':k0≤kd l D:=by
      rw [← hk0];split
      · exact Nat.zero_le _
      · exact Qgk l (by omega)
    repeat' (first|(apply nx;with_reducible constructor)|refine jq (by decide) ?_)
    (refine kx env fun Q hQ=>?_;simp only [vkt,Nat.reduceEqDiff,Nat.reduceAdd,Nat.reduceMul,Nat.reduceSub,Nat.reduceLeDiff,reduceCtorEq,↓reduceIte,↓reduceDIte,Int.reduceToNat,Int.reduceLE,Int.reduceLT,Int.reduceEq,Int.reduceNeg,qH,wU];(try simp only [ite_and]);(repeat' (first|with_reducible assumption|refine And.intro ?_ ?_|intro hp));all_goals (first|(refine hQ _ ?_;clear hQ Q)|omega|assumption|with_reducible rfl|(refine kq ?_;kernel_rfl)|skip))
    repeat' (first|(apply nx;with_reducible constructor)|refine jq (by decide) ?_)
    (refine wh (by simp only [vkt,Nat.reduceEqDiff,Nat.reduceAdd,Nat.reduceMul,Nat.reduceSub,Nat.reduceLeDiff,reduceCtorEq,↓reduceIte,↓reduceDIte,Int.reduceToNat,Int.reduceLE,Int.reduceLT,Int.reduceEq,Int.reduceNeg,qH,wU];rfl) (fun h=>?_) (fun h=>?_) <;> (try simp only [vki,reduceCtorEq] at h))
    · have hDlt:D+1 < l.rates.length:=by omega
      repeat' (first|(apply nx;with_reducible constructor)|refine jq (by decide) ?_|((first|refine kx env fun Q hQ=>?_|refine kz fun Q hQ=>?_);simp only [vkt,Nat.reduceEqDiff,Nat.reduceAdd,Nat.reduceMul,Nat.reduceSub,Nat.reduceLeDiff,reduceCtorEq,↓reduceIte,↓reduceDIte,Int.reduceToNat,Int.reduceLE,Int.reduceLT,Int.reduceEq,Int.reduceNeg,qH,wU];(try simp only [ite_and]);(repeat' (first|with_reducible assumption|refine And.intro ?_ ?_|intro hp));all_goals (first|(refine hQ _ ?_;clear hQ Q)|(refine hQ _ (fun h=>?_) (fun h=>?_) <;> clear hQ Q <;> (try simp only [vki,reduceCtorEq] at h))|omega|assumption|with_reducible rfl|(refine kq ?_;kernel_rfl)|skip)))
      refine qz (fun k:{ k:Nat // k≤kd l D }=>gS2 l D k.1) (fun k=>kd l D - k.1) ⟨k0,hk0'⟩ ?_ fun ⟨k,hk⟩=>?_
      · (refine Le.ok some [] ?_;constructor;all_goals (try simp only [vle,vkt,Nat.reduceEqDiff,Nat.reduceAdd,Nat.reduceMul,Nat.reduceSub,Nat.reduceLeDiff,reduceCtorEq,↓reduceIte,↓reduceDIte,Int.reduceToNat,Int.reduceLE,Int.reduceLT,Int.reduceEq,Int.reduceNeg,qH,wU]))
        all_goals simp
      · have hkl:=QdE l D
        have ho:=Wn hV k (by omega)
        by_cases hlt:k < kd l D
        · have hkd:=kd_lt hlt
          have hentry:=kF hV (show k < l.entries.length by omega)
          have hen:=YE ho (by omega) hentry
          have hS:=ZL (show k < l.entries.length by omega)
          generalize hx:l.entries.getD k default=x at *
          have hen':EnOk (stK l k).2 ⟨x.day,x.kind,x.coin,x.to,x.amount,x.got⟩:=hen
          have c1:((k:Int) < l.entries.length):=by omega
          have e9:=zt hlt (show kd l D≤maxLen by have:=WM;omega)
          repeat' (first|(apply nx;with_reducible constructor)|refine jq (by decide) ?_|((first|refine kx env fun Q hQ=>?_|refine kz fun Q hQ=>?_);simp only [vkt,Nat.reduceEqDiff,Nat.reduceAdd,Nat.reduceMul,Nat.reduceSub,Nat.reduceLeDiff,reduceCtorEq,↓reduceIte,↓reduceDIte,Int.reduceToNat,Int.reduceLE,Int.reduceLT,Int.reduceEq,Int.reduceNeg,qH,wU,hx,c1,hkd];(try simp only [ite_and]);(repeat' (first|with_reducible assumption|refine And.intro ?_ ?_|intro hp));all_goals (first|(refine hQ _ ?_;clear hQ Q)|(refine hQ _ (fun h=>?_) (fun h=>?_) <;> clear hQ Q <;> (try simp only [vki,reduceCtorEq] at h))|omega|assumption|with_reducible rfl|(refine kq ?_;kernel_rfl)|skip)))
          refine ⟨⟨k+1,hlt⟩,by show kd l D - (k+1) < kd l D - k;omega, ?_⟩
          (refine Le.ok some [] ?_;constructor;all_goals (try simp only [vle,vkt,Nat.reduceEqDiff,Nat.reduceAdd,Nat.reduceMul,Nat.reduceSub,Nat.reduceLeDiff,reduceCtorEq,↓reduceIte,↓reduceDIte,Int.reduceToNat,Int.reduceLE,Int.reduceLT,Int.reduceEq,Int.reduceNeg,qH,wU]))
          all_goals simp [hS,e9]
        · have hkk:k=kd l D:=by omega
          subst hkk
          have hcase:(((kd l D:Int) < l.entries.length)∧¬ (l.entries.getD (kd l D) default).day≤D)∨(¬ ((kd l D:Int) < l.entries.length)∧True):=by
            by_cases hend:kd l D < l.entries.length
            · exact .inl ⟨by omega,Qif hend⟩
            · exact .inr ⟨by omega,trivial⟩
          have hlen:(stK l (kd l D)).2.length=l.coins.length:=ho.len
          have hlen':((stK l (kd l D)).2.length:Int)=l.coins.length:=by omega
          have e8:IntKind.wrap .i64 ((D:Int)+1)=(D:Int)+1:=wrap64 (by omega) (by omega)
          have e7:IntKind.wrap .i64 ((D:Int)+1)=((D+1:Nat):Int):=by rw [e8];rfl
          have e6:((D+1:Nat):Int) - 1=D:=by omega
          rcases hcase with ⟨c1,c2⟩|⟨c1,c2⟩
          all_goals (
            repeat' (first|(apply nx;with_reducible constructor)|refine jq (by decide) ?_|((first|refine kx env fun Q hQ=>?_|refine kz fun Q hQ=>?_);simp only [vkt,Nat.reduceEqDiff,Nat.reduceAdd,Nat.reduceMul,Nat.reduceSub,Nat.reduceLeDiff,reduceCtorEq,↓reduceIte,↓reduceDIte,Int.reduceToNat,Int.reduceLE,Int.reduceLT,Int.reduceEq,Int.reduceNeg,qH,wU,c1,c2];(try simp only [ite_and]);(repeat' (first|with_reducible assumption|refine And.intro ?_ ?_|intro hp));all_goals (first|(refine hQ _ ?_;clear hQ Q)|(refine hQ _ (fun h=>?_) (fun h=>?_) <;> clear hQ Q <;> (try simp only [vki,reduceCtorEq] at h))|omega|assumption|with_reducible rfl|(refine kq ?_;kernel_rfl)|skip)))
            refine qz (fun c:{ c:Nat // c≤l.coins.length }=>gS3 l D c.1) (fun c=>l.coins.length - c.1) ⟨0,Nat.zero_le _⟩ ?_ fun ⟨c,hc⟩=>?_
            · (refine Le.ok some [] ?_;constructor;all_goals (try simp only [vle,vkt,Nat.reduceEqDiff,Nat.reduceAdd,Nat.reduceMul,Nat.reduceSub,Nat.reduceLeDiff,reduceCtorEq,↓reduceIte,↓reduceDIte,Int.reduceToNat,Int.reduceLE,Int.reduceLT,Int.reduceEq,Int.reduceNeg,qH,wU]))
              all_goals first|exact ⟨rfl,trivial⟩|(simp only [hlen',evH,and_self,and_true,true_and];done)|simp [hlen',evH]
            · repeat' (first|(apply nx;with_reducible constructor)|refine jq (by decide) ?_)
              (refine kx env fun Q hQ=>?_;simp only [vkt,Nat.reduceEqDiff,Nat.reduceAdd,Nat.reduceMul,Nat.reduceSub,Nat.reduceLeDiff,reduceCtorEq,↓reduceIte,↓reduceDIte,Int.reduceToNat,Int.reduceLE,Int.reduceLT,Int.reduceEq,Int.reduceNeg,qH,wU];(try simp only [ite_and]);(repeat' (first|with_reducible assumption|refine And.intro ?_ ?_|intro hp));all_goals (first|(refine hQ _ ?_;clear hQ Q)|omega|assumption|with_reducible rfl|(refine kq ?_;kernel_rfl)|skip))
              repeat' (first|(apply nx;with_reducible constructor)|refine jq (by decide) ?_)
              (refine wh (by simp only [vkt,Nat.reduceEqDiff,Nat.reduceAdd,Nat.reduceMul,Nat.reduceSub,Nat.reduceLeDiff,reduceCtorEq,↓reduceIte,↓reduceDIte,Int.reduceToNat,Int.reduceLE,Int.reduceLT,Int.reduceEq,Int.reduceNeg,qH,wU];rfl) (fun h=>?_) (fun h=>?_) <;> (try simp only [vki,reduceCtorEq] at h))
              · have hclt:c < l.coins.length:=by omega
                have r1:=ve hV (d:=(D:Int)+1) (c:=c) (by omega) (by omega) (by omega) (by omega)
                have r2:=ve hV (d:=(D:Int)) (c:=c) (by omega) (by omega) (by omega) (by omega)
                have b1:=xB r1
                have b2:=xB r2
                have s1:=b1.sm (by decide)
                have s2:=b2.sm (by decide)
                have hb:=KZ hV (kd l D) (QdE _ _) c
                have b3:=b1.sub b2
                have t3:Tm (rq l ((D:Int)+1) c - rq l D c) ((evH l D).getD c 0):=⟨b3.sm (by decide),by unfold evH;omega,by unfold evH;omega⟩
                have s3:=(QgU hV hclt hDlt).sm (by decide)
                unfold gT at s3
                have s4:=(QdH hV hclt (show D < l.rates.length by omega)).sm (by decide)
                have g1:=gQ (z:=[]) (show c < (kS l D c).length by rw [UX];exact hclt)
                rw [Qej hclt] at g1
                have hcl2:c < (kS l D c).length:=by rw [UX];exact hclt
                have hel:c < (evH l D).length:=by unfold evH;omega
                have g2:=gI0 hel
                have g3:=setQ (kS l D c) c
                have e9:=zt hclt (show l.coins.length≤maxLen by have:=WM;omega)
                have hset:=QdO (D:=D) hclt
                unfold gT at hset
                repeat' (first|(apply nx;with_reducible constructor)|refine jq (by decide) ?_|((first|refine kx env fun Q hQ=>?_|refine kz fun Q hQ=>?_);simp only [vkt,Nat.reduceEqDiff,Nat.reduceAdd,Nat.reduceMul,Nat.reduceSub,Nat.reduceLeDiff,reduceCtorEq,↓reduceIte,↓reduceDIte,Int.reduceToNat,Int.reduceLE,Int.reduceLT,Int.reduceEq,Int.reduceNeg,qH,wU,g1,g2,g3,e8,hset];(try simp only [ite_and]);(repeat' (first|with_reducible assumption|refine And.intro ?_ ?_|intro hp));all_goals (first|(refine hQ _ ?_;clear hQ Q)|(refine hQ _ (fun h=>?_) (fun h=>?_) <;> clear hQ Q <;> (try simp only [vki,reduceCtorEq] at h))|omega|assumption|with_reducible rfl|(refine kq ?_;kernel_rfl)|skip)))
                refine ⟨⟨c+1,hclt⟩,by show l.coins.length - (c+1) < l.coins.length - c;omega, ?_⟩
                (refine Le.ok some [] ?_;constructor;all_goals (try simp only [vle,vkt,Nat.reduceEqDiff,Nat.reduceAdd,Nat.reduceMul,Nat.reduceSub,Nat.reduceLeDiff,reduceCtorEq,↓reduceIte,↓reduceDIte,Int.reduceToNat,Int.reduceLE,Int.reduceLT,Int.reduceEq,Int.reduceNeg,qH,wU]))
                all_goals first|rfl|trivial|(simp [e9];done)|exact ⟨rfl,trivial⟩|exact ⟨rfl,rfl⟩
              · have hcn:c=l.coins.length:=by omega
                subst hcn
                have hnx:=Qci l D
                repeat' (first|(apply nx;with_reducible constructor)|refine jq (by decide) ?_|((first|refine kx env fun Q hQ=>?_|refine kz fun Q hQ=>?_);simp only [vkt,Nat.reduceEqDiff,Nat.reduceAdd,Nat.reduceMul,Nat.reduceSub,Nat.reduceLeDiff,reduceCtorEq,↓reduceIte,↓reduceDIte,Int.reduceToNat,Int.reduceLE,Int.reduceLT,Int.reduceEq,Int.reduceNeg,qH,wU,hnx,e7];(try simp only [ite_and]);(repeat' (first|with_reducible assumption|refine And.intro ?_ ?_|intro hp));all_goals (first|(refine hQ _ ?_;clear hQ Q)|(refine hQ _ (fun h=>?_) (fun h=>?_) <;> clear hQ Q <;> (try simp only [vki,reduceCtorEq] at h))|omega|assumption|with_reducible rfl|(refine kq ?_;kernel_rfl)|skip)))
                refine ⟨⟨D+1,by omega⟩,by show l.rates.length - 1 - (D+1) < l.rates.length - 1 - D;omega, ?_⟩
                rw [show (if D+1=0 then 0 else kd l (((D+1:Nat):Int) - 1))=kd l D by rw [if_neg (by omega),e6]]
                (refine Le.ok some [] ?_;constructor;all_goals (try simp only [vle,vkt,Nat.reduceEqDiff,Nat.reduceAdd,Nat.reduceMul,Nat.reduceSub,Nat.reduceLeDiff,reduceCtorEq,↓reduceIte,↓reduceDIte,Int.reduceToNat,Int.reduceLE,Int.reduceLT,Int.reduceEq,Int.reduceNeg,qH,wU]))
                all_goals first|rfl|trivial|exact ⟨rfl,trivial⟩|exact ⟨rfl,rfl⟩|(simp [evH];done))
    · have hDe:D=l.rates.length - 1:=by omega
      subst hDe
      have hfin:=QeJ l q2.1
      repeat' (first|(apply nx;with_reducible constructor)|refine jq (by decide) ?_|((first|refine kx env fun Q hQ=>?_|refine kz fun Q hQ=>?_);simp only [vkt,Nat.reduceEqDiff,Nat.reduceAdd,Nat.reduceMul,Nat.reduceSub,Nat.reduceLeDiff,reduceCtorEq,↓reduceIte,↓reduceDIte,Int.reduceToNat,Int.reduceLE,Int.reduceLT,Int.reduceEq,Int.reduceNeg,qH,wU];(try simp only [ite_and]);(repeat' (first|with_reducible assumption|refine And.intro ?_ ?_|intro hp));all_goals (first|(refine hQ _ ?_;clear hQ Q)|(refine hQ _ (fun h=>?_) (fun h=>?_) <;> clear hQ Q <;> (try simp only [vki,reduceCtorEq] at h))|omega|assumption|with_reducible rfl|(refine kq ?_;kernel_rfl)|skip)))
      rw [← hfin]
      (simp only [vrt,Tryz.results36,vkt,Nat.reduceEqDiff,Nat.reduceAdd,Nat.reduceMul,Nat.reduceSub,Nat.reduceLeDiff,reduceCtorEq,↓reduceIte,↓reduceDIte,Int.reduceToNat,Int.reduceLE,Int.reduceLT,Int.reduceEq,Int.reduceNeg,qH,wU];refine Fin.val rfl ?_;(try simp only [AV.le,AV.leL]))
      all_goals exact ⟨_,_,rfl⟩
def c96:List AV→Prop × AV
  |[.agg [.sl cs,.sl rs,.sl ss,.sl es]]=>(isL cs rs ss es∧Val (zN cs rs ss es),.sl ((xW (zN cs rs ss es)).map eQ))
  |_=>(False,.junk)
theorem d96 {A:Frm→Prop}:qh A Tryz.prog 36 (qo false c96):=qL fun vs hv h=>by
  clear hv
  unfold c96 at h ⊢
  split at h
  · refine ⟨trivial,fun h=>absurd h (by decide), ?_⟩
    rw [← jD h.1];exact QdN _ h.2
  · exact h.elim
end Go.Sym.B
namespace Go.Sym.B
open Go Go.Sym Go.Proofs Go.Sym.C
def vE (l:Led) (i:Nat):Rat :=
  let x:=l.entries.getD i default
  if x.kind=3 then rq l x.day x.coin * x.amount - rq l x.day x.to * x.got else if x.kind=4 then rq l x.day x.coin * x.amount - rq l x.day x.coin * ((stK l i).2.getD x.coin.toNat 0:Int) else rq l x.day x.coin * x.amount
def kL (l:Led) (κ:Int) (k:Nat):List Rat:=((List.range k).filter fun i=>decide ((l.entries.getD i default).kind=κ)).map (vE l)
theorem QgE (l:Led) (κ:Int) (k:Nat):kL l κ (k+1)=if (l.entries.getD k default).kind=κ then kL l κ k++[vE l k] else kL l κ k:=by
  unfold kL
  rw [List.range_succ,List.filter_append]
  split
  · rename_i h;rw [List.filter_cons,if_pos (by rw [h];simp),List.filter_nil,List.map_append];rfl
  · rename_i h;rw [List.filter_cons,if_neg (by simpa using h),List.filter_nil,List.append_nil]
theorem YU (l:Led) (κ:Int) (k:Nat):(kL l κ k).length≤k:=by
  unfold kL
  rw [List.length_map]
  exact Nat.le_trans (List.length_filter_le _ _) (by simp)
theorem Qhe {l:Led} (h:Val l) {i:Nat} (hi:i < l.entries.length):Bd 1000000 (vE l i):=by
  have hx:=kF h hi
  have hb:=KZ h i (by omega)
  unfold vE
  generalize l.entries.getD i default=x at *
  have r1:=xB (ve h hx.day.1 hx.day.2 hx.coin.1 hx.coin.2)
  have a1:=r1.muli (C:=1000) (n:=x.amount) (by have:=hx.am;omega) (by have:=hx.am;omega)
  dsimp only
  split
  · rename_i k3
    have r2:=xB (ve h hx.day.1 hx.day.2 (hx.to k3).1 (hx.to k3).2)
    have a2:=r2.muli (C:=1000) (n:=x.got) (by have:=hx.got k3;omega) (by have:=hx.got k3;omega)
    exact (a1.sub a2).mono (by decide)
  · split
    · have hc:=hb x.coin.toNat
      have a2:=r1.muli (C:=7000) (n:=(stK l i).2.getD x.coin.toNat 0) (by omega) (by omega)
      exact (a1.sub a2).mono (by decide)
    · exact a1.mono (by decide)
theorem Qbv {l:Led} (h:Val l) (κ:Int) {k:Nat} (hk:k≤l.entries.length):SumOk (kL l κ k):=by
  refine ⟨?_,fun q hq=>?_⟩
  · have:=YU l κ k;have:=h.e;omega
  · obtain ⟨i,hi,rfl⟩:=List.mem_map.1 hq
    have:=List.mem_range.1 (List.mem_filter.1 hi).1
    exact Qhe h (by omega)
theorem Qds {l:Led} (h:Val l):SumOk (xW l):=by
  refine ⟨?_,fun q hq=>?_⟩
  · have:=h.c;simp [xW];omega
  · obtain ⟨i,hi,rfl⟩:=List.mem_map.1 hq
    exact (QdH h (List.mem_range.1 hi) (by have:=h.r;omega)).mono (by decide)
theorem w_ok {l:Led} (h:Val l) {d:Int} (hd:0≤d) (hd':d≤(l.rates.length:Int) - 1) {k:Nat} (hk:k≤l.entries.length):WOk l d (stK l k).2:=by
  have hh:=Wn h k hk
  refine ⟨?_,fun c hc=>?_,fun v hv=>?_⟩
  · rw [hh.len];exact h.c.2
  · exact ve h hd hd' (by omega) (by have:=hh.len;omega)
  · have:=hh.b v hv;have:=h.e;omega
structure Acc where
  taken:Rat
  paid:Rat
  gained:Rat
  lost:Rat
  found:Rat
  worth:Rat
deriving DecidableEq
def cAcc (a:Acc):List AV:=[.v (.int .i64 a.taken.num),.v (.int .i64 a.taken.den),.v (.int .i64 a.paid.num),.v (.int .i64 a.paid.den),.v (.int .i64 a.gained.num),.v (.int .i64 a.gained.den),.v (.int .i64 a.lost.num),.v (.int .i64 a.lost.den),.v (.int .i64 a.found.num),.v (.int .i64 a.found.den),.v (.int .i64 a.worth.num),.v (.int .i64 a.worth.den)]
def z12:List AV:=[.v (.int .i64 0),.v (.int .i64 0),.v (.int .i64 0),.v (.int .i64 0),.v (.int .i64 0),.v (.int .i64 0),.v (.int .i64 0),.v (.int .i64 0),.v (.int .i64 0),.v (.int .i64 0),.v (.int .i64 0),.v (.int .i64 0)]
def Qfg (l:Led):Acc:=⟨xu (kL l 1 l.entries.length),xu (kL l 2 l.entries.length),xu (xW l),xu (kL l 3 l.entries.length),xu (kL l 4 l.entries.length),xP l ((l.rates.length:Int) - 1) (stK l l.entries.length).2 l.coins.length⟩
def LD (l:Led):AV:=if zB l ≠ 0 then .tup [.agg z12,aI (zB l)] else .tup [.agg (cAcc (Qfg l)),aI 0]
def baS (l:Led) (k:Nat):St:={ t:=asg [(1,.ptr 0 0),(2,.ptr 1 0),(3,aI 0),(5,.ptr 2 0),(6,.row 4),(7,.row 5),(8,.row 6),(9,.row 7),(22,.sl (l.entries.map yg)),(23,aI l.entries.length),(24,aI k)],h:=qc [(0,.cells (zh l)),(1,.cells z12),(2,ym l 3),(3,ky (stK l k).2),(4,.row 69 2 ((kL l 1 k).map eQ)),(5,.row 69 2 ((kL l 2 k).map eQ)),(6,.row 69 2 ((kL l 3 k).map eQ)),(7,.row 69 2 ((kL l 4 k).map eQ))],n:=8 }
def qE:=kj @ty3 (kj @YB (kj @jL (kj @V8 (kj @xm (kj @Wt (kj @JI (kj @QJ (kj @ty58 (kj @ZQ (kj @QfC (kj @Qa3 (kj @ti3.eq_1 (kj @WO.eq_1 (kj @jG.eq_1 (kj @J4.eq_1 (kj @vG.eq_1 (kj @Zo.eq_1 (kj @Wv.eq_1 (kj @Qe.eq_1 (kj @QeA.eq_1 (kj @Qx.eq_1 (kj @Ub.eq_1 @V6.eq_1))))))))))))))))))))))
def ji:=kj @aI.eq_1 (kj @aB.eq_1 (kj @zL.eq_1 (kj @zh.eq_1 (kj @aSh.eq_1 (kj @shQ.eq_1 (kj @eQ.eq_1 (kj @eSh.eq_1 (kj @ym.eq_1 (kj @ky.eq_1 (kj @baS.eq_1 (kj @z12.eq_1 (kj @cAcc.eq_1 (kj @c50.eq_1 (kj @c50.eq_2 (kj @p97.eq_1 (kj @p97.eq_2 (kj @WV.eq_1 (kj @WV.eq_2 (kj @QeV.eq_1 (kj @QeV.eq_2 (kj @c98.eq_1 (kj @c98.eq_2 (kj @J6.eq_1 (kj @J6.eq_2 (kj @s99.eq_1 (kj @s99.eq_2 (kj @Qda.eq_1 (kj @Qda.eq_2 (kj @Qda.eq_3 (kj @c96.eq_1 (kj @c96.eq_2 (kj @yT (kj @jO (kj @Zt (kj @Yy (kj @xC (kj @Kq (kj @vH (kj @WL (kj @yg.eq_1 (kj @QaA (kj @qp.eq_1 (kj @mQ (@rQ))))))))))))))))))))))))))))))))))))))))))))
set_option maxHeartbeats 4000000 in
theorem Qib (l:Led) (hl:Fit l):FnV Tryz.prog 20 [zL l] (LD l):=by
  have env:Env (fun _=>True) Tryz.prog tyB (tab [(7,qo true c50),(37,fnE p97),(38,fnE WV),(57,fnE QeV),(29,qo true c98),(34,qo true J6),(30,qo true s99),(56,qo true Qda),(36,qo false c96)]):=qY ⟨d50,e97,e101,e103,d98,e100,e99,d102,d96,trivial⟩
  refine Fn.of (A:=fun _=>True) (n0:=0) (D:=noD) (Fn0 Tryz.func20 rfl (fun vs w=>by kernel_rfl) (by kernel_rfl)) (by simp) (by simp [AV.ids,AV.idsL,zL,zh]) (fun i o h=>by cases h) (fun _ _ _ _=>trivial) qA ?_
  by_cases c0:zB l=0
  · rw [show LD l=_ from if_neg (by rw [c0];simp)]
    have hV:=Qt c0
    have q1:=hV.c
    have q2:=hV.r
    have q3:=hV.sl
    have q4:=hV.e
    have q5:l.start.length≤100000:=by omega
    repeat' (first|(apply nx;with_reducible constructor)|refine jq (by decide) ?_|((first|refine kx env fun Q hQ=>?_|refine kz fun Q hQ=>?_);simp only [vkt,seval,qE,ji,c0];(try simp only [ite_and]);(repeat' (first|with_reducible assumption|refine And.intro ?_ ?_|intro hp));all_goals (first|(refine hQ _ ?_;clear hQ Q)|(refine hQ _ (fun h=>?_) (fun h=>?_) <;> clear hQ Q <;> (try simp only [vki,reduceCtorEq] at h))|omega|assumption|with_reducible rfl|(refine kq ?_;kernel_rfl)|skip)))
    refine qz (fun k:{ k:Nat // k≤l.entries.length }=>baS l k.1) (fun k=>l.entries.length - k.1) ⟨0,Nat.zero_le _⟩ ?_ fun ⟨k,hk⟩=>?_
    · (refine Le.ok (fun j=>if j=0 then some 0 else if j=1 then some 1 else if j=2 then some 2 else if j=3 then some 3 else none) [] ?_;constructor;all_goals (try simp only [vle,vkt,seval,qE,ji]))
      all_goals first|rfl|decide|exact ⟨rfl,rfl,rfl,rfl,rfl⟩|exact ⟨rfl,rfl⟩
    · repeat' (first|(apply nx;with_reducible constructor)|refine jq (by decide) ?_)
      (refine kx env fun Q hQ=>?_;simp only [vkt,seval,qE,ji];(try simp only [ite_and]);(repeat' (first|with_reducible assumption|refine And.intro ?_ ?_|intro hp));all_goals (first|(refine hQ _ ?_;clear hQ Q)|omega|assumption|with_reducible rfl|(refine kq ?_;kernel_rfl)|skip))
      repeat' (first|(apply nx;with_reducible constructor)|refine jq (by decide) ?_)
      (refine wh (by simp only [vkt,seval,qE,ji];rfl) (fun h=>?_) (fun h=>?_) <;> (try simp only [vki,reduceCtorEq] at h))
      · have hlt:k < l.entries.length:=by omega
        have hentry:=kF hV hlt
        have ho:=Wn hV k (by omega)
        have hen:=YE ho (by omega) hentry
        have hS:=ZL hlt
        have hb:=KZ hV k (by omega)
        have hvb:=(Qhe hV hlt).sm (by decide)
        have hkk:∀ κ,kL l κ (k+1)=_:=fun κ=>QgE l κ k
        generalize hx:l.entries.getD k default=x at *
        have hen':EnOk (stK l k).2 ⟨x.day,x.kind,x.coin,x.to,x.amount,x.got⟩:=hen
        have r1:=ve hV hentry.day.1 hentry.day.2 hentry.coin.1 hentry.coin.2
        have b1:=xB r1
        have t1:Tm (rq l x.day x.coin) x.amount:=Rw b1 (by have:=hentry.am;omega) (by have:=hentry.am;omega)
        have s1:=(b1.muli (C:=1000) (n:=x.amount) (by have:=hentry.am;omega) (by have:=hentry.am;omega)).sm (by decide)
        have e9:=zt hlt (show l.entries.length≤maxLen by have:=WM;omega)
        have l1:=YU l 1 k
        have l2:=YU l 2 k
        have l3:=YU l 3 k
        have l4:=YU l 4 k
        have cap:∀ n:Nat,n≤6→(n+1) * 16≤140737488355328∧n+1≤maxLen:=fun n hn=>by have:=WM;omega
        have fin:∀ κ,¬ x.kind=κ→kL l κ (k+1)=kL l κ k:=fun κ h=>by rw [hkk,if_neg h]
        have fin1:∀ κ,x.kind=κ→kL l κ (k+1)=kL l κ k++[vE l k]:=fun κ h=>by rw [hkk,if_pos h]
        rcases (by have:=hentry.kind;omega:x.kind=1∨x.kind=2∨x.kind=3∨x.kind=4) with k1|k2|k3|k4
        · have n1:=fin1 1 (by omega)
          have n2:=fin 2 (by omega)
          have n3:=fin 3 (by omega)
          have n4:=fin 4 (by omega)
          have hen1:EnOk (stK l k).2 ⟨x.day,1,x.coin,x.to,x.amount,x.got⟩:=by rw [← k1];exact hen'
          have hS1:yj (stK l k).2 ⟨x.day,1,x.coin,x.to,x.amount,x.got⟩=(stK l (k+1)).2:=by rw [hS,← k1]
          have g1:=cap (kL l 1 k).length (by omega)
          have hve:vE l k=rq l x.day x.coin * x.amount:=by unfold vE;dsimp only;rw [hx,if_neg (by omega),if_neg (by omega)]
          repeat' (first|(apply nx;with_reducible constructor)|refine jq (by decide) ?_|((first|refine kx env fun Q hQ=>?_|refine kz fun Q hQ=>?_);simp only [vkt,seval,qE,ji,hx,k1];(try simp only [ite_and]);(repeat' (first|with_reducible assumption|refine And.intro ?_ ?_|intro hp));all_goals (first|(refine hQ _ ?_;clear hQ Q)|(refine hQ _ (fun h=>?_) (fun h=>?_) <;> clear hQ Q <;> (try simp only [vki,reduceCtorEq] at h))|omega|assumption|with_reducible rfl|(refine kq ?_;kernel_rfl)|skip)))
          refine ⟨⟨k+1,hlt⟩,by show l.entries.length - (k+1) < l.entries.length - k;omega, ?_⟩
          (refine Le.ok (fun j=>if j=4 then some 11 else some j) [] ?_;constructor;all_goals (try simp only [vle,vkt,seval,qE,ji]))
          all_goals first|rfl|decide|trivial|(rw [e9];done)|exact ⟨by rw [hS1],by rw [n1,hve,List.map_append];rfl,by rw [n2],by rw [n3],by rw [n4]⟩
        · have n1:=fin 1 (by omega)
          have n2:=fin1 2 (by omega)
          have n3:=fin 3 (by omega)
          have n4:=fin 4 (by omega)
          have hen1:EnOk (stK l k).2 ⟨x.day,2,x.coin,x.to,x.amount,x.got⟩:=by rw [← k2];exact hen'
          have hS1:yj (stK l k).2 ⟨x.day,2,x.coin,x.to,x.amount,x.got⟩=(stK l (k+1)).2:=by rw [hS,← k2]
          have g1:=cap (kL l 2 k).length (by omega)
          have hve:vE l k=rq l x.day x.coin * x.amount:=by unfold vE;dsimp only;rw [hx,if_neg (by omega),if_neg (by omega)]
          repeat' (first|(apply nx;with_reducible constructor)|refine jq (by decide) ?_|((first|refine kx env fun Q hQ=>?_|refine kz fun Q hQ=>?_);simp only [vkt,seval,qE,ji,hx,k2];(try simp only [ite_and]);(repeat' (first|with_reducible assumption|refine And.intro ?_ ?_|intro hp));all_goals (first|(refine hQ _ ?_;clear hQ Q)|(refine hQ _ (fun h=>?_) (fun h=>?_) <;> clear hQ Q <;> (try simp only [vki,reduceCtorEq] at h))|omega|assumption|with_reducible rfl|(refine kq ?_;kernel_rfl)|skip)))
          refine ⟨⟨k+1,hlt⟩,by show l.entries.length - (k+1) < l.entries.length - k;omega, ?_⟩
          (refine Le.ok (fun j=>if j=5 then some 11 else some j) [] ?_;constructor;all_goals (try simp only [vle,vkt,seval,qE,ji]))
          all_goals first|rfl|decide|trivial|(rw [e9];done)|exact ⟨by rw [hS1],by rw [n1],by rw [n2,hve,List.map_append];rfl,by rw [n3],by rw [n4]⟩
        · have n1:=fin 1 (by omega)
          have n2:=fin 2 (by omega)
          have n3:=fin1 3 (by omega)
          have n4:=fin 4 (by omega)
          have hen1:EnOk (stK l k).2 ⟨x.day,3,x.coin,x.to,x.amount,x.got⟩:=by rw [← k3];exact hen'
          have hS1:yj (stK l k).2 ⟨x.day,3,x.coin,x.to,x.amount,x.got⟩=(stK l (k+1)).2:=by rw [hS,← k3]
          have g1:=cap (kL l 3 k).length (by omega)
          have r2:=ve hV hentry.day.1 hentry.day.2 (hentry.to k3).1 (hentry.to k3).2
          have b2:=xB r2
          have t2:Tm (rq l x.day x.to) x.got:=Rw b2 (by have:=hentry.got k3;omega) (by have:=hentry.got k3;omega)
          have s2:=(b2.muli (C:=1000) (n:=x.got) (by have:=hentry.got k3;omega) (by have:=hentry.got k3;omega)).sm (by decide)
          have hve:vE l k=rq l x.day x.coin * x.amount - rq l x.day x.to * x.got:=by unfold vE;dsimp only;rw [hx,if_pos k3]
          have s3:Sm (rq l x.day x.coin * x.amount - rq l x.day x.to * x.got):=by rw [← hve];exact hvb
          repeat' (first|(apply nx;with_reducible constructor)|refine jq (by decide) ?_|((first|refine kx env fun Q hQ=>?_|refine kz fun Q hQ=>?_);simp only [vkt,seval,qE,ji,hx,k3];(try simp only [ite_and]);(repeat' (first|with_reducible assumption|refine And.intro ?_ ?_|intro hp));all_goals (first|(refine hQ _ ?_;clear hQ Q)|(refine hQ _ (fun h=>?_) (fun h=>?_) <;> clear hQ Q <;> (try simp only [vki,reduceCtorEq] at h))|omega|assumption|with_reducible rfl|(refine kq ?_;kernel_rfl)|skip)))
          refine ⟨⟨k+1,hlt⟩,by show l.entries.length - (k+1) < l.entries.length - k;omega, ?_⟩
          (refine Le.ok (fun j=>if j=6 then some 11 else some j) [] ?_;constructor;all_goals (try simp only [vle,vkt,seval,qE,ji]))
          all_goals first|rfl|decide|trivial|(rw [e9];done)|exact ⟨by rw [hS1],by rw [n1],by rw [n2],by rw [n3,hve,List.map_append];rfl,by rw [n4]⟩
        · have n1:=fin 1 (by omega)
          have n2:=fin 2 (by omega)
          have n3:=fin 3 (by omega)
          have n4:=fin1 4 (by omega)
          have hen1:EnOk (stK l k).2 ⟨x.day,4,x.coin,x.to,x.amount,x.got⟩:=by rw [← k4];exact hen'
          have hS1:yj (stK l k).2 ⟨x.day,4,x.coin,x.to,x.amount,x.got⟩=(stK l (k+1)).2:=by rw [hS,← k4]
          have g1:=cap (kL l 4 k).length (by omega)
          have hcl:x.coin.toNat < (stK l k).2.length:=by have:=hentry.coin;have:=ho.len;omega
          have hc0:0≤x.coin:=hentry.coin.1
          have g2:=gI0 hcl
          have b9:=hb x.coin.toNat
          have t2:Tm (rq l x.day x.coin) ((stK l k).2.getD x.coin.toNat 0):=Rw b1 (by omega) (by omega)
          have s2:=(b1.muli (C:=7000) (n:=(stK l k).2.getD x.coin.toNat 0) (by omega) (by omega)).sm (by decide)
          have hve:vE l k=rq l x.day x.coin * x.amount - rq l x.day x.coin * ((stK l k).2.getD x.coin.toNat 0:Int):=by unfold vE;dsimp only;rw [hx,if_neg (by omega),if_pos k4]
          have s3:Sm (rq l x.day x.coin * x.amount - rq l x.day x.coin * ((stK l k).2.getD x.coin.toNat 0:Int)):=by rw [← hve];exact hvb
          repeat' (first|(apply nx;with_reducible constructor)|refine jq (by decide) ?_|((first|refine kx env fun Q hQ=>?_|refine kz fun Q hQ=>?_);simp only [vkt,seval,qE,ji,hx,k4,g2];(try simp only [ite_and]);(repeat' (first|with_reducible assumption|refine And.intro ?_ ?_|intro hp));all_goals (first|(refine hQ _ ?_;clear hQ Q)|(refine hQ _ (fun h=>?_) (fun h=>?_) <;> clear hQ Q <;> (try simp only [vki,reduceCtorEq] at h))|omega|assumption|with_reducible rfl|(refine kq ?_;kernel_rfl)|skip)))
          refine ⟨⟨k+1,hlt⟩,by show l.entries.length - (k+1) < l.entries.length - k;omega, ?_⟩
          (refine Le.ok (fun j=>if j=7 then some 11 else some j) [] ?_;constructor;all_goals (try simp only [vle,vkt,seval,qE,ji]))
          all_goals first|rfl|decide|trivial|(rw [e9];done)|exact ⟨by rw [hS1],by rw [n1],by rw [n2],by rw [n3],by rw [n4,hve,List.map_append];rfl⟩
      · have hkn:k=l.entries.length:=by omega
        subst hkn
        have w1:IntKind.wrap .i64 ((l.rates.length:Int) - 1)=(l.rates.length:Int) - 1:=wrap64 (by omega) (by omega)
        have f1:=Qbv hV 1 (Nat.le_refl _)
        have f2:=Qbv hV 2 (Nat.le_refl _)
        have f3:=Qbv hV 3 (Nat.le_refl _)
        have f4:=Qbv hV 4 (Nat.le_refl _)
        have f5:=Qds hV
        have f6:=w_ok hV (d:=(l.rates.length:Int) - 1) (by omega) (by omega) (Nat.le_refl _)
        have hle:(stK l l.entries.length).2.length=l.coins.length:=(Wn hV _ (Nat.le_refl _)).len
        have e8:Qfg l=⟨xu (kL l 1 l.entries.length),xu (kL l 2 l.entries.length),xu (xW l),xu (kL l 3 l.entries.length),xu (kL l 4 l.entries.length),xP l ((l.rates.length:Int) - 1) (stK l l.entries.length).2 (stK l l.entries.length).2.length⟩:=by unfold Qfg;rw [hle]
        repeat' (first|(apply nx;with_reducible constructor)|refine jq (by decide) ?_|((first|refine kx env fun Q hQ=>?_|refine kz fun Q hQ=>?_);simp only [vkt,seval,qE,ji,w1];(try simp only [ite_and]);(repeat' (first|with_reducible assumption|refine And.intro ?_ ?_|intro hp));all_goals (first|(refine hQ _ ?_;clear hQ Q)|(refine hQ _ (fun h=>?_) (fun h=>?_) <;> clear hQ Q <;> (try simp only [vki,reduceCtorEq] at h))|omega|assumption|with_reducible rfl|(refine kq ?_;kernel_rfl)|skip)))
        rw [e8]
        (simp only [vrt,Tryz.results20,vkt,seval,qE,ji];refine Fin.val rfl ?_;(try simp only [AV.le,AV.leL]))
        all_goals first|rfl|trivial|simp
  · rw [show LD l=_ from if_pos c0]
    repeat' (first|(apply nx;with_reducible constructor)|refine jq (by decide) ?_|((first|refine kx env fun Q hQ=>?_|refine kz fun Q hQ=>?_);simp only [vkt,seval,qE,ji,c0];(try simp only [ite_and]);(repeat' (first|with_reducible assumption|refine And.intro ?_ ?_|intro hp));all_goals (first|(refine hQ _ ?_;clear hQ Q)|(refine hQ _ (fun h=>?_) (fun h=>?_) <;> clear hQ Q <;> (try simp only [vki,reduceCtorEq] at h))|omega|assumption|with_reducible rfl|(refine kq ?_;kernel_rfl)|skip)))
    (simp only [vrt,Tryz.results20,vkt,seval,qE,ji];refine Fin.val rfl ?_;(try simp only [AV.le,AV.leL]))
    all_goals simp
end Go.Sym.B
namespace Go.Sym.B
open Go Go.Sym Go.Proofs Go.Sym.C
def c39:List AV→Prop × AV
  |[.agg [.sl cs,.sl rs,.sl ss,.sl es]]=>(isL cs rs ss es∧Fit (zN cs rs ss es),LD (zN cs rs ss es))
  |_=>(False,.junk)
theorem d39 {A:Frm→Prop}:qh A Tryz.prog 20 (qo true c39):=qL fun vs hv h=>by
  clear hv
  unfold c39 at h ⊢
  split at h
  · refine ⟨by unfold LD;split <;> simp [AV.plain,AV.plainL,aI,cAcc,z12],fun _=>by unfold LD;split <;> simp [AV.flat,AV.flatL,aI,cAcc,z12], ?_⟩
    rw [← jD h.1];exact Qib _ h.2
  · exact h.elim
def s36:List AV→Prop × AV
  |[.sl xs,.sl ys]=>(xs=(xs.map zw).map zH∧ys=(ys.map zw).map zH∧xs.length≤maxLen∧∀ p ∈ xs.map zw,p.length≤maxLen,aB (decide (xs.map zw=ys.map zw)))
  |_=>(False,.junk)
theorem d36 {A:Frm→Prop}:qh A Tryz.prog 23 (qo true s36):=qL fun vs hv h=>by
  clear hv
  unfold s36 at h ⊢
  split at h
  · rename_i xs ys
    refine ⟨trivial,fun _=>trivial, ?_⟩
    have:=Qcl (xs.map zw) (ys.map zw) (by simpa using h.2.2.1) h.2.2.2
    rwa [zz,← h.1,zz,← h.2.1] at this
  · exact h.elim
theorem fitW (g:Int):Fit (wZ g):=⟨by simp [wZ],fun p hp=>by simp [wZ] at hp;rcases hp with rfl|rfl <;> simp,by simp [wZ],fun p hp=>by simp [wZ] at hp;rcases hp with rfl|rfl <;> simp,by simp [wZ],by simp [wZ]⟩
theorem x1:LD (wZ 22)=.tup [.agg [.v (.int .i64 30),.v (.int .i64 1),.v (.int .i64 30),.v (.int .i64 1),.v (.int .i64 15),.v (.int .i64 2),.v (.int .i64 1),.v (.int .i64 2),.v (.int .i64 (-2)),.v (.int .i64 1),.v (.int .i64 120),.v (.int .i64 1)],.v (.int .i64 0)]:=by kernel_rfl
theorem x2:Js (wZ 22) 0 1 0 15=.tup [.v (.int .i64 22),.agg [.v (.int .i64 1),.v (.int .i64 2)],.v (.int .i64 0)]:=by kernel_rfl
theorem x3:Wl (wZ 22) 0 28=.tup [ql [3,1,2],.v (.int .i64 0)]:=by kernel_rfl
theorem x4:JQ (wZ 23)=.tup [zz [[0,1]],.v (.int .i64 0)]:=by kernel_rfl
theorem x5:yK 7 [2,0,1]=.tup [ql [5,0,2],.v (.int .i64 0)]:=by kernel_rfl
theorem dIntV (n:Int):qJ [.v (.int .i64 n)]=n:=rfl
theorem Qel (l:List (List DV)):zw [.sl l]=l.map qJ:=rfl
def zF:=kj @ty3 (kj @QA (kj @jL (kj @JP (kj @QJ (kj @ty58 (kj @ti3.eq_1 (kj @kP.eq_1 (kj @jG.eq_1 (kj @Wu.eq_1 (kj @Qe.eq_1 @QeA.eq_1))))))))))
def vX:=kj @dIntV (kj @Qel (kj @aI.eq_1 (kj @aB.eq_1 (kj @ql.eq_1 (kj @zz.eq_1 (kj @zL.eq_1 (kj @zh.eq_1 (kj @c39.eq_1 (kj @c39.eq_2 (kj @c48.eq_1 (kj @c48.eq_2 (kj @c28.eq_1 (kj @c28.eq_2 (kj @c32.eq_1 (kj @c32.eq_2 (kj @c24.eq_1 (kj @c24.eq_2 (kj @c76.eq_1 (kj @c76.eq_2 (kj @s40.eq_1 (kj @s40.eq_2 (kj @s26.eq_1 (kj @s26.eq_2 (kj @s36.eq_1 (kj @s36.eq_2 (kj @x1 (kj @x2 (kj @x3 (kj @x4 (kj @x5 (kj @yT (kj @jO (kj @xC (kj @vH (kj @qp.eq_1 (@zH.eq_1))))))))))))))))))))))))))))))))))))
set_option maxRecDepth 100000 in
set_option maxHeartbeats 4000000 in
theorem UL:FnV Tryz.prog 6 [] (aB true):=by
  have env:Env (fun _=>True) Tryz.prog tyB (tab [(4,qo false c76),(20,qo true c39),(9,qo true c48),(21,qo false c28),(22,qo false c32),(18,qo false c24),(5,qo true s40),(13,qo true s26),(23,qo true s36)]):=qY ⟨d76,d39,d48,d28,d32,d24,e40,e26,d36,trivial⟩
  refine Fn.of (A:=fun _=>True) (n0:=0) (D:=noD) (Fn0 Tryz.func6 rfl (fun vs w=>by kernel_rfl) (by kernel_rfl)) (by simp) (by simp [AV.ids]) (fun i o h=>by cases h) (fun _ _ _ _=>trivial) qA ?_
  have f1:=fitW 22
  have q1:3≤maxLen:=by decide
  have q2:1≤maxLen:=by decide
  have q3:2≤maxLen:=by decide
  have f2:=fitW 23
  repeat' (first|(apply nx;with_reducible constructor)|refine jq (by decide) ?_)
  (refine kx env fun Q hQ=>?_;simp only [vkt,seval,zF,vX,List.map_cons,List.map_nil];(try simp only [ite_and]);(repeat' (first|with_reducible assumption|refine And.intro ?_ ?_|intro hp));all_goals (first|(refine hQ _ ?_;clear hQ Q)|omega|assumption|with_reducible rfl|(refine kq ?_;kernel_rfl)|skip))
  repeat' (first|(apply nx;with_reducible constructor)|refine jq (by decide) ?_)
  (refine kx env fun Q hQ=>?_;simp only [vkt,seval,zF,vX,List.map_cons,List.map_nil];(try simp only [ite_and]);(repeat' (first|with_reducible assumption|refine And.intro ?_ ?_|intro hp));all_goals (first|(refine hQ _ ?_;clear hQ Q)|omega|assumption|with_reducible rfl|(refine kq ?_;kernel_rfl)|skip))
  repeat' (first|(apply nx;with_reducible constructor)|refine jq (by decide) ?_)
  (refine kx env fun Q hQ=>?_;simp only [vkt,seval,zF,vX,List.map_cons,List.map_nil];(try simp only [ite_and]);(repeat' (first|with_reducible assumption|refine And.intro ?_ ?_|intro hp));all_goals (first|(refine hQ _ ?_;clear hQ Q)|omega|assumption|with_reducible rfl|(refine kq ?_;kernel_rfl)|skip))
  repeat' (first|(apply nx;with_reducible constructor)|refine jq (by decide) ?_)
  (refine kx env fun Q hQ=>?_;simp only [vkt,seval,zF,vX,List.map_cons,List.map_nil];(try simp only [ite_and]);(repeat' (first|with_reducible assumption|refine And.intro ?_ ?_|intro hp));all_goals (first|(refine hQ _ ?_;clear hQ Q)|omega|assumption|with_reducible rfl|(refine kq ?_;kernel_rfl)|skip))
  repeat' (first|(apply nx;with_reducible constructor)|refine jq (by decide) ?_)
  (refine kx env fun Q hQ=>?_;simp only [vkt,seval,zF,vX,List.map_cons,List.map_nil];(try simp only [ite_and]);(repeat' (first|with_reducible assumption|refine And.intro ?_ ?_|intro hp));all_goals (first|(refine hQ _ ?_;clear hQ Q)|omega|assumption|with_reducible rfl|(refine kq ?_;kernel_rfl)|skip))
  repeat' (first|(apply nx;with_reducible constructor)|refine jq (by decide) ?_)
  (refine kx env fun Q hQ=>?_;simp only [vkt,seval,zF,vX,List.map_cons,List.map_nil];(try simp only [ite_and]);(repeat' (first|with_reducible assumption|refine And.intro ?_ ?_|intro hp));all_goals (first|(refine hQ _ ?_;clear hQ Q)|omega|assumption|with_reducible rfl|(refine kq ?_;kernel_rfl)|skip))
  repeat' (first|(apply nx;with_reducible constructor)|refine jq (by decide) ?_)
  refine J7 (S':={ t:=asg [(2,aI 0),(5,aI 0),(7,aI 0),(9,aI 0),(11,aI 0),(3,aI 22),(4,.ptr 1 0),(1,.ptr 0 0),(6,ql [3,1,2]),(8,zz [[0,1]]),(10,ql [5,0,2])],h:=qc [(0,.cells [.v (.int .i64 30),.v (.int .i64 1),.v (.int .i64 30),.v (.int .i64 1),.v (.int .i64 15),.v (.int .i64 2),.v (.int .i64 1),.v (.int .i64 2),.v (.int .i64 (-2)),.v (.int .i64 1),.v (.int .i64 120),.v (.int .i64 1)]),(1,.cells [aI 1,aI 2])],n:=2 }) ?_ ?_
  · (refine Le.ok some [] ?_;constructor;all_goals (try simp only [vle,vkt,seval,zF,vX,List.map_cons,List.map_nil]))
    all_goals first|rfl|(simp;done)
  (refine kx env fun Q hQ=>?_;simp only [vkt,seval,zF,vX,List.map_cons,List.map_nil];(try simp only [ite_and]);(repeat' (first|with_reducible assumption|refine And.intro ?_ ?_|intro hp));all_goals (first|(refine hQ _ ?_;clear hQ Q)|omega|assumption|with_reducible rfl|(refine kq ?_;kernel_rfl)|skip))
  repeat' (first|(apply nx;with_reducible constructor)|refine jq (by decide) ?_)
  (simp only [vrt,Tryz.results6,vkt,seval,zF,vX,List.map_cons,List.map_nil];refine Fin.val rfl ?_;(try simp only [AV.le,AV.leL]))
  all_goals simp
def c19:List AV→Prop × AV
  |[]=>(True,.v (.bool true))
  |_=>(False,.junk)
theorem d19 {A:Frm→Prop}:qh A Tryz.prog 6 (qo true c19):=qL fun vs hv h=>by
  clear hv
  unfold c19 at h ⊢
  split at h
  · exact ⟨trivial,fun _=>trivial,UL⟩
  · exact h.elim
end Go.Sym.B
namespace Go.Proofs
open Go Go.Shelf
def Tryz.lays156_ren:Go.Shelf.Ren:=⟨fun|156=>55|165=>75|166=>76|169=>77|240=>83|241=>84|276=>92|277=>93|n=>n,fun|31=>103|9=>9|3=>3|4=>4|0=>0|20=>20|72=>128|76=>132|70=>125|37=>126|75=>131|127=>143|164=>155|5=>5|80=>134|n=>n,fun|n=>n⟩
theorem Tryz.lays156:Go.Proofs.Lays.n156 Tryz.prog Tryz.lays156_ren:={
  mixed:=by kernel_rfl
  f156:=Tryz.func55.trans (congrArg some (by kernel_rfl))
  f165:=Tryz.func75.trans (congrArg some (by kernel_rfl))
  f166:=Tryz.func76.trans (congrArg some (by kernel_rfl))
  f169:=Tryz.func77.trans (congrArg some (by kernel_rfl))
  f240:=Tryz.func83.trans (congrArg some (by kernel_rfl))
  f241:=Tryz.func84.trans (congrArg some (by kernel_rfl))
  f276:=Tryz.func92.trans (congrArg some (by kernel_rfl))
  f277:=Tryz.func93.trans (congrArg some (by kernel_rfl))
  t0:=Tryz.underlying0
  a0:=Tryz.isAgg0
  z0:=Tryz.sizeOf0
  v0:=Tryz.zeroValue0
  t3:=Tryz.underlying3
  a3:=Tryz.isAgg3
  z3:=Tryz.sizeOf3
  v3:=Tryz.zeroValue3
  t4:=Tryz.underlying4
  a4:=Tryz.isAgg4
  z4:=Tryz.sizeOf4
  v4:=Tryz.zeroValue4
  t9:=Tryz.underlying9
  a9:=Tryz.isAgg9
  z9:=Tryz.sizeOf9
  v9:=Tryz.zeroValue9
  t20:=Tryz.underlying20
  a20:=Tryz.isAgg20
  z20:=Tryz.sizeOf20
  v20:=Tryz.zeroValue20
  t31:=Tryz.underlying103
  a31:=Tryz.isAgg103
  z31:=Tryz.sizeOf103
  v31:=Tryz.zeroValue103
  t37:=Tryz.underlying126
  a37:=Tryz.isAgg126
  z37:=Tryz.sizeOf126
  v37:=Tryz.zeroValue126
  t70:=Tryz.underlying125
  a70:=Tryz.isAgg125
  z70:=Tryz.sizeOf125
  v70:=Tryz.zeroValue125
  t72:=Tryz.underlying128
  a72:=Tryz.isAgg128
  z72:=Tryz.sizeOf128
  v72:=Tryz.zeroValue128
  t75:=Tryz.underlying131
  a75:=Tryz.isAgg131
  z75:=Tryz.sizeOf131
  v75:=Tryz.zeroValue131
  t76:=Tryz.underlying132
  a76:=Tryz.isAgg132
  z76:=Tryz.sizeOf132
  v76:=Tryz.zeroValue132
  t127:=Tryz.underlying143
  a127:=Tryz.isAgg143
  z127:=Tryz.sizeOf143
  v127:=Tryz.zeroValue143
  t164:=Tryz.underlying155
  a164:=Tryz.isAgg155
  z164:=Tryz.sizeOf155
  v164:=Tryz.zeroValue155 }
theorem Tryz.Builder_Extra_156:Builder.Extra Tryz.prog Tryz.lays156_ren:={
  sizeBuilder:=by kernel_rfl
  liesBuilder:=by kernel_rfl
  t5:=Tryz.underlying5
  a5:=Tryz.isAgg5
  z5:=Tryz.sizeOf5
  v5:=Tryz.zeroValue5
  infoByte:=by kernel_rfl
  cellsByte:=by kernel_rfl
  sizeByte:=by kernel_rfl
  neB5:=by decide }
open Go.RowKit in
theorem Tryz.strings_Join_none (a:Option Addr) (c:Nat) (sep:ByteArray) (w:World) :
    Calls Tryz.prog 55 #[.slice a 0 c,.string sep] w fun e w'=>e=.returned (.string ⟨#[]⟩)∧w'=w:=Any.strings_Join_none Tryz.lays156 Tryz.Builder_Extra_156 a c sep w
open Go.RowKit in
theorem Tryz.strings_Join (bk o c:Nat) (xs:List ByteArray) (sep:ByteArray) (w:World) (hcells:∀ (j:Nat) x,xs[j]?=some x→w.cell? ⟨bk,o+j,none⟩=some (.string x)) (hbk:bk < w.heap.size) (hN:xs.length≤140737488355328) (hcap:xs.length≤c) (hlen:(Lib.join (xs.map (·.data.toList)) sep.data.toList).length≤140737488355328) :
    Calls Tryz.prog 55 #[.slice (some ⟨bk,o,none⟩) xs.length c,.string sep] w fun e w'=>e=.returned (.string ⟨(Lib.join (xs.map (·.data.toList)) sep.data.toList).toArray⟩)∧Below w.heap.size w w':=Any.strings_Join Tryz.lays156 Tryz.Builder_Extra_156 bk o c xs sep w hcells hbk hN hcap hlen
def Tryz.laysM171_ren:Go.Shelf.Ren:=⟨fun|171=>53|243=>74|246=>82|283=>88|284=>89|285=>90|286=>91|129=>96|317=>95|318=>97|319=>98|320=>99|337=>100|338=>101|n=>n,fun|3=>3|9=>9|2=>2|4=>4|171=>150|0=>0|53=>147|37=>126|5=>5|173=>153|212=>160|51=>144|20=>20|213=>161|46=>136|232=>165|233=>166|n=>n,fun|17=>0|18=>2|19=>3|n=>n⟩
theorem Tryz.laysM171:Go.Proofs.LaysM.n171 Tryz.prog Tryz.laysM171_ren:={
  mixed:=by kernel_rfl
  f129:=Tryz.func96.trans (congrArg some (by kernel_rfl))
  f171:=Tryz.func53.trans (congrArg some (by kernel_rfl))
  f243:=Tryz.func74.trans (congrArg some (by kernel_rfl))
  f246:=Tryz.func82.trans (congrArg some (by kernel_rfl))
  f283:=Tryz.func88.trans (congrArg some (by kernel_rfl))
  f284:=Tryz.func89.trans (congrArg some (by kernel_rfl))
  f285:=Tryz.func90.trans (congrArg some (by kernel_rfl))
  f286:=Tryz.func91.trans (congrArg some (by kernel_rfl))
  f317:=Tryz.func95.trans (congrArg some (by kernel_rfl))
  f318:=Tryz.func97.trans (congrArg some (by kernel_rfl))
  f319:=Tryz.func98.trans (congrArg some (by kernel_rfl))
  f320:=Tryz.func99.trans (congrArg some (by kernel_rfl))
  f337:=Tryz.func100.trans (congrArg some (by kernel_rfl))
  f338:=Tryz.func101.trans (congrArg some (by kernel_rfl))
  t0:=Tryz.underlying0
  a0:=Tryz.isAgg0
  z0:=Tryz.sizeOf0
  v0:=Tryz.zeroValue0
  t2:=Tryz.underlying2
  a2:=Tryz.isAgg2
  z2:=Tryz.sizeOf2
  v2:=Tryz.zeroValue2
  t3:=Tryz.underlying3
  a3:=Tryz.isAgg3
  z3:=Tryz.sizeOf3
  v3:=Tryz.zeroValue3
  t4:=Tryz.underlying4
  a4:=Tryz.isAgg4
  z4:=Tryz.sizeOf4
  v4:=Tryz.zeroValue4
  t5:=Tryz.underlying5
  a5:=Tryz.isAgg5
  z5:=Tryz.sizeOf5
  v5:=Tryz.zeroValue5
  t9:=Tryz.underlying9
  a9:=Tryz.isAgg9
  z9:=Tryz.sizeOf9
  v9:=Tryz.zeroValue9
  t20:=Tryz.underlying20
  a20:=Tryz.isAgg20
  z20:=Tryz.sizeOf20
  v20:=Tryz.zeroValue20
  t37:=Tryz.underlying126
  a37:=Tryz.isAgg126
  z37:=Tryz.sizeOf126
  v37:=Tryz.zeroValue126
  t46:=Tryz.underlying136
  a46:=Tryz.isAgg136
  z46:=Tryz.sizeOf136
  v46:=Tryz.zeroValue136
  t51:=Tryz.underlying144
  a51:=Tryz.isAgg144
  z51:=Tryz.sizeOf144
  v51:=Tryz.zeroValue144
  t53:=Tryz.underlying147
  a53:=Tryz.isAgg147
  z53:=Tryz.sizeOf147
  v53:=Tryz.zeroValue147
  t171:=Tryz.underlying150
  a171:=Tryz.isAgg150
  z171:=Tryz.sizeOf150
  v171:=Tryz.zeroValue150
  t173:=Tryz.underlying153
  a173:=Tryz.isAgg153
  z173:=Tryz.sizeOf153
  v173:=Tryz.zeroValue153
  t212:=Tryz.underlying160
  a212:=Tryz.isAgg160
  z212:=Tryz.sizeOf160
  v212:=Tryz.zeroValue160
  t213:=Tryz.underlying161
  a213:=Tryz.isAgg161
  z213:=Tryz.sizeOf161
  t232:=Tryz.underlying165
  a232:=Tryz.isAgg165
  z232:=Tryz.sizeOf165
  v232:=Tryz.zeroValue165
  t233:=Tryz.underlying166
  a233:=Tryz.isAgg166
  z233:=Tryz.sizeOf166
  v233:=Tryz.zeroValue166
  g17:=by kernel_rfl
  g18:=by kernel_rfl
  g19:=by kernel_rfl
  i0:=by kernel_rfl
  i2:=by kernel_rfl
  i3:=by kernel_rfl
  i4:=by kernel_rfl
  i5:=by kernel_rfl
  i9:=by kernel_rfl
  i20:=by kernel_rfl
  i37:=by kernel_rfl
  i46:=by kernel_rfl
  i51:=by kernel_rfl
  i53:=by kernel_rfl
  i171:=by kernel_rfl
  i173:=by kernel_rfl
  i212:=by kernel_rfl
  i232:=by kernel_rfl
  i233:=by kernel_rfl
  m17:=by kernel_rfl
  m18:=by kernel_rfl
  m19:=by kernel_rfl }
open Go.RowKit Go.Sort Go.Lib in
theorem Tryz.strconv_Itoa (n : Int) (h0 : -9223372036854775808 ≤ n) (h1 : n ≤ 9223372036854775807) (w : World) (htab : Lib.TabIs Tryz.prog w "internal/strconv.uint64pow10" .u64 Lib.pow10Tab) :
    Calls Tryz.prog 53 #[.int .i64 n] w fun e w'=>e=.returned (.string ⟨(Lib.itoa n).toArray⟩)∧∃ k os,w'=grow (w.drewN k) os:=Any.strconv_Itoa Tryz.laysM171 n h0 h1 w htab
end Go.Proofs
