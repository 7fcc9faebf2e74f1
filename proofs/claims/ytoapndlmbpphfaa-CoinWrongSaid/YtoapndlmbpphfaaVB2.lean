/- Walks and what they compute, joined: part 2. -/
import Derived.Test.YtoapndlmbpphfaaVS3
import Derived.Test.YtoapndlmbpphfaaProg
import Derived.KernelRfl
import Derived.Test.YtoapndlmbpphfaaVB1
set_option linter.all false
namespace Go.Sym.B
open Go Go.Sym Go.Proofs Go.Sym.C
theorem chkSwap_ok {l:Led} {d a b n:Int} (h:chkSwapE l d a b n=0):Val l∧Rt l d a∧Rt l d b∧0≤n∧n≤999∧a ≠ b:=by
  unfold chkSwapE at h
  split at h
  · exact absurd h ‹_›
  rename_i a1
  split at h
  · exact absurd h (by decide)
  rename_i a2
  split at h
  · exact absurd h (by decide)
  rename_i a3
  split at h
  · exact absurd h (by decide)
  rename_i a4
  split at h
  · exact absurd h (by decide)
  rename_i a5
  split at h
  · exact absurd h (by decide)
  rename_i a6
  have nf:∀ {p:Bool},¬ (!p)=true→p=true:=fun h=>by simpa using h
  have hv:=val_of (Decidable.not_not.1 a1)
  have b2:=inB_iff.1 (nf a2)
  have b3:=inB_iff.1 (nf a3)
  have b4:=inB_iff.1 (nf a4)
  have b6:=inB_iff.1 (nf a6)
  exact ⟨hv,val_rt hv b2.1 b2.2 b3.1 b3.2,val_rt hv b2.1 b2.2 b4.1 b4.2,b6.1,b6.2,a5⟩
def swapQ (l:Led) (d a b n:Int):Rat:=rq l d a * n / rq l d b
def aSwap (l:Led) (d a b n:Int):AV:=if chkSwapE l d a b n ≠ 0 then .tup [aI 0,aSh ⟨0,0⟩,aI (chkSwapE l d a b n)] else .tup [aI (swapQ l d a b n).floor,aSh (shQ (swapQ l d a b n - ((swapQ l d a b n).floor:Rat))),aI 0]
theorem sm_fl {q:Rat} (h:Sm q):FlOk q:=by
  obtain ⟨h1,h2,h3⟩:=h
  exact ⟨by omega,by omega,by omega⟩
def tbF11_48:=kj @ty30 (kj @ty38 (kj @ty59 (kj @ty107 (kj @ti30.eq_1 (kj @ti38.eq_1 (kj @ti59.eq_1 @ti107.eq_1))))))
def xbF11_3:=kj @aI.eq_1 (kj @aB.eq_1 (kj @aLed.eq_1 (kj @cLed.eq_1 (kj @aSh.eq_1 (kj @shQ.eq_1 (kj @c106.eq_1 (kj @c106.eq_2 (kj @c89.eq_1 (kj @c89.eq_2 (kj @s90.eq_1 (kj @s90.eq_2 (kj @s107.eq_1 (kj @s107.eq_2 (kj @s100.eq_1 (kj @s100.eq_2 (kj @isL_e (kj @ldOf_e (kj @isQ_q (@qI_q)))))))))))))))))))
theorem swap_fn (l:Led) (d a b n:Int) (hl:Fit l):FnV Try.prog 48 [aLed l,aI d,aI a,aI b,aI n] (aSwap l d a b n):=by
  have env:Env (fun _=>True) Try.prog tyB (tab [(106,valE true c106),(89,valE true c89),(90,valE true s90),(107,valE true s107),(100,valE true s100)]):=mkEnv ⟨d106,d89,e90,e107,e100,trivial⟩
  refine Fn.of (A:=fun _=>True) (n0:=0) (D:=noD) (Fn0 Try.func48 rfl (fun vs w=>by kernel_rfl) (by kernel_rfl)) (by simp) (by simp [AV.ids,AV.idsL,aLed,cLed,aI]) (fun i o h=>by cases h) (fun _ _ _ _=>trivial) noD_ok ?_
  by_cases c0:chkSwapE l d a b n=0
  · obtain ⟨v1,v2,v3,v4,v5,v6⟩:=chkSwap_ok c0
    have v5':n≤300000:=by omega
    have hb:=(rt_bd v2).muli (C:=50000) (n:=n) (by omega) (by omega)
    have hq:=sm_div hb (by decide) (by have:=v3.n0;omega) v3.n1 v3.e1
    have hq2:=sm_floor hq
    have hq3:=sm_fl hq
    rw [show aSwap l d a b n=_ from if_neg (by rw [c0];simp)]
    repeat' (first|(apply nx;with_reducible constructor)|refine jq (by decide) ?_|((first|refine kx env fun Q hQ=>?_|refine kz fun Q hQ=>?_);simp only [vkt,seval,tbF11_48,xbF11_3,c0];(try simp only [ite_and]);(repeat' (first|with_reducible assumption|refine And.intro ?_ ?_|intro hp));all_goals (first|(refine hQ _ ?_;clear hQ Q)|(refine hQ _ (fun h=>?_) (fun h=>?_) <;> clear hQ Q <;> (try simp only [vki,reduceCtorEq] at h))|omega|assumption|with_reducible rfl|(refine kq ?_;kernel_rfl)|skip)))
    (simp only [vrt,Try.results48,vkt,seval,tbF11_48,xbF11_3];refine Fin.val rfl ?_;(try simp only [AV.le,AV.leL]))
    all_goals simp [swapQ]
  · rw [show aSwap l d a b n=_ from if_pos c0]
    repeat' (first|(apply nx;with_reducible constructor)|refine jq (by decide) ?_|((first|refine kx env fun Q hQ=>?_|refine kz fun Q hQ=>?_);simp only [vkt,seval,tbF11_48,xbF11_3,c0];(try simp only [ite_and]);(repeat' (first|with_reducible assumption|refine And.intro ?_ ?_|intro hp));all_goals (first|(refine hQ _ ?_;clear hQ Q)|(refine hQ _ (fun h=>?_) (fun h=>?_) <;> clear hQ Q <;> (try simp only [vki,reduceCtorEq] at h))|omega|assumption|with_reducible rfl|(refine kq ?_;kernel_rfl)|skip)))
    (simp only [vrt,Try.results48,vkt,seval,tbF11_48,xbF11_3];refine Fin.val rfl ?_;(try simp only [AV.le,AV.leL]))
    all_goals simp
def c48:List AV→Prop × AV
  |[.agg [.sl cs,.sl rs,.sl ss,.sl es],.v (.int .i64 d),.v (.int .i64 a),.v (.int .i64 b),.v (.int .i64 n)]=>(isL cs rs ss es∧Fit (ldOf cs rs ss es),aSwap (ldOf cs rs ss es) d a b n)
  |_=>(False,.junk)
theorem aSwap_plain (l:Led) (d a b n:Int):(aSwap l d a b n).plain∧(aSwap l d a b n).flat:=by
  unfold aSwap;split <;> simp [AV.plain,AV.plainL,AV.flat,AV.flatL,aI,aSh]
theorem d48 {A:Frm→Prop}:EntryOK A Try.prog 48 (valE true c48):=valE_ok fun vs hv h=>by
  clear hv
  unfold c48 at h ⊢
  split at h
  · refine ⟨(aSwap_plain _ _ _ _ _).1,fun _=>(aSwap_plain _ _ _ _ _).2, ?_⟩
    rw [← aLed_of h.1];exact swap_fn _ _ _ _ _ h.2
  · exact h.elim
end Go.Sym.B
namespace Go.Sym.B
open Go Go.Sym Go.Proofs Go.Sym.C
def tbF29_40:=kj @ty59 @ti59.eq_1
def xbF29_1:=kj @aI.eq_1 (kj @aB.eq_1 (@aSh.eq_1))
theorem part_fn (a b:Int):FnV Try.prog 40 [aI a,aI b] (aSh ⟨a,b⟩):=by
  have env:Env (fun _=>True) Try.prog tyB (tab []):=mkEnv trivial
  refine Fn.of (A:=fun _=>True) (n0:=0) (D:=noD) (Fn0 Try.func40 rfl (fun vs w=>by kernel_rfl) (by kernel_rfl)) (by simp) (by simp [AV.ids,aI]) (fun i o h=>by cases h) (fun _ _ _ _=>trivial) noD_ok ?_
  repeat' (first|(apply nx;with_reducible constructor)|refine jq (by decide) ?_|((first|refine kx env fun Q hQ=>?_|refine kz fun Q hQ=>?_);simp only [vkt,seval,tbF29_40,xbF29_1];(try simp only [ite_and]);(repeat' (first|with_reducible assumption|refine And.intro ?_ ?_|intro hp));all_goals (first|(refine hQ _ ?_;clear hQ Q)|(refine hQ _ (fun h=>?_) (fun h=>?_) <;> clear hQ Q <;> (try simp only [vki,reduceCtorEq] at h))|omega|assumption|with_reducible rfl|(refine kq ?_;kernel_rfl)|skip)))
  (simp only [vrt,Try.results40,vkt,seval,tbF29_40,xbF29_1];refine Fin.val rfl ?_;(try simp only [AV.le,AV.leL]))
  all_goals simp
def s40:List AV→Prop × AV
  |[.v (.int .i64 a),.v (.int .i64 b)]=>(True,.agg [.v (.int .i64 a),.v (.int .i64 b)])
  |_=>(False,.junk)
theorem e40 {A:Frm→Prop}:EntryOK A Try.prog 40 (valE true s40):=valE_ok fun vs _ h=>by
  unfold s40 at h ⊢
  split at h
  · exact ⟨by simp [AV.plain,AV.plainL],fun _=>by simp [AV.flat,AV.flatL],part_fn _ _⟩
  · exact h.elim
def ledW (got:Int):Led:={ coins:=[[1,5,10],[1,2]],rates:=[[⟨1,1⟩,⟨3,2⟩],[⟨1,1⟩,⟨2,1⟩]],start:=[100,10],entries:=[⟨0,1,1,0,20,0⟩,⟨0,3,1,0,15,got⟩,⟨1,2,0,0,30,0⟩,⟨1,4,1,0,14,0⟩] }
def tbF29_76:=kj @ty3 (kj @ty22 (kj @ty28 (kj @ty35 (kj @ty36 (kj @ty38 (kj @ty48 (kj @ty55 (kj @ty59 (kj @ti3.eq_1 (kj @ti22.eq_1 (kj @ti28.eq_1 (kj @ti35.eq_1 (kj @ti36.eq_1 (kj @ti38.eq_1 (kj @ti48.eq_1 (kj @ti55.eq_1 @ti59.eq_1))))))))))))))))
def xbF29_2:=kj @aI.eq_1 (kj @aB.eq_1 (kj @aSh.eq_1 (kj @aLed.eq_1 (kj @cLed.eq_1 (kj @ledW.eq_1 (kj @s40.eq_1 (kj @s40.eq_2 (kj @eInts.eq_1 (kj @eShs.eq_1 (kj @eInt.eq_1 (kj @eSh.eq_1 (@eEnt.eq_1))))))))))))
theorem ledger_fn (g:Int):FnV Try.prog 76 [aI g] (aLed (ledW g)):=by
  have env:Env (fun _=>True) Try.prog tyB (tab [(40,valE true s40)]):=mkEnv ⟨e40,trivial⟩
  refine Fn.of (A:=fun _=>True) (n0:=0) (D:=noD) (Fn0 Try.func76 rfl (fun vs w=>by kernel_rfl) (by kernel_rfl)) (by simp) (by simp [AV.ids,aI]) (fun i o h=>by cases h) (fun _ _ _ _=>trivial) noD_ok ?_
  have q1:(4:Nat)≤maxLen:=by decide
  repeat' (first|(apply nx;with_reducible constructor)|refine jq (by decide) ?_|((first|refine kx env fun Q hQ=>?_|refine kz fun Q hQ=>?_);simp only [vkt,seval,tbF29_76,xbF29_2,List.map_cons,List.map_nil];(try simp only [ite_and]);(repeat' (first|with_reducible assumption|refine And.intro ?_ ?_|intro hp));all_goals (first|(refine hQ _ ?_;clear hQ Q)|(refine hQ _ (fun h=>?_) (fun h=>?_) <;> clear hQ Q <;> (try simp only [vki,reduceCtorEq] at h))|omega|assumption|with_reducible rfl|(refine kq ?_;kernel_rfl)|skip)))
  (simp only [vrt,Try.results76,vkt,seval,tbF29_76,xbF29_2,List.map_cons,List.map_nil];refine Fin.val rfl ?_;(try simp only [AV.le,AV.leL]))
  all_goals first|rfl|exact ⟨⟨_,_,rfl⟩,⟨_,_,rfl⟩,⟨_,_,rfl⟩,⟨_,_,rfl⟩,trivial⟩|exact ⟨⟨_,_,rfl⟩,⟨_,_,rfl⟩,⟨_,_,rfl⟩,⟨_,_,rfl⟩⟩
def c76:List AV→Prop × AV
  |[.v (.int .i64 g)]=>(True,aLed (ledW g))
  |_=>(False,.junk)
theorem d76 {A:Frm→Prop}:EntryOK A Try.prog 76 (valE false c76):=valE_ok fun vs _ h=>by
  unfold c76 at h ⊢
  split at h
  · exact ⟨by simp [AV.plain,AV.plainL,aLed,cLed],fun h=>absurd h (by decide),ledger_fn _⟩
  · exact h.elim
end Go.Sym.B
namespace Go.Sym.B
open Go Go.Sym Go.Proofs Go.Sym.C
def purE (p:List Int) (k:Nat):Int:=if !inB (p.getD k 0) 0 4 then 1 else 0
def purseE (n:Nat) (p:List Int):Int:=if p.length ≠ n then 2 else firstE (errs p.length (purE p))
def pursesE (l:Led) (c:Int) (ps:List (List Int)) (k:Nat):Int:=purseE (l.coins.getD c.toNat []).length (ps.getD k [])
def moneyE (l:Led) (c n:Int) (ps:List (List Int)):Int:=if checkE l ≠ 0 then checkE l else if !inB c 0 ((l.coins.length:Int) - 1) then 3 else if firstE (errs ps.length (pursesE l c ps)) ≠ 0 then firstE (errs ps.length (pursesE l c ps)) else if !inB n 0 999 then 1 else 0
def moS1 (l:Led) (c n:Int) (ps:List (List Int)) (k:Nat):St:={ t:=asg [(1,aI c),(2,aI n),(4,.ptr 0 0),(8,aI 0),(26,aIntss ps),(27,aI ps.length),(28,aI k)],h:=hasg [(0,.cells (cLed l))],n:=1 }
def moS2 (l:Led) (c n:Int) (ps:List (List Int)) (k:Nat) (p:List Int) (i:Nat):St:={ t:=asg [(1,aI c),(2,aI n),(4,.ptr 0 0),(8,aI 0),(26,aIntss ps),(27,aI ps.length),(28,aI k),(41,aInts p),(42,aI p.length),(43,aI i)],h:=hasg [(0,.cells (cLed l))],n:=1 }
def tbF26_86:=kj @ty3 (kj @ty22 (kj @ty28 (kj @ty30 (kj @ty38 (kj @ti3.eq_1 (kj @ti22.eq_1 (kj @ti28.eq_1 (kj @ti30.eq_1 @ti38.eq_1))))))))
def xbF26_1:=kj @aI.eq_1 (kj @aB.eq_1 (kj @aLed.eq_1 (kj @cLed.eq_1 (kj @aInts.eq_1 (kj @aIntss.eq_1 (kj @moS1.eq_1 (kj @moS2.eq_1 (kj @c50.eq_1 (kj @c50.eq_2 (kj @s79.eq_1 (kj @s79.eq_2 (kj @isL_e (kj @ldOf_e (kj @eInt.eq_1 (kj @gInt (kj @eInts.eq_1 (@gInts)))))))))))))))))
set_option maxHeartbeats 2000000 in
theorem money_fn (l:Led) (c n:Int) (ps:List (List Int)) (hl:Fit l) (hm:ps.length≤maxLen) (hp:∀ p ∈ ps,p.length≤maxLen):FnV Try.prog 86 [aLed l,aI c,aI n,aIntss ps] (aI (moneyE l c n ps)):=by
  have env:Env (fun _=>True) Try.prog tyB (tab [(50,valE true c50),(79,valE true s79)]):=mkEnv ⟨d50,e79,trivial⟩
  refine Fn.of (A:=fun _=>True) (n0:=0) (D:=noD) (Fn0 Try.func86 rfl (fun vs w=>by kernel_rfl) (by kernel_rfl)) (by simp) (by simp [AV.ids,AV.idsL,aI,aLed,cLed,aIntss]) (fun i o h=>by cases h) (fun _ _ _ _=>trivial) noD_ok ?_
  have q5:=tmax
  have q6:=hl.c
  have w1:IntKind.wrap .i64 ((l.coins.length:Int) - 1)=(l.coins.length:Int) - 1:=wrap64 (by omega) (by omega)
  by_cases h0:checkE l=0
  · have hV:=val_of h0
    have v1:=hV.c
    by_cases h1:inB c 0 ((l.coins.length:Int) - 1)=true
    · have b1:=inB_iff.1 h1
      have g1:0≤c:=b1.1
      have g2:c.toNat < l.coins.length:=by omega
      have hlp:=hl.cs _ (gMem (d:=[]) g2)
      repeat' (first|(apply nx;with_reducible constructor)|refine jq (by decide) ?_|((first|refine kx env fun Q hQ=>?_|refine kz fun Q hQ=>?_);simp only [vkt,seval,tbF26_86,xbF26_1,h0,w1,h1];(try simp only [ite_and]);(repeat' (first|with_reducible assumption|refine And.intro ?_ ?_|intro hp));all_goals (first|(refine hQ _ ?_;clear hQ Q)|(refine hQ _ (fun h=>?_) (fun h=>?_) <;> clear hQ Q <;> (try simp only [vki,reduceCtorEq] at h))|omega|assumption|with_reducible rfl|(refine kq ?_;kernel_rfl)|skip)))
      refine sym_loop (ι:=FI (errs ps.length (pursesE l c ps))) (fun i=>moS1 l c n ps i.k) (fun i=>ps.length - i.k) (FI.zero _) ?_ fun i=>?_
      · (refine Le.ok some [] ?_;constructor;all_goals (try simp only [vle,vkt,seval,tbF26_86,xbF26_1]))
        all_goals simp [FI.zero]
      · have hk:=i.le
        rw [errs_len] at hk
        repeat' (first|(apply nx;with_reducible constructor)|refine jq (by decide) ?_)
        (refine kx env fun Q hQ=>?_;simp only [vkt,seval,tbF26_86,xbF26_1];(try simp only [ite_and]);(repeat' (first|with_reducible assumption|refine And.intro ?_ ?_|intro hp));all_goals (first|(refine hQ _ ?_;clear hQ Q)|omega|assumption|with_reducible rfl|(refine kq ?_;kernel_rfl)|skip))
        repeat' (first|(apply nx;with_reducible constructor)|refine jq (by decide) ?_)
        (refine sym_cd (by simp only [vkt,seval,tbF26_86,xbF26_1];rfl) (fun h=>?_) (fun h=>?_) <;> (try simp only [vki,reduceCtorEq] at h))
        · have hlt:i.k < ps.length:=by omega
          have hpm:=hp _ (gMem (d:=[]) hlt)
          have e9:=wrap_succ hlt hm
          generalize hpp:ps.getD i.k []=p at *
          by_cases h2:p.length=(l.coins.getD c.toNat []).length
          · have h2':(p.length:Int)=(l.coins.getD c.toNat []).length:=by omega
            repeat' (first|(apply nx;with_reducible constructor)|refine jq (by decide) ?_|((first|refine kx env fun Q hQ=>?_|refine kz fun Q hQ=>?_);simp only [vkt,seval,tbF26_86,xbF26_1,hpp,h2'];(try simp only [ite_and]);(repeat' (first|with_reducible assumption|refine And.intro ?_ ?_|intro hp));all_goals (first|(refine hQ _ ?_;clear hQ Q)|(refine hQ _ (fun h=>?_) (fun h=>?_) <;> clear hQ Q <;> (try simp only [vki,reduceCtorEq] at h))|omega|assumption|with_reducible rfl|(refine kq ?_;kernel_rfl)|skip)))
            refine sym_loop (ι:=FI (errs p.length (purE p))) (fun j=>moS2 l c n ps i.k p j.k) (fun j=>p.length - j.k) (FI.zero _) ?_ fun j=>?_
            · (refine Le.ok some [] ?_;constructor;all_goals (try simp only [vle,vkt,seval,tbF26_86,xbF26_1]))
              all_goals first|(simp [FI.zero];done)|(simp [FI.zero,h2];done)
            · have hj:=j.le
              rw [errs_len] at hj
              repeat' (first|(apply nx;with_reducible constructor)|refine jq (by decide) ?_)
              (refine kx env fun Q hQ=>?_;simp only [vkt,seval,tbF26_86,xbF26_1];(try simp only [ite_and]);(repeat' (first|with_reducible assumption|refine And.intro ?_ ?_|intro hp));all_goals (first|(refine hQ _ ?_;clear hQ Q)|omega|assumption|with_reducible rfl|(refine kq ?_;kernel_rfl)|skip))
              repeat' (first|(apply nx;with_reducible constructor)|refine jq (by decide) ?_)
              (refine sym_cd (by simp only [vkt,seval,tbF26_86,xbF26_1];rfl) (fun h=>?_) (fun h=>?_) <;> (try simp only [vki,reduceCtorEq] at h))
              · have hjl:j.k < p.length:=by omega
                have e8:=wrap_succ hjl hpm
                by_cases c1:inB (p.getD j.k 0) 0 4=true
                · repeat' (first|(apply nx;with_reducible constructor)|refine jq (by decide) ?_|((first|refine kx env fun Q hQ=>?_|refine kz fun Q hQ=>?_);simp only [vkt,seval,tbF26_86,xbF26_1,c1];(try simp only [ite_and]);(repeat' (first|with_reducible assumption|refine And.intro ?_ ?_|intro hp));all_goals (first|(refine hQ _ ?_;clear hQ Q)|(refine hQ _ (fun h=>?_) (fun h=>?_) <;> clear hQ Q <;> (try simp only [vki,reduceCtorEq] at h))|omega|assumption|with_reducible rfl|(refine kq ?_;kernel_rfl)|skip)))
                  refine ⟨j.next hjl (by unfold purE;rw [c1];rfl),by show p.length - (j.k+1) < _;omega, ?_⟩
                  (refine Le.ok some [] ?_;constructor;all_goals (try simp only [vle,vkt,seval,tbF26_86,xbF26_1]))
                  all_goals simp [FI.next,e8]
                · have c1:inB (p.getD j.k 0) 0 4=false:=by simpa using c1
                  have hj1:=j.hit hjl (by unfold purE;rw [c1];simp)
                  have hj2:purE p j.k=1:=by unfold purE;rw [c1];rfl
                  have hi1:pursesE l c ps i.k=1:=by unfold pursesE purseE;rw [hpp,if_neg (by simpa using h2),hj1,hj2]
                  have hi2:=i.hit hlt (by rw [hi1];decide)
                  repeat' (first|(apply nx;with_reducible constructor)|refine jq (by decide) ?_|((first|refine kx env fun Q hQ=>?_|refine kz fun Q hQ=>?_);simp only [vkt,seval,tbF26_86,xbF26_1,c1];(try simp only [ite_and]);(repeat' (first|with_reducible assumption|refine And.intro ?_ ?_|intro hp));all_goals (first|(refine hQ _ ?_;clear hQ Q)|(refine hQ _ (fun h=>?_) (fun h=>?_) <;> clear hQ Q <;> (try simp only [vki,reduceCtorEq] at h))|omega|assumption|with_reducible rfl|(refine kq ?_;kernel_rfl)|skip)))
                  (simp only [vrt,Try.results86,vkt,seval,tbF26_86,xbF26_1];refine Fin.val rfl ?_;(try simp only [AV.le,AV.leL]))
                  all_goals (unfold moneyE;rw [if_neg (by rw [h0];simp),if_neg (by rw [h1];simp),if_pos (by rw [hi2,hi1];decide),hi2,hi1])
              · have hj1:=j.last (by omega)
                have hi1:pursesE l c ps i.k=0:=by unfold pursesE purseE;rw [hpp,if_neg (by simpa using h2),hj1]
                repeat' (first|(apply nx;with_reducible constructor)|refine jq (by decide) ?_|((first|refine kx env fun Q hQ=>?_|refine kz fun Q hQ=>?_);simp only [vkt,seval,tbF26_86,xbF26_1,e9];(try simp only [ite_and]);(repeat' (first|with_reducible assumption|refine And.intro ?_ ?_|intro hp));all_goals (first|(refine hQ _ ?_;clear hQ Q)|(refine hQ _ (fun h=>?_) (fun h=>?_) <;> clear hQ Q <;> (try simp only [vki,reduceCtorEq] at h))|omega|assumption|with_reducible rfl|(refine kq ?_;kernel_rfl)|skip)))
                refine ⟨i.next hlt hi1,by show ps.length - (i.k+1) < _;omega, ?_⟩
                (refine Le.ok some [] ?_;constructor;all_goals (try simp only [vle,vkt,seval,tbF26_86,xbF26_1]))
                all_goals simp [FI.next,e9]
          · have h2':¬ (p.length:Int)=(l.coins.getD c.toNat []).length:=by omega
            have hi1:pursesE l c ps i.k=2:=by unfold pursesE purseE;rw [hpp,if_pos h2]
            have hi2:=i.hit hlt (by rw [hi1];decide)
            repeat' (first|(apply nx;with_reducible constructor)|refine jq (by decide) ?_|((first|refine kx env fun Q hQ=>?_|refine kz fun Q hQ=>?_);simp only [vkt,seval,tbF26_86,xbF26_1,hpp,h2'];(try simp only [ite_and]);(repeat' (first|with_reducible assumption|refine And.intro ?_ ?_|intro hp));all_goals (first|(refine hQ _ ?_;clear hQ Q)|(refine hQ _ (fun h=>?_) (fun h=>?_) <;> clear hQ Q <;> (try simp only [vki,reduceCtorEq] at h))|omega|assumption|with_reducible rfl|(refine kq ?_;kernel_rfl)|skip)))
            (simp only [vrt,Try.results86,vkt,seval,tbF26_86,xbF26_1];refine Fin.val rfl ?_;(try simp only [AV.le,AV.leL]))
            all_goals (unfold moneyE;rw [if_neg (by rw [h0];simp),if_neg (by rw [h1];simp),if_pos (by rw [hi2,hi1];decide),hi2,hi1])
        · have hf:=i.last (by omega)
          by_cases h3:inB n 0 999=true
          · repeat' (first|(apply nx;with_reducible constructor)|refine jq (by decide) ?_|((first|refine kx env fun Q hQ=>?_|refine kz fun Q hQ=>?_);simp only [vkt,seval,tbF26_86,xbF26_1,h3];(try simp only [ite_and]);(repeat' (first|with_reducible assumption|refine And.intro ?_ ?_|intro hp));all_goals (first|(refine hQ _ ?_;clear hQ Q)|(refine hQ _ (fun h=>?_) (fun h=>?_) <;> clear hQ Q <;> (try simp only [vki,reduceCtorEq] at h))|omega|assumption|with_reducible rfl|(refine kq ?_;kernel_rfl)|skip)))
            (simp only [vrt,Try.results86,vkt,seval,tbF26_86,xbF26_1];refine Fin.val rfl ?_;(try simp only [AV.le,AV.leL]))
            all_goals (unfold moneyE;rw [if_neg (by rw [h0];simp),if_neg (by rw [h1];simp),if_neg (by rw [hf];simp),if_neg (by rw [h3];simp)])
          · have h3:inB n 0 999=false:=by simpa using h3
            repeat' (first|(apply nx;with_reducible constructor)|refine jq (by decide) ?_|((first|refine kx env fun Q hQ=>?_|refine kz fun Q hQ=>?_);simp only [vkt,seval,tbF26_86,xbF26_1,h3];(try simp only [ite_and]);(repeat' (first|with_reducible assumption|refine And.intro ?_ ?_|intro hp));all_goals (first|(refine hQ _ ?_;clear hQ Q)|(refine hQ _ (fun h=>?_) (fun h=>?_) <;> clear hQ Q <;> (try simp only [vki,reduceCtorEq] at h))|omega|assumption|with_reducible rfl|(refine kq ?_;kernel_rfl)|skip)))
            (simp only [vrt,Try.results86,vkt,seval,tbF26_86,xbF26_1];refine Fin.val rfl ?_;(try simp only [AV.le,AV.leL]))
            all_goals (unfold moneyE;rw [if_neg (by rw [h0];simp),if_neg (by rw [h1];simp),if_neg (by rw [hf];simp),if_pos (by rw [h3];rfl)])
    · have h1:inB c 0 ((l.coins.length:Int) - 1)=false:=by simpa using h1
      repeat' (first|(apply nx;with_reducible constructor)|refine jq (by decide) ?_|((first|refine kx env fun Q hQ=>?_|refine kz fun Q hQ=>?_);simp only [vkt,seval,tbF26_86,xbF26_1,h0,w1,h1];(try simp only [ite_and]);(repeat' (first|with_reducible assumption|refine And.intro ?_ ?_|intro hp));all_goals (first|(refine hQ _ ?_;clear hQ Q)|(refine hQ _ (fun h=>?_) (fun h=>?_) <;> clear hQ Q <;> (try simp only [vki,reduceCtorEq] at h))|omega|assumption|with_reducible rfl|(refine kq ?_;kernel_rfl)|skip)))
      (simp only [vrt,Try.results86,vkt,seval,tbF26_86,xbF26_1];refine Fin.val rfl ?_;(try simp only [AV.le,AV.leL]))
      all_goals (unfold moneyE;rw [if_neg (by rw [h0];simp),if_pos (by rw [h1];rfl)])
  · repeat' (first|(apply nx;with_reducible constructor)|refine jq (by decide) ?_|((first|refine kx env fun Q hQ=>?_|refine kz fun Q hQ=>?_);simp only [vkt,seval,tbF26_86,xbF26_1,h0];(try simp only [ite_and]);(repeat' (first|with_reducible assumption|refine And.intro ?_ ?_|intro hp));all_goals (first|(refine hQ _ ?_;clear hQ Q)|(refine hQ _ (fun h=>?_) (fun h=>?_) <;> clear hQ Q <;> (try simp only [vki,reduceCtorEq] at h))|omega|assumption|with_reducible rfl|(refine kq ?_;kernel_rfl)|skip)))
    (simp only [vrt,Try.results86,vkt,seval,tbF26_86,xbF26_1];refine Fin.val rfl ?_;(try simp only [AV.le,AV.leL]))
    all_goals (unfold moneyE;rw [if_pos h0])
def c86:List AV→Prop × AV
  |[.agg [.sl cs,.sl rs,.sl ss,.sl es],.v (.int .i64 c),.v (.int .i64 n),.sl ps]=>(isL cs rs ss es∧Fit (ldOf cs rs ss es)∧ps=(ps.map dInts).map eInts∧ps.length≤maxLen∧(∀ p ∈ ps.map dInts,p.length≤maxLen),aI (moneyE (ldOf cs rs ss es) c n (ps.map dInts)))
  |_=>(False,.junk)
theorem d86 {A:Frm→Prop}:EntryOK A Try.prog 86 (valE true c86):=valE_ok fun vs hv h=>by
  clear hv
  unfold c86 at h ⊢
  split at h
  · rename_i c n ps
    refine ⟨trivial,fun _=>trivial, ?_⟩
    have:=money_fn _ c n _ h.2.1 (show (List.map dInts _).length≤maxLen by rw [List.length_map];exact h.2.2.2.1) h.2.2.2.2
    rw [← aLed_of h.1]
    simp only [aIntss,← h.2.2.1] at this
    exact this
  · exact h.elim
theorem money_ok {l:Led} {c n:Int} {ps:List (List Int)} (h:moneyE l c n ps=0):Val l∧(0≤c∧c.toNat < l.coins.length)∧(∀ p ∈ ps,p.length=(l.coins.getD c.toNat []).length∧∀ v ∈ p,0≤v∧v≤4)∧0≤n∧n≤999:=by
  unfold moneyE at h
  split at h
  · exact absurd h ‹_›
  · rename_i h0
    split at h
    · exact absurd h (by decide)
    · rename_i h1
      split at h
      · exact absurd h ‹_›
      · rename_i h2
        split at h
        · exact absurd h (by decide)
        · rename_i h3
          have b1:=inB_iff.1 (by simpa using h1)
          have b3:=inB_iff.1 (by simpa using h3)
          refine ⟨val_of (by simpa using h0),by omega,fun p hp=>?_,by omega⟩
          obtain ⟨k,hk,rfl⟩:=List.getElem_of_mem hp
          have e1:=firstE_zero (Decidable.not_not.1 h2) (pursesE l c ps k) (List.mem_map.2 ⟨k,List.mem_range.2 hk,rfl⟩)
          unfold pursesE purseE at e1
          rw [show ps.getD k []=ps[k] by simp [List.getD_eq_getElem?_getD,hk]] at e1
          split at e1
          · exact absurd e1 (by decide)
          · rename_i h4
            refine ⟨by simpa using h4,fun v hv=>?_⟩
            obtain ⟨j,hj,rfl⟩:=List.getElem_of_mem hv
            have e2:=firstE_zero e1 (purE ps[k] j) (List.mem_map.2 ⟨j,List.mem_range.2 hj,rfl⟩)
            unfold purE at e2
            rw [show ps[k].getD j 0=ps[k][j] by simp [List.getD_eq_getElem?_getD,hj]] at e2
            split at e2
            · exact absurd e2 (by decide)
            · rename_i h5
              exact inB_iff.1 (by simpa using h5)
end Go.Sym.B
namespace Go.Sym.B
open Go Go.Sym Go.Proofs Go.Sym.C
def updN (x y:Int):Int:=if 0≤x∧(y < 0∨x+1 < y) then x+1 else y
def goN (p:Nat) (f:Nat→Int):Nat→Nat→Int
  |0,a=>f a
  |k+1,a=>if p≤a then updN (goN p f k (a - p)) (f a) else f a
theorem goN_stable {p:Nat} {f:Nat→Int} (hp:1≤p):∀ (k j a:Nat),a≤k→a≤j→goN p f k a=goN p f j a
  |0,j,a,hk,hj=>by
    obtain rfl:a=0:=by omega
    cases j with
    |zero=>rfl
    |succ j=>rw [goN,goN,if_neg (by omega)]
  |k+1,0,a,hk,hj=>by
    obtain rfl:a=0:=by omega
    rw [goN,goN,if_neg (by omega)]
  |k+1,j+1,a,hk,hj=>by
    rw [goN,goN]
    by_cases h:p≤a
    · rw [if_pos h,if_pos h,goN_stable hp k j (a - p) (by omega) (by omega)]
    · rw [if_neg h,if_neg h]
def gN (p:Nat) (f:Nat→Int) (a:Nat):Int:=goN p f a a
theorem gN_lt {p:Nat} {f:Nat→Int} {a:Nat} (h:a < p):gN p f a=f a:=by
  unfold gN
  cases a with
  |zero=>rfl
  |succ a=>rw [goN,if_neg (by omega)]
theorem gN_ge {p:Nat} {f:Nat→Int} (hp:1≤p) {a:Nat} (h:p≤a):gN p f a=updN (gN p f (a - p)) (f a):=by
  unfold gN
  obtain ⟨b,rfl⟩:∃ b,a=b+1:=⟨a - 1,by omega⟩
  rw [goN,if_pos h,goN_stable hp b (b+1 - p) (b+1 - p) (by omega) (by omega)]
def needN:List Int→Nat→Int
  |[],a=>if a=0 then 0 else -1
  |p :: ps,a=>gN p.toNat (needN ps) a
theorem updN_ge {x y:Int} (hx:-1≤x) (hy:-1≤y):-1≤updN x y:=by unfold updN;split <;> omega
theorem gN_ge1 {p:Nat} {f:Nat→Int} (hp:1≤p) (h:∀ a,-1≤f a) (a:Nat):-1≤gN p f a:=by
  induction a using Nat.strongRecOn with
  |_ a ih =>
    by_cases hc:p≤a
    · rw [gN_ge hp hc];exact updN_ge (ih _ (by omega)) (h a)
    · rw [gN_lt (by omega)];exact h a
theorem gN_le {p:Nat} {f:Nat→Int} (hp:1≤p) (h:∀ a:Nat,f a≤a) (a:Nat):gN p f a≤a:=by
  induction a using Nat.strongRecOn with
  |_ a ih =>
    by_cases hc:p≤a
    · rw [gN_ge hp hc]
      have h1:=ih (a - p) (by omega)
      have h2:=h a
      unfold updN
      split <;> omega
    · rw [gN_lt (by omega)];exact h a
theorem needN_le:∀ {ps:List Int},(∀ p ∈ ps,1≤p)→∀ a:Nat,-1≤needN ps a∧needN ps a≤a
  |[],_,a=>by unfold needN;split <;> omega
  |p :: ps,h,a=>by
    have h1:=h p List.mem_cons_self
    have h2:=fun a=>needN_le (ps:=ps) (fun q hq=>h q (List.mem_cons_of_mem _ hq)) a
    exact ⟨gN_ge1 (by omega) (fun a=>(h2 a).1) a,gN_le (by omega) (fun a=>(h2 a).2) a⟩
def hitN (p:Nat) (f:Nat→Int) (a:Nat) (m:Nat):Bool:=decide (m * p≤a) && decide (0≤f (a - m * p)) && decide (f (a - m * p)+m=gN p f a)
theorem hitN_some {p:Nat} {f:Nat→Int} (hp:1≤p) (a:Nat) (h:0≤gN p f a):∃ m,hitN p f a m=true:=by
  induction a using Nat.strongRecOn with
  |_ a ih =>
    by_cases hc:p≤a
    · rw [gN_ge hp hc] at h
      by_cases hu:0≤gN p f (a - p)∧(f a < 0∨gN p f (a - p)+1 < f a)
      · obtain ⟨m,hm⟩:=ih (a - p) (by omega) hu.1
        refine ⟨m+1, ?_⟩
        unfold hitN at hm ⊢
        simp only [Bool.and_eq_true,decide_eq_true_eq] at hm ⊢
        have e1:(m+1) * p=m * p+p:=Nat.succ_mul m p
        have e2:a - (m+1) * p=a - p - m * p:=by omega
        have e3:gN p f a=gN p f (a - p)+1:=by rw [gN_ge hp hc];unfold updN;rw [if_pos hu]
        rw [e2,e3]
        refine ⟨⟨by omega,hm.1.2⟩, ?_⟩
        have:=hm.2
        omega
      · refine ⟨0, ?_⟩
        unfold hitN
        simp only [Bool.and_eq_true,decide_eq_true_eq]
        have e3:gN p f a=f a:=by rw [gN_ge hp hc];unfold updN;rw [if_neg hu]
        rw [← gN_ge hp hc,e3] at h
        rw [e3]
        simp;exact h
    · refine ⟨0, ?_⟩
      rw [gN_lt (by omega)] at h
      unfold hitN
      simp only [Bool.and_eq_true,decide_eq_true_eq]
      rw [gN_lt (by omega)]
      simp;exact h
theorem hitN_le {p:Nat} {f:Nat→Int} (hp:1≤p) {a m:Nat} (h:hitN p f a m=true):m≤a:=by
  unfold hitN at h
  simp only [Bool.and_eq_true,decide_eq_true_eq] at h
  have:=Nat.le_mul_of_pos_right m hp
  omega
def countN (p:Nat) (f:Nat→Int) (a:Nat):Nat:=((List.range (a+1)).find? (hitN p f a)).getD 0
theorem countN_hit {p:Nat} {f:Nat→Int} (hp:1≤p) {a m:Nat} (h:hitN p f a m=true) (hb:∀ j,j < m→hitN p f a j=false):countN p f a=m:=by
  have hm:=hitN_le hp h
  unfold countN
  have:(List.range (a+1)).find? (hitN p f a)=some m:=by
    rw [List.find?_range_eq_some]
    exact ⟨h,List.mem_range.2 (by omega),fun j hj=>by simpa using hb j hj⟩
  rw [this];rfl
theorem countN_spec {p:Nat} {f:Nat→Int} (hp:1≤p) {a:Nat} (h:0≤gN p f a):hitN p f a (countN p f a)=true:=by
  obtain ⟨m,hm⟩:=hitN_some hp a h
  have hle:=hitN_le hp hm
  unfold countN
  cases hq:(List.range (a+1)).find? (hitN p f a) with
  |some i=>exact List.find?_some hq
  |none=>exact absurd hm (List.find?_eq_none.1 hq m (List.mem_range.2 (by omega)))
def pcA (ps:List Int) (A:Nat):Nat→Nat
  |0=>A
  |i+1=>pcA ps A i - countN (ps.getD i 0).toNat (needN (ps.drop (i+1))) (pcA ps A i) * (ps.getD i 0).toNat
def pcM (ps:List Int) (A:Nat) (i:Nat):Nat:=countN (ps.getD i 0).toNat (needN (ps.drop (i+1))) (pcA ps A i)
def pcL (ps:List Int) (A:Nat) (k:Nat):List Int:=(List.range k).map fun i=>(pcM ps A i:Int)
theorem pcL_succ (ps:List Int) (A k:Nat):pcL ps A (k+1)=pcL ps A k++[(pcM ps A k:Int)]:=by unfold pcL;rw [List.range_succ,List.map_append];rfl
theorem pcL_len (ps:List Int) (A k:Nat):(pcL ps A k).length=k:=by simp [pcL]
theorem need_drop {ps:List Int} {i:Nat} (h:i < ps.length) (a:Nat):needN (ps.drop i) a=gN (ps.getD i 0).toNat (needN (ps.drop (i+1))) a:=by
  rw [List.drop_eq_getElem_cons h,needN];simp [List.getD_eq_getElem?_getD,h]
theorem pc_inv {ps:List Int} (hp:∀ p ∈ ps,1≤p) {A:Nat} (h0:0≤needN ps A):∀ i,i≤ps.length→0≤needN (ps.drop i) (pcA ps A i)∧pcA ps A i≤A
  |0,_=>by rw [List.drop_zero];exact ⟨h0,Nat.le_refl _⟩
  |i+1,hi=>by
    obtain ⟨h1,h2⟩:=pc_inv hp h0 i (by omega)
    have h3:=hp _ (gMem (d:=0) (show i < ps.length by omega))
    rw [need_drop (by omega)] at h1
    have h4:=countN_spec (by omega) h1
    unfold hitN at h4
    simp only [Bool.and_eq_true,decide_eq_true_eq] at h4
    rw [pcA]
    exact ⟨h4.1.2,by omega⟩
theorem need_one {ps:List Int} (hp:∀ p ∈ ps,1≤p) (h1:ps.getD 0 0=1) (hl:1≤ps.length) (a:Nat):0≤needN ps a:=by
  obtain ⟨p,r,rfl⟩:∃ p r,ps=p :: r:=by cases ps with|nil=>simp at hl|cons p r=>exact ⟨p,r,rfl⟩
  obtain rfl:p=1:=by simpa using h1
  have hr:∀ a,-1≤needN r a:=fun a=>(needN_le (fun q hq=>hp q (List.mem_cons_of_mem _ hq)) a).1
  have h00:∀ {r:List Int},(∀ p ∈ r,1≤p)→needN r 0=0:=by
    intro r
    induction r with
    |nil=>intro _;rfl
    |cons q r ih =>
      intro h
      have:=h q List.mem_cons_self
      rw [needN,gN_lt (by omega)]
      exact ih fun x hx=>h x (List.mem_cons_of_mem _ hx)
  rw [needN]
  show 0≤gN 1 (needN r) a
  induction a with
  |zero=>rw [gN_lt (by omega),h00 fun q hq=>hp q (List.mem_cons_of_mem _ hq)];decide
  |succ a ih =>
    rw [gN_ge (Nat.le_refl _) (by omega),show a+1 - 1=a by omega]
    unfold updN
    have:=hr (a+1)
    split <;> omega
structure PsOk (ps:List Int):Prop where
  l:1≤ps.length∧ps.length≤4
  one:ps.getD 0 0=1
  b:∀ p ∈ ps,1≤p∧p≤50
  inc:∀ i,i+1 < ps.length→ps.getD i 0 < ps.getD (i+1) 0
theorem coin_ok {p:List Int} (h:coinE p=0):PsOk p:=by
  unfold coinE at h
  split at h
  · exact absurd h ‹_›
  · rename_i h0
    split at h
    · exact absurd h (by decide)
    · rename_i h1
      have hl:1≤p.length∧p.length≤4:=by unfold countedE at h0;split at h0 <;> simp at h0;omega
      have hs:∀ i,i+1 < p.length→p.getD (i+1) 0≤50∧p.getD i 0 < p.getD (i+1) 0:=fun i hi=>by
        have:=firstE_zero h (pieceE p i) (List.mem_map.2 ⟨i,List.mem_range.2 (by omega),rfl⟩)
        unfold pieceE at this
        rw [Nat.add_comm 1 i] at this
        split at this
        · exact absurd this (by decide)
        · split at this
          · exact absurd this (by decide)
          · omega
      have hb:∀ i,i < p.length→1≤p.getD i 0∧p.getD i 0≤50:=fun i=>by
        induction i with
        |zero=>intro _;omega
        |succ i ih=>intro hi;have:=ih (by omega);have:=hs i hi;omega
      refine ⟨hl,by omega,fun q hq=>?_,fun i hi=>(hs i hi).2⟩
      obtain ⟨j,hj,rfl⟩:=List.getElem_of_mem hq
      have:=hb j hj
      simpa [List.getD_eq_getElem?_getD,hj] using this
def rowR (f:Nat→Int) (A:Nat):List Int:=(List.range (A+1)).map f
theorem rowR_len (f:Nat→Int) (A:Nat):(rowR f A).length=A+1:=by simp [rowR]
theorem rowR_get {f:Nat→Int} {A j:Nat} (h:j≤A):(rowR f A).getD j 0=f j:=by simp [rowR,List.getD_eq_getElem?_getD,show j < A+1 by omega]
theorem rowR_set {f:Nat→Int} {A j:Nat} {v:Int}:(rowR f A).set j v=rowR (fun i=>if i=j then v else f i) A:=by
  apply List.ext_getElem?
  intro i
  simp only [rowR,List.getElem?_set,List.getElem?_map,List.getElem?_range,List.length_map,List.length_range]
  by_cases hi:j=i
  · subst hi
    by_cases h:j < A+1
    · simp [h]
    · simp [h]
  · rw [if_neg hi]
    by_cases h:i < A+1
    · simp [h];exact fun h'=>absurd h'.symm hi
    · simp [h]
theorem rowR_congr {f g:Nat→Int} {A:Nat} (h:∀ j,j≤A→f j=g j):rowR f A=rowR g A:=by
  unfold rowR
  exact List.map_congr_left fun j hj=>h j (by have:=List.mem_range.1 hj;omega)
def mixF (p:Nat) (f:Nat→Int) (n:Nat):Nat→Int:=fun j=>if j < n then gN p f j else f j
theorem mix_start {p:Nat} {f:Nat→Int} {A:Nat}:rowR (mixF p f p) A=rowR f A:=rowR_congr fun j _=>by
  unfold mixF;split
  · exact gN_lt ‹_›
  · rfl
theorem mix_end {p:Nat} {f:Nat→Int} {A n:Nat} (h:A < n):rowR (mixF p f n) A=rowR (gN p f) A:=rowR_congr fun j hj=>by
  unfold mixF;rw [if_pos (by omega)]
theorem mix_set {p:Nat} {f:Nat→Int} {A n:Nat} {v:Int} (hv:gN p f n=v):(rowR (mixF p f n) A).set n v=rowR (mixF p f (n+1)) A:=by
  rw [rowR_set]
  refine rowR_congr fun j _=>?_
  unfold mixF
  by_cases h:j=n
  · subst h;rw [if_pos rfl,if_pos (by omega),hv]
  · rw [if_neg h]
    by_cases h1:j < n
    · rw [if_pos h1,if_pos (by omega)]
    · rw [if_neg h1,if_neg (by omega)]
theorem mix_same {p:Nat} {f:Nat→Int} {A n:Nat} (hv:gN p f n=f n):rowR (mixF p f n) A=rowR (mixF p f (n+1)) A:=rowR_congr fun j _=>by
  unfold mixF
  by_cases h:j=n
  · subst h;rw [if_neg (by omega),if_pos (by omega),hv]
  · by_cases h1:j < n
    · rw [if_pos h1,if_pos (by omega)]
    · rw [if_neg h1,if_neg (by omega)]
def tabC (g:Nat→AV) (n:Nat):List AV:=(List.range n).map g
theorem tabC_len (g:Nat→AV) (n:Nat):(tabC g n).length=n:=by simp [tabC]
theorem tabC_read {g:Nat→AV} {n k:Nat} (h:k < n):((tabC g n).drop k).take 1=[g k]:=by
  apply List.ext_getElem?
  intro i
  rw [List.getElem?_take]
  by_cases hi:i < 1
  · obtain rfl:i=0:=by omega
    simp [tabC,h]
  · rw [if_neg hi]
    simp;omega
theorem tabC_store {g:Nat→AV} {n k:Nat} {v:AV} (h:k < n):(tabC g n).take k++v :: (tabC g n).drop (k+1)=tabC (fun j=>if j=k then v else g j) n:=by
  apply List.ext_getElem?
  intro i
  rw [List.getElem?_append]
  simp only [tabC,List.length_take,List.length_map,List.length_range]
  rw [show min k n=k by omega]
  by_cases h1:i < k
  · rw [if_pos h1,List.getElem?_take,if_pos h1]
    simp [show i < n by omega,show i ≠ k by omega]
  · rw [if_neg h1]
    by_cases h2:i=k
    · subst h2
      simp [h]
    · rw [show i - k=(i - k - 1)+1 by omega,List.getElem?_cons_succ,List.getElem?_drop,show k+1+(i - k - 1)=i by omega]
      by_cases h3:i < n
      · simp [h3,h2]
      · simp [h3]
theorem tabC_nil (n:Nat):List.replicate n AV.nil=tabC (fun _=>.nil) n:=by
  apply List.ext_getElem?
  intro i
  simp only [tabC,List.getElem?_replicate,List.getElem?_map,List.getElem?_range]
  by_cases h:i < n <;> simp [h]
theorem tabC_le {h:Nat→Option AObj} {σ:Nat→Option Nat} {g g':Nat→AV} {n:Nat} (hg:∀ j,j < n→AV.le h σ (g j) (g' j)):AV.leL h σ (tabC g n) (tabC g' n):=by
  have key:∀ (l:List Nat),(∀ j ∈ l,AV.le h σ (g j) (g' j))→AV.leL h σ (l.map g) (l.map g'):=by
    intro l
    induction l with
    |nil=>intro _;exact trivial
    |cons a l ih=>intro hh;exact ⟨hh a List.mem_cons_self,ih fun j hj=>hh j (List.mem_cons_of_mem _ hj)⟩
  exact key _ fun j hj=>hg j (List.mem_range.1 hj)
theorem tabC_ids {g:Nat→AV} {n N:Nat} (hg:∀ j,j < n→∀ id ∈ (g j).ids,id < N):∀ id ∈ AV.idsL (tabC g n),id < N:=fun id hid=>by
  obtain ⟨c,hc,hi⟩:=AV.mem_idsL.1 hid
  obtain ⟨j,hj,rfl⟩:=List.mem_map.1 hc
  exact hg j (List.mem_range.1 hj) id hi
end Go.Sym.B
namespace Go.Sym.B
open Go Go.Sym Go.Proofs Go.Sym.C
theorem rowEx3 {a:Nat} {c:TypeId} {xs ys:List (List DV)}:(∃ e k,AObj.row c a xs=AObj.row e k ys)=(xs=ys):=by
  refine propext ⟨fun ⟨e,k,h⟩=>?_,fun h=>⟨c,a,by rw [h]⟩⟩
  cases h;rfl
def isBad (l:Led) (i:Nat):Bool:=decide ((l.entries.getD i default).kind=3) && !decide ((swapQ l (l.entries.getD i default).day (l.entries.getD i default).coin (l.entries.getD i default).to (l.entries.getD i default).amount).floor=(l.entries.getD i default).got)
theorem isBad_eq (l:Led) (i:Nat):isBad l i=(decide ((l.entries.getD i default).kind=3) && !decide ((swapQ l (l.entries.getD i default).day (l.entries.getD i default).coin (l.entries.getD i default).to (l.entries.getD i default).amount).floor=(l.entries.getD i default).got)):=rfl
def badK (l:Led) (k:Nat):List Int:=((List.range k).filter (isBad l)).map fun i:Nat=>(i:Int)
def badL (l:Led):List Int:=badK l l.entries.length
theorem badK_succ (l:Led) (k:Nat):badK l (k+1)=if isBad l k=true then badK l k++[(k:Int)] else badK l k:=by
  unfold badK
  rw [List.range_succ,List.filter_append]
  split
  · rename_i h;simp [h]
  · rename_i h;simp [h]
theorem badK_len (l:Led) (k:Nat):(badK l k).length≤k:=by
  unfold badK
  rw [List.length_map]
  exact Nat.le_trans (List.length_filter_le _ _) (by simp)
theorem val_entry' {l:Led} (h:Val l) {k:Nat} (hk:k < l.entries.length):EntryOk l (l.entries.getD k default) (stK l k).1:=by
  have h0:=h.es k hk
  rw [eK_eq] at h0
  unfold eV at h0
  split at h0
  · exact absurd h0 ‹_›
  · exact entryE_ok (Decidable.not_not.1 ‹_›)
def aBad (l:Led):AV:=if checkE l ≠ 0 then .tup [.sl [],aI (checkE l)] else .tup [aInts (badL l),aI 0]
def bdS (l:Led) (k:Nat):St:={ t:=asg [(1,.ptr 0 0),(2,.nil),(3,aI 0),(5,.row 1),(14,.sl (l.entries.map eEnt)),(15,aI l.entries.length),(16,aI k)],h:=hasg [(0,.cells (cLed l)),(1,.row 3 1 ((badK l k).map eInt))],n:=2 }
def tbF17_31:=kj @ty3 (kj @ty22 (kj @ty30 (kj @ty36 (kj @ty38 (kj @ty48 (kj @ti3.eq_1 (kj @ti22.eq_1 (kj @ti30.eq_1 (kj @ti36.eq_1 (kj @ti38.eq_1 @ti48.eq_1))))))))))
def xbF17_1:=kj @aI.eq_1 (kj @aB.eq_1 (kj @aLed.eq_1 (kj @cLed.eq_1 (kj @aSh.eq_1 (kj @shQ.eq_1 (kj @aInts.eq_1 (kj @bdS.eq_1 (kj @c50.eq_1 (kj @c50.eq_2 (kj @c89.eq_1 (kj @c89.eq_2 (kj @s90.eq_1 (kj @s90.eq_2 (kj @isL_e (kj @ldOf_e (kj @isQ_q (kj @qI_q (kj @eEnt.eq_1 (kj @gEnt (kj @eInt.eq_1 (@rInt)))))))))))))))))))))
set_option maxHeartbeats 1000000 in
theorem bad_fn (l:Led) (hl:Fit l):FnV Try.prog 31 [aLed l] (aBad l):=by
  have env:Env (fun _=>True) Try.prog tyB (tab [(50,valE true c50),(89,valE true c89),(90,valE true s90)]):=mkEnv ⟨d50,d89,e90,trivial⟩
  refine Fn.of (A:=fun _=>True) (n0:=0) (D:=noD) (Fn0 Try.func31 rfl (fun vs w=>by kernel_rfl) (by kernel_rfl)) (by simp) (by simp [AV.ids,AV.idsL,aLed,cLed]) (fun i o h=>by cases h) (fun _ _ _ _=>trivial) noD_ok ?_
  by_cases c0:checkE l=0
  · rw [show aBad l=_ from if_neg (by rw [c0];simp)]
    have hV:=val_of c0
    have q4:=hV.e
    have q5:=tmax
    repeat' (first|(apply nx;with_reducible constructor)|refine jq (by decide) ?_|((first|refine kx env fun Q hQ=>?_|refine kz fun Q hQ=>?_);simp only [vkt,seval,tbF17_31,xbF17_1,c0];(try simp only [ite_and]);(repeat' (first|with_reducible assumption|refine And.intro ?_ ?_|intro hp));all_goals (first|(refine hQ _ ?_;clear hQ Q)|(refine hQ _ (fun h=>?_) (fun h=>?_) <;> clear hQ Q <;> (try simp only [vki,reduceCtorEq] at h))|omega|assumption|with_reducible rfl|(refine kq ?_;kernel_rfl)|skip)))
    refine sym_loop (fun k:{ k:Nat // k≤l.entries.length }=>bdS l k.1) (fun k=>l.entries.length - k.1) ⟨0,Nat.zero_le _⟩ ?_ fun ⟨k,hk⟩=>?_
    · (refine Le.ok (fun j=>if j=0 then some 0 else none) [] ?_;constructor;all_goals (try simp only [vle,vkt,seval,tbF17_31,xbF17_1]))
      all_goals first|rfl|trivial|(simp [badK];done)
    · repeat' (first|(apply nx;with_reducible constructor)|refine jq (by decide) ?_)
      (refine kx env fun Q hQ=>?_;simp only [vkt,seval,tbF17_31,xbF17_1];(try simp only [ite_and]);(repeat' (first|with_reducible assumption|refine And.intro ?_ ?_|intro hp));all_goals (first|(refine hQ _ ?_;clear hQ Q)|omega|assumption|with_reducible rfl|(refine kq ?_;kernel_rfl)|skip))
      repeat' (first|(apply nx;with_reducible constructor)|refine jq (by decide) ?_)
      (refine sym_cd (by simp only [vkt,seval,tbF17_31,xbF17_1];rfl) (fun h=>?_) (fun h=>?_) <;> (try simp only [vki,reduceCtorEq] at h))
      · have hlt:k < l.entries.length:=by omega
        have hentry:=val_entry' hV hlt
        have hS:=badK_succ l k
        have hbl:=badK_len l k
        have hle:((badK l k).length+1) * 8≤140737488355328:=by omega
        have hlm:(badK l k).length+1≤maxLen:=by omega
        have hB:=isBad_eq l k
        generalize hx:l.entries.getD k default=x at *
        have e9:=wrap_succ hlt (show l.entries.length≤maxLen by omega)
        by_cases k3:x.kind=3
        · have r1:=val_rt hV hentry.day.1 hentry.day.2 hentry.coin.1 hentry.coin.2
          have r2:=val_rt hV hentry.day.1 hentry.day.2 (hentry.to k3).1 (hentry.to k3).2
          have am:=hentry.am
          have am1:0≤x.amount:=am.1
          have am2:x.amount≤50000:=by omega
          have hb:=(rt_bd r1).muli (C:=50000) (n:=x.amount) (by omega) (by omega)
          have hq:=sm_fl (sm_div hb (by decide) (by have:=r2.n0;omega) r2.n1 r2.e1)
          by_cases k4:(rq l x.day x.coin * x.amount / rq l x.day x.to).floor=x.got
          · have hB':isBad l k=false:=by rw [hB,k3];simp [swapQ,k4]
            repeat' (first|(apply nx;with_reducible constructor)|refine jq (by decide) ?_|((first|refine kx env fun Q hQ=>?_|refine kz fun Q hQ=>?_);simp only [vkt,seval,tbF17_31,xbF17_1,hx,k3,k4];(try simp only [ite_and]);(repeat' (first|with_reducible assumption|refine And.intro ?_ ?_|intro hp));all_goals (first|(refine hQ _ ?_;clear hQ Q)|(refine hQ _ (fun h=>?_) (fun h=>?_) <;> clear hQ Q <;> (try simp only [vki,reduceCtorEq] at h))|omega|assumption|with_reducible rfl|(refine kq ?_;kernel_rfl)|skip)))
            refine ⟨⟨k+1,hlt⟩,by show l.entries.length - (k+1) < l.entries.length - k;omega, ?_⟩
            (refine Le.ok some [] ?_;constructor;all_goals (try simp only [vle,vkt,seval,tbF17_31,xbF17_1]))
            all_goals first|rfl|trivial|(simp [hS,hB',e9];done)
          · have hB':isBad l k=true:=by rw [hB,k3];simp [swapQ,k4]
            repeat' (first|(apply nx;with_reducible constructor)|refine jq (by decide) ?_|((first|refine kx env fun Q hQ=>?_|refine kz fun Q hQ=>?_);simp only [vkt,seval,tbF17_31,xbF17_1,hx,k3,k4];(try simp only [ite_and]);(repeat' (first|with_reducible assumption|refine And.intro ?_ ?_|intro hp));all_goals (first|(refine hQ _ ?_;clear hQ Q)|(refine hQ _ (fun h=>?_) (fun h=>?_) <;> clear hQ Q <;> (try simp only [vki,reduceCtorEq] at h))|omega|assumption|with_reducible rfl|(refine kq ?_;kernel_rfl)|skip)))
            refine ⟨⟨k+1,hlt⟩,by show l.entries.length - (k+1) < l.entries.length - k;omega, ?_⟩
            (refine Le.ok (fun j=>if j=1 then some 4 else some j) [] ?_;constructor;all_goals (try simp only [vle,vkt,seval,tbF17_31,xbF17_1]))
            all_goals first|rfl|trivial|(rw [hS,if_pos hB'];simp [eInt];done)|(simp [hS,hB',e9];done)
        · have hB':isBad l k=false:=by rw [hB];simp [k3]
          repeat' (first|(apply nx;with_reducible constructor)|refine jq (by decide) ?_|((first|refine kx env fun Q hQ=>?_|refine kz fun Q hQ=>?_);simp only [vkt,seval,tbF17_31,xbF17_1,hx,k3];(try simp only [ite_and]);(repeat' (first|with_reducible assumption|refine And.intro ?_ ?_|intro hp));all_goals (first|(refine hQ _ ?_;clear hQ Q)|(refine hQ _ (fun h=>?_) (fun h=>?_) <;> clear hQ Q <;> (try simp only [vki,reduceCtorEq] at h))|omega|assumption|with_reducible rfl|(refine kq ?_;kernel_rfl)|skip)))
          refine ⟨⟨k+1,hlt⟩,by show l.entries.length - (k+1) < l.entries.length - k;omega, ?_⟩
          (refine Le.ok some [] ?_;constructor;all_goals (try simp only [vle,vkt,seval,tbF17_31,xbF17_1]))
          all_goals first|rfl|trivial|(simp [hS,hB',e9];done)
      · have hkn:k=l.entries.length:=by omega
        subst hkn
        repeat' (first|(apply nx;with_reducible constructor)|refine jq (by decide) ?_|((first|refine kx env fun Q hQ=>?_|refine kz fun Q hQ=>?_);simp only [vkt,seval,tbF17_31,xbF17_1];(try simp only [ite_and]);(repeat' (first|with_reducible assumption|refine And.intro ?_ ?_|intro hp));all_goals (first|(refine hQ _ ?_;clear hQ Q)|(refine hQ _ (fun h=>?_) (fun h=>?_) <;> clear hQ Q <;> (try simp only [vki,reduceCtorEq] at h))|omega|assumption|with_reducible rfl|(refine kq ?_;kernel_rfl)|skip)))
        (simp only [vrt,Try.results31,rowEx3,vkt,seval,tbF17_31,xbF17_1];refine Fin.val rfl ?_;(try simp only [AV.le,AV.leL]))
        all_goals exact ⟨⟨_,_,rfl⟩,trivial,trivial⟩
  · rw [show aBad l=_ from if_pos c0]
    repeat' (first|(apply nx;with_reducible constructor)|refine jq (by decide) ?_|((first|refine kx env fun Q hQ=>?_|refine kz fun Q hQ=>?_);simp only [vkt,seval,tbF17_31,xbF17_1,c0];(try simp only [ite_and]);(repeat' (first|with_reducible assumption|refine And.intro ?_ ?_|intro hp));all_goals (first|(refine hQ _ ?_;clear hQ Q)|(refine hQ _ (fun h=>?_) (fun h=>?_) <;> clear hQ Q <;> (try simp only [vki,reduceCtorEq] at h))|omega|assumption|with_reducible rfl|(refine kq ?_;kernel_rfl)|skip)))
    (simp only [vrt,Try.results31,vkt,seval,tbF17_31,xbF17_1];refine Fin.val rfl ?_;(try simp only [AV.le,AV.leL]))
    all_goals simp
def c31:List AV→Prop × AV
  |[.agg [.sl cs,.sl rs,.sl ss,.sl es]]=>(isL cs rs ss es∧Fit (ldOf cs rs ss es),aBad (ldOf cs rs ss es))
  |_=>(False,.junk)
theorem d31 {A:Frm→Prop}:EntryOK A Try.prog 31 (valE false c31):=valE_ok fun vs hv h=>by
  clear hv
  unfold c31 at h ⊢
  split at h
  · refine ⟨by unfold aBad;split <;> simp [AV.plain,AV.plainL,aI,aInts],fun h=>absurd h (by decide), ?_⟩
    rw [← aLed_of h.1];exact bad_fn _ h.2
  · exact h.elim
def cEnt (x:Ent):List AV:=[.v (.int .i64 x.day),.v (.int .i64 x.kind),.v (.int .i64 x.coin),.v (.int .i64 x.to),.v (.int .i64 x.amount),.v (.int .i64 x.got)]
def metB (x:Ent) (p:List Int):Bool:=decide (p.getD 0 0=x.day) && (decide (p.getD 1 0=x.coin) || decide (p.getD 1 0=x.to))
def tbF17_93:=kj @ty3 (kj @ty22 (kj @ty48 (kj @ti3.eq_1 (kj @ti22.eq_1 @ti48.eq_1))))
def xbF17_2:=kj @aI.eq_1 (kj @aB.eq_1 (kj @aInts.eq_1 (kj @cEnt.eq_1 (kj @eInt.eq_1 (@gInt)))))
theorem met_fn (x:Ent) (p:List Int) (hp:2≤p.length):Fn noB Try.prog 93 [aInts p,.ptr 0 0] (hasg [(0,.cells (cEnt x))]) (aB (metB x p)) (hasg [(0,.cells (cEnt x))]) 0:=by
  have env:Env (fun _=>True) Try.prog tyB (tab []):=mkEnv trivial
  refine Fn.of (A:=fun _=>True) (n0:=1) (D:=noD) (Fn0 Try.func93 rfl (fun vs w=>by kernel_rfl) (by kernel_rfl)) (by simp) (by simp [AV.ids,aInts]) ?_ (fun _ _ _ _=>trivial) noD_ok ?_
  · intro i o hi
    have h:=hasg_mem hi
    simp at h;obtain ⟨rfl,rfl⟩:=h;simp [cEnt,AObj.ids,AV.ids,AV.idsL]
  by_cases c1:p.getD 0 0=x.day
  · by_cases c2:p.getD 1 0=x.coin
    · repeat' (first|(apply nx;with_reducible constructor)|refine jq (by decide) ?_|((first|refine kx env fun Q hQ=>?_|refine kz fun Q hQ=>?_);simp only [vkt,seval,tbF17_93,xbF17_2,c1,c2];(try simp only [ite_and]);(repeat' (first|with_reducible assumption|refine And.intro ?_ ?_|intro hp));all_goals (first|(refine hQ _ ?_;clear hQ Q)|(refine hQ _ (fun h=>?_) (fun h=>?_) <;> clear hQ Q <;> (try simp only [vki,reduceCtorEq] at h))|omega|assumption|with_reducible rfl|(refine kq ?_;kernel_rfl)|skip)))
      (simp only [vrt,Try.results93,vkt,seval,tbF17_93,xbF17_2];refine Fin.ok some [] ?_ ?_ ?_ ?_ ?_ rfl;all_goals (try simp only [vle,vkt,seval,tbF17_93,xbF17_2]))
      all_goals simp [-List.getD_eq_getElem?_getD,metB,c1,c2]
    · by_cases c3:p.getD 1 0=x.to
      · have c4:¬ x.to=x.coin:=by rw [← c3];exact c2
        repeat' (first|(apply nx;with_reducible constructor)|refine jq (by decide) ?_|((first|refine kx env fun Q hQ=>?_|refine kz fun Q hQ=>?_);simp only [vkt,seval,tbF17_93,xbF17_2,c1,c2,c3,c4];(try simp only [ite_and]);(repeat' (first|with_reducible assumption|refine And.intro ?_ ?_|intro hp));all_goals (first|(refine hQ _ ?_;clear hQ Q)|(refine hQ _ (fun h=>?_) (fun h=>?_) <;> clear hQ Q <;> (try simp only [vki,reduceCtorEq] at h))|omega|assumption|with_reducible rfl|(refine kq ?_;kernel_rfl)|skip)))
        (simp only [vrt,Try.results93,vkt,seval,tbF17_93,xbF17_2];refine Fin.ok some [] ?_ ?_ ?_ ?_ ?_ rfl;all_goals (try simp only [vle,vkt,seval,tbF17_93,xbF17_2]))
        all_goals simp [-List.getD_eq_getElem?_getD,metB,c1,c2,c3,c4]
      · repeat' (first|(apply nx;with_reducible constructor)|refine jq (by decide) ?_|((first|refine kx env fun Q hQ=>?_|refine kz fun Q hQ=>?_);simp only [vkt,seval,tbF17_93,xbF17_2,c1,c2,c3];(try simp only [ite_and]);(repeat' (first|with_reducible assumption|refine And.intro ?_ ?_|intro hp));all_goals (first|(refine hQ _ ?_;clear hQ Q)|(refine hQ _ (fun h=>?_) (fun h=>?_) <;> clear hQ Q <;> (try simp only [vki,reduceCtorEq] at h))|omega|assumption|with_reducible rfl|(refine kq ?_;kernel_rfl)|skip)))
        (simp only [vrt,Try.results93,vkt,seval,tbF17_93,xbF17_2];refine Fin.ok some [] ?_ ?_ ?_ ?_ ?_ rfl;all_goals (try simp only [vle,vkt,seval,tbF17_93,xbF17_2]))
        all_goals simp [-List.getD_eq_getElem?_getD,metB,c1,c2,c3]
  · repeat' (first|(apply nx;with_reducible constructor)|refine jq (by decide) ?_|((first|refine kx env fun Q hQ=>?_|refine kz fun Q hQ=>?_);simp only [vkt,seval,tbF17_93,xbF17_2,c1];(try simp only [ite_and]);(repeat' (first|with_reducible assumption|refine And.intro ?_ ?_|intro hp));all_goals (first|(refine hQ _ ?_;clear hQ Q)|(refine hQ _ (fun h=>?_) (fun h=>?_) <;> clear hQ Q <;> (try simp only [vki,reduceCtorEq] at h))|omega|assumption|with_reducible rfl|(refine kq ?_;kernel_rfl)|skip)))
    (simp only [vrt,Try.results93,vkt,seval,tbF17_93,xbF17_2];refine Fin.ok some [] ?_ ?_ ?_ ?_ ?_ rfl;all_goals (try simp only [vle,vkt,seval,tbF17_93,xbF17_2]))
    all_goals simp [-List.getD_eq_getElem?_getD,metB,c1]
def p93 (S:St):List AV→Option Pk
  |[.sl ps,.ptr t 0]=>match S.h t with
    |some (.cells [.v (.int .i64 a),.v (.int .i64 b),.v (.int .i64 c),.v (.int .i64 d),.v (.int .i64 e),.v (.int .i64 f)])=>some { pre:=ps=(ps.map dInt).map eInt∧2≤ps.length,hs:=[t],ar:=[.sl ps,.ptr 0 0],L0:=[.cells (cEnt ⟨a,b,c,d,e,f⟩)],v:=aB (metB ⟨a,b,c,d,e,f⟩ (ps.map dInt)),L1:=[some (.cells (cEnt ⟨a,b,c,d,e,f⟩))],fl:=true }
    |_=>none
  |_=>none
theorem e93 {A:Frm→Prop}:EntryOK A Try.prog 93 (fnE p93):=fnE_ok fun S bs q h hp=>by
  unfold p93 at h
  split at h
  · split at h
    · rename_i ps t _ a b c d e f _
      cases h
      have:=met_fn ⟨a,b,c,d,e,f⟩ (ps.map dInt) (by simpa using hp.2)
      rw [aInts,← hp.1] at this
      exact this
    · cases h
  · cases h
def idxF (f:List Int→Bool) (l:List (List Int)):Int:=match (List.range l.length).find? fun i=>f (l.getD i []) with
  |some i=>i
  |none=>-1
theorem idxF_hit {f:List Int→Bool} {l:List (List Int)} {k:Nat} (hk:k < l.length) (h:f (l.getD k [])=true) (hb:∀ j,j < k→f (l.getD j [])=false):idxF f l=k:=by
  unfold idxF
  have:(List.range l.length).find? (fun i=>f (l.getD i []))=some k:=by
    rw [List.find?_range_eq_some]
    exact ⟨h,List.mem_range.2 hk,fun j hj=>by simpa using hb j hj⟩
  rw [this]
theorem idxF_none {f:List Int→Bool} {l:List (List Int)} (hb:∀ j,j < l.length→f (l.getD j [])=false):idxF f l=-1:=by
  unfold idxF
  have:(List.range l.length).find? (fun i=>f (l.getD i []))=none:=by
    rw [List.find?_eq_none];intro j hj;simpa using hb j (List.mem_range.1 hj)
  rw [this]
theorem idxF_any (f:List Int→Bool) (l:List (List Int)):decide (0≤idxF f l)=l.any f:=by
  by_cases h:∃ j,j < l.length∧f (l.getD j [])=true
  · have h2:l.any f=true:=by
      obtain ⟨j,hj,hf⟩:=h
      exact List.any_eq_true.2 ⟨_,gMem hj,hf⟩
    rw [h2]
    unfold idxF
    cases hq:(List.range l.length).find? (fun i=>f (l.getD i [])) with
    |some i=>simp
    |none =>
      obtain ⟨j,hj,hf⟩:=h
      have:=List.find?_eq_none.1 hq j (List.mem_range.2 hj)
      rw [hf] at this;simp at this
  · have h1:∀ j,j < l.length→f (l.getD j [])=false:=fun j hj=>by
      cases hf:f (l.getD j []) with
      |false=>rfl
      |true=>exact absurd ⟨j,hj,hf⟩ h
    rw [idxF_none h1]
    have:l.any f=false:=by
      rw [List.any_eq_false]
      intro x hx
      obtain ⟨j,hj,rfl⟩:=List.getElem_of_mem hx
      have:=h1 j hj
      simpa [List.getD_eq_getElem?_getD,hj] using this
    rw [this];rfl
def ixS (ps:List (List Int)) (x:Ent) (k:Nat):St:={ t:=asg [(0,aIntss ps),(1,.clo 93 [.ptr 0 0]),(4,aI 0),(6,aIntss ps),(7,aI ps.length),(8,aI k)],h:=hasg [(0,.cells (cEnt x))],n:=1,m:=1 }
def tbF17_136:=kj @ty3 (kj @ty22 (kj @ty28 (kj @ti3.eq_1 (kj @ti22.eq_1 @ti28.eq_1))))
def xbF17_3:=kj @aI.eq_1 (kj @aB.eq_1 (kj @aInts.eq_1 (kj @aIntss.eq_1 (kj @cEnt.eq_1 (kj @eInt.eq_1 (kj @gInts (kj @eInts.eq_1 (kj @mInt (kj @p93.eq_1 (kj @p93.eq_2 (@ixS.eq_1)))))))))))
theorem idx_fn (x:Ent) (ps:List (List Int)) (hl:ps.length≤100) (hp:∀ p ∈ ps,2≤p.length):Fn noB Try.prog 136 [aIntss ps,.clo 93 [.ptr 0 0]] (hasg [(0,.cells (cEnt x))]) (aI (idxF (metB x) ps)) (hasg [(0,.cells (cEnt x))]) 0:=by
  have env:Env (fun _=>True) Try.prog tyB (tab [(93,fnE p93)]):=mkEnv ⟨e93,trivial⟩
  refine Fn.of (A:=fun _=>True) (n0:=1) (D:=noD) (Fn0 Try.func136 rfl (fun vs w=>by kernel_rfl) (by kernel_rfl)) (by simp) (by simp [AV.ids,AV.idsL,aIntss]) ?_ (fun _ _ _ _=>trivial) noD_ok ?_
  · intro i o hi
    have h:=hasg_mem hi
    simp at h;obtain ⟨rfl,rfl⟩:=h;simp [cEnt,AObj.ids,AV.ids,AV.idsL]
  have hm:ps.length≤maxLen:=by
      have:(100:Nat)≤maxLen:=by decide
      omega
  repeat' (first|(apply nx;with_reducible constructor)|refine jq (by decide) ?_|((first|refine kx env fun Q hQ=>?_|refine kz fun Q hQ=>?_);simp only [vkt,seval,tbF17_136,xbF17_3];(try simp only [ite_and]);(repeat' (first|with_reducible assumption|refine And.intro ?_ ?_|intro hp));all_goals (first|(refine hQ _ ?_;clear hQ Q)|(refine hQ _ (fun h=>?_) (fun h=>?_) <;> clear hQ Q <;> (try simp only [vki,reduceCtorEq] at h))|omega|assumption|with_reducible rfl|(refine kq ?_;kernel_rfl)|skip)))
  refine sym_loop (fun k:{ k:Nat // k≤ps.length∧∀ j,j < k→metB x (ps.getD j [])=false }=>ixS ps x k.1) (fun k=>ps.length - k.1) ⟨0,Nat.zero_le _,fun j h=>absurd h (Nat.not_lt_zero _)⟩ ?_ fun ⟨k,hk,hall⟩=>?_
  · (refine Le.ok some [] ?_;constructor;all_goals (try simp only [vle,vkt,seval,tbF17_136,xbF17_3]))
    all_goals simp
  · repeat' (first|(apply nx;with_reducible constructor)|refine jq (by decide) ?_)
    (refine kx env fun Q hQ=>?_;simp only [vkt,seval,tbF17_136,xbF17_3];(try simp only [ite_and]);(repeat' (first|with_reducible assumption|refine And.intro ?_ ?_|intro hp));all_goals (first|(refine hQ _ ?_;clear hQ Q)|omega|assumption|with_reducible rfl|(refine kq ?_;kernel_rfl)|skip))
    repeat' (first|(apply nx;with_reducible constructor)|refine jq (by decide) ?_)
    (refine sym_cd (by simp only [vkt,seval,tbF17_136,xbF17_3];rfl) (fun h=>?_) (fun h=>?_) <;> (try simp only [vki,reduceCtorEq] at h))
    · have hlt:k < ps.length:=by omega
      have h2:=hp _ (gMem (d:=[]) hlt)
      have e9:=wrap_succ hlt hm
      have ex:(⟨x.day,x.kind,x.coin,x.to,x.amount,x.got⟩:Ent)=x:=rfl
      cases c1:metB x (ps.getD k [])
      · repeat' (first|(apply nx;with_reducible constructor)|refine jq (by decide) ?_|((first|refine kx env fun Q hQ=>?_|refine kz fun Q hQ=>?_);simp only [vkt,seval,tbF17_136,xbF17_3,ex,c1];(try simp only [ite_and]);(repeat' (first|with_reducible assumption|refine And.intro ?_ ?_|intro hp));all_goals (first|(refine hQ _ ?_;clear hQ Q)|(refine hQ _ (fun h=>?_) (fun h=>?_) <;> clear hQ Q <;> (try simp only [vki,reduceCtorEq] at h))|omega|assumption|with_reducible rfl|(refine kq ?_;kernel_rfl)|skip)))
        refine ⟨⟨k+1,hlt,fun j hj=>?_⟩,by show ps.length - (k+1) < ps.length - k;omega, ?_⟩
        · rcases Nat.lt_or_eq_of_le (Nat.le_of_lt_succ hj) with h1|h1
          · exact hall j h1
          · rw [h1];exact c1
        · (refine Le.ok some [] ?_;constructor;all_goals (try simp only [vle,vkt,seval,tbF17_136,xbF17_3]))
          all_goals simp [e9]
      · have hi:=idxF_hit hlt c1 hall
        repeat' (first|(apply nx;with_reducible constructor)|refine jq (by decide) ?_|((first|refine kx env fun Q hQ=>?_|refine kz fun Q hQ=>?_);simp only [vkt,seval,tbF17_136,xbF17_3,ex,c1];(try simp only [ite_and]);(repeat' (first|with_reducible assumption|refine And.intro ?_ ?_|intro hp));all_goals (first|(refine hQ _ ?_;clear hQ Q)|(refine hQ _ (fun h=>?_) (fun h=>?_) <;> clear hQ Q <;> (try simp only [vki,reduceCtorEq] at h))|omega|assumption|with_reducible rfl|(refine kq ?_;kernel_rfl)|skip)))
        (simp only [vrt,Try.results136,vkt,seval,tbF17_136,xbF17_3];refine Fin.ok some [] ?_ ?_ ?_ ?_ ?_ rfl;all_goals (try simp only [vle,vkt,seval,tbF17_136,xbF17_3]))
        all_goals simp [hi]
    · have hi:=idxF_none (f:=metB x) (l:=ps) fun j hj=>hall j (by omega)
      repeat' (first|(apply nx;with_reducible constructor)|refine jq (by decide) ?_|((first|refine kx env fun Q hQ=>?_|refine kz fun Q hQ=>?_);simp only [vkt,seval,tbF17_136,xbF17_3];(try simp only [ite_and]);(repeat' (first|with_reducible assumption|refine And.intro ?_ ?_|intro hp));all_goals (first|(refine hQ _ ?_;clear hQ Q)|(refine hQ _ (fun h=>?_) (fun h=>?_) <;> clear hQ Q <;> (try simp only [vki,reduceCtorEq] at h))|omega|assumption|with_reducible rfl|(refine kq ?_;kernel_rfl)|skip)))
      (simp only [vrt,Try.results136,vkt,seval,tbF17_136,xbF17_3];refine Fin.ok some [] ?_ ?_ ?_ ?_ ?_ rfl;all_goals (try simp only [vle,vkt,seval,tbF17_136,xbF17_3]))
      all_goals simp [hi]
end Go.Sym.B
namespace Go.Sym.B
open Go Go.Sym Go.Proofs Go.Sym.C
def piL (ps:List Int) (A:Nat):List Int:=pcL ps A ps.length
def aPieces (l:Led) (c n:Int):AV:=if moneyE l c n [] ≠ 0 then .tup [.sl [],aI (moneyE l c n [])] else .tup [aInts (piL (l.coins.getD c.toNat []) n.toNat),aI 0]
def tbG (ps:List Int) (A i:Nat):Nat→AV:=fun j=>if j < i then .nil else .sl ((rowR (needN (ps.drop j)) A).map eInt)
def tbH (ps:List Int) (A i id:Nat):Nat→AV:=fun j=>if j=i then .row id else tbG ps A (i+1) j
theorem tabC_st {g:Nat→AV} {n k:Nat} {v:AV} (h:k < n):List.take (k * 1) (tabC g n)++[v]++List.drop (k * 1+1) (tabC g n)=tabC (fun j=>if j=k then v else g j) n:=by
  rw [Nat.mul_one,List.append_assoc,List.singleton_append,tabC_store h]
theorem tabC_rd {g:Nat→AV} {n k:Nat} (h:k < n):List.take 1 (List.drop (k * 1) (tabC g n))=[g k]:=by
  rw [Nat.mul_one,tabC_read h]
theorem tbG_ids {ps:List Int} {A i n N:Nat}:∀ id ∈ AV.idsL (tabC (tbG ps A i) n),id < N:=tabC_ids fun j _ id hid=>by
  unfold tbG at hid;split at hid <;> simp [AV.ids] at hid
theorem tbH_ids {ps:List Int} {A i n r N:Nat} (h:r < N):∀ id ∈ AV.idsL (tabC (tbH ps A i r) n),id < N:=tabC_ids fun j _ id hid=>by
  unfold tbH tbG at hid
  split at hid
  · simp [AV.ids] at hid;omega
  · split at hid <;> simp [AV.ids] at hid
theorem tbG_le {h:Nat→Option AObj} {σ:Nat→Option Nat} {ps:List Int} {A i n:Nat}:AV.leL h σ (tabC (tbG ps A i) n) (tabC (tbG ps A i) n):=tabC_le fun j _=>by
  unfold tbG;split
  · trivial
  · exact rfl
theorem tbH_le {h:Nat→Option AObj} {σ:Nat→Option Nat} {ps:List Int} {A i n r r':Nat} (hr:σ r'=some r):AV.leL h σ (tabC (tbH ps A i r) n) (tabC (tbH ps A i r') n):=tabC_le fun j _=>by
  unfold tbH;split
  · exact hr
  · unfold tbG;split
    · trivial
    · exact rfl
theorem tbS_le {h:Nat→Option AObj} {σ:Nat→Option Nat} {ps:List Int} {A n r:Nat} (hr:h r=some (.row 3 1 ((rowR (needN []) A).map eInt))) (hn:ps.length=n):AV.leL h σ (tabC (fun j=>if j=n then .row r else .nil) (n+1)) (tabC (tbG ps A n) (n+1)):=tabC_le fun j hj=>by
  by_cases hjn:j=n
  · subst hjn;subst hn;simp only [if_true,tbG,Nat.lt_irrefl,if_false,List.drop_length];exact ⟨_,_,by unfold rowAt;rw [hr]⟩
  · rw [if_neg hjn,tbG,if_pos (by omega)];trivial
theorem tbF_le {h:Nat→Option AObj} {σ:Nat→Option Nat} {ps:List Int} {A i n r:Nat} (hr:h r=some (.row 3 1 ((rowR (needN (ps.drop i)) A).map eInt))):AV.leL h σ (tabC (tbH ps A i r) n) (tabC (tbG ps A i) n):=tabC_le fun j hj=>by
  unfold tbH tbG
  by_cases hji:j=i
  · subst hji;simp only [if_true,Nat.lt_irrefl,if_false];exact ⟨_,_,by unfold rowAt;rw [hr]⟩
  · rw [if_neg hji]
    by_cases h1:j < i
    · rw [if_pos (by omega),if_pos h1];trivial
    · rw [if_neg (by omega),if_neg h1];exact rfl
theorem row0 (A:Nat):(List.replicate (A+1) (eInt (-1))).set 0 (eInt 0)=(rowR (needN []) A).map eInt:=by
  rw [show List.replicate (A+1) (eInt (-1))=(rowR (fun _=>-1) A).map eInt by
    apply List.ext_getElem?
    intro i
    simp only [rowR,List.getElem?_replicate,List.getElem?_map,List.getElem?_range]
    by_cases h:i < A+1 <;> simp [h]]
  rw [← List.map_set,rowR_set]
  congr 1
def peH (l:Led) (cs:List AV):List (Nat × AObj):=[(0,.cells (cLed l)),(1,.cells cs)]
def peS1 (l:Led) (c:Int) (ps:List Int) (A i:Nat):St:={ t:=asg [(1,aI c),(2,aI A),(3,.ptr 0 0),(9,aInts ps),(10,.csl 1 (ps.length+1)),(11,aI ((i:Int) - 1))],h:=hasg (peH l (tabC (tbG ps A i) (ps.length+1))),n:=2 }
def peS2 (l:Led) (c:Int) (ps:List Int) (A p i n:Nat):St:={ t:=asg [(1,aI c),(2,aI A),(3,.ptr 0 0),(9,aInts ps),(10,.csl 1 (ps.length+1)),(11,aI i),(12,aI n)],h:=hasg (peH l (tabC (tbH ps A i 2) (ps.length+1))++[(2,.row 3 1 ((rowR (mixF p (needN (ps.drop (i+1))) n) A).map eInt))]),n:=3 }
def peS3 (l:Led) (c:Int) (ps:List Int) (A i:Nat):St:={ t:=asg [(1,aI c),(2,aI (pcA ps A i)),(3,.ptr 0 0),(9,aInts ps),(10,.csl 1 (ps.length+1)),(14,.row 2),(118,aInts ps),(119,aI ps.length),(120,aI i)],h:=hasg (peH l (tabC (tbG ps A 0) (ps.length+1))++[(2,.row 3 1 ((pcL ps A i).map eInt))]),n:=3 }
def peS4 (l:Led) (c:Int) (ps:List Int) (A i m:Nat):St:={ t:=asg [(1,aI c),(2,aI (pcA ps A i)),(3,.ptr 0 0),(9,aInts ps),(10,.csl 1 (ps.length+1)),(14,.row 2),(15,aI i),(16,aI (ps.getD i 0)),(17,aI m),(118,aInts ps),(119,aI ps.length),(120,aI i)],h:=hasg (peH l (tabC (tbG ps A 0) (ps.length+1))++[(2,.row 3 1 ((pcL ps A i).map eInt))]),n:=3 }
def tbF28_28:=kj @ty3 (kj @ty22 (kj @ty28 (kj @ty30 (kj @ty38 (kj @ti3.eq_1 (kj @ti22.eq_1 (kj @ti28.eq_1 (kj @ti30.eq_1 @ti38.eq_1))))))))
def xbF28_1:=kj @aI.eq_1 (kj @aB.eq_1 (kj @aLed.eq_1 (kj @cLed.eq_1 (kj @aInts.eq_1 (kj @peH.eq_1 (kj @peS1.eq_1 (kj @peS2.eq_1 (kj @peS3.eq_1 (kj @peS4.eq_1 (kj @c86.eq_1 (kj @c86.eq_2 (kj @p87.eq_1 (kj @p87.eq_2 (kj @p88.eq_1 (kj @p88.eq_2 (kj @p88.eq_3 (kj @isL_e (kj @ldOf_e (kj @eInt.eq_1 (kj @gInt (kj @rInt (kj @rInts (kj @mInt (kj @mInts (kj @eInts.eq_1 (kj @gInts (kj @setI (@tabC_len))))))))))))))))))))))))))))
set_option maxRecDepth 100000 in
set_option maxHeartbeats 4000000 in
theorem pieces_fn (l:Led) (c n:Int) (hl:Fit l):FnV Try.prog 28 [aLed l,aI c,aI n] (aPieces l c n):=by
  have env:Env (fun _=>True) Try.prog tyB (tab [(86,valE true c86),(87,fnE p87),(88,fnE p88)]):=mkEnv ⟨d86,e87,e88,trivial⟩
  refine Fn.of (A:=fun _=>True) (n0:=0) (D:=noD) (Fn0 Try.func28 rfl (fun vs w=>by kernel_rfl) (by kernel_rfl)) (by simp) (by simp [AV.ids,AV.idsL,aI,aLed,cLed]) (fun i o h=>by cases h) (fun _ _ _ _=>trivial) noD_ok ?_
  have q0:∀ p ∈ ([]:List (List Int)),p.length≤maxLen:=fun p hp=>by simp at hp
  have q1:(0:Nat)≤maxLen:=Nat.zero_le _
  by_cases h0:moneyE l c n []=0
  · rw [show aPieces l c n=_ from if_neg (by rw [h0];simp)]
    obtain ⟨hV,⟨g1,g2⟩,_,hn0,hn1⟩:=money_ok h0
    obtain ⟨A,rfl⟩:=Int.eq_ofNat_of_zero_le hn0
    rw [Int.toNat_natCast]
    generalize hP:l.coins.getD c.toNat []=ps at *
    have hps:PsOk ps:=hP ▸ coin_ok (hV.cs _ g2)
    have hl1:=hps.l
    have w1:IntKind.wrap .i64 ((ps.length:Int)+1)=((ps.length+1:Nat):Int):=by rw [wrap64 (by omega) (by omega)];rfl
    have w2:IntKind.wrap .i64 ((A:Int)+1)=((A+1:Nat):Int):=by rw [wrap64 (by omega) (by omega)];rfl
    have w3:List.replicate (ps.length+1) AV.nil=tabC (fun _=>.nil) (ps.length+1):=tabC_nil _
    have w4:=tabC_st (g:=fun _=>.nil) (n:=ps.length+1) (k:=ps.length) (v:=.row 3) (by omega)
    have w5:=tabC_rd (g:=fun j=>if j=ps.length then .row 3 else .nil) (n:=ps.length+1) (k:=ps.length) (by omega)
    rw [if_pos rfl] at w5
    have w6:(List.replicate (A+1) [.v (.int .i64 (-1))]).set 0 [.v (.int .i64 0)]=(rowR (needN []) A).map eInt:=row0 A
    have w8:(List.replicate (A+1) [.v (.int .i64 (-1))]).getD 0 []=[DV.v (.int .i64 (-1))]:=by simp [List.getD_eq_getElem?_getD]
    have w7:IntKind.wrap .i64 ((ps.length:Int) - 1)=(ps.length:Int) - 1:=wrap64 (by omega) (by omega)
    have big:(100000:Nat)≤maxLen:=by decide
    have b1:((24:Nat):Int) * ((ps.length+1:Nat):Int)≤140737488355328:=by omega
    have b2:((ps.length+1:Nat):Int)≤maxLen:=by
        have:(20:Nat)≤maxLen:=tmax
        omega
    repeat' (first|(apply nx;with_reducible constructor)|refine jq (by decide) ?_|refine sym_scope ?_|refine scopeK_n ?_|refine scopeK_x ?_|refine scopeK_r ?_|((first|refine kx env fun Q hQ=>?_|refine kz fun Q hQ=>?_);simp only [vkt,Nat.reduceEqDiff,Nat.reduceAdd,Nat.reduceMul,Nat.reduceSub,Nat.reduceLeDiff,reduceCtorEq,↓reduceIte,↓reduceDIte,Int.reduceToNat,Int.reduceLE,Int.reduceLT,Int.reduceEq,Int.reduceNeg,tbF28_28,xbF28_1,List.map_nil,List.length_nil,h0,hP,w1,w2,w3,w4,w5,w6,w7,w8];(try simp only [ite_and]);(repeat' (first|with_reducible assumption|refine And.intro ?_ ?_|intro hp));all_goals (first|(refine hQ _ ?_;clear hQ Q)|(refine hQ _ (fun h=>?_) (fun h=>?_) <;> clear hQ Q <;> (try simp only [vki,reduceCtorEq] at h))|omega|assumption|with_reducible rfl|(refine kq ?_;kernel_rfl)|skip)))
    · exact ⟨_,_,rfl⟩
    · rw [List.length_replicate];omega
    · rw [List.length_replicate];omega
    have hge:∀ q ∈ ps,1≤q:=fun q hq=>(hps.b q hq).1
    have b3:∀ k:Nat,k < ps.length→ps.getD k 0=(((ps.getD k 0).toNat:Nat):Int)∧1≤(ps.getD k 0).toNat∧(ps.getD k 0).toNat≤50:=fun k hk=>by
      have:=hps.b _ (gMem (d:=0) hk);omega
    have nd:∀ k a:Nat,-1≤needN (ps.drop k) a∧needN (ps.drop k) a≤a:=fun k a=>needN_le (fun q hq=>hge q (List.mem_of_mem_drop hq)) a
    refine sym_loop (fun i:{ i:Nat // i≤ps.length }=>peS1 l c ps A i.1) (fun i=>i.1) ⟨ps.length,Nat.le_refl _⟩ ?_ fun ⟨i,hi⟩=>?_
    · (refine Le.ok some [3] ?_;constructor;all_goals (try simp only [vle,vkt,Nat.reduceEqDiff,Nat.reduceAdd,Nat.reduceMul,Nat.reduceSub,Nat.reduceLeDiff,reduceCtorEq,↓reduceIte,↓reduceDIte,Int.reduceToNat,Int.reduceLE,Int.reduceLT,Int.reduceEq,Int.reduceNeg,tbF28_28,xbF28_1,List.map_nil,List.length_nil]))
      all_goals first|rfl|(simp [upd];done)|exact tbG_ids|exact tbS_le rfl rfl
    · repeat' (first|(apply nx;with_reducible constructor)|refine jq (by decide) ?_|refine sym_scope ?_|refine scopeK_n ?_|refine scopeK_x ?_|refine scopeK_r ?_)
      (refine kx env fun Q hQ=>?_;simp only [vkt,Nat.reduceEqDiff,Nat.reduceAdd,Nat.reduceMul,Nat.reduceSub,Nat.reduceLeDiff,reduceCtorEq,↓reduceIte,↓reduceDIte,Int.reduceToNat,Int.reduceLE,Int.reduceLT,Int.reduceEq,Int.reduceNeg,tbF28_28,xbF28_1,List.map_nil,List.length_nil];(try simp only [ite_and]);(repeat' (first|with_reducible assumption|refine And.intro ?_ ?_|intro hp));all_goals (first|(refine hQ _ ?_;clear hQ Q)|omega|assumption|with_reducible rfl|(refine kq ?_;kernel_rfl)|skip))
      repeat' (first|(apply nx;with_reducible constructor)|refine jq (by decide) ?_|refine sym_scope ?_|refine scopeK_n ?_|refine scopeK_x ?_|refine scopeK_r ?_)
      (refine sym_cd (by simp only [vkt,Nat.reduceEqDiff,Nat.reduceAdd,Nat.reduceMul,Nat.reduceSub,Nat.reduceLeDiff,reduceCtorEq,↓reduceIte,↓reduceDIte,Int.reduceToNat,Int.reduceLE,Int.reduceLT,Int.reduceEq,Int.reduceNeg,tbF28_28,xbF28_1,List.map_nil,List.length_nil];rfl) (fun h=>?_) (fun h=>?_) <;> (try simp only [vki,reduceCtorEq] at h))
      · obtain ⟨m,rfl⟩:∃ m,i=m+1:=⟨i - 1,by omega⟩
        have e1:((m+1:Nat):Int) - 1=(m:Int):=by omega
        have e2:IntKind.wrap .i64 ((m:Int)+1)=((m+1:Nat):Int):=by rw [wrap64 (by omega) (by omega)];rfl
        have v1:List.take 1 (List.drop ((m+1) * 1) (tabC (tbG ps A (m+1)) (ps.length+1)))=[.sl ((rowR (needN (ps.drop (m+1))) A).map eInt)]:=by rw [tabC_rd (by omega),tbG,if_neg (by omega)]
        have v2:List.take (m * 1) (tabC (tbG ps A (m+1)) (ps.length+1))++[.row 2]++List.drop (m * 1+1) (tabC (tbG ps A (m+1)) (ps.length+1))=tabC (tbH ps A m 2) (ps.length+1):=tabC_st (by omega)
        obtain ⟨p1,p2,p3⟩:=b3 m (by omega)
        obtain ⟨p,hp⟩:∃ p:Nat,ps.getD m 0=(p:Int):=⟨_,p1⟩
        rw [hp,Int.toNat_natCast] at p2 p3
        have r1:=rowR_len (needN (ps.drop (m+1))) A
        have m2:(A+1) * 8≤140737488355328∧A+1≤maxLen:=by omega
        have lt1:m < ps.length:=by omega
        have fl:=nd (m+1)
        have nm:∀ a,needN (ps.drop m) a=gN p (needN (ps.drop (m+1))) a:=fun a=>by rw [need_drop lt1,hp,Int.toNat_natCast]
        repeat' (first|(apply nx;with_reducible constructor)|refine jq (by decide) ?_|refine sym_scope ?_|refine scopeK_n ?_|refine scopeK_x ?_|refine scopeK_r ?_|((first|refine kx env fun Q hQ=>?_|refine kz fun Q hQ=>?_);simp only [vkt,Nat.reduceEqDiff,Nat.reduceAdd,Nat.reduceMul,Nat.reduceSub,Nat.reduceLeDiff,reduceCtorEq,↓reduceIte,↓reduceDIte,Int.reduceToNat,Int.reduceLE,Int.reduceLT,Int.reduceEq,Int.reduceNeg,tbF28_28,xbF28_1,List.map_nil,List.length_nil,e1,e2,v1,v2,hp];(try simp only [ite_and]);(repeat' (first|with_reducible assumption|refine And.intro ?_ ?_|intro hp));all_goals (first|(refine hQ _ ?_;clear hQ Q)|(refine hQ _ (fun h=>?_) (fun h=>?_) <;> clear hQ Q <;> (try simp only [vki,reduceCtorEq] at h))|omega|assumption|with_reducible rfl|(refine kq ?_;kernel_rfl)|skip)))
        generalize hf:needN (ps.drop (m+1))=f at *
        refine sym_loop (fun n:{ n:Nat // p≤n }=>peS2 l c ps A p m n.1) (fun n=>A+1 - n.1) ⟨p,Nat.le_refl _⟩ ?_ fun ⟨n,hn⟩=>?_
        · (refine Le.ok some [] ?_;constructor;all_goals (try simp only [vle,vkt,Nat.reduceEqDiff,Nat.reduceAdd,Nat.reduceMul,Nat.reduceSub,Nat.reduceLeDiff,reduceCtorEq,↓reduceIte,↓reduceDIte,Int.reduceToNat,Int.reduceLE,Int.reduceLT,Int.reduceEq,Int.reduceNeg,tbF28_28,xbF28_1,List.map_nil,List.length_nil]))
          all_goals first|rfl|(simp [upd];done)|exact ⟨tbH_le rfl,by rw [hf,mix_start]⟩|exact ⟨by decide,tbH_ids (by decide)⟩|skip
        · unfold peS2
          rw [hf]
          repeat' (first|(apply nx;with_reducible constructor)|refine jq (by decide) ?_|refine sym_scope ?_|refine scopeK_n ?_|refine scopeK_x ?_|refine scopeK_r ?_)
          (refine kx env fun Q hQ=>?_;simp only [vkt,Nat.reduceEqDiff,Nat.reduceAdd,Nat.reduceMul,Nat.reduceSub,Nat.reduceLeDiff,reduceCtorEq,↓reduceIte,↓reduceDIte,Int.reduceToNat,Int.reduceLE,Int.reduceLT,Int.reduceEq,Int.reduceNeg,tbF28_28,xbF28_1,List.map_nil,List.length_nil];(try simp only [ite_and]);(repeat' (first|with_reducible assumption|refine And.intro ?_ ?_|intro hp));all_goals (first|(refine hQ _ ?_;clear hQ Q)|omega|assumption|with_reducible rfl|(refine kq ?_;kernel_rfl)|skip))
          repeat' (first|(apply nx;with_reducible constructor)|refine jq (by decide) ?_|refine sym_scope ?_|refine scopeK_n ?_|refine scopeK_x ?_|refine scopeK_r ?_)
          (refine sym_cd (by simp only [vkt,Nat.reduceEqDiff,Nat.reduceAdd,Nat.reduceMul,Nat.reduceSub,Nat.reduceLeDiff,reduceCtorEq,↓reduceIte,↓reduceDIte,Int.reduceToNat,Int.reduceLE,Int.reduceLT,Int.reduceEq,Int.reduceNeg,tbF28_28,xbF28_1,List.map_nil,List.length_nil];rfl) (fun h=>?_) (fun h=>?_) <;> (try simp only [vki,reduceCtorEq] at h))
          · have hna:n≤A:=by omega
            have hgl:=gN_ge1 p2 (fun a=>(fl a).1)
            have hgu:=gN_le p2 (fun a=>(fl a).2)
            have u1:IntKind.wrap .i64 ((n:Int) - (p:Int))=((n - p:Nat):Int):=by rw [wrap64 (by omega) (by omega)];omega
            have v3:List.take 1 (List.drop (m * 1) (tabC (tbH ps A m 2) (ps.length+1)))=[.row 2]:=by rw [tabC_rd (by omega),tbH,if_pos rfl]
            have r2:=rowR_len (mixF p f n) A
            have k1:((rowR (mixF p f n) A).map eInt).getD (n - p) []=[.v (.int .i64 (gN p f (n - p)))]:=by rw [gI0 (by omega),rowR_get (by omega),mixF,if_pos (by omega)];rfl
            have k2:((rowR (mixF p f n) A).map eInt).getD n []=[.v (.int .i64 (f n))]:=by rw [gI0 (by omega),rowR_get (by omega),mixF,if_neg (by omega)];rfl
            have g1:=hgl (n - p)
            have g2:=hgu (n - p)
            have u2:IntKind.wrap .i64 (gN p f (n - p)+1)=gN p f (n - p)+1:=wrap64 (by omega) (by omega)
            have u3:IntKind.wrap .i64 ((n:Int)+1)=((n+1:Nat):Int):=by rw [wrap64 (by omega) (by omega)];rfl
            have gn:=gN_ge (f:=f) p2 hn
            unfold updN at gn
            have stay:¬ (0≤gN p f (n - p)∧(f n < 0∨gN p f (n - p)+1 < f n))→rowR (mixF p f n) A=rowR (mixF p f (n+1)) A:=fun h=>mix_same (by rw [gn,if_neg h])
            have move:(0≤gN p f (n - p)∧(f n < 0∨gN p f (n - p)+1 < f n))→(rowR (mixF p f n) A).set n (gN p f (n - p)+1)=rowR (mixF p f (n+1)) A:=fun h=>mix_set (by rw [gn,if_pos h])
            by_cases c1:0≤gN p f (n - p)
            · by_cases c2:f n < 0
              · have mv:=move ⟨c1,.inl c2⟩
                repeat' (first|(apply nx;with_reducible constructor)|refine jq (by decide) ?_|refine sym_scope ?_|refine scopeK_n ?_|refine scopeK_x ?_|refine scopeK_r ?_|((first|refine kx env fun Q hQ=>?_|refine kz fun Q hQ=>?_);simp only [vkt,Nat.reduceEqDiff,Nat.reduceAdd,Nat.reduceMul,Nat.reduceSub,Nat.reduceLeDiff,reduceCtorEq,↓reduceIte,↓reduceDIte,Int.reduceToNat,Int.reduceLE,Int.reduceLT,Int.reduceEq,Int.reduceNeg,tbF28_28,xbF28_1,List.map_nil,List.length_nil,u1,u2,u3,v3,k1,k2,r2,c1,c2,hp,mv];(try simp only [ite_and]);(repeat' (first|with_reducible assumption|refine And.intro ?_ ?_|intro hp));all_goals (first|(refine hQ _ ?_;clear hQ Q)|(refine hQ _ (fun h=>?_) (fun h=>?_) <;> clear hQ Q <;> (try simp only [vki,reduceCtorEq] at h))|omega|assumption|with_reducible rfl|(refine kq ?_;kernel_rfl)|skip)))
                refine ⟨⟨n+1,by omega⟩,by show A+1 - (n+1) < A+1 - n;omega, ?_⟩
                (refine Le.ok some [] ?_;constructor;all_goals (try simp only [vle,vkt,Nat.reduceEqDiff,Nat.reduceAdd,Nat.reduceMul,Nat.reduceSub,Nat.reduceLeDiff,reduceCtorEq,↓reduceIte,↓reduceDIte,Int.reduceToNat,Int.reduceLE,Int.reduceLT,Int.reduceEq,Int.reduceNeg,tbF28_28,xbF28_1,List.map_nil,List.length_nil]))
                all_goals first|rfl|(simp [upd];done)|exact tbH_le rfl|exact ⟨tbH_le rfl,by rw [hf]⟩|exact ⟨by decide,tbH_ids (by decide)⟩
              · by_cases c3:gN p f (n - p)+1 < f n
                · have mv:=move ⟨c1,.inr c3⟩
                  repeat' (first|(apply nx;with_reducible constructor)|refine jq (by decide) ?_|refine sym_scope ?_|refine scopeK_n ?_|refine scopeK_x ?_|refine scopeK_r ?_|((first|refine kx env fun Q hQ=>?_|refine kz fun Q hQ=>?_);simp only [vkt,Nat.reduceEqDiff,Nat.reduceAdd,Nat.reduceMul,Nat.reduceSub,Nat.reduceLeDiff,reduceCtorEq,↓reduceIte,↓reduceDIte,Int.reduceToNat,Int.reduceLE,Int.reduceLT,Int.reduceEq,Int.reduceNeg,tbF28_28,xbF28_1,List.map_nil,List.length_nil,u1,u2,u3,v3,k1,k2,r2,c1,c2,c3,hp,mv];(try simp only [ite_and]);(repeat' (first|with_reducible assumption|refine And.intro ?_ ?_|intro hp));all_goals (first|(refine hQ _ ?_;clear hQ Q)|(refine hQ _ (fun h=>?_) (fun h=>?_) <;> clear hQ Q <;> (try simp only [vki,reduceCtorEq] at h))|omega|assumption|with_reducible rfl|(refine kq ?_;kernel_rfl)|skip)))
                  refine ⟨⟨n+1,by omega⟩,by show A+1 - (n+1) < A+1 - n;omega, ?_⟩
                  (refine Le.ok some [] ?_;constructor;all_goals (try simp only [vle,vkt,Nat.reduceEqDiff,Nat.reduceAdd,Nat.reduceMul,Nat.reduceSub,Nat.reduceLeDiff,reduceCtorEq,↓reduceIte,↓reduceDIte,Int.reduceToNat,Int.reduceLE,Int.reduceLT,Int.reduceEq,Int.reduceNeg,tbF28_28,xbF28_1,List.map_nil,List.length_nil]))
                  all_goals first|rfl|(simp [upd];done)|exact tbH_le rfl|exact ⟨tbH_le rfl,by rw [hf]⟩|exact ⟨by decide,tbH_ids (by decide)⟩
                · have st:=stay fun h=>by omega
                  repeat' (first|(apply nx;with_reducible constructor)|refine jq (by decide) ?_|refine sym_scope ?_|refine scopeK_n ?_|refine scopeK_x ?_|refine scopeK_r ?_|((first|refine kx env fun Q hQ=>?_|refine kz fun Q hQ=>?_);simp only [vkt,Nat.reduceEqDiff,Nat.reduceAdd,Nat.reduceMul,Nat.reduceSub,Nat.reduceLeDiff,reduceCtorEq,↓reduceIte,↓reduceDIte,Int.reduceToNat,Int.reduceLE,Int.reduceLT,Int.reduceEq,Int.reduceNeg,tbF28_28,xbF28_1,List.map_nil,List.length_nil,u1,u2,u3,v3,k1,k2,r2,c1,c2,c3,hp];(try simp only [ite_and]);(repeat' (first|with_reducible assumption|refine And.intro ?_ ?_|intro hp));all_goals (first|(refine hQ _ ?_;clear hQ Q)|(refine hQ _ (fun h=>?_) (fun h=>?_) <;> clear hQ Q <;> (try simp only [vki,reduceCtorEq] at h))|omega|assumption|with_reducible rfl|(refine kq ?_;kernel_rfl)|skip)))
                  refine ⟨⟨n+1,by omega⟩,by show A+1 - (n+1) < A+1 - n;omega, ?_⟩
                  (refine Le.ok some [] ?_;constructor;all_goals (try simp only [vle,vkt,Nat.reduceEqDiff,Nat.reduceAdd,Nat.reduceMul,Nat.reduceSub,Nat.reduceLeDiff,reduceCtorEq,↓reduceIte,↓reduceDIte,Int.reduceToNat,Int.reduceLE,Int.reduceLT,Int.reduceEq,Int.reduceNeg,tbF28_28,xbF28_1,List.map_nil,List.length_nil]))
                  all_goals first|rfl|(simp [upd];done)|exact ⟨tbH_le rfl,by rw [st]⟩|exact ⟨tbH_le rfl,by rw [hf,st]⟩|exact ⟨by decide,tbH_ids (by decide)⟩
            · have st:=stay fun h=>by omega
              repeat' (first|(apply nx;with_reducible constructor)|refine jq (by decide) ?_|refine sym_scope ?_|refine scopeK_n ?_|refine scopeK_x ?_|refine scopeK_r ?_|((first|refine kx env fun Q hQ=>?_|refine kz fun Q hQ=>?_);simp only [vkt,Nat.reduceEqDiff,Nat.reduceAdd,Nat.reduceMul,Nat.reduceSub,Nat.reduceLeDiff,reduceCtorEq,↓reduceIte,↓reduceDIte,Int.reduceToNat,Int.reduceLE,Int.reduceLT,Int.reduceEq,Int.reduceNeg,tbF28_28,xbF28_1,List.map_nil,List.length_nil,u1,u2,u3,v3,k1,k2,r2,c1,hp];(try simp only [ite_and]);(repeat' (first|with_reducible assumption|refine And.intro ?_ ?_|intro hp));all_goals (first|(refine hQ _ ?_;clear hQ Q)|(refine hQ _ (fun h=>?_) (fun h=>?_) <;> clear hQ Q <;> (try simp only [vki,reduceCtorEq] at h))|omega|assumption|with_reducible rfl|(refine kq ?_;kernel_rfl)|skip)))
              refine ⟨⟨n+1,by omega⟩,by show A+1 - (n+1) < A+1 - n;omega, ?_⟩
              (refine Le.ok some [] ?_;constructor;all_goals (try simp only [vle,vkt,Nat.reduceEqDiff,Nat.reduceAdd,Nat.reduceMul,Nat.reduceSub,Nat.reduceLeDiff,reduceCtorEq,↓reduceIte,↓reduceDIte,Int.reduceToNat,Int.reduceLE,Int.reduceLT,Int.reduceEq,Int.reduceNeg,tbF28_28,xbF28_1,List.map_nil,List.length_nil]))
              all_goals first|rfl|(simp [upd];done)|exact ⟨tbH_le rfl,by rw [st]⟩|exact ⟨tbH_le rfl,by rw [hf,st]⟩|exact ⟨by decide,tbH_ids (by decide)⟩
          · have he:rowR (mixF p f n) A=rowR (needN (ps.drop m)) A:=by rw [mix_end (by omega)];exact rowR_congr fun a _=>(nm a).symm
            have u1:IntKind.wrap .i64 ((m:Int) - 1)=(m:Int) - 1:=wrap64 (by omega) (by omega)
            repeat' (first|(apply nx;with_reducible constructor)|refine jq (by decide) ?_|refine sym_scope ?_|refine scopeK_n ?_|refine scopeK_x ?_|refine scopeK_r ?_|((first|refine kx env fun Q hQ=>?_|refine kz fun Q hQ=>?_);simp only [vkt,Nat.reduceEqDiff,Nat.reduceAdd,Nat.reduceMul,Nat.reduceSub,Nat.reduceLeDiff,reduceCtorEq,↓reduceIte,↓reduceDIte,Int.reduceToNat,Int.reduceLE,Int.reduceLT,Int.reduceEq,Int.reduceNeg,tbF28_28,xbF28_1,List.map_nil,List.length_nil,he,u1];(try simp only [ite_and]);(repeat' (first|with_reducible assumption|refine And.intro ?_ ?_|intro hp));all_goals (first|(refine hQ _ ?_;clear hQ Q)|(refine hQ _ (fun h=>?_) (fun h=>?_) <;> clear hQ Q <;> (try simp only [vki,reduceCtorEq] at h))|omega|assumption|with_reducible rfl|(refine kq ?_;kernel_rfl)|skip)))
            refine ⟨⟨m,by omega⟩,by show m < m+1;omega, ?_⟩
            (refine Le.ok some [2] ?_;constructor;all_goals (try simp only [vle,vkt,Nat.reduceEqDiff,Nat.reduceAdd,Nat.reduceMul,Nat.reduceSub,Nat.reduceLeDiff,reduceCtorEq,↓reduceIte,↓reduceDIte,Int.reduceToNat,Int.reduceLE,Int.reduceLT,Int.reduceEq,Int.reduceNeg,tbF28_28,xbF28_1,List.map_nil,List.length_nil]))
            all_goals first|rfl|(simp [upd];done)|exact tbF_le rfl|exact tbG_ids|exact ⟨by decide,tbG_ids⟩
      · have:i=0:=by omega
        subst this
        have h00:0≤needN ps A:=need_one hge hps.one hps.l.1 A
        repeat' (first|(apply nx;with_reducible constructor)|refine jq (by decide) ?_|refine sym_scope ?_|refine scopeK_n ?_|refine scopeK_x ?_|refine scopeK_r ?_|((first|refine kx env fun Q hQ=>?_|refine kz fun Q hQ=>?_);simp only [vkt,Nat.reduceEqDiff,Nat.reduceAdd,Nat.reduceMul,Nat.reduceSub,Nat.reduceLeDiff,reduceCtorEq,↓reduceIte,↓reduceDIte,Int.reduceToNat,Int.reduceLE,Int.reduceLT,Int.reduceEq,Int.reduceNeg,tbF28_28,xbF28_1,List.map_nil,List.length_nil];(try simp only [ite_and]);(repeat' (first|with_reducible assumption|refine And.intro ?_ ?_|intro hp));all_goals (first|(refine hQ _ ?_;clear hQ Q)|(refine hQ _ (fun h=>?_) (fun h=>?_) <;> clear hQ Q <;> (try simp only [vki,reduceCtorEq] at h))|omega|assumption|with_reducible rfl|(refine kq ?_;kernel_rfl)|skip)))
        refine sym_loop (fun i:{ i:Nat // i≤ps.length }=>peS3 l c ps A i.1) (fun i=>ps.length - i.1) ⟨0,Nat.zero_le _⟩ ?_ fun ⟨i,hi⟩=>?_
        · (refine Le.ok (fun j=>if j=2 then none else some j) [] ?_;constructor;all_goals (try simp only [vle,vkt,Nat.reduceEqDiff,Nat.reduceAdd,Nat.reduceMul,Nat.reduceSub,Nat.reduceLeDiff,reduceCtorEq,↓reduceIte,↓reduceDIte,Int.reduceToNat,Int.reduceLE,Int.reduceLT,Int.reduceEq,Int.reduceNeg,tbF28_28,xbF28_1,List.map_nil,List.length_nil]))
          all_goals first|rfl|(simp [upd];done)|exact tbG_le|exact ⟨tbG_le,rfl⟩|exact tbG_ids|exact ⟨by decide,tbG_ids⟩|exact ⟨rfl,rfl⟩
        · repeat' (first|(apply nx;with_reducible constructor)|refine jq (by decide) ?_|refine sym_scope ?_|refine scopeK_n ?_|refine scopeK_x ?_|refine scopeK_r ?_)
          (refine kx env fun Q hQ=>?_;simp only [vkt,Nat.reduceEqDiff,Nat.reduceAdd,Nat.reduceMul,Nat.reduceSub,Nat.reduceLeDiff,reduceCtorEq,↓reduceIte,↓reduceDIte,Int.reduceToNat,Int.reduceLE,Int.reduceLT,Int.reduceEq,Int.reduceNeg,tbF28_28,xbF28_1,List.map_nil,List.length_nil];(try simp only [ite_and]);(repeat' (first|with_reducible assumption|refine And.intro ?_ ?_|intro hp));all_goals (first|(refine hQ _ ?_;clear hQ Q)|omega|assumption|with_reducible rfl|(refine kq ?_;kernel_rfl)|skip))
          repeat' (first|(apply nx;with_reducible constructor)|refine jq (by decide) ?_|refine sym_scope ?_|refine scopeK_n ?_|refine scopeK_x ?_|refine scopeK_r ?_)
          (refine sym_cd (by simp only [vkt,Nat.reduceEqDiff,Nat.reduceAdd,Nat.reduceMul,Nat.reduceSub,Nat.reduceLeDiff,reduceCtorEq,↓reduceIte,↓reduceDIte,Int.reduceToNat,Int.reduceLE,Int.reduceLT,Int.reduceEq,Int.reduceNeg,tbF28_28,xbF28_1,List.map_nil,List.length_nil];rfl) (fun h=>?_) (fun h=>?_) <;> (try simp only [vki,reduceCtorEq] at h))
          · have lt1:i < ps.length:=by omega
            obtain ⟨p1,p2,p3⟩:=b3 i lt1
            obtain ⟨p,hp⟩:∃ p:Nat,ps.getD i 0=(p:Int):=⟨_,p1⟩
            rw [hp,Int.toNat_natCast] at p2 p3
            generalize hf:needN (ps.drop (i+1))=f at *
            obtain ⟨q1,q2⟩:=pc_inv hge h00 i hi
            have nm:=need_drop lt1 (pcA ps A i)
            rw [hp,Int.toNat_natCast,hf] at nm
            have fl:=nd (i+1)
            rw [hf] at fl
            have hM:pcM ps A i=countN p f (pcA ps A i):=by unfold pcM;rw [hp,Int.toNat_natCast,hf]
            have hN:pcA ps A (i+1)=pcA ps A i - countN p f (pcA ps A i) * p:=by rw [pcA,hp,Int.toNat_natCast,hf]
            have hS:=pcL_succ ps A i
            rw [hM] at hS
            have hLn:=pcL_len ps A i
            generalize hq:pcA ps A i=a at *
            rw [nm] at q1
            have hsp:=countN_spec p2 q1
            unfold hitN at hsp
            simp only [Bool.and_eq_true,decide_eq_true_eq] at hsp
            repeat' (first|(apply nx;with_reducible constructor)|refine jq (by decide) ?_|refine sym_scope ?_|refine scopeK_n ?_|refine scopeK_x ?_|refine scopeK_r ?_|((first|refine kx env fun Q hQ=>?_|refine kz fun Q hQ=>?_);simp only [vkt,Nat.reduceEqDiff,Nat.reduceAdd,Nat.reduceMul,Nat.reduceSub,Nat.reduceLeDiff,reduceCtorEq,↓reduceIte,↓reduceDIte,Int.reduceToNat,Int.reduceLE,Int.reduceLT,Int.reduceEq,Int.reduceNeg,tbF28_28,xbF28_1,List.map_nil,List.length_nil];(try simp only [ite_and]);(repeat' (first|with_reducible assumption|refine And.intro ?_ ?_|intro hp));all_goals (first|(refine hQ _ ?_;clear hQ Q)|(refine hQ _ (fun h=>?_) (fun h=>?_) <;> clear hQ Q <;> (try simp only [vki,reduceCtorEq] at h))|omega|assumption|with_reducible rfl|(refine kq ?_;kernel_rfl)|skip)))
            refine sym_loop (fun m:{ m:Nat // m≤countN p f a∧∀ j,j < m→hitN p f a j=false }=>peS4 l c ps A i m.1) (fun m=>countN p f a - m.1) ⟨0,Nat.zero_le _,fun j h=>absurd h (Nat.not_lt_zero _)⟩ ?_ fun ⟨m,hm,hno⟩=>?_
            · (refine Le.ok some [] ?_;constructor;all_goals (try simp only [vle,vkt,Nat.reduceEqDiff,Nat.reduceAdd,Nat.reduceMul,Nat.reduceSub,Nat.reduceLeDiff,reduceCtorEq,↓reduceIte,↓reduceDIte,Int.reduceToNat,Int.reduceLE,Int.reduceLT,Int.reduceEq,Int.reduceNeg,tbF28_28,xbF28_1,List.map_nil,List.length_nil]))
              all_goals first|rfl|(simp [upd,hq];done)|exact tbG_le|exact ⟨tbG_le,rfl⟩|exact tbG_ids|exact ⟨by decide,tbG_ids⟩|exact ⟨rfl,rfl⟩
            · have hmp:m * p≤countN p f a * p:=Nat.mul_le_mul_right p hm
              have hmm:m≤m * p:=Nat.le_mul_of_pos_right m p2
              have u1:IntKind.wrap .i64 ((m:Int) * (p:Int))=((m * p:Nat):Int):=by rw [← Int.natCast_mul,wrap64 (by omega) (by omega)]
              have u2:IntKind.wrap .i64 ((a:Int) - ((m * p:Nat):Int))=((a - m * p:Nat):Int):=by rw [wrap64 (by omega) (by omega)];omega
              have u3:IntKind.wrap .i64 ((i:Int)+1)=((i+1:Nat):Int):=by rw [wrap64 (by omega) (by omega)];rfl
              have v1:List.take 1 (List.drop ((i+1) * 1) (tabC (tbG ps A 0) (ps.length+1)))=[.sl ((rowR f A).map eInt)]:=by rw [tabC_rd (by omega),tbG,if_neg (by omega),hf]
              have v2:List.take 1 (List.drop (i * 1) (tabC (tbG ps A 0) (ps.length+1)))=[.sl ((rowR (needN (ps.drop i)) A).map eInt)]:=by rw [tabC_rd (by omega),tbG,if_neg (by omega)]
              have r1:=rowR_len f A
              have r2:=rowR_len (needN (ps.drop i)) A
              have k1:(rowR f A).getD (a - m * p) 0=f (a - m * p):=rowR_get (by omega)
              have k2:(rowR (needN (ps.drop i)) A).getD a 0=gN p f a:=by rw [rowR_get (by omega),nm]
              have g1:=fl (a - m * p)
              have u4:IntKind.wrap .i64 (f (a - m * p)+(m:Int))=f (a - m * p)+(m:Int):=wrap64 (by omega) (by omega)
              have u5:IntKind.wrap .i64 ((m:Int)+1)=((m+1:Nat):Int):=by rw [wrap64 (by omega) (by omega)];rfl
              have cap:(i+1) * 8≤140737488355328∧i+1≤maxLen:=by omega
              have la:a≤A:=q2
              unfold peS4
              rw [hq,hp]
              cases hh:hitN p f a m
              · have hlt:m < countN p f a:=by
                  rcases Nat.lt_or_eq_of_le hm with h|h
                  · exact h
                  · have:=countN_spec p2 q1;rw [← h,hh] at this;cases this
                have hn:¬ (0≤f (a - m * p)∧f (a - m * p)+(m:Int)=gN p f a):=fun h=>by
                  have:hitN p f a m=true:=by unfold hitN;simp only [Bool.and_eq_true,decide_eq_true_eq];exact ⟨⟨by omega,h.1⟩,h.2⟩
                  rw [hh] at this;cases this
                by_cases c1:0≤f (a - m * p)
                · have c2:¬ f (a - m * p)+(m:Int)=gN p f a:=fun h=>hn ⟨c1,h⟩
                  repeat' (first|(apply nx;with_reducible constructor)|refine jq (by decide) ?_|refine sym_scope ?_|refine scopeK_n ?_|refine scopeK_x ?_|refine scopeK_r ?_|((first|refine kx env fun Q hQ=>?_|refine kz fun Q hQ=>?_);simp only [vkt,Nat.reduceEqDiff,Nat.reduceAdd,Nat.reduceMul,Nat.reduceSub,Nat.reduceLeDiff,reduceCtorEq,↓reduceIte,↓reduceDIte,Int.reduceToNat,Int.reduceLE,Int.reduceLT,Int.reduceEq,Int.reduceNeg,tbF28_28,xbF28_1,List.map_nil,List.length_nil,u1,u2,u3,u4,u5,v1,v2,k1,k2,r1,r2,c1,c2];(try simp only [ite_and]);(repeat' (first|with_reducible assumption|refine And.intro ?_ ?_|intro hp));all_goals (first|(refine hQ _ ?_;clear hQ Q)|(refine hQ _ (fun h=>?_) (fun h=>?_) <;> clear hQ Q <;> (try simp only [vki,reduceCtorEq] at h))|omega|assumption|with_reducible rfl|(refine kq ?_;kernel_rfl)|skip)))
                  refine ⟨⟨m+1,hlt,fun j hj=>?_⟩,by show countN p f a - (m+1) < countN p f a - m;omega, ?_⟩
                  · rcases Nat.lt_or_eq_of_le (Nat.le_of_lt_succ hj) with h1|h1
                    · exact hno j h1
                    · rw [h1];exact hh
                  · (refine Le.ok some [] ?_;constructor;all_goals (try simp only [vle,vkt,Nat.reduceEqDiff,Nat.reduceAdd,Nat.reduceMul,Nat.reduceSub,Nat.reduceLeDiff,reduceCtorEq,↓reduceIte,↓reduceDIte,Int.reduceToNat,Int.reduceLE,Int.reduceLT,Int.reduceEq,Int.reduceNeg,tbF28_28,xbF28_1,List.map_nil,List.length_nil]))
                    all_goals first|rfl|(simp [upd,hq];done)|exact tbG_le|exact ⟨tbG_le,rfl⟩|exact tbG_ids|exact ⟨by decide,tbG_ids⟩|exact ⟨hq.symm ▸ rfl,hp.symm ▸ rfl⟩|(simp [upd,hq,hp];done)
                · repeat' (first|(apply nx;with_reducible constructor)|refine jq (by decide) ?_|refine sym_scope ?_|refine scopeK_n ?_|refine scopeK_x ?_|refine scopeK_r ?_|((first|refine kx env fun Q hQ=>?_|refine kz fun Q hQ=>?_);simp only [vkt,Nat.reduceEqDiff,Nat.reduceAdd,Nat.reduceMul,Nat.reduceSub,Nat.reduceLeDiff,reduceCtorEq,↓reduceIte,↓reduceDIte,Int.reduceToNat,Int.reduceLE,Int.reduceLT,Int.reduceEq,Int.reduceNeg,tbF28_28,xbF28_1,List.map_nil,List.length_nil,u1,u2,u3,u4,u5,v1,v2,k1,k2,r1,r2,c1];(try simp only [ite_and]);(repeat' (first|with_reducible assumption|refine And.intro ?_ ?_|intro hp));all_goals (first|(refine hQ _ ?_;clear hQ Q)|(refine hQ _ (fun h=>?_) (fun h=>?_) <;> clear hQ Q <;> (try simp only [vki,reduceCtorEq] at h))|omega|assumption|with_reducible rfl|(refine kq ?_;kernel_rfl)|skip)))
                  refine ⟨⟨m+1,hlt,fun j hj=>?_⟩,by show countN p f a - (m+1) < countN p f a - m;omega, ?_⟩
                  · rcases Nat.lt_or_eq_of_le (Nat.le_of_lt_succ hj) with h1|h1
                    · exact hno j h1
                    · rw [h1];exact hh
                  · (refine Le.ok some [] ?_;constructor;all_goals (try simp only [vle,vkt,Nat.reduceEqDiff,Nat.reduceAdd,Nat.reduceMul,Nat.reduceSub,Nat.reduceLeDiff,reduceCtorEq,↓reduceIte,↓reduceDIte,Int.reduceToNat,Int.reduceLE,Int.reduceLT,Int.reduceEq,Int.reduceNeg,tbF28_28,xbF28_1,List.map_nil,List.length_nil]))
                    all_goals first|rfl|(simp [upd,hq];done)|exact tbG_le|exact ⟨tbG_le,rfl⟩|exact tbG_ids|exact ⟨by decide,tbG_ids⟩|exact ⟨hq.symm ▸ rfl,hp.symm ▸ rfl⟩|(simp [upd,hq,hp];done)
              · have hc:=countN_hit p2 hh hno
                have hh':=hh
                unfold hitN at hh'
                simp only [Bool.and_eq_true,decide_eq_true_eq] at hh'
                have c1:=hh'.1.2
                have c2:=hh'.2
                have ap:(pcL ps A i).map eInt++[[.v (.int .i64 (m:Int))]]=(pcL ps A (i+1)).map eInt:=by rw [hS,hc,List.map_append];rfl
                rw [hc] at hN
                have u6:IntKind.wrap .i64 (gN p f a)=gN p f a:=by rw [← c2];exact u4
                repeat' (first|(apply nx;with_reducible constructor)|refine jq (by decide) ?_|refine sym_scope ?_|refine scopeK_n ?_|refine scopeK_x ?_|refine scopeK_r ?_|((first|refine kx env fun Q hQ=>?_|refine kz fun Q hQ=>?_);simp only [vkt,Nat.reduceEqDiff,Nat.reduceAdd,Nat.reduceMul,Nat.reduceSub,Nat.reduceLeDiff,reduceCtorEq,↓reduceIte,↓reduceDIte,Int.reduceToNat,Int.reduceLE,Int.reduceLT,Int.reduceEq,Int.reduceNeg,tbF28_28,xbF28_1,List.map_nil,List.length_nil,u1,u2,u3,u4,u5,u6,v1,v2,k1,k2,r1,r2,c1,c2,ap,hLn];(try simp only [ite_and]);(repeat' (first|with_reducible assumption|refine And.intro ?_ ?_|intro hp));all_goals (first|(refine hQ _ ?_;clear hQ Q)|(refine hQ _ (fun h=>?_) (fun h=>?_) <;> clear hQ Q <;> (try simp only [vki,reduceCtorEq] at h))|omega|assumption|with_reducible rfl|(refine kq ?_;kernel_rfl)|skip)))
                refine ⟨⟨i+1,lt1⟩,by show ps.length - (i+1) < ps.length - i;omega, ?_⟩
                (refine Le.ok (fun j=>if j=2 then some 4 else some j) [] ?_;constructor;all_goals (try simp only [vle,vkt,Nat.reduceEqDiff,Nat.reduceAdd,Nat.reduceMul,Nat.reduceSub,Nat.reduceLeDiff,reduceCtorEq,↓reduceIte,↓reduceDIte,Int.reduceToNat,Int.reduceLE,Int.reduceLT,Int.reduceEq,Int.reduceNeg,tbF28_28,xbF28_1,List.map_nil,List.length_nil]))
                all_goals first|rfl|(simp [upd,hN];done)|exact tbG_le|exact ⟨tbG_le,rfl⟩|exact tbG_ids|exact ⟨by decide,tbG_ids⟩|exact ⟨rfl,rfl⟩|(simp [upd,hN,u3];done)
          · have:i=ps.length:=by omega
            subst this
            repeat' (first|(apply nx;with_reducible constructor)|refine jq (by decide) ?_|refine sym_scope ?_|refine scopeK_n ?_|refine scopeK_x ?_|refine scopeK_r ?_|((first|refine kx env fun Q hQ=>?_|refine kz fun Q hQ=>?_);simp only [vkt,Nat.reduceEqDiff,Nat.reduceAdd,Nat.reduceMul,Nat.reduceSub,Nat.reduceLeDiff,reduceCtorEq,↓reduceIte,↓reduceDIte,Int.reduceToNat,Int.reduceLE,Int.reduceLT,Int.reduceEq,Int.reduceNeg,tbF28_28,xbF28_1,List.map_nil,List.length_nil];(try simp only [ite_and]);(repeat' (first|with_reducible assumption|refine And.intro ?_ ?_|intro hp));all_goals (first|(refine hQ _ ?_;clear hQ Q)|(refine hQ _ (fun h=>?_) (fun h=>?_) <;> clear hQ Q <;> (try simp only [vki,reduceCtorEq] at h))|omega|assumption|with_reducible rfl|(refine kq ?_;kernel_rfl)|skip)))
            (simp only [vrt,Try.results28,rowEx3,vkt,Nat.reduceEqDiff,Nat.reduceAdd,Nat.reduceMul,Nat.reduceSub,Nat.reduceLeDiff,reduceCtorEq,↓reduceIte,↓reduceDIte,Int.reduceToNat,Int.reduceLE,Int.reduceLT,Int.reduceEq,Int.reduceNeg,tbF28_28,xbF28_1,List.map_nil,List.length_nil];refine Fin.val rfl ?_;(try simp only [AV.le,AV.leL]))
            all_goals first|exact ⟨⟨_,_,rfl⟩,trivial,trivial⟩|(simp [piL,aInts];done)
  · rw [show aPieces l c n=_ from if_pos h0]
    repeat' (first|(apply nx;with_reducible constructor)|refine jq (by decide) ?_|refine sym_scope ?_|refine scopeK_n ?_|refine scopeK_x ?_|refine scopeK_r ?_|((first|refine kx env fun Q hQ=>?_|refine kz fun Q hQ=>?_);simp only [vkt,Nat.reduceEqDiff,Nat.reduceAdd,Nat.reduceMul,Nat.reduceSub,Nat.reduceLeDiff,reduceCtorEq,↓reduceIte,↓reduceDIte,Int.reduceToNat,Int.reduceLE,Int.reduceLT,Int.reduceEq,Int.reduceNeg,tbF28_28,xbF28_1,List.map_nil,List.length_nil,h0];(try simp only [ite_and]);(repeat' (first|with_reducible assumption|refine And.intro ?_ ?_|intro hp));all_goals (first|(refine hQ _ ?_;clear hQ Q)|(refine hQ _ (fun h=>?_) (fun h=>?_) <;> clear hQ Q <;> (try simp only [vki,reduceCtorEq] at h))|omega|assumption|with_reducible rfl|(refine kq ?_;kernel_rfl)|skip)))
    (simp only [vrt,Try.results28,vkt,Nat.reduceEqDiff,Nat.reduceAdd,Nat.reduceMul,Nat.reduceSub,Nat.reduceLeDiff,reduceCtorEq,↓reduceIte,↓reduceDIte,Int.reduceToNat,Int.reduceLE,Int.reduceLT,Int.reduceEq,Int.reduceNeg,tbF28_28,xbF28_1,List.map_nil,List.length_nil];refine Fin.val rfl ?_;(try simp only [AV.le,AV.leL]))
    all_goals simp
def c28:List AV→Prop × AV
  |[.agg [.sl cs,.sl rs,.sl ss,.sl es],.v (.int .i64 c),.v (.int .i64 n)]=>(isL cs rs ss es∧Fit (ldOf cs rs ss es),aPieces (ldOf cs rs ss es) c n)
  |_=>(False,.junk)
theorem d28 {A:Frm→Prop}:EntryOK A Try.prog 28 (valE false c28):=valE_ok fun vs hv h=>by
  clear hv
  unfold c28 at h ⊢
  split at h
  · refine ⟨by unfold aPieces;split <;> simp [AV.plain,AV.plainL,aI,aInts],fun h=>absurd h (by decide), ?_⟩
    rw [← aLed_of h.1];exact pieces_fn _ _ _ h.2
  · exact h.elim
end Go.Sym.B
namespace Go.Sym.B
open Go Go.Sym Go.Proofs Go.Sym.C
def restQ (a:Int) (ps:List Int) (s:Int) (i:Int):Int:=(a * ps.getD i.toNat 0).tmod s
def cmpQ (a:Int) (ps:List Int) (s:Int) (x y:Int):Int:=restQ a ps s y - restQ a ps s x
structure DvOk (a:Int) (ps:List Int) (s:Int):Prop where
  a:0≤a∧a≤999
  p:∀ p ∈ ps,0≤p∧p≤9
  s:0 < s∧s≤1000
def dvH (a:Int) (ps:List Int) (s:Int):List (Nat × AObj):=[(0,.cells [aI a]),(1,.cells [.sl (ps.map eInt)]),(2,.cells [aI s])]
theorem dv_bd {a:Int} {ps:List Int} {s:Int} (h:DvOk a ps s) {i:Int} (hi:i.toNat < ps.length):0≤a * ps.getD i.toNat 0∧a * ps.getD i.toNat 0≤8991∧0≤restQ a ps s i∧restQ a ps s i < s:=by
  have hp:=h.p _ (gMem (d:=0) hi)
  have ha:=h.a
  have hs:=h.s
  have h0:0≤a * ps.getD i.toNat 0:=Int.mul_nonneg ha.1 hp.1
  have h1:a * ps.getD i.toNat 0≤999 * 9:=Int.mul_le_mul ha.2 hp.2 hp.1 (by decide)
  refine ⟨h0,by omega, ?_⟩
  unfold restQ
  rw [Int.tmod_eq_emod_of_nonneg h0]
  exact ⟨Int.emod_nonneg _ (by omega),Int.emod_lt_of_pos _ hs.1⟩
def tbF23_81:=kj @ty3 (kj @ty22 (kj @ti3.eq_1 @ti22.eq_1))
def xbF23_1:=kj @aI.eq_1 (kj @aB.eq_1 (kj @eInt.eq_1 (kj @gInt (@dvH.eq_1))))
theorem cmp_fn (a:Int) (ps:List Int) (s:Int) (h:DvOk a ps s) (x y:Int) (hx:0≤x∧x.toNat < ps.length) (hy:0≤y∧y.toNat < ps.length):Fn noB Try.prog 81 [aI x,aI y,.ptr 0 0,.ptr 1 0,.ptr 2 0] (hasg (dvH a ps s)) (aI (cmpQ a ps s x y)) (hasg (dvH a ps s)) 0:=by
  have env:Env (fun _=>True) Try.prog tyB (tab []):=mkEnv trivial
  refine Fn.of (A:=fun _=>True) (n0:=3) (D:=noD) (Fn0 Try.func81 rfl (fun vs w=>by kernel_rfl) (by kernel_rfl)) (by simp) (by simp [AV.ids,aI]) ?_ (fun _ _ _ _=>trivial) noD_ok ?_
  · intro i o hi
    have h:=hasg_mem hi
    simp [dvH,aI] at h
    rcases h with ⟨rfl,rfl⟩|⟨rfl,rfl⟩|⟨rfl,rfl⟩ <;> simp [AObj.ids,AV.ids,AV.idsL]
  obtain ⟨b1,b2,b3,b4⟩:=dv_bd h hx.2
  obtain ⟨c1,c2,c3,c4⟩:=dv_bd h hy.2
  have hs:=h.s
  have w1:IntKind.wrap .i64 (a * ps.getD x.toNat 0)=a * ps.getD x.toNat 0:=wrap64 (by omega) (by omega)
  have w2:IntKind.wrap .i64 (a * ps.getD y.toNat 0)=a * ps.getD y.toNat 0:=wrap64 (by omega) (by omega)
  have w3:(a * ps.getD y.toNat 0).tmod s=restQ a ps s y:=rfl
  have w4:(a * ps.getD x.toNat 0).tmod s=restQ a ps s x:=rfl
  have w5:IntKind.wrap .i64 (restQ a ps s y - restQ a ps s x)=cmpQ a ps s x y:=wrap64 (by omega) (by omega)
  have s0:¬ s=0:=by omega
  repeat' (first|(apply nx;with_reducible constructor)|refine jq (by decide) ?_|((first|refine kx env fun Q hQ=>?_|refine kz fun Q hQ=>?_);simp only [vkt,seval,tbF23_81,xbF23_1,w1,w2,w3,w4,w5,s0];(try simp only [ite_and]);(repeat' (first|with_reducible assumption|refine And.intro ?_ ?_|intro hp));all_goals (first|(refine hQ _ ?_;clear hQ Q)|(refine hQ _ (fun h=>?_) (fun h=>?_) <;> clear hQ Q <;> (try simp only [vki,reduceCtorEq] at h))|omega|assumption|with_reducible rfl|(refine kq ?_;kernel_rfl)|skip)))
  (simp only [vrt,Try.results81,vkt,seval,tbF23_81,xbF23_1];refine Fin.ok some [] ?_ ?_ ?_ ?_ ?_ rfl;all_goals (try simp only [vle,vkt,seval,tbF23_81,xbF23_1]))
  all_goals simp
def p81 (S:St):List AV→Option Pk
  |[.v (.int .i64 x),.v (.int .i64 y),.ptr i 0,.ptr j 0,.ptr k 0]=>match S.h i,S.h j,S.h k with
    |some (.cells [.v (.int .i64 a)]),some (.cells [.sl ps]),some (.cells [.v (.int .i64 s)])=>some { pre:=ps=(ps.map dInt).map eInt∧DvOk a (ps.map dInt) s∧(0≤x∧x.toNat < ps.length)∧(0≤y∧y.toNat < ps.length),hs:=[i,j,k],ar:=[.v (.int .i64 x),.v (.int .i64 y),.ptr 0 0,.ptr 1 0,.ptr 2 0],L0:=[.cells [.v (.int .i64 a)],.cells [.sl ps],.cells [.v (.int .i64 s)]],v:=aI (cmpQ a (ps.map dInt) s x y),L1:=[some (.cells [.v (.int .i64 a)]),some (.cells [.sl ps]),some (.cells [.v (.int .i64 s)])] }
    |_,_,_=>none
  |_=>none
theorem e81 {A:Frm→Prop}:EntryOK A Try.prog 81 (fnE p81):=fnE_ok fun S bs q h hp=>by
  unfold p81 at h
  split at h
  · split at h
    · rename_i x y i j k _ _ _ a ps s _ _ _
      cases h
      have:=cmp_fn a (ps.map dInt) s hp.2.1 x y (by simpa using hp.2.2.1) (by simpa using hp.2.2.2)
      simp only [dvH,aI,← hp.1] at this
      exact this
    · cases h
  · cases h
def swapL (l:List Int) (j:Nat):List Int:=(l.set (j+1) (l.getD j 0)).set j (l.getD (j+1) 0)
def bub (c:Int→Int→Int):List Int→Nat→List Int
  |l,0=>l
  |l,j+1=>if c (l.getD (j+1) 0) (l.getD j 0) < 0 then bub c (swapL l j) j else l
def isortK (c:Int→Int→Int) (l:List Int):Nat→List Int
  |0=>l
  |k+1=>bub c (isortK c l k) (k+1)
def isort (c:Int→Int→Int) (l:List Int):List Int:=isortK c l (l.length - 1)
theorem swapL_len (l:List Int) (j:Nat):(swapL l j).length=l.length:=by simp [swapL]
theorem swapL_mem {l:List Int} {j:Nat} (h:j+1 < l.length) {P:Int→Prop} (hp:∀ x ∈ l,P x):∀ x ∈ swapL l j,P x:=fun x hx=>by
  unfold swapL at hx
  rcases List.mem_or_eq_of_mem_set hx with hx|rfl
  · rcases List.mem_or_eq_of_mem_set hx with hx|rfl
    · exact hp x hx
    · exact hp _ (gMem (by omega))
  · exact hp _ (gMem h)
theorem bub_all {c:Int→Int→Int} {P:Int→Prop}:∀ (j:Nat) (l:List Int),j < l.length→(∀ x ∈ l,P x)→(bub c l j).length=l.length∧∀ x ∈ bub c l j,P x
  |0,l,_,h=>⟨rfl,h⟩
  |j+1,l,hj,h=>by
    rw [bub]
    split
    · obtain ⟨h1,h2⟩:=bub_all (c:=c) j (swapL l j) (by rw [swapL_len];omega) (swapL_mem hj h)
      exact ⟨by rw [h1,swapL_len],h2⟩
    · exact ⟨rfl,h⟩
theorem isortK_all {c:Int→Int→Int} {P:Int→Prop} {l:List Int} (h:∀ x ∈ l,P x):∀ (k:Nat),k < l.length→(isortK c l k).length=l.length∧∀ x ∈ isortK c l k,P x
  |0,_=>⟨rfl,h⟩
  |k+1,hk=>by
    obtain ⟨h1,h2⟩:=isortK_all h k (by omega)
    obtain ⟨h3,h4⟩:=bub_all (c:=c) (k+1) _ (by rw [h1];omega) h2
    exact ⟨by rw [isortK,h3,h1],h4⟩
def soH (a:Int) (ps:List Int) (s:Int) (l:List Int):List (Nat × AObj):=dvH a ps s++[(3,.row 3 1 (l.map eInt))]
def soS1 (a:Int) (ps:List Int) (s:Int) (n i:Nat) (l:List Int):St:={ t:=asg [(0,.row 3),(1,aI 0),(2,aI n),(3,.clo 81 [.ptr 0 0,.ptr 1 0,.ptr 2 0]),(8,aI i)],h:=hasg (soH a ps s l),n:=4,m:=4 }
def soS2 (a:Int) (ps:List Int) (s:Int) (n i j:Nat) (l:List Int):St:={ t:=asg [(0,.row 3),(1,aI 0),(2,aI n),(3,.clo 81 [.ptr 0 0,.ptr 1 0,.ptr 2 0]),(8,aI i),(9,aI j)],h:=hasg (soH a ps s l),n:=4,m:=4 }
def InI (n:Nat) (x:Int):Prop:=0≤x∧x.toNat < n
def tbF23_147:=kj @ty3 (kj @ty22 (kj @ti3.eq_1 @ti22.eq_1))
def xbF23_2:=kj @aI.eq_1 (kj @aB.eq_1 (kj @eInt.eq_1 (kj @gInt (kj @mInt (kj @dvH.eq_1 (kj @soH.eq_1 (kj @soS1.eq_1 (kj @soS2.eq_1 (kj @p81.eq_1 (kj @p81.eq_2 (@setI)))))))))))
set_option maxHeartbeats 2000000 in
theorem isort_fn (a:Int) (ps:List Int) (s:Int) (h:DvOk a ps s) (l:List Int) (hn:1≤l.length∧l.length≤20) (hl:∀ x ∈ l,InI ps.length x):Fn noB Try.prog 147 [.row 3,aI 0,aI l.length,.clo 81 [.ptr 0 0,.ptr 1 0,.ptr 2 0]] (hasg (soH a ps s l)) (.tup []) (hasg (soH a ps s (isort (cmpQ a ps s) l))) 0:=by
  have env:Env (fun _=>True) Try.prog tyB (tab [(81,fnE p81)]):=mkEnv ⟨e81,trivial⟩
  refine Fn.of (A:=fun _=>True) (n0:=4) (D:=noD) (Fn0 Try.func147 rfl (fun vs w=>by kernel_rfl) (by kernel_rfl)) (by simp) (by simp [AV.ids,AV.idsL,aI]) ?_ (fun _ _ _ _=>trivial) noD_ok ?_
  · intro i o hi
    have h:=hasg_mem hi
    simp [soH,dvH,aI] at h
    rcases h with ⟨rfl,rfl⟩|⟨rfl,rfl⟩|⟨rfl,rfl⟩|⟨rfl,rfl⟩ <;> simp [AObj.ids,AV.ids,AV.idsL]
  generalize hN:l.length=n at *
  repeat' (first|(apply nx;with_reducible constructor)|refine jq (by decide) ?_|((first|refine kx env fun Q hQ=>?_|refine kz fun Q hQ=>?_);simp only [vkt,seval,tbF23_147,xbF23_2];(try simp only [ite_and]);(repeat' (first|with_reducible assumption|refine And.intro ?_ ?_|intro hp));all_goals (first|(refine hQ _ ?_;clear hQ Q)|(refine hQ _ (fun h=>?_) (fun h=>?_) <;> clear hQ Q <;> (try simp only [vki,reduceCtorEq] at h))|omega|assumption|with_reducible rfl|(refine kq ?_;kernel_rfl)|skip)))
  refine sym_loop (fun i:{ i:Nat // 1≤i∧i≤n }=>soS1 a ps s n i.1 (isortK (cmpQ a ps s) l (i.1 - 1))) (fun i=>n - i.1) ⟨1,Nat.le_refl _,hn.1⟩ ?_ fun ⟨i,hi1,hi2⟩=>?_
  · (refine Le.ok some [] ?_;constructor;all_goals (try simp only [vle,vkt,seval,tbF23_147,xbF23_2]))
    all_goals first|rfl|(simp [isortK];done)
  · obtain ⟨g1,g2⟩:=isortK_all (c:=cmpQ a ps s) hl (i - 1) (by omega)
    rw [hN] at g1
    generalize hQ0:isortK (cmpQ a ps s) l (i - 1)=q at *
    repeat' (first|(apply nx;with_reducible constructor)|refine jq (by decide) ?_)
    (refine kx env fun Q hQ=>?_;simp only [vkt,seval,tbF23_147,xbF23_2];(try simp only [ite_and]);(repeat' (first|with_reducible assumption|refine And.intro ?_ ?_|intro hp));all_goals (first|(refine hQ _ ?_;clear hQ Q)|omega|assumption|with_reducible rfl|(refine kq ?_;kernel_rfl)|skip))
    repeat' (first|(apply nx;with_reducible constructor)|refine jq (by decide) ?_)
    (refine sym_cd (by simp only [vkt,seval,tbF23_147,xbF23_2];rfl) (fun h=>?_) (fun h=>?_) <;> (try simp only [vki,reduceCtorEq] at h))
    · have hlt:i < n:=by omega
      have hnext:bub (cmpQ a ps s) q i=isortK (cmpQ a ps s) l (i+1 - 1):=by
        rw [← hQ0,show i+1 - 1=(i - 1)+1 by omega,isortK,show i - 1+1=i by omega]
      have e9:IntKind.wrap .i64 ((i:Int)+1)=((i+1:Nat):Int):=by rw [wrap64 (by omega) (by omega)];rfl
      repeat' (first|(apply nx;with_reducible constructor)|refine jq (by decide) ?_|((first|refine kx env fun Q hQ=>?_|refine kz fun Q hQ=>?_);simp only [vkt,seval,tbF23_147,xbF23_2];(try simp only [ite_and]);(repeat' (first|with_reducible assumption|refine And.intro ?_ ?_|intro hp));all_goals (first|(refine hQ _ ?_;clear hQ Q)|(refine hQ _ (fun h=>?_) (fun h=>?_) <;> clear hQ Q <;> (try simp only [vki,reduceCtorEq] at h))|omega|assumption|with_reducible rfl|(refine kq ?_;kernel_rfl)|skip)))
      refine sym_loop (fun p:{ p:Nat × List Int // p.1≤i∧p.2.length=n∧(∀ x ∈ p.2,InI ps.length x)∧bub (cmpQ a ps s) p.2 p.1=bub (cmpQ a ps s) q i }=>soS2 a ps s n i p.1.1 p.1.2) (fun p=>p.1.1) ⟨(i,q),Nat.le_refl _,g1,g2,rfl⟩ ?_ fun ⟨⟨j,m⟩,hj,hm,hr,hb⟩=>?_
      · (refine Le.ok some [] ?_;constructor;all_goals (try simp only [vle,vkt,seval,tbF23_147,xbF23_2]))
        all_goals first|rfl|(simp;done)
      · simp only at hj hm hr hb
        cases j with
        |zero =>
          have c0:¬ ((0:Nat):Int) > 0:=by omega
          have hm':isortK (cmpQ a ps s) l (i+1 - 1)=m:=by rw [← hnext,← hb];rfl
          repeat' (first|(apply nx;with_reducible constructor)|refine jq (by decide) ?_|((first|refine kx env fun Q hQ=>?_|refine kz fun Q hQ=>?_);simp only [vkt,seval,tbF23_147,xbF23_2,c0,e9];(try simp only [ite_and]);(repeat' (first|with_reducible assumption|refine And.intro ?_ ?_|intro hp));all_goals (first|(refine hQ _ ?_;clear hQ Q)|(refine hQ _ (fun h=>?_) (fun h=>?_) <;> clear hQ Q <;> (try simp only [vki,reduceCtorEq] at h))|omega|assumption|with_reducible rfl|(refine kq ?_;kernel_rfl)|skip)))
          refine ⟨⟨i+1,by omega,hlt⟩,by show n - (i+1) < n - i;omega, ?_⟩
          (refine Le.ok some [] ?_;constructor;all_goals (try simp only [vle,vkt,seval,tbF23_147,xbF23_2]))
          all_goals first|rfl|(rw [hm'];done)|exact congrArg (List.map eInt) hm'.symm|(simp [hm',e9];done)
        |succ j =>
          have c0:(0:Int) < ((j+1:Nat):Int):=by omega
          have e8:IntKind.wrap .i64 (((j+1:Nat):Int) - 1)=(j:Int):=by rw [wrap64 (by omega) (by omega)];omega
          have r1:=hr _ (gMem (d:=0) (show j+1 < m.length by omega))
          have r2:=hr _ (gMem (d:=0) (show j < m.length by omega))
          have r3:=r1.1
          have r4:=r1.2
          have r5:=r2.1
          have r6:=r2.2
          have k1:=gI0 (show j+1 < m.length by omega)
          have k2:=gI0 (show j < m.length by omega)
          have k4:=gI0 (l:=m.set (j+1) (m.getD j 0)) (n:=j) (by rw [List.length_set];omega)
          by_cases c1:cmpQ a ps s (m.getD (j+1) 0) (m.getD j 0) < 0
          · have hb2:bub (cmpQ a ps s) m (j+1)=bub (cmpQ a ps s) (swapL m j) j:=by rw [bub,if_pos c1]
            repeat' (first|(apply nx;with_reducible constructor)|refine jq (by decide) ?_|((first|refine kx env fun Q hQ=>?_|refine kz fun Q hQ=>?_);simp only [vkt,seval,tbF23_147,xbF23_2,c0,e8,c1,k1,k2,k4,List.length_set];(try simp only [ite_and]);(repeat' (first|with_reducible assumption|refine And.intro ?_ ?_|intro hp));all_goals (first|(refine hQ _ ?_;clear hQ Q)|(refine hQ _ (fun h=>?_) (fun h=>?_) <;> clear hQ Q <;> (try simp only [vki,reduceCtorEq] at h))|omega|assumption|with_reducible rfl|(refine kq ?_;kernel_rfl)|skip)))
            refine ⟨⟨(j,swapL m j),by show j≤i;omega,by rw [swapL_len];exact hm,swapL_mem (by omega) hr,by rw [← hb2];exact hb⟩,by show j < j+1;omega, ?_⟩
            (refine Le.ok some [] ?_;constructor;all_goals (try simp only [vle,vkt,seval,tbF23_147,xbF23_2]))
            all_goals first|rfl|(simp [swapL,e8,eInt];done)
          · have hm':isortK (cmpQ a ps s) l (i+1 - 1)=m:=by rw [← hnext,← hb,bub,if_neg c1]
            repeat' (first|(apply nx;with_reducible constructor)|refine jq (by decide) ?_|((first|refine kx env fun Q hQ=>?_|refine kz fun Q hQ=>?_);simp only [vkt,seval,tbF23_147,xbF23_2,c0,e8,c1,e9,k1,k2];(try simp only [ite_and]);(repeat' (first|with_reducible assumption|refine And.intro ?_ ?_|intro hp));all_goals (first|(refine hQ _ ?_;clear hQ Q)|(refine hQ _ (fun h=>?_) (fun h=>?_) <;> clear hQ Q <;> (try simp only [vki,reduceCtorEq] at h))|omega|assumption|with_reducible rfl|(refine kq ?_;kernel_rfl)|skip)))
            refine ⟨⟨i+1,by omega,hlt⟩,by show n - (i+1) < n - i;omega, ?_⟩
            (refine Le.ok some [] ?_;constructor;all_goals (try simp only [vle,vkt,seval,tbF23_147,xbF23_2]))
            all_goals first|rfl|(rw [hm'];done)|exact congrArg (List.map eInt) hm'.symm|(simp [hm',e9];done)
    · have hin:i=n:=by omega
      subst hin
      repeat' (first|(apply nx;with_reducible constructor)|refine jq (by decide) ?_|((first|refine kx env fun Q hQ=>?_|refine kz fun Q hQ=>?_);simp only [vkt,seval,tbF23_147,xbF23_2];(try simp only [ite_and]);(repeat' (first|with_reducible assumption|refine And.intro ?_ ?_|intro hp));all_goals (first|(refine hQ _ ?_;clear hQ Q)|(refine hQ _ (fun h=>?_) (fun h=>?_) <;> clear hQ Q <;> (try simp only [vki,reduceCtorEq] at h))|omega|assumption|with_reducible rfl|(refine kq ?_;kernel_rfl)|skip)))
      (simp only [vrt,Try.results147,vkt,seval,tbF23_147,xbF23_2];refine Fin.ok some [] ?_ ?_ ?_ ?_ ?_ rfl;all_goals (try simp only [vle,vkt,seval,tbF23_147,xbF23_2]))
      all_goals simp [isort,hN,hQ0]
def p147 (S:St):List AV→Option Pk
  |[.row r,.v (.int .i64 z),.v (.int .i64 n),.clo 81 [.ptr i 0,.ptr j 0,.ptr k 0]]=>match S.h i,S.h j,S.h k,S.h r with
    |some (.cells [.v (.int .i64 a)]),some (.cells [.sl ps]),some (.cells [.v (.int .i64 s)]),some (.row 3 1 l)=>some { pre:=ps=(ps.map dInt).map eInt∧DvOk a (ps.map dInt) s∧l=(l.map dInt).map eInt∧(1≤l.length∧l.length≤20)∧(∀ x ∈ l.map dInt,InI ps.length x)∧z=0∧n=l.length,hs:=[i,j,k,r],ar:=[.row 3,.v (.int .i64 z),.v (.int .i64 n),.clo 81 [.ptr 0 0,.ptr 1 0,.ptr 2 0]],L0:=[.cells [.v (.int .i64 a)],.cells [.sl ps],.cells [.v (.int .i64 s)],.row 3 1 l],v:=.tup [],L1:=[some (.cells [.v (.int .i64 a)]),some (.cells [.sl ps]),some (.cells [.v (.int .i64 s)]),some (.row 3 1 ((isort (cmpQ a (ps.map dInt) s) (l.map dInt)).map eInt))] }
    |_,_,_,_=>none
  |_=>none
theorem e147 {A:Frm→Prop}:EntryOK A Try.prog 147 (fnE p147):=fnE_ok fun S bs q h hp=>by
  unfold p147 at h
  split at h
  · split at h
    · rename_i r z n i j k _ _ _ _ a ps s l _ _ _ _
      cases h
      obtain ⟨h1,h2,h3,h4,h5,h6,h7⟩:=hp
      subst h6 h7
      have:=isort_fn a (ps.map dInt) s h2 (l.map dInt) (by simpa using h4) (by simpa using h5)
      simp only [soH,dvH,aI,← h1,← h3,List.length_map] at this
      exact this
    · cases h
  · cases h
def tbF23_133:=kj @ty3 @ti3.eq_1
def xbF23_3:=kj @aI.eq_1 (kj @aB.eq_1 (kj @dvH.eq_1 (kj @soH.eq_1 (kj @p147.eq_1 (kj @p147.eq_2 (kj @mInt (@InI.eq_1)))))))
theorem stable_fn (a:Int) (ps:List Int) (s:Int) (h:DvOk a ps s) (l:List Int) (hn:1≤l.length∧l.length≤19) (hl:∀ x ∈ l,InI ps.length x):Fn noB Try.prog 133 [.row 3,aI l.length,.clo 81 [.ptr 0 0,.ptr 1 0,.ptr 2 0]] (hasg (soH a ps s l)) (.tup []) (hasg (soH a ps s (isort (cmpQ a ps s) l))) 0:=by
  have env:Env (fun _=>True) Try.prog tyB (tab [(147,fnE p147)]):=mkEnv ⟨e147,trivial⟩
  refine Fn.of (A:=fun _=>True) (n0:=4) (D:=noD) (Fn0 Try.func133 rfl (fun vs w=>by kernel_rfl) (by kernel_rfl)) (by simp) (by simp [AV.ids,AV.idsL,aI]) ?_ (fun _ _ _ _=>trivial) noD_ok ?_
  · intro i o hi
    have h:=hasg_mem hi
    simp [soH,dvH,aI] at h
    rcases h with ⟨rfl,rfl⟩|⟨rfl,rfl⟩|⟨rfl,rfl⟩|⟨rfl,rfl⟩ <;> simp [AObj.ids,AV.ids,AV.idsL]
  have hl':∀ x ∈ l,0≤x∧x.toNat < ps.length:=hl
  have c1:¬ (20:Int)≤(l.length:Int):=by omega
  have c2:¬ (20:Int) < (l.length:Int):=by omega
  have hn1:=hn.1
  have hn2:l.length≤20:=by omega
  repeat' (first|(apply nx;with_reducible constructor)|refine jq (by decide) ?_|((first|refine kx env fun Q hQ=>?_|refine kz fun Q hQ=>?_);simp only [vkt,seval,tbF23_133,xbF23_3,List.length_map,c1];(try simp only [ite_and]);(repeat' (first|with_reducible assumption|refine And.intro ?_ ?_|intro hp));all_goals (first|(refine hQ _ ?_;clear hQ Q)|(refine hQ _ (fun h=>?_) (fun h=>?_) <;> clear hQ Q <;> (try simp only [vki,reduceCtorEq] at h))|omega|assumption|with_reducible rfl|(refine kq ?_;kernel_rfl)|skip)))
  refine sym_loop (fun _:Unit=>{ t:=asg [(0,.row 3),(1,aI l.length),(2,.clo 81 [.ptr 0 0,.ptr 1 0,.ptr 2 0]),(6,aI 20),(7,aI 0),(8,aI 20)],h:=hasg (soH a ps s l),n:=4,m:=4 }) (fun _=>0) () ?_ fun _=>?_
  · (refine Le.ok some [] ?_;constructor;all_goals (try simp only [vle,vkt,seval,tbF23_133,xbF23_3,List.length_map]))
    all_goals first|rfl|(simp;done)
  · repeat' (first|(apply nx;with_reducible constructor)|refine jq (by decide) ?_|((first|refine kx env fun Q hQ=>?_|refine kz fun Q hQ=>?_);simp only [vkt,seval,tbF23_133,xbF23_3,List.length_map,c1,c2];(try simp only [ite_and]);(repeat' (first|with_reducible assumption|refine And.intro ?_ ?_|intro hp));all_goals (first|(refine hQ _ ?_;clear hQ Q)|(refine hQ _ (fun h=>?_) (fun h=>?_) <;> clear hQ Q <;> (try simp only [vki,reduceCtorEq] at h))|omega|assumption|with_reducible rfl|(refine kq ?_;kernel_rfl)|skip)))
    refine sym_loop (fun _:Unit=>{ t:=asg [(0,.row 3),(1,aI l.length),(2,.clo 81 [.ptr 0 0,.ptr 1 0,.ptr 2 0]),(6,aI 20)],h:=hasg (soH a ps s (isort (cmpQ a ps s) l)),n:=4,m:=4 }) (fun _=>0) () ?_ fun _=>?_
    · (refine Le.ok some [] ?_;constructor;all_goals (try simp only [vle,vkt,seval,tbF23_133,xbF23_3,List.length_map]))
      all_goals first|rfl|(simp;done)
    · repeat' (first|(apply nx;with_reducible constructor)|refine jq (by decide) ?_|((first|refine kx env fun Q hQ=>?_|refine kz fun Q hQ=>?_);simp only [vkt,seval,tbF23_133,xbF23_3,List.length_map,c1,c2];(try simp only [ite_and]);(repeat' (first|with_reducible assumption|refine And.intro ?_ ?_|intro hp));all_goals (first|(refine hQ _ ?_;clear hQ Q)|(refine hQ _ (fun h=>?_) (fun h=>?_) <;> clear hQ Q <;> (try simp only [vki,reduceCtorEq] at h))|omega|assumption|with_reducible rfl|(refine kq ?_;kernel_rfl)|skip)))
      (simp only [vrt,Try.results133,vkt,seval,tbF23_133,xbF23_3,List.length_map];refine Fin.ok some [] ?_ ?_ ?_ ?_ ?_ rfl;all_goals (try simp only [vle,vkt,seval,tbF23_133,xbF23_3,List.length_map]))
      all_goals simp
end Go.Sym.B
namespace Go.Sym.B
open Go Go.Sym Go.Proofs Go.Sym.C
def p133 (S:St):List AV→Option Pk
  |[.row r,.v (.int .i64 n),.clo 81 [.ptr i 0,.ptr j 0,.ptr k 0]]=>match S.h i,S.h j,S.h k,S.h r with
    |some (.cells [.v (.int .i64 a)]),some (.cells [.sl ps]),some (.cells [.v (.int .i64 s)]),some (.row 3 1 l)=>some { pre:=ps=(ps.map dInt).map eInt∧DvOk a (ps.map dInt) s∧l=(l.map dInt).map eInt∧(1≤l.length∧l.length≤19)∧(∀ x ∈ l.map dInt,InI ps.length x)∧n=l.length,hs:=[i,j,k,r],ar:=[.row 3,.v (.int .i64 n),.clo 81 [.ptr 0 0,.ptr 1 0,.ptr 2 0]],L0:=[.cells [.v (.int .i64 a)],.cells [.sl ps],.cells [.v (.int .i64 s)],.row 3 1 l],v:=.tup [],L1:=[some (.cells [.v (.int .i64 a)]),some (.cells [.sl ps]),some (.cells [.v (.int .i64 s)]),some (.row 3 1 ((isort (cmpQ a (ps.map dInt) s) (l.map dInt)).map eInt))] }
    |_,_,_,_=>none
  |_=>none
theorem e133 {A:Frm→Prop}:EntryOK A Try.prog 133 (fnE p133):=fnE_ok fun S bs q h hp=>by
  unfold p133 at h
  split at h
  · split at h
    · rename_i r n i j k _ _ _ _ a ps s l _ _ _ _
      cases h
      obtain ⟨h1,h2,h3,h4,h5,h7⟩:=hp
      subst h7
      have:=stable_fn a (ps.map dInt) s h2 (l.map dInt) (by simpa using h4) (by simpa using h5)
      simp only [soH,dvH,aI,← h1,← h3,List.length_map] at this
      exact this
    · cases h
  · cases h
def sumK (f:Nat→Int):Nat→Int
  |0=>0
  |k+1=>sumK f k+f k
theorem sumK_bd {f:Nat→Int} {c:Int}:∀ {k:Nat},(∀ i,i < k→0≤f i∧f i≤c)→0≤sumK f k∧sumK f k≤k * c
  |0,_=>by simp [sumK]
  |k+1,h=>by
    obtain ⟨h1,h2⟩:=sumK_bd (f:=f) (k:=k) fun i hi=>h i (by omega)
    have h3:=h k (by omega)
    rw [sumK,Int.natCast_succ,Int.add_mul]
    omega
theorem sumK_mul (f:Nat→Int) (c:Int):∀ k,sumK (fun i=>c * f i) k=c * sumK f k
  |0=>by simp [sumK]
  |k+1=>by rw [sumK,sumK,sumK_mul f c k,Int.mul_add]
theorem sumK_add (f g:Nat→Int):∀ k,sumK (fun i=>f i+g i) k=sumK f k+sumK g k
  |0=>by simp [sumK]
  |k+1=>by rw [sumK,sumK,sumK,sumK_add f g k];omega
theorem sumK_congr {f g:Nat→Int}:∀ {k:Nat},(∀ i,i < k→f i=g i)→sumK f k=sumK g k
  |0,_=>rfl
  |k+1,h=>by rw [sumK,sumK,sumK_congr fun i hi=>h i (by omega),h k (by omega)]
def pSum (ps:List Int):Int:=sumK (fun i=>ps.getD i 0) ps.length
def partE (ps:List Int) (k:Nat):Int:=if !inB (ps.getD k 0) 0 9 then 1 else 0
def splitE (a:Int) (ps:List Int):Int:=if countedE ps.length 1 6 ≠ 0 then countedE ps.length 1 6 else if firstE (errs ps.length (partE ps)) ≠ 0 then firstE (errs ps.length (partE ps)) else if !inB a 0 999 then 1 else if pSum ps=0 then 11 else 0
def quotQ (a:Int) (ps:List Int) (i:Nat):Int:=(a * ps.getD i 0).tdiv (pSum ps)
def quotK (a:Int) (ps:List Int) (k:Nat):List Int:=(List.range k).map (quotQ a ps)
def ordK (k:Nat):List Int:=(List.range k).map fun i:Nat=>(i:Int)
theorem quotK_succ (a:Int) (ps:List Int) (k:Nat):quotK a ps (k+1)=quotK a ps k++[quotQ a ps k]:=by unfold quotK;rw [List.range_succ,List.map_append];rfl
theorem ordK_succ (k:Nat):ordK (k+1)=ordK k++[(k:Int)]:=by unfold ordK;rw [List.range_succ,List.map_append];rfl
theorem quotK_len (a:Int) (ps:List Int) (k:Nat):(quotK a ps k).length=k:=by simp [quotK]
theorem ordK_len (k:Nat):(ordK k).length=k:=by simp [ordK]
def leftK (a:Int) (ps:List Int) (k:Nat):Int:=a - sumK (quotQ a ps) k
def incF (out ord:List Int):Nat→List Int
  |0=>out
  |k+1=>(incF out ord k).set (ord.getD k 0).toNat ((incF out ord k).getD (ord.getD k 0).toNat 0+1)
theorem incF_len (out ord:List Int):∀ k,(incF out ord k).length=out.length
  |0=>rfl
  |k+1=>by rw [incF,List.length_set,incF_len out ord k]
def sortedQ (a:Int) (ps:List Int):List Int:=isort (cmpQ a ps (pSum ps)) (ordK ps.length)
def splitL (a:Int) (ps:List Int):List Int:=incF (quotK a ps ps.length) (sortedQ a ps) (leftK a ps ps.length).toNat
def aSplit (a:Int) (ps:List Int):AV:=if splitE a ps ≠ 0 then .tup [.sl [],aI (splitE a ps)] else .tup [aInts (splitL a ps),aI 0]
structure SpOk (a:Int) (ps:List Int):Prop where
  l:1≤ps.length∧ps.length≤6
  d:DvOk a ps (pSum ps)
theorem quot_bd {a:Int} {ps:List Int} (h:SpOk a ps) {i:Nat} (hi:i < ps.length):a * ps.getD i 0=pSum ps * quotQ a ps i+restQ a ps (pSum ps) i∧0≤quotQ a ps i∧quotQ a ps i≤8991:=by
  obtain ⟨h1,h2,h3,h4⟩:=dv_bd h.d (i:=(i:Int)) (by rw [Int.toNat_natCast];exact hi)
  rw [Int.toNat_natCast] at h1 h2
  have hs:=h.d.s
  unfold quotQ restQ
  rw [Int.toNat_natCast,Int.tdiv_eq_ediv_of_nonneg h1,Int.tmod_eq_emod_of_nonneg h1]
  refine ⟨(Int.mul_ediv_add_emod _ _).symm,Int.ediv_nonneg h1 (by omega), ?_⟩
  exact Int.le_trans (Int.ediv_le_self _ h1) h2
theorem left_bd {a:Int} {ps:List Int} (h:SpOk a ps):0≤leftK a ps ps.length∧leftK a ps ps.length < ps.length:=by
  have h1:a * pSum ps=pSum ps * sumK (quotQ a ps) ps.length+sumK (fun i=>restQ a ps (pSum ps) i) ps.length:=by
    rw [← sumK_mul (quotQ a ps),← sumK_add,show a * pSum ps=sumK (fun i=>a * ps.getD i 0) ps.length from (sumK_mul _ _ _).symm]
    exact sumK_congr fun i hi=>(quot_bd h hi).1
  have hr:∀ i,i < ps.length→0≤restQ a ps (pSum ps) i∧restQ a ps (pSum ps) i≤pSum ps - 1:=fun i hi=>by
    obtain ⟨_,_,h3,h4⟩:=dv_bd h.d (i:=(i:Int)) (by rw [Int.toNat_natCast];exact hi)
    exact ⟨h3,by omega⟩
  obtain ⟨h2,h3⟩:=sumK_bd hr
  have hs:=h.d.s.1
  have hl:=h.l.1
  have e1:pSum ps * leftK a ps ps.length=sumK (fun i=>restQ a ps (pSum ps) i) ps.length:=by
    unfold leftK;rw [Int.mul_sub,Int.mul_comm (pSum ps) a];omega
  refine ⟨?_, ?_⟩
  · rcases Int.lt_or_le (leftK a ps ps.length) 0 with hc|hc
    · have:=Int.mul_neg_of_pos_of_neg hs hc;omega
    · exact hc
  · rcases Int.lt_or_le (leftK a ps ps.length) ps.length with hc|hc
    · exact hc
    · have h4:pSum ps * (ps.length:Int)≤pSum ps * leftK a ps ps.length:=Int.mul_le_mul_of_nonneg_left hc (by omega)
      rw [Int.mul_sub,Int.mul_comm (ps.length:Int) (pSum ps)] at h3
      omega
theorem ord_in (n:Nat):∀ x ∈ ordK n,InI n x:=fun x hx=>by
  obtain ⟨j,hj,rfl⟩:=List.mem_map.1 hx
  have:=List.mem_range.1 hj
  exact ⟨by omega,by rw [Int.toNat_natCast];exact this⟩
theorem sorted_in {a:Int} {ps:List Int} (h:SpOk a ps):(sortedQ a ps).length=ps.length∧∀ x ∈ sortedQ a ps,InI ps.length x:=by
  have h1:=h.l.1
  obtain ⟨h2,h3⟩:=isortK_all (c:=cmpQ a ps (pSum ps)) (ord_in ps.length) ((ordK ps.length).length - 1) (by rw [ordK_len];omega)
  exact ⟨by rw [sortedQ,isort,h2,ordK_len],h3⟩
theorem left_bdk {a:Int} {ps:List Int} (h:SpOk a ps) {k:Nat} (hk:k≤ps.length):-100000≤leftK a ps k∧leftK a ps k≤999:=by
  obtain ⟨h1,h2⟩:=sumK_bd (f:=quotQ a ps) (k:=k) fun i hi=>⟨(quot_bd h (by omega)).2.1,(quot_bd h (by omega)).2.2⟩
  have:=h.d.a
  have:=h.l.2
  unfold leftK
  omega
def tbF24_80:=kj @ty3 (kj @ty22 (kj @ti3.eq_1 @ti22.eq_1))
def xbF24_1:=kj @aI.eq_1 (kj @aB.eq_1 (kj @dvH.eq_1 (kj @soH.eq_1 (kj @p133.eq_1 (kj @p133.eq_2 (kj @mInt (@InI.eq_1)))))))
theorem sort_fn (a:Int) (ps:List Int) (s:Int) (h:DvOk a ps s) (l:List Int) (hn:1≤l.length∧l.length≤19) (hl:∀ x ∈ l,InI ps.length x):Fn noB Try.prog 80 [.row 3,.clo 81 [.ptr 0 0,.ptr 1 0,.ptr 2 0]] (hasg (soH a ps s l)) (.tup []) (hasg (soH a ps s (isort (cmpQ a ps s) l))) 0:=by
  have env:Env (fun _=>True) Try.prog tyB (tab [(133,fnE p133)]):=mkEnv ⟨e133,trivial⟩
  refine Fn.of (A:=fun _=>True) (n0:=4) (D:=noD) (Fn0 Try.func80 rfl (fun vs w=>by kernel_rfl) (by kernel_rfl)) (by simp) (by simp [AV.ids,AV.idsL]) ?_ (fun _ _ _ _=>trivial) noD_ok ?_
  · intro i o hi
    have h:=hasg_mem hi
    simp [soH,dvH,aI] at h
    rcases h with ⟨rfl,rfl⟩|⟨rfl,rfl⟩|⟨rfl,rfl⟩|⟨rfl,rfl⟩ <;> simp [AObj.ids,AV.ids,AV.idsL]
  have hl':∀ x ∈ l,0≤x∧x.toNat < ps.length:=hl
  have hn1:=hn.1
  have hn2:=hn.2
  repeat' (first|(apply nx;with_reducible constructor)|refine jq (by decide) ?_|((first|refine kx env fun Q hQ=>?_|refine kz fun Q hQ=>?_);simp only [vkt,seval,tbF24_80,xbF24_1,List.length_map];(try simp only [ite_and]);(repeat' (first|with_reducible assumption|refine And.intro ?_ ?_|intro hp));all_goals (first|(refine hQ _ ?_;clear hQ Q)|(refine hQ _ (fun h=>?_) (fun h=>?_) <;> clear hQ Q <;> (try simp only [vki,reduceCtorEq] at h))|omega|assumption|with_reducible rfl|(refine kq ?_;kernel_rfl)|skip)))
  (simp only [vrt,Try.results80,vkt,seval,tbF24_80,xbF24_1,List.length_map];refine Fin.ok some [] ?_ ?_ ?_ ?_ ?_ rfl;all_goals (try simp only [vle,vkt,seval,tbF24_80,xbF24_1,List.length_map]))
  all_goals simp
def p80 (S:St):List AV→Option Pk
  |[.row r,.clo 81 [.ptr i 0,.ptr j 0,.ptr k 0]]=>match S.h i,S.h j,S.h k,S.h r with
    |some (.cells [.v (.int .i64 a)]),some (.cells [.sl ps]),some (.cells [.v (.int .i64 s)]),some (.row 3 1 l)=>some { pre:=ps=(ps.map dInt).map eInt∧DvOk a (ps.map dInt) s∧l=(l.map dInt).map eInt∧(1≤l.length∧l.length≤19)∧(∀ x ∈ l.map dInt,InI ps.length x),hs:=[i,j,k,r],ar:=[.row 3,.clo 81 [.ptr 0 0,.ptr 1 0,.ptr 2 0]],L0:=[.cells [.v (.int .i64 a)],.cells [.sl ps],.cells [.v (.int .i64 s)],.row 3 1 l],v:=.tup [],L1:=[some (.cells [.v (.int .i64 a)]),some (.cells [.sl ps]),some (.cells [.v (.int .i64 s)]),some (.row 3 1 ((isort (cmpQ a (ps.map dInt) s) (l.map dInt)).map eInt))] }
    |_,_,_,_=>none
  |_=>none
theorem e80 {A:Frm→Prop}:EntryOK A Try.prog 80 (fnE p80):=fnE_ok fun S bs q h hp=>by
  unfold p80 at h
  split at h
  · split at h
    · rename_i r i j k _ _ _ _ a ps s l _ _ _ _
      cases h
      obtain ⟨h1,h2,h3,h4,h5⟩:=hp
      have:=sort_fn a (ps.map dInt) s h2 (l.map dInt) (by simpa using h4) (by simpa using h5)
      simp only [soH,dvH,aI,← h1,← h3] at this
      exact this
    · cases h
  · cases h
end Go.Sym.B
namespace Go.Sym.B
open Go Go.Sym Go.Proofs Go.Sym.C
def spH (a:Int) (ps:List Int) (s:Int):List (Nat × AObj):=[(0,.cells [aI a]),(1,.cells [.sl (ps.map eInt)]),(2,.cells [aI s])]
def spS1 (a:Int) (ps:List Int) (k:Nat):St:={ t:=asg [(2,.ptr 0 0),(3,.ptr 1 0),(4,.nil),(5,aI 0),(7,.ptr 2 0),(23,.sl (ps.map eInt)),(24,aI ps.length),(25,aI k)],h:=hasg (spH a ps (sumK (fun i=>ps.getD i 0) k)),n:=3 }
def spS2 (a:Int) (ps:List Int) (k:Nat):St:={ t:=asg [(2,.ptr 0 0),(3,.ptr 1 0),(4,.nil),(5,aI 0),(7,.ptr 2 0),(10,.row 3),(11,.row 4),(12,aI (leftK a ps k)),(44,.sl (ps.map eInt)),(45,aI ps.length),(46,aI k)],h:=hasg (spH a ps (pSum ps)++[(3,.row 3 1 ((quotK a ps k).map eInt)),(4,.row 3 1 ((ordK k).map eInt))]),n:=5 }
def spS3 (a:Int) (ps:List Int) (k:Nat):St:={ t:=asg [(2,.ptr 0 0),(3,.ptr 1 0),(4,.nil),(5,aI 0),(7,.ptr 2 0),(10,.row 3),(11,.row 4),(75,.rsl 4 1 0 (leftK a ps ps.length).toNat),(76,aI ((leftK a ps ps.length).toNat:Nat)),(77,aI k)],h:=hasg (spH a ps (pSum ps)++[(3,.row 3 1 ((incF (quotK a ps ps.length) (sortedQ a ps) k).map eInt)),(4,.row 3 1 ((sortedQ a ps).map eInt))]),n:=5 }
def tbF25_24:=kj @ty3 (kj @ty22 (kj @ty30 (kj @ti3.eq_1 (kj @ti22.eq_1 @ti30.eq_1))))
theorem incF_bd {out:List Int} {c:Int} (h:∀ x ∈ out,0≤x∧x≤c) (ord:List Int) (ho:∀ x ∈ ord,x.toNat < out.length):∀ k,k≤ord.length→∀ x ∈ incF out ord k,0≤x∧x≤c+k
  |0,_,x,hx=>by have:=h x hx;simp;omega
  |k+1,hk,x,hx=>by
    rw [incF] at hx
    have ih:=incF_bd h ord ho k (by omega)
    rcases List.mem_or_eq_of_mem_set hx with hx|rfl
    · have:=ih x hx;omega
    · have h1:=ho _ (gMem (d:=0) (show k < ord.length by omega))
      have:=ih _ (gMem (d:=0) (show (ord.getD k 0).toNat < (incF out ord k).length by rw [incF_len];exact h1))
      omega
theorem quot_mem {a:Int} {ps:List Int} (h:SpOk a ps):∀ x ∈ quotK a ps ps.length,0≤x∧x≤8991:=fun x hx=>by
  obtain ⟨j,hj,rfl⟩:=List.mem_map.1 hx
  have:=quot_bd h (List.mem_range.1 hj)
  exact this.2
def xbF25_1:=kj @aI.eq_1 (kj @aB.eq_1 (kj @aInts.eq_1 (kj @spH.eq_1 (kj @spS1.eq_1 (kj @spS2.eq_1 (kj @spS3.eq_1 (kj @s78.eq_1 (kj @s78.eq_2 (kj @s79.eq_1 (kj @s79.eq_2 (kj @p80.eq_1 (kj @p80.eq_2 (kj @eInt.eq_1 (kj @gInt (kj @rInt (kj @mInt (kj @setI (@InI.eq_1))))))))))))))))))
set_option maxHeartbeats 4000000 in
theorem split_fn (a:Int) (ps:List Int) (hm:ps.length≤maxLen):FnV Try.prog 24 [aI a,aInts ps] (aSplit a ps):=by
  have env:Env (fun _=>True) Try.prog tyB (tab [(78,valE true s78),(79,valE true s79),(80,fnE p80)]):=mkEnv ⟨e78,e79,e80,trivial⟩
  refine Fn.of (A:=fun _=>True) (n0:=0) (D:=noD) (Fn0 Try.func24 rfl (fun vs w=>by kernel_rfl) (by kernel_rfl)) (by simp) (by simp [AV.ids,AV.idsL,aI,aInts]) (fun i o h=>by cases h) (fun _ _ _ _=>trivial) noD_ok ?_
  by_cases h0:countedE ps.length 1 6=0
  · have hl:1≤ps.length∧ps.length≤6:=by unfold countedE at h0;split at h0 <;> simp at h0;omega
    repeat' (first|(apply nx;with_reducible constructor)|refine jq (by decide) ?_|((first|refine kx env fun Q hQ=>?_|refine kz fun Q hQ=>?_);simp only [vkt,seval,tbF25_24,xbF25_1,List.length_map,h0];(try simp only [ite_and]);(repeat' (first|with_reducible assumption|refine And.intro ?_ ?_|intro hp));all_goals (first|(refine hQ _ ?_;clear hQ Q)|(refine hQ _ (fun h=>?_) (fun h=>?_) <;> clear hQ Q <;> (try simp only [vki,reduceCtorEq] at h))|omega|assumption|with_reducible rfl|(refine kq ?_;kernel_rfl)|skip)))
    refine sym_loop (ι:=FI (errs ps.length (partE ps))) (fun i=>spS1 a ps i.k) (fun i=>ps.length - i.k) (FI.zero _) ?_ fun i=>?_
    · (refine Le.ok some [] ?_;constructor;all_goals (try simp only [vle,vkt,seval,tbF25_24,xbF25_1,List.length_map]))
      all_goals first|rfl|(simp [FI.zero,sumK];done)
    · have hk:=i.le
      rw [errs_len] at hk
      have hin:∀ j,j < i.k→0≤ps.getD j 0∧ps.getD j 0≤9:=fun j hj=>by
        have:=i.all j hj
        rw [errs_get _ (by omega)] at this
        unfold partE at this
        cases hb:inB (ps.getD j 0) 0 9 with
        |true=>exact inB_iff.1 hb
        |false=>rw [hb] at this;simp at this
      have hsb:=sumK_bd hin
      repeat' (first|(apply nx;with_reducible constructor)|refine jq (by decide) ?_)
      (refine kx env fun Q hQ=>?_;simp only [vkt,seval,tbF25_24,xbF25_1,List.length_map];(try simp only [ite_and]);(repeat' (first|with_reducible assumption|refine And.intro ?_ ?_|intro hp));all_goals (first|(refine hQ _ ?_;clear hQ Q)|omega|assumption|with_reducible rfl|(refine kq ?_;kernel_rfl)|skip))
      repeat' (first|(apply nx;with_reducible constructor)|refine jq (by decide) ?_)
      (refine sym_cd (by simp only [vkt,seval,tbF25_24,xbF25_1,List.length_map];rfl) (fun h=>?_) (fun h=>?_) <;> (try simp only [vki,reduceCtorEq] at h))
      · have hlt:i.k < ps.length:=by omega
        have e9:=wrap_succ hlt hm
        by_cases c1:inB (ps.getD i.k 0) 0 9=true
        · have hb:=inB_iff.1 c1
          have e8:IntKind.wrap .i64 (sumK (fun i=>ps.getD i 0) i.k+ps.getD i.k 0)=sumK (fun i=>ps.getD i 0) (i.k+1):=wrap64 (by omega) (by omega)
          repeat' (first|(apply nx;with_reducible constructor)|refine jq (by decide) ?_|((first|refine kx env fun Q hQ=>?_|refine kz fun Q hQ=>?_);simp only [vkt,seval,tbF25_24,xbF25_1,List.length_map,c1,e8];(try simp only [ite_and]);(repeat' (first|with_reducible assumption|refine And.intro ?_ ?_|intro hp));all_goals (first|(refine hQ _ ?_;clear hQ Q)|(refine hQ _ (fun h=>?_) (fun h=>?_) <;> clear hQ Q <;> (try simp only [vki,reduceCtorEq] at h))|omega|assumption|with_reducible rfl|(refine kq ?_;kernel_rfl)|skip)))
          refine ⟨i.next hlt (by unfold partE;rw [c1];rfl),by show ps.length - (i.k+1) < _;omega, ?_⟩
          (refine Le.ok some [] ?_;constructor;all_goals (try simp only [vle,vkt,seval,tbF25_24,xbF25_1,List.length_map]))
          all_goals first|rfl|(simp [FI.next,e9];done)
        · have c1:inB (ps.getD i.k 0) 0 9=false:=by simpa using c1
          have h1:partE ps i.k=1:=by unfold partE;rw [c1];rfl
          have h2:=i.hit hlt (by rw [h1];decide)
          have h3:splitE a ps=1:=by unfold splitE;rw [if_neg (by rw [h0];simp),if_pos (by rw [h2,h1];decide),h2,h1]
          rw [show aSplit a ps=.tup [.sl [],aI 1] by unfold aSplit;rw [if_pos (by rw [h3];decide),h3]]
          repeat' (first|(apply nx;with_reducible constructor)|refine jq (by decide) ?_|((first|refine kx env fun Q hQ=>?_|refine kz fun Q hQ=>?_);simp only [vkt,seval,tbF25_24,xbF25_1,List.length_map,c1];(try simp only [ite_and]);(repeat' (first|with_reducible assumption|refine And.intro ?_ ?_|intro hp));all_goals (first|(refine hQ _ ?_;clear hQ Q)|(refine hQ _ (fun h=>?_) (fun h=>?_) <;> clear hQ Q <;> (try simp only [vki,reduceCtorEq] at h))|omega|assumption|with_reducible rfl|(refine kq ?_;kernel_rfl)|skip)))
          (simp only [vrt,Try.results24,vkt,seval,tbF25_24,xbF25_1,List.length_map];refine Fin.val rfl ?_;(try simp only [AV.le,AV.leL]))
          all_goals simp
      · have hkn:i.k=ps.length:=by omega
        have hf:=i.last (by omega)
        rw [hkn] at hin hsb
        have hps:sumK (fun i=>ps.getD i 0) i.k=pSum ps:=by rw [hkn];rfl
        by_cases c1:inB a 0 999=true
        · by_cases c2:pSum ps=0
          · have h3:splitE a ps=11:=by unfold splitE;rw [if_neg (by rw [h0];simp),if_neg (by rw [hf];simp),if_neg (by rw [c1];simp),if_pos c2]
            rw [show aSplit a ps=.tup [.sl [],aI 11] by unfold aSplit;rw [if_pos (by rw [h3];decide),h3]]
            repeat' (first|(apply nx;with_reducible constructor)|refine jq (by decide) ?_|((first|refine kx env fun Q hQ=>?_|refine kz fun Q hQ=>?_);simp only [vkt,seval,tbF25_24,xbF25_1,List.length_map,hps,c1,c2];(try simp only [ite_and]);(repeat' (first|with_reducible assumption|refine And.intro ?_ ?_|intro hp));all_goals (first|(refine hQ _ ?_;clear hQ Q)|(refine hQ _ (fun h=>?_) (fun h=>?_) <;> clear hQ Q <;> (try simp only [vki,reduceCtorEq] at h))|omega|assumption|with_reducible rfl|(refine kq ?_;kernel_rfl)|skip)))
            (simp only [vrt,Try.results24,vkt,seval,tbF25_24,xbF25_1,List.length_map];refine Fin.val rfl ?_;(try simp only [AV.le,AV.leL]))
            all_goals simp
          · have h3:splitE a ps=0:=by unfold splitE;rw [if_neg (by rw [h0];simp),if_neg (by rw [hf];simp),if_neg (by rw [c1];simp),if_neg c2]
            rw [show aSplit a ps=.tup [aInts (splitL a ps),aI 0] by unfold aSplit;rw [if_neg (by rw [h3];decide)]]
            have hok:SpOk a ps:=⟨hl,inB_iff.1 c1,fun p hp=>by
              obtain ⟨j,hj,rfl⟩:=List.getElem_of_mem hp
              have:=hin j hj
              simpa [List.getD_eq_getElem?_getD,hj] using this,by
              have:(0:Int)≤pSum ps:=hsb.1
              have:pSum ps≤ps.length * 9:=hsb.2
              omega⟩
            repeat' (first|(apply nx;with_reducible constructor)|refine jq (by decide) ?_|((first|refine kx env fun Q hQ=>?_|refine kz fun Q hQ=>?_);simp only [vkt,seval,tbF25_24,xbF25_1,List.length_map,hps,c1,c2];(try simp only [ite_and]);(repeat' (first|with_reducible assumption|refine And.intro ?_ ?_|intro hp));all_goals (first|(refine hQ _ ?_;clear hQ Q)|(refine hQ _ (fun h=>?_) (fun h=>?_) <;> clear hQ Q <;> (try simp only [vki,reduceCtorEq] at h))|omega|assumption|with_reducible rfl|(refine kq ?_;kernel_rfl)|skip)))
            refine sym_loop (fun k:{ k:Nat // k≤ps.length }=>spS2 a ps k.1) (fun k=>ps.length - k.1) ⟨0,Nat.zero_le _⟩ ?_ fun ⟨k,hk⟩=>?_
            · (refine Le.ok (fun j=>if j=3 then none else if j=4 then none else some j) [] ?_;constructor;all_goals (try simp only [vle,vkt,seval,tbF25_24,xbF25_1,List.length_map]))
              all_goals first|rfl|(rw [hps];done)|(simp [quotK,ordK,leftK,sumK,hps];done)
            · repeat' (first|(apply nx;with_reducible constructor)|refine jq (by decide) ?_)
              (refine kx env fun Q hQ=>?_;simp only [vkt,seval,tbF25_24,xbF25_1,List.length_map];(try simp only [ite_and]);(repeat' (first|with_reducible assumption|refine And.intro ?_ ?_|intro hp));all_goals (first|(refine hQ _ ?_;clear hQ Q)|omega|assumption|with_reducible rfl|(refine kq ?_;kernel_rfl)|skip))
              repeat' (first|(apply nx;with_reducible constructor)|refine jq (by decide) ?_)
              (refine sym_cd (by simp only [vkt,seval,tbF25_24,xbF25_1,List.length_map];rfl) (fun h=>?_) (fun h=>?_) <;> (try simp only [vki,reduceCtorEq] at h))
              · have hlt:k < ps.length:=by omega
                have e9:=wrap_succ hlt hm
                obtain ⟨b1,b2,b3⟩:=quot_bd hok hlt
                obtain ⟨d1,d2,d3,d4⟩:=dv_bd hok.d (i:=(k:Int)) (by rw [Int.toNat_natCast];exact hlt)
                rw [Int.toNat_natCast] at d1 d2
                have l1:=left_bdk hok (k:=k) (by omega)
                have l2:=left_bdk hok (k:=k+1) hlt
                have w1:IntKind.wrap .i64 (a * ps.getD k 0)=a * ps.getD k 0:=wrap64 (by omega) (by omega)
                have w2:(a * ps.getD k 0).tdiv (pSum ps)=quotQ a ps k:=rfl
                have w3:IntKind.wrap .i64 (quotQ a ps k)=quotQ a ps k:=wrap64 (by omega) (by omega)
                have w4:IntKind.wrap .i64 (leftK a ps k - quotQ a ps k)=leftK a ps (k+1):=by
                  have:leftK a ps (k+1)=leftK a ps k - quotQ a ps k:=by unfold leftK;rw [sumK];omega
                  rw [this];exact wrap64 (by omega) (by omega)
                have r1:(quotK a ps k).map eInt++[[.v (.int .i64 (quotQ a ps k))]]=(quotK a ps (k+1)).map eInt:=by rw [quotK_succ,List.map_append];rfl
                have r2:(ordK k).map eInt++[[.v (.int .i64 (k:Int))]]=(ordK (k+1)).map eInt:=by rw [ordK_succ,List.map_append];rfl
                have r3:=quotK_len a ps k
                have r4:=ordK_len k
                have r5:((quotK a ps (k+1)).map eInt).getD k []=[.v (.int .i64 (quotQ a ps k))]:=by
                  rw [gI0 (by rw [quotK_len];omega),quotK_succ];simp [List.getD_eq_getElem?_getD,quotK_len,eInt]
                have r6:=quotK_len a ps (k+1)
                have m1:(k+1) * 8≤140737488355328∧k+1≤maxLen:=by omega
                repeat' (first|(apply nx;with_reducible constructor)|refine jq (by decide) ?_|((first|refine kx env fun Q hQ=>?_|refine kz fun Q hQ=>?_);simp only [vkt,seval,tbF25_24,xbF25_1,List.length_map,w1,w2,w3,w4,r1,r2,r3,r4,r5,r6,c2,e9];(try simp only [ite_and]);(repeat' (first|with_reducible assumption|refine And.intro ?_ ?_|intro hp));all_goals (first|(refine hQ _ ?_;clear hQ Q)|(refine hQ _ (fun h=>?_) (fun h=>?_) <;> clear hQ Q <;> (try simp only [vki,reduceCtorEq] at h))|omega|assumption|with_reducible rfl|(refine kq ?_;kernel_rfl)|skip)))
                refine ⟨⟨k+1,hlt⟩,by show ps.length - (k+1) < ps.length - k;omega, ?_⟩
                (refine Le.ok (fun j=>if j=3 then some 6 else if j=4 then some 8 else some j) [] ?_;constructor;all_goals (try simp only [vle,vkt,seval,tbF25_24,xbF25_1,List.length_map]))
                all_goals first|rfl|(simp [e9];done)
              · have hke:k=ps.length:=by omega
                subst hke
                obtain ⟨l1,l2⟩:=left_bd hok
                have l3:((leftK a ps ps.length).toNat:Int)=leftK a ps ps.length:=Int.toNat_of_nonneg l1
                have o1:=ordK_len ps.length
                have o2:=ord_in ps.length
                have o3:∀ x ∈ ordK ps.length,0≤x∧x.toNat < ps.length:=ord_in ps.length
                have hd:=hok.d
                have n1:ps.length≤19:=by omega
                have n2:1≤ps.length:=hl.1
                have so:isort (cmpQ a ps (pSum ps)) (ordK ps.length)=sortedQ a ps:=rfl
                obtain ⟨s1,s2⟩:=sorted_in hok
                repeat' (first|(apply nx;with_reducible constructor)|refine jq (by decide) ?_|((first|refine kx env fun Q hQ=>?_|refine kz fun Q hQ=>?_);simp only [vkt,seval,tbF25_24,xbF25_1,List.length_map,o1,so,s1];(try simp only [ite_and]);(repeat' (first|with_reducible assumption|refine And.intro ?_ ?_|intro hp));all_goals (first|(refine hQ _ ?_;clear hQ Q)|(refine hQ _ (fun h=>?_) (fun h=>?_) <;> clear hQ Q <;> (try simp only [vki,reduceCtorEq] at h))|omega|assumption|with_reducible rfl|(refine kq ?_;kernel_rfl)|skip)))
                refine sym_loop (fun k:{ k:Nat // k≤(leftK a ps ps.length).toNat }=>spS3 a ps k.1) (fun k=>(leftK a ps ps.length).toNat - k.1) ⟨0,Nat.zero_le _⟩ ?_ fun ⟨k,hk⟩=>?_
                · (refine Le.ok some [] ?_;constructor;all_goals (try simp only [vle,vkt,seval,tbF25_24,xbF25_1,List.length_map]))
                  all_goals first|rfl|(simp [incF];done)
                · repeat' (first|(apply nx;with_reducible constructor)|refine jq (by decide) ?_)
                  (refine kx env fun Q hQ=>?_;simp only [vkt,seval,tbF25_24,xbF25_1,List.length_map];(try simp only [ite_and]);(repeat' (first|with_reducible assumption|refine And.intro ?_ ?_|intro hp));all_goals (first|(refine hQ _ ?_;clear hQ Q)|omega|assumption|with_reducible rfl|(refine kq ?_;kernel_rfl)|skip))
                  repeat' (first|(apply nx;with_reducible constructor)|refine jq (by decide) ?_)
                  (refine sym_cd (by simp only [vkt,seval,tbF25_24,xbF25_1,List.length_map];rfl) (fun h=>?_) (fun h=>?_) <;> (try simp only [vki,reduceCtorEq] at h))
                  · have hlt:k < (leftK a ps ps.length).toNat:=by omega
                    have hlt2:k < (sortedQ a ps).length:=by omega
                    have hlt3:k < ps.length:=by omega
                    have e9:=wrap_succ hlt3 hm
                    obtain ⟨t1,t2⟩:=s2 _ (gMem (d:=0) hlt2)
                    have x1:(incF (quotK a ps ps.length) (sortedQ a ps) k).length=ps.length:=by rw [incF_len,quotK_len]
                    have k1:=gI0 hlt2
                    have k2:=gI0 (l:=incF (quotK a ps ps.length) (sortedQ a ps) k) (n:=((sortedQ a ps).getD k 0).toNat) (by omega)
                    have vb:=incF_bd (quot_mem hok) (sortedQ a ps) (fun x hx=>by rw [quotK_len];exact (s2 x hx).2) k (by omega) _ (gMem (d:=0) (show ((sortedQ a ps).getD k 0).toNat < (incF (quotK a ps ps.length) (sortedQ a ps) k).length by omega))
                    have e8:IntKind.wrap .i64 ((incF (quotK a ps ps.length) (sortedQ a ps) k).getD ((sortedQ a ps).getD k 0).toNat 0+1)=(incF (quotK a ps ps.length) (sortedQ a ps) k).getD ((sortedQ a ps).getD k 0).toNat 0+1:=wrap64 (by omega) (by omega)
                    repeat' (first|(apply nx;with_reducible constructor)|refine jq (by decide) ?_|((first|refine kx env fun Q hQ=>?_|refine kz fun Q hQ=>?_);simp only [vkt,seval,tbF25_24,xbF25_1,List.length_map,k1,k2,x1,s1,e8,e9];(try simp only [ite_and]);(repeat' (first|with_reducible assumption|refine And.intro ?_ ?_|intro hp));all_goals (first|(refine hQ _ ?_;clear hQ Q)|(refine hQ _ (fun h=>?_) (fun h=>?_) <;> clear hQ Q <;> (try simp only [vki,reduceCtorEq] at h))|omega|assumption|with_reducible rfl|(refine kq ?_;kernel_rfl)|skip)))
                    refine ⟨⟨k+1,hlt⟩,by show (leftK a ps ps.length).toNat - (k+1) < (leftK a ps ps.length).toNat - k;omega, ?_⟩
                    (refine Le.ok some [] ?_;constructor;all_goals (try simp only [vle,vkt,seval,tbF25_24,xbF25_1,List.length_map]))
                    all_goals first|rfl|(simp [incF,eInt,e9];done)
                  · have hkl:k=(leftK a ps ps.length).toNat:=by omega
                    subst hkl
                    repeat' (first|(apply nx;with_reducible constructor)|refine jq (by decide) ?_|((first|refine kx env fun Q hQ=>?_|refine kz fun Q hQ=>?_);simp only [vkt,seval,tbF25_24,xbF25_1,List.length_map];(try simp only [ite_and]);(repeat' (first|with_reducible assumption|refine And.intro ?_ ?_|intro hp));all_goals (first|(refine hQ _ ?_;clear hQ Q)|(refine hQ _ (fun h=>?_) (fun h=>?_) <;> clear hQ Q <;> (try simp only [vki,reduceCtorEq] at h))|omega|assumption|with_reducible rfl|(refine kq ?_;kernel_rfl)|skip)))
                    (simp only [vrt,Try.results24,rowEx3,vkt,seval,tbF25_24,xbF25_1,List.length_map];refine Fin.val rfl ?_;(try simp only [AV.le,AV.leL]))
                    all_goals first|exact ⟨⟨_,_,rfl⟩,trivial,trivial⟩|(simp [splitL,aInts];done)
        · have c1:inB a 0 999=false:=by simpa using c1
          have h3:splitE a ps=1:=by unfold splitE;rw [if_neg (by rw [h0];simp),if_neg (by rw [hf];simp),if_pos (by rw [c1];rfl)]
          rw [show aSplit a ps=.tup [.sl [],aI 1] by unfold aSplit;rw [if_pos (by rw [h3];decide),h3]]
          repeat' (first|(apply nx;with_reducible constructor)|refine jq (by decide) ?_|((first|refine kx env fun Q hQ=>?_|refine kz fun Q hQ=>?_);simp only [vkt,seval,tbF25_24,xbF25_1,List.length_map,c1];(try simp only [ite_and]);(repeat' (first|with_reducible assumption|refine And.intro ?_ ?_|intro hp));all_goals (first|(refine hQ _ ?_;clear hQ Q)|(refine hQ _ (fun h=>?_) (fun h=>?_) <;> clear hQ Q <;> (try simp only [vki,reduceCtorEq] at h))|omega|assumption|with_reducible rfl|(refine kq ?_;kernel_rfl)|skip)))
          (simp only [vrt,Try.results24,vkt,seval,tbF25_24,xbF25_1,List.length_map];refine Fin.val rfl ?_;(try simp only [AV.le,AV.leL]))
          all_goals simp
  · have h3:splitE a ps=countedE ps.length 1 6:=by unfold splitE;rw [if_pos h0]
    rw [show aSplit a ps=.tup [.sl [],aI (countedE ps.length 1 6)] by unfold aSplit;rw [if_pos (by rw [h3];exact h0),h3]]
    repeat' (first|(apply nx;with_reducible constructor)|refine jq (by decide) ?_|((first|refine kx env fun Q hQ=>?_|refine kz fun Q hQ=>?_);simp only [vkt,seval,tbF25_24,xbF25_1,List.length_map,h0];(try simp only [ite_and]);(repeat' (first|with_reducible assumption|refine And.intro ?_ ?_|intro hp));all_goals (first|(refine hQ _ ?_;clear hQ Q)|(refine hQ _ (fun h=>?_) (fun h=>?_) <;> clear hQ Q <;> (try simp only [vki,reduceCtorEq] at h))|omega|assumption|with_reducible rfl|(refine kq ?_;kernel_rfl)|skip)))
    (simp only [vrt,Try.results24,vkt,seval,tbF25_24,xbF25_1,List.length_map];refine Fin.val rfl ?_;(try simp only [AV.le,AV.leL]))
    all_goals simp
def c24:List AV→Prop × AV
  |[.v (.int .i64 a),.sl ps]=>(ps=(ps.map dInt).map eInt∧ps.length≤maxLen,aSplit a (ps.map dInt))
  |_=>(False,.junk)
theorem d24 {A:Frm→Prop}:EntryOK A Try.prog 24 (valE false c24):=valE_ok fun vs hv h=>by
  clear hv
  unfold c24 at h ⊢
  split at h
  · refine ⟨by unfold aSplit;split <;> simp [AV.plain,AV.plainL,aI,aInts],fun h=>absurd h (by decide), ?_⟩
    have:=split_fn ‹_› _ (show (List.map dInt _).length≤maxLen by rw [List.length_map];exact h.2)
    simp only [aInts,← h.1] at this
    exact this
  · exact h.elim
end Go.Sym.B
namespace Go.Sym.B
open Go Go.Sym Go.Proofs Go.Sym.C
def p136 (S:St):List AV→Option Pk
  |[.sl ps,.clo 93 [.ptr t 0]]=>match S.h t with
    |some (.cells [.v (.int .i64 a),.v (.int .i64 b),.v (.int .i64 c),.v (.int .i64 d),.v (.int .i64 e),.v (.int .i64 f)])=>some { pre:=ps=(ps.map dInts).map eInts∧ps.length≤100∧∀ p ∈ ps.map dInts,2≤p.length,hs:=[t],ar:=[.sl ps,.clo 93 [.ptr 0 0]],L0:=[.cells (cEnt ⟨a,b,c,d,e,f⟩)],v:=aI (idxF (metB ⟨a,b,c,d,e,f⟩) (ps.map dInts)),L1:=[some (.cells (cEnt ⟨a,b,c,d,e,f⟩))],fl:=true }
    |_=>none
  |_=>none
theorem e136 {A:Frm→Prop}:EntryOK A Try.prog 136 (fnE p136):=fnE_ok fun S bs q h hp=>by
  unfold p136 at h
  split at h
  · split at h
    · rename_i ps t _ a b c d e f _
      cases h
      have:=idx_fn ⟨a,b,c,d,e,f⟩ (ps.map dInts) (by simpa using hp.2.1) hp.2.2
      rw [aIntss,← hp.1] at this
      exact this
    · cases h
  · cases h
def tbF18_92:=kj @ty3 @ti3.eq_1
def xbF18_1:=kj @aI.eq_1 (kj @aB.eq_1 (kj @aInts.eq_1 (kj @aIntss.eq_1 (kj @cEnt.eq_1 (kj @eInt.eq_1 (kj @eInts.eq_1 (kj @mInts (kj @p136.eq_1 (@p136.eq_2)))))))))
theorem contains_fn (x:Ent) (ps:List (List Int)) (hl:ps.length≤100) (hp:∀ p ∈ ps,2≤p.length):Fn noB Try.prog 92 [aIntss ps,.clo 93 [.ptr 0 0]] (hasg [(0,.cells (cEnt x))]) (aB (ps.any (metB x))) (hasg [(0,.cells (cEnt x))]) 0:=by
  have env:Env (fun _=>True) Try.prog tyB (tab [(136,fnE p136)]):=mkEnv ⟨e136,trivial⟩
  refine Fn.of (A:=fun _=>True) (n0:=1) (D:=noD) (Fn0 Try.func92 rfl (fun vs w=>by kernel_rfl) (by kernel_rfl)) (by simp) (by simp [AV.ids,AV.idsL,aIntss]) ?_ (fun _ _ _ _=>trivial) noD_ok ?_
  · intro i o hi
    have h:=hasg_mem hi
    simp at h;obtain ⟨rfl,rfl⟩:=h;simp [cEnt,AObj.ids,AV.ids,AV.idsL]
  have ex:(⟨x.day,x.kind,x.coin,x.to,x.amount,x.got⟩:Ent)=x:=rfl
  repeat' (first|(apply nx;with_reducible constructor)|refine jq (by decide) ?_|((first|refine kx env fun Q hQ=>?_|refine kz fun Q hQ=>?_);simp only [vkt,seval,tbF18_92,xbF18_1,ex];(try simp only [ite_and]);(repeat' (first|with_reducible assumption|refine And.intro ?_ ?_|intro hp));all_goals (first|(refine hQ _ ?_;clear hQ Q)|(refine hQ _ (fun h=>?_) (fun h=>?_) <;> clear hQ Q <;> (try simp only [vki,reduceCtorEq] at h))|omega|assumption|with_reducible rfl|(refine kq ?_;kernel_rfl)|skip)))
  (simp only [vrt,Try.results92,idxF_any,vkt,seval,tbF18_92,xbF18_1];refine Fin.ok some [] ?_ ?_ ?_ ?_ ?_ rfl;all_goals (try simp only [vle,vkt,seval,tbF18_92,xbF18_1]))
  all_goals simp
def p92 (S:St):List AV→Option Pk
  |[.sl ps,.clo 93 [.ptr t 0]]=>match S.h t with
    |some (.cells [.v (.int .i64 a),.v (.int .i64 b),.v (.int .i64 c),.v (.int .i64 d),.v (.int .i64 e),.v (.int .i64 f)])=>some { pre:=ps=(ps.map dInts).map eInts∧ps.length≤100∧∀ p ∈ ps.map dInts,2≤p.length,hs:=[t],ar:=[.sl ps,.clo 93 [.ptr 0 0]],L0:=[.cells (cEnt ⟨a,b,c,d,e,f⟩)],v:=aB ((ps.map dInts).any (metB ⟨a,b,c,d,e,f⟩)),L1:=[some (.cells (cEnt ⟨a,b,c,d,e,f⟩))],fl:=true }
    |_=>none
  |_=>none
theorem e92 {A:Frm→Prop}:EntryOK A Try.prog 92 (fnE p92):=fnE_ok fun S bs q h hp=>by
  unfold p92 at h
  split at h
  · split at h
    · rename_i ps t _ a b c d e f _
      cases h
      have:=contains_fn ⟨a,b,c,d,e,f⟩ (ps.map dInts) (by simpa using hp.2.1) hp.2.2
      rw [aIntss,← hp.1] at this
      exact this
    · cases h
  · cases h
def hitB (l:Led) (bds:List Int) (own:List (List Int)):Bool:=bds.all fun i=>own.any (metB (l.entries.getD i.toNat default))
structure BadOk (l:Led) (bds:List Int):Prop where
  len:bds.length≤100
  b:∀ i ∈ bds,0≤i∧i.toNat < l.entries.length
def htS (l:Led) (bds:List Int) (own:List (List Int)) (k:Nat):St:={ t:=asg [(0,aIntss own),(1,.ptr 0 0),(2,.ptr 1 0),(4,aB false),(8,aInts bds),(9,aI bds.length),(10,aI k)],h:=hasg [(0,.cells [.sl (bds.map eInt)]),(1,.cells (cLed l))],n:=2,m:=2 }
def tbF18_91:=kj @ty3 (kj @ty22 (kj @ty36 (kj @ty38 (kj @ty48 (kj @ti3.eq_1 (kj @ti22.eq_1 (kj @ti36.eq_1 (kj @ti38.eq_1 @ti48.eq_1))))))))
def xbF18_2:=kj @aI.eq_1 (kj @aB.eq_1 (kj @aInts.eq_1 (kj @aIntss.eq_1 (kj @cEnt.eq_1 (kj @cLed.eq_1 (kj @eInt.eq_1 (kj @gInt (kj @eInts.eq_1 (kj @mInts (kj @p92.eq_1 (kj @p92.eq_2 (kj @htS.eq_1 (kj @eEnt.eq_1 (@gEnt))))))))))))))
theorem hit_fn (l:Led) (bds:List Int) (own:List (List Int)) (hb:BadOk l bds) (hl:own.length≤100) (hp:∀ p ∈ own,2≤p.length):Fn noB Try.prog 91 [aIntss own,.ptr 0 0,.ptr 1 0] (hasg [(0,.cells [.sl (bds.map eInt)]),(1,.cells (cLed l))]) (aB (hitB l bds own)) (hasg [(0,.cells [.sl (bds.map eInt)]),(1,.cells (cLed l))]) 0:=by
  have env:Env (fun _=>True) Try.prog tyB (tab [(92,fnE p92)]):=mkEnv ⟨e92,trivial⟩
  refine Fn.of (A:=fun _=>True) (n0:=2) (D:=noD) (Fn0 Try.func91 rfl (fun vs w=>by kernel_rfl) (by kernel_rfl)) (by simp) (by simp [AV.ids,AV.idsL,aIntss]) ?_ (fun _ _ _ _=>trivial) noD_ok ?_
  · intro i o hi
    have h:=hasg_mem hi
    simp at h
    rcases h with ⟨rfl,rfl⟩|⟨rfl,rfl⟩ <;> simp [cLed,AObj.ids,AV.ids,AV.idsL]
  have hm:bds.length≤maxLen:=by
      have:=hb.len;have:(100:Nat)≤maxLen:=by decide
      omega
  repeat' (first|(apply nx;with_reducible constructor)|refine jq (by decide) ?_|((first|refine kx env fun Q hQ=>?_|refine kz fun Q hQ=>?_);simp only [vkt,seval,tbF18_91,xbF18_2];(try simp only [ite_and]);(repeat' (first|with_reducible assumption|refine And.intro ?_ ?_|intro hp));all_goals (first|(refine hQ _ ?_;clear hQ Q)|(refine hQ _ (fun h=>?_) (fun h=>?_) <;> clear hQ Q <;> (try simp only [vki,reduceCtorEq] at h))|omega|assumption|with_reducible rfl|(refine kq ?_;kernel_rfl)|skip)))
  refine sym_loop (fun k:{ k:Nat // k≤bds.length∧∀ j,j < k→own.any (metB (l.entries.getD (bds.getD j 0).toNat default))=true }=>htS l bds own k.1) (fun k=>bds.length - k.1) ⟨0,Nat.zero_le _,fun j h=>absurd h (Nat.not_lt_zero _)⟩ ?_ fun ⟨k,hk,hall⟩=>?_
  · (refine Le.ok some [] ?_;constructor;all_goals (try simp only [vle,vkt,seval,tbF18_91,xbF18_2]))
    all_goals simp
  · repeat' (first|(apply nx;with_reducible constructor)|refine jq (by decide) ?_)
    (refine kx env fun Q hQ=>?_;simp only [vkt,seval,tbF18_91,xbF18_2];(try simp only [ite_and]);(repeat' (first|with_reducible assumption|refine And.intro ?_ ?_|intro hp));all_goals (first|(refine hQ _ ?_;clear hQ Q)|omega|assumption|with_reducible rfl|(refine kq ?_;kernel_rfl)|skip))
    repeat' (first|(apply nx;with_reducible constructor)|refine jq (by decide) ?_)
    (refine sym_cd (by simp only [vkt,seval,tbF18_91,xbF18_2];rfl) (fun h=>?_) (fun h=>?_) <;> (try simp only [vki,reduceCtorEq] at h))
    · have hlt:k < bds.length:=by omega
      obtain ⟨h2,h3⟩:=hb.b _ (gMem (d:=0) hlt)
      have e9:=wrap_succ hlt hm
      generalize hx:l.entries.getD (bds.getD k 0).toNat default=x at *
      have ex:(⟨x.day,x.kind,x.coin,x.to,x.amount,x.got⟩:Ent)=x:=rfl
      cases c1:own.any (metB x)
      · have hi:hitB l bds own=false:=by
          unfold hitB
          rw [List.all_eq_false]
          exact ⟨_,gMem (d:=0) hlt,by rw [hx,c1];simp⟩
        repeat' (first|(apply nx;with_reducible constructor)|refine jq (by decide) ?_|((first|refine kx env fun Q hQ=>?_|refine kz fun Q hQ=>?_);simp only [vkt,seval,tbF18_91,xbF18_2,hx,ex,c1];(try simp only [ite_and]);(repeat' (first|with_reducible assumption|refine And.intro ?_ ?_|intro hp));all_goals (first|(refine hQ _ ?_;clear hQ Q)|(refine hQ _ (fun h=>?_) (fun h=>?_) <;> clear hQ Q <;> (try simp only [vki,reduceCtorEq] at h))|omega|assumption|with_reducible rfl|(refine kq ?_;kernel_rfl)|skip)))
        (simp only [vrt,Try.results91,vkt,seval,tbF18_91,xbF18_2];refine Fin.ok some [] ?_ ?_ ?_ ?_ ?_ rfl;all_goals (try simp only [vle,vkt,seval,tbF18_91,xbF18_2]))
        all_goals simp [hi]
      · repeat' (first|(apply nx;with_reducible constructor)|refine jq (by decide) ?_|((first|refine kx env fun Q hQ=>?_|refine kz fun Q hQ=>?_);simp only [vkt,seval,tbF18_91,xbF18_2,hx,ex,c1];(try simp only [ite_and]);(repeat' (first|with_reducible assumption|refine And.intro ?_ ?_|intro hp));all_goals (first|(refine hQ _ ?_;clear hQ Q)|(refine hQ _ (fun h=>?_) (fun h=>?_) <;> clear hQ Q <;> (try simp only [vki,reduceCtorEq] at h))|omega|assumption|with_reducible rfl|(refine kq ?_;kernel_rfl)|skip)))
        refine ⟨⟨k+1,hlt,fun j hj=>?_⟩,by show bds.length - (k+1) < bds.length - k;omega, ?_⟩
        · rcases Nat.lt_or_eq_of_le (Nat.le_of_lt_succ hj) with h1|h1
          · exact hall j h1
          · rw [h1,hx];exact c1
        · (refine Le.ok some [] ?_;constructor;all_goals (try simp only [vle,vkt,seval,tbF18_91,xbF18_2]))
          all_goals simp [e9]
    · have hi:hitB l bds own=true:=by
        unfold hitB
        rw [List.all_eq_true]
        intro y hy
        obtain ⟨j,hj,rfl⟩:=List.getElem_of_mem hy
        have:=hall j (by omega)
        simpa [List.getD_eq_getElem?_getD,hj] using this
      repeat' (first|(apply nx;with_reducible constructor)|refine jq (by decide) ?_|((first|refine kx env fun Q hQ=>?_|refine kz fun Q hQ=>?_);simp only [vkt,seval,tbF18_91,xbF18_2];(try simp only [ite_and]);(repeat' (first|with_reducible assumption|refine And.intro ?_ ?_|intro hp));all_goals (first|(refine hQ _ ?_;clear hQ Q)|(refine hQ _ (fun h=>?_) (fun h=>?_) <;> clear hQ Q <;> (try simp only [vki,reduceCtorEq] at h))|omega|assumption|with_reducible rfl|(refine kq ?_;kernel_rfl)|skip)))
      (simp only [vrt,Try.results91,vkt,seval,tbF18_91,xbF18_2];refine Fin.ok some [] ?_ ?_ ?_ ?_ ?_ rfl;all_goals (try simp only [vle,vkt,seval,tbF18_91,xbF18_2]))
      all_goals simp [hi]
end Go.Sym.B
namespace Go.Sym.B
open Go Go.Sym Go.Proofs Go.Sym.C
def growF (hit:List (List Int)→Bool) (ps:List (List Int)):Nat→List (List Int)→Nat→List (List Int) × Bool
  |0,b,_=>(b,hit b)
  |m+1,b,f=>match (List.range (ps.length - f)).find? (fun i=>(growF hit ps m (b++[ps.getD (f+i) []]) (f+i+1)).2) with
    |some i=>((growF hit ps m (b++[ps.getD (f+i) []]) (f+i+1)).1,true)
    |none=>([],false)
theorem growF_hit {hit:List (List Int)→Bool} {ps:List (List Int)} {m:Nat} {b:List (List Int)} {f i:Nat} (h0:f≤i) (h1:i < ps.length) (h2:(growF hit ps m (b++[ps.getD i []]) (i+1)).2=true) (h3:∀ j,f≤j→j < i→(growF hit ps m (b++[ps.getD j []]) (j+1)).2=false) :
    growF hit ps (m+1) b f=((growF hit ps m (b++[ps.getD i []]) (i+1)).1,true):=by
  have:(List.range (ps.length - f)).find? (fun i=>(growF hit ps m (b++[ps.getD (f+i) []]) (f+i+1)).2)=some (i - f):=by
    rw [List.find?_range_eq_some]
    refine ⟨?_,List.mem_range.2 (by omega),fun j hj=>?_⟩
    · rw [show f+(i - f)=i by omega];exact h2
    · rw [h3 (f+j) (by omega) (by omega)];rfl
  rw [growF,this]
  simp only
  rw [show f+(i - f)=i by omega]
theorem growF_none {hit:List (List Int)→Bool} {ps:List (List Int)} {m:Nat} {b:List (List Int)} {f:Nat} (h3:∀ j,f≤j→j < ps.length→(growF hit ps m (b++[ps.getD j []]) (j+1)).2=false):growF hit ps (m+1) b f=([],false):=by
  have:(List.range (ps.length - f)).find? (fun i=>(growF hit ps m (b++[ps.getD (f+i) []]) (f+i+1)).2)=none:=by
    rw [List.find?_eq_none]
    intro j hj
    have:=List.mem_range.1 hj
    rw [h3 (f+j) (by omega) (by omega)];simp
  rw [growF,this]
theorem growF_all {hit:List (List Int)→Bool} {ps:List (List Int)}:∀ (m:Nat) (b:List (List Int)) (f:Nat),f+m=ps.length→hit (b++ps.drop f)=true→(growF hit ps m b f).2=true
  |0,b,f,h,hh=>by
    rw [growF]
    rw [List.drop_eq_nil_of_le (by omega),List.append_nil] at hh
    exact hh
  |m+1,b,f,h,hh=>by
    have h1:(growF hit ps m (b++[ps.getD f []]) (f+1)).2=true:=growF_all m _ _ (by omega) (by
      rw [List.drop_eq_getElem_cons (show f < ps.length by omega)] at hh
      rw [List.append_assoc]
      simpa [List.getD_eq_getElem?_getD,show f < ps.length by omega] using hh)
    rw [growF_hit (Nat.le_refl f) (by omega) h1 (fun j h1 h2=>by omega)]
def grH (l:Led) (bds:List Int) (ps:List (List Int)):List (Nat × AObj):=[(0,.cells [.clo 91 [.ptr 3 0,.ptr 4 0]]),(1,.cells [.row 5]),(2,.cells [.clo 94 [.ptr 0 0,.ptr 1 0,.ptr 2 0]]),(3,.cells [.sl (bds.map eInt)]),(4,.cells (cLed l)),(5,.row 22 1 (ps.map eInts))]
def grS (l:Led) (bds:List Int) (ps b:List (List Int)) (f m i:Nat):St:={ t:=asg [(0,aIntss b),(1,aI f),(2,aI m),(3,.ptr 0 0),(4,.ptr 1 0),(5,.ptr 2 0),(9,.nil),(10,aB false),(11,aI i)],h:=hasg (grH l bds ps),n:=6,m:=6 }
structure GrOk (l:Led) (bds:List Int) (ps:List (List Int)):Prop where
  b:BadOk l bds
  len:ps.length≤20
  two:∀ p ∈ ps,2≤p.length
structure BgOk (b:List (List Int)) (f m:Nat):Prop where
  len:b.length+m≤50
  two:∀ p ∈ b,2≤p.length
  f:f≤100
def p91 (S:St):List AV→Option Pk
  |[.sl own,.ptr s 0,.ptr t 0]=>match S.h s,S.h t with
    |some (.cells [.sl bd]),some (.cells [.sl cs,.sl rs,.sl ss,.sl es])=>some { pre:=own=(own.map dInts).map eInts∧bd=(bd.map dInt).map eInt∧isL cs rs ss es∧BadOk (ldOf cs rs ss es) (bd.map dInt)∧own.length≤100∧(∀ p ∈ own.map dInts,2≤p.length),hs:=[s,t],ar:=[.sl own,.ptr 0 0,.ptr 1 0],L0:=[.cells [.sl bd],.cells [.sl cs,.sl rs,.sl ss,.sl es]],v:=aB (hitB (ldOf cs rs ss es) (bd.map dInt) (own.map dInts)),L1:=[some (.cells [.sl bd]),some (.cells [.sl cs,.sl rs,.sl ss,.sl es])],fl:=false }
    |_,_=>none
  |_=>none
theorem cLed_of' {cs rs ss es:List (List DV)} (h:isL cs rs ss es):cLed (ldOf cs rs ss es)=[.sl cs,.sl rs,.sl ss,.sl es]:=by
  simp only [cLed,ldOf,← h.1,← h.2.1,← h.2.2.1,← h.2.2.2]
theorem e91 {A:Frm→Prop}:EntryOK A Try.prog 91 (fnE p91):=fnE_ok fun S bs q h hp=>by
  unfold p91 at h
  split at h
  · split at h
    · rename_i own s t _ _ bd cs rs ss es _ _
      cases h
      have:=hit_fn (ldOf cs rs ss es) (bd.map dInt) (own.map dInts) hp.2.2.2.1 (by simpa using hp.2.2.2.2.1) hp.2.2.2.2.2
      simp only [aIntss,← hp.1,← hp.2.1,cLed_of' hp.2.2.1] at this
      exact this
    · cases h
  · cases h
def p94 (M:Nat) (S:St):List AV→Option Pk
  |[.row r,.v (.int .i64 f),.v (.int .i64 m),.ptr a 0,.ptr b 0,.ptr c 0]=>match S.h r,S.h a,S.h b,S.h c with
    |some (.row 22 1 bg),some (.cells [.clo 91 [.ptr x 0,.ptr y 0]]),some (.cells [.row z]),some (.cells [.clo 94 [.ptr a' 0,.ptr b' 0,.ptr c' 0]])=>match S.h x,S.h y,S.h z with
      |some (.cells [.sl bd]),some (.cells [.sl cs,.sl rs,.sl ss,.sl es]),some (.row 22 1 ps) =>
        some { pre:=a'=a∧b'=b∧c'=c∧bg=(bg.map dInts).map eInts∧bd=(bd.map dInt).map eInt∧isL cs rs ss es∧ps=(ps.map dInts).map eInts∧GrOk (ldOf cs rs ss es) (bd.map dInt) (ps.map dInts)∧BgOk (bg.map dInts) f.toNat m.toNat∧0≤f∧0≤m∧m.toNat < M,hs:=[a,b,c,x,y,z],bo:=[r],ar:=[.sl bg,.v (.int .i64 f),.v (.int .i64 m),.ptr 0 0,.ptr 1 0,.ptr 2 0],L0:=[.cells [.clo 91 [.ptr 3 0,.ptr 4 0]],.cells [.row 5],.cells [.clo 94 [.ptr 0 0,.ptr 1 0,.ptr 2 0]],.cells [.sl bd],.cells [.sl cs,.sl rs,.sl ss,.sl es],.row 22 1 ps],v:=.tup [aIntss (growF (hitB (ldOf cs rs ss es) (bd.map dInt)) (ps.map dInts) m.toNat (bg.map dInts) f.toNat).1,aB (growF (hitB (ldOf cs rs ss es) (bd.map dInt)) (ps.map dInts) m.toNat (bg.map dInts) f.toNat).2],L1:=[some (.cells [.clo 91 [.ptr 3 0,.ptr 4 0]]),some (.cells [.row 5]),some (.cells [.clo 94 [.ptr 0 0,.ptr 1 0,.ptr 2 0]]),some (.cells [.sl bd]),some (.cells [.sl cs,.sl rs,.sl ss,.sl es]),some (.row 22 1 ps)] }
      |_,_,_=>none
    |_,_,_,_=>none
  |_=>none
def GrFn (m:Nat):Prop:=∀ (l:Led) (bds:List Int) (ps b:List (List Int)) (f:Nat),GrOk l bds ps→BgOk b f m→Fn noB Try.prog 94 [aIntss b,aI f,aI m,.ptr 0 0,.ptr 1 0,.ptr 2 0] (hasg (grH l bds ps)) (.tup [aIntss (growF (hitB l bds) ps m b f).1,aB (growF (hitB l bds) ps m b f).2]) (hasg (grH l bds ps)) 0
theorem e94 {A:Frm→Prop} {M:Nat} (ih:∀ m,m < M→GrFn m):EntryOK A Try.prog 94 (fnE (p94 M)):=fnE_ok fun S bs q h hp=>by
  unfold p94 at h
  split at h
  · split at h
    · split at h
      · rename_i r f m a b c _ _ _ _ bg x y z a' b' c' _ _ _ _ _ _ _ bd cs rs ss es ps _ _ _
        cases h
        obtain ⟨_,_,_,h1,h2,h3,h4,h5,h6,h7,h8,h9⟩:=hp
        have:=ih m.toNat h9 (ldOf cs rs ss es) (bd.map dInt) (ps.map dInts) (bg.map dInts) f.toNat h5 h6
        simp only [grH,aIntss,aI,← h1,← h2,← h4,cLed_of' h3,Int.toNat_of_nonneg h7,Int.toNat_of_nonneg h8] at this
        exact this
      · cases h
    · cases h
  · cases h
end Go.Sym.B
namespace Go.Sym.B
open Go Go.Sym Go.Proofs Go.Sym.C
theorem gIn0 {l:List (List Int)} {n:Nat} (h:n < l.length):(l.map eInts).getD n []=eInts (l.getD n []):=by simp [List.getD_eq_getElem?_getD,h]
def tbF20_94:=kj @ty3 (kj @ty22 (kj @ty28 (kj @ty111 (kj @ty112 (kj @ti3.eq_1 (kj @ti22.eq_1 (kj @ti28.eq_1 (kj @ti111.eq_1 @ti112.eq_1))))))))
def xbF20_1:=kj @aI.eq_1 (kj @aB.eq_1 (kj @aLed.eq_1 (kj @cLed.eq_1 (kj @eInts.eq_1 (kj @aIntss.eq_1 (kj @grH.eq_1 (kj @grS.eq_1 (kj @p91.eq_1 (kj @p91.eq_2 (kj @p95.eq_1 (kj @p95.eq_2 (kj @p95.eq_3 (kj @p94.eq_1 (kj @p94.eq_2 (kj @isL_e (kj @ldOf_e (kj @mInts (kj @mInt (@rInts)))))))))))))))))))
set_option maxHeartbeats 2000000 in
theorem grow_all (m:Nat):GrFn m:=by
  induction m using Nat.strongRecOn with
  |_ m ih =>
    intro l bds ps b f hg hb
    have env:Env (fun _=>True) Try.prog tyB (tab [(91,fnE p91),(95,fnE p95),(94,fnE (p94 m))]):=mkEnv ⟨e91,e95,e94 ih,trivial⟩
    refine Fn.of (A:=fun _=>True) (n0:=6) (D:=noD) (Fn0 Try.func94 rfl (fun vs w=>by kernel_rfl) (by kernel_rfl)) (by simp) (by simp [AV.ids,AV.idsL,aIntss,aI]) ?_ (fun _ _ _ _=>trivial) noD_ok ?_
    · intro i o hi
      have h:=hasg_mem hi
      simp [grH] at h
      rcases h with ⟨rfl,rfl⟩|⟨rfl,rfl⟩|⟨rfl,rfl⟩|⟨rfl,rfl⟩|⟨rfl,rfl⟩|⟨rfl,rfl⟩ <;> simp [cLed,AObj.ids,AV.ids,AV.idsL]
    have hB:=hg.b
    have hlen:b.length≤100:=by have:=hb.len;omega
    have htwo:=hb.two
    cases m with
    |zero =>
      have c0:(((0:Nat):Int)=0)=True:=by simp
      repeat' (first|(apply nx;with_reducible constructor)|refine jq (by decide) ?_|((first|refine kx env fun Q hQ=>?_|refine kz fun Q hQ=>?_);simp only [vkt,seval,tbF20_94,xbF20_1,c0];(try simp only [ite_and]);(repeat' (first|with_reducible assumption|refine And.intro ?_ ?_|intro hp));all_goals (first|(refine hQ _ ?_;clear hQ Q)|(refine hQ _ (fun h=>?_) (fun h=>?_) <;> clear hQ Q <;> (try simp only [vki,reduceCtorEq] at h))|omega|assumption|with_reducible rfl|(refine kq ?_;kernel_rfl)|skip)))
      (simp only [vrt,Try.results94,vkt,seval,tbF20_94,xbF20_1];refine Fin.ok some [] ?_ ?_ ?_ ?_ ?_ rfl;all_goals (try simp only [vle,vkt,seval,tbF20_94,xbF20_1]))
      all_goals simp [growF]
    |succ m =>
      have c0:(((m+1:Nat):Int)=0)=False:=by simp;omega
      repeat' (first|(apply nx;with_reducible constructor)|refine jq (by decide) ?_|((first|refine kx env fun Q hQ=>?_|refine kz fun Q hQ=>?_);simp only [vkt,seval,tbF20_94,xbF20_1,c0];(try simp only [ite_and]);(repeat' (first|with_reducible assumption|refine And.intro ?_ ?_|intro hp));all_goals (first|(refine hQ _ ?_;clear hQ Q)|(refine hQ _ (fun h=>?_) (fun h=>?_) <;> clear hQ Q <;> (try simp only [vki,reduceCtorEq] at h))|omega|assumption|with_reducible rfl|(refine kq ?_;kernel_rfl)|skip)))
      refine sym_loop (fun i:{ i:Nat // f≤i∧i≤100∧∀ j,f≤j→j < i→(growF (hitB l bds) ps m (b++[ps.getD j []]) (j+1)).2=false }=>grS l bds ps b f (m+1) i.1) (fun i=>ps.length - i.1) ⟨f,Nat.le_refl _,hb.f,fun j h1 h2=>by omega⟩ ?_ fun ⟨i,hi,hi1,hno⟩=>?_
      · (refine Le.ok some [] ?_;constructor;all_goals (try simp only [vle,vkt,seval,tbF20_94,xbF20_1]))
        all_goals simp
      · repeat' (first|(apply nx;with_reducible constructor)|refine jq (by decide) ?_)
        (refine kx env fun Q hQ=>?_;simp only [vkt,seval,tbF20_94,xbF20_1];(try simp only [ite_and]);(repeat' (first|with_reducible assumption|refine And.intro ?_ ?_|intro hp));all_goals (first|(refine hQ _ ?_;clear hQ Q)|omega|assumption|with_reducible rfl|(refine kq ?_;kernel_rfl)|skip))
        repeat' (first|(apply nx;with_reducible constructor)|refine jq (by decide) ?_)
        (refine sym_cd (by simp only [vkt,seval,tbF20_94,xbF20_1];rfl) (fun h=>?_) (fun h=>?_) <;> (try simp only [vki,reduceCtorEq] at h))
        · have hlt:i < ps.length:=by omega
          have hpl:=hg.len
          have e9:=wrap_succ hlt (show ps.length≤maxLen by have:=tmax;omega)
          have e8:IntKind.wrap .i64 (((m+1:Nat):Int) - 1)=(m:Int):=by have:=hb.len;rw [wrap64 (by omega) (by omega)];omega
          have g1:=gIn0 hlt
          have hbg:b.map eInts++[[.sl ((ps.getD i []).map eInt)]]=(b++[ps.getD i []]).map eInts:=by rw [List.map_append];rfl
          have hB2:BgOk (b++[ps.getD i []]) (i+1) m:=⟨by have:=hb.len;simp;omega,fun p hp=>by
            rcases List.mem_append.1 hp with h|h
            · exact hb.two p h
            · rw [List.mem_singleton.1 h];exact hg.two _ (gMem (d:=[]) hlt),by omega⟩
          have cap:(b.length+1) * 16≤140737488355328∧b.length+1≤maxLen:=by
            have:(100000:Nat)≤maxLen:=by decide
            omega
          have t1:((i+1:Nat):Int).toNat=i+1:=Int.toNat_natCast _
          have t2:(m:Int).toNat=m:=Int.toNat_natCast _
          cases cc:(growF (hitB l bds) ps m (b++[ps.getD i []]) (i+1)).2
          · repeat' (first|(apply nx;with_reducible constructor)|refine jq (by decide) ?_|((first|refine kx env fun Q hQ=>?_|refine kz fun Q hQ=>?_);simp only [vkt,seval,tbF20_94,xbF20_1,e9,e8,g1,hbg,t1,t2,cc];(try simp only [ite_and]);(repeat' (first|with_reducible assumption|refine And.intro ?_ ?_|intro hp));all_goals (first|(refine hQ _ ?_;clear hQ Q)|(refine hQ _ (fun h=>?_) (fun h=>?_) <;> clear hQ Q <;> (try simp only [vki,reduceCtorEq] at h))|omega|assumption|with_reducible rfl|(refine kq ?_;kernel_rfl)|skip)))
            · exact ⟨_,_,rfl⟩
            · refine ⟨⟨i+1,by omega,by omega,fun j h1 h2=>?_⟩,by show ps.length - (i+1) < ps.length - i;omega, ?_⟩
              · rcases Nat.lt_or_eq_of_le (Nat.le_of_lt_succ h2) with h3|h3
                · exact hno j h1 h3
                · rw [h3];exact cc
              · (refine Le.ok some [] ?_;constructor;all_goals (try simp only [vle,vkt,seval,tbF20_94,xbF20_1]))
                all_goals first|rfl|(simp [e9];done)
          · repeat' (first|(apply nx;with_reducible constructor)|refine jq (by decide) ?_|((first|refine kx env fun Q hQ=>?_|refine kz fun Q hQ=>?_);simp only [vkt,seval,tbF20_94,xbF20_1,e9,e8,g1,hbg,t1,t2,cc];(try simp only [ite_and]);(repeat' (first|with_reducible assumption|refine And.intro ?_ ?_|intro hp));all_goals (first|(refine hQ _ ?_;clear hQ Q)|(refine hQ _ (fun h=>?_) (fun h=>?_) <;> clear hQ Q <;> (try simp only [vki,reduceCtorEq] at h))|omega|assumption|with_reducible rfl|(refine kq ?_;kernel_rfl)|skip)))
            · exact ⟨_,_,rfl⟩
            · have hh:=growF_hit hi hlt cc hno
              (simp only [vrt,Try.results94,vkt,seval,tbF20_94,xbF20_1];refine Fin.ok some [] ?_ ?_ ?_ ?_ ?_ rfl;all_goals (try simp only [vle,vkt,seval,tbF20_94,xbF20_1]))
              all_goals first|rfl|(simp [hh];done)
        · have hn:=growF_none (hit:=hitB l bds) (ps:=ps) (m:=m) (b:=b) (f:=f) fun j h1 h2=>hno j h1 (by omega)
          repeat' (first|(apply nx;with_reducible constructor)|refine jq (by decide) ?_|((first|refine kx env fun Q hQ=>?_|refine kz fun Q hQ=>?_);simp only [vkt,seval,tbF20_94,xbF20_1];(try simp only [ite_and]);(repeat' (first|with_reducible assumption|refine And.intro ?_ ?_|intro hp));all_goals (first|(refine hQ _ ?_;clear hQ Q)|(refine hQ _ (fun h=>?_) (fun h=>?_) <;> clear hQ Q <;> (try simp only [vki,reduceCtorEq] at h))|omega|assumption|with_reducible rfl|(refine kq ?_;kernel_rfl)|skip)))
          (simp only [vrt,Try.results94,vkt,seval,tbF20_94,xbF20_1];refine Fin.ok some [] ?_ ?_ ?_ ?_ ?_ rfl;all_goals (try simp only [vle,vkt,seval,tbF20_94,xbF20_1]))
          all_goals simp [hn]
end Go.Sym.B
namespace Go.Sym.B
open Go Go.Sym Go.Proofs Go.Sym.C
def pairsR (n:Nat) (d:Nat):List (List Int):=(List.range (n - 1)).map fun c:Nat=>[(d:Int),(c:Int)+1]
def pairsK (n:Nat) (k:Nat):List (List Int):=(List.range k).flatMap (pairsR n)
theorem pairsK_succ (n k:Nat):pairsK n (k+1)=pairsK n k++pairsR n k:=by
  unfold pairsK;rw [List.range_succ,List.flatMap_append];simp
theorem pairsR_len (n d:Nat):(pairsR n d).length=n - 1:=by simp [pairsR]
theorem pairsK_len (n k:Nat):(pairsK n k).length=k * (n - 1):=by
  induction k with
  |zero=>simp [pairsK]
  |succ k ih=>rw [pairsK_succ,List.length_append,ih,pairsR_len,Nat.succ_mul]
def pairsOf (l:Led):List (List Int):=pairsK l.coins.length l.rates.length
def growN (l:Led) (m:Nat):List (List Int) × Bool:=growF (hitB l (badL l)) (pairsOf l) m [] 0
theorem pairs_mem {l:Led} {d c:Int} (hd:0≤d) (hd':d≤(l.rates.length:Int) - 1) (hc:1≤c) (hc':c≤(l.coins.length:Int) - 1):[d,c] ∈ pairsOf l:=by
  unfold pairsOf pairsK pairsR
  refine List.mem_flatMap.2 ⟨d.toNat,List.mem_range.2 (by omega),List.mem_map.2 ⟨(c - 1).toNat,List.mem_range.2 (by omega), ?_⟩⟩
  rw [show ((d.toNat:Nat):Int)=d by omega,show (((c - 1).toNat:Nat):Int)+1=c by omega]
theorem hit_all {l:Led} (hV:Val l):hitB l (badL l) (pairsOf l)=true:=by
  unfold hitB
  rw [List.all_eq_true]
  intro y hy
  obtain ⟨i,hi,rfl⟩:=List.mem_map.1 hy
  obtain ⟨h1,h2⟩:=List.mem_filter.1 hi
  have h1:=List.mem_range.1 h1
  have hx:=val_entry hV h1
  unfold isBad at h2
  rw [Bool.and_eq_true,decide_eq_true_eq] at h2
  rw [Int.toNat_natCast]
  generalize l.entries.getD i default=x at *
  have k3:=h2.1
  have t1:=hx.to k3
  have t2:=hx.ne k3
  rw [List.any_eq_true]
  by_cases hc:1≤x.coin
  · exact ⟨_,pairs_mem hx.day.1 hx.day.2 hc hx.coin.2,by simp [metB]⟩
  · exact ⟨_,pairs_mem hx.day.1 hx.day.2 (show 1≤x.to by have:=hx.coin.1;omega) t1.2,by simp [metB]⟩
theorem growN_all {l:Led} (hV:Val l):(growN l (pairsOf l).length).2=true :=
  growF_all _ _ _ (by omega) (by rw [List.nil_append,List.drop_zero];exact hit_all hV)
end Go.Sym.B
namespace Go.Sym.B
open Go Go.Sym Go.Proofs Go.Sym.C
def wrongM (l:Led):Nat:=((List.range ((pairsOf l).length+1)).find? fun m=>(growN l m).2).getD 0
def wrongL (l:Led):List (List Int):=(growN l (wrongM l)).1
theorem wrongM_hit {l:Led} {m:Nat} (hm:m≤(pairsOf l).length) (h:(growN l m).2=true) (hb:∀ j,j < m→(growN l j).2=false):wrongM l=m:=by
  unfold wrongM
  have:(List.range ((pairsOf l).length+1)).find? (fun m=>(growN l m).2)=some m:=by
    rw [List.find?_range_eq_some]
    exact ⟨h,List.mem_range.2 (by omega),fun j hj=>by simpa using hb j hj⟩
  rw [this];rfl
def aWrong (l:Led):AV:=if checkE l ≠ 0 then .tup [.sl [],aI (checkE l)] else .tup [aIntss (wrongL l),aI 0]
def pairsC (d:Nat) (c:Nat):List (List Int):=(List.range c).map fun c:Nat=>[(d:Int),(c:Int)+1]
theorem pairsC_succ (d c:Nat):pairsC d (c+1)=pairsC d c++[[(d:Int),(c:Int)+1]]:=by
  unfold pairsC;rw [List.range_succ,List.map_append];rfl
theorem pairsC_len (d c:Nat):(pairsC d c).length=c:=by simp [pairsC]
def p94n (S:St):List AV→Option Pk
  |[.nil,.v (.int .i64 f),.v (.int .i64 m),.ptr a 0,.ptr b 0,.ptr c 0]=>match S.h a,S.h b,S.h c with
    |some (.cells [.clo 91 [.ptr x 0,.ptr y 0]]),some (.cells [.row z]),some (.cells [.clo 94 [.ptr a' 0,.ptr b' 0,.ptr c' 0]])=>match S.h x,S.h y,S.h z with
      |some (.cells [.sl bd]),some (.cells [.sl cs,.sl rs,.sl ss,.sl es]),some (.row 22 1 ps) =>
        some { pre:=a'=a∧b'=b∧c'=c∧bd=(bd.map dInt).map eInt∧isL cs rs ss es∧ps=(ps.map dInts).map eInts∧GrOk (ldOf cs rs ss es) (bd.map dInt) (ps.map dInts)∧BgOk [] f.toNat m.toNat∧0≤f∧0≤m,hs:=[a,b,c,x,y,z],ar:=[.sl [],.v (.int .i64 f),.v (.int .i64 m),.ptr 0 0,.ptr 1 0,.ptr 2 0],L0:=[.cells [.clo 91 [.ptr 3 0,.ptr 4 0]],.cells [.row 5],.cells [.clo 94 [.ptr 0 0,.ptr 1 0,.ptr 2 0]],.cells [.sl bd],.cells [.sl cs,.sl rs,.sl ss,.sl es],.row 22 1 ps],v:=.tup [aIntss (growF (hitB (ldOf cs rs ss es) (bd.map dInt)) (ps.map dInts) m.toNat [] f.toNat).1,aB (growF (hitB (ldOf cs rs ss es) (bd.map dInt)) (ps.map dInts) m.toNat [] f.toNat).2],L1:=[some (.cells [.clo 91 [.ptr 3 0,.ptr 4 0]]),some (.cells [.row 5]),some (.cells [.clo 94 [.ptr 0 0,.ptr 1 0,.ptr 2 0]]),some (.cells [.sl bd]),some (.cells [.sl cs,.sl rs,.sl ss,.sl es]),some (.row 22 1 ps)] }
      |_,_,_=>none
    |_,_,_=>none
  |_=>none
theorem e94n {A:Frm→Prop}:EntryOK A Try.prog 94 (fnE p94n):=fnE_ok fun S bs q h hp=>by
  unfold p94n at h
  split at h
  · split at h
    · split at h
      · rename_i f m a b c _ _ _ x y z a' b' c' _ _ _ _ _ _ bd cs rs ss es ps _ _ _
        cases h
        obtain ⟨_,_,_,h2,h3,h4,h5,h6,h7,h8⟩:=hp
        have:=grow_all m.toNat (ldOf cs rs ss es) (bd.map dInt) (ps.map dInts) [] f.toNat h5 h6
        simp only [grH,aIntss,aI,← h2,← h4,cLed_of' h3,Int.toNat_of_nonneg h7,Int.toNat_of_nonneg h8,List.map_nil] at this
        exact this
      · cases h
    · cases h
  · cases h
def wrH (l:Led) (ps:List (List Int)):List (Nat × AObj):=[(0,.cells (cLed l)),(1,.cells [.sl ((badL l).map eInt)]),(2,.cells [.row 3]),(3,.row 22 1 (ps.map eInts))]
def wrS1 (l:Led) (k:Nat):St:={ t:=asg [(1,.ptr 0 0),(2,.nil),(3,aI 0),(4,.ptr 1 0),(6,.ptr 2 0),(24,aI l.rates.length),(25,aI k)],h:=hasg (wrH l (pairsK l.coins.length k)),n:=4 }
def wrS2 (l:Led) (k c:Nat):St:={ t:=asg [(1,.ptr 0 0),(2,.nil),(3,aI 0),(4,.ptr 1 0),(6,.ptr 2 0),(7,aI k),(8,aI ((c:Int)+1)),(24,aI l.rates.length),(25,aI k)],h:=hasg (wrH l (pairsK l.coins.length k++pairsC k c)),n:=4 }
def wrS3 (l:Led) (m:Nat):St:={ t:=asg [(1,.ptr 0 0),(2,.nil),(3,aI 0),(4,.ptr 1 0),(6,.ptr 2 0),(9,.ptr 4 0),(10,.ptr 5 0),(11,aI m)],h:=hasg ([(4,.cells [.clo 91 [.ptr 1 0,.ptr 0 0]]),(5,.cells [.clo 94 [.ptr 4 0,.ptr 2 0,.ptr 5 0]])]++wrH l (pairsOf l)),n:=6 }
theorem badOk {l:Led} (h:Val l):BadOk l (badL l):=⟨by have:=badK_len l l.entries.length;have:=h.e;unfold badL;omega,fun i hi=>by
  obtain ⟨j,hj,rfl⟩:=List.mem_map.1 hi
  have:=List.mem_range.1 (List.mem_filter.1 hj).1
  omega⟩
theorem pairs_two (l:Led):∀ p ∈ pairsOf l,2≤p.length:=fun p hp=>by
  unfold pairsOf pairsK pairsR at hp
  obtain ⟨d,_,hp⟩:=List.mem_flatMap.1 hp
  obtain ⟨c,_,rfl⟩:=List.mem_map.1 hp
  simp
theorem pairs_len {l:Led} (h:Val l):(pairsOf l).length≤12:=by
  unfold pairsOf;rw [pairsK_len]
  have h1:=h.c
  have h2:=h.r
  calc l.rates.length * (l.coins.length - 1)≤4 * 3:=Nat.mul_le_mul h2.2 (by omega)
    _=12:=rfl
def tbF22_32:=kj @ty3 (kj @ty22 (kj @ty28 (kj @ty30 (kj @ty35 (kj @ty38 (kj @ty55 (kj @ty111 (kj @ty112 (kj @ti3.eq_1 (kj @ti22.eq_1 (kj @ti28.eq_1 (kj @ti30.eq_1 (kj @ti35.eq_1 (kj @ti38.eq_1 (kj @ti55.eq_1 (kj @ti111.eq_1 @ti112.eq_1))))))))))))))))
def xbF22_1:=kj @aI.eq_1 (kj @aB.eq_1 (kj @aLed.eq_1 (kj @cLed.eq_1 (kj @aInts.eq_1 (kj @aIntss.eq_1 (kj @wrH.eq_1 (kj @wrS1.eq_1 (kj @wrS2.eq_1 (kj @wrS3.eq_1 (kj @c31.eq_1 (kj @c31.eq_2 (kj @p94n.eq_1 (kj @p94n.eq_2 (kj @isL_e (kj @ldOf_e (kj @eInt.eq_1 (kj @rInt (kj @rInts (kj @mInt (kj @mInts (@eInts.eq_1)))))))))))))))))))))
set_option maxHeartbeats 2000000 in
theorem wrong_fn (l:Led) (hl:Fit l):FnV Try.prog 32 [aLed l] (aWrong l):=by
  have env:Env (fun _=>True) Try.prog tyB (tab [(31,valE false c31),(94,fnE p94n)]):=mkEnv ⟨d31,e94n,trivial⟩
  refine Fn.of (A:=fun _=>True) (n0:=0) (D:=noD) (Fn0 Try.func32 rfl (fun vs w=>by kernel_rfl) (by kernel_rfl)) (by simp) (by simp [AV.ids,AV.idsL,aLed,cLed]) (fun i o h=>by cases h) (fun _ _ _ _=>trivial) noD_ok ?_
  by_cases c0:checkE l=0
  · rw [show aWrong l=_ from if_neg (by rw [c0];simp)]
    have hb0:aBad l=.tup [.sl ((badL l).map eInt),.v (.int .i64 0)]:=if_neg (by rw [c0];simp)
    have hV:=val_of c0
    have q1:=hV.c
    have q2:=hV.r
    have q5:=tmax
    repeat' (first|(apply nx;with_reducible constructor)|refine jq (by decide) ?_|((first|refine kx env fun Q hQ=>?_|refine kz fun Q hQ=>?_);simp only [vkt,seval,tbF22_32,xbF22_1,hb0];(try simp only [ite_and]);(repeat' (first|with_reducible assumption|refine And.intro ?_ ?_|intro hp));all_goals (first|(refine hQ _ ?_;clear hQ Q)|(refine hQ _ (fun h=>?_) (fun h=>?_) <;> clear hQ Q <;> (try simp only [vki,reduceCtorEq] at h))|omega|assumption|with_reducible rfl|(refine kq ?_;kernel_rfl)|skip)))
    refine sym_loop (fun k:{ k:Nat // k≤l.rates.length }=>wrS1 l k.1) (fun k=>l.rates.length - k.1) ⟨0,Nat.zero_le _⟩ ?_ fun ⟨k,hk⟩=>?_
    · (refine Le.ok (fun j=>if j=3 then none else some j) [] ?_;constructor;all_goals (try simp only [vle,vkt,seval,tbF22_32,xbF22_1]))
      all_goals first|rfl|trivial|(simp [pairsK];done)
    · repeat' (first|(apply nx;with_reducible constructor)|refine jq (by decide) ?_)
      (refine kx env fun Q hQ=>?_;simp only [vkt,seval,tbF22_32,xbF22_1];(try simp only [ite_and]);(repeat' (first|with_reducible assumption|refine And.intro ?_ ?_|intro hp));all_goals (first|(refine hQ _ ?_;clear hQ Q)|omega|assumption|with_reducible rfl|(refine kq ?_;kernel_rfl)|skip))
      repeat' (first|(apply nx;with_reducible constructor)|refine jq (by decide) ?_)
      (refine sym_cd (by simp only [vkt,seval,tbF22_32,xbF22_1];rfl) (fun h=>?_) (fun h=>?_) <;> (try simp only [vki,reduceCtorEq] at h))
      · have hlt:k < l.rates.length:=by omega
        have e9:=wrap_succ hlt (show l.rates.length≤maxLen by omega)
        repeat' (first|(apply nx;with_reducible constructor)|refine jq (by decide) ?_|((first|refine kx env fun Q hQ=>?_|refine kz fun Q hQ=>?_);simp only [vkt,seval,tbF22_32,xbF22_1];(try simp only [ite_and]);(repeat' (first|with_reducible assumption|refine And.intro ?_ ?_|intro hp));all_goals (first|(refine hQ _ ?_;clear hQ Q)|(refine hQ _ (fun h=>?_) (fun h=>?_) <;> clear hQ Q <;> (try simp only [vki,reduceCtorEq] at h))|omega|assumption|with_reducible rfl|(refine kq ?_;kernel_rfl)|skip)))
        refine sym_loop (fun c:{ c:Nat // c≤l.coins.length - 1 }=>wrS2 l k c.1) (fun c=>l.coins.length - 1 - c.1) ⟨0,Nat.zero_le _⟩ ?_ fun ⟨c,hc⟩=>?_
        · (refine Le.ok some [] ?_;constructor;all_goals (try simp only [vle,vkt,seval,tbF22_32,xbF22_1]))
          all_goals first|rfl|trivial|(simp [pairsC];done)
        · repeat' (first|(apply nx;with_reducible constructor)|refine jq (by decide) ?_)
          (refine kx env fun Q hQ=>?_;simp only [vkt,seval,tbF22_32,xbF22_1];(try simp only [ite_and]);(repeat' (first|with_reducible assumption|refine And.intro ?_ ?_|intro hp));all_goals (first|(refine hQ _ ?_;clear hQ Q)|omega|assumption|with_reducible rfl|(refine kq ?_;kernel_rfl)|skip))
          repeat' (first|(apply nx;with_reducible constructor)|refine jq (by decide) ?_)
          (refine sym_cd (by simp only [vkt,seval,tbF22_32,xbF22_1];rfl) (fun h=>?_) (fun h=>?_) <;> (try simp only [vki,reduceCtorEq] at h))
          · have hlc:c < l.coins.length - 1:=by omega
            have e8:IntKind.wrap .i64 ((c:Int)+1+1)=(c:Int)+1+1:=wrap64 (by omega) (by omega)
            have pl:=pairsK_len l.coins.length k
            have pl2:k * (l.coins.length - 1)≤3 * 3:=Nat.mul_le_mul (by omega) (by omega)
            have cap:((pairsK l.coins.length k++pairsC k c).length+1) * 24≤140737488355328∧(pairsK l.coins.length k++pairsC k c).length+1≤maxLen:=by
              rw [List.length_append,pl,pairsC_len];omega
            repeat' (first|(apply nx;with_reducible constructor)|refine jq (by decide) ?_|((first|refine kx env fun Q hQ=>?_|refine kz fun Q hQ=>?_);simp only [vkt,seval,tbF22_32,xbF22_1,e8];(try simp only [ite_and]);(repeat' (first|with_reducible assumption|refine And.intro ?_ ?_|intro hp));all_goals (first|(refine hQ _ ?_;clear hQ Q)|(refine hQ _ (fun h=>?_) (fun h=>?_) <;> clear hQ Q <;> (try simp only [vki,reduceCtorEq] at h))|omega|assumption|with_reducible rfl|(refine kq ?_;kernel_rfl)|skip)))
            refine ⟨⟨c+1,by omega⟩,by show l.coins.length - 1 - (c+1) < l.coins.length - 1 - c;omega, ?_⟩
            (refine Le.ok (fun j=>if j=3 then some 6 else some j) [] ?_;constructor;all_goals (try simp only [vle,vkt,seval,tbF22_32,xbF22_1]))
            all_goals first|rfl|trivial|(simp [pairsC_succ,eInts,eInt];done)|(simp;done)
          · have hce:c=l.coins.length - 1:=by omega
            subst hce
            repeat' (first|(apply nx;with_reducible constructor)|refine jq (by decide) ?_|((first|refine kx env fun Q hQ=>?_|refine kz fun Q hQ=>?_);simp only [vkt,seval,tbF22_32,xbF22_1,e9];(try simp only [ite_and]);(repeat' (first|with_reducible assumption|refine And.intro ?_ ?_|intro hp));all_goals (first|(refine hQ _ ?_;clear hQ Q)|(refine hQ _ (fun h=>?_) (fun h=>?_) <;> clear hQ Q <;> (try simp only [vki,reduceCtorEq] at h))|omega|assumption|with_reducible rfl|(refine kq ?_;kernel_rfl)|skip)))
            refine ⟨⟨k+1,hlt⟩,by show l.rates.length - (k+1) < l.rates.length - k;omega, ?_⟩
            have hps:pairsK l.coins.length k++pairsC k (l.coins.length - 1)=pairsK l.coins.length (k+1):=(pairsK_succ _ _).symm
            (refine Le.ok some [] ?_;constructor;all_goals (try simp only [vle,vkt,seval,tbF22_32,xbF22_1]))
            all_goals first|rfl|trivial|(rw [hps];done)|(simp [hps,e9];done)
      · have hkn:k=l.rates.length:=by omega
        subst hkn
        have hgo:GrOk l (badL l) (pairsOf l):=⟨badOk hV,by have:=pairs_len hV;omega,pairs_two l⟩
        have hpl:=pairs_len hV
        repeat' (first|(apply nx;with_reducible constructor)|refine jq (by decide) ?_|((first|refine kx env fun Q hQ=>?_|refine kz fun Q hQ=>?_);simp only [vkt,seval,tbF22_32,xbF22_1];(try simp only [ite_and]);(repeat' (first|with_reducible assumption|refine And.intro ?_ ?_|intro hp));all_goals (first|(refine hQ _ ?_;clear hQ Q)|(refine hQ _ (fun h=>?_) (fun h=>?_) <;> clear hQ Q <;> (try simp only [vki,reduceCtorEq] at h))|omega|assumption|with_reducible rfl|(refine kq ?_;kernel_rfl)|skip)))
        refine sym_loop (fun m:{ m:Nat // m≤(pairsOf l).length∧∀ j,j < m→(growN l j).2=false }=>wrS3 l m.1) (fun m=>(pairsOf l).length - m.1) ⟨0,Nat.zero_le _,fun j h=>absurd h (Nat.not_lt_zero _)⟩ ?_ fun ⟨m,hm,hno⟩=>?_
        · (refine Le.ok some [] ?_;constructor;all_goals (try simp only [vle,vkt,seval,tbF22_32,xbF22_1]))
          all_goals first|rfl|trivial|(simp [pairsOf];done)
        · have hbg:BgOk [] 0 m:=⟨by simp;omega,fun p hp=>by simp at hp,Nat.zero_le _⟩
          have e9:IntKind.wrap .i64 ((m:Int)+1)=((m+1:Nat):Int):=by rw [wrap64 (by omega) (by omega)];rfl
          have t1:(m:Int).toNat=m:=Int.toNat_natCast _
          have hgr:growF (hitB l (badL l)) (pairsOf l) m [] 0=growN l m:=rfl
          cases cc:(growN l m).2
          · have hlt:m < (pairsOf l).length:=by
              rcases Nat.lt_or_eq_of_le hm with h|h
              · exact h
              · rw [h,growN_all hV] at cc;cases cc
            repeat' (first|(apply nx;with_reducible constructor)|refine jq (by decide) ?_|((first|refine kx env fun Q hQ=>?_|refine kz fun Q hQ=>?_);simp only [vkt,seval,tbF22_32,xbF22_1,e9,t1,hgr,cc];(try simp only [ite_and]);(repeat' (first|with_reducible assumption|refine And.intro ?_ ?_|intro hp));all_goals (first|(refine hQ _ ?_;clear hQ Q)|(refine hQ _ (fun h=>?_) (fun h=>?_) <;> clear hQ Q <;> (try simp only [vki,reduceCtorEq] at h))|omega|assumption|with_reducible rfl|(refine kq ?_;kernel_rfl)|skip)))
            refine ⟨⟨m+1,hlt,fun j hj=>?_⟩,by show (pairsOf l).length - (m+1) < (pairsOf l).length - m;omega, ?_⟩
            · rcases Nat.lt_or_eq_of_le (Nat.le_of_lt_succ hj) with h1|h1
              · exact hno j h1
              · rw [h1];exact cc
            · (refine Le.ok some [] ?_;constructor;all_goals (try simp only [vle,vkt,seval,tbF22_32,xbF22_1]))
              all_goals first|rfl|trivial|(simp [e9];done)
          · have hw:=wrongM_hit hm cc hno
            have hwl:wrongL l=(growN l m).1:=by unfold wrongL;rw [hw]
            repeat' (first|(apply nx;with_reducible constructor)|refine jq (by decide) ?_|((first|refine kx env fun Q hQ=>?_|refine kz fun Q hQ=>?_);simp only [vkt,seval,tbF22_32,xbF22_1,e9,t1,hgr,cc];(try simp only [ite_and]);(repeat' (first|with_reducible assumption|refine And.intro ?_ ?_|intro hp));all_goals (first|(refine hQ _ ?_;clear hQ Q)|(refine hQ _ (fun h=>?_) (fun h=>?_) <;> clear hQ Q <;> (try simp only [vki,reduceCtorEq] at h))|omega|assumption|with_reducible rfl|(refine kq ?_;kernel_rfl)|skip)))
            (simp only [vrt,Try.results32,vkt,seval,tbF22_32,xbF22_1];refine Fin.val rfl ?_;(try simp only [AV.le,AV.leL]))
            all_goals simp [hwl]
  · rw [show aWrong l=_ from if_pos c0]
    have hb0:aBad l=.tup [.sl [],aI (checkE l)]:=if_pos c0
    repeat' (first|(apply nx;with_reducible constructor)|refine jq (by decide) ?_|((first|refine kx env fun Q hQ=>?_|refine kz fun Q hQ=>?_);simp only [vkt,seval,tbF22_32,xbF22_1,hb0,c0];(try simp only [ite_and]);(repeat' (first|with_reducible assumption|refine And.intro ?_ ?_|intro hp));all_goals (first|(refine hQ _ ?_;clear hQ Q)|(refine hQ _ (fun h=>?_) (fun h=>?_) <;> clear hQ Q <;> (try simp only [vki,reduceCtorEq] at h))|omega|assumption|with_reducible rfl|(refine kq ?_;kernel_rfl)|skip)))
    (simp only [vrt,Try.results32,vkt,seval,tbF22_32,xbF22_1];refine Fin.val rfl ?_;(try simp only [AV.le,AV.leL]))
    all_goals simp
def c32:List AV→Prop × AV
  |[.agg [.sl cs,.sl rs,.sl ss,.sl es]]=>(isL cs rs ss es∧Fit (ldOf cs rs ss es),aWrong (ldOf cs rs ss es))
  |_=>(False,.junk)
theorem d32 {A:Frm→Prop}:EntryOK A Try.prog 32 (valE false c32):=valE_ok fun vs hv h=>by
  clear hv
  unfold c32 at h ⊢
  split at h
  · refine ⟨by unfold aWrong;split <;> simp [AV.plain,AV.plainL,aI,aIntss],fun h=>absurd h (by decide), ?_⟩
    rw [← aLed_of h.1];exact wrong_fn _ h.2
  · exact h.elim
end Go.Sym.B
namespace Go.Sym.B
open Go Go.Sym Go.Proofs Go.Sym.C
def c39:List AV→Prop × AV
  |[.agg [.sl cs,.sl rs,.sl ss,.sl es]]=>(isL cs rs ss es∧Fit (ldOf cs rs ss es),aBal (ldOf cs rs ss es))
  |_=>(False,.junk)
theorem d39 {A:Frm→Prop}:EntryOK A Try.prog 39 (valE true c39):=valE_ok fun vs hv h=>by
  clear hv
  unfold c39 at h ⊢
  split at h
  · refine ⟨by unfold aBal;split <;> simp [AV.plain,AV.plainL,aI,cAcc,z12],fun _=>by unfold aBal;split <;> simp [AV.flat,AV.flatL,aI,cAcc,z12], ?_⟩
    rw [← aLed_of h.1];exact bal_fn _ h.2
  · exact h.elim
def s36:List AV→Prop × AV
  |[.sl xs,.sl ys]=>(xs=(xs.map dInts).map eInts∧ys=(ys.map dInts).map eInts∧xs.length≤maxLen∧∀ p ∈ xs.map dInts,p.length≤maxLen,aB (decide (xs.map dInts=ys.map dInts)))
  |_=>(False,.junk)
theorem d36 {A:Frm→Prop}:EntryOK A Try.prog 36 (valE true s36):=valE_ok fun vs hv h=>by
  clear hv
  unfold s36 at h ⊢
  split at h
  · rename_i xs ys
    refine ⟨trivial,fun _=>trivial, ?_⟩
    have:=eqRows_fn (xs.map dInts) (ys.map dInts) (by simpa using h.2.2.1) h.2.2.2
    rwa [aIntss,← h.1,aIntss,← h.2.1] at this
  · exact h.elim
theorem fitW (g:Int):Fit (ledW g):=⟨by simp [ledW],fun p hp=>by simp [ledW] at hp;rcases hp with rfl|rfl <;> simp,by simp [ledW],fun p hp=>by simp [ledW] at hp;rcases hp with rfl|rfl <;> simp,by simp [ledW],by simp [ledW]⟩
theorem x1:aBal (ledW 22)=.tup [.agg [.v (.int .i64 30),.v (.int .i64 1),.v (.int .i64 30),.v (.int .i64 1),.v (.int .i64 15),.v (.int .i64 2),.v (.int .i64 1),.v (.int .i64 2),.v (.int .i64 (-2)),.v (.int .i64 1),.v (.int .i64 120),.v (.int .i64 1)],.v (.int .i64 0)]:=by kernel_rfl
theorem x2:aSwap (ledW 22) 0 1 0 15=.tup [.v (.int .i64 22),.agg [.v (.int .i64 1),.v (.int .i64 2)],.v (.int .i64 0)]:=by kernel_rfl
theorem x3:aPieces (ledW 22) 0 28=.tup [aInts [3,1,2],.v (.int .i64 0)]:=by kernel_rfl
theorem x4:aWrong (ledW 23)=.tup [aIntss [[0,1]],.v (.int .i64 0)]:=by kernel_rfl
theorem x5:aSplit 7 [2,0,1]=.tup [aInts [5,0,2],.v (.int .i64 0)]:=by kernel_rfl
theorem dIntV (n:Int):dInt [.v (.int .i64 n)]=n:=rfl
theorem dIntsV (l:List (List DV)):dInts [.sl l]=l.map dInt:=rfl
def tbF30_19:=kj @ty3 (kj @ty22 (kj @ty28 (kj @ty30 (kj @ty59 (kj @ty61 (kj @ti3.eq_1 (kj @ti22.eq_1 (kj @ti28.eq_1 (kj @ti30.eq_1 (kj @ti59.eq_1 @ti61.eq_1))))))))))
def xbF30_1:=kj @dIntV (kj @dIntsV (kj @aI.eq_1 (kj @aB.eq_1 (kj @aInts.eq_1 (kj @aIntss.eq_1 (kj @aLed.eq_1 (kj @cLed.eq_1 (kj @c39.eq_1 (kj @c39.eq_2 (kj @c48.eq_1 (kj @c48.eq_2 (kj @c28.eq_1 (kj @c28.eq_2 (kj @c32.eq_1 (kj @c32.eq_2 (kj @c24.eq_1 (kj @c24.eq_2 (kj @c76.eq_1 (kj @c76.eq_2 (kj @s40.eq_1 (kj @s40.eq_2 (kj @s26.eq_1 (kj @s26.eq_2 (kj @s36.eq_1 (kj @s36.eq_2 (kj @x1 (kj @x2 (kj @x3 (kj @x4 (kj @x5 (kj @isL_e (kj @ldOf_e (kj @mInts (kj @mInt (kj @eInt.eq_1 (@eInts.eq_1))))))))))))))))))))))))))))))))))))
set_option maxRecDepth 100000 in
set_option maxHeartbeats 4000000 in
theorem balanced_fn:FnV Try.prog 19 [] (aB true):=by
  have env:Env (fun _=>True) Try.prog tyB (tab [(76,valE false c76),(39,valE true c39),(48,valE true c48),(28,valE false c28),(32,valE false c32),(24,valE false c24),(40,valE true s40),(26,valE true s26),(36,valE true s36)]):=mkEnv ⟨d76,d39,d48,d28,d32,d24,e40,e26,d36,trivial⟩
  refine Fn.of (A:=fun _=>True) (n0:=0) (D:=noD) (Fn0 Try.func19 rfl (fun vs w=>by kernel_rfl) (by kernel_rfl)) (by simp) (by simp [AV.ids]) (fun i o h=>by cases h) (fun _ _ _ _=>trivial) noD_ok ?_
  have f1:=fitW 22
  have q1:3≤maxLen:=by decide
  have q2:1≤maxLen:=by decide
  have q3:2≤maxLen:=by decide
  have f2:=fitW 23
  repeat' (first|(apply nx;with_reducible constructor)|refine jq (by decide) ?_)
  (refine kx env fun Q hQ=>?_;simp only [vkt,seval,tbF30_19,xbF30_1,List.map_cons,List.map_nil];(try simp only [ite_and]);(repeat' (first|with_reducible assumption|refine And.intro ?_ ?_|intro hp));all_goals (first|(refine hQ _ ?_;clear hQ Q)|omega|assumption|with_reducible rfl|(refine kq ?_;kernel_rfl)|skip))
  repeat' (first|(apply nx;with_reducible constructor)|refine jq (by decide) ?_)
  (refine kx env fun Q hQ=>?_;simp only [vkt,seval,tbF30_19,xbF30_1,List.map_cons,List.map_nil];(try simp only [ite_and]);(repeat' (first|with_reducible assumption|refine And.intro ?_ ?_|intro hp));all_goals (first|(refine hQ _ ?_;clear hQ Q)|omega|assumption|with_reducible rfl|(refine kq ?_;kernel_rfl)|skip))
  repeat' (first|(apply nx;with_reducible constructor)|refine jq (by decide) ?_)
  (refine kx env fun Q hQ=>?_;simp only [vkt,seval,tbF30_19,xbF30_1,List.map_cons,List.map_nil];(try simp only [ite_and]);(repeat' (first|with_reducible assumption|refine And.intro ?_ ?_|intro hp));all_goals (first|(refine hQ _ ?_;clear hQ Q)|omega|assumption|with_reducible rfl|(refine kq ?_;kernel_rfl)|skip))
  repeat' (first|(apply nx;with_reducible constructor)|refine jq (by decide) ?_)
  (refine kx env fun Q hQ=>?_;simp only [vkt,seval,tbF30_19,xbF30_1,List.map_cons,List.map_nil];(try simp only [ite_and]);(repeat' (first|with_reducible assumption|refine And.intro ?_ ?_|intro hp));all_goals (first|(refine hQ _ ?_;clear hQ Q)|omega|assumption|with_reducible rfl|(refine kq ?_;kernel_rfl)|skip))
  repeat' (first|(apply nx;with_reducible constructor)|refine jq (by decide) ?_)
  (refine kx env fun Q hQ=>?_;simp only [vkt,seval,tbF30_19,xbF30_1,List.map_cons,List.map_nil];(try simp only [ite_and]);(repeat' (first|with_reducible assumption|refine And.intro ?_ ?_|intro hp));all_goals (first|(refine hQ _ ?_;clear hQ Q)|omega|assumption|with_reducible rfl|(refine kq ?_;kernel_rfl)|skip))
  repeat' (first|(apply nx;with_reducible constructor)|refine jq (by decide) ?_)
  (refine kx env fun Q hQ=>?_;simp only [vkt,seval,tbF30_19,xbF30_1,List.map_cons,List.map_nil];(try simp only [ite_and]);(repeat' (first|with_reducible assumption|refine And.intro ?_ ?_|intro hp));all_goals (first|(refine hQ _ ?_;clear hQ Q)|omega|assumption|with_reducible rfl|(refine kq ?_;kernel_rfl)|skip))
  repeat' (first|(apply nx;with_reducible constructor)|refine jq (by decide) ?_)
  refine sym_le (S':={ t:=asg [(2,aI 0),(5,aI 0),(7,aI 0),(9,aI 0),(11,aI 0),(3,aI 22),(4,.ptr 1 0),(1,.ptr 0 0),(6,aInts [3,1,2]),(8,aIntss [[0,1]]),(10,aInts [5,0,2])],h:=hasg [(0,.cells [.v (.int .i64 30),.v (.int .i64 1),.v (.int .i64 30),.v (.int .i64 1),.v (.int .i64 15),.v (.int .i64 2),.v (.int .i64 1),.v (.int .i64 2),.v (.int .i64 (-2)),.v (.int .i64 1),.v (.int .i64 120),.v (.int .i64 1)]),(1,.cells [aI 1,aI 2])],n:=2 }) ?_ ?_
  · (refine Le.ok some [] ?_;constructor;all_goals (try simp only [vle,vkt,seval,tbF30_19,xbF30_1,List.map_cons,List.map_nil]))
    all_goals first|rfl|(simp;done)
  (refine kx env fun Q hQ=>?_;simp only [vkt,seval,tbF30_19,xbF30_1,List.map_cons,List.map_nil];(try simp only [ite_and]);(repeat' (first|with_reducible assumption|refine And.intro ?_ ?_|intro hp));all_goals (first|(refine hQ _ ?_;clear hQ Q)|omega|assumption|with_reducible rfl|(refine kq ?_;kernel_rfl)|skip))
  repeat' (first|(apply nx;with_reducible constructor)|refine jq (by decide) ?_)
  (simp only [vrt,Try.results19,vkt,seval,tbF30_19,xbF30_1,List.map_cons,List.map_nil];refine Fin.val rfl ?_;(try simp only [AV.le,AV.leL]))
  all_goals simp
def c19:List AV→Prop × AV
  |[]=>(True,.v (.bool true))
  |_=>(False,.junk)
theorem d19 {A:Frm→Prop}:EntryOK A Try.prog 19 (valE true c19):=valE_ok fun vs hv h=>by
  clear hv
  unfold c19 at h ⊢
  split at h
  · exact ⟨trivial,fun _=>trivial,balanced_fn⟩
  · exact h.elim
end Go.Sym.B
