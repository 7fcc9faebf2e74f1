/- Walks and what they compute, joined: part 2. -/
import Derived.Test.YtoapndlmbpphfaaB2
import Derived.Test.YtoapndlmbpphfaaD1
set_option linter.all false
namespace Go.Sym.B
open Go Go.Sym Go.Proofs Go.Sym.C
theorem d113 {A:Frm→Prop}:EntryOK A Try.prog 113 (valE true c113):=valE_ok fun vs hv h=>by
  clear hv
  unfold c113 at h ⊢
  split at h
  · refine ⟨trivial,fun _=>trivial,?_⟩
    rw [← aLed_of h.1];exact rcoins_fn _ h.2
  · exact h.elim
end Go.Sym.B
namespace Go.Sym.B
open Go Go.Sym Go.Proofs Go.Sym.C
theorem ckC_es {l:Led} (h:ckC l=0) (hl:Fit l):EsOk l:=by
  unfold ckC at h
  split at h
  · rename_i h1;exact absurd h h1
  split at h
  · rename_i h1;exact absurd h h1
  unfold ckR at h
  split at h
  · rename_i h1;exact absurd h h1
  split at h
  · rename_i h1;exact absurd h h1
  split at h
  · exact absurd h (by decide)
  rename_i h3
  have h3:=Decidable.not_not.1 h3
  exact ⟨hl.c,hl.r,hl.e,h3,fun v hv=>by
    obtain ⟨j,hj,rfl⟩:=List.getElem_of_mem hv
    have:=errs_zero h hj
    unfold startE at this
    cases hb:inB (l.start.getD j 0) 0 999 with
    |true=>rw [inB_iff] at hb;simpa [List.getD_eq_getElem?_getD,hj] using hb
    |false=>rw [hb] at this;simp at this⟩
def rkT (l:Led) (k:Nat):St:={ t:=asg [(1,.ptr 0 0),(2,aI 0),(4,aI (stK l k).1),(5,aInts (stK l k).2),(6,aI k)],h:=hasg [(0,.cells (cLed l))],n:=1 }
def tbH4_51:=vk @ty3 (vk @ty22 (vk @ty30 (vk @ty36 (vk @ty38 (vk @ty48 (vk @ti3.eq_1 (vk @ti22.eq_1 (vk @ti30.eq_1 (vk @ti36.eq_1 (vk @ti38.eq_1 @ti48.eq_1))))))))))
def xbH4_1:=vk @aI.eq_1 (vk @aB.eq_1 (vk @aLed.eq_1 (vk @cLed.eq_1 (vk @aInts.eq_1 (vk @rkT.eq_1 (vk @gEnt (vk @eEnt.eq_1 (vk @c113.eq_1 (vk @c113.eq_2 (vk @s114.eq_1 (vk @s114.eq_2 (vk @s115.eq_1 (vk @s115.eq_2 (vk @isL_e (vk @ldOf_e (@mInt))))))))))))))))
set_option maxHeartbeats 4000000 in
theorem rcheck_fn (l:Led) (hl:Fit l):FnV Try.prog 51 [aLed l] (aI (checkE l)):=by
  have env:Env (fun _=>True) Try.prog tyB (tab [(113,valE true c113),(114,valE true s114),(115,valE false s115)]):=mkEnv ⟨d113,e114,e115,trivial⟩
  refine Fn.of (A:=fun _=>True) (n0:=0) (D:=noD) (Fn0 Try.func51 rfl (fun vs w=>by kernel_rfl) (by kernel_rfl)) (by simp) (by simp [AV.ids,AV.idsL,aLed,cLed]) (fun i o h=>by cases h) (fun _ _ _ _=>trivial) noD_ok ?_
  by_cases h0:ckC l=0
  · have hes:=ckC_es h0 hl
    have hce:checkE l=entriesE l:=by rw [checkE_eq,if_neg (by rw [h0];simp)]
    rw [hce]
    have q1:=hes.c
    have q2:=hes.r
    have q3:=hes.e
    have q5:=tmax
    by_cases a1:6 < l.entries.length
    · have a1':(6:Int) < (l.entries.length:Int):=by omega
      have h4:countedE l.entries.length 0 6=6:=by unfold countedE;rw [if_neg (by omega),if_pos a1']
      repeat' (first|(apply nx;with_reducible constructor)|refine uq (by decide) ?_|((first|refine vz env fun Q hQ=>?_|refine vj fun Q hQ=>?_);simp only [vkt,seval,tbH4_51,xbH4_1,h0,a1'];(try simp only [ite_and]);(repeat' (first|with_reducible assumption|refine And.intro ?_ ?_|intro hp));all_goals (first|(refine hQ _ ?_;clear hQ Q)|(refine hQ _ (fun h=>?_) (fun h=>?_) <;> clear hQ Q <;> (try simp only [vki,reduceCtorEq] at h))|omega|assumption|with_reducible rfl|(refine vq ?_;kernel_rfl)|skip)))
      (simp only [vrt,Try.results51,vkt,seval,tbH4_51,xbH4_1];refine Fin.val rfl ?_;(try simp only [AV.le,AV.leL]))
      all_goals (unfold entriesE;rw [if_pos (by rw [h4];decide),h4])
    · have a1':¬ (6:Int) < (l.entries.length:Int):=by omega
      have h4:countedE l.entries.length 0 6=0:=by unfold countedE;rw [if_neg (by omega),if_neg a1']
      have hE0:entriesE l=firstE (errs l.entries.length (eK l)):=by unfold entriesE;rw [if_neg (by rw [h4];simp)]
      repeat' (first|(apply nx;with_reducible constructor)|refine uq (by decide) ?_|((first|refine vz env fun Q hQ=>?_|refine vj fun Q hQ=>?_);simp only [vkt,seval,tbH4_51,xbH4_1,h0,a1'];(try simp only [ite_and]);(repeat' (first|with_reducible assumption|refine And.intro ?_ ?_|intro hp));all_goals (first|(refine hQ _ ?_;clear hQ Q)|(refine hQ _ (fun h=>?_) (fun h=>?_) <;> clear hQ Q <;> (try simp only [vki,reduceCtorEq] at h))|omega|assumption|with_reducible rfl|(refine vq ?_;kernel_rfl)|skip)))
      refine sym_loop (ι:=FI (errs l.entries.length (eK l))) (fun i=>rkT l i.k) (fun i=>l.entries.length - i.k) (FI.zero _) ?_ fun i=>?_
      · (refine Le.ok some [] ?_;constructor;all_goals (try simp only [vle,vkt,seval,tbH4_51,xbH4_1]))
        all_goals first|rfl|(simp [FI.zero,stK];done)
      · have hk:=i.le
        rw [errs_len] at hk
        have hall:∀ j,j < i.k→eK l j=0:=fun j hj=>by rw [← errs_get (eK l) (show j < l.entries.length by omega)];exact i.all j hj
        have hok:=hasOk_all hes.s hes.v i.k hk hall
        repeat' (first|(apply nx;with_reducible constructor)|refine uq (by decide) ?_)
        (refine vz env fun Q hQ=>?_;simp only [vkt,seval,tbH4_51,xbH4_1];(try simp only [ite_and]);(repeat' (first|with_reducible assumption|refine And.intro ?_ ?_|intro hp));all_goals (first|(refine hQ _ ?_;clear hQ Q)|omega|assumption|with_reducible rfl|(refine vq ?_;kernel_rfl)|skip))
        repeat' (first|(apply nx;with_reducible constructor)|refine uq (by decide) ?_)
        (refine sym_cd (by simp only [vkt,seval,tbH4_51,xbH4_1];rfl) (fun h=>?_) (fun h=>?_) <;> (try simp only [vki,reduceCtorEq] at h))
        · have hlt:i.k < l.entries.length:=by omega
          have hS:=stK_succ hlt
          have hE:=eK_eq l i.k
          have hN:eK l i.k=0→∃ i':FI (errs l.entries.length (eK l)),l.entries.length - i'.k < l.entries.length - i.k∧i'.k=i.k+1:=fun h1=>⟨i.next hlt h1,by show l.entries.length - (i.k+1) < _;omega,rfl⟩
          have out:eK l i.k ≠ 0→entriesE l=eK l i.k:=fun h1=>by rw [hE0,i.hit hlt h1]
          have e9:=wrap_succ hlt (show l.entries.length≤maxLen by omega)
          have k20:i.k≤100:=by omega
          generalize hx:l.entries.getD i.k default=x at *
          generalize hst:stK l i.k=st at *
          obtain ⟨b,has⟩:=st
          dsimp only at hE hok hS
          have ho:=hok.len
          have ho2:has.length≤100000:=by omega
          by_cases c1:eV l x b has=0
          · have c1':eV l ⟨x.day,x.kind,x.coin,x.to,x.amount,x.got⟩ b has=0:=c1
            have hent:entryE l x b=0:=by
              unfold eV at c1
              split at c1
              · rename_i h1;exact absurd c1 h1
              · rename_i h1;exact Decidable.not_not.1 h1
            have hen:EnOk has ⟨x.day,x.kind,x.coin,x.to,x.amount,x.got⟩:=enOk_of hok k20 (entryE_ok hent)
            obtain ⟨i',g1,g2⟩:=hN (by rw [hE];exact c1)
            repeat' (first|(apply nx;with_reducible constructor)|refine uq (by decide) ?_|((first|refine vz env fun Q hQ=>?_|refine vj fun Q hQ=>?_);simp only [vkt,seval,tbH4_51,xbH4_1,hx,c1',e9];(try simp only [ite_and]);(repeat' (first|with_reducible assumption|refine And.intro ?_ ?_|intro hp));all_goals (first|(refine hQ _ ?_;clear hQ Q)|(refine hQ _ (fun h=>?_) (fun h=>?_) <;> clear hQ Q <;> (try simp only [vki,reduceCtorEq] at h))|omega|assumption|with_reducible rfl|(refine vq ?_;kernel_rfl)|skip)))
            refine ⟨i',g1,?_⟩
            rw [g2]
            (refine Le.ok some [] ?_;constructor;all_goals (try simp only [vle,vkt,seval,tbH4_51,xbH4_1]))
            all_goals first|rfl|(simp [hS];done)
          · have c1':¬ eV l ⟨x.day,x.kind,x.coin,x.to,x.amount,x.got⟩ b has=0:=c1
            repeat' (first|(apply nx;with_reducible constructor)|refine uq (by decide) ?_|((first|refine vz env fun Q hQ=>?_|refine vj fun Q hQ=>?_);simp only [vkt,seval,tbH4_51,xbH4_1,hx,c1'];(try simp only [ite_and]);(repeat' (first|with_reducible assumption|refine And.intro ?_ ?_|intro hp));all_goals (first|(refine hQ _ ?_;clear hQ Q)|(refine hQ _ (fun h=>?_) (fun h=>?_) <;> clear hQ Q <;> (try simp only [vki,reduceCtorEq] at h))|omega|assumption|with_reducible rfl|(refine vq ?_;kernel_rfl)|skip)))
            (simp only [vrt,Try.results51,vkt,seval,tbH4_51,xbH4_1];refine Fin.val rfl ?_;(try simp only [AV.le,AV.leL]))
            all_goals (rw [out (by rw [hE];exact c1),hE])
        · repeat' (first|(apply nx;with_reducible constructor)|refine uq (by decide) ?_|((first|refine vz env fun Q hQ=>?_|refine vj fun Q hQ=>?_);simp only [vkt,seval,tbH4_51,xbH4_1];(try simp only [ite_and]);(repeat' (first|with_reducible assumption|refine And.intro ?_ ?_|intro hp));all_goals (first|(refine hQ _ ?_;clear hQ Q)|(refine hQ _ (fun h=>?_) (fun h=>?_) <;> clear hQ Q <;> (try simp only [vki,reduceCtorEq] at h))|omega|assumption|with_reducible rfl|(refine vq ?_;kernel_rfl)|skip)))
          (simp only [vrt,Try.results51,vkt,seval,tbH4_51,xbH4_1];refine Fin.val rfl ?_;(try simp only [AV.le,AV.leL]))
          all_goals (rw [hE0,i.last (by omega)])
  · have hce:checkE l=ckC l:=by rw [checkE_eq,if_pos h0]
    rw [hce]
    repeat' (first|(apply nx;with_reducible constructor)|refine uq (by decide) ?_|((first|refine vz env fun Q hQ=>?_|refine vj fun Q hQ=>?_);simp only [vkt,seval,tbH4_51,xbH4_1,h0];(try simp only [ite_and]);(repeat' (first|with_reducible assumption|refine And.intro ?_ ?_|intro hp));all_goals (first|(refine hQ _ ?_;clear hQ Q)|(refine hQ _ (fun h=>?_) (fun h=>?_) <;> clear hQ Q <;> (try simp only [vki,reduceCtorEq] at h))|omega|assumption|with_reducible rfl|(refine vq ?_;kernel_rfl)|skip)))
    (simp only [vrt,Try.results51,vkt,seval,tbH4_51,xbH4_1];refine Fin.val rfl ?_;(try simp only [AV.le,AV.leL]))
    all_goals simp
theorem d51 {A:Frm→Prop}:EntryOK A Try.prog 51 (valE true c50):=valE_ok fun vs hv h=>by
  clear hv
  unfold c50 at h ⊢
  split at h
  · refine ⟨trivial,fun _=>trivial,?_⟩
    rw [← aLed_of h.1];exact rcheck_fn _ h.2
  · exact h.elim
end Go.Sym.B
namespace Go.Sym.B
open Go Go.Sym Go.Proofs Go.Sym.C
def cpT (ps d:List Int) (i:Nat):St:={ t:=asg [(0,aInts ps),(1,aInts d),(4,aI 0),(5,aI i)],h:=hasg [],n:=0 }
def tbN11_127:=vk @ty3 (vk @ty22 (vk @ti3.eq_1 @ti22.eq_1))
def xbN11_1:=vk @aI.eq_1 (vk @aB.eq_1 (vk @aInts.eq_1 (vk @mInt (vk @eInt.eq_1 (vk @gInt (vk @s79.eq_1 (@s79.eq_2)))))))
theorem cpurse_fn (ps d:List Int) (hs:ps.length≤100) (hd:d.length≤100):FnV Try.prog 127 [aInts ps,aInts d] (aI (purseE ps.length d)):=by
  have env:Env (fun _=>True) Try.prog tyB (tab [(82,valE true s79)]):=mkEnv ⟨e82,trivial⟩
  refine Fn.of (A:=fun _=>True) (n0:=0) (D:=noD) (Fn0 Try.func127 rfl (fun vs w=>by kernel_rfl) (by kernel_rfl)) (by simp) (by simp [AV.ids,aInts]) (fun i o h=>by cases h) (fun _ _ _ _=>trivial) noD_ok ?_
  by_cases h2:d.length=ps.length
  · have h2':(d.length:Int)=(ps.length:Int):=by omega
    have hp:purseE ps.length d=firstE (errs d.length (purE d)):=by unfold purseE;rw [if_neg (by simpa using h2)]
    rw [hp]
    repeat' (first|(apply nx;with_reducible constructor)|refine uq (by decide) ?_|((first|refine vz env fun Q hQ=>?_|refine vj fun Q hQ=>?_);simp only [vkt,seval,tbN11_127,xbN11_1,cpT,h2'];(try simp only [ite_and]);(repeat' (first|with_reducible assumption|refine And.intro ?_ ?_|intro hp));all_goals (first|(refine hQ _ ?_;clear hQ Q)|(refine hQ _ (fun h=>?_) (fun h=>?_) <;> clear hQ Q <;> (try simp only [vki,reduceCtorEq] at h))|(refine vq ?_;kernel_rfl)|omega|assumption|with_reducible rfl|skip)))
    refine sym_loop (ι:=FI (errs d.length (purE d))) (fun j=>cpT ps d j.k) (fun j=>d.length - j.k) (FI.zero _) ?_ fun j=>?_
    · (refine Le.ok some [] ?_;constructor;all_goals (try simp only [vle,vkt,seval,tbN11_127,xbN11_1,cpT]))
      all_goals first|(simp [FI.zero];done)
    · have hj:=j.le
      rw [errs_len] at hj
      repeat' (first|(apply nx;with_reducible constructor)|refine uq (by decide) ?_)
      (refine vz env fun Q hQ=>?_;simp only [vkt,seval,tbN11_127,xbN11_1,cpT];(try simp only [ite_and]);(repeat' (first|with_reducible assumption|refine And.intro ?_ ?_|intro hp));all_goals (first|(refine hQ _ ?_;clear hQ Q)|(refine vq ?_;kernel_rfl)|omega|assumption|with_reducible rfl|skip))
      repeat' (first|(apply nx;with_reducible constructor)|refine uq (by decide) ?_)
      (refine sym_cd (by simp only [vkt,seval,tbN11_127,xbN11_1,cpT];rfl) (fun h=>?_) (fun h=>?_) <;> (try simp only [vki,reduceCtorEq] at h))
      · have hjl:j.k < d.length:=by omega
        have e8:IntKind.wrap .i64 ((j.k:Int)+1)=((j.k+1:Nat):Int):=by rw [wrap64 (by omega) (by omega)];rfl
        by_cases c1:inB (d.getD j.k 0) 0 4=true
        · repeat' (first|(apply nx;with_reducible constructor)|refine uq (by decide) ?_|((first|refine vz env fun Q hQ=>?_|refine vj fun Q hQ=>?_);simp only [vkt,seval,tbN11_127,xbN11_1,cpT,c1];(try simp only [ite_and]);(repeat' (first|with_reducible assumption|refine And.intro ?_ ?_|intro hp));all_goals (first|(refine hQ _ ?_;clear hQ Q)|(refine hQ _ (fun h=>?_) (fun h=>?_) <;> clear hQ Q <;> (try simp only [vki,reduceCtorEq] at h))|(refine vq ?_;kernel_rfl)|omega|assumption|with_reducible rfl|skip)))
          refine ⟨j.next hjl (by unfold purE;rw [c1];rfl),by show d.length - (j.k+1) < _;omega,?_⟩
          (refine Le.ok some [] ?_;constructor;all_goals (try simp only [vle,vkt,seval,tbN11_127,xbN11_1,cpT]))
          all_goals first|(simp [FI.next,e8];done)
        · have c1:inB (d.getD j.k 0) 0 4=false:=by simpa using c1
          have hj1:=j.hit hjl (by unfold purE;rw [c1];simp)
          have hj2:purE d j.k=1:=by unfold purE;rw [c1];rfl
          rw [hj1,hj2]
          repeat' (first|(apply nx;with_reducible constructor)|refine uq (by decide) ?_|((first|refine vz env fun Q hQ=>?_|refine vj fun Q hQ=>?_);simp only [vkt,seval,tbN11_127,xbN11_1,cpT,c1];(try simp only [ite_and]);(repeat' (first|with_reducible assumption|refine And.intro ?_ ?_|intro hp));all_goals (first|(refine hQ _ ?_;clear hQ Q)|(refine hQ _ (fun h=>?_) (fun h=>?_) <;> clear hQ Q <;> (try simp only [vki,reduceCtorEq] at h))|(refine vq ?_;kernel_rfl)|omega|assumption|with_reducible rfl|skip)))
          (simp only [vrt,Try.results127,vkt,seval,tbN11_127,xbN11_1,cpT];refine Fin.val rfl ?_;(try simp only [AV.le,AV.leL]))
          all_goals first|rfl|(simp;done)
      · have hf:=j.last (by omega)
        rw [hf]
        repeat' (first|(apply nx;with_reducible constructor)|refine uq (by decide) ?_|((first|refine vz env fun Q hQ=>?_|refine vj fun Q hQ=>?_);simp only [vkt,seval,tbN11_127,xbN11_1,cpT];(try simp only [ite_and]);(repeat' (first|with_reducible assumption|refine And.intro ?_ ?_|intro hp));all_goals (first|(refine hQ _ ?_;clear hQ Q)|(refine hQ _ (fun h=>?_) (fun h=>?_) <;> clear hQ Q <;> (try simp only [vki,reduceCtorEq] at h))|(refine vq ?_;kernel_rfl)|omega|assumption|with_reducible rfl|skip)))
        (simp only [vrt,Try.results127,vkt,seval,tbN11_127,xbN11_1,cpT];refine Fin.val rfl ?_;(try simp only [AV.le,AV.leL]))
        all_goals first|rfl|(simp;done)
  · have h2':¬ (d.length:Int)=(ps.length:Int):=by omega
    rw [show purseE ps.length d=2 from if_pos h2]
    repeat' (first|(apply nx;with_reducible constructor)|refine uq (by decide) ?_|((first|refine vz env fun Q hQ=>?_|refine vj fun Q hQ=>?_);simp only [vkt,seval,tbN11_127,xbN11_1,cpT,h2'];(try simp only [ite_and]);(repeat' (first|with_reducible assumption|refine And.intro ?_ ?_|intro hp));all_goals (first|(refine hQ _ ?_;clear hQ Q)|(refine hQ _ (fun h=>?_) (fun h=>?_) <;> clear hQ Q <;> (try simp only [vki,reduceCtorEq] at h))|(refine vq ?_;kernel_rfl)|omega|assumption|with_reducible rfl|skip)))
    (simp only [vrt,Try.results127,vkt,seval,tbN11_127,xbN11_1,cpT];refine Fin.val rfl ?_;(try simp only [AV.le,AV.leL]))
    all_goals first|rfl|(simp;done)
def c127:List AV→Prop × AV
  |[.sl cs,.sl xs]=>(cs=(cs.map dInt).map eInt∧xs=(xs.map dInt).map eInt∧(cs.map dInt).length≤100∧(xs.map dInt).length≤100,aI (purseE (cs.map dInt).length (xs.map dInt)))
  |_=>(False,.junk)
theorem d127 {A:Frm→Prop}:EntryOK A Try.prog 127 (valE true c127):=valE_ok fun vs hv h=>by
  clear hv
  unfold c127 at h ⊢
  split at h
  · obtain ⟨h1,h2,h3,h4⟩:=h
    refine ⟨by simp [AV.plain,aI],fun _=>by simp [AV.flat,aI],?_⟩
    have:=cpurse_fn _ _ h3 h4
    simp only [aInts,← h1,← h2] at this
    exact this
  · exact h.elim
theorem money1 (l:Led) (c n:Int) (d:List Int):moneyE l c n [d]=if checkE l ≠ 0 then checkE l else if !inB c 0 ((l.coins.length:Int) - 1) then 3 else if purseE (l.coins.getD c.toNat []).length d ≠ 0 then purseE (l.coins.getD c.toNat []).length d else if !inB n 0 999 then 1 else 0:=by
  have h:firstE (errs [d].length (pursesE l c [d]))=purseE (l.coins.getD c.toNat []).length d:=by
    show firstE [purseE (l.coins.getD c.toNat []).length d]=_
    by_cases h:purseE (l.coins.getD c.toNat []).length d=0
    · rw [firstE,if_pos h,h];rfl
    · rw [firstE,if_neg h]
  unfold moneyE
  rw [h]
theorem aChg_err {l:Led} {c n:Int} {d:List Int} {e:Int} (h:moneyE l c n [d]=e) (he:e ≠ 0):aChg l c d n=.tup [.sl [],aI e]:=by
  unfold aChg
  rw [if_pos (by rw [h];exact he),h]
theorem pkG_skip {α:Type} {c:α→Int} {f:α→Bool} {a:α} {o:Option α} (hf:f a=false):pkG c f o a=o:=by unfold pkG;rw [if_neg (by rw [hf];simp)]
def chSel (ps:List Int) (n:Int) (x:List Int):Bool:=decide (dotL ps x=n)
def rcO (ps d:List Int) (n:Int) (i:Nat):Option (List Int):=((partsL d).take i).foldl (pkG List.sum (chSel ps n)) none
theorem rcO_succ {ps d:List Int} {n:Int} {i:Nat} (hi:i < (partsL d).length):rcO ps d n (i+1)=pkG List.sum (chSel ps n) (rcO ps d n i) ((partsL d).getD i []):=by
  unfold rcO
  rw [List.take_succ_eq_append_getElem hi,List.foldl_append]
  simp [List.getD_eq_getElem?_getD,hi]
def rcS (l:Led) (c:Int) (d:List Int) (n:Int) (o:Option (List Int)) (i:Nat):St:={ t:=asg [(1,aI c),(2,aInts d),(3,aI n),(4,.ptr 0 0),(12,aInts (oL o)),(13,aB o.isSome),(14,aIntss (partsL d)),(15,aI i)],h:=hasg [(0,.cells (cLed l))],n:=1 }
theorem purse_ok {n:Nat} {p:List Int} (h:purseE n p=0):p.length=n∧∀ v ∈ p,0≤v∧v≤4:=by
  unfold purseE at h
  by_cases h1:p.length=n
  · rw [if_neg (by simpa using h1)] at h
    refine ⟨h1,fun v hv=>?_⟩
    obtain ⟨i,hi,rfl⟩:=List.mem_iff_getElem.1 hv
    have h2:=firstE_zero h (purE p i) (List.mem_map.2 ⟨i,List.mem_range.2 hi,rfl⟩)
    unfold purE at h2
    cases hb:inB (p.getD i 0) 0 4 with
    |false=>rw [hb] at h2;simp at h2
    |true =>
      have:=inB_iff.1 hb
      rwa [show p.getD i 0=p[i] by simp [List.getD_eq_getElem?_getD,hi]] at this
  · rw [if_pos h1] at h;cases h
def tbN11_70:=vk @ty3 (vk @ty22 (vk @ty28 (vk @ty30 (vk @ty38 (vk @ti3.eq_1 (vk @ti22.eq_1 (vk @ti28.eq_1 (vk @ti30.eq_1 @ti38.eq_1))))))))
def xbN11_2:=vk @aI.eq_1 (vk @aB.eq_1 (vk @aLed.eq_1 (vk @cLed.eq_1 (vk @aInts.eq_1 (vk @aIntss.eq_1 (vk @mInt (vk @mInts (vk @eInt.eq_1 (vk @gInt (vk @eInts.eq_1 (vk @gInts (vk @s79.eq_1 (vk @s79.eq_2 (vk @c50.eq_1 (vk @c50.eq_2 (vk @s83.eq_1 (vk @s83.eq_2 (vk @isL_e (@ldOf_e)))))))))))))))))))
set_option maxHeartbeats 8000000 in
theorem rchange_fn (l:Led) (c:Int) (d:List Int) (n:Int) (hl:Fit l) (hd:d.length≤20):FnV Try.prog 70 [aLed l,aI c,aInts d,aI n] (aChg l c d n):=by
  have env:Env (fun _=>True) Try.prog tyB (tab [(51,valE true c50),(72,valE true c72),(75,valE false c75),(82,valE true s79),(83,valE true s83),(127,valE true c127)]):=mkEnv ⟨d51,d72,d75,e82,e83,d127,trivial⟩
  refine Fn.of (A:=fun _=>True) (n0:=0) (D:=noD) (Fn0 Try.func70 rfl (fun vs w=>by kernel_rfl) (by kernel_rfl)) (by simp) (by simp [AV.ids,AV.idsL,aI,aLed,cLed,aInts]) (fun i o h=>by cases h) (fun _ _ _ _=>trivial) noD_ok ?_
  have hm:=money1 l c n d
  have zn:∀ n:Int,decide (n=n)=true:=fun n=>decide_eq_true rfl
  by_cases h0:checkE l=0
  · have hV:=val_of h0
    have v1:=hV.c
    rw [if_neg (by rw [h0];simp)] at hm
    have w1:IntKind.wrap .i64 ((l.coins.length:Int) - 1)=(l.coins.length:Int) - 1:=wrap64 (by omega) (by omega)
    by_cases h1:inB c 0 ((l.coins.length:Int) - 1)=true
    · rw [if_neg (by rw [h1];simp)] at hm
      have b1:=inB_iff.1 h1
      have g1:0≤c:=b1.1
      have g2:c.toNat < l.coins.length:=by omega
      have hps:=coin_ok (hV.cs _ g2)
      obtain ⟨ps,hP⟩:∃ x,l.coins.getD c.toNat []=x:=⟨_,rfl⟩
      rw [hP] at hps hm
      have hpl:=hps.l
      have hpz:PzOk ps:=⟨hpl.2,hps.b⟩
      have p100:ps.length≤100:=by omega
      have d100:d.length≤100:=by omega
      by_cases h2:purseE ps.length d=0
      · rw [if_neg (by rw [h2];simp)] at hm
        obtain ⟨hdl,hdb⟩:=purse_ok h2
        by_cases h3:inB n 0 999=true
        · rw [if_neg (by rw [h3];simp)] at hm
          have hn:=inB_iff.1 h3
          have hd0:∀ x ∈ d,0≤x:=fun x hx=>(hdb x hx).1
          have hdl4:d.length≤4:=by omega
          have hmB:=fun x hx=>part_bd hdb hdl4 (x:=x) hx
          have lenB:(partsL d).length≤625:=Nat.le_trans (parts_le fun n hn=>(hdb n hn).2) (Nat.le_trans (Nat.pow_le_pow_right (by decide) hdl4) (by decide))
          have hv:=aChg_of (o:=chs ps d n) hm hd0 (by rw [hP])
          have hend:rcO ps d n (partsL d).length=chs ps d n:=by unfold rcO;rw [List.take_length];rfl
          rw [hv]
          repeat' (first|(apply nx;with_reducible constructor)|refine uq (by decide) ?_|((first|refine vz env fun Q hQ=>?_|refine vj fun Q hQ=>?_);simp only [vkt,seval,tbN11_70,xbN11_2,rcS,c127,c72,c75,h0,w1,h1,h2,h3,g1,g2,hP,p100,d100];(try simp only [ite_and]);(repeat' (first|with_reducible assumption|refine And.intro ?_ ?_|intro hp));all_goals (first|(refine hQ _ ?_;clear hQ Q)|(refine hQ _ (fun h=>?_) (fun h=>?_) <;> clear hQ Q <;> (try simp only [vki,reduceCtorEq] at h))|(refine vq ?_;kernel_rfl)|omega|assumption|with_reducible rfl|skip)))
          refine sym_loop (fun i:{ i:Nat // i≤(partsL d).length }=>rcS l c d n (rcO ps d n i.1) i.1) (fun i=>(partsL d).length - i.1) ⟨0,Nat.zero_le _⟩ ?_ fun ⟨i,hi⟩=>?_
          · (refine Le.ok some [] ?_;constructor;all_goals (try simp only [vle,vkt,seval,tbN11_70,xbN11_2,rcS,c127,c72,c75]))
            all_goals first|rfl|(simp [rcO,oL];done)
          · repeat' (first|(apply nx;with_reducible constructor)|refine uq (by decide) ?_)
            (refine vz env fun Q hQ=>?_;simp only [vkt,seval,tbN11_70,xbN11_2,rcS,c127,c72,c75];(try simp only [ite_and]);(repeat' (first|with_reducible assumption|refine And.intro ?_ ?_|intro hp));all_goals (first|(refine hQ _ ?_;clear hQ Q)|(refine vq ?_;kernel_rfl)|omega|assumption|with_reducible rfl|skip))
            repeat' (first|(apply nx;with_reducible constructor)|refine uq (by decide) ?_)
            (refine sym_cd (by simp only [vkt,seval,tbN11_70,xbN11_2,rcS,c127,c72,c75];rfl) (fun h=>?_) (fun h=>?_) <;> (try simp only [vki,reduceCtorEq] at h))
            · have hkl:i < (partsL d).length:=by omega
              obtain ⟨x,hx⟩:∃ x,(partsL d).getD i []=x:=⟨_,rfl⟩
              obtain ⟨xl,xb,xs0,xs1⟩:=hmB x (hx ▸ gMem hkl)
              have sx:=sum_pSum x
              have hRS:=rcO_succ (ps:=ps) (n:=n) hkl
              rw [hx] at hRS
              obtain ⟨ok,hok2⟩:∃ o,rcO ps d n i=o:=⟨_,rfl⟩
              have hbk:∀ b,ok=some b→b ∈ partsL d:=fun q hq=>by
                rw [← hok2] at hq
                rcases (pk_some hq).1 with h|h
                · cases h
                · exact List.mem_of_mem_take h.1
              rw [hok2] at hRS
              have e8:IntKind.wrap .i64 ((i:Int)+1)=((i+1:Nat):Int):=by rw [wrap64 (by omega) (by omega)];rfl
              obtain ⟨px,hpx⟩:∃ v,pSum x=v:=⟨_,rfl⟩
              obtain ⟨vx,hvx⟩:∃ v,dotL ps x=v:=⟨_,rfl⟩
              rw [hpx] at sx
              have x1:x.length≤10000:=by omega
              have x2:∀ v ∈ x,0≤v∧v≤1000000:=fun v hv=>by have:=xb v hv;omega
              have xl2:x.length≤ps.length:=by omega
              by_cases c1:vx=n
              · have hf:chSel ps n x=true:=by show decide (dotL ps x=n)=true;rw [hvx];exact decide_eq_true c1
                cases ok with
                |none =>
                  rw [pkG_none hf] at hRS
                  repeat' (first|(apply nx;with_reducible constructor)|refine uq (by decide) ?_|((first|refine vz env fun Q hQ=>?_|refine vj fun Q hQ=>?_);simp only [vkt,seval,tbN11_70,xbN11_2,rcS,c127,c72,c75,g1,g2,hP,hx,hpx,hvx,c1,zn,decide_true,Bool.not_true,Bool.not_false,e8,hok2,oL,Option.getD_none,Option.isSome_none];(try simp only [ite_and]);(repeat' (first|with_reducible assumption|refine And.intro ?_ ?_|intro hp));all_goals (first|(refine hQ _ ?_;clear hQ Q)|(refine hQ _ (fun h=>?_) (fun h=>?_) <;> clear hQ Q <;> (try simp only [vki,reduceCtorEq] at h))|(refine vq ?_;kernel_rfl)|omega|assumption|with_reducible rfl|skip)))
                  refine ⟨⟨i+1,hkl⟩,by show (partsL d).length - (i+1) < (partsL d).length - i;omega,?_⟩
                  (refine Le.ok some [] ?_;constructor;all_goals (try simp only [vle,vkt,seval,tbN11_70,xbN11_2,rcS,c127,c72,c75]))
                  all_goals first|rfl|(simp [hRS,oL];done)
                |some b =>
                  rw [pkG_some hf] at hRS
                  obtain ⟨bl,bb,bs0,bs1⟩:=hmB b (hbk b rfl)
                  have sb:=sum_pSum b
                  obtain ⟨pb,hpb⟩:∃ v,pSum b=v:=⟨_,rfl⟩
                  rw [hpb] at sb
                  have b1':b.length≤10000:=by omega
                  have b2':∀ v ∈ b,0≤v∧v≤1000000:=fun v hv=>by have:=bb v hv;omega
                  by_cases c3:px < pb
                  · have hbt:btr List.sum b x=x:=if_pos (by omega)
                    rw [hbt] at hRS
                    repeat' (first|(apply nx;with_reducible constructor)|refine uq (by decide) ?_|((first|refine vz env fun Q hQ=>?_|refine vj fun Q hQ=>?_);simp only [vkt,seval,tbN11_70,xbN11_2,rcS,c127,c72,c75,g1,g2,hP,hx,hpx,hpb,hvx,c1,c3,zn,decide_true,Bool.not_true,Bool.not_false,e8,hok2,oL,Option.getD_some,Option.isSome_some];(try simp only [ite_and]);(repeat' (first|with_reducible assumption|refine And.intro ?_ ?_|intro hp));all_goals (first|(refine hQ _ ?_;clear hQ Q)|(refine hQ _ (fun h=>?_) (fun h=>?_) <;> clear hQ Q <;> (try simp only [vki,reduceCtorEq] at h))|(refine vq ?_;kernel_rfl)|omega|assumption|with_reducible rfl|skip)))
                    refine ⟨⟨i+1,hkl⟩,by show (partsL d).length - (i+1) < (partsL d).length - i;omega,?_⟩
                    (refine Le.ok some [] ?_;constructor;all_goals (try simp only [vle,vkt,seval,tbN11_70,xbN11_2,rcS,c127,c72,c75]))
                    all_goals first|rfl|(simp [hRS,oL];done)
                  · have hbt:btr List.sum b x=b:=if_neg (by omega)
                    rw [hbt] at hRS
                    repeat' (first|(apply nx;with_reducible constructor)|refine uq (by decide) ?_|((first|refine vz env fun Q hQ=>?_|refine vj fun Q hQ=>?_);simp only [vkt,seval,tbN11_70,xbN11_2,rcS,c127,c72,c75,g1,g2,hP,hx,hpx,hpb,hvx,c1,c3,zn,decide_true,Bool.not_true,Bool.not_false,e8,hok2,oL,Option.getD_some,Option.isSome_some];(try simp only [ite_and]);(repeat' (first|with_reducible assumption|refine And.intro ?_ ?_|intro hp));all_goals (first|(refine hQ _ ?_;clear hQ Q)|(refine hQ _ (fun h=>?_) (fun h=>?_) <;> clear hQ Q <;> (try simp only [vki,reduceCtorEq] at h))|(refine vq ?_;kernel_rfl)|omega|assumption|with_reducible rfl|skip)))
                    refine ⟨⟨i+1,hkl⟩,by show (partsL d).length - (i+1) < (partsL d).length - i;omega,?_⟩
                    (refine Le.ok some [] ?_;constructor;all_goals (try simp only [vle,vkt,seval,tbN11_70,xbN11_2,rcS,c127,c72,c75]))
                    all_goals first|rfl|(simp [hRS,oL];done)
              · have hf:chSel ps n x=false:=by show decide (dotL ps x=n)=false;rw [hvx];exact decide_eq_false c1
                rw [pkG_skip hf] at hRS
                repeat' (first|(apply nx;with_reducible constructor)|refine uq (by decide) ?_|((first|refine vz env fun Q hQ=>?_|refine vj fun Q hQ=>?_);simp only [vkt,seval,tbN11_70,xbN11_2,rcS,c127,c72,c75,g1,g2,hP,hx,hpx,hvx,c1,e8,hok2];(try simp only [ite_and]);(repeat' (first|with_reducible assumption|refine And.intro ?_ ?_|intro hp));all_goals (first|(refine hQ _ ?_;clear hQ Q)|(refine hQ _ (fun h=>?_) (fun h=>?_) <;> clear hQ Q <;> (try simp only [vki,reduceCtorEq] at h))|(refine vq ?_;kernel_rfl)|omega|assumption|with_reducible rfl|skip)))
                refine ⟨⟨i+1,hkl⟩,by show (partsL d).length - (i+1) < (partsL d).length - i;omega,?_⟩
                (refine Le.ok some [] ?_;constructor;all_goals (try simp only [vle,vkt,seval,tbN11_70,xbN11_2,rcS,c127,c72,c75]))
                all_goals first|rfl|(simp [hRS];done)
            · have hin:i=(partsL d).length:=by omega
              subst hin
              cases ho:chs ps d n with
              |none =>
                rw [ho] at hend
                repeat' (first|(apply nx;with_reducible constructor)|refine uq (by decide) ?_|((first|refine vz env fun Q hQ=>?_|refine vj fun Q hQ=>?_);simp only [vkt,seval,tbN11_70,xbN11_2,rcS,c127,c72,c75,hend,Option.isSome_none,Bool.not_false];(try simp only [ite_and]);(repeat' (first|with_reducible assumption|refine And.intro ?_ ?_|intro hp));all_goals (first|(refine hQ _ ?_;clear hQ Q)|(refine hQ _ (fun h=>?_) (fun h=>?_) <;> clear hQ Q <;> (try simp only [vki,reduceCtorEq] at h))|(refine vq ?_;kernel_rfl)|omega|assumption|with_reducible rfl|skip)))
                show retK tyB noD Try.f70 (fun S rv=>Fin S rv (.tup [.sl [],aI 11]) 0 noH 0) Exit.ret _
                (simp only [vrt,Try.results70,vkt,seval,tbN11_70,xbN11_2,rcS,c127,c72,c75];refine Fin.val rfl ?_;(try simp only [AV.le,AV.leL]))
                all_goals first|rfl|(simp;done)
              |some y =>
                rw [ho] at hend
                repeat' (first|(apply nx;with_reducible constructor)|refine uq (by decide) ?_|((first|refine vz env fun Q hQ=>?_|refine vj fun Q hQ=>?_);simp only [vkt,seval,tbN11_70,xbN11_2,rcS,c127,c72,c75,hend,Option.isSome_some,Bool.not_true,oL,Option.getD_some];(try simp only [ite_and]);(repeat' (first|with_reducible assumption|refine And.intro ?_ ?_|intro hp));all_goals (first|(refine hQ _ ?_;clear hQ Q)|(refine hQ _ (fun h=>?_) (fun h=>?_) <;> clear hQ Q <;> (try simp only [vki,reduceCtorEq] at h))|(refine vq ?_;kernel_rfl)|omega|assumption|with_reducible rfl|skip)))
                show retK tyB noD Try.f70 (fun S rv=>Fin S rv (.tup [aInts y,aI 0]) 0 noH 0) Exit.ret _
                (simp only [vrt,Try.results70,vkt,seval,tbN11_70,xbN11_2,rcS,c127,c72,c75];refine Fin.val rfl ?_;(try simp only [AV.le,AV.leL]))
                all_goals first|rfl|(simp;done)
        · have h3:inB n 0 999=false:=by simpa using h3
          rw [if_pos (by rw [h3];rfl)] at hm
          rw [aChg_err hm (by decide)]
          repeat' (first|(apply nx;with_reducible constructor)|refine uq (by decide) ?_|((first|refine vz env fun Q hQ=>?_|refine vj fun Q hQ=>?_);simp only [vkt,seval,tbN11_70,xbN11_2,rcS,c127,c72,c75,h0,w1,h1,h2,h3,g1,g2,hP,p100,d100];(try simp only [ite_and]);(repeat' (first|with_reducible assumption|refine And.intro ?_ ?_|intro hp));all_goals (first|(refine hQ _ ?_;clear hQ Q)|(refine hQ _ (fun h=>?_) (fun h=>?_) <;> clear hQ Q <;> (try simp only [vki,reduceCtorEq] at h))|(refine vq ?_;kernel_rfl)|omega|assumption|with_reducible rfl|skip)))
          (simp only [vrt,Try.results70,vkt,seval,tbN11_70,xbN11_2,rcS,c127,c72,c75];refine Fin.val rfl ?_;(try simp only [AV.le,AV.leL]))
          all_goals first|rfl|(simp;done)
      · rw [if_pos h2] at hm
        rw [aChg_err hm h2]
        repeat' (first|(apply nx;with_reducible constructor)|refine uq (by decide) ?_|((first|refine vz env fun Q hQ=>?_|refine vj fun Q hQ=>?_);simp only [vkt,seval,tbN11_70,xbN11_2,rcS,c127,c72,c75,h0,w1,h1,h2,g1,g2,hP,p100,d100];(try simp only [ite_and]);(repeat' (first|with_reducible assumption|refine And.intro ?_ ?_|intro hp));all_goals (first|(refine hQ _ ?_;clear hQ Q)|(refine hQ _ (fun h=>?_) (fun h=>?_) <;> clear hQ Q <;> (try simp only [vki,reduceCtorEq] at h))|(refine vq ?_;kernel_rfl)|omega|assumption|with_reducible rfl|skip)))
        (simp only [vrt,Try.results70,vkt,seval,tbN11_70,xbN11_2,rcS,c127,c72,c75];refine Fin.val rfl ?_;(try simp only [AV.le,AV.leL]))
        all_goals first|rfl|(simp;done)
    · have h1:inB c 0 ((l.coins.length:Int) - 1)=false:=by simpa using h1
      rw [if_pos (by rw [h1];rfl)] at hm
      rw [aChg_err hm (by decide)]
      repeat' (first|(apply nx;with_reducible constructor)|refine uq (by decide) ?_|((first|refine vz env fun Q hQ=>?_|refine vj fun Q hQ=>?_);simp only [vkt,seval,tbN11_70,xbN11_2,rcS,c127,c72,c75,h0,w1,h1];(try simp only [ite_and]);(repeat' (first|with_reducible assumption|refine And.intro ?_ ?_|intro hp));all_goals (first|(refine hQ _ ?_;clear hQ Q)|(refine hQ _ (fun h=>?_) (fun h=>?_) <;> clear hQ Q <;> (try simp only [vki,reduceCtorEq] at h))|(refine vq ?_;kernel_rfl)|omega|assumption|with_reducible rfl|skip)))
      (simp only [vrt,Try.results70,vkt,seval,tbN11_70,xbN11_2,rcS,c127,c72,c75];refine Fin.val rfl ?_;(try simp only [AV.le,AV.leL]))
      all_goals first|rfl|(simp;done)
  · rw [if_pos h0] at hm
    rw [aChg_err hm h0]
    repeat' (first|(apply nx;with_reducible constructor)|refine uq (by decide) ?_|((first|refine vz env fun Q hQ=>?_|refine vj fun Q hQ=>?_);simp only [vkt,seval,tbN11_70,xbN11_2,rcS,c127,c72,c75,h0];(try simp only [ite_and]);(repeat' (first|with_reducible assumption|refine And.intro ?_ ?_|intro hp));all_goals (first|(refine hQ _ ?_;clear hQ Q)|(refine hQ _ (fun h=>?_) (fun h=>?_) <;> clear hQ Q <;> (try simp only [vki,reduceCtorEq] at h))|(refine vq ?_;kernel_rfl)|omega|assumption|with_reducible rfl|skip)))
    (simp only [vrt,Try.results70,vkt,seval,tbN11_70,xbN11_2,rcS,c127,c72,c75];refine Fin.val rfl ?_;(try simp only [AV.le,AV.leL]))
    all_goals first|rfl|(simp;done)
theorem d70 {A:Frm→Prop}:EntryOK A Try.prog 70 (valE false c69):=valE_ok fun vs hv h=>by
  clear hv
  unfold c69 at h ⊢
  split at h
  · obtain ⟨h1,h2,h3,h4⟩:=h
    refine ⟨by unfold aChg; split; · simp [AV.plain, AV.plainL, aI]
               · split <;> simp [AV.plain,AV.plainL,aI,aInts],fun h=>absurd h (by decide),?_⟩
    rename_i cs rs ss es c ds n
    have:=rchange_fn (ldOf cs rs ss es) c (ds.map dInt) n h2 h4
    rw [← aLed_of h1]
    simp only [aInts,← h3] at this
    exact this
  · exact h.elim
end Go.Sym.B
namespace Go.Sym.B
open Go Go.Sym Go.Proofs Go.Sym.C
def rnV (ps:List Int) (f:Nat→Int) (n:Nat):Nat→Int
  |0=>-1
  |k+1=>if ps.getD k 0≤n then updN (f (n - (ps.getD k 0).toNat)) (rnV ps f n k) else rnV ps f n k
theorem dot_set:∀ {ps x:List Int} {k:Nat} (v:Int),k < ps.length→k < x.length→dotL ps (x.set k v)=dotL ps x+ps.getD k 0 * (v - x.getD k 0)
  |p :: ps,y :: x,0,v,_,_=>by
    simp only [List.set_cons_zero,dotL,List.getD_cons_zero,Int.mul_sub];omega
  |p :: ps,y :: x,k+1,v,h,h'=>by
    have:=dot_set (ps:=ps) (x:=x) (k:=k) v (by simpa using h) (by simpa using h')
    simp only [List.set_cons_succ,dotL,List.getD_cons_succ];omega
theorem sum_set:∀ {x:List Int} {k:Nat} (v:Int),k < x.length→(x.set k v).sum=x.sum+(v - x.getD k 0)
  |y :: x,0,v,_=>by simp only [List.set_cons_zero,List.sum_cons,List.getD_cons_zero];omega
  |y :: x,k+1,v,h=>by
    have:=sum_set (x:=x) (k:=k) v (by simpa using h)
    simp only [List.set_cons_succ,List.sum_cons,List.getD_cons_succ];omega
theorem dot_pos:∀ {ps x:List Int},dotL ps x ≠ 0→(∀ n ∈ x,0≤n)→∃ k,k < ps.length∧k < x.length∧1≤x.getD k 0
  |[],x,h,_=>by simp [dotL] at h
  |p :: ps,[],h,_=>by simp [dotL] at h
  |p :: ps,y :: x,h,hx=>by
    by_cases h0:y=0
    · have:dotL ps x ≠ 0:=fun h1=>h (by simp only [dotL];rw [h0,h1];omega)
      obtain ⟨k,k1,k2,k3⟩:=dot_pos this fun n hn=>hx n (List.mem_cons_of_mem _ hn)
      exact ⟨k+1,by simpa using k1,by simpa using k2,by simpa only [List.getD_cons_succ] using k3⟩
    · exact ⟨0,by simp,by simp,by have:=hx y List.mem_cons_self;simp only [List.getD_cons_zero];omega⟩
theorem rn_spec (ps:List Int) (f:Nat→Int) (n:Nat):∀ k,(rnV ps f n k=-1∨∃ j,j < k∧ps.getD j 0≤n∧0≤f (n - (ps.getD j 0).toNat)∧rnV ps f n k=f (n - (ps.getD j 0).toNat)+1)∧∀ j,j < k→ps.getD j 0≤n→0≤f (n - (ps.getD j 0).toNat)→0≤rnV ps f n k∧rnV ps f n k≤f (n - (ps.getD j 0).toNat)+1
  |0=>⟨.inl rfl,fun j hj=>by omega⟩
  |k+1=>by
    obtain ⟨i1,i2⟩:=rn_spec ps f n k
    rw [rnV]
    by_cases h:ps.getD k 0≤n
    · rw [if_pos h]
      unfold updN
      by_cases h1:0≤f (n - (ps.getD k 0).toNat)∧(rnV ps f n k < 0∨f (n - (ps.getD k 0).toNat)+1 < rnV ps f n k)
      · rw [if_pos h1]
        refine ⟨.inr ⟨k,by omega,h,h1.1,rfl⟩,fun j hj hn h0=>⟨by omega,?_⟩⟩
        by_cases hjk:j=k
        · subst hjk;omega
        · have:=i2 j (by omega) hn h0;omega
      · rw [if_neg h1]
        refine ⟨?_,fun j hj hn h0=>?_⟩
        · rcases i1 with i1|⟨j,j1,j2⟩
          · exact .inl i1
          · exact .inr ⟨j,by omega,j2⟩
        · by_cases hjk:j=k
          · subst hjk;omega
          · exact i2 j (by omega) hn h0
    · rw [if_neg h]
      refine ⟨?_,fun j hj hn h0=>?_⟩
      · rcases i1 with i1|⟨j,j1,j2⟩
        · exact .inl i1
        · exact .inr ⟨j,by omega,j2⟩
      · by_cases hjk:j=k
        · subst hjk;exact absurd hn h
        · exact i2 j (by omega) hn h0
theorem mem_set {x:List Int} {k:Nat} {v:Int} (hv:0≤v) (h:∀ n ∈ x,0≤n):∀ n ∈ x.set k v,0≤n:=fun n hn=>by
  rcases List.mem_or_eq_of_mem_set hn with hn|rfl
  · exact h n hn
  · exact hv
theorem rn_need {ps:List Int} (hp:∀ p ∈ ps,1≤p) {n:Nat} (hn:1≤n):rnV ps (needN ps) n ps.length=needN ps n:=by
  obtain ⟨i1,i2⟩:=rn_spec ps (needN ps) n ps.length
  have up:∀ j,j < ps.length→ps.getD j 0≤n→0≤needN ps (n - (ps.getD j 0).toNat)→0≤needN ps n∧needN ps n≤needN ps (n - (ps.getD j 0).toNat)+1:=fun j hj hjn h0=>by
    have hpj:=hp _ (gMem (d:=0) hj)
    obtain ⟨c1,c2⟩:=pcR_is hp h0
    have c3:=(fm_ls ps hp _).2 h0
    rw [sum_pSum] at c3
    have c4:=pcR_len ps (n - (ps.getD j 0).toNat)
    generalize hx:pcR ps (n - (ps.getD j 0).toNat)=x at c1 c2 c3 c4
    have hjx:j < x.length:=by omega
    have hxj:=(c2 _ (gMem (d:=0) hjx)).1
    have hd:=dot_set (ps:=ps) (x:=x) (k:=j) (x.getD j 0+1) hj hjx
    have hs:=sum_set (x:=x) (k:=j) (x.getD j 0+1) hjx
    have:=need_min hp (x:=x.set j (x.getD j 0+1)) (a:=n) (mem_set (by omega) fun m hm=>(c2 m hm).1) (by rw [List.length_set];exact c4) (by
      rw [hd,c1,show x.getD j 0+1 - x.getD j 0=1 by omega,Int.mul_one];omega)
    rw [hs] at this
    omega
  by_cases h0:0≤needN ps n
  · obtain ⟨c1,c2⟩:=pcR_is hp h0
    have c3:=(fm_ls ps hp _).2 h0
    rw [sum_pSum] at c3
    have c4:=pcR_len ps n
    generalize hx:pcR ps n=x at c1 c2 c3 c4
    obtain ⟨k,k1,k2,k3⟩:=dot_pos (ps:=ps) (x:=x) (by omega) fun m hm=>(c2 m hm).1
    have hpk:=hp _ (gMem (d:=0) k1)
    have hd:=dot_set (ps:=ps) (x:=x) (k:=k) (x.getD k 0 - 1) k1 k2
    have hs:=sum_set (x:=x) (k:=k) (x.getD k 0 - 1) k2
    rw [show x.getD k 0 - 1 - x.getD k 0=-1 by omega] at hd hs
    have hm:∀ m ∈ x.set k (x.getD k 0 - 1),0≤m:=mem_set (by omega) fun m hm=>(c2 m hm).1
    have hnn:=dot_nn hp hm
    rw [hd,c1] at hnn
    have hpn:ps.getD k 0≤n:=by omega
    have:=need_min hp (x:=x.set k (x.getD k 0 - 1)) (a:=n - (ps.getD k 0).toNat) hm (by rw [List.length_set];exact c4) (by rw [hd,c1];omega)
    rw [hs] at this
    obtain ⟨j1,j2⟩:=i2 k k1 hpn this.1
    rcases i1 with i1|⟨j,e1,e2,e3,e4⟩
    · omega
    · have:=up j e1 e2 e3;omega
  · have hm:=(needN_le hp n).1
    rcases i1 with i1|⟨j,e1,e2,e3,e4⟩
    · omega
    · have:=up j e1 e2 e3;omega
end Go.Sym.B
namespace Go.Sym.B
open Go Go.Sym Go.Proofs Go.Sym.C
def nMx (ps:List Int) (n:Nat) (v:Int):Nat→Int:=fun j=>if j < n then needN ps j else if j=n then v else 0
theorem need0:∀ {ps:List Int},(∀ p ∈ ps,1≤p)→needN ps 0=0
  |[],_=>rfl
  |p :: ps,h=>by
    have h1:=h p List.mem_cons_self
    show gN p.toNat (needN ps) 0=0
    rw [gN_lt (by omega)]
    exact need0 fun q hq=>h q (List.mem_cons_of_mem _ hq)
theorem nm_start {ps:List Int} (hp:∀ p ∈ ps,1≤p) (A:Nat):List.replicate (A+1) [DV.v (.int .i64 0)]=(rowR (nMx ps 1 0) A).map eInt:=by
  apply List.ext_getElem?
  intro i
  simp only [rowR,List.getElem?_replicate,List.getElem?_map,List.getElem?_range]
  by_cases h:i < A+1
  · have:nMx ps 1 0 i=0:=by
      unfold nMx
      by_cases h1:i < 1
      · rw [if_pos h1,show i=0 by omega,need0 hp]
      · rw [if_neg h1];split <;> rfl
    simp [h,this,eInt]
  · simp [h]
theorem nm_set {ps:List Int} {n A:Nat} {u v:Int}:(rowR (nMx ps n u) A).set n v=rowR (nMx ps n v) A:=by
  rw [rowR_set]
  refine rowR_congr fun j _=>?_
  unfold nMx
  by_cases h:j=n
  · rw [if_pos h,if_neg (by omega),if_pos h]
  · rw [if_neg h,if_neg h,if_neg h]
theorem nm_next {ps:List Int} {n A:Nat}:rowR (nMx ps n (needN ps n)) A=rowR (nMx ps (n+1) 0) A:=rowR_congr fun j _=>by
  unfold nMx
  by_cases h:j < n
  · rw [if_pos h,if_pos (by omega)]
  · by_cases h1:j=n
    · rw [if_neg h,if_pos h1,if_pos (by omega),h1]
    · rw [if_neg h,if_neg h1,if_neg (by omega)];split <;> rfl
theorem nm_end {ps:List Int} {A:Nat}:rowR (nMx ps (A+1) 0) A=rowR (needN ps) A:=rowR_congr fun j hj=>if_pos (by omega)
theorem rn_bd (ps:List Int) (f:Nat→Int) (n:Nat) (hf:∀ a:Nat,-1≤f a∧f a≤a) (hp:∀ p ∈ ps,1≤p):∀ k,k≤ps.length→-1≤rnV ps f n k∧rnV ps f n k≤n
  |0,_=>by simp only [rnV];omega
  |k+1,hk=>by
    have ih:=rn_bd ps f n hf hp k (by omega)
    have hp1:=hp _ (gMem (l:=ps) (k:=k) (d:=0) (by omega))
    have h1:=hf (n - (ps.getD k 0).toNat)
    rw [rnV]
    unfold updN
    split
    · split
      · omega
      · exact ih
    · exact ih
def ndS1 (ps:List Int) (A n:Nat):St:={ t:=asg [(0,aInts ps),(1,aI A),(5,.row 0),(6,aI n)],h:=hasg [(0,.row 3 1 ((rowR (nMx ps n 0) A).map eInt))],n:=1 }
def ndS2 (ps:List Int) (A n k:Nat):St:={ t:=asg [(0,aInts ps),(1,aI A),(5,.row 0),(6,aI n),(7,aI k)],h:=hasg [(0,.row 3 1 ((rowR (nMx ps n (rnV ps (needN ps) n k)) A).map eInt))],n:=1 }
def tbN15_124:=vk @ty3 (vk @ty22 (vk @ti3.eq_1 @ti22.eq_1))
def xbN15_1:=vk @aI.eq_1 (vk @aB.eq_1 (vk @aInts.eq_1 (vk @eInt.eq_1 (vk @gInt (vk @rInt (vk @mInt (@setI)))))))
set_option maxHeartbeats 8000000 in
theorem needs_fn (ps:List Int) (A:Nat) (hl:ps.length≤20) (hp:∀ p ∈ ps,1≤p∧p≤1000) (hA:A≤1000):FnV Try.prog 124 [aInts ps,aI A] (aInts (rowR (needN ps) A)):=by
  have env:Env (fun _=>True) Try.prog tyB (tab []):=mkEnv trivial
  refine Fn.of (A:=fun _=>True) (n0:=0) (D:=noD) (Fn0 Try.func124 rfl (fun vs w=>by kernel_rfl) (by kernel_rfl)) (by simp) (by simp [AV.ids,aInts,aI]) (fun i o h=>by cases h) (fun _ _ _ _=>trivial) noD_ok ?_
  have hp1:∀ p ∈ ps,1≤p:=fun p h=>(hp p h).1
  have w2:IntKind.wrap .i64 ((A:Int)+1)=((A+1:Nat):Int):=by rw [wrap64 (by omega) (by omega)];rfl
  have big:(100000:Nat)≤maxLen:=by decide
  have fl:=needN_le hp1
  have st:=nm_start hp1 A
  repeat' (first|(apply nx;with_reducible constructor)|refine uq (by decide) ?_|((first|refine vz env fun Q hQ=>?_|refine vj fun Q hQ=>?_);simp only [vkt,seval,tbN15_124,xbN15_1,ndS1,ndS2,w2,st];(try simp only [ite_and]);(repeat' (first|with_reducible assumption|refine And.intro ?_ ?_|intro hp));all_goals (first|(refine hQ _ ?_;clear hQ Q)|(refine hQ _ (fun h=>?_) (fun h=>?_) <;> clear hQ Q <;> (try simp only [vki,reduceCtorEq] at h))|(refine vq ?_;kernel_rfl)|omega|assumption|with_reducible rfl|skip)))
  refine sym_loop (fun n:{ n:Nat // 1≤n∧n≤A+1 }=>ndS1 ps A n.1) (fun n=>A+1 - n.1) ⟨1,by omega⟩ ?_ fun ⟨n,hn1,hn2⟩=>?_
  · (refine Le.ok some [] ?_;constructor;all_goals (try simp only [vle,vkt,seval,tbN15_124,xbN15_1,ndS1,ndS2]))
    all_goals first|rfl|(simp;done)
  · repeat' (first|(apply nx;with_reducible constructor)|refine uq (by decide) ?_)
    (refine vz env fun Q hQ=>?_;simp only [vkt,seval,tbN15_124,xbN15_1,ndS1,ndS2];(try simp only [ite_and]);(repeat' (first|with_reducible assumption|refine And.intro ?_ ?_|intro hp));all_goals (first|(refine hQ _ ?_;clear hQ Q)|(refine vq ?_;kernel_rfl)|omega|assumption|with_reducible rfl|skip))
    repeat' (first|(apply nx;with_reducible constructor)|refine uq (by decide) ?_)
    (refine sym_cd (by simp only [vkt,seval,tbN15_124,xbN15_1,ndS1,ndS2];rfl) (fun h=>?_) (fun h=>?_) <;> (try simp only [vki,reduceCtorEq] at h))
    · have hnA:n≤A:=by omega
      have e9:IntKind.wrap .i64 ((n:Int)+1)=((n+1:Nat):Int):=by rw [wrap64 (by omega) (by omega)];rfl
      have s1:(rowR (nMx ps n 0) A).set n (-1)=rowR (nMx ps n (-1)) A:=nm_set
      have rl:=fun v=>rowR_len (nMx ps n v) A
      have k0:((rowR (nMx ps n 0) A).map eInt).getD n []=[.v (.int .i64 0)]:=by rw [gI0 (by rw [rl];omega),rowR_get hnA,nMx,if_neg (by omega),if_pos rfl];rfl
      repeat' (first|(apply nx;with_reducible constructor)|refine uq (by decide) ?_|((first|refine vz env fun Q hQ=>?_|refine vj fun Q hQ=>?_);simp only [vkt,seval,tbN15_124,xbN15_1,ndS1,ndS2,s1,rl,k0];(try simp only [ite_and]);(repeat' (first|with_reducible assumption|refine And.intro ?_ ?_|intro hp));all_goals (first|(refine hQ _ ?_;clear hQ Q)|(refine hQ _ (fun h=>?_) (fun h=>?_) <;> clear hQ Q <;> (try simp only [vki,reduceCtorEq] at h))|(refine vq ?_;kernel_rfl)|omega|assumption|with_reducible rfl|skip)))
      refine sym_loop (fun k:{ k:Nat // k≤ps.length }=>ndS2 ps A n k.1) (fun k=>ps.length - k.1) ⟨0,Nat.zero_le _⟩ ?_ fun ⟨k,hk⟩=>?_
      · (refine Le.ok some [] ?_;constructor;all_goals (try simp only [vle,vkt,seval,tbN15_124,xbN15_1,ndS1,ndS2]))
        all_goals first|rfl|(simp [rnV];done)
      · repeat' (first|(apply nx;with_reducible constructor)|refine uq (by decide) ?_)
        (refine vz env fun Q hQ=>?_;simp only [vkt,seval,tbN15_124,xbN15_1,ndS1,ndS2];(try simp only [ite_and]);(repeat' (first|with_reducible assumption|refine And.intro ?_ ?_|intro hp));all_goals (first|(refine hQ _ ?_;clear hQ Q)|(refine vq ?_;kernel_rfl)|omega|assumption|with_reducible rfl|skip))
        repeat' (first|(apply nx;with_reducible constructor)|refine uq (by decide) ?_)
        (refine sym_cd (by simp only [vkt,seval,tbN15_124,xbN15_1,ndS1,ndS2];rfl) (fun h=>?_) (fun h=>?_) <;> (try simp only [vki,reduceCtorEq] at h))
        · have hkl:k < ps.length:=by omega
          have e8:IntKind.wrap .i64 ((k:Int)+1)=((k+1:Nat):Int):=by rw [wrap64 (by omega) (by omega)];rfl
          have hpk:=hp _ (gMem (d:=0) hkl)
          obtain ⟨p,hpe⟩:∃ p,ps.getD k 0=p:=⟨_,rfl⟩
          rw [hpe] at hpk
          obtain ⟨v,hv⟩:∃ v,rnV ps (needN ps) n k=v:=⟨_,rfl⟩
          have vb:=rn_bd ps (needN ps) n fl hp1 k hk
          have hR:rnV ps (needN ps) n (k+1)=if p≤(n:Int) then updN (needN ps (n - p.toNat)) v else v:=by rw [rnV,hpe,hv]
          rw [hv] at vb
          by_cases c0:p≤(n:Int)
          · rw [if_pos c0] at hR
            have u1:IntKind.wrap .i64 ((n:Int) - p)=((n - p.toNat:Nat):Int):=by rw [wrap64 (by omega) (by omega)];omega
            obtain ⟨m,hm⟩:∃ m,n - p.toNat=m:=⟨_,rfl⟩
            rw [hm] at u1 hR
            have hmn:m < n:=by omega
            have x1:=fl m
            have k1:((rowR (nMx ps n v) A).map eInt).getD m []=[.v (.int .i64 (needN ps m))]:=by rw [gI0 (by rw [rl];omega),rowR_get (by omega),nMx,if_pos hmn];rfl
            have k2:((rowR (nMx ps n v) A).map eInt).getD n []=[.v (.int .i64 v)]:=by rw [gI0 (by rw [rl];omega),rowR_get (by omega),nMx,if_neg (by omega),if_pos rfl];rfl
            obtain ⟨x,hx⟩:∃ x,needN ps m=x:=⟨_,rfl⟩
            rw [hx] at x1 k1 hR
            have u2:IntKind.wrap .i64 (x+1)=x+1:=wrap64 (by omega) (by omega)
            have mv:(rowR (nMx ps n v) A).set n (x+1)=rowR (nMx ps n (x+1)) A:=nm_set
            have z0:(0:Int)≤(m:Int):=by omega
            unfold updN at hR
            by_cases c1:0≤x
            · by_cases c2:v < 0
              · rw [if_pos ⟨c1,.inl c2⟩] at hR
                repeat' (first|(apply nx;with_reducible constructor)|refine uq (by decide) ?_|((first|refine vz env fun Q hQ=>?_|refine vj fun Q hQ=>?_);simp only [vkt,seval,tbN15_124,xbN15_1,ndS1,ndS2,hpe,hv,u1,u2,k1,k2,mv,rl,c1,c2,e8,z0];(try simp only [ite_and]);(repeat' (first|with_reducible assumption|refine And.intro ?_ ?_|intro hp));all_goals (first|(refine hQ _ ?_;clear hQ Q)|(refine hQ _ (fun h=>?_) (fun h=>?_) <;> clear hQ Q <;> (try simp only [vki,reduceCtorEq] at h))|(refine vq ?_;kernel_rfl)|omega|assumption|with_reducible rfl|skip)))
                refine ⟨⟨k+1,hkl⟩,by dsimp only;omega,?_⟩
                (refine Le.ok some [] ?_;constructor;all_goals (try simp only [vle,vkt,seval,tbN15_124,xbN15_1,ndS1,ndS2]))
                all_goals first|rfl|(simp [hR];done)
              · by_cases c3:x+1 < v
                · rw [if_pos ⟨c1,.inr c3⟩] at hR
                  repeat' (first|(apply nx;with_reducible constructor)|refine uq (by decide) ?_|((first|refine vz env fun Q hQ=>?_|refine vj fun Q hQ=>?_);simp only [vkt,seval,tbN15_124,xbN15_1,ndS1,ndS2,hpe,hv,u1,u2,k1,k2,mv,rl,c1,c2,c3,e8,z0];(try simp only [ite_and]);(repeat' (first|with_reducible assumption|refine And.intro ?_ ?_|intro hp));all_goals (first|(refine hQ _ ?_;clear hQ Q)|(refine hQ _ (fun h=>?_) (fun h=>?_) <;> clear hQ Q <;> (try simp only [vki,reduceCtorEq] at h))|(refine vq ?_;kernel_rfl)|omega|assumption|with_reducible rfl|skip)))
                  refine ⟨⟨k+1,hkl⟩,by dsimp only;omega,?_⟩
                  (refine Le.ok some [] ?_;constructor;all_goals (try simp only [vle,vkt,seval,tbN15_124,xbN15_1,ndS1,ndS2]))
                  all_goals first|rfl|(simp [hR];done)
                · rw [if_neg (fun h=>by omega)] at hR
                  repeat' (first|(apply nx;with_reducible constructor)|refine uq (by decide) ?_|((first|refine vz env fun Q hQ=>?_|refine vj fun Q hQ=>?_);simp only [vkt,seval,tbN15_124,xbN15_1,ndS1,ndS2,hpe,hv,u1,u2,k1,k2,mv,rl,c1,c2,c3,e8,z0];(try simp only [ite_and]);(repeat' (first|with_reducible assumption|refine And.intro ?_ ?_|intro hp));all_goals (first|(refine hQ _ ?_;clear hQ Q)|(refine hQ _ (fun h=>?_) (fun h=>?_) <;> clear hQ Q <;> (try simp only [vki,reduceCtorEq] at h))|(refine vq ?_;kernel_rfl)|omega|assumption|with_reducible rfl|skip)))
                  refine ⟨⟨k+1,hkl⟩,by dsimp only;omega,?_⟩
                  (refine Le.ok some [] ?_;constructor;all_goals (try simp only [vle,vkt,seval,tbN15_124,xbN15_1,ndS1,ndS2]))
                  all_goals first|rfl|(simp [hR];done)
            · rw [if_neg (fun h=>by omega)] at hR
              repeat' (first|(apply nx;with_reducible constructor)|refine uq (by decide) ?_|((first|refine vz env fun Q hQ=>?_|refine vj fun Q hQ=>?_);simp only [vkt,seval,tbN15_124,xbN15_1,ndS1,ndS2,hpe,hv,u1,u2,k1,k2,mv,rl,c1,e8,z0];(try simp only [ite_and]);(repeat' (first|with_reducible assumption|refine And.intro ?_ ?_|intro hp));all_goals (first|(refine hQ _ ?_;clear hQ Q)|(refine hQ _ (fun h=>?_) (fun h=>?_) <;> clear hQ Q <;> (try simp only [vki,reduceCtorEq] at h))|(refine vq ?_;kernel_rfl)|omega|assumption|with_reducible rfl|skip)))
              refine ⟨⟨k+1,hkl⟩,by dsimp only;omega,?_⟩
              (refine Le.ok some [] ?_;constructor;all_goals (try simp only [vle,vkt,seval,tbN15_124,xbN15_1,ndS1,ndS2]))
              all_goals first|rfl|(simp [hR];done)
          · rw [if_neg c0] at hR
            have u1:IntKind.wrap .i64 ((n:Int) - p)=(n:Int) - p:=wrap64 (by omega) (by omega)
            have z0:¬ (0:Int)≤(n:Int) - p:=by omega
            repeat' (first|(apply nx;with_reducible constructor)|refine uq (by decide) ?_|((first|refine vz env fun Q hQ=>?_|refine vj fun Q hQ=>?_);simp only [vkt,seval,tbN15_124,xbN15_1,ndS1,ndS2,hpe,hv,u1,e8,z0,rl];(try simp only [ite_and]);(repeat' (first|with_reducible assumption|refine And.intro ?_ ?_|intro hp));all_goals (first|(refine hQ _ ?_;clear hQ Q)|(refine hQ _ (fun h=>?_) (fun h=>?_) <;> clear hQ Q <;> (try simp only [vki,reduceCtorEq] at h))|(refine vq ?_;kernel_rfl)|omega|assumption|with_reducible rfl|skip)))
            refine ⟨⟨k+1,hkl⟩,by dsimp only;omega,?_⟩
            (refine Le.ok some [] ?_;constructor;all_goals (try simp only [vle,vkt,seval,tbN15_124,xbN15_1,ndS1,ndS2]))
            all_goals first|rfl|(simp [hR];done)
        · have hke:k=ps.length:=by omega
          subst hke
          have hE:=rn_need hp1 hn1
          repeat' (first|(apply nx;with_reducible constructor)|refine uq (by decide) ?_|((first|refine vz env fun Q hQ=>?_|refine vj fun Q hQ=>?_);simp only [vkt,seval,tbN15_124,xbN15_1,ndS1,ndS2,e9];(try simp only [ite_and]);(repeat' (first|with_reducible assumption|refine And.intro ?_ ?_|intro hp));all_goals (first|(refine hQ _ ?_;clear hQ Q)|(refine hQ _ (fun h=>?_) (fun h=>?_) <;> clear hQ Q <;> (try simp only [vki,reduceCtorEq] at h))|(refine vq ?_;kernel_rfl)|omega|assumption|with_reducible rfl|skip)))
          refine ⟨⟨n+1,by omega,by omega⟩,by dsimp only;omega,?_⟩
          (refine Le.ok some [] ?_;constructor;all_goals (try simp only [vle,vkt,seval,tbN15_124,xbN15_1,ndS1,ndS2]))
          all_goals first|rfl|(simp [hE,nm_next];done)
    · have hne:n=A+1:=by omega
      subst hne
      have hE:=nm_end (ps:=ps) (A:=A)
      repeat' (first|(apply nx;with_reducible constructor)|refine uq (by decide) ?_|((first|refine vz env fun Q hQ=>?_|refine vj fun Q hQ=>?_);simp only [vkt,seval,tbN15_124,xbN15_1,ndS1,ndS2,hE];(try simp only [ite_and]);(repeat' (first|with_reducible assumption|refine And.intro ?_ ?_|intro hp));all_goals (first|(refine hQ _ ?_;clear hQ Q)|(refine hQ _ (fun h=>?_) (fun h=>?_) <;> clear hQ Q <;> (try simp only [vki,reduceCtorEq] at h))|(refine vq ?_;kernel_rfl)|omega|assumption|with_reducible rfl|skip)))
      (simp only [vrt,Try.results124,vkt,seval,tbN15_124,xbN15_1,ndS1,ndS2];refine Fin.val rfl ?_;(try simp only [AV.le,AV.leL]))
      all_goals first|exact ⟨_,_,rfl⟩
def c124:List AV→Prop × AV
  |[.sl xs,.v (.int .i64 a)]=>(xs=(xs.map dInt).map eInt∧xs.length≤20∧(∀ p ∈ xs.map dInt,1≤p∧p≤1000)∧0≤a∧a≤1000,aInts (rowR (needN (xs.map dInt)) a.toNat))
  |_=>(False,.junk)
theorem d124 {A:Frm→Prop}:EntryOK A Try.prog 124 (valE false c124):=valE_ok fun vs hv h=>by
  clear hv
  unfold c124 at h ⊢
  split at h
  · rename_i xs a
    obtain ⟨h1,h2,h3,h4,h5⟩:=h
    refine ⟨trivial,fun h=>absurd h (by decide),?_⟩
    have:=needs_fn (xs.map dInt) a.toNat (by rw [List.length_map];exact h2) h3 (by omega)
    rw [aInts,← h1,aI,Int.toNat_of_nonneg h4] at this
    exact this
  · exact h.elim
end Go.Sym.B
namespace Go.Sym.B
open Go Go.Sym Go.Proofs Go.Sym.C
theorem moneyN (l:Led) (c n:Int):moneyE l c n []=if checkE l ≠ 0 then checkE l else if !inB c 0 ((l.coins.length:Int) - 1) then 3 else if !inB n 0 999 then 1 else 0:=by
  unfold moneyE
  have h:firstE (errs ([]:List (List Int)).length (pursesE l c []))=0:=rfl
  rw [h]
  simp only [ne_eq,not_true_eq_false,if_false]
theorem aPieces_err {l:Led} {c n:Int} {e:Int} (hm:moneyE l c n []=e) (he:e ≠ 0):aPieces l c n=.tup [.sl [],aI e]:=by
  unfold aPieces
  rw [if_pos (by rw [hm];exact he),hm]
def rqP1 (l:Led) (c:Int) (ps:List Int) (A i:Nat):St:={ t:=asg [(1,aI c),(2,aI (pcA ps A i)),(3,.ptr 0 0),(9,.row 1),(10,aI (needN (ps.drop i) (pcA ps A i))),(11,aI i)],h:=hasg [(0,.cells (cLed l)),(1,.row 3 1 ((pcL ps A i).map eInt))],n:=2 }
def rqP2 (l:Led) (c:Int) (ps:List Int) (A i:Nat) (f:Nat→Int) (a:Nat) (v:Int) (m:Nat):St:={ t:=asg [(1,aI c),(2,aI a),(3,.ptr 0 0),(9,.row 1),(10,aI v),(11,aI i),(12,aInts (rowR f a)),(13,aI m)],h:=hasg [(0,.cells (cLed l)),(1,.row 3 1 ((pcL ps A i).map eInt))],n:=2 }
def tbN16_68:=vk @ty3 (vk @ty22 (vk @ty28 (vk @ty30 (vk @ty38 (vk @ti3.eq_1 (vk @ti22.eq_1 (vk @ti28.eq_1 (vk @ti30.eq_1 @ti38.eq_1))))))))
def xbN16_1:=vk @aI.eq_1 (vk @aB.eq_1 (vk @aLed.eq_1 (vk @cLed.eq_1 (vk @aInts.eq_1 (vk @c50.eq_1 (vk @c50.eq_2 (vk @s79.eq_1 (vk @s79.eq_2 (vk @isL_e (vk @ldOf_e (vk @eInt.eq_1 (vk @gInt (vk @rInt (vk @rInts (vk @mInt (vk @mInts (vk @eInts.eq_1 (@gInts))))))))))))))))))
set_option maxHeartbeats 8000000 in
theorem rpieces_fn (l:Led) (c n:Int) (hl:Fit l):FnV Try.prog 68 [aLed l,aI c,aI n] (aPieces l c n):=by
  have env:Env (fun _=>True) Try.prog tyB (tab [(51,valE true c50),(82,valE true s79),(124,valE false c124)]):=mkEnv ⟨d51,e82,d124,trivial⟩
  refine Fn.of (A:=fun _=>True) (n0:=0) (D:=noD) (Fn0 Try.func68 rfl (fun vs w=>by kernel_rfl) (by kernel_rfl)) (by simp) (by simp [AV.ids,AV.idsL,aI,aLed,cLed]) (fun i o h=>by cases h) (fun _ _ _ _=>trivial) noD_ok ?_
  have hm:=moneyN l c n
  by_cases h0:checkE l=0
  · have hV:=val_of h0
    have v1:=hV.c
    rw [if_neg (by rw [h0];simp)] at hm
    have w1:IntKind.wrap .i64 ((l.coins.length:Int) - 1)=(l.coins.length:Int) - 1:=wrap64 (by omega) (by omega)
    by_cases h1:inB c 0 ((l.coins.length:Int) - 1)=true
    · rw [if_neg (by rw [h1];simp)] at hm
      have b1:=inB_iff.1 h1
      have g1:0≤c:=b1.1
      have g2:c.toNat < l.coins.length:=by omega
      by_cases h3:inB n 0 999=true
      · rw [if_neg (by rw [h3];simp)] at hm
        rw [show aPieces l c n=_ from if_neg (by rw [hm];simp)]
        have hn:=inB_iff.1 h3
        obtain ⟨A,rfl⟩:=Int.eq_ofNat_of_zero_le hn.1
        rw [Int.toNat_natCast]
        obtain ⟨ps,hP⟩:∃ x,l.coins.getD c.toNat []=x:=⟨_,rfl⟩
        have hps:PsOk ps:=hP ▸ coin_ok (hV.cs _ g2)
        rw [hP]
        have hpl:=hps.l
        have hge:∀ q ∈ ps,1≤q:=fun q hq=>(hps.b q hq).1
        have big:(100000:Nat)≤maxLen:=by decide
        have b3:∀ k:Nat,k < ps.length→ps.getD k 0=(((ps.getD k 0).toNat:Nat):Int)∧1≤(ps.getD k 0).toNat∧(ps.getD k 0).toNat≤50:=fun k hk=>by
          have:=hps.b _ (gMem (d:=0) hk);omega
        have nd:∀ k a:Nat,-1≤needN (ps.drop k) a∧needN (ps.drop k) a≤a:=fun k a=>needN_le (fun q hq=>hge q (List.mem_of_mem_drop hq)) a
        have h00:0≤needN ps A:=need_one hge hps.one hps.l.1 A
        have p20:ps.length≤20:=by omega
        have pb:∀ p ∈ ps,1≤p∧p≤1000:=fun p hp=>by have:=hps.b p hp;omega
        have A1:(A:Int)≤1000:=by omega
        have r0:=rowR_len (needN ps) A
        have k0:(rowR (needN ps) A).getD A 0=needN ps A:=rowR_get (Nat.le_refl _)
        repeat' (first|(apply nx;with_reducible constructor)|refine uq (by decide) ?_|((first|refine vz env fun Q hQ=>?_|refine vj fun Q hQ=>?_);simp only [vkt,seval,tbN16_68,xbN16_1,rqP1,rqP2,c124,List.length_map,h0,w1,h1,h3,g1,g2,hP,p20,A1,r0,k0];(try simp only [ite_and]);(repeat' (first|with_reducible assumption|refine And.intro ?_ ?_|intro hp));all_goals (first|(refine hQ _ ?_;clear hQ Q)|(refine hQ _ (fun h=>?_) (fun h=>?_) <;> clear hQ Q <;> (try simp only [vki,reduceCtorEq] at h))|(refine vq ?_;kernel_rfl)|omega|assumption|with_reducible rfl|skip)))
        refine sym_loop (fun i:{ i:Nat // i≤ps.length }=>rqP1 l c ps A i.1) (fun i=>ps.length - i.1) ⟨0,Nat.zero_le _⟩ ?_ fun ⟨i,hi⟩=>?_
        · (refine Le.ok (fun j=>if j=1 then none else some j) [] ?_;constructor;all_goals (try simp only [vle,vkt,seval,tbN16_68,xbN16_1,rqP1,rqP2,c124,List.length_map]))
          all_goals first|rfl|(simp [upd];done)|exact ⟨rfl,rfl⟩
        · repeat' (first|(apply nx;with_reducible constructor)|refine uq (by decide) ?_)
          (refine vz env fun Q hQ=>?_;simp only [vkt,seval,tbN16_68,xbN16_1,rqP1,rqP2,c124,List.length_map,hP];(try simp only [ite_and]);(repeat' (first|with_reducible assumption|refine And.intro ?_ ?_|intro hp));all_goals (first|(refine hQ _ ?_;clear hQ Q)|(refine vq ?_;kernel_rfl)|omega|assumption|with_reducible rfl|skip))
          repeat' (first|(apply nx;with_reducible constructor)|refine uq (by decide) ?_)
          (refine sym_cd (by simp only [vkt,seval,tbN16_68,xbN16_1,rqP1,rqP2,c124,List.length_map];rfl) (fun h=>?_) (fun h=>?_) <;> (try simp only [vki,reduceCtorEq] at h))
          · have lt1:i < ps.length:=by omega
            obtain ⟨p1,p2,p3⟩:=b3 i lt1
            obtain ⟨p,hp⟩:∃ p:Nat,ps.getD i 0=(p:Int):=⟨_,p1⟩
            rw [hp,Int.toNat_natCast] at p2 p3
            generalize hf:needN (ps.drop (i+1))=f at *
            obtain ⟨q1,q2⟩:=pc_inv hge h00 i hi
            have nm:=need_drop lt1 (pcA ps A i)
            rw [hp,Int.toNat_natCast,hf] at nm
            have fl:=nd (i+1)
            rw [hf] at fl
            have hM:pcM ps A i=countN p f (pcA ps A i):=by unfold pcM;rw [hp,Int.toNat_natCast,hf]
            have hN:pcA ps A (i+1)=pcA ps A i - countN p f (pcA ps A i) * p:=by rw [pcA,hp,Int.toNat_natCast,hf]
            have hS:=pcL_succ ps A i
            rw [hM] at hS
            have hLn:=pcL_len ps A i
            generalize hq:pcA ps A i=a at *
            rw [nm] at q1
            have hsp:=countN_spec p2 q1
            unfold hitN at hsp
            simp only [Bool.and_eq_true,decide_eq_true_eq] at hsp
            have e1:IntKind.wrap .i64 ((i:Int)+1)=((i+1:Nat):Int):=by rw [wrap64 (by omega) (by omega)];rfl
            have d1:List.drop (i+1) (ps.map eInt)=(ps.drop (i+1)).map eInt:=by rw [List.map_drop]
            have d2:(ps.drop (i+1)).length≤20:=by rw [List.length_drop];omega
            have d3:∀ p ∈ ps.drop (i+1),1≤p∧p≤1000:=fun p hp=>pb p (List.mem_of_mem_drop hp)
            have d4:(a:Int)≤1000:=by omega
            have tk:List.take ps.length (ps.map eInt)=ps.map eInt:=List.take_of_length_le (by simp)
            repeat' (first|(apply nx;with_reducible constructor)|refine uq (by decide) ?_|((first|refine vz env fun Q hQ=>?_|refine vj fun Q hQ=>?_);simp only [vkt,seval,tbN16_68,xbN16_1,rqP1,rqP2,c124,List.length_map,hP,e1,d1,d2,d4,tk,hf];(try simp only [ite_and]);(repeat' (first|with_reducible assumption|refine And.intro ?_ ?_|intro hp));all_goals (first|(refine hQ _ ?_;clear hQ Q)|(refine hQ _ (fun h=>?_) (fun h=>?_) <;> clear hQ Q <;> (try simp only [vki,reduceCtorEq] at h))|(refine vq ?_;kernel_rfl)|omega|assumption|with_reducible rfl|skip)))
            refine sym_loop (fun m:{ m:Nat // m≤countN p f a∧∀ j,j < m→hitN p f a j=false }=>rqP2 l c ps A i f a (gN p f a) m.1) (fun m=>countN p f a - m.1) ⟨0,Nat.zero_le _,fun j h=>absurd h (Nat.not_lt_zero _)⟩ ?_ fun ⟨m,hm,hno⟩=>?_
            · (refine Le.ok some [] ?_;constructor;all_goals (try simp only [vle,vkt,seval,tbN16_68,xbN16_1,rqP1,rqP2,c124,List.length_map]))
              all_goals first|rfl|(simp [upd,hq,nm];done)|exact ⟨rfl,rfl⟩
            · have hmp:m * p≤countN p f a * p:=Nat.mul_le_mul_right p hm
              have hmm:m≤m * p:=Nat.le_mul_of_pos_right m p2
              have hcc:countN p f a≤countN p f a * p:=Nat.le_mul_of_pos_right _ p2
              have u1:IntKind.wrap .i64 ((m:Int) * (p:Int))=((m * p:Nat):Int):=by rw [← Int.natCast_mul,wrap64 (by omega) (by omega)]
              have u2:IntKind.wrap .i64 ((a:Int) - ((m * p:Nat):Int))=((a - m * p:Nat):Int):=by rw [wrap64 (by omega) (by omega)];omega
              have u3:IntKind.wrap .i64 ((i:Int)+1)=((i+1:Nat):Int):=by rw [wrap64 (by omega) (by omega)];rfl
              have r1:=rowR_len f a
              have k1:(rowR f a).getD (a - m * p) 0=f (a - m * p):=rowR_get (by omega)
              have g1:=fl (a - m * p)
              have g9:=fl (a - countN p f a * p)
              have u4:IntKind.wrap .i64 (gN p f a - (m:Int))=gN p f a - (m:Int):=wrap64 (by omega) (by omega)
              have u5:IntKind.wrap .i64 ((m:Int)+1)=((m+1:Nat):Int):=by rw [wrap64 (by omega) (by omega)];rfl
              have cap:(i+1) * 8≤140737488355328∧i+1≤maxLen:=by omega
              obtain ⟨b,hb⟩:∃ b,a - m * p=b:=⟨_,rfl⟩
              rw [hb] at u2 k1 g1
              have hba:b≤a:=by omega
              cases hh:hitN p f a m
              · have hlt:m < countN p f a:=by
                  rcases Nat.lt_or_eq_of_le hm with h|h
                  · exact h
                  · have:=countN_spec p2 q1;rw [← h,hh] at this;cases this
                have c2:¬ f b=gN p f a - (m:Int):=fun h=>by
                  have:hitN p f a m=true:=by unfold hitN;simp only [Bool.and_eq_true,decide_eq_true_eq];rw [hb];exact ⟨⟨by omega,by omega⟩,by omega⟩
                  rw [hh] at this;cases this
                repeat' (first|(apply nx;with_reducible constructor)|refine uq (by decide) ?_|((first|refine vz env fun Q hQ=>?_|refine vj fun Q hQ=>?_);simp only [vkt,seval,tbN16_68,xbN16_1,rqP1,rqP2,c124,List.length_map,hP,hp,u1,u2,u3,u4,u5,k1,r1,c2];(try simp only [ite_and]);(repeat' (first|with_reducible assumption|refine And.intro ?_ ?_|intro hp));all_goals (first|(refine hQ _ ?_;clear hQ Q)|(refine hQ _ (fun h=>?_) (fun h=>?_) <;> clear hQ Q <;> (try simp only [vki,reduceCtorEq] at h))|(refine vq ?_;kernel_rfl)|omega|assumption|with_reducible rfl|skip)))
                refine ⟨⟨m+1,hlt,fun j hj=>?_⟩,by show countN p f a - (m+1) < countN p f a - m;omega,?_⟩
                · rcases Nat.lt_or_eq_of_le (Nat.le_of_lt_succ hj) with h1|h1
                  · exact hno j h1
                  · rw [h1];exact hh
                · (refine Le.ok some [] ?_;constructor;all_goals (try simp only [vle,vkt,seval,tbN16_68,xbN16_1,rqP1,rqP2,c124,List.length_map]))
                  all_goals first|rfl|(simp [upd];done)|exact ⟨rfl,rfl⟩
              · have hc:=countN_hit p2 hh hno
                unfold hitN at hh
                simp only [Bool.and_eq_true,decide_eq_true_eq] at hh
                rw [hb] at hh
                have c2:f b=gN p f a - (m:Int):=by omega
                have ap:(pcL ps A i).map eInt++[[.v (.int .i64 (m:Int))]]=(pcL ps A (i+1)).map eInt:=by rw [hS,hc,List.map_append];rfl
                rw [hc,hb] at hN
                have zt:decide (gN p f a - (m:Int)=gN p f a - (m:Int))=true:=decide_eq_true rfl
                repeat' (first|(apply nx;with_reducible constructor)|refine uq (by decide) ?_|((first|refine vz env fun Q hQ=>?_|refine vj fun Q hQ=>?_);simp only [vkt,seval,tbN16_68,xbN16_1,rqP1,rqP2,c124,List.length_map,hP,hp,u1,u2,u3,u4,u5,k1,r1,c2,ap,hLn,zt];(try simp only [ite_and]);(repeat' (first|with_reducible assumption|refine And.intro ?_ ?_|intro hp));all_goals (first|(refine hQ _ ?_;clear hQ Q)|(refine hQ _ (fun h=>?_) (fun h=>?_) <;> clear hQ Q <;> (try simp only [vki,reduceCtorEq] at h))|(refine vq ?_;kernel_rfl)|omega|assumption|with_reducible rfl|skip)))
                refine ⟨⟨i+1,lt1⟩,by show ps.length - (i+1) < ps.length - i;omega,?_⟩
                (refine Le.ok (fun j=>if j=1 then some 3 else some j) [] ?_;constructor;all_goals (try simp only [vle,vkt,seval,tbN16_68,xbN16_1,rqP1,rqP2,c124,List.length_map]))
                all_goals first|rfl|(simp [upd,hN,hf,c2];done)|exact ⟨rfl,rfl⟩
          · have:i=ps.length:=by omega
            subst this
            repeat' (first|(apply nx;with_reducible constructor)|refine uq (by decide) ?_|((first|refine vz env fun Q hQ=>?_|refine vj fun Q hQ=>?_);simp only [vkt,seval,tbN16_68,xbN16_1,rqP1,rqP2,c124,List.length_map,hP];(try simp only [ite_and]);(repeat' (first|with_reducible assumption|refine And.intro ?_ ?_|intro hp));all_goals (first|(refine hQ _ ?_;clear hQ Q)|(refine hQ _ (fun h=>?_) (fun h=>?_) <;> clear hQ Q <;> (try simp only [vki,reduceCtorEq] at h))|(refine vq ?_;kernel_rfl)|omega|assumption|with_reducible rfl|skip)))
            (simp only [vrt,Try.results68,vkt,seval,tbN16_68,xbN16_1,rqP1,rqP2,c124,List.length_map];refine Fin.val rfl ?_;(try simp only [AV.le,AV.leL]))
            all_goals first|exact ⟨⟨_,_,rfl⟩,trivial,trivial⟩|(simp [piL,aInts];done)
      · have h3:inB n 0 999=false:=by simpa using h3
        rw [if_pos (by rw [h3];rfl)] at hm
        rw [aPieces_err hm (by decide)]
        repeat' (first|(apply nx;with_reducible constructor)|refine uq (by decide) ?_|((first|refine vz env fun Q hQ=>?_|refine vj fun Q hQ=>?_);simp only [vkt,seval,tbN16_68,xbN16_1,rqP1,rqP2,c124,List.length_map,h0,w1,h1,h3];(try simp only [ite_and]);(repeat' (first|with_reducible assumption|refine And.intro ?_ ?_|intro hp));all_goals (first|(refine hQ _ ?_;clear hQ Q)|(refine hQ _ (fun h=>?_) (fun h=>?_) <;> clear hQ Q <;> (try simp only [vki,reduceCtorEq] at h))|(refine vq ?_;kernel_rfl)|omega|assumption|with_reducible rfl|skip)))
        (simp only [vrt,Try.results68,vkt,seval,tbN16_68,xbN16_1,rqP1,rqP2,c124,List.length_map];refine Fin.val rfl ?_;(try simp only [AV.le,AV.leL]))
        all_goals first|rfl|(simp;done)
    · have h1:inB c 0 ((l.coins.length:Int) - 1)=false:=by simpa using h1
      rw [if_pos (by rw [h1];rfl)] at hm
      rw [aPieces_err hm (by decide)]
      repeat' (first|(apply nx;with_reducible constructor)|refine uq (by decide) ?_|((first|refine vz env fun Q hQ=>?_|refine vj fun Q hQ=>?_);simp only [vkt,seval,tbN16_68,xbN16_1,rqP1,rqP2,c124,List.length_map,h0,w1,h1];(try simp only [ite_and]);(repeat' (first|with_reducible assumption|refine And.intro ?_ ?_|intro hp));all_goals (first|(refine hQ _ ?_;clear hQ Q)|(refine hQ _ (fun h=>?_) (fun h=>?_) <;> clear hQ Q <;> (try simp only [vki,reduceCtorEq] at h))|(refine vq ?_;kernel_rfl)|omega|assumption|with_reducible rfl|skip)))
      (simp only [vrt,Try.results68,vkt,seval,tbN16_68,xbN16_1,rqP1,rqP2,c124,List.length_map];refine Fin.val rfl ?_;(try simp only [AV.le,AV.leL]))
      all_goals first|rfl|(simp;done)
  · rw [if_pos h0] at hm
    rw [aPieces_err hm h0]
    repeat' (first|(apply nx;with_reducible constructor)|refine uq (by decide) ?_|((first|refine vz env fun Q hQ=>?_|refine vj fun Q hQ=>?_);simp only [vkt,seval,tbN16_68,xbN16_1,rqP1,rqP2,c124,List.length_map,h0];(try simp only [ite_and]);(repeat' (first|with_reducible assumption|refine And.intro ?_ ?_|intro hp));all_goals (first|(refine hQ _ ?_;clear hQ Q)|(refine hQ _ (fun h=>?_) (fun h=>?_) <;> clear hQ Q <;> (try simp only [vki,reduceCtorEq] at h))|(refine vq ?_;kernel_rfl)|omega|assumption|with_reducible rfl|skip)))
    (simp only [vrt,Try.results68,vkt,seval,tbN16_68,xbN16_1,rqP1,rqP2,c124,List.length_map];refine Fin.val rfl ?_;(try simp only [AV.le,AV.leL]))
    all_goals first|rfl|(simp;done)
theorem d68 {A:Frm→Prop}:EntryOK A Try.prog 68 (valE false c28):=valE_ok fun vs hv h=>by
  clear hv
  unfold c28 at h ⊢
  split at h
  · refine ⟨by unfold aPieces;split <;> simp [AV.plain,AV.plainL,aI,aInts],fun h=>absurd h (by decide),?_⟩
    rw [← aLed_of h.1];exact rpieces_fn _ _ _ h.2
  · exact h.elim
end Go.Sym.B
namespace Go.Sym.B
open Go Go.Sym Go.Proofs Go.Sym.C
theorem takeI (l:List (List Int)) {k:Nat} (h:k < l.length):(l.take k).map eInts++[[.sl ((l.getD k []).map eInt)]]=(l.take (k+1)).map eInts:=by
  rw [List.take_succ_eq_append_getElem h,List.map_append];simp [List.getD_eq_getElem?_getD,h,eInts]
theorem takeS (l:List (List Sh)) {k:Nat} (h:k < l.length):(l.take k).map eShs++[[.sl ((l.getD k []).map eSh)]]=(l.take (k+1)).map eShs:=by
  rw [List.take_succ_eq_append_getElem h,List.map_append];simp [List.getD_eq_getElem?_getD,h,eShs]
def crT (l:List (List Int)) (k:Nat):St:={ t:=asg [(0,aIntss l),(2,.nil),(3,.row 0),(4,aI k)],h:=hasg [(0,.row 22 1 ((l.take k).map eInts))],n:=1 }
def tbH6_104:=vk @ty3 (vk @ty22 (vk @ty28 (vk @ti3.eq_1 (vk @ti22.eq_1 @ti28.eq_1))))
def xbH6_1:=vk @aI.eq_1 (vk @aB.eq_1 (vk @aInts.eq_1 (vk @aIntss.eq_1 (vk @crT.eq_1 (vk @c23.eq_1 (vk @c23.eq_2 (vk @gInts (vk @eInts.eq_1 (vk @mInt (vk @rInts (@rInt)))))))))))
theorem copyRows_fn (l:List (List Int)) (hl:l.length≤20) (hp:∀ p ∈ l,p.length≤100000):FnV Try.prog 104 [aIntss l] (aIntss l):=by
  have env:Env (fun _=>True) Try.prog tyB (tab [(23,valE false c23)]):=mkEnv ⟨d23,trivial⟩
  refine Fn.of (A:=fun _=>True) (n0:=0) (D:=noD) (Fn0 Try.func104 rfl (fun vs w=>by kernel_rfl) (by kernel_rfl)) (by simp) (by simp [AV.ids,AV.idsL,aIntss]) (fun i o h=>by cases h) (fun _ _ _ _=>trivial) noD_ok ?_
  have q5:=tmax
  repeat' (first|(apply nx;with_reducible constructor)|refine uq (by decide) ?_|((first|refine vz env fun Q hQ=>?_|refine vj fun Q hQ=>?_);simp only [vkt,seval,tbH6_104,xbH6_1];(try simp only [ite_and]);(repeat' (first|with_reducible assumption|refine And.intro ?_ ?_|intro hp));all_goals (first|(refine hQ _ ?_;clear hQ Q)|(refine hQ _ (fun h=>?_) (fun h=>?_) <;> clear hQ Q <;> (try simp only [vki,reduceCtorEq] at h))|omega|assumption|with_reducible rfl|(refine vq ?_;kernel_rfl)|skip)))
  refine sym_loop (fun k:{ k:Nat // k≤l.length }=>crT l k.1) (fun k=>l.length - k.1) ⟨0,Nat.zero_le _⟩ ?_ fun ⟨k,hk⟩=>?_
  · (refine Le.ok (fun _=>none) [] ?_;constructor;all_goals (try simp only [vle,vkt,seval,tbH6_104,xbH6_1]))
    all_goals first|rfl|(simp;done)
  · repeat' (first|(apply nx;with_reducible constructor)|refine uq (by decide) ?_)
    (refine vz env fun Q hQ=>?_;simp only [vkt,seval,tbH6_104,xbH6_1];(try simp only [ite_and]);(repeat' (first|with_reducible assumption|refine And.intro ?_ ?_|intro hp));all_goals (first|(refine hQ _ ?_;clear hQ Q)|omega|assumption|with_reducible rfl|(refine vq ?_;kernel_rfl)|skip))
    repeat' (first|(apply nx;with_reducible constructor)|refine uq (by decide) ?_)
    (refine sym_cd (by simp only [vkt,seval,tbH6_104,xbH6_1];rfl) (fun h=>?_) (fun h=>?_) <;> (try simp only [vki,reduceCtorEq] at h))
    · have hlt:k < l.length:=by omega
      have e9:=wrap_succ hlt (show l.length≤maxLen by omega)
      have hpl:=hp _ (gMem (d:=[]) hlt)
      have e4:=takeI l hlt
      have hk2:(l.take k).length=k:=by rw [List.length_take];omega
      obtain ⟨p,hP⟩:∃ p,l.getD k []=p:=⟨_,rfl⟩
      rw [hP] at e4 hpl
      have m1:(k+1) * 24≤140737488355328∧k+1≤maxLen:=by omega
      repeat' (first|(apply nx;with_reducible constructor)|refine uq (by decide) ?_|((first|refine vz env fun Q hQ=>?_|refine vj fun Q hQ=>?_);simp only [vkt,seval,tbH6_104,xbH6_1,hP,e4,e9,hk2];(try simp only [ite_and]);(repeat' (first|with_reducible assumption|refine And.intro ?_ ?_|intro hp));all_goals (first|(refine hQ _ ?_;clear hQ Q)|(refine hQ _ (fun h=>?_) (fun h=>?_) <;> clear hQ Q <;> (try simp only [vki,reduceCtorEq] at h))|omega|assumption|with_reducible rfl|(refine vq ?_;kernel_rfl)|skip)))
      refine ⟨⟨k+1,hlt⟩,by show l.length - (k+1) < l.length - k;omega,?_⟩
      (refine Le.ok (fun j=>if j=0 then some 2 else some j) [] ?_;constructor;all_goals (try simp only [vle,vkt,seval,tbH6_104,xbH6_1]))
      all_goals first|rfl|(simp;done)
    · have hkn:k=l.length:=by omega
      subst hkn
      repeat' (first|(apply nx;with_reducible constructor)|refine uq (by decide) ?_|((first|refine vz env fun Q hQ=>?_|refine vj fun Q hQ=>?_);simp only [vkt,seval,tbH6_104,xbH6_1];(try simp only [ite_and]);(repeat' (first|with_reducible assumption|refine And.intro ?_ ?_|intro hp));all_goals (first|(refine hQ _ ?_;clear hQ Q)|(refine hQ _ (fun h=>?_) (fun h=>?_) <;> clear hQ Q <;> (try simp only [vki,reduceCtorEq] at h))|omega|assumption|with_reducible rfl|(refine vq ?_;kernel_rfl)|skip)))
      (simp only [vrt,Try.results104,vkt,seval,tbH6_104,xbH6_1];refine Fin.val rfl ?_;(try simp only [AV.le,AV.leL]))
      all_goals first|(rw [List.take_length];exact ⟨_,_,rfl⟩)
def c104:List AV→Prop × AV
  |[.sl xs]=>(xs=(xs.map dInts).map eInts∧xs.length≤20∧∀ p ∈ xs.map dInts,p.length≤100000,.sl xs)
  |_=>(False,.junk)
theorem d104 {A:Frm→Prop}:EntryOK A Try.prog 104 (valE false c104):=valE_ok fun vs hv h=>by
  clear hv
  unfold c104 at h ⊢
  split at h
  · refine ⟨trivial,fun h=>absurd h (by decide),?_⟩
    have:=copyRows_fn (List.map dInts _) (by rw [List.length_map];exact h.2.1) h.2.2
    simp only [aIntss,← h.1] at this
    exact this
  · exact h.elim
def clT (l:Led) (k:Nat):St:={ t:=asg [(1,.ptr 0 0),(2,.ptr 1 0),(3,.sl (l.rates.map eShs)),(4,aI k)],h:=hasg [(0,.cells [.sl (l.coins.map eInts),.row 2,.sl (l.start.map eInt),.sl (l.entries.map eEnt)]),(1,.cells [.nil,.nil,.nil,.nil]),(2,.row 55 1 ((l.rates.take k).map eShs))],n:=3 }
theorem Fit.csl {l:Led} (h:Fit l):∀ p ∈ l.coins,p.length≤100000:=fun p hp=>by have:=h.cs p hp;omega
end Go.Sym.B
namespace Go.Sym.B
open Go Go.Sym Go.Proofs Go.Sym.C
def largeB (l:Led):Bool:=(List.range (min l.coins.length 20)).any (fun j=>decide (20 < (l.coins.getD j []).length)) || ((List.range (min l.rates.length 20)).any (fun j=>decide (20 < (l.rates.getD j []).length)) || (decide (20 < l.coins.length) || (decide (20 < l.rates.length) || (decide (20 < l.start.length) || decide (20 < l.entries.length)))))
theorem anyR {n:Nat} {f:Nat→Nat} {k:Nat} (h:k < n) (h2:k < 20) (hf:20 < f k):(List.range (min n 20)).any (fun j=>decide (20 < f j))=true:=by
  rw [List.any_eq_true]
  exact ⟨k,List.mem_range.2 (by omega),by simpa using hf⟩
theorem anyN {n:Nat} {f:Nat→Nat} (h:∀ j,j < n→j < 20→f j≤20):(List.range (min n 20)).any (fun j=>decide (20 < f j))=false:=by
  rw [List.any_eq_false]
  intro j hj
  have:=List.mem_range.1 hj
  have:=h j (by omega) (by omega)
  simpa using this
theorem fit_of {l:Led} (h:largeB l=false):Fit l:=by
  unfold largeB at h
  simp only [Bool.or_eq_false_iff,decide_eq_false_iff_not,Nat.not_lt,List.any_eq_false,List.mem_range,decide_eq_true_eq] at h
  obtain ⟨h1,h2,h3,h4,h5,h6⟩:=h
  refine ⟨h3,fun p hp=>?_,h4,fun p hp=>?_,h5,h6⟩
  · obtain ⟨j,hj,rfl⟩:=List.getElem_of_mem hp
    have:=h1 j (by omega)
    simpa [List.getD_eq_getElem?_getD,hj] using this
  · obtain ⟨j,hj,rfl⟩:=List.getElem_of_mem hp
    have:=h2 j (by omega)
    simpa [List.getD_eq_getElem?_getD,hj] using this
def laT1 (l:Led) (k:Nat):St:={ t:=asg [(1,.ptr 0 0),(2,aB false),(3,aI k)],h:=hasg [(0,.cells (cLed l))],n:=1 }
def laT2 (l:Led) (k:Nat):St:={ t:=asg [(1,.ptr 0 0),(2,aB false),(4,aI k)],h:=hasg [(0,.cells (cLed l))],n:=1 }
def tbJ1_44:=vk @ty3 (vk @ty22 (vk @ty28 (vk @ty35 (vk @ty36 (vk @ty38 (vk @ty48 (vk @ty55 (vk @ty59 (vk @ti3.eq_1 (vk @ti22.eq_1 (vk @ti28.eq_1 (vk @ti35.eq_1 (vk @ti36.eq_1 (vk @ti38.eq_1 (vk @ti48.eq_1 (vk @ti55.eq_1 @ti59.eq_1))))))))))))))))
def xbJ1_1:=vk @aI.eq_1 (vk @aB.eq_1 (vk @aLed.eq_1 (vk @cLed.eq_1 (vk @laT1.eq_1 (vk @laT2.eq_1 (vk @gInts (vk @eInts.eq_1 (vk @gShs (@eShs.eq_1)))))))))
set_option maxHeartbeats 4000000 in
theorem large_fn (l:Led):FnV Try.prog 44 [aLed l] (aB (largeB l)):=by
  have env:Env (fun _=>True) Try.prog tyB (tab []):=mkEnv trivial
  refine Fn.of (A:=fun _=>True) (n0:=0) (D:=noD) (Fn0 Try.func44 rfl (fun vs w=>by kernel_rfl) (by kernel_rfl)) (by simp) (by simp [AV.ids,AV.idsL,aLed,cLed]) (fun i o h=>by cases h) (fun _ _ _ _=>trivial) noD_ok ?_
  repeat' (first|(apply nx;with_reducible constructor)|refine uq (by decide) ?_|((first|refine vz env fun Q hQ=>?_|refine vj fun Q hQ=>?_);simp only [vkt,seval,tbJ1_44,xbJ1_1];(try simp only [ite_and]);(repeat' (first|with_reducible assumption|refine And.intro ?_ ?_|intro hp));all_goals (first|(refine hQ _ ?_;clear hQ Q)|(refine hQ _ (fun h=>?_) (fun h=>?_) <;> clear hQ Q <;> (try simp only [vki,reduceCtorEq] at h))|omega|assumption|with_reducible rfl|(refine vq ?_;kernel_rfl)|skip)))
  refine sym_loop (fun k:{ k:Nat // k≤l.coins.length∧k≤20∧∀ j,j < k→(l.coins.getD j []).length≤20 }=>laT1 l k.1) (fun k=>20 - k.1) ⟨0,Nat.zero_le _,Nat.zero_le _,fun j h=>by omega⟩ ?_ fun ⟨k,hk,hk2,hall⟩=>?_
  · (refine Le.ok some [] ?_;constructor;all_goals (try simp only [vle,vkt,seval,tbJ1_44,xbJ1_1]))
    all_goals first|rfl|(simp;done)
  by_cases c1:k < l.coins.length∧k < 20
  · have k1:decide ((k:Int) < (l.coins.length:Int))=true:=decide_eq_true (by omega)
    have k2:decide ((k:Int) < 20)=true:=decide_eq_true (by omega)
    have e9:=wrap64 (n:=(k:Int)+1) (by omega) (by omega)
    by_cases c2:20 < (l.coins.getD k []).length
    · have k3:decide ((20:Int) < ((l.coins.getD k []).length:Int))=true:=decide_eq_true (by omega)
      repeat' (first|(apply nx;with_reducible constructor)|refine uq (by decide) ?_|((first|refine vz env fun Q hQ=>?_|refine vj fun Q hQ=>?_);simp only [vkt,seval,tbJ1_44,xbJ1_1,k1,k2,k3];(try simp only [ite_and]);(repeat' (first|with_reducible assumption|refine And.intro ?_ ?_|intro hp));all_goals (first|(refine hQ _ ?_;clear hQ Q)|(refine hQ _ (fun h=>?_) (fun h=>?_) <;> clear hQ Q <;> (try simp only [vki,reduceCtorEq] at h))|omega|assumption|with_reducible rfl|(refine vq ?_;kernel_rfl)|skip)))
      (simp only [vrt,Try.results44,vkt,seval,tbJ1_44,xbJ1_1];refine Fin.val rfl ?_;(try simp only [AV.le,AV.leL]))
      all_goals first|(rw [largeB,anyR (f:=fun j=>(l.coins.getD j []).length) c1.1 c1.2 c2];rfl)
    · have k3:decide ((20:Int) < ((l.coins.getD k []).length:Int))=false:=decide_eq_false (by omega)
      repeat' (first|(apply nx;with_reducible constructor)|refine uq (by decide) ?_|((first|refine vz env fun Q hQ=>?_|refine vj fun Q hQ=>?_);simp only [vkt,seval,tbJ1_44,xbJ1_1,k1,k2,k3,e9];(try simp only [ite_and]);(repeat' (first|with_reducible assumption|refine And.intro ?_ ?_|intro hp));all_goals (first|(refine hQ _ ?_;clear hQ Q)|(refine hQ _ (fun h=>?_) (fun h=>?_) <;> clear hQ Q <;> (try simp only [vki,reduceCtorEq] at h))|omega|assumption|with_reducible rfl|(refine vq ?_;kernel_rfl)|skip)))
      refine ⟨⟨k+1,by omega,by omega,fun j hj=>?_⟩,by show 20 - (k+1) < 20 - k;omega,?_⟩
      · rcases Nat.lt_or_eq_of_le (Nat.le_of_lt_succ hj) with h|h
        · exact hall j h
        · rw [h];omega
      · (refine Le.ok some [] ?_;constructor;all_goals (try simp only [vle,vkt,seval,tbJ1_44,xbJ1_1]))
        all_goals first|rfl|(simp;done)
  have a1:(List.range (min l.coins.length 20)).any (fun j=>decide (20 < (l.coins.getD j []).length))=false:=anyN (f:=fun j=>(l.coins.getD j []).length) fun j h1 h2=>hall j (by omega)
  have hd:(decide ((k:Int) < (l.coins.length:Int))=true∧decide ((k:Int) < 20)=false)∨decide ((k:Int) < (l.coins.length:Int))=false:=by
    by_cases h:k < l.coins.length
    · exact .inl ⟨decide_eq_true (by omega),decide_eq_false (by omega)⟩
    · exact .inr (decide_eq_false (by omega))
  rcases hd with ⟨d1,d2⟩|d1
  rotate_left
  have d2:=d1
  all_goals
    repeat' (first|(apply nx;with_reducible constructor)|refine uq (by decide) ?_|((first|refine vz env fun Q hQ=>?_|refine vj fun Q hQ=>?_);simp only [vkt,seval,tbJ1_44,xbJ1_1,d1,d2];(try simp only [ite_and]);(repeat' (first|with_reducible assumption|refine And.intro ?_ ?_|intro hp));all_goals (first|(refine hQ _ ?_;clear hQ Q)|(refine hQ _ (fun h=>?_) (fun h=>?_) <;> clear hQ Q <;> (try simp only [vki,reduceCtorEq] at h))|omega|assumption|with_reducible rfl|(refine vq ?_;kernel_rfl)|skip)))
    refine sym_loop (fun k:{ k:Nat // k≤l.rates.length∧k≤20∧∀ j,j < k→(l.rates.getD j []).length≤20 }=>laT2 l k.1) (fun k=>20 - k.1) ⟨0,Nat.zero_le _,Nat.zero_le _,fun j h=>by omega⟩ ?_ fun ⟨k,hk,hk2,hall⟩=>?_
    · (refine Le.ok some [] ?_;constructor;all_goals (try simp only [vle,vkt,seval,tbJ1_44,xbJ1_1]))
      all_goals first|rfl|(simp;done)
    clear d1 d2
    by_cases c1:k < l.rates.length∧k < 20
    · have k1:decide ((k:Int) < (l.rates.length:Int))=true:=decide_eq_true (by omega)
      have k2:decide ((k:Int) < 20)=true:=decide_eq_true (by omega)
      have e9:=wrap64 (n:=(k:Int)+1) (by omega) (by omega)
      by_cases c2:20 < (l.rates.getD k []).length
      · have k3:decide ((20:Int) < ((l.rates.getD k []).length:Int))=true:=decide_eq_true (by omega)
        repeat' (first|(apply nx;with_reducible constructor)|refine uq (by decide) ?_|((first|refine vz env fun Q hQ=>?_|refine vj fun Q hQ=>?_);simp only [vkt,seval,tbJ1_44,xbJ1_1,k1,k2,k3];(try simp only [ite_and]);(repeat' (first|with_reducible assumption|refine And.intro ?_ ?_|intro hp));all_goals (first|(refine hQ _ ?_;clear hQ Q)|(refine hQ _ (fun h=>?_) (fun h=>?_) <;> clear hQ Q <;> (try simp only [vki,reduceCtorEq] at h))|omega|assumption|with_reducible rfl|(refine vq ?_;kernel_rfl)|skip)))
        (simp only [vrt,Try.results44,vkt,seval,tbJ1_44,xbJ1_1];refine Fin.val rfl ?_;(try simp only [AV.le,AV.leL]))
        all_goals first|(rw [largeB,a1,anyR (f:=fun j=>(l.rates.getD j []).length) c1.1 c1.2 c2];rfl)
      · have k3:decide ((20:Int) < ((l.rates.getD k []).length:Int))=false:=decide_eq_false (by omega)
        repeat' (first|(apply nx;with_reducible constructor)|refine uq (by decide) ?_|((first|refine vz env fun Q hQ=>?_|refine vj fun Q hQ=>?_);simp only [vkt,seval,tbJ1_44,xbJ1_1,k1,k2,k3,e9];(try simp only [ite_and]);(repeat' (first|with_reducible assumption|refine And.intro ?_ ?_|intro hp));all_goals (first|(refine hQ _ ?_;clear hQ Q)|(refine hQ _ (fun h=>?_) (fun h=>?_) <;> clear hQ Q <;> (try simp only [vki,reduceCtorEq] at h))|omega|assumption|with_reducible rfl|(refine vq ?_;kernel_rfl)|skip)))
        refine ⟨⟨k+1,by omega,by omega,fun j hj=>?_⟩,by show 20 - (k+1) < 20 - k;omega,?_⟩
        · rcases Nat.lt_or_eq_of_le (Nat.le_of_lt_succ hj) with h|h
          · exact hall j h
          · rw [h];omega
        · (refine Le.ok some [] ?_;constructor;all_goals (try simp only [vle,vkt,seval,tbJ1_44,xbJ1_1]))
          all_goals first|rfl|(simp;done)
    have a2:(List.range (min l.rates.length 20)).any (fun j=>decide (20 < (l.rates.getD j []).length))=false:=anyN (f:=fun j=>(l.rates.getD j []).length) fun j h1 h2=>hall j (by omega)
    have hd:(decide ((k:Int) < (l.rates.length:Int))=true∧decide ((k:Int) < 20)=false)∨decide ((k:Int) < (l.rates.length:Int))=false:=by
      by_cases h:k < l.rates.length
      · exact .inl ⟨decide_eq_true (by omega),decide_eq_false (by omega)⟩
      · exact .inr (decide_eq_false (by omega))
    have hB:largeB l=(decide (20 < l.coins.length) || (decide (20 < l.rates.length) || (decide (20 < l.start.length) || decide (20 < l.entries.length)))):=by rw [largeB,a1,a2];rfl
    rw [hB]
    have b1:decide ((20:Int) < (l.coins.length:Int))=decide (20 < l.coins.length):=decide_eq_decide.2 (by omega)
    have b2:decide ((20:Int) < (l.rates.length:Int))=decide (20 < l.rates.length):=decide_eq_decide.2 (by omega)
    have b3:decide ((20:Int) < (l.start.length:Int))=decide (20 < l.start.length):=decide_eq_decide.2 (by omega)
    have b4:decide ((20:Int) < (l.entries.length:Int))=decide (20 < l.entries.length):=decide_eq_decide.2 (by omega)
    generalize decide (20 < l.coins.length)=p1 at *
    generalize decide (20 < l.rates.length)=p2 at *
    generalize decide (20 < l.start.length)=p3 at *
    generalize decide (20 < l.entries.length)=p4 at *
    rcases hd with ⟨d1,d2⟩|d1
    rotate_left
    have d2:=d1
    all_goals
      cases p1 <;> cases p2 <;> cases p3
      all_goals
        repeat' (first|(apply nx;with_reducible constructor)|refine uq (by decide) ?_|((first|refine vz env fun Q hQ=>?_|refine vj fun Q hQ=>?_);simp only [vkt,seval,tbJ1_44,xbJ1_1,d1,d2,b1,b2,b3,b4];(try simp only [ite_and]);(repeat' (first|with_reducible assumption|refine And.intro ?_ ?_|intro hp));all_goals (first|(refine hQ _ ?_;clear hQ Q)|(refine hQ _ (fun h=>?_) (fun h=>?_) <;> clear hQ Q <;> (try simp only [vki,reduceCtorEq] at h))|omega|assumption|with_reducible rfl|(refine vq ?_;kernel_rfl)|skip)))
        (simp only [vrt,Try.results44,vkt,seval,tbJ1_44,xbJ1_1];refine Fin.val rfl ?_;(try simp only [AV.le,AV.leL]))
        all_goals first|rfl|(simp;done)
def c44:List AV→Prop × AV
  |[.agg [.sl cs,.sl rs,.sl ss,.sl es]]=>(isL cs rs ss es,aB (largeB (ldOf cs rs ss es)))
  |_=>(False,.junk)
theorem d44 {A:Frm→Prop}:EntryOK A Try.prog 44 (valE true c44):=valE_ok fun vs hv h=>by
  clear hv
  unfold c44 at h ⊢
  split at h
  · refine ⟨by simp [AV.plain,aB],fun _=>by simp [AV.flat,aB],?_⟩
    rw [← aLed_of h];exact large_fn _
  · exact h.elim
end Go.Sym.B
namespace Go.Sym.B
open Go Go.Sym Go.Proofs Go.Sym.C
def tbJ2_43:=vk @ty3 (vk @ty22 (vk @ty28 (vk @ty35 (vk @ty36 (vk @ty38 (vk @ty48 (vk @ty55 (vk @ty59 (vk @ti3.eq_1 (vk @ti22.eq_1 (vk @ti28.eq_1 (vk @ti35.eq_1 (vk @ti36.eq_1 (vk @ti38.eq_1 (vk @ti48.eq_1 (vk @ti55.eq_1 @ti59.eq_1))))))))))))))))
def xbJ2_1:=vk @aI.eq_1 (vk @aB.eq_1 (vk @aLed.eq_1 (vk @cLed.eq_1 (vk @clT.eq_1 (vk @c23.eq_1 (vk @c23.eq_2 (vk @c104.eq_1 (vk @c104.eq_2 (vk @gInts (vk @eInts.eq_1 (vk @gShs (vk @eShs.eq_1 (vk @mInt (vk @mInts (vk @rInts (vk @rInt (vk @rShs (vk @rSh (@rEnt)))))))))))))))))))
set_option maxHeartbeats 4000000 in
theorem copyLedV_fn (l:Led) (hl:Fit l):FnV Try.prog 43 [aLed l] (aLed l):=by
  have env:Env (fun _=>True) Try.prog tyB (tab [(23,valE false c23),(104,valE false c104)]):=mkEnv ⟨d23,d104,trivial⟩
  refine Fn.of (A:=fun _=>True) (n0:=0) (D:=noD) (Fn0 Try.func43 rfl (fun vs w=>by kernel_rfl) (by kernel_rfl)) (by simp) (by simp [AV.ids,AV.idsL,aLed,cLed]) (fun i o h=>by cases h) (fun _ _ _ _=>trivial) noD_ok ?_
  have q1:=hl.c
  have q2:=hl.r
  have q3:=hl.e
  have q4:l.start.length≤100000:=by have:=hl.s;omega
  have q5:=tmax
  have q6:=hl.csl
  have m0:l.entries.length * 48≤140737488355328∧l.entries.length≤maxLen:=by omega
  repeat' (first|(apply nx;with_reducible constructor)|refine uq (by decide) ?_|((first|refine vz env fun Q hQ=>?_|refine vj fun Q hQ=>?_);simp only [vkt,seval,tbJ2_43,xbJ2_1];(try simp only [ite_and]);(repeat' (first|with_reducible assumption|refine And.intro ?_ ?_|intro hp));all_goals (first|(refine hQ _ ?_;clear hQ Q)|(refine hQ _ (fun h=>?_) (fun h=>?_) <;> clear hQ Q <;> (try simp only [vki,reduceCtorEq] at h))|omega|assumption|with_reducible rfl|(refine vq ?_;kernel_rfl)|skip)))
  refine sym_loop (fun k:{ k:Nat // k≤l.rates.length }=>clT l k.1) (fun k=>l.rates.length - k.1) ⟨0,Nat.zero_le _⟩ ?_ fun ⟨k,hk⟩=>?_
  · (refine Le.ok (fun j=>if j=2 then none else some j) [] ?_;constructor;all_goals (try simp only [vle,vkt,seval,tbJ2_43,xbJ2_1]))
    all_goals first|rfl|(simp;done)
  · repeat' (first|(apply nx;with_reducible constructor)|refine uq (by decide) ?_)
    (refine vz env fun Q hQ=>?_;simp only [vkt,seval,tbJ2_43,xbJ2_1];(try simp only [ite_and]);(repeat' (first|with_reducible assumption|refine And.intro ?_ ?_|intro hp));all_goals (first|(refine hQ _ ?_;clear hQ Q)|omega|assumption|with_reducible rfl|(refine vq ?_;kernel_rfl)|skip))
    repeat' (first|(apply nx;with_reducible constructor)|refine uq (by decide) ?_)
    (refine sym_cd (by simp only [vkt,seval,tbJ2_43,xbJ2_1];rfl) (fun h=>?_) (fun h=>?_) <;> (try simp only [vki,reduceCtorEq] at h))
    · have hlt:k < l.rates.length:=by omega
      have e9:=wrap_succ hlt (show l.rates.length≤maxLen by omega)
      have hpl:=hl.rs _ (gMem (d:=[]) hlt)
      have e4:=takeS l.rates hlt
      have hk2:(l.rates.take k).length=k:=by rw [List.length_take];omega
      obtain ⟨p,hP⟩:∃ p,l.rates.getD k []=p:=⟨_,rfl⟩
      rw [hP] at e4 hpl
      have m1:(k+1) * 24≤140737488355328∧k+1≤maxLen:=by omega
      have m2:p.length * 16≤140737488355328∧p.length≤maxLen:=by omega
      repeat' (first|(apply nx;with_reducible constructor)|refine uq (by decide) ?_|((first|refine vz env fun Q hQ=>?_|refine vj fun Q hQ=>?_);simp only [vkt,seval,tbJ2_43,xbJ2_1,hP,e4,e9,hk2];(try simp only [ite_and]);(repeat' (first|with_reducible assumption|refine And.intro ?_ ?_|intro hp));all_goals (first|(refine hQ _ ?_;clear hQ Q)|(refine hQ _ (fun h=>?_) (fun h=>?_) <;> clear hQ Q <;> (try simp only [vki,reduceCtorEq] at h))|omega|assumption|with_reducible rfl|(refine vq ?_;kernel_rfl)|skip)))
      refine ⟨⟨k+1,hlt⟩,by show l.rates.length - (k+1) < l.rates.length - k;omega,?_⟩
      (refine Le.ok (fun j=>if j=2 then some 5 else some j) [] ?_;constructor;all_goals (try simp only [vle,vkt,seval,tbJ2_43,xbJ2_1]))
      all_goals first|rfl|(simp;done)
    · have hkn:k=l.rates.length:=by omega
      subst hkn
      repeat' (first|(apply nx;with_reducible constructor)|refine uq (by decide) ?_|((first|refine vz env fun Q hQ=>?_|refine vj fun Q hQ=>?_);simp only [vkt,seval,tbJ2_43,xbJ2_1,List.take_length];(try simp only [ite_and]);(repeat' (first|with_reducible assumption|refine And.intro ?_ ?_|intro hp));all_goals (first|(refine hQ _ ?_;clear hQ Q)|(refine hQ _ (fun h=>?_) (fun h=>?_) <;> clear hQ Q <;> (try simp only [vki,reduceCtorEq] at h))|omega|assumption|with_reducible rfl|(refine vq ?_;kernel_rfl)|skip)))
      (simp only [vrt,Try.results43,vkt,seval,tbJ2_43,xbJ2_1];refine Fin.val rfl ?_;(try simp only [AV.le,AV.leL]))
      all_goals first|rfl|(simp;done)|exact ⟨trivial,⟨_,_,rfl⟩,trivial,⟨_,_,rfl⟩,trivial⟩|exact ⟨trivial,⟨_,_,rfl⟩,trivial,⟨_,_,rfl⟩⟩|exact ⟨rfl,⟨_,_,rfl⟩,rfl,⟨_,_,rfl⟩,trivial⟩|exact ⟨⟨_,_,rfl⟩,⟨_,_,rfl⟩⟩
def c43:List AV→Prop × AV
  |[.agg [.sl cs,.sl rs,.sl ss,.sl es]]=>(isL cs rs ss es∧Fit (ldOf cs rs ss es),aLed (ldOf cs rs ss es))
  |_=>(False,.junk)
theorem d43 {A:Frm→Prop}:EntryOK A Try.prog 43 (valE false c43):=valE_ok fun vs hv h=>by
  clear hv
  unfold c43 at h ⊢
  split at h
  · refine ⟨by simp [AV.plain,AV.plainL,aLed,cLed],fun h=>absurd h (by decide),?_⟩
    have:=copyLedV_fn _ h.2
    rw [aLed_of h.1] at this ⊢
    exact this
  · exact h.elim
def esT (r:List Sh) (k:Nat):St:={ t:=asg [(0,aShs r),(1,aShs r),(4,aB false),(5,aI k)],h:=hasg [],n:=0 }
def tbJ2_57:=vk @ty3 (vk @ty55 (vk @ty59 (vk @ti3.eq_1 (vk @ti55.eq_1 @ti59.eq_1))))
def xbJ2_3:=vk @aI.eq_1 (vk @aB.eq_1 (vk @aShs.eq_1 (vk @esT.eq_1 (vk @gSh (@eSh.eq_1)))))
theorem eqShs_fn (r:List Sh) (hl:r.length≤maxLen):FnV Try.prog 57 [aShs r,aShs r] (aB true):=by
  have env:Env (fun _=>True) Try.prog tyB (tab []):=mkEnv trivial
  refine Fn.of (A:=fun _=>True) (n0:=0) (D:=noD) (Fn0 Try.func57 rfl (fun vs w=>by kernel_rfl) (by kernel_rfl)) (by simp) (by simp [AV.ids,AV.idsL,aShs]) (fun i o h=>by cases h) (fun _ _ _ _=>trivial) noD_ok ?_
  have zn:∀ n:Int,decide (n=n)=true:=fun n=>decide_eq_true rfl
  repeat' (first|(apply nx;with_reducible constructor)|refine uq (by decide) ?_|((first|refine vz env fun Q hQ=>?_|refine vj fun Q hQ=>?_);simp only [vkt,seval,tbJ2_57,xbJ2_3,zn];(try simp only [ite_and]);(repeat' (first|with_reducible assumption|refine And.intro ?_ ?_|intro hp));all_goals (first|(refine hQ _ ?_;clear hQ Q)|(refine hQ _ (fun h=>?_) (fun h=>?_) <;> clear hQ Q <;> (try simp only [vki,reduceCtorEq] at h))|omega|assumption|with_reducible rfl|(refine vq ?_;kernel_rfl)|skip)))
  refine sym_loop (fun k:{ k:Nat // k≤r.length }=>esT r k.1) (fun k=>r.length - k.1) ⟨0,Nat.zero_le _⟩ ?_ fun ⟨k,hk⟩=>?_
  · (refine Le.ok some [] ?_;constructor;all_goals (try simp only [vle,vkt,seval,tbJ2_57,xbJ2_3]))
    all_goals first|rfl|(simp;done)
  · by_cases hlt:k < r.length
    · have d1:decide ((k:Int) < (r.length:Int))=true:=decide_eq_true (by omega)
      have e9:=wrap_succ hlt hl
      repeat' (first|(apply nx;with_reducible constructor)|refine uq (by decide) ?_|((first|refine vz env fun Q hQ=>?_|refine vj fun Q hQ=>?_);simp only [vkt,seval,tbJ2_57,xbJ2_3,d1,e9,zn];(try simp only [ite_and]);(repeat' (first|with_reducible assumption|refine And.intro ?_ ?_|intro hp));all_goals (first|(refine hQ _ ?_;clear hQ Q)|(refine hQ _ (fun h=>?_) (fun h=>?_) <;> clear hQ Q <;> (try simp only [vki,reduceCtorEq] at h))|omega|assumption|with_reducible rfl|(refine vq ?_;kernel_rfl)|skip)))
      refine ⟨⟨k+1,hlt⟩,by show r.length - (k+1) < r.length - k;omega,?_⟩
      (refine Le.ok some [] ?_;constructor;all_goals (try simp only [vle,vkt,seval,tbJ2_57,xbJ2_3]))
      all_goals first|rfl|(simp;done)
    · have d1:decide ((k:Int) < (r.length:Int))=false:=decide_eq_false (by omega)
      repeat' (first|(apply nx;with_reducible constructor)|refine uq (by decide) ?_|((first|refine vz env fun Q hQ=>?_|refine vj fun Q hQ=>?_);simp only [vkt,seval,tbJ2_57,xbJ2_3,d1];(try simp only [ite_and]);(repeat' (first|with_reducible assumption|refine And.intro ?_ ?_|intro hp));all_goals (first|(refine hQ _ ?_;clear hQ Q)|(refine hQ _ (fun h=>?_) (fun h=>?_) <;> clear hQ Q <;> (try simp only [vki,reduceCtorEq] at h))|omega|assumption|with_reducible rfl|(refine vq ?_;kernel_rfl)|skip)))
      (simp only [vrt,Try.results57,vkt,seval,tbJ2_57,xbJ2_3];refine Fin.val rfl ?_;(try simp only [AV.le,AV.leL]))
      all_goals first|rfl|(simp;done)
def c57:List AV→Prop × AV
  |[.sl xs,.sl ys]=>(ys=xs∧xs=(xs.map dSh).map eSh∧xs.length≤100000,aB true)
  |_=>(False,.junk)
theorem d57 {A:Frm→Prop}:EntryOK A Try.prog 57 (valE true c57):=valE_ok fun vs hv h=>by
  clear hv
  unfold c57 at h ⊢
  split at h
  · rename_i xs ys
    obtain ⟨h1,h2,h3⟩:=h
    refine ⟨by simp [AV.plain,aB],fun _=>by simp [AV.flat,aB],?_⟩
    have := eqShs_fn (xs.map dSh) (by rw [List.length_map]; have : (100000 : Nat) ≤ maxLen := by decide
                                      omega)
    simp only [aShs,← h2] at this
    rw [h1];exact this
  · exact h.elim
def elT1 (l:Led) (k:Nat):St:={ t:=asg [(2,.ptr 0 0),(3,.ptr 1 0),(4,aB false),(5,aI k)],h:=hasg [(0,.cells (cLed l)),(1,.cells (cLed l))],n:=2 }
def elT2 (l:Led) (k:Nat):St:={ t:=asg [(2,.ptr 0 0),(3,.ptr 1 0),(4,aB false),(6,aI k)],h:=hasg [(0,.cells (cLed l)),(1,.cells (cLed l))],n:=2 }
def tbJ2_52:=vk @ty3 (vk @ty22 (vk @ty28 (vk @ty35 (vk @ty36 (vk @ty38 (vk @ty48 (vk @ty55 (vk @ty59 (vk @ti3.eq_1 (vk @ti22.eq_1 (vk @ti28.eq_1 (vk @ti35.eq_1 (vk @ti36.eq_1 (vk @ti38.eq_1 (vk @ti48.eq_1 (vk @ti55.eq_1 @ti59.eq_1))))))))))))))))
def xbJ2_4:=vk @aI.eq_1 (vk @aB.eq_1 (vk @aLed.eq_1 (vk @cLed.eq_1 (vk @elT1.eq_1 (vk @elT2.eq_1 (vk @s36.eq_1 (vk @s36.eq_2 (vk @s26.eq_1 (vk @s26.eq_2 (vk @c57.eq_1 (vk @c57.eq_2 (vk @gShs (vk @eShs.eq_1 (vk @gEnt (vk @eEnt.eq_1 (vk @mInt (vk @mInts (@mSh))))))))))))))))))
theorem eqLed_fn (l:Led) (hl:Fit l):FnV Try.prog 52 [aLed l,aLed l] (aB true):=by
  have env:Env (fun _=>True) Try.prog tyB (tab [(36,valE true s36),(26,valE true s26),(57,valE true c57)]):=mkEnv ⟨d36,e26,d57,trivial⟩
  refine Fn.of (A:=fun _=>True) (n0:=0) (D:=noD) (Fn0 Try.func52 rfl (fun vs w=>by kernel_rfl) (by kernel_rfl)) (by simp) (by simp [AV.ids,AV.idsL,aLed,cLed]) (fun i o h=>by cases h) (fun _ _ _ _=>trivial) noD_ok ?_
  have zn:∀ n:Int,decide (n=n)=true:=fun n=>decide_eq_true rfl
  have zl:∀ p:List (List Int),decide (p=p)=true:=fun n=>decide_eq_true rfl
  have zi:∀ p:List Int,decide (p=p)=true:=fun n=>decide_eq_true rfl
  have q1:=hl.c
  have q2:=hl.r
  have q3:=hl.e
  have q4:=hl.s
  have q5:=tmax
  have q6:=hl.csl
  have q7:∀ p ∈ l.coins,p.length≤maxLen:=fun p hp=>by have:=hl.cs p hp;omega
  repeat' (first|(apply nx;with_reducible constructor)|refine uq (by decide) ?_|((first|refine vz env fun Q hQ=>?_|refine vj fun Q hQ=>?_);simp only [vkt,seval,tbJ2_52,xbJ2_4,zn,zl,zi];(try simp only [ite_and]);(repeat' (first|with_reducible assumption|refine And.intro ?_ ?_|intro hp));all_goals (first|(refine hQ _ ?_;clear hQ Q)|(refine hQ _ (fun h=>?_) (fun h=>?_) <;> clear hQ Q <;> (try simp only [vki,reduceCtorEq] at h))|omega|assumption|with_reducible rfl|(refine vq ?_;kernel_rfl)|skip)))
  all_goals first|(refine sym_loop (fun k:{ k:Nat // k≤l.rates.length }=>elT1 l k.1) (fun k=>l.rates.length - k.1) ⟨0,Nat.zero_le _⟩ ?_ fun ⟨k,hk⟩=>?_)
  · (refine Le.ok some [] ?_;constructor;all_goals (try simp only [vle,vkt,seval,tbJ2_52,xbJ2_4]))
    all_goals first|rfl|(simp;done)
  · by_cases hlt:k < l.rates.length
    · have d1:decide ((k:Int) < (l.rates.length:Int))=true:=decide_eq_true (by omega)
      have e9:=wrap_succ hlt (show l.rates.length≤maxLen by omega)
      have hpl:=hl.rs _ (gMem (d:=[]) hlt)
      have hp2:(l.rates.getD k []).length≤100000:=by omega
      repeat' (first|(apply nx;with_reducible constructor)|refine uq (by decide) ?_|((first|refine vz env fun Q hQ=>?_|refine vj fun Q hQ=>?_);simp only [vkt,seval,tbJ2_52,xbJ2_4,d1,e9,zn];(try simp only [ite_and]);(repeat' (first|with_reducible assumption|refine And.intro ?_ ?_|intro hp));all_goals (first|(refine hQ _ ?_;clear hQ Q)|(refine hQ _ (fun h=>?_) (fun h=>?_) <;> clear hQ Q <;> (try simp only [vki,reduceCtorEq] at h))|omega|assumption|with_reducible rfl|(refine vq ?_;kernel_rfl)|skip)))
      refine ⟨⟨k+1,hlt⟩,by show l.rates.length - (k+1) < l.rates.length - k;omega,?_⟩
      (refine Le.ok some [] ?_;constructor;all_goals (try simp only [vle,vkt,seval,tbJ2_52,xbJ2_4]))
      all_goals first|rfl|(simp;done)
    · have d1:decide ((k:Int) < (l.rates.length:Int))=false:=decide_eq_false (by omega)
      repeat' (first|(apply nx;with_reducible constructor)|refine uq (by decide) ?_|((first|refine vz env fun Q hQ=>?_|refine vj fun Q hQ=>?_);simp only [vkt,seval,tbJ2_52,xbJ2_4,d1];(try simp only [ite_and]);(repeat' (first|with_reducible assumption|refine And.intro ?_ ?_|intro hp));all_goals (first|(refine hQ _ ?_;clear hQ Q)|(refine hQ _ (fun h=>?_) (fun h=>?_) <;> clear hQ Q <;> (try simp only [vki,reduceCtorEq] at h))|omega|assumption|with_reducible rfl|(refine vq ?_;kernel_rfl)|skip)))
      refine sym_loop (fun k:{ k:Nat // k≤l.entries.length }=>elT2 l k.1) (fun k=>l.entries.length - k.1) ⟨0,Nat.zero_le _⟩ ?_ fun ⟨k,hk⟩=>?_
      · (refine Le.ok some [] ?_;constructor;all_goals (try simp only [vle,vkt,seval,tbJ2_52,xbJ2_4]))
        all_goals first|rfl|(simp;done)
      · by_cases hlt:k < l.entries.length
        · have d2:decide ((k:Int) < (l.entries.length:Int))=true:=decide_eq_true (by omega)
          have e9:=wrap_succ hlt (show l.entries.length≤maxLen by omega)
          repeat' (first|(apply nx;with_reducible constructor)|refine uq (by decide) ?_|((first|refine vz env fun Q hQ=>?_|refine vj fun Q hQ=>?_);simp only [vkt,seval,tbJ2_52,xbJ2_4,d2,e9,zn];(try simp only [ite_and]);(repeat' (first|with_reducible assumption|refine And.intro ?_ ?_|intro hp));all_goals (first|(refine hQ _ ?_;clear hQ Q)|(refine hQ _ (fun h=>?_) (fun h=>?_) <;> clear hQ Q <;> (try simp only [vki,reduceCtorEq] at h))|omega|assumption|with_reducible rfl|(refine vq ?_;kernel_rfl)|skip)))
          refine ⟨⟨k+1,hlt⟩,by show l.entries.length - (k+1) < l.entries.length - k;omega,?_⟩
          (refine Le.ok some [] ?_;constructor;all_goals (try simp only [vle,vkt,seval,tbJ2_52,xbJ2_4]))
          all_goals first|rfl|(simp;done)
        · have d2:decide ((k:Int) < (l.entries.length:Int))=false:=decide_eq_false (by omega)
          repeat' (first|(apply nx;with_reducible constructor)|refine uq (by decide) ?_|((first|refine vz env fun Q hQ=>?_|refine vj fun Q hQ=>?_);simp only [vkt,seval,tbJ2_52,xbJ2_4,d2];(try simp only [ite_and]);(repeat' (first|with_reducible assumption|refine And.intro ?_ ?_|intro hp));all_goals (first|(refine hQ _ ?_;clear hQ Q)|(refine hQ _ (fun h=>?_) (fun h=>?_) <;> clear hQ Q <;> (try simp only [vki,reduceCtorEq] at h))|omega|assumption|with_reducible rfl|(refine vq ?_;kernel_rfl)|skip)))
          (simp only [vrt,Try.results52,vkt,seval,tbJ2_52,xbJ2_4];refine Fin.val rfl ?_;(try simp only [AV.le,AV.leL]))
          all_goals first|rfl|(simp;done)
def c52:List AV→Prop × AV
  |[.agg [.sl cs,.sl rs,.sl ss,.sl es],y]=>(y=.agg [.sl cs,.sl rs,.sl ss,.sl es]∧isL cs rs ss es∧Fit (ldOf cs rs ss es),aB true)
  |_=>(False,.junk)
theorem d52 {A:Frm→Prop}:EntryOK A Try.prog 52 (valE true c52):=valE_ok fun vs hv h=>by
  clear hv
  unfold c52 at h ⊢
  split at h
  · refine ⟨by simp [AV.plain,aB],fun _=>by simp [AV.flat,aB],?_⟩
    rw [h.1,← aLed_of h.2.1];exact eqLed_fn _ h.2.2
  · exact h.elim
end Go.Sym.B
namespace Go.Sym.B
open Go Go.Sym Go.Proofs Go.Sym.C
end Go.Sym.B
namespace Go.Sym.B
open Go Go.Sym Go.Proofs Go.Sym.C
end Go.Sym.B
namespace Go.Sym.B
open Go Go.Sym Go.Proofs Go.Sym.C
end Go.Sym.B
namespace Go.Sym.B
open Go Go.Sym Go.Proofs Go.Sym.C
def tbG9_23:=vk @ty3 (vk @ty22 (vk @ti3.eq_1 @ti22.eq_1))
def xbG9_1:=vk @aI.eq_1 (vk @aB.eq_1 (vk @aInts.eq_1 (@rInt)))
theorem copyR_fn (l:List Int) (hl:l.length≤100000):Fn noB Try.prog 23 [aInts l] noH (.row 0) (hasg [(0,.row 3 1 (l.map eInt))]) 0:=by
  have env:Env (fun _=>True) Try.prog tyB (tab []):=mkEnv trivial
  refine Fn.of (A:=fun _=>True) (n0:=0) (D:=noD) (Fn0 Try.func23 rfl (fun vs w=>by kernel_rfl) (by kernel_rfl)) (by simp) (by simp [AV.ids,AV.idsL,aInts]) (fun i o h=>by cases h) (fun _ _ _ _=>trivial) noD_ok ?_
  obtain ⟨b1,b2,b3,b4⟩:=b47 hl
  repeat' (first|(apply nx;with_reducible constructor)|refine uq (by decide) ?_|((first|refine vz env fun Q hQ=>?_|refine vj fun Q hQ=>?_);simp only [vkt,Nat.reduceEqDiff,Nat.reduceAdd,Nat.reduceMul,Nat.reduceSub,Nat.reduceLeDiff,reduceCtorEq,↓reduceIte,↓reduceDIte,Int.reduceToNat,Int.reduceLE,Int.reduceLT,Int.reduceEq,Int.reduceNeg,tbG9_23,xbG9_1];(try simp only [ite_and]);(repeat' (first|with_reducible assumption|refine And.intro ?_ ?_|intro hp));all_goals (first|(refine hQ _ ?_;clear hQ Q)|(refine hQ _ (fun h=>?_) (fun h=>?_) <;> clear hQ Q <;> (try simp only [vki,reduceCtorEq] at h))|omega|assumption|with_reducible rfl|(refine vq ?_;kernel_rfl)|skip)))
  (simp only [vrt,Try.results23,vkt,Nat.reduceEqDiff,Nat.reduceAdd,Nat.reduceMul,Nat.reduceSub,Nat.reduceLeDiff,reduceCtorEq,↓reduceIte,↓reduceDIte,Int.reduceToNat,Int.reduceLE,Int.reduceLT,Int.reduceEq,Int.reduceNeg,tbG9_23,xbG9_1];refine Fin.ok some [] ?_ ?_ ?_ ?_ ?_ rfl;all_goals (try simp only [vle,vkt,Nat.reduceEqDiff,Nat.reduceAdd,Nat.reduceMul,Nat.reduceSub,Nat.reduceLeDiff,reduceCtorEq,↓reduceIte,↓reduceDIte,Int.reduceToNat,Int.reduceLE,Int.reduceLT,Int.reduceEq,Int.reduceNeg,tbG9_23,xbG9_1]))
  all_goals first|rfl|(simp;done)
theorem flInt (l:List Int):(∀ r ∈ l.map eInt,∀ d ∈ r,∃ x,d=DV.v x)=True:=by
  simp [eInt]
def p23r (S:St):List AV→Option Pk
  |[.row r]=>match S.h r with
    |some (.row _ _ xs)=>some { pre:=xs=(xs.map dInt).map eInt∧xs.length≤100000,bo:=[r],ar:=[.sl xs],v:=.row 0,L1:=[some (.row 3 1 xs)],fl:=true }
    |_=>none
  |[.sl xs]=>some { pre:=xs=(xs.map dInt).map eInt∧xs.length≤100000,ar:=[.sl xs],v:=.row 0,L1:=[some (.row 3 1 xs)] }
  |_=>none
theorem e23r {A:Frm→Prop}:EntryOK A Try.prog 23 (fnE p23r):=fnE_ok fun S bs q h hp=>by
  unfold p23r at h
  split at h
  · split at h
    · cases h
      rename_i xs _
      have:=copyR_fn (List.map dInt xs) (by rw [List.length_map];exact hp.2)
      simp only [aInts,← hp.1] at this
      exact this
    · cases h
  · cases h
    rename_i xs
    have:=copyR_fn (List.map dInt xs) (by rw [List.length_map];exact hp.2)
    simp only [aInts,← hp.1] at this
    exact this
  · cases h
theorem pcK_1 (y:Int) (j:Nat):(pcK y (j+1)).1=(pcK y j).1++[(pcK y j).1.getD j 0+(1+upV (pcK y j).2 (12 - 1))]:=rfl
theorem pcK_2 (y:Int) (j:Nat):(pcK y (j+1)).2=upS (pcK y j).2 (12 - 1):=rfl
theorem rtK_1 (y:Int) (j:Nat):(rtK y (j+1)).1=(rtK y j).1++[rtV (rtK y j).2]:=rfl
theorem rtK_2 (y:Int) (j:Nat):(rtK y (j+1)).2=rtS (rtK y j).2:=rfl
theorem dyK_1 (m:Nat) (y:Int) (j:Nat):(dyK m y (j+1)).1=(dyK m y j).1++[(rtK (dyK m y j).2 m).1]:=rfl
theorem dyK_2 (m:Nat) (y:Int) (j:Nat):(dyK m y (j+1)).2=(rtK (dyK m y j).2 m).2:=rfl
theorem enK_1 (C:Nat) (rs:List (List Sh)) (w:Int) (s:EnS) (k:Nat):enK C rs w s (k+1)=enStep C rs w (enK C rs w s k):=rfl
theorem gRow {l:List (List Sh)} {n:Nat} (h:n < l.length):(l.map eShs).getD n []=eShs (l.getD n []):=by simp [List.getD_eq_getElem?_getD,h]
theorem dIntW (n:Int):dInt [.v (.int .i64 n)]=n:=rfl
def loT (c d e w:Int):List (Nat × AV):=[(0,.ptr 0 0),(1,aI c),(2,aI d),(3,aI e),(4,aI w),(10,.ptr 1 0),(11,.ptr 2 0)]
def nil4:List AV:=[.nil,.nil,.nil,.nil]
noncomputable def lo1 (c d e w:Int) (b:Int) (V k:Nat):St:={ t:=asg (loT c d e w++[(12,aI ((V:Int) - (k:Int)))]),h:=hasg [(0,.cells [.v (.int .u64 (coK b k).x)]),(1,.cells nil4),(2,.cells [.row 3,.nil,.row 4,.nil]),(3,.row 22 1 ((coK b k).cs.map eInts)),(4,.row 3 1 ((coK b k).ss.map eInt))],n:=5,m:=1 }
noncomputable def lo2 (c d e w:Int) (s:CoS) (y:Int) (V k K j:Nat):St:={ t:=asg (loT c d e w++[(12,aI ((V:Int) - (k:Int))),(13,.row 5),(14,aI ((K:Int) - (j:Int)))]),h:=hasg [(0,.cells [.v (.int .u64 (pcK y j).2)]),(1,.cells nil4),(2,.cells [.row 3,.nil,.row 4,.nil]),(3,.row 22 1 (s.cs.map eInts)),(4,.row 3 1 (s.ss.map eInt)),(5,.row 3 1 ((pcK y j).1.map eInt))],n:=6,m:=1 }
def lo3 (c d e w:Int) (s:CoS) (p:List Int) (y:Int) (V k:Nat):St:={ t:=asg (loT c d e w++[(12,aI ((V:Int) - (k:Int))),(13,aInts p)]),h:=hasg [(0,.cells [.v (.int .u64 y)]),(1,.cells nil4),(2,.cells [.row 3,.nil,.row 4,.nil]),(3,.row 22 1 (s.cs.map eInts)),(4,.row 3 1 (s.ss.map eInt))],n:=5,m:=1 }
noncomputable def ld1 (c d e w:Int) (s:CoS) (m:Nat) (b:Int) (V k:Nat):St:={ t:=asg (loT c d e w++[(15,aI ((V:Int) - (k:Int)))]),h:=hasg [(0,.cells [.v (.int .u64 (dyK m b k).2)]),(1,.cells nil4),(2,.cells [.row 3,.row 5,.row 4,.nil]),(3,.row 22 1 (s.cs.map eInts)),(4,.row 3 1 (s.ss.map eInt)),(5,.row 55 1 ((dyK m b k).1.map eShs))],n:=6,m:=1 }
noncomputable def ld2 (c d e w:Int) (s:CoS) (rs:List (List Sh)) (y:Int) (V k j:Nat):St:={ t:=asg (loT c d e w++[(15,aI ((V:Int) - (k:Int))),(16,.row 6),(17,aI ((j:Int)+1))]),h:=hasg [(0,.cells [.v (.int .u64 (rtK y j).2)]),(1,.cells nil4),(2,.cells [.row 3,.row 5,.row 4,.nil]),(3,.row 22 1 (s.cs.map eInts)),(4,.row 3 1 (s.ss.map eInt)),(5,.row 55 1 (rs.map eShs)),(6,.row 59 2 ((rtK y j).1.map eSh))],n:=7,m:=1 }
def ld3 (c d e w:Int) (s:CoS) (rs:List (List Sh)) (r:List Sh) (y:Int) (V k:Nat):St:={ t:=asg (loT c d e w++[(15,aI ((V:Int) - (k:Int))),(16,aShs r)]),h:=hasg [(0,.cells [.v (.int .u64 y)]),(1,.cells nil4),(2,.cells [.row 3,.row 5,.row 4,.nil]),(3,.row 22 1 (s.cs.map eInts)),(4,.row 3 1 (s.ss.map eInt)),(5,.row 55 1 (rs.map eShs))],n:=6,m:=1 }
def le1 (c d e w:Int) (s:CoS) (rs:List (List Sh)) (t:EnS) (V k:Nat):St:={ t:=asg (loT c d e w++[(18,.row 6),(19,aI t.day),(20,aI ((V:Int) - (k:Int)))]),h:=hasg [(0,.cells [.v (.int .u64 t.x)]),(1,.cells nil4),(2,.cells [.row 3,.row 5,.row 4,.row 7]),(3,.row 22 1 (s.cs.map eInts)),(4,.row 3 1 (s.ss.map eInt)),(5,.row 55 1 (rs.map eShs)),(6,.row 3 1 (t.till.map eInt)),(7,.row 48 6 (t.es.map eEnt))],n:=8,m:=1 }
def tbG9_27:=vk @ty3 (vk @ty22 (vk @ty28 (vk @ty35 (vk @ty36 (vk @ty38 (vk @ty48 (vk @ty55 (vk @ty59 (vk @ti3.eq_1 (vk @ti22.eq_1 (vk @ti28.eq_1 (vk @ti35.eq_1 (vk @ti36.eq_1 (vk @ti38.eq_1 (vk @ti48.eq_1 (vk @ti55.eq_1 @ti59.eq_1))))))))))))))))
def xbG9_2:=vk @aI.eq_1 (vk @aB.eq_1 (vk @aSh.eq_1 (vk @aLed.eq_1 (vk @cLed.eq_1 (vk @aInts.eq_1 (vk @aShs.eq_1 (vk @bgH.eq_1 (vk @mInt (vk @dIntW (vk @loT.eq_1 (vk @nil4.eq_1 (vk @lo1.eq_1 (vk @lo2.eq_1 (vk @lo3.eq_1 (vk @ld1.eq_1 (vk @ld2.eq_1 (vk @ld3.eq_1 (vk @le1.eq_1 (vk @p21.eq_1 (vk @p21.eq_2 (vk @p22.eq_1 (vk @p22.eq_2 (vk @p84.eq_1 (vk @p84.eq_2 (vk @p85.eq_1 (vk @p85.eq_2 (vk @p71.eq_1 (vk @p71.eq_2 (vk @s54.eq_1 (vk @s54.eq_2 (vk @p23r.eq_1 (vk @p23r.eq_2 (vk @p23r.eq_3 (vk @gInt (vk @eInt.eq_1 (vk @eShs.eq_1 (vk @rInt (vk @rSh (vk @rEnt (vk @rInts (vk @rShs (@flInt))))))))))))))))))))))))))))))))))))))))))
set_option maxRecDepth 100000 in
set_option maxHeartbeats 40000000 in
theorem ledgerOf_fn (x c d e w:Int) (hc:1≤c∧c≤4) (hd:1≤d∧d≤4) (he:0≤e∧e≤6):Fn noB Try.prog 27 [.ptr 0 0,aI c,aI d,aI e,aI w] (hasg (bgH x)) (aLed (lgL x c d e w)) (hasg (bgH (lgS x c d e w))) 0:=by
  have env:Env (fun _=>True) Try.prog tyB (tab [(21,fnE p21),(22,fnE p22),(23,fnE p23r),(84,fnE p84),(85,fnE p85),(71,fnE p71),(54,valE true s54)]):=mkEnv ⟨e21,e22,e23r,e84,e85,e71,e54,trivial⟩
  refine Fn.of (A:=fun _=>True) (n0:=1) (D:=noD) (Fn0 Try.func27 rfl (fun vs w=>by kernel_rfl) (by kernel_rfl)) (by simp) (by simp [AV.ids,AV.idsL,aI]) ?_ (fun _ _ _ _=>trivial) noD_ok ?_
  · intro i o hi
    have h:=hasg_mem hi
    simp [bgH] at h
    rcases h with ⟨rfl,rfl⟩;simp [AObj.ids,AV.ids,AV.idsL]
  have mc:min c 4=c:=by omega
  have md:min d 4=d:=by omega
  have me:min e 6=e:=by omega
  have big:(100000:Nat)≤maxLen:=by decide
  have hu:=upV_le (x:=x) (m:=c - 1) (by omega) (by omega)
  obtain ⟨V,hV⟩:∃ V:Nat,1+upV x (c - 1)=(V:Int):=⟨(1+upV x (c - 1)).toNat,by omega⟩
  have hV1:1≤V∧V≤4:=by omega
  have g1:lg1 x c=coK (upS x (c - 1)) V:=by unfold lg1;rw [hV];rfl
  generalize hb:upS x (c - 1)=b at *
  repeat' (first|(apply nx;with_reducible constructor)|refine uq (by decide) ?_|((first|refine vz env fun Q hQ=>?_|refine vj fun Q hQ=>?_);simp only [vkt,Nat.reduceEqDiff,Nat.reduceAdd,Nat.reduceMul,Nat.reduceSub,Nat.reduceLeDiff,reduceCtorEq,↓reduceIte,↓reduceDIte,Int.reduceToNat,Int.reduceLE,Int.reduceLT,Int.reduceEq,Int.reduceNeg,tbG9_27,xbG9_2,List.map_cons,List.map_nil,List.length_cons,List.length_nil,List.nil_append,List.append_nil,List.cons_append,mc,hV,hb];(try simp only [ite_and]);(repeat' (first|with_reducible assumption|refine And.intro ?_ ?_|intro hp));all_goals (first|(refine hQ _ ?_;clear hQ Q)|(refine hQ _ (fun h=>?_) (fun h=>?_) <;> clear hQ Q <;> (try simp only [vki,reduceCtorEq] at h))|omega|assumption|with_reducible rfl|(refine vq ?_;kernel_rfl)|skip)))
  refine sym_loop (fun k:{ k:Nat // k≤V }=>lo1 c d e w b V k.1) (fun k=>V - k.1) ⟨0,Nat.zero_le _⟩ ?_ fun ⟨k,hk⟩=>?_
  · (refine Le.ok (fun j=>if j=3∨j=4 then none else some j) [] ?_;constructor;all_goals (try simp only [vle,vkt,Nat.reduceEqDiff,Nat.reduceAdd,Nat.reduceMul,Nat.reduceSub,Nat.reduceLeDiff,reduceCtorEq,↓reduceIte,↓reduceDIte,Int.reduceToNat,Int.reduceLE,Int.reduceLT,Int.reduceEq,Int.reduceNeg,tbG9_27,xbG9_2,List.map_cons,List.map_nil,List.length_cons,List.length_nil,List.nil_append,List.append_nil,List.cons_append]))
    all_goals first|rfl|(simp [coK,hb,hV];done)
  · repeat' (first|(apply nx;with_reducible constructor)|refine uq (by decide) ?_)
    (refine vz env fun Q hQ=>?_;simp only [vkt,Nat.reduceEqDiff,Nat.reduceAdd,Nat.reduceMul,Nat.reduceSub,Nat.reduceLeDiff,reduceCtorEq,↓reduceIte,↓reduceDIte,Int.reduceToNat,Int.reduceLE,Int.reduceLT,Int.reduceEq,Int.reduceNeg,tbG9_27,xbG9_2,List.map_cons,List.map_nil,List.length_cons,List.length_nil,List.nil_append,List.append_nil,List.cons_append];(try simp only [ite_and]);(repeat' (first|with_reducible assumption|refine And.intro ?_ ?_|intro hp));all_goals (first|(refine hQ _ ?_;clear hQ Q)|omega|assumption|with_reducible rfl|(refine vq ?_;kernel_rfl)|skip))
    repeat' (first|(apply nx;with_reducible constructor)|refine uq (by decide) ?_)
    (refine sym_cd (by simp only [vkt,Nat.reduceEqDiff,Nat.reduceAdd,Nat.reduceMul,Nat.reduceSub,Nat.reduceLeDiff,reduceCtorEq,↓reduceIte,↓reduceDIte,Int.reduceToNat,Int.reduceLE,Int.reduceLT,Int.reduceEq,Int.reduceNeg,tbG9_27,xbG9_2,List.map_cons,List.map_nil,List.length_cons,List.length_nil,List.nil_append,List.append_nil,List.cons_append];rfl) (fun h=>?_) (fun h=>?_) <;> (try simp only [vki,reduceCtorEq] at h))
    · have hlt:k < V:=by omega
      have ok:=coK_ok b k
      have hs:=coK_succ b k
      generalize coK b k=s at *
      have u1:=upV_le (x:=s.x) (m:=3) (by decide) (by decide)
      unfold coStep at hs
      obtain ⟨K,hK⟩:∃ K:Nat,upV s.x 3=(K:Int):=⟨(upV s.x 3).toNat,by omega⟩
      rw [hK,Int.toNat_natCast] at hs
      generalize hy:upS s.x 3=y at *
      repeat' (first|(apply nx;with_reducible constructor)|refine uq (by decide) ?_|((first|refine vz env fun Q hQ=>?_|refine vj fun Q hQ=>?_);simp only [vkt,Nat.reduceEqDiff,Nat.reduceAdd,Nat.reduceMul,Nat.reduceSub,Nat.reduceLeDiff,reduceCtorEq,↓reduceIte,↓reduceDIte,Int.reduceToNat,Int.reduceLE,Int.reduceLT,Int.reduceEq,Int.reduceNeg,tbG9_27,xbG9_2,List.map_cons,List.map_nil,List.length_cons,List.length_nil,List.nil_append,List.append_nil,List.cons_append,hK,hy];(try simp only [ite_and]);(repeat' (first|with_reducible assumption|refine And.intro ?_ ?_|intro hp));all_goals (first|(refine hQ _ ?_;clear hQ Q)|(refine hQ _ (fun h=>?_) (fun h=>?_) <;> clear hQ Q <;> (try simp only [vki,reduceCtorEq] at h))|omega|assumption|with_reducible rfl|(refine vq ?_;kernel_rfl)|skip)))
      refine sym_loop (fun j:{ j:Nat // j≤K }=>lo2 c d e w s y V k K j.1) (fun j=>K - j.1) ⟨0,Nat.zero_le _⟩ ?_ fun ⟨j,hj⟩=>?_
      · (refine Le.ok some [] ?_;constructor;all_goals (try simp only [vle,vkt,Nat.reduceEqDiff,Nat.reduceAdd,Nat.reduceMul,Nat.reduceSub,Nat.reduceLeDiff,reduceCtorEq,↓reduceIte,↓reduceDIte,Int.reduceToNat,Int.reduceLE,Int.reduceLT,Int.reduceEq,Int.reduceNeg,tbG9_27,xbG9_2,List.map_cons,List.map_nil,List.length_cons,List.length_nil,List.nil_append,List.append_nil,List.cons_append]))
        all_goals first|rfl|(simp [pcK,eInt];done)
      · repeat' (first|(apply nx;with_reducible constructor)|refine uq (by decide) ?_)
        (refine vz env fun Q hQ=>?_;simp only [vkt,Nat.reduceEqDiff,Nat.reduceAdd,Nat.reduceMul,Nat.reduceSub,Nat.reduceLeDiff,reduceCtorEq,↓reduceIte,↓reduceDIte,Int.reduceToNat,Int.reduceLE,Int.reduceLT,Int.reduceEq,Int.reduceNeg,tbG9_27,xbG9_2,List.map_cons,List.map_nil,List.length_cons,List.length_nil,List.nil_append,List.append_nil,List.cons_append];(try simp only [ite_and]);(repeat' (first|with_reducible assumption|refine And.intro ?_ ?_|intro hp));all_goals (first|(refine hQ _ ?_;clear hQ Q)|omega|assumption|with_reducible rfl|(refine vq ?_;kernel_rfl)|skip))
        repeat' (first|(apply nx;with_reducible constructor)|refine uq (by decide) ?_)
        (refine sym_cd (by simp only [vkt,Nat.reduceEqDiff,Nat.reduceAdd,Nat.reduceMul,Nat.reduceSub,Nat.reduceLeDiff,reduceCtorEq,↓reduceIte,↓reduceDIte,Int.reduceToNat,Int.reduceLE,Int.reduceLT,Int.reduceEq,Int.reduceNeg,tbG9_27,xbG9_2,List.map_cons,List.map_nil,List.length_cons,List.length_nil,List.nil_append,List.append_nil,List.cons_append];rfl) (fun h=>?_) (fun h=>?_) <;> (try simp only [vki,reduceCtorEq] at h))
        · have hjl:j < K:=by omega
          have pk:=pcK_ok y j
          have pl:=pk.len
          have pb:=pk.le j (Nat.le_refl _)
          have hp1:=pcK_1 y j
          have hp2:=(pcK_2 y j).symm
          have q1:=upV_le (x:=(pcK y j).2) (m:=12 - 1) (by decide) (by decide)
          generalize (pcK y j).1=p at *
          generalize (pcK y j).2=z at *
          have e7:IntKind.wrap .i64 ((K:Int) - (j:Int) - 1)=(K:Int) - ((j+1:Nat):Int):=by rw [wrap64 (by omega) (by omega)];omega
          have e8:IntKind.wrap .i64 (((j+1:Nat):Int) - 1)=(j:Int):=by rw [wrap64 (by omega) (by omega)];omega
          have e9:IntKind.wrap .i64 (p.getD j 0+(1+upV z (12 - 1)))=p.getD j 0+(1+upV z (12 - 1)):=wrap64 (by omega) (by omega)
          have e5:j < p.length:=by omega
          have m1:(j+1+1) * 8≤140737488355328∧j+1+1≤maxLen:=by omega
          have e6:=gI0 e5
          have e4:p.map eInt++[[.v (.int .i64 (p.getD j 0+(1+upV z (12 - 1))))]]=(pcK y (j+1)).1.map eInt:=by rw [hp1,List.map_append];rfl
          repeat' (first|(apply nx;with_reducible constructor)|refine uq (by decide) ?_|((first|refine vz env fun Q hQ=>?_|refine vj fun Q hQ=>?_);simp only [vkt,Nat.reduceEqDiff,Nat.reduceAdd,Nat.reduceMul,Nat.reduceSub,Nat.reduceLeDiff,reduceCtorEq,↓reduceIte,↓reduceDIte,Int.reduceToNat,Int.reduceLE,Int.reduceLT,Int.reduceEq,Int.reduceNeg,tbG9_27,xbG9_2,List.map_cons,List.map_nil,List.length_cons,List.length_nil,List.nil_append,List.append_nil,List.cons_append,e7,e8,e6,e9,e4,pl,hp2];(try simp only [ite_and]);(repeat' (first|with_reducible assumption|refine And.intro ?_ ?_|intro hp));all_goals (first|(refine hQ _ ?_;clear hQ Q)|(refine hQ _ (fun h=>?_) (fun h=>?_) <;> clear hQ Q <;> (try simp only [vki,reduceCtorEq] at h))|omega|assumption|with_reducible rfl|(refine vq ?_;kernel_rfl)|skip)))
          refine ⟨⟨j+1,hjl⟩,by show K - (j+1) < K - j;omega,?_⟩
          (refine Le.ok (fun j=>if j=5 then some 7 else some j) [] ?_;constructor;all_goals (try simp only [vle,vkt,Nat.reduceEqDiff,Nat.reduceAdd,Nat.reduceMul,Nat.reduceSub,Nat.reduceLeDiff,reduceCtorEq,↓reduceIte,↓reduceDIte,Int.reduceToNat,Int.reduceLE,Int.reduceLT,Int.reduceEq,Int.reduceNeg,tbG9_27,xbG9_2,List.map_cons,List.map_nil,List.length_cons,List.length_nil,List.nil_append,List.append_nil,List.cons_append]))
          all_goals first|rfl|(simp;done)
        · have hjk:j=K:=by omega
          subst hjk
          have okc:=ok.c
          have okl:=ok.l
          have pl:=(pcK_ok y j).len
          generalize hq1:(pcK y j).1=p at *
          generalize hq2:(pcK y j).2=z at *
          refine sym_le (S':=lo3 c d e w s p z V k) ?_ ?_
          · (refine Le.ok some [5] ?_;constructor;all_goals (try simp only [vle,vkt,Nat.reduceEqDiff,Nat.reduceAdd,Nat.reduceMul,Nat.reduceSub,Nat.reduceLeDiff,reduceCtorEq,↓reduceIte,↓reduceDIte,Int.reduceToNat,Int.reduceLE,Int.reduceLT,Int.reduceEq,Int.reduceNeg,tbG9_27,xbG9_2,List.map_cons,List.map_nil,List.length_cons,List.length_nil,List.nil_append,List.append_nil,List.cons_append]))
            all_goals first|rfl|(simp [hq1,hq2];done)|(rw [hq1];exact ⟨_,_,rfl⟩)|exact ⟨_,_,rfl⟩
          have m1:(k+1) * 24≤140737488355328∧(k+1) * 8≤140737488355328∧k+1≤maxLen:=by omega
          have e7:IntKind.wrap .i64 ((V:Int) - (k:Int) - 1)=(V:Int) - ((k+1:Nat):Int):=by rw [wrap64 (by omega) (by omega)];omega
          have e4:s.cs.map eInts++[[.sl (p.map eInt)]]=(s.cs++[p]).map eInts:=by rw [List.map_append];rfl
          have e5:s.ss.map eInt++[[.v (.int .i64 (upV z 200))]]=(s.ss++[upV z 200]).map eInt:=by rw [List.map_append];rfl
          repeat' (first|(apply nx;with_reducible constructor)|refine uq (by decide) ?_|((first|refine vz env fun Q hQ=>?_|refine vj fun Q hQ=>?_);simp only [vkt,Nat.reduceEqDiff,Nat.reduceAdd,Nat.reduceMul,Nat.reduceSub,Nat.reduceLeDiff,reduceCtorEq,↓reduceIte,↓reduceDIte,Int.reduceToNat,Int.reduceLE,Int.reduceLT,Int.reduceEq,Int.reduceNeg,tbG9_27,xbG9_2,List.map_cons,List.map_nil,List.length_cons,List.length_nil,List.nil_append,List.append_nil,List.cons_append,e7,e4,e5,okc,okl];(try simp only [ite_and]);(repeat' (first|with_reducible assumption|refine And.intro ?_ ?_|intro hp));all_goals (first|(refine hQ _ ?_;clear hQ Q)|(refine hQ _ (fun h=>?_) (fun h=>?_) <;> clear hQ Q <;> (try simp only [vki,reduceCtorEq] at h))|omega|assumption|with_reducible rfl|(refine vq ?_;kernel_rfl)|skip)))
          refine ⟨⟨k+1,hlt⟩,by show V - (k+1) < V - k;omega,?_⟩
          (refine Le.ok (fun j=>if j=3 then some 6 else if j=4 then some 8 else some j) [] ?_;constructor;all_goals (try simp only [vle,vkt,Nat.reduceEqDiff,Nat.reduceAdd,Nat.reduceMul,Nat.reduceSub,Nat.reduceLeDiff,reduceCtorEq,↓reduceIte,↓reduceDIte,Int.reduceToNat,Int.reduceLE,Int.reduceLT,Int.reduceEq,Int.reduceNeg,tbG9_27,xbG9_2,List.map_cons,List.map_nil,List.length_cons,List.length_nil,List.nil_append,List.append_nil,List.cons_append]))
          all_goals first|rfl|(simp [hs];done)
    · have hkV:k=V:=by omega
      subst hkV
      have ok:=coK_ok b k
      have g2:lg2 x c d=dyK ((lg1 x c).cs.length - 1) (upS (lg1 x c).x (d - 1)) (1+upV (lg1 x c).x (d - 1)).toNat:=rfl
      have g3:lg3 x c d e w=enK (lg1 x c).cs.length (lg2 x c d).1 w ⟨0,(lg1 x c).ss,[],upS (lg2 x c d).2 e⟩ (upV (lg2 x c d).2 e).toNat:=rfl
      have gL:lgL x c d e w=⟨(lg1 x c).cs,(lg2 x c d).1,(lg1 x c).ss,(lg3 x c d e w).es⟩:=rfl
      have gS:lgS x c d e w=(lg3 x c d e w).x:=rfl
      generalize lg1 x c=co at *
      rw [← g1] at ok ⊢
      clear g1 hb
      have okc:=ok.c
      have okl:=ok.l
      have hu2:=upV_le (x:=co.x) (m:=d - 1) (by omega) (by omega)
      obtain ⟨W,hW⟩:∃ W:Nat,1+upV co.x (d - 1)=(W:Int):=⟨(1+upV co.x (d - 1)).toNat,by omega⟩
      have hW1:1≤W∧W≤4:=by omega
      obtain ⟨m,hm⟩:∃ m,m+1=co.cs.length:=⟨co.cs.length - 1,by omega⟩
      have hmC:co.cs.length - 1=m:=by omega
      rw [hW,hmC,Int.toNat_natCast] at g2
      generalize hb2:upS co.x (d - 1)=b2 at *
      repeat' (first|(apply nx;with_reducible constructor)|refine uq (by decide) ?_|((first|refine vz env fun Q hQ=>?_|refine vj fun Q hQ=>?_);simp only [vkt,Nat.reduceEqDiff,Nat.reduceAdd,Nat.reduceMul,Nat.reduceSub,Nat.reduceLeDiff,reduceCtorEq,↓reduceIte,↓reduceDIte,Int.reduceToNat,Int.reduceLE,Int.reduceLT,Int.reduceEq,Int.reduceNeg,tbG9_27,xbG9_2,List.map_cons,List.map_nil,List.length_cons,List.length_nil,List.nil_append,List.append_nil,List.cons_append,md,hW,hb2];(try simp only [ite_and]);(repeat' (first|with_reducible assumption|refine And.intro ?_ ?_|intro hp));all_goals (first|(refine hQ _ ?_;clear hQ Q)|(refine hQ _ (fun h=>?_) (fun h=>?_) <;> clear hQ Q <;> (try simp only [vki,reduceCtorEq] at h))|omega|assumption|with_reducible rfl|(refine vq ?_;kernel_rfl)|skip)))
      refine sym_loop (fun k:{ k:Nat // k≤W }=>ld1 c d e w co m b2 W k.1) (fun k=>W - k.1) ⟨0,Nat.zero_le _⟩ ?_ fun ⟨i,hi⟩=>?_
      · (refine Le.ok (fun j=>if j=5 then none else some j) [] ?_;constructor;all_goals (try simp only [vle,vkt,Nat.reduceEqDiff,Nat.reduceAdd,Nat.reduceMul,Nat.reduceSub,Nat.reduceLeDiff,reduceCtorEq,↓reduceIte,↓reduceDIte,Int.reduceToNat,Int.reduceLE,Int.reduceLT,Int.reduceEq,Int.reduceNeg,tbG9_27,xbG9_2,List.map_cons,List.map_nil,List.length_cons,List.length_nil,List.nil_append,List.append_nil,List.cons_append]))
        all_goals first|rfl|(simp [dyK,hb2,hW];done)
      · repeat' (first|(apply nx;with_reducible constructor)|refine uq (by decide) ?_)
        (refine vz env fun Q hQ=>?_;simp only [vkt,Nat.reduceEqDiff,Nat.reduceAdd,Nat.reduceMul,Nat.reduceSub,Nat.reduceLeDiff,reduceCtorEq,↓reduceIte,↓reduceDIte,Int.reduceToNat,Int.reduceLE,Int.reduceLT,Int.reduceEq,Int.reduceNeg,tbG9_27,xbG9_2,List.map_cons,List.map_nil,List.length_cons,List.length_nil,List.nil_append,List.append_nil,List.cons_append];(try simp only [ite_and]);(repeat' (first|with_reducible assumption|refine And.intro ?_ ?_|intro hp));all_goals (first|(refine hQ _ ?_;clear hQ Q)|omega|assumption|with_reducible rfl|(refine vq ?_;kernel_rfl)|skip))
        repeat' (first|(apply nx;with_reducible constructor)|refine uq (by decide) ?_)
        (refine sym_cd (by simp only [vkt,Nat.reduceEqDiff,Nat.reduceAdd,Nat.reduceMul,Nat.reduceSub,Nat.reduceLeDiff,reduceCtorEq,↓reduceIte,↓reduceDIte,Int.reduceToNat,Int.reduceLE,Int.reduceLT,Int.reduceEq,Int.reduceNeg,tbG9_27,xbG9_2,List.map_cons,List.map_nil,List.length_cons,List.length_nil,List.nil_append,List.append_nil,List.cons_append];rfl) (fun h=>?_) (fun h=>?_) <;> (try simp only [vki,reduceCtorEq] at h))
        · have hlt:i < W:=by omega
          have okd:=dyK_ok m b2 i
          have hs1:=dyK_1 m b2 i
          have hs2:=dyK_2 m b2 i
          generalize (dyK m b2 i).1=rs at *
          generalize (dyK m b2 i).2=y at *
          repeat' (first|(apply nx;with_reducible constructor)|refine uq (by decide) ?_|((first|refine vz env fun Q hQ=>?_|refine vj fun Q hQ=>?_);simp only [vkt,Nat.reduceEqDiff,Nat.reduceAdd,Nat.reduceMul,Nat.reduceSub,Nat.reduceLeDiff,reduceCtorEq,↓reduceIte,↓reduceDIte,Int.reduceToNat,Int.reduceLE,Int.reduceLT,Int.reduceEq,Int.reduceNeg,tbG9_27,xbG9_2,List.map_cons,List.map_nil,List.length_cons,List.length_nil,List.nil_append,List.append_nil,List.cons_append];(try simp only [ite_and]);(repeat' (first|with_reducible assumption|refine And.intro ?_ ?_|intro hp));all_goals (first|(refine hQ _ ?_;clear hQ Q)|(refine hQ _ (fun h=>?_) (fun h=>?_) <;> clear hQ Q <;> (try simp only [vki,reduceCtorEq] at h))|omega|assumption|with_reducible rfl|(refine vq ?_;kernel_rfl)|skip)))
          refine sym_loop (fun j:{ j:Nat // j≤m }=>ld2 c d e w co rs y W i j.1) (fun j=>m - j.1) ⟨0,Nat.zero_le _⟩ ?_ fun ⟨j,hj⟩=>?_
          · (refine Le.ok some [] ?_;constructor;all_goals (try simp only [vle,vkt,Nat.reduceEqDiff,Nat.reduceAdd,Nat.reduceMul,Nat.reduceSub,Nat.reduceLeDiff,reduceCtorEq,↓reduceIte,↓reduceDIte,Int.reduceToNat,Int.reduceLE,Int.reduceLT,Int.reduceEq,Int.reduceNeg,tbG9_27,xbG9_2,List.map_cons,List.map_nil,List.length_cons,List.length_nil,List.nil_append,List.append_nil,List.cons_append]))
            all_goals first|rfl|(simp [rtK,eSh];done)
          · repeat' (first|(apply nx;with_reducible constructor)|refine uq (by decide) ?_)
            (refine vz env fun Q hQ=>?_;simp only [vkt,Nat.reduceEqDiff,Nat.reduceAdd,Nat.reduceMul,Nat.reduceSub,Nat.reduceLeDiff,reduceCtorEq,↓reduceIte,↓reduceDIte,Int.reduceToNat,Int.reduceLE,Int.reduceLT,Int.reduceEq,Int.reduceNeg,tbG9_27,xbG9_2,List.map_cons,List.map_nil,List.length_cons,List.length_nil,List.nil_append,List.append_nil,List.cons_append];(try simp only [ite_and]);(repeat' (first|with_reducible assumption|refine And.intro ?_ ?_|intro hp));all_goals (first|(refine hQ _ ?_;clear hQ Q)|omega|assumption|with_reducible rfl|(refine vq ?_;kernel_rfl)|skip))
            repeat' (first|(apply nx;with_reducible constructor)|refine uq (by decide) ?_)
            (refine sym_cd (by simp only [vkt,Nat.reduceEqDiff,Nat.reduceAdd,Nat.reduceMul,Nat.reduceSub,Nat.reduceLeDiff,reduceCtorEq,↓reduceIte,↓reduceDIte,Int.reduceToNat,Int.reduceLE,Int.reduceLT,Int.reduceEq,Int.reduceNeg,tbG9_27,xbG9_2,List.map_cons,List.map_nil,List.length_cons,List.length_nil,List.nil_append,List.append_nil,List.cons_append];rfl) (fun h=>?_) (fun h=>?_) <;> (try simp only [vki,reduceCtorEq] at h))
            · have hjl:j < m:=by omega
              have pl:=(rtK_ok y j).len
              have hp1:=rtK_1 y j
              have hp2:=(rtK_2 y j).symm
              generalize (rtK y j).1=r at *
              generalize (rtK y j).2=z at *
              have e7:IntKind.wrap .i64 ((j:Int)+1+1)=((j+1:Nat):Int)+1:=by rw [wrap64 (by omega) (by omega)];omega
              have m1:(j+1+1) * 16≤140737488355328∧j+1+1≤maxLen:=by omega
              have e4:r.map eSh++[[.v (.int .i64 (rtV z).num),.v (.int .i64 (rtV z).den)]]=(rtK y (j+1)).1.map eSh:=by rw [hp1,List.map_append];rfl
              repeat' (first|(apply nx;with_reducible constructor)|refine uq (by decide) ?_|((first|refine vz env fun Q hQ=>?_|refine vj fun Q hQ=>?_);simp only [vkt,Nat.reduceEqDiff,Nat.reduceAdd,Nat.reduceMul,Nat.reduceSub,Nat.reduceLeDiff,reduceCtorEq,↓reduceIte,↓reduceDIte,Int.reduceToNat,Int.reduceLE,Int.reduceLT,Int.reduceEq,Int.reduceNeg,tbG9_27,xbG9_2,List.map_cons,List.map_nil,List.length_cons,List.length_nil,List.nil_append,List.append_nil,List.cons_append,e7,e4,pl,hp2];(try simp only [ite_and]);(repeat' (first|with_reducible assumption|refine And.intro ?_ ?_|intro hp));all_goals (first|(refine hQ _ ?_;clear hQ Q)|(refine hQ _ (fun h=>?_) (fun h=>?_) <;> clear hQ Q <;> (try simp only [vki,reduceCtorEq] at h))|omega|assumption|with_reducible rfl|(refine vq ?_;kernel_rfl)|skip)))
              refine ⟨⟨j+1,hjl⟩,by show m - (j+1) < m - j;omega,?_⟩
              (refine Le.ok (fun j=>if j=6 then some 8 else some j) [] ?_;constructor;all_goals (try simp only [vle,vkt,Nat.reduceEqDiff,Nat.reduceAdd,Nat.reduceMul,Nat.reduceSub,Nat.reduceLeDiff,reduceCtorEq,↓reduceIte,↓reduceDIte,Int.reduceToNat,Int.reduceLE,Int.reduceLT,Int.reduceEq,Int.reduceNeg,tbG9_27,xbG9_2,List.map_cons,List.map_nil,List.length_cons,List.length_nil,List.nil_append,List.append_nil,List.cons_append]))
              all_goals first|rfl|(simp;done)
            · have hjm:j=m:=by omega
              subst hjm
              generalize hq1:(rtK y j).1=r at *
              generalize hq2:(rtK y j).2=z at *
              have okd1:=okd.1
              refine sym_le (S':=ld3 c d e w co rs r z W i) ?_ ?_
              · (refine Le.ok some [6] ?_;constructor;all_goals (try simp only [vle,vkt,Nat.reduceEqDiff,Nat.reduceAdd,Nat.reduceMul,Nat.reduceSub,Nat.reduceLeDiff,reduceCtorEq,↓reduceIte,↓reduceDIte,Int.reduceToNat,Int.reduceLE,Int.reduceLT,Int.reduceEq,Int.reduceNeg,tbG9_27,xbG9_2,List.map_cons,List.map_nil,List.length_cons,List.length_nil,List.nil_append,List.append_nil,List.cons_append]))
                all_goals first|rfl|(simp [hq1,hq2];done)|(rw [hq1];exact ⟨_,_,rfl⟩)|exact ⟨_,_,rfl⟩
              have m1:(i+1) * 24≤140737488355328∧i+1≤maxLen:=by omega
              have e7:IntKind.wrap .i64 ((W:Int) - (i:Int) - 1)=(W:Int) - ((i+1:Nat):Int):=by rw [wrap64 (by omega) (by omega)];omega
              have e4:rs.map eShs++[[.sl (r.map eSh)]]=(rs++[r]).map eShs:=by rw [List.map_append];rfl
              repeat' (first|(apply nx;with_reducible constructor)|refine uq (by decide) ?_|((first|refine vz env fun Q hQ=>?_|refine vj fun Q hQ=>?_);simp only [vkt,Nat.reduceEqDiff,Nat.reduceAdd,Nat.reduceMul,Nat.reduceSub,Nat.reduceLeDiff,reduceCtorEq,↓reduceIte,↓reduceDIte,Int.reduceToNat,Int.reduceLE,Int.reduceLT,Int.reduceEq,Int.reduceNeg,tbG9_27,xbG9_2,List.map_cons,List.map_nil,List.length_cons,List.length_nil,List.nil_append,List.append_nil,List.cons_append,e7,e4,okd1];(try simp only [ite_and]);(repeat' (first|with_reducible assumption|refine And.intro ?_ ?_|intro hp));all_goals (first|(refine hQ _ ?_;clear hQ Q)|(refine hQ _ (fun h=>?_) (fun h=>?_) <;> clear hQ Q <;> (try simp only [vki,reduceCtorEq] at h))|omega|assumption|with_reducible rfl|(refine vq ?_;kernel_rfl)|skip)))
              refine ⟨⟨i+1,hlt⟩,by show W - (i+1) < W - i;omega,?_⟩
              (refine Le.ok (fun j=>if j=5 then some 7 else some j) [] ?_;constructor;all_goals (try simp only [vle,vkt,Nat.reduceEqDiff,Nat.reduceAdd,Nat.reduceMul,Nat.reduceSub,Nat.reduceLeDiff,reduceCtorEq,↓reduceIte,↓reduceDIte,Int.reduceToNat,Int.reduceLE,Int.reduceLT,Int.reduceEq,Int.reduceNeg,tbG9_27,xbG9_2,List.map_cons,List.map_nil,List.length_cons,List.length_nil,List.nil_append,List.append_nil,List.cons_append]))
              all_goals first|rfl|(simp [hs1,hs2];done)
        · have hiW:i=W:=by omega
          subst hiW
          have okd:=dyK_ok m b2 i
          generalize lg2 x c d=dy at *
          rw [← g2] at okd ⊢
          clear g2 hb2
          obtain ⟨rs,y⟩:=dy
          dsimp only at okd g3 gL ⊢
          obtain ⟨okd1,okd2⟩:=okd
          subst okd1
          subst okc
          have hrs:RsOk rs co.cs.length:=⟨by omega,fun r hr=>by have:=okd2 r hr;rwa [hm] at this⟩
          have hC:1≤co.cs.length∧co.cs.length≤4:=by omega
          have hu3:=upV_le (x:=y) (m:=e) (by omega) (by omega)
          obtain ⟨U,hU⟩:∃ U:Nat,upV y e=(U:Int):=⟨(upV y e).toNat,by omega⟩
          rw [hU,Int.toNat_natCast] at g3
          have hU6:U≤6:=by omega
          have m6:co.ss.length≤100000:=by omega
          have m7:e < 9223372036854775807:=by omega
          generalize hy3:upS y e=y3 at *
          have hI0:EnI co.cs.length rs.length 0 ⟨0,co.ss,[],y3⟩:=⟨Int.le_refl _,by show (0:Int)≤_;omega,okl,fun v hv=>by have:=ok.v v hv;omega,Nat.le_refl _⟩
          have hIk:=enK_ok hrs hC (w:=w) hI0
          have hE0:enK co.cs.length rs w ⟨0,co.ss,[],y3⟩ 0=⟨0,co.ss,[],y3⟩:=rfl
          have hst:=enK_1 co.cs.length rs w ⟨0,co.ss,[],y3⟩
          generalize enK co.cs.length rs w ⟨0,co.ss,[],y3⟩=EK at *
          repeat' (first|(apply nx;with_reducible constructor)|refine uq (by decide) ?_|((first|refine vz env fun Q hQ=>?_|refine vj fun Q hQ=>?_);simp only [vkt,Nat.reduceEqDiff,Nat.reduceAdd,Nat.reduceMul,Nat.reduceSub,Nat.reduceLeDiff,reduceCtorEq,↓reduceIte,↓reduceDIte,Int.reduceToNat,Int.reduceLE,Int.reduceLT,Int.reduceEq,Int.reduceNeg,tbG9_27,xbG9_2,List.map_cons,List.map_nil,List.length_cons,List.length_nil,List.nil_append,List.append_nil,List.cons_append,me,hU,hy3];(try simp only [ite_and]);(repeat' (first|with_reducible assumption|refine And.intro ?_ ?_|intro hp));all_goals (first|(refine hQ _ ?_;clear hQ Q)|(refine hQ _ (fun h=>?_) (fun h=>?_) <;> clear hQ Q <;> (try simp only [vki,reduceCtorEq] at h))|omega|assumption|with_reducible rfl|(refine vq ?_;kernel_rfl)|skip)))
          all_goals first|exact ⟨_,_,rfl⟩|skip
          refine sym_loop (fun k:{ k:Nat // k≤U }=>le1 c d e w co rs (EK k.1) U k.1) (fun k=>U - k.1) ⟨0,Nat.zero_le _⟩ ?_ fun ⟨q,hq⟩=>?_
          · (refine Le.ok (fun j=>if j=7 then none else some j) [] ?_;constructor;all_goals (try simp only [vle,vkt,Nat.reduceEqDiff,Nat.reduceAdd,Nat.reduceMul,Nat.reduceSub,Nat.reduceLeDiff,reduceCtorEq,↓reduceIte,↓reduceDIte,Int.reduceToNat,Int.reduceLE,Int.reduceLT,Int.reduceEq,Int.reduceNeg,tbG9_27,xbG9_2,List.map_cons,List.map_nil,List.length_cons,List.length_nil,List.nil_append,List.append_nil,List.cons_append]))
            all_goals first|rfl|(simp [hE0,hU];done)
          · repeat' (first|(apply nx;with_reducible constructor)|refine uq (by decide) ?_)
            (refine vz env fun Q hQ=>?_;simp only [vkt,Nat.reduceEqDiff,Nat.reduceAdd,Nat.reduceMul,Nat.reduceSub,Nat.reduceLeDiff,reduceCtorEq,↓reduceIte,↓reduceDIte,Int.reduceToNat,Int.reduceLE,Int.reduceLT,Int.reduceEq,Int.reduceNeg,tbG9_27,xbG9_2,List.map_cons,List.map_nil,List.length_cons,List.length_nil,List.nil_append,List.append_nil,List.cons_append];(try simp only [ite_and]);(repeat' (first|with_reducible assumption|refine And.intro ?_ ?_|intro hp));all_goals (first|(refine hQ _ ?_;clear hQ Q)|omega|assumption|with_reducible rfl|(refine vq ?_;kernel_rfl)|skip))
            repeat' (first|(apply nx;with_reducible constructor)|refine uq (by decide) ?_)
            (refine sym_cd (by simp only [vkt,Nat.reduceEqDiff,Nat.reduceAdd,Nat.reduceMul,Nat.reduceSub,Nat.reduceLeDiff,reduceCtorEq,↓reduceIte,↓reduceDIte,Int.reduceToNat,Int.reduceLE,Int.reduceLT,Int.reduceEq,Int.reduceNeg,tbG9_27,xbG9_2,List.map_cons,List.map_nil,List.length_cons,List.length_nil,List.nil_append,List.append_nil,List.cons_append];rfl) (fun h=>?_) (fun h=>?_) <;> (try simp only [vki,reduceCtorEq] at h))
            · have hlt:q < U:=by omega
              have hI:=hIk q
              have hJ:=enJ_of hrs hC hI
              have hst:=hst q
              generalize EK q=t at *
              unfold enStep enK0 enX2 kinds at hst
              unfold enX2 at hJ
              have hDb:=enD_bd hI (by omega)
              obtain ⟨D,hD⟩:∃ D,enD rs.length t=D:=⟨_,rfl⟩
              obtain ⟨X1,hX1⟩:∃ X1,enX1 rs.length t=X1:=⟨_,rfl⟩
              rw [hD] at hst hJ
              rw [hX1] at hst hJ
              have hD':t.day+upV t.x (min (t.day+1) ((rs.length:Int) - 1) - t.day)=D:=hD
              have hX1':upS t.x (min (t.day+1) ((rs.length:Int) - 1) - t.day)=X1:=hX1
              clear hD hX1 hDb
              obtain ⟨κ,hκ⟩:∃ κ,oneV X1 [1,2,3,3,3,4]=κ:=⟨_,rfl⟩
              obtain ⟨X2,hX2⟩:∃ X2,upS X1 ((6:Nat) - 1)=X2:=⟨_,rfl⟩
              rw [hκ,hX2] at hst
              rw [hX2] at hJ
              obtain ⟨cn,hcn⟩:∃ cn,upV X2 ((co.cs.length:Int) - 1)=cn:=⟨_,rfl⟩
              obtain ⟨X3,hX3⟩:∃ X3,upS X2 ((co.cs.length:Int) - 1)=X3:=⟨_,rfl⟩
              rw [hcn] at hst hJ
              rw [hX3] at hst
              have t1:=hI.len
              have t2:=hI.es
              have t3:=hI.d0
              have t4:=hI.d1
              have j1:=hJ.d0
              have j2:=hJ.d1
              have j3:=hJ.c0
              have j4:=hJ.c1
              have j5:=hJ.h
              have wD:IntKind.wrap .i64 (t.day+1)=t.day+1:=wrap64 (by omega) (by omega)
              have wR:IntKind.wrap .i64 ((rs.length:Int) - 1)=(rs.length:Int) - 1:=wrap64 (by omega) (by omega)
              have wC:IntKind.wrap .i64 ((co.cs.length:Int) - 1)=(co.cs.length:Int) - 1:=wrap64 (by omega) (by omega)
              have e7:IntKind.wrap .i64 ((U:Int) - (q:Int) - 1)=(U:Int) - ((q+1:Nat):Int):=by rw [wrap64 (by omega) (by omega)];omega
              have m1:(t.es.length+1) * 48≤140737488355328∧t.es.length+1≤maxLen:=by omega
              have lc:cn.toNat < t.till.length:=by omega
              have e6:=gI0 lc
              have p1:-100000≤t.day∧t.day≤100000∧-100000≤min (t.day+1) ((rs.length:Int) - 1)∧min (t.day+1) ((rs.length:Int) - 1)≤100000:=by omega
              have p2:(co.cs.length:Int) - 1 < 9223372036854775807:=by omega
              generalize hh:t.till.getD cn.toNat 0=hv at *
              by_cases k1:κ=1
              · subst k1
                have hst:EK (q+1)=⟨D,t.till.set cn.toNat (hv+upV X3 90),t.es++[⟨D,1,cn,0,upV X3 90,0⟩],upS X3 90⟩:=by rw [hst];unfold enS0 enS1;rw [if_pos rfl,hh]
                have u1:=upV_le (x:=X3) (m:=90) (by decide) (by decide)
                have w1:IntKind.wrap .i64 (hv+upV X3 90)=hv+upV X3 90:=wrap64 (by omega) (by omega)
                have e4:t.es.map eEnt++[[.v (.int .i64 D),.v (.int .i64 1),.v (.int .i64 cn),.v (.int .i64 0),.v (.int .i64 (upV X3 90)),.v (.int .i64 0)]]=(t.es++[(⟨D,1,cn,0,upV X3 90,0⟩:Ent)]).map eEnt:=by rw [List.map_append];rfl
                repeat' (first|(apply nx;with_reducible constructor)|refine uq (by decide) ?_|((first|refine vz env fun Q hQ=>?_|refine vj fun Q hQ=>?_);simp only [vkt,Nat.reduceEqDiff,Nat.reduceAdd,Nat.reduceMul,Nat.reduceSub,Nat.reduceLeDiff,reduceCtorEq,↓reduceIte,↓reduceDIte,Int.reduceToNat,Int.reduceLE,Int.reduceLT,Int.reduceEq,Int.reduceNeg,tbG9_27,xbG9_2,List.map_cons,List.map_nil,List.length_cons,List.length_nil,List.nil_append,List.append_nil,List.cons_append,wD,wR,wC,hD',hX1',hκ,hX2,hcn,hX3,e6,w1,e4,e7,setI];(try simp only [ite_and]);(repeat' (first|with_reducible assumption|refine And.intro ?_ ?_));all_goals (first|(refine hQ _ ?_;clear hQ Q)|(refine hQ _ (fun h=>?_) (fun h=>?_) <;> clear hQ Q <;> (try simp only [vki,reduceCtorEq] at h))|omega|with_reducible assumption|with_reducible rfl|(refine vq ?_;kernel_rfl)|skip)))
                all_goals first|exact ⟨_,_,rfl⟩|skip
                refine ⟨⟨q+1,hlt⟩,by show U - (q+1) < U - q;omega,?_⟩
                (refine Le.ok (fun j=>if j=7 then some 11 else some j) [] ?_;constructor;all_goals (try simp only [vle,vkt,Nat.reduceEqDiff,Nat.reduceAdd,Nat.reduceMul,Nat.reduceSub,Nat.reduceLeDiff,reduceCtorEq,↓reduceIte,↓reduceDIte,Int.reduceToNat,Int.reduceLE,Int.reduceLT,Int.reduceEq,Int.reduceNeg,tbG9_27,xbG9_2,List.map_cons,List.map_nil,List.length_cons,List.length_nil,List.nil_append,List.append_nil,List.cons_append]))
                all_goals first|rfl|(simp [hst];done)
              by_cases k2:κ=2
              · subst k2
                have u1:=upV_bd (x:=X3) (m:=min hv 90) (by omega)
                have hst:EK (q+1)=⟨D,t.till.set cn.toNat (hv - upV X3 (min hv 90)),t.es++[(⟨D,2,cn,0,upV X3 (min hv 90),0⟩:Ent)],upS X3 (min hv 90)⟩:=by rw [hst];unfold enS0 enS2;rw [if_neg (by decide),if_pos rfl,hh]
                obtain ⟨am,hA⟩:∃ am,upV X3 (min hv 90)=am:=⟨_,rfl⟩
                obtain ⟨X4,hX4⟩:∃ X4,upS X3 (min hv 90)=X4:=⟨_,rfl⟩
                rw [hA,hX4] at hst
                rw [hA] at u1
                have p3:min hv 90 < 9223372036854775807:=by omega
                have w1:IntKind.wrap .i64 (hv - am)=hv - am:=wrap64 (by omega) (by omega)
                have e4:t.es.map eEnt++[[.v (.int .i64 D),.v (.int .i64 2),.v (.int .i64 cn),.v (.int .i64 0),.v (.int .i64 am),.v (.int .i64 0)]]=(t.es++[(⟨D,2,cn,0,am,0⟩:Ent)]).map eEnt:=by rw [List.map_append];rfl
                repeat' (first|(apply nx;with_reducible constructor)|refine uq (by decide) ?_|((first|refine vz env fun Q hQ=>?_|refine vj fun Q hQ=>?_);simp only [vkt,Nat.reduceEqDiff,Nat.reduceAdd,Nat.reduceMul,Nat.reduceSub,Nat.reduceLeDiff,reduceCtorEq,↓reduceIte,↓reduceDIte,Int.reduceToNat,Int.reduceLE,Int.reduceLT,Int.reduceEq,Int.reduceNeg,tbG9_27,xbG9_2,List.map_cons,List.map_nil,List.length_cons,List.length_nil,List.nil_append,List.append_nil,List.cons_append,wD,wR,wC,hD',hX1',hκ,hX2,hcn,hX3,e6,hA,hX4,w1,e4,e7,setI];(try simp only [ite_and]);(repeat' (first|with_reducible assumption|refine And.intro ?_ ?_));all_goals (first|(refine hQ _ ?_;clear hQ Q)|(refine hQ _ (fun h=>?_) (fun h=>?_) <;> clear hQ Q <;> (try simp only [vki,reduceCtorEq] at h))|omega|with_reducible assumption|with_reducible rfl|(refine vq ?_;kernel_rfl)|skip)))
                all_goals first|exact ⟨_,_,rfl⟩|skip
                refine ⟨⟨q+1,hlt⟩,by show U - (q+1) < U - q;omega,?_⟩
                (refine Le.ok (fun j=>if j=7 then some 11 else some j) [] ?_;constructor;all_goals (try simp only [vle,vkt,Nat.reduceEqDiff,Nat.reduceAdd,Nat.reduceMul,Nat.reduceSub,Nat.reduceLeDiff,reduceCtorEq,↓reduceIte,↓reduceDIte,Int.reduceToNat,Int.reduceLE,Int.reduceLT,Int.reduceEq,Int.reduceNeg,tbG9_27,xbG9_2,List.map_cons,List.map_nil,List.length_cons,List.length_nil,List.nil_append,List.append_nil,List.cons_append]))
                all_goals first|rfl|(simp [hst];done)
              by_cases k4:κ=4
              · subst k4
                have u1:=enA4_bd hv X3
                have u2:=upV_bd (x:=X3) (m:=3 - -3) (by decide)
                have hst:EK (q+1)=⟨D,t.till.set cn.toNat (enA4 hv X3),t.es++[(⟨D,4,cn,0,enA4 hv X3,0⟩:Ent)],upS (upS X3 (3 - -3)) ((2:Nat) - 1)⟩:=by rw [hst];unfold enS0 enS4;rw [if_neg (by decide),if_neg (by decide),if_pos rfl,hh]
                unfold enA4 enF at hst u1
                obtain ⟨f,hf⟩:∃ f,-3+upV X3 (3 - -3)=f:=⟨_,rfl⟩
                obtain ⟨X4,hX4⟩:∃ X4,upS X3 (3 - -3)=X4:=⟨_,rfl⟩
                have hf3:-3≤f∧f≤3:=by omega
                rw [hf,hX4] at hst u1
                have ho:=oneV_mem (x:=X4) (l:=[0,f]) (by simp) (by simp)
                obtain ⟨o,hO⟩:∃ o,oneV X4 [0,f]=o:=⟨_,rfl⟩
                obtain ⟨X5,hX5⟩:∃ X5,upS X4 ((2:Nat) - 1)=X5:=⟨_,rfl⟩
                rw [hO,hX5] at hst
                rw [hO] at u1 ho
                have ho:-3≤o∧o≤3:=by simp at ho;omega
                have w1:IntKind.wrap .i64 (hv+o)=hv+o:=wrap64 (by omega) (by omega)
                obtain ⟨am,hA⟩:∃ am,max 0 (min 999 (hv+o))=am:=⟨_,rfl⟩
                rw [hA] at hst
                have e4:t.es.map eEnt++[[.v (.int .i64 D),.v (.int .i64 4),.v (.int .i64 cn),.v (.int .i64 0),.v (.int .i64 am),.v (.int .i64 0)]]=(t.es++[(⟨D,4,cn,0,am,0⟩:Ent)]).map eEnt:=by rw [List.map_append];rfl
                repeat' (first|(apply nx;with_reducible constructor)|refine uq (by decide) ?_|((first|refine vz env fun Q hQ=>?_|refine vj fun Q hQ=>?_);simp only [vkt,Nat.reduceEqDiff,Nat.reduceAdd,Nat.reduceMul,Nat.reduceSub,Nat.reduceLeDiff,reduceCtorEq,↓reduceIte,↓reduceDIte,Int.reduceToNat,Int.reduceLE,Int.reduceLT,Int.reduceEq,Int.reduceNeg,tbG9_27,xbG9_2,List.map_cons,List.map_nil,List.length_cons,List.length_nil,List.nil_append,List.append_nil,List.cons_append,wD,wR,wC,hD',hX1',hκ,hX2,hcn,hX3,e6,hf,hX4,hO,hX5,w1,hA,e4,e7,setI];(try simp only [ite_and]);(repeat' (first|with_reducible assumption|refine And.intro ?_ ?_));all_goals (first|(refine hQ _ ?_;clear hQ Q)|(refine hQ _ (fun h=>?_) (fun h=>?_) <;> clear hQ Q <;> (try simp only [vki,reduceCtorEq] at h))|omega|with_reducible assumption|with_reducible rfl|(refine vq ?_;kernel_rfl)|skip)))
                all_goals first|exact ⟨_,_,rfl⟩|skip
                all_goals first|exact ⟨_,_,rfl⟩|skip
                refine ⟨⟨q+1,hlt⟩,by show U - (q+1) < U - q;omega,?_⟩
                (refine Le.ok (fun j=>if j=7 then some 12 else some j) [] ?_;constructor;all_goals (try simp only [vle,vkt,Nat.reduceEqDiff,Nat.reduceAdd,Nat.reduceMul,Nat.reduceSub,Nat.reduceLeDiff,reduceCtorEq,↓reduceIte,↓reduceDIte,Int.reduceToNat,Int.reduceLE,Int.reduceLT,Int.reduceEq,Int.reduceNeg,tbG9_27,xbG9_2,List.map_cons,List.map_nil,List.length_cons,List.length_nil,List.nil_append,List.append_nil,List.cons_append]))
                all_goals first|rfl|(simp [hst];done)
              have k3:κ=3:=by
                have:=oneV_mem (x:=X1) (l:=[1,2,3,3,3,4]) (by simp) (by simp)
                rw [hκ] at this
                simp at this
                omega
              subst k3
              unfold enS0 at hst
              rw [if_neg k1,if_neg k2,if_neg k4] at hst
              unfold enS3 at hst
              by_cases cC:co.cs.length=1
              · rw [if_pos cC] at hst
                have cC':decide ((co.cs.length:Int)=1)=true:=by simp [cC]
                repeat' (first|(apply nx;with_reducible constructor)|refine uq (by decide) ?_|((first|refine vz env fun Q hQ=>?_|refine vj fun Q hQ=>?_);simp only [vkt,Nat.reduceEqDiff,Nat.reduceAdd,Nat.reduceMul,Nat.reduceSub,Nat.reduceLeDiff,reduceCtorEq,↓reduceIte,↓reduceDIte,Int.reduceToNat,Int.reduceLE,Int.reduceLT,Int.reduceEq,Int.reduceNeg,tbG9_27,xbG9_2,List.map_cons,List.map_nil,List.length_cons,List.length_nil,List.nil_append,List.append_nil,List.cons_append,wD,wR,wC,hD',hX1',hκ,hX2,hcn,hX3,cC',e7];(try simp only [ite_and]);(repeat' (first|with_reducible assumption|refine And.intro ?_ ?_));all_goals (first|(refine hQ _ ?_;clear hQ Q)|(refine hQ _ (fun h=>?_) (fun h=>?_) <;> clear hQ Q <;> (try simp only [vki,reduceCtorEq] at h))|omega|with_reducible assumption|with_reducible rfl|(refine vq ?_;kernel_rfl)|skip)))
                all_goals first|exact ⟨_,_,rfl⟩|skip
                refine ⟨⟨q+1,hlt⟩,by show U - (q+1) < U - q;omega,?_⟩
                (refine Le.ok some [] ?_;constructor;all_goals (try simp only [vle,vkt,Nat.reduceEqDiff,Nat.reduceAdd,Nat.reduceMul,Nat.reduceSub,Nat.reduceLeDiff,reduceCtorEq,↓reduceIte,↓reduceDIte,Int.reduceToNat,Int.reduceLE,Int.reduceLT,Int.reduceEq,Int.reduceNeg,tbG9_27,xbG9_2,List.map_cons,List.map_nil,List.length_cons,List.length_nil,List.nil_append,List.append_nil,List.cons_append]))
                all_goals first|rfl|(simp [hst];done)
              · rw [if_neg cC] at hst
                have cC':¬ (co.cs.length:Int)=1:=by omega
                have u1:=upV_le (x:=X3) (m:=(co.cs.length:Int) - 1 - 1) (by omega) (by omega)
                have wT:IntKind.wrap .i64 (cn+(1+upV X3 ((co.cs.length:Int) - 1 - 1)))=cn+(1+upV X3 ((co.cs.length:Int) - 1 - 1)):=wrap64 (by omega) (by omega)
                have hT2:foldV (cn+(1+upV X3 ((co.cs.length:Int) - 1 - 1))) (co.cs.length:Int)=enTo co.cs.length cn X3:=rfl
                have hTb:0≤enTo co.cs.length cn X3∧enTo co.cs.length cn X3 < (co.cs.length:Int):=foldV_bd (by omega)
                obtain ⟨to,hT⟩:∃ to,foldV (cn+(1+upV X3 ((co.cs.length:Int) - 1 - 1))) (co.cs.length:Int)=to:=⟨_,rfl⟩
                rw [← hT2,hT] at hst hTb
                clear hT2
                obtain ⟨X4,hX4⟩:∃ X4,upS X3 ((co.cs.length:Int) - 1 - 1)=X4:=⟨_,rfl⟩
                rw [hX4,hh] at hst
                have u2:=upV_bd (x:=X4) (m:=min hv 40) (by omega)
                obtain ⟨am,hA⟩:∃ am,upV X4 (min hv 40)=am:=⟨_,rfl⟩
                obtain ⟨X5,hX5⟩:∃ X5,upS X4 (min hv 40)=X5:=⟨_,rfl⟩
                rw [hA,hX5] at hst
                rw [hA] at u2
                have am0:0≤am∧am≤40∧am≤hv:=by omega
                have s1:=hrs.sh j1 j2 j3 j4
                have s2:=hrs.sh j1 j2 hTb.1 (show to≤(co.cs.length:Int) - 1 by omega)
                have hGb:=enG0_bd s1 s2 am0.1 am0.2.1
                have lD:D.toNat < rs.length:=by omega
                have g1:=gRow lD
                have lR:=(okd2 _ (gMem (l:=rs) (k:=D.toNat) (d:=[]) lD)).len
                have q1:=s1.n
                have q2:=s1.d
                have q3:=s2.n
                have q4:=s2.d
                obtain ⟨G,hG0⟩:∃ G,enG0 rs D cn to am=G:=⟨_,rfl⟩
                unfold enS3a at hst
                rw [hG0] at hst hGb
                unfold enG0 at hG0
                generalize rs.getD D.toNat []=rw at *
                obtain ⟨f,hf⟩:∃ f,rw.getD cn.toNat default=f:=⟨_,rfl⟩
                obtain ⟨g,hg⟩:∃ g,rw.getD to.toNat default=g:=⟨_,rfl⟩
                rw [hf] at q1 q2 hG0
                rw [hg] at q3 q4 hG0
                have lf:cn.toNat < rw.length:=by omega
                have lg:to.toNat < rw.length:=by omega
                have G1:(rw.map eSh).getD cn.toNat [.v (.int .i64 0),.v (.int .i64 0)]=[.v (.int .i64 f.num),.v (.int .i64 f.den)]:=by rw [gSh,hf];rfl
                have G2:(rw.map eSh).getD to.toNat [.v (.int .i64 0),.v (.int .i64 0)]=[.v (.int .i64 g.num),.v (.int .i64 g.den)]:=by rw [gSh,hg];rfl
                have m1':0≤am * f.num∧am * f.num≤800:=⟨Int.mul_nonneg am0.1 (by omega),Int.le_trans (Int.mul_le_mul am0.2.1 q1.2 (by omega) (by omega)) (by decide)⟩
                have m2':0≤am * f.num * g.den∧am * f.num * g.den≤9600:=⟨Int.mul_nonneg m1'.1 (by omega),Int.le_trans (Int.mul_le_mul m1'.2 q4.2 (by omega) (by omega)) (by decide)⟩
                have m3':0 < f.den * g.num∧f.den * g.num≤240:=⟨Int.mul_pos (by omega) (by omega),Int.le_trans (Int.mul_le_mul q2.2 q3.2 (by omega) (by omega)) (by decide)⟩
                have wa:IntKind.wrap .i64 (am * f.num)=am * f.num:=wrap64 (by omega) (by omega)
                have wb:IntKind.wrap .i64 (am * f.num * g.den)=am * f.num * g.den:=wrap64 (by omega) (by omega)
                have wc:IntKind.wrap .i64 (f.den * g.num)=f.den * g.num:=wrap64 (by omega) (by omega)
                have nz:¬ f.den * g.num=0:=by omega
                have hG:(am * f.num * g.den).tdiv (f.den * g.num)=G:=hG0
                have wd:IntKind.wrap .i64 G=G:=wrap64 (by omega) (by omega)
                have ltl:to.toNat < t.till.length:=by omega
                have g2:=gI0 ltl
                have hht0:=hI.b _ (gMem (l:=t.till) (k:=to.toNat) (d:=0) ltl)
                obtain ⟨ht,hht⟩:∃ ht,t.till.getD to.toNat 0=ht:=⟨_,rfl⟩
                rw [hht] at g2 hht0
                have w0:IntKind.wrap .i64 (hv - am)=hv - am:=wrap64 (by omega) (by omega)
                have p3:min hv 40 < 9223372036854775807:=by omega
                have p4:(co.cs.length:Int)≤1000000:=by omega
                have et:to.toNat < (t.till.set cn.toNat (hv - am)).length:=by rw [List.length_set];exact ltl
                have g3:=gI0 et
                obtain ⟨X6,hX6⟩:∃ X6,upS X5 (10 - 1)=X6:=⟨_,rfl⟩
                rw [hX6] at hst
                by_cases c5:upV X5 (10 - 1) < w
                · rw [if_pos c5] at hst
                  have u3:=upV_le (x:=X6) (m:=3 - 1) (by decide) (by decide)
                  obtain ⟨v,hv3⟩:∃ v,1+upV X6 (3 - 1)=v:=⟨_,rfl⟩
                  obtain ⟨X7,hX7⟩:∃ X7,upS X6 (3 - 1)=X7:=⟨_,rfl⟩
                  rw [hv3,hX7] at hst
                  have wg:IntKind.wrap .i64 (G+v)=G+v:=wrap64 (by omega) (by omega)
                  by_cases c6:999 < G+v
                  · have hst:EK (q+1)=⟨D,t.till,t.es,X7⟩:=by rw [hst];unfold enS3b;rw [if_pos c6]
                    repeat' (first|(apply nx;with_reducible constructor)|refine uq (by decide) ?_|((first|refine vz env fun Q hQ=>?_|refine vj fun Q hQ=>?_);simp only [vkt,Nat.reduceEqDiff,Nat.reduceAdd,Nat.reduceMul,Nat.reduceSub,Nat.reduceLeDiff,reduceCtorEq,↓reduceIte,↓reduceDIte,Int.reduceToNat,Int.reduceLE,Int.reduceLT,Int.reduceEq,Int.reduceNeg,tbG9_27,xbG9_2,List.map_cons,List.map_nil,List.length_cons,List.length_nil,List.nil_append,List.append_nil,List.cons_append,wD,wR,wC,hD',hX1',hκ,hX2,hcn,hX3,e6,g1,g2,G1,G2,wT,hT,hX4,hA,hX5,wa,wb,wc,wd,nz,hG,cC',c5,hX6,hv3,hX7,wg,c6,k1,k2,k4,e7,setI];(try simp only [ite_and]);(repeat' (first|with_reducible assumption|refine And.intro ?_ ?_));all_goals (first|(refine hQ _ ?_;clear hQ Q)|(refine hQ _ (fun h=>?_) (fun h=>?_) <;> clear hQ Q <;> (try simp only [vki,reduceCtorEq] at h))|omega|with_reducible assumption|with_reducible rfl|(refine vq ?_;kernel_rfl)|skip)))
                    all_goals first|exact ⟨_,_,rfl⟩|skip
                    refine ⟨⟨q+1,hlt⟩,by show U - (q+1) < U - q;omega,?_⟩
                    (refine Le.ok some [] ?_;constructor;all_goals (try simp only [vle,vkt,Nat.reduceEqDiff,Nat.reduceAdd,Nat.reduceMul,Nat.reduceSub,Nat.reduceLeDiff,reduceCtorEq,↓reduceIte,↓reduceDIte,Int.reduceToNat,Int.reduceLE,Int.reduceLT,Int.reduceEq,Int.reduceNeg,tbG9_27,xbG9_2,List.map_cons,List.map_nil,List.length_cons,List.length_nil,List.nil_append,List.append_nil,List.cons_append]))
                    all_goals first|rfl|(simp [hst];done)
                  · have hst:EK (q+1)=⟨D,(t.till.set cn.toNat (hv - am)).set to.toNat (ht+(G+v)),t.es++[(⟨D,3,cn,to,am,G+v⟩:Ent)],X7⟩:=by rw [hst];unfold enS3b;rw [if_neg c6,hh,hht]
                    have w1:IntKind.wrap .i64 (ht+(G+v))=ht+(G+v):=wrap64 (by omega) (by omega)
                    have e4:t.es.map eEnt++[[.v (.int .i64 D),.v (.int .i64 3),.v (.int .i64 cn),.v (.int .i64 to),.v (.int .i64 am),.v (.int .i64 (G+v))]]=(t.es++[(⟨D,3,cn,to,am,G+v⟩:Ent)]).map eEnt:=by rw [List.map_append];rfl
                    repeat' (first|(apply nx;with_reducible constructor)|refine uq (by decide) ?_|((first|refine vz env fun Q hQ=>?_|refine vj fun Q hQ=>?_);simp only [vkt,Nat.reduceEqDiff,Nat.reduceAdd,Nat.reduceMul,Nat.reduceSub,Nat.reduceLeDiff,reduceCtorEq,↓reduceIte,↓reduceDIte,Int.reduceToNat,Int.reduceLE,Int.reduceLT,Int.reduceEq,Int.reduceNeg,tbG9_27,xbG9_2,List.map_cons,List.map_nil,List.length_cons,List.length_nil,List.nil_append,List.append_nil,List.cons_append,wD,wR,wC,hD',hX1',hκ,hX2,hcn,hX3,e6,g1,g2,G1,G2,wT,hT,hX4,hA,hX5,wa,wb,wc,wd,nz,hG,cC',c5,hX6,hv3,hX7,wg,c6,k1,k2,k4,e7,hh,hht,et,g3,w0,w1,e4,setI];(try simp only [ite_and]);(repeat' (first|with_reducible assumption|refine And.intro ?_ ?_));all_goals (first|(refine hQ _ ?_;clear hQ Q)|(refine hQ _ (fun h=>?_) (fun h=>?_) <;> clear hQ Q <;> (try simp only [vki,reduceCtorEq] at h))|omega|with_reducible assumption|with_reducible rfl|(refine vq ?_;kernel_rfl)|skip)))
                    all_goals first|exact ⟨_,_,rfl⟩|skip
                    refine ⟨⟨q+1,hlt⟩,by show U - (q+1) < U - q;omega,?_⟩
                    (refine Le.ok (fun j=>if j=7 then some 13 else some j) [] ?_;constructor;all_goals (try simp only [vle,vkt,Nat.reduceEqDiff,Nat.reduceAdd,Nat.reduceMul,Nat.reduceSub,Nat.reduceLeDiff,reduceCtorEq,↓reduceIte,↓reduceDIte,Int.reduceToNat,Int.reduceLE,Int.reduceLT,Int.reduceEq,Int.reduceNeg,tbG9_27,xbG9_2,List.map_cons,List.map_nil,List.length_cons,List.length_nil,List.nil_append,List.append_nil,List.cons_append]))
                    all_goals first|rfl|(simp [hst];done)
                · rw [if_neg c5] at hst
                  by_cases c6:999 < G
                  · have hst:EK (q+1)=⟨D,t.till,t.es,X6⟩:=by rw [hst];unfold enS3b;rw [if_pos c6]
                    repeat' (first|(apply nx;with_reducible constructor)|refine uq (by decide) ?_|((first|refine vz env fun Q hQ=>?_|refine vj fun Q hQ=>?_);simp only [vkt,Nat.reduceEqDiff,Nat.reduceAdd,Nat.reduceMul,Nat.reduceSub,Nat.reduceLeDiff,reduceCtorEq,↓reduceIte,↓reduceDIte,Int.reduceToNat,Int.reduceLE,Int.reduceLT,Int.reduceEq,Int.reduceNeg,tbG9_27,xbG9_2,List.map_cons,List.map_nil,List.length_cons,List.length_nil,List.nil_append,List.append_nil,List.cons_append,wD,wR,wC,hD',hX1',hκ,hX2,hcn,hX3,e6,g1,g2,G1,G2,wT,hT,hX4,hA,hX5,wa,wb,wc,wd,nz,hG,cC',c5,hX6,c6,k1,k2,k4,e7,setI];(try simp only [ite_and]);(repeat' (first|with_reducible assumption|refine And.intro ?_ ?_));all_goals (first|(refine hQ _ ?_;clear hQ Q)|(refine hQ _ (fun h=>?_) (fun h=>?_) <;> clear hQ Q <;> (try simp only [vki,reduceCtorEq] at h))|omega|with_reducible assumption|with_reducible rfl|(refine vq ?_;kernel_rfl)|skip)))
                    all_goals first|exact ⟨_,_,rfl⟩|skip
                    refine ⟨⟨q+1,hlt⟩,by show U - (q+1) < U - q;omega,?_⟩
                    (refine Le.ok some [] ?_;constructor;all_goals (try simp only [vle,vkt,Nat.reduceEqDiff,Nat.reduceAdd,Nat.reduceMul,Nat.reduceSub,Nat.reduceLeDiff,reduceCtorEq,↓reduceIte,↓reduceDIte,Int.reduceToNat,Int.reduceLE,Int.reduceLT,Int.reduceEq,Int.reduceNeg,tbG9_27,xbG9_2,List.map_cons,List.map_nil,List.length_cons,List.length_nil,List.nil_append,List.append_nil,List.cons_append]))
                    all_goals first|rfl|(simp [hst];done)
                  · have hst:EK (q+1)=⟨D,(t.till.set cn.toNat (hv - am)).set to.toNat (ht+G),t.es++[(⟨D,3,cn,to,am,G⟩:Ent)],X6⟩:=by rw [hst];unfold enS3b;rw [if_neg c6,hh,hht]
                    have w1:IntKind.wrap .i64 (ht+(G))=ht+(G):=wrap64 (by omega) (by omega)
                    have e4:t.es.map eEnt++[[.v (.int .i64 D),.v (.int .i64 3),.v (.int .i64 cn),.v (.int .i64 to),.v (.int .i64 am),.v (.int .i64 (G))]]=(t.es++[(⟨D,3,cn,to,am,G⟩:Ent)]).map eEnt:=by rw [List.map_append];rfl
                    repeat' (first|(apply nx;with_reducible constructor)|refine uq (by decide) ?_|((first|refine vz env fun Q hQ=>?_|refine vj fun Q hQ=>?_);simp only [vkt,Nat.reduceEqDiff,Nat.reduceAdd,Nat.reduceMul,Nat.reduceSub,Nat.reduceLeDiff,reduceCtorEq,↓reduceIte,↓reduceDIte,Int.reduceToNat,Int.reduceLE,Int.reduceLT,Int.reduceEq,Int.reduceNeg,tbG9_27,xbG9_2,List.map_cons,List.map_nil,List.length_cons,List.length_nil,List.nil_append,List.append_nil,List.cons_append,wD,wR,wC,hD',hX1',hκ,hX2,hcn,hX3,e6,g1,g2,G1,G2,wT,hT,hX4,hA,hX5,wa,wb,wc,wd,nz,hG,cC',c5,hX6,c6,k1,k2,k4,e7,hh,hht,et,g3,w0,w1,e4,setI];(try simp only [ite_and]);(repeat' (first|with_reducible assumption|refine And.intro ?_ ?_));all_goals (first|(refine hQ _ ?_;clear hQ Q)|(refine hQ _ (fun h=>?_) (fun h=>?_) <;> clear hQ Q <;> (try simp only [vki,reduceCtorEq] at h))|omega|with_reducible assumption|with_reducible rfl|(refine vq ?_;kernel_rfl)|skip)))
                    all_goals first|exact ⟨_,_,rfl⟩|skip
                    refine ⟨⟨q+1,hlt⟩,by show U - (q+1) < U - q;omega,?_⟩
                    (refine Le.ok (fun j=>if j=7 then some 13 else some j) [] ?_;constructor;all_goals (try simp only [vle,vkt,Nat.reduceEqDiff,Nat.reduceAdd,Nat.reduceMul,Nat.reduceSub,Nat.reduceLeDiff,reduceCtorEq,↓reduceIte,↓reduceDIte,Int.reduceToNat,Int.reduceLE,Int.reduceLT,Int.reduceEq,Int.reduceNeg,tbG9_27,xbG9_2,List.map_cons,List.map_nil,List.length_cons,List.length_nil,List.nil_append,List.append_nil,List.cons_append]))
                    all_goals first|rfl|(simp [hst];done)
            · have hqU:q=U:=by omega
              subst hqU
              rw [gL,gS,g3]
              repeat' (first|(apply nx;with_reducible constructor)|refine uq (by decide) ?_|((first|refine vz env fun Q hQ=>?_|refine vj fun Q hQ=>?_);simp only [vkt,Nat.reduceEqDiff,Nat.reduceAdd,Nat.reduceMul,Nat.reduceSub,Nat.reduceLeDiff,reduceCtorEq,↓reduceIte,↓reduceDIte,Int.reduceToNat,Int.reduceLE,Int.reduceLT,Int.reduceEq,Int.reduceNeg,tbG9_27,xbG9_2,List.map_cons,List.map_nil,List.length_cons,List.length_nil,List.nil_append,List.append_nil,List.cons_append];(try simp only [ite_and]);(repeat' (first|with_reducible assumption|refine And.intro ?_ ?_));all_goals (first|(refine hQ _ ?_;clear hQ Q)|(refine hQ _ (fun h=>?_) (fun h=>?_) <;> clear hQ Q <;> (try simp only [vki,reduceCtorEq] at h))|omega|with_reducible assumption|with_reducible rfl|(refine vq ?_;kernel_rfl)|skip)))
              (simp only [vrt,Try.results27,vkt,Nat.reduceEqDiff,Nat.reduceAdd,Nat.reduceMul,Nat.reduceSub,Nat.reduceLeDiff,reduceCtorEq,↓reduceIte,↓reduceDIte,Int.reduceToNat,Int.reduceLE,Int.reduceLT,Int.reduceEq,Int.reduceNeg,tbG9_27,xbG9_2,List.map_cons,List.map_nil,List.length_cons,List.length_nil,List.nil_append,List.append_nil,List.cons_append];refine Fin.ok some [3,5,4,7] ?_ ?_ ?_ ?_ ?_ rfl;all_goals (try simp only [vle,vkt,Nat.reduceEqDiff,Nat.reduceAdd,Nat.reduceMul,Nat.reduceSub,Nat.reduceLeDiff,reduceCtorEq,↓reduceIte,↓reduceDIte,Int.reduceToNat,Int.reduceLE,Int.reduceLT,Int.reduceEq,Int.reduceNeg,tbG9_27,xbG9_2,List.map_cons,List.map_nil,List.length_cons,List.length_nil,List.nil_append,List.append_nil,List.cons_append]))
              all_goals first|rfl|(simp;done)|exact ⟨⟨_,_,rfl⟩,⟨_,_,rfl⟩,⟨_,_,rfl⟩,⟨_,_,rfl⟩⟩|exact ⟨⟨_,_,rfl⟩,⟨_,_,rfl⟩,⟨_,_,rfl⟩,⟨_,_,rfl⟩,trivial⟩
noncomputable def p27 (S:St):List AV→Option Pk
  |[.ptr i 0,.v (.int .i64 c),.v (.int .i64 d),.v (.int .i64 e),.v (.int .i64 w)]=>match S.h i with
    |some (.cells [.v (.int .u64 x)])=>some { pre:=(1≤c∧c≤4)∧(1≤d∧d≤4)∧(0≤e∧e≤6),hs:=[i],ar:=[.ptr 0 0,.v (.int .i64 c),.v (.int .i64 d),.v (.int .i64 e),.v (.int .i64 w)],L0:=[.cells [.v (.int .u64 x)]],v:=aLed (lgL x c d e w),L1:=[some (.cells [.v (.int .u64 (lgS x c d e w))])] }
    |_=>none
  |_=>none
theorem e27 {A:Frm→Prop}:EntryOK A Try.prog 27 (fnE p27):=fnE_ok fun S bs q h hp=>by
  unfold p27 at h
  split at h
  · split at h
    · cases h;exact ledgerOf_fn _ _ _ _ _ hp.1 hp.2.1 hp.2.2
    · cases h
  · cases h
end Go.Sym.B
namespace Go.Sym.B
open Go Go.Sym Go.Proofs Go.Sym.C
end Go.Sym.B
namespace Go.Sym.B
open Go Go.Sym Go.Proofs Go.Sym.C
def stE (ss:List Int) (es:List Ent):Int × List Int:=es.foldl (fun s x=>(x.day,enterF s.2 x)) (0,ss)
def VE (l:Led):Prop:=∀ j,j < l.entries.length→eV l (l.entries.getD j default) (stE l.start (l.entries.take j)).1 (stE l.start (l.entries.take j)).2=0
structure EnV (cs:List (List Int)) (rs:List (List Sh)) (ss:List Int) (s:EnS):Prop where
  v:VE ⟨cs,rs,ss,s.es⟩
  t:(stE ss s.es).2=s.till
  d:(stE ss s.es).1≤s.day
theorem EnV.skip {cs:List (List Int)} {rs:List (List Sh)} {ss:List Int} {s:EnS} (h:EnV cs rs ss s) {d x:Int} (hd:s.day≤d):EnV cs rs ss ⟨d,s.till,s.es,x⟩ :=
  ⟨h.v,h.t,Int.le_trans h.d hd⟩
end Go.Sym.B
namespace Go.Sym.B
open Go Go.Sym Go.Proofs Go.Sym.C
end Go.Sym.B
namespace Go.Sym.B
open Go Go.Sym Go.Proofs Go.Sym.C
def eLed (l:Led):List DV:=[.sl (l.coins.map eInts),.sl (l.rates.map eShs),.sl (l.start.map eInt),.sl (l.entries.map eEnt)]
theorem gLed {l:List Led} {n:Nat} (h:n < l.length) (z:List DV):(l.map eLed).getD n z=eLed (l.getD n default):=by simp [List.getD_eq_getElem?_getD,h]
end Go.Sym.B
namespace Go.Sym.B
open Go Go.Sym Go.Proofs Go.Sym.C
theorem gIs1 {l:List (List Int)} {n:Nat} (h:n < l.length):(l.map eInts).getD n []=eInts (l.getD n []):=by simp [List.getD_eq_getElem?_getD,h]
theorem aChg_form (l:Led) (c n:Int) {d:List Int} (hd:d.length≤20):∃ (y:List Int) (e:Int),aChg l c d n=.tup [.sl (y.map eInt),.v (.int .i64 e)]∧y.length≤20:=by
  unfold aChg aInts
  split
  · exact ⟨[],_,rfl,by simp⟩
  · split
    · exact ⟨[],_,rfl,by simp⟩
    · rename_i q hq
      unfold chgL at hq
      cases hp:fwGet (fewL (l.coins.getD c.toNat []) (pad d)) n with
      |none=>rw [hp] at hq;cases hq
      |some r =>
        rw [hp] at hq
        cases hq
        exact ⟨_,_,rfl,by rw [List.length_take];omega⟩
theorem aPieces_form (l:Led) (c n:Int):∃ (y:List Int) (e:Int),aPieces l c n=.tup [.sl (y.map eInt),.v (.int .i64 e)]∧y.length≤20:=by
  unfold aPieces aInts
  split
  · exact ⟨[],_,rfl,by simp⟩
  · rename_i h
    obtain ⟨hV,⟨g1,g2⟩,_,hn0,hn1⟩:=money_ok (Decidable.not_not.1 h)
    have hps:=(coin_ok (hV.cs _ g2)).l
    exact ⟨_,_,rfl,by rw [piL,pcL_len];omega⟩
def cgT (Ls:List Led) (cs:List Int) (ds:List (List Int)) (qs:List Int) (k:Nat):St:={ t:=asg [(10,aB false),(15,.row 0),(16,.row 1),(17,.row 2),(18,.row 3),(19,aI k)],h:=hasg [(0,.row 38 4 (Ls.map eLed)),(1,.row 3 1 (cs.map eInt)),(2,.row 22 1 (ds.map eInts)),(3,.row 3 1 (qs.map eInt))],n:=4 }
def tbN18_15:=vk @ty3 (vk @ty22 (vk @ty28 (vk @ty30 (vk @ty38 (vk @ty70 (vk @ti3.eq_1 (vk @ti22.eq_1 (vk @ti28.eq_1 (vk @ti30.eq_1 (vk @ti38.eq_1 @ti70.eq_1))))))))))
def xbN18_1:=vk @aI.eq_1 (vk @aB.eq_1 (vk @aLed.eq_1 (vk @cLed.eq_1 (vk @bgH.eq_1 (vk @aInts.eq_1 (vk @mInt (vk @mInts (vk @eInt.eq_1 (vk @eInts.eq_1 (vk @gInt (vk @gInts (vk @rInt (vk @rInts (vk @c19.eq_1 (vk @c19.eq_2 (vk @p20.eq_1 (vk @p20.eq_2 (vk @p22.eq_1 (vk @p22.eq_2 (vk @p27.eq_1 (vk @p27.eq_2 (vk @c23.eq_1 (vk @c23.eq_2 (vk @c28.eq_1 (vk @c28.eq_2 (vk @c44.eq_1 (vk @c44.eq_2 (vk @c43.eq_1 (vk @c43.eq_2 (vk @s26.eq_1 (vk @s26.eq_2 (vk @c52.eq_1 (vk @c52.eq_2 (vk @isL_e (vk @ldOf_e (@eLed.eq_1))))))))))))))))))))))))))))))))))))
set_option maxRecDepth 100000 in
set_option maxHeartbeats 40000000 in
theorem changes_fn (l:Led) (drawer:List Int) (w am:Int) (ns:List Int) (hd2:drawer.length≤maxLen) (h2:ns.length≤maxLen):FnV Try.prog 15 [aLed l,aInts drawer,aI w,aI am,aInts ns] (aB true):=by
  have env:Env (fun _=>True) Try.prog tyB (tab [(19,valE true c19),(20,fnE p20),(22,fnE p22),(23,valE false c23),(26,valE true s26),(27,fnE p27),(28,valE false c28),(43,valE false c43),(44,valE true c44),(52,valE true c52),(67,fnE p67),(68,valE false c28),(69,valE false c69),(70,valE false c69)]):=mkEnv ⟨d19,e20,e22,d23,e26,e27,d28,d43,d44,d52,e67,d68,d69,d70,trivial⟩
  refine Fn.of (A:=fun _=>True) (n0:=0) (D:=noD) (Fn0 Try.func15 rfl (fun vs w=>by kernel_rfl) (by kernel_rfl)) (by simp) (by simp [AV.ids,AV.idsL,aInts,aI,aLed,cLed]) (fun i o h=>by cases h) (fun _ _ _ _=>trivial) noD_ok ?_
  cases hlg:largeB l
  case' false =>
    by_cases ld:drawer.length≤20
    case' pos =>
      have ld':¬ (20:Int) < (drawer.length:Int):=by omega
      have hfl:=fit_of hlg
      have big:(100000:Nat)≤maxLen:=by decide
      have z1:(1:Int)≤3∧(3:Int)≤4:=by decide
      have z3:(1:Int)≤1∧(1:Int)≤4:=by decide
      have z2:(0:Int)≤2∧(2:Int)≤6:=by decide
      have hok:=lg_ok (x:=nbS ns) (w:=0) z1 z3 z2
      obtain ⟨M,hM⟩:∃ L,lgL (nbS ns) 3 1 2 0=L:=⟨_,rfl⟩
      obtain ⟨y,hy⟩:∃ y,lgS (nbS ns) 3 1 2 0=y:=⟨_,rfl⟩
      rw [hM] at hok
      have hfM:=hok.fit
      have hc:=hok.c
      have wC:IntKind.wrap .i64 ((M.coins.length:Int) - 1)=(M.coins.length:Int) - 1:=wrap64 (by omega) (by omega)
      have u2:=upV_le (x:=y) (m:=(M.coins.length:Int) - 1) (by omega) (by omega)
      obtain ⟨c,hcc⟩:∃ c:Nat,upV y ((M.coins.length:Int) - 1)=(c:Int):=⟨(upV y ((M.coins.length:Int) - 1)).toNat,by omega⟩
      obtain ⟨y2,hy2⟩:∃ z,upS y ((M.coins.length:Int) - 1)=z:=⟨_,rfl⟩
      rw [hcc] at u2
      have cl:c < M.coins.length:=by omega
      obtain ⟨j,hj,hpc⟩:=hok.p _ (gMem (l:=M.coins) (k:=c) (d:=[]) cl)
      have hce:=coinE_ok hpc hj
      obtain ⟨ps,hP⟩:∃ ps,M.coins.getD c []=ps:=⟨_,rfl⟩
      rw [hP] at hpc hce
      have hps:=coin_ok hce
      have hpl:=hps.l
      obtain ⟨n,hn⟩:∃ n,ps.length=n:=⟨_,rfl⟩
      rw [hn] at hpl
      have n0:(0:Int)≤(n:Int)∧(n:Int)≤4:=by omega
      have f4:(0:Int)≤4∧(4:Int)≤4:=by decide
      have hn2:((n:Nat):Int).toNat=n:=Int.toNat_natCast n
      have a1:=dlS_len 4 y2 n
      obtain ⟨x1,hx1⟩:∃ d,(dlS 4 y2 n).2=d:=⟨_,rfl⟩
      obtain ⟨y3,hy3⟩:∃ d,(dlS 4 y2 n).1=d:=⟨_,rfl⟩
      rw [hx1] at a1
      obtain ⟨q,hq⟩:∃ A,upV y3 50=A:=⟨_,rfl⟩
      obtain ⟨y4,hy4⟩:∃ A,upS y3 50=A:=⟨_,rfl⟩
      obtain ⟨q2,hq2⟩:∃ A,upV y4 50=A:=⟨_,rfl⟩
      obtain ⟨y5,hy5⟩:∃ A,upS y4 50=A:=⟨_,rfl⟩
      repeat' (first|(apply nx;with_reducible constructor)|refine uq (by decide) ?_|((first|refine vz env fun Q hQ=>?_|refine vj fun Q hQ=>?_);simp only [vkt,Nat.reduceEqDiff,Nat.reduceAdd,Nat.reduceMul,Nat.reduceSub,Nat.reduceLeDiff,reduceCtorEq,↓reduceIte,↓reduceDIte,Int.reduceToNat,Int.reduceLE,Int.reduceLT,Int.reduceEq,Int.reduceNeg,tbN18_15,xbN18_1,cgT,p67,c69,dlS_len,hlg,ld',hM,hy,wC,hcc,hy2,hP,hn,hn2,hx1,hy3,hq,hy4,hq2,hy5];(try simp only [ite_and]);(repeat' (first|with_reducible assumption|refine And.intro ?_ ?_));all_goals (first|(refine hQ _ ?_;clear hQ Q)|(refine hQ _ (fun h=>?_) (fun h=>?_) <;> clear hQ Q <;> (try simp only [vki,reduceCtorEq] at h))|(refine vq ?_;kernel_rfl)|omega|with_reducible assumption|with_reducible rfl|skip)))
      obtain ⟨Ls,hLs⟩:∃ Ls,[l,M,M,M]=Ls:=⟨_,rfl⟩
      obtain ⟨cs,hcs⟩:∃ Ls,[w,(c:Int),w,(c:Int)]=Ls:=⟨_,rfl⟩
      obtain ⟨ds,hds⟩:∃ Ls,[drawer,x1,drawer,drawer]=Ls:=⟨_,rfl⟩
      obtain ⟨qs,hqs⟩:∃ Ls,[am,q,q2,am]=Ls:=⟨_,rfl⟩
      have hLf:∀ m ∈ Ls,Fit m:=fun m hm=>by
        rw [← hLs] at hm
        simp only [List.mem_cons,List.not_mem_nil,or_false] at hm
        rcases hm with rfl|rfl|rfl|rfl <;> assumption
      have hdl:∀ m ∈ ds,m.length≤20:=fun m hm=>by
        rw [← hds] at hm
        simp only [List.mem_cons,List.not_mem_nil,or_false] at hm
        rcases hm with rfl|rfl|rfl|rfl <;> omega
      have l1:Ls.length=4:=by rw [← hLs];rfl
      have l2:cs.length=4:=by rw [← hcs];rfl
      have l4:ds.length=4:=by rw [← hds];rfl
      have l5:qs.length=4:=by rw [← hqs];rfl
      refine sym_loop (fun k:{ k:Nat // k≤4 }=>cgT Ls cs ds qs k.1) (fun k=>4 - k.1) ⟨0,Nat.zero_le _⟩ ?_ fun ⟨k,hk⟩=>?_
      · (refine Le.ok (fun j=>some (j+3)) [] ?_;constructor;all_goals (try simp only [vle,vkt,Nat.reduceEqDiff,Nat.reduceAdd,Nat.reduceMul,Nat.reduceSub,Nat.reduceLeDiff,reduceCtorEq,↓reduceIte,↓reduceDIte,Int.reduceToNat,Int.reduceLE,Int.reduceLT,Int.reduceEq,Int.reduceNeg,tbN18_15,xbN18_1,cgT,p67,c69,dlS_len]))
        all_goals first|rfl|(simp [← hLs,← hcs,← hds,← hqs,eLed,eInt,eInts];done)|(intro i hi;omega)
      clear hLs hcs hds hqs hM hy hP hn hx1 hq hq2 hcc
      by_cases hlt:k < 4
      · have d1:decide ((k:Int) < ((4:Nat):Int))=true:=decide_eq_true (by omega)
        have e9:=wrap64 (n:=(k:Int)+1) (by omega) (by omega)
        have hm:=hLf _ (gMem (l:=Ls) (k:=k) (d:=default) (by omega))
        have hdk:=hdl _ (gMem (l:=ds) (k:=k) (d:=[]) (by omega))
        have g1:=gLed (l:=Ls) (n:=k) (by omega) []
        have g2:=gI0 (l:=cs) (n:=k) (by omega)
        have g4:=gIs1 (l:=ds) (n:=k) (by omega)
        have g5:=gI0 (l:=qs) (n:=k) (by omega)
        obtain ⟨m,hm1⟩:∃ m,Ls.getD k default=m:=⟨_,rfl⟩
        obtain ⟨c',hc1⟩:∃ m,cs.getD k 0=m:=⟨_,rfl⟩
        obtain ⟨d',hd1⟩:∃ m,ds.getD k []=m:=⟨_,rfl⟩
        obtain ⟨q',hq1⟩:∃ m,qs.getD k 0=m:=⟨_,rfl⟩
        rw [hm1] at hm g1
        rw [hc1] at g2
        rw [hd1] at g4 hdk
        rw [hq1] at g5
        have zn:∀ n:Int,decide (n=n)=true:=fun n=>decide_eq_true rfl
        have zi:∀ p:List Int,decide (p=p)=true:=fun n=>decide_eq_true rfl
        obtain ⟨x,e,hw,lx⟩:=aChg_form m c' q' hdk
        obtain ⟨y,e2,hw2,ly⟩:=aPieces_form m c' q'
        repeat' (first|(apply nx;with_reducible constructor)|refine uq (by decide) ?_|((first|refine vz env fun Q hQ=>?_|refine vj fun Q hQ=>?_);simp only [vkt,Nat.reduceEqDiff,Nat.reduceAdd,Nat.reduceMul,Nat.reduceSub,Nat.reduceLeDiff,reduceCtorEq,↓reduceIte,↓reduceDIte,Int.reduceToNat,Int.reduceLE,Int.reduceLT,Int.reduceEq,Int.reduceNeg,tbN18_15,xbN18_1,cgT,p67,c69,dlS_len,d1,l1,l2,l4,l5,g1,g2,g4,g5,hw,hw2,zn,zi,e9];(try simp only [ite_and]);(repeat' (first|with_reducible assumption|refine And.intro ?_ ?_));all_goals (first|(refine hQ _ ?_;clear hQ Q)|(refine hQ _ (fun h=>?_) (fun h=>?_) <;> clear hQ Q <;> (try simp only [vki,reduceCtorEq] at h))|(refine vq ?_;kernel_rfl)|omega|with_reducible assumption|with_reducible rfl|skip)))
        refine ⟨⟨k+1,hlt⟩,by show 4 - (k+1) < 4 - k;omega,?_⟩
        (refine Le.ok some [] ?_;constructor;all_goals (try simp only [vle,vkt,Nat.reduceEqDiff,Nat.reduceAdd,Nat.reduceMul,Nat.reduceSub,Nat.reduceLeDiff,reduceCtorEq,↓reduceIte,↓reduceDIte,Int.reduceToNat,Int.reduceLE,Int.reduceLT,Int.reduceEq,Int.reduceNeg,tbN18_15,xbN18_1,cgT,p67,c69,dlS_len]))
        all_goals first|rfl|(simp;done)
      · have d1:decide ((k:Int) < ((4:Nat):Int))=false:=decide_eq_false (by omega)
        repeat' (first|(apply nx;with_reducible constructor)|refine uq (by decide) ?_|((first|refine vz env fun Q hQ=>?_|refine vj fun Q hQ=>?_);simp only [vkt,Nat.reduceEqDiff,Nat.reduceAdd,Nat.reduceMul,Nat.reduceSub,Nat.reduceLeDiff,reduceCtorEq,↓reduceIte,↓reduceDIte,Int.reduceToNat,Int.reduceLE,Int.reduceLT,Int.reduceEq,Int.reduceNeg,tbN18_15,xbN18_1,cgT,p67,c69,dlS_len,d1,l1];(try simp only [ite_and]);(repeat' (first|with_reducible assumption|refine And.intro ?_ ?_));all_goals (first|(refine hQ _ ?_;clear hQ Q)|(refine hQ _ (fun h=>?_) (fun h=>?_) <;> clear hQ Q <;> (try simp only [vki,reduceCtorEq] at h))|(refine vq ?_;kernel_rfl)|omega|with_reducible assumption|with_reducible rfl|skip)))
        (simp only [vrt,Try.results15,vkt,Nat.reduceEqDiff,Nat.reduceAdd,Nat.reduceMul,Nat.reduceSub,Nat.reduceLeDiff,reduceCtorEq,↓reduceIte,↓reduceDIte,Int.reduceToNat,Int.reduceLE,Int.reduceLT,Int.reduceEq,Int.reduceNeg,tbN18_15,xbN18_1,cgT,p67,c69,dlS_len];refine Fin.val rfl ?_;(try simp only [AV.le,AV.leL]))
        all_goals first|rfl|(simp;done)
    case' neg =>
      have ld':(20:Int) < (drawer.length:Int):=by omega
      repeat' (first|(apply nx;with_reducible constructor)|refine uq (by decide) ?_|((first|refine vz env fun Q hQ=>?_|refine vj fun Q hQ=>?_);simp only [vkt,Nat.reduceEqDiff,Nat.reduceAdd,Nat.reduceMul,Nat.reduceSub,Nat.reduceLeDiff,reduceCtorEq,↓reduceIte,↓reduceDIte,Int.reduceToNat,Int.reduceLE,Int.reduceLT,Int.reduceEq,Int.reduceNeg,tbN18_15,xbN18_1,cgT,p67,c69,dlS_len,hlg,ld'];(try simp only [ite_and]);(repeat' (first|with_reducible assumption|refine And.intro ?_ ?_));all_goals (first|(refine hQ _ ?_;clear hQ Q)|(refine hQ _ (fun h=>?_) (fun h=>?_) <;> clear hQ Q <;> (try simp only [vki,reduceCtorEq] at h))|(refine vq ?_;kernel_rfl)|omega|with_reducible assumption|with_reducible rfl|skip)))
      (simp only [vrt,Try.results15,vkt,Nat.reduceEqDiff,Nat.reduceAdd,Nat.reduceMul,Nat.reduceSub,Nat.reduceLeDiff,reduceCtorEq,↓reduceIte,↓reduceDIte,Int.reduceToNat,Int.reduceLE,Int.reduceLT,Int.reduceEq,Int.reduceNeg,tbN18_15,xbN18_1,cgT,p67,c69,dlS_len];refine Fin.val rfl ?_;(try simp only [AV.le,AV.leL]))
      all_goals first|rfl|(simp;done)
  case' true =>
    repeat' (first|(apply nx;with_reducible constructor)|refine uq (by decide) ?_|((first|refine vz env fun Q hQ=>?_|refine vj fun Q hQ=>?_);simp only [vkt,Nat.reduceEqDiff,Nat.reduceAdd,Nat.reduceMul,Nat.reduceSub,Nat.reduceLeDiff,reduceCtorEq,↓reduceIte,↓reduceDIte,Int.reduceToNat,Int.reduceLE,Int.reduceLT,Int.reduceEq,Int.reduceNeg,tbN18_15,xbN18_1,cgT,p67,c69,dlS_len,hlg];(try simp only [ite_and]);(repeat' (first|with_reducible assumption|refine And.intro ?_ ?_));all_goals (first|(refine hQ _ ?_;clear hQ Q)|(refine hQ _ (fun h=>?_) (fun h=>?_) <;> clear hQ Q <;> (try simp only [vki,reduceCtorEq] at h))|(refine vq ?_;kernel_rfl)|omega|with_reducible assumption|with_reducible rfl|skip)))
    (simp only [vrt,Try.results15,vkt,Nat.reduceEqDiff,Nat.reduceAdd,Nat.reduceMul,Nat.reduceSub,Nat.reduceLeDiff,reduceCtorEq,↓reduceIte,↓reduceDIte,Int.reduceToNat,Int.reduceLE,Int.reduceLT,Int.reduceEq,Int.reduceNeg,tbN18_15,xbN18_1,cgT,p67,c69,dlS_len];refine Fin.val rfl ?_;(try simp only [AV.le,AV.leL]))
    all_goals first|rfl|(simp;done)
end Go.Sym.B
