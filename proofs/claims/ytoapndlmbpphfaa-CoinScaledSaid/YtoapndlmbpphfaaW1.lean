/- Walks and what they compute, joined: part 1. -/
import Derived.Test.YtoapndlmbpphfaaWB2
set_option linter.all false
namespace Go.Sym.B
open Go Go.Sym Go.Proofs Go.Sym.C
theorem _root_.Go.Sym.vj {a b:Prop} (x:a) (y:b):a∧b:=⟨x,y⟩
def _root_.Go.Sym.uq:=@blockK_miss
def _root_.Go.Sym.ux:=@blockK_hit
def _root_.Go.Sym.uz:=@blockK_n
def _root_.Go.Sym.uj:=@blockK_r
def _root_.Go.Sym.uk:=@thenK_x
def _root_.Go.Sym.uw:=@thenK_r
def _root_.Go.Sym.uv:=@thenK_n
def _root_.Go.Sym.vq:=@drawB_of
def _root_.Go.Sym.vx:=@sym_reg
def _root_.Go.Sym.vz:=@sym_cz
end Go.Sym.B
namespace Go.Sym.B
open Go Go.Sym Go.Proofs Go.Sym.C
def gcdI (a b:Int):Int:=((Nat.gcd a.natAbs b.toNat:Nat):Int)
def dvT (x y:Int):St:={ t:=asg [(0,aI x),(1,aI y),(4,aI 0)],h:=hasg [],n:=0 }
def tbH1_116:=vj @ty3 @ti3.eq_1
def xbH1_1:=vj @aI.eq_1 (vj @aB.eq_1 (@dvT.eq_1))
theorem divisor_fn (a b:Int) (hab:OfOk a b):FnV Try.prog 116 [aI a,aI b] (aI (gcdI a b)):=by
  have env:Env (fun _=>True) Try.prog tyB (tab []):=mkEnv trivial
  refine Fn.of (A:=fun _=>True) (n0:=0) (D:=noD) (Fn0 Try.func116 rfl (fun vs w=>by kernel_rfl) (by kernel_rfl)) (by simp) (by simp [AV.ids,aI]) (fun i o h=>by cases h) (fun _ _ _ _=>trivial) noD_ok ?_
  obtain ⟨ha,ha',hb,hb'⟩:=hab
  have hw:IntKind.wrap .i64 (0 - a)=-a:=by rw [wrap64 (by omega) (by omega)];omega
  by_cases c1:a < 0
  · repeat' (first|(apply nx;with_reducible constructor)|refine uq (by decide) ?_|((first|refine vx env fun Q hQ=>?_|refine vz fun Q hQ=>?_);simp only [vkt,seval,tbH1_116,xbH1_1,c1,hw];(try simp only [ite_and]);(repeat' (first|with_reducible assumption|refine And.intro ?_ ?_|intro hp));all_goals (first|(refine hQ _ ?_;clear hQ Q)|(refine hQ _ (fun h=>?_) (fun h=>?_) <;> clear hQ Q <;> (try simp only [vki,reduceCtorEq] at h))|omega|assumption|with_reducible rfl|(refine vq ?_;kernel_rfl)|skip)))
    refine sym_loop (ι:={ p:Int × Int // 0≤p.1∧0≤p.2∧Nat.gcd p.1.toNat p.2.toNat=Nat.gcd a.natAbs b.toNat }) (fun p=>dvT p.1.1 p.1.2) (fun p=>p.1.1.toNat) ⟨((-a),b),by show (0:Int)≤(-a);omega,by show (0:Int)≤b;omega,by show Nat.gcd ((-a)).toNat b.toNat=_;congr 1;omega⟩ ?_ fun ⟨(x,y),h1,h2,h3⟩=>?_
    · (refine Le.ok some [] ?_;constructor;all_goals (try simp only [vle,vkt,seval,tbH1_116,xbH1_1]))
      all_goals simp
    · dsimp only at h1 h2 h3
      repeat' (first|(apply nx;with_reducible constructor)|refine uq (by decide) ?_)
      (refine vx env fun Q hQ=>?_;simp only [vkt,seval,tbH1_116,xbH1_1];(try simp only [ite_and]);(repeat' (first|with_reducible assumption|refine And.intro ?_ ?_|intro hp));all_goals (first|(refine hQ _ ?_;clear hQ Q)|omega|assumption|with_reducible rfl|(refine vq ?_;kernel_rfl)|skip))
      repeat' (first|(apply nx;with_reducible constructor)|refine uq (by decide) ?_)
      (refine sym_cd (by simp only [vkt,seval,tbH1_116,xbH1_1];rfl) (fun h=>?_) (fun h=>?_) <;> (try simp only [vki,reduceCtorEq] at h))
      · have hx:0 < x:=by omega
        have nz:¬ x=0:=by omega
        have e1:=Int.emod_nonneg y (show x ≠ 0 by omega)
        have e2:=Int.emod_lt_of_pos y hx
        have e3:y.tmod x=y % x:=Int.tmod_eq_emod_of_nonneg h2
        repeat' (first|(apply nx;with_reducible constructor)|refine uq (by decide) ?_|((first|refine vx env fun Q hQ=>?_|refine vz fun Q hQ=>?_);simp only [vkt,seval,tbH1_116,xbH1_1,nz];(try simp only [ite_and]);(repeat' (first|with_reducible assumption|refine And.intro ?_ ?_|intro hp));all_goals (first|(refine hQ _ ?_;clear hQ Q)|(refine hQ _ (fun h=>?_) (fun h=>?_) <;> clear hQ Q <;> (try simp only [vki,reduceCtorEq] at h))|omega|assumption|with_reducible rfl|(refine vq ?_;kernel_rfl)|skip)))
        refine ⟨⟨(y.tmod x,x),by show (0:Int)≤y.tmod x;omega,h1, ?_⟩, ?_, ?_⟩
        · show Nat.gcd (y.tmod x).toNat x.toNat=_
          rw [← h3,e3,Int.toNat_emod h2 h1,Nat.gcd_comm x.toNat,Nat.gcd_comm,Nat.gcd_comm x.toNat,← Nat.gcd_rec,Nat.gcd_comm]
        · show (y.tmod x).toNat < x.toNat
          omega
        · (refine Le.ok some [] ?_;constructor;all_goals (try simp only [vle,vkt,seval,tbH1_116,xbH1_1]))
          all_goals simp
      · have hx:x=0:=by omega
        subst hx
        have hg:y=gcdI a b:=by unfold gcdI;rw [← h3];simp;omega
        subst hg
        repeat' (first|(apply nx;with_reducible constructor)|refine uq (by decide) ?_|((first|refine vx env fun Q hQ=>?_|refine vz fun Q hQ=>?_);simp only [vkt,seval,tbH1_116,xbH1_1];(try simp only [ite_and]);(repeat' (first|with_reducible assumption|refine And.intro ?_ ?_|intro hp));all_goals (first|(refine hQ _ ?_;clear hQ Q)|(refine hQ _ (fun h=>?_) (fun h=>?_) <;> clear hQ Q <;> (try simp only [vki,reduceCtorEq] at h))|omega|assumption|with_reducible rfl|(refine vq ?_;kernel_rfl)|skip)))
        (simp only [vrt,Try.results116,vkt,seval,tbH1_116,xbH1_1];refine Fin.val rfl ?_;(try simp only [AV.le,AV.leL]))
        all_goals first|rfl|simp
  · repeat' (first|(apply nx;with_reducible constructor)|refine uq (by decide) ?_|((first|refine vx env fun Q hQ=>?_|refine vz fun Q hQ=>?_);simp only [vkt,seval,tbH1_116,xbH1_1,c1];(try simp only [ite_and]);(repeat' (first|with_reducible assumption|refine And.intro ?_ ?_|intro hp));all_goals (first|(refine hQ _ ?_;clear hQ Q)|(refine hQ _ (fun h=>?_) (fun h=>?_) <;> clear hQ Q <;> (try simp only [vki,reduceCtorEq] at h))|omega|assumption|with_reducible rfl|(refine vq ?_;kernel_rfl)|skip)))
    refine sym_loop (ι:={ p:Int × Int // 0≤p.1∧0≤p.2∧Nat.gcd p.1.toNat p.2.toNat=Nat.gcd a.natAbs b.toNat }) (fun p=>dvT p.1.1 p.1.2) (fun p=>p.1.1.toNat) ⟨(a,b),by show (0:Int)≤a;omega,by show (0:Int)≤b;omega,by show Nat.gcd (a).toNat b.toNat=_;congr 1;omega⟩ ?_ fun ⟨(x,y),h1,h2,h3⟩=>?_
    · (refine Le.ok some [] ?_;constructor;all_goals (try simp only [vle,vkt,seval,tbH1_116,xbH1_1]))
      all_goals simp
    · dsimp only at h1 h2 h3
      repeat' (first|(apply nx;with_reducible constructor)|refine uq (by decide) ?_)
      (refine vx env fun Q hQ=>?_;simp only [vkt,seval,tbH1_116,xbH1_1];(try simp only [ite_and]);(repeat' (first|with_reducible assumption|refine And.intro ?_ ?_|intro hp));all_goals (first|(refine hQ _ ?_;clear hQ Q)|omega|assumption|with_reducible rfl|(refine vq ?_;kernel_rfl)|skip))
      repeat' (first|(apply nx;with_reducible constructor)|refine uq (by decide) ?_)
      (refine sym_cd (by simp only [vkt,seval,tbH1_116,xbH1_1];rfl) (fun h=>?_) (fun h=>?_) <;> (try simp only [vki,reduceCtorEq] at h))
      · have hx:0 < x:=by omega
        have nz:¬ x=0:=by omega
        have e1:=Int.emod_nonneg y (show x ≠ 0 by omega)
        have e2:=Int.emod_lt_of_pos y hx
        have e3:y.tmod x=y % x:=Int.tmod_eq_emod_of_nonneg h2
        repeat' (first|(apply nx;with_reducible constructor)|refine uq (by decide) ?_|((first|refine vx env fun Q hQ=>?_|refine vz fun Q hQ=>?_);simp only [vkt,seval,tbH1_116,xbH1_1,nz];(try simp only [ite_and]);(repeat' (first|with_reducible assumption|refine And.intro ?_ ?_|intro hp));all_goals (first|(refine hQ _ ?_;clear hQ Q)|(refine hQ _ (fun h=>?_) (fun h=>?_) <;> clear hQ Q <;> (try simp only [vki,reduceCtorEq] at h))|omega|assumption|with_reducible rfl|(refine vq ?_;kernel_rfl)|skip)))
        refine ⟨⟨(y.tmod x,x),by show (0:Int)≤y.tmod x;omega,h1, ?_⟩, ?_, ?_⟩
        · show Nat.gcd (y.tmod x).toNat x.toNat=_
          rw [← h3,e3,Int.toNat_emod h2 h1,Nat.gcd_comm x.toNat,Nat.gcd_comm,Nat.gcd_comm x.toNat,← Nat.gcd_rec,Nat.gcd_comm]
        · show (y.tmod x).toNat < x.toNat
          omega
        · (refine Le.ok some [] ?_;constructor;all_goals (try simp only [vle,vkt,seval,tbH1_116,xbH1_1]))
          all_goals simp
      · have hx:x=0:=by omega
        subst hx
        have hg:y=gcdI a b:=by unfold gcdI;rw [← h3];simp;omega
        subst hg
        repeat' (first|(apply nx;with_reducible constructor)|refine uq (by decide) ?_|((first|refine vx env fun Q hQ=>?_|refine vz fun Q hQ=>?_);simp only [vkt,seval,tbH1_116,xbH1_1];(try simp only [ite_and]);(repeat' (first|with_reducible assumption|refine And.intro ?_ ?_|intro hp));all_goals (first|(refine hQ _ ?_;clear hQ Q)|(refine hQ _ (fun h=>?_) (fun h=>?_) <;> clear hQ Q <;> (try simp only [vki,reduceCtorEq] at h))|omega|assumption|with_reducible rfl|(refine vq ?_;kernel_rfl)|skip)))
        (simp only [vrt,Try.results116,vkt,seval,tbH1_116,xbH1_1];refine Fin.val rfl ?_;(try simp only [AV.le,AV.leL]))
        all_goals first|rfl|simp
def s116:List AV→Prop × AV
  |[.v (.int .i64 a),.v (.int .i64 b)]=>(OfOk a b,aI (gcdI a b))
  |_=>(False,.junk)
theorem e116 {A:Frm→Prop}:EntryOK A Try.prog 116 (valE true s116):=valE_ok fun vs _ h=>by
  unfold s116 at h ⊢
  split at h
  · exact ⟨by simp [AV.plain,aI],fun _=>by simp [AV.flat,aI],divisor_fn _ _ h⟩
  · exact h.elim
def tbH1_55:=vj @ty3 (vj @ty59 (vj @ti3.eq_1 @ti59.eq_1))
def xbH1_2:=vj @aI.eq_1 (vj @aB.eq_1 (vj @aSh.eq_1 (vj @shQ.eq_1 (vj @s116.eq_1 (@s116.eq_2)))))
theorem rof_fn (a b:Int) (hab:OfOk a b):FnV Try.prog 55 [aI a,aI b] (aSh (shQ (mkRat a b.toNat))):=by
  have env:Env (fun _=>True) Try.prog tyB (tab [(116,valE true s116)]):=mkEnv ⟨e116,trivial⟩
  refine Fn.of (A:=fun _=>True) (n0:=0) (D:=noD) (Fn0 Try.func55 rfl (fun vs w=>by kernel_rfl) (by kernel_rfl)) (by simp) (by simp [AV.ids,aI]) (fun i o h=>by cases h) (fun _ _ _ _=>trivial) noD_ok ?_
  obtain ⟨ha,ha',hb,hb'⟩:=id hab
  have nz:¬ gcdI a b=0:=by
    have:=Nat.gcd_pos_of_pos_right a.natAbs (show 0 < b.toNat by omega)
    unfold gcdI;omega
  have w1:=tdiv_fit (x:=gcdI a b) ha ha'
  have w2:=tdiv_fit (x:=gcdI a b) (show -9223372036854775808 < b by omega) hb'
  repeat' (first|(apply nx;with_reducible constructor)|refine uq (by decide) ?_|((first|refine vx env fun Q hQ=>?_|refine vz fun Q hQ=>?_);simp only [vkt,seval,tbH1_55,xbH1_2,nz,w1,w2];(try simp only [ite_and]);(repeat' (first|with_reducible assumption|refine And.intro ?_ ?_|intro hp));all_goals (first|(refine hQ _ ?_;clear hQ Q)|(refine hQ _ (fun h=>?_) (fun h=>?_) <;> clear hQ Q <;> (try simp only [vki,reduceCtorEq] at h))|omega|assumption|with_reducible rfl|(refine vq ?_;kernel_rfl)|skip)))
  (simp only [vrt,Try.results55,vkt,seval,tbH1_55,xbH1_2];refine Fin.val rfl ?_;(try simp only [AV.le,AV.leL]))
  rw [mk_num hb,mk_den hb]
  simp [gcdI]
theorem e55 {A:Frm→Prop}:EntryOK A Try.prog 55 (valE true s139):=valE_ok fun vs _ h=>by
  unfold s139 at h ⊢
  split at h
  · exact ⟨by simp [AV.plain,AV.plainL,aSh],fun _=>by simp [AV.flat,AV.flatL,aSh],rof_fn _ _ h⟩
  · exact h.elim
def xbH1_3:=vj @aI.eq_1 (vj @aB.eq_1 (vj @aSh.eq_1 (vj @shQ.eq_1 (vj @s139.eq_1 (vj @s139.eq_2 (vj @isQ_q (@qI_q)))))))
def tbH1_56:=vj @ty3 (vj @ty59 (vj @ti3.eq_1 @ti59.eq_1))
theorem rtimes_fn (q:Rat) (n:Int) (hq:Tm q n):FnV Try.prog 56 [aSh (shQ q),aI n] (aSh (shQ (q * (n:Rat)))):=by
  have env:Env (fun _=>True) Try.prog tyB (tab [(55,valE true s139)]):=mkEnv ⟨e55,trivial⟩
  refine Fn.of (A:=fun _=>True) (n0:=0) (D:=noD) (Fn0 Try.func56 rfl (fun vs w=>by kernel_rfl) (by kernel_rfl)) (by simp) (by simp [AV.ids,AV.idsL,aSh,aI]) (fun i o h=>by cases h) (fun _ _ _ _=>trivial) noD_ok ?_
  obtain ⟨hq,hn,hn'⟩:=hq
  have b1:-1152921504606846976≤q.num * n∧q.num * n≤1152921504606846976:=mul_bd' hq.1 hq.2.1 hn hn'
  have b2:=den_pos q
  have b3:(q.den:Int)≤1048576:=Int.ofNat_le.2 hq.2.2
  have w1:=wrap64 (n:=q.num * n) (by omega) (by omega)
  have w2:=mul_mk q n
  have w5:OfOk (q.num * n) (q.den:Int):=⟨by omega,by omega,by omega,by omega⟩
  repeat' (first|(apply nx;with_reducible constructor)|refine uq (by decide) ?_|((first|refine vx env fun Q hQ=>?_|refine vz fun Q hQ=>?_);simp only [vkt,seval,tbH1_56,xbH1_3,w1,w2];(try simp only [ite_and]);(repeat' (first|with_reducible assumption|refine And.intro ?_ ?_|intro hp));all_goals (first|(refine hQ _ ?_;clear hQ Q)|(refine hQ _ (fun h=>?_) (fun h=>?_) <;> clear hQ Q <;> (try simp only [vki,reduceCtorEq] at h))|omega|assumption|with_reducible rfl|(refine vq ?_;kernel_rfl)|skip)))
  (simp only [vrt,Try.results56,← mul_mk,vkt,seval,tbH1_56,xbH1_3];refine Fin.val rfl ?_;(try simp only [AV.le,AV.leL]))
  simp
theorem e56 {A:Frm→Prop}:EntryOK A Try.prog 56 (valE true s99):=valE_ok fun vs _ h=>by
  unfold s99 at h ⊢
  split at h
  · refine ⟨by simp [AV.plain,AV.plainL,aSh],fun _=>by simp [AV.flat,AV.flatL,aSh], ?_⟩
    rw [← shQ_of h.1]
    exact rtimes_fn _ _ h.2
  · exact h.elim
def c105:List AV→Prop × AV
  |[.agg [.sl cs,.sl rs,.sl ss,.sl es],.v (.int .i64 d),.v (.int .i64 c),.v (.int .i64 n)]=>(isL cs rs ss es∧Rt (ldOf cs rs ss es) d c∧-300000≤n∧n≤300000,aSh (shQ (rq (ldOf cs rs ss es) d c * (n:Rat))))
  |_=>(False,.junk)
end Go.Sym.B
namespace Go.Sym.B
open Go Go.Sym Go.Proofs Go.Sym.C
end Go.Sym.B
namespace Go.Sym.B
open Go Go.Sym Go.Proofs Go.Sym.C
end Go.Sym.B
namespace Go.Sym.B
open Go Go.Sym Go.Proofs Go.Sym.C
def worthE (l:Led) (d c n:Int):Int:=if checkE l ≠ 0 then checkE l else if !inB d 0 ((l.rates.length:Int) - 1) then 3 else if !inB c 0 ((l.coins.length:Int) - 1) then 3 else if !inB n 0 999 then 1 else 0
def aWorth (l:Led) (d c n:Int):AV:=if worthE l d c n ≠ 0 then .tup [aSh ⟨0,0⟩,aI (worthE l d c n)] else .tup [aSh (shQ (rq l d c * (n:Rat))),aI 0]
theorem worth_ok {l:Led} {d c n:Int} (h:worthE l d c n=0):Val l∧Rt l d c∧0≤n∧n≤999:=by
  unfold worthE at h
  split at h
  · rename_i h1;exact absurd h h1
  rename_i h1
  split at h
  · exact absurd h (by decide)
  rename_i h2
  split at h
  · exact absurd h (by decide)
  rename_i h3
  split at h
  · exact absurd h (by decide)
  rename_i h4
  have hV:=val_of (Decidable.not_not.1 h1)
  have nf:∀ {p:Bool},¬ (!p)=true→p=true:=fun h=>by simpa using h
  have g2:=inB_iff.1 (nf h2)
  have g3:=inB_iff.1 (nf h3)
  have g4:=inB_iff.1 (nf h4)
  exact ⟨hV,val_rt hV g2.1 g2.2 g3.1 g3.2,g4.1,g4.2⟩
def cWorth:List AV→Prop × AV
  |[.agg [.sl cs,.sl rs,.sl ss,.sl es],.v (.int .i64 d),.v (.int .i64 c),.v (.int .i64 n)]=>(isL cs rs ss es∧Fit (ldOf cs rs ss es),aWorth (ldOf cs rs ss es) d c n)
  |_=>(False,.junk)
theorem aWorth_plain (l:Led) (d c n:Int):(aWorth l d c n).plain∧(aWorth l d c n).flat:=by
  unfold aWorth;split <;> simp [AV.plain,AV.plainL,AV.flat,AV.flatL,aI,aSh]
def tbH4_46:=vj @ty3 (vj @ty22 (vj @ty28 (vj @ty30 (vj @ty35 (vj @ty38 (vj @ty55 (vj @ty59 (vj @ti3.eq_1 (vj @ti22.eq_1 (vj @ti28.eq_1 (vj @ti30.eq_1 (vj @ti35.eq_1 (vj @ti38.eq_1 (vj @ti55.eq_1 @ti59.eq_1))))))))))))))
def xbH4_2:=vj @aI.eq_1 (vj @aB.eq_1 (vj @aLed.eq_1 (vj @cLed.eq_1 (vj @aSh.eq_1 (vj @shQ.eq_1 (vj @c50.eq_1 (vj @c50.eq_2 (vj @s79.eq_1 (vj @s79.eq_2 (vj @c98.eq_1 (vj @c98.eq_2 (vj @s99.eq_1 (vj @s99.eq_2 (vj @c105.eq_1 (vj @c105.eq_2 (vj @isL_e (vj @ldOf_e (vj @isQ_q (@qI_q)))))))))))))))))))
theorem pworth_fn (l:Led) (d c n:Int) (hl:Fit l):FnV Try.prog 46 [aLed l,aI d,aI c,aI n] (aWorth l d c n):=by
  have env:Env (fun _=>True) Try.prog tyB (tab [(50,valE true c50),(79,valE true s79),(98,valE true c98),(99,valE true s99)]):=mkEnv ⟨d50,e79,d98,e99,trivial⟩
  refine Fn.of (A:=fun _=>True) (n0:=0) (D:=noD) (Fn0 Try.func46 rfl (fun vs w=>by kernel_rfl) (by kernel_rfl)) (by simp) (by simp [AV.ids,AV.idsL,aLed,cLed,aI]) (fun i o h=>by cases h) (fun _ _ _ _=>trivial) noD_ok ?_
  have q1:=hl.c
  have q2:=hl.r
  have w1:IntKind.wrap .i64 ((l.rates.length:Int) - 1)=(l.rates.length:Int) - 1:=wrap64 (by omega) (by omega)
  have w2:IntKind.wrap .i64 ((l.coins.length:Int) - 1)=(l.coins.length:Int) - 1:=wrap64 (by omega) (by omega)
  by_cases hw:worthE l d c n=0
  · obtain ⟨hV,hR,n0,n1⟩:=worth_ok hw
    rw [show aWorth l d c n=_ from if_neg (by rw [hw];simp)]
    unfold worthE at hw
    split at hw
    · rename_i h1;exact absurd hw h1
    rename_i c0
    have c0:=Decidable.not_not.1 c0
    split at hw
    · exact absurd hw (by decide)
    rename_i c1
    split at hw
    · exact absurd hw (by decide)
    rename_i c2
    split at hw
    · exact absurd hw (by decide)
    rename_i c3
    have nf:∀ {p:Bool},¬ (!p)=true→p=true:=fun h=>by simpa using h
    have c1:=nf c1
    have c2:=nf c2
    have c3:=nf c3
    have g1:=tm_of (rt_bd hR) (show -100000≤n by omega) (by omega)
    have g2:-300000≤n∧n≤300000:=by omega
    repeat' (first|(apply nx;with_reducible constructor)|refine uq (by decide) ?_|((first|refine vx env fun Q hQ=>?_|refine vz fun Q hQ=>?_);simp only [vkt,seval,tbH4_46,xbH4_2,w1,w2,c0,c1,c2,c3];(try simp only [ite_and]);(repeat' (first|with_reducible assumption|refine And.intro ?_ ?_|intro hp));all_goals (first|(refine hQ _ ?_;clear hQ Q)|(refine hQ _ (fun h=>?_) (fun h=>?_) <;> clear hQ Q <;> (try simp only [vki,reduceCtorEq] at h))|omega|assumption|with_reducible rfl|(refine vq ?_;kernel_rfl)|skip)))
    (simp only [vrt,Try.results46,vkt,seval,tbH4_46,xbH4_2];refine Fin.val rfl ?_;(try simp only [AV.le,AV.leL]))
    all_goals first|rfl|(simp;done)|exact ⟨⟨rfl,rfl,trivial⟩,rfl,trivial⟩
  · rw [show aWorth l d c n=_ from if_pos hw]
    by_cases c0:checkE l=0
    · cases c1:inB d 0 ((l.rates.length:Int) - 1)
      · repeat' (first|(apply nx;with_reducible constructor)|refine uq (by decide) ?_|((first|refine vx env fun Q hQ=>?_|refine vz fun Q hQ=>?_);simp only [vkt,seval,tbH4_46,xbH4_2,w1,w2,c0,c1];(try simp only [ite_and]);(repeat' (first|with_reducible assumption|refine And.intro ?_ ?_|intro hp));all_goals (first|(refine hQ _ ?_;clear hQ Q)|(refine hQ _ (fun h=>?_) (fun h=>?_) <;> clear hQ Q <;> (try simp only [vki,reduceCtorEq] at h))|omega|assumption|with_reducible rfl|(refine vq ?_;kernel_rfl)|skip)))
        (simp only [vrt,Try.results46,vkt,seval,tbH4_46,xbH4_2];refine Fin.val rfl ?_;(try simp only [AV.le,AV.leL]))
        all_goals simp [worthE, *]
      cases c2:inB c 0 ((l.coins.length:Int) - 1)
      · repeat' (first|(apply nx;with_reducible constructor)|refine uq (by decide) ?_|((first|refine vx env fun Q hQ=>?_|refine vz fun Q hQ=>?_);simp only [vkt,seval,tbH4_46,xbH4_2,w1,w2,c0,c1,c2];(try simp only [ite_and]);(repeat' (first|with_reducible assumption|refine And.intro ?_ ?_|intro hp));all_goals (first|(refine hQ _ ?_;clear hQ Q)|(refine hQ _ (fun h=>?_) (fun h=>?_) <;> clear hQ Q <;> (try simp only [vki,reduceCtorEq] at h))|omega|assumption|with_reducible rfl|(refine vq ?_;kernel_rfl)|skip)))
        (simp only [vrt,Try.results46,vkt,seval,tbH4_46,xbH4_2];refine Fin.val rfl ?_;(try simp only [AV.le,AV.leL]))
        all_goals simp [worthE, *]
      cases c3:inB n 0 999
      · repeat' (first|(apply nx;with_reducible constructor)|refine uq (by decide) ?_|((first|refine vx env fun Q hQ=>?_|refine vz fun Q hQ=>?_);simp only [vkt,seval,tbH4_46,xbH4_2,w1,w2,c0,c1,c2,c3];(try simp only [ite_and]);(repeat' (first|with_reducible assumption|refine And.intro ?_ ?_|intro hp));all_goals (first|(refine hQ _ ?_;clear hQ Q)|(refine hQ _ (fun h=>?_) (fun h=>?_) <;> clear hQ Q <;> (try simp only [vki,reduceCtorEq] at h))|omega|assumption|with_reducible rfl|(refine vq ?_;kernel_rfl)|skip)))
        (simp only [vrt,Try.results46,vkt,seval,tbH4_46,xbH4_2];refine Fin.val rfl ?_;(try simp only [AV.le,AV.leL]))
        all_goals simp [worthE, *]
      exact absurd (by simp [worthE, *]) hw
    · repeat' (first|(apply nx;with_reducible constructor)|refine uq (by decide) ?_|((first|refine vx env fun Q hQ=>?_|refine vz fun Q hQ=>?_);simp only [vkt,seval,tbH4_46,xbH4_2,w1,w2,c0];(try simp only [ite_and]);(repeat' (first|with_reducible assumption|refine And.intro ?_ ?_|intro hp));all_goals (first|(refine hQ _ ?_;clear hQ Q)|(refine hQ _ (fun h=>?_) (fun h=>?_) <;> clear hQ Q <;> (try simp only [vki,reduceCtorEq] at h))|omega|assumption|with_reducible rfl|(refine vq ?_;kernel_rfl)|skip)))
      (simp only [vrt,Try.results46,vkt,seval,tbH4_46,xbH4_2];refine Fin.val rfl ?_;(try simp only [AV.le,AV.leL]))
      all_goals simp [worthE,c0]
theorem d46 {A:Frm→Prop}:EntryOK A Try.prog 46 (valE true cWorth):=valE_ok fun vs hv h=>by
  clear hv
  unfold cWorth at h ⊢
  split at h
  · refine ⟨(aWorth_plain _ _ _ _).1,fun _=>(aWorth_plain _ _ _ _).2, ?_⟩
    rw [← aLed_of h.1];exact pworth_fn _ _ _ _ h.2
  · exact h.elim
end Go.Sym.B
namespace Go.Sym.B
open Go Go.Sym Go.Proofs Go.Sym.C
end Go.Sym.B
namespace Go.Sym.B
open Go Go.Sym Go.Proofs Go.Sym.C
def bgH (x:Int):List (Nat × AObj):=[(0,.cells [.v (.int .u64 x)])]
def xsh (s:Int) (k:Nat):Int:=IntKind.u64.wrap (BitVec.ofInt IntKind.u64.bits s ^^^ BitVec.ofInt IntKind.u64.bits (s.fdiv (2 ^ min k IntKind.u64.bits))).toNat
def nxS (x:Int):Int:=IntKind.u64.wrap (IntKind.u64.wrap (x * 2862933555777941757)+3037000493)
def nxV (x:Int):Int:=xsh (IntKind.u64.wrap (xsh (nxS x) 31 * 10723151780598845931)) 30
def tbG2_77:=vj @ty95 (vj @ty97 (vj @ti95.eq_1 @ti97.eq_1))
def xbG2_1:=vj @aI.eq_1 (vj @aB.eq_1 (@bgH.eq_1))
theorem next_fn (x:Int):Fn noB Try.prog 77 [.ptr 0 0] (hasg (bgH x)) (.v (.int .u64 (nxV x))) (hasg (bgH (nxS x))) 0:=by
  have env:Env (fun _=>True) Try.prog tyB (tab []):=mkEnv trivial
  refine Fn.of (A:=fun _=>True) (n0:=1) (D:=noD) (Fn0 Try.func77 rfl (fun vs w=>by kernel_rfl) (by kernel_rfl)) (by simp) (by simp [AV.ids]) ?_ (fun _ _ _ _=>trivial) noD_ok ?_
  · intro i o hi
    have h:=hasg_mem hi
    simp [bgH] at h
    rcases h with ⟨rfl,rfl⟩;simp [AObj.ids,AV.ids,AV.idsL]
  repeat' (first|(apply nx;with_reducible constructor)|refine uq (by decide) ?_|((first|refine vx env fun Q hQ=>?_|refine vz fun Q hQ=>?_);simp only [vkt,seval,tbG2_77,xbG2_1];(try simp only [ite_and]);(repeat' (first|with_reducible assumption|refine And.intro ?_ ?_|intro hp));all_goals (first|(refine hQ _ ?_;clear hQ Q)|(refine hQ _ (fun h=>?_) (fun h=>?_) <;> clear hQ Q <;> (try simp only [vki,reduceCtorEq] at h))|omega|assumption|with_reducible rfl|(refine vq ?_;kernel_rfl)|skip)))
  (simp only [vrt,Try.results77,vkt,seval,tbG2_77,xbG2_1];refine Fin.ok some [] ?_ ?_ ?_ ?_ ?_ rfl;all_goals (try simp only [vle,vkt,seval,tbG2_77,xbG2_1]))
  all_goals rfl
def p77 (S:St):List AV→Option Pk
  |[.ptr i 0]=>match S.h i with
    |some (.cells [.v (.int .u64 x)])=>some { hs:=[i],ar:=[.ptr 0 0],L0:=[.cells [.v (.int .u64 x)]],v:=.v (.int .u64 (nxV x)),L1:=[some (.cells [.v (.int .u64 (nxS x))])] }
    |_=>none
  |_=>none
theorem e77 {A:Frm→Prop}:EntryOK A Try.prog 77 (fnE p77):=fnE_ok fun S bs q h hp=>by
  unfold p77 at h
  split at h
  · split at h
    · cases h;exact next_fn _
    · cases h
  · cases h
def upV0 (x m:Int):Int:=if m < 1 then 0 else IntKind.i64.wrap (((nxV x).fdiv (2 ^ min 13 IntKind.u64.bits)).tmod (IntKind.u64.wrap (IntKind.i64.wrap (m+1))))
def upS0 (x m:Int):Int:=if m < 1 then x else nxS x
theorem up_ex:∃ f:Int→Int→Int × Int,∀ x m,f x m=(upV0 x m,upS0 x m):=⟨fun x m=>(upV0 x m,upS0 x m),fun _ _=>rfl⟩
noncomputable def upV (x m:Int):Int:=(Classical.choose up_ex x m).1
noncomputable def upS (x m:Int):Int:=(Classical.choose up_ex x m).2
theorem upV_eq (x m:Int):upV x m=upV0 x m:=by unfold upV;rw [Classical.choose_spec up_ex]
theorem upS_eq (x m:Int):upS x m=upS0 x m:=by unfold upS;rw [Classical.choose_spec up_ex]
theorem wrapU2 {n:Int} (h0:0≤n) (h1:n < 18446744073709551616):IntKind.u64.wrap n=n:=by
  unfold IntKind.wrap
  simp only [IntKind.bits,IntKind.signed]
  simp
  omega
theorem wrapU_nn (n:Int):0≤IntKind.u64.wrap n:=by
  unfold IntKind.wrap
  simp only [IntKind.bits,IntKind.signed]
  simp
  omega
theorem upV_bd {x m:Int} (h:m < 9223372036854775807):0≤upV x m∧(upV x m≤m∨upV x m=0):=by
  rw [upV_eq]
  unfold upV0
  split
  · exact ⟨Int.le_refl _,.inr rfl⟩
  · have h1:IntKind.i64.wrap (m+1)=m+1:=wrap64 (by omega) (by omega)
    have h2:IntKind.u64.wrap (m+1)=m+1:=wrapU2 (by omega) (by omega)
    rw [h1,h2]
    have h3:0≤(nxV x).fdiv (2 ^ min 13 IntKind.u64.bits):=Int.fdiv_nonneg (by unfold nxV xsh;exact wrapU_nn _) (by decide)
    rw [Int.tmod_eq_emod_of_nonneg h3]
    have h4:=Int.emod_nonneg ((nxV x).fdiv (2 ^ min 13 IntKind.u64.bits)) (show m+1 ≠ 0 by omega)
    have h5:=Int.emod_lt_of_pos ((nxV x).fdiv (2 ^ min 13 IntKind.u64.bits)) (show 0 < m+1 by omega)
    rw [wrap64 (by omega) (by omega)]
    omega
def tbG2_22:=vj @ty3 (vj @ty95 (vj @ti3.eq_1 @ti95.eq_1))
def xbG2_2:=vj @aI.eq_1 (vj @aB.eq_1 (vj @bgH.eq_1 (vj @p77.eq_1 (@p77.eq_2))))
theorem up_fn (x m:Int) (h:m < 9223372036854775807):Fn noB Try.prog 22 [.ptr 0 0,aI m] (hasg (bgH x)) (aI (upV x m)) (hasg (bgH (upS x m))) 0:=by
  have env:Env (fun _=>True) Try.prog tyB (tab [(77,fnE p77)]):=mkEnv ⟨e77,trivial⟩
  refine Fn.of (A:=fun _=>True) (n0:=1) (D:=noD) (Fn0 Try.func22 rfl (fun vs w=>by kernel_rfl) (by kernel_rfl)) (by simp) (by simp [AV.ids,AV.idsL,aI]) ?_ (fun _ _ _ _=>trivial) noD_ok ?_
  · intro i o hi
    have h:=hasg_mem hi
    simp [bgH] at h
    rcases h with ⟨rfl,rfl⟩;simp [AObj.ids,AV.ids,AV.idsL]
  rw [upV_eq,upS_eq]
  by_cases c1:m < 1
  · rw [show upV0 x m=0 from if_pos c1,show upS0 x m=x from if_pos c1]
    repeat' (first|(apply nx;with_reducible constructor)|refine uq (by decide) ?_|((first|refine vx env fun Q hQ=>?_|refine vz fun Q hQ=>?_);simp only [vkt,seval,tbG2_22,xbG2_2,c1];(try simp only [ite_and]);(repeat' (first|with_reducible assumption|refine And.intro ?_ ?_|intro hp));all_goals (first|(refine hQ _ ?_;clear hQ Q)|(refine hQ _ (fun h=>?_) (fun h=>?_) <;> clear hQ Q <;> (try simp only [vki,reduceCtorEq] at h))|omega|assumption|with_reducible rfl|(refine vq ?_;kernel_rfl)|skip)))
    (simp only [vrt,Try.results22,vkt,seval,tbG2_22,xbG2_2];refine Fin.ok some [] ?_ ?_ ?_ ?_ ?_ rfl;all_goals (try simp only [vle,vkt,seval,tbG2_22,xbG2_2]))
    all_goals simp
  · rw [show upV0 x m=_ from if_neg c1,show upS0 x m=_ from if_neg c1]
    have h1:IntKind.i64.wrap (m+1)=m+1:=wrap64 (by omega) (by omega)
    have h2:IntKind.u64.wrap (m+1)=m+1:=wrapU2 (by omega) (by omega)
    have h0:¬ m+1=0:=by omega
    repeat' (first|(apply nx;with_reducible constructor)|refine uq (by decide) ?_|((first|refine vx env fun Q hQ=>?_|refine vz fun Q hQ=>?_);simp only [vkt,seval,tbG2_22,xbG2_2,c1,h1,h2,h0];(try simp only [ite_and]);(repeat' (first|with_reducible assumption|refine And.intro ?_ ?_|intro hp));all_goals (first|(refine hQ _ ?_;clear hQ Q)|(refine hQ _ (fun h=>?_) (fun h=>?_) <;> clear hQ Q <;> (try simp only [vki,reduceCtorEq] at h))|omega|assumption|with_reducible rfl|(refine vq ?_;kernel_rfl)|skip)))
    (simp only [vrt,Try.results22,vkt,seval,tbG2_22,xbG2_2];refine Fin.ok some [] ?_ ?_ ?_ ?_ ?_ rfl;all_goals (try simp only [vle,vkt,seval,tbG2_22,xbG2_2]))
    all_goals (first|rfl|rw [h1,h2])
noncomputable def p22 (S:St):List AV→Option Pk
  |[.ptr i 0,.v (.int .i64 m)]=>match S.h i with
    |some (.cells [.v (.int .u64 x)])=>some { pre:=m < 9223372036854775807,hs:=[i],ar:=[.ptr 0 0,.v (.int .i64 m)],L0:=[.cells [.v (.int .u64 x)]],v:=.v (.int .i64 (upV x m)),L1:=[some (.cells [.v (.int .u64 (upS x m))])] }
    |_=>none
  |_=>none
theorem e22 {A:Frm→Prop}:EntryOK A Try.prog 22 (fnE p22):=fnE_ok fun S bs q h hp=>by
  unfold p22 at h
  split at h
  · split at h
    · cases h;exact up_fn _ _ hp
    · cases h
  · cases h
def tbG2_21:=vj @ty3 @ti3.eq_1
def xbG2_3:=vj @aI.eq_1 (vj @aB.eq_1 (vj @bgH.eq_1 (vj @p22.eq_1 (@p22.eq_2))))
theorem from_fn (x a b:Int) (h:-100000≤a∧a≤100000∧-100000≤b∧b≤100000):Fn noB Try.prog 21 [.ptr 0 0,aI a,aI b] (hasg (bgH x)) (aI (a+upV x (b - a))) (hasg (bgH (upS x (b - a)))) 0:=by
  have env:Env (fun _=>True) Try.prog tyB (tab [(22,fnE p22)]):=mkEnv ⟨e22,trivial⟩
  refine Fn.of (A:=fun _=>True) (n0:=1) (D:=noD) (Fn0 Try.func21 rfl (fun vs w=>by kernel_rfl) (by kernel_rfl)) (by simp) (by simp [AV.ids,AV.idsL,aI]) ?_ (fun _ _ _ _=>trivial) noD_ok ?_
  · intro i o hi
    have h:=hasg_mem hi
    simp [bgH] at h
    rcases h with ⟨rfl,rfl⟩;simp [AObj.ids,AV.ids,AV.idsL]
  have b1:=upV_bd (x:=x) (m:=b - a) (by omega)
  have h1:IntKind.i64.wrap (b - a)=b - a:=wrap64 (by omega) (by omega)
  have h2:IntKind.i64.wrap (a+upV x (b - a))=a+upV x (b - a):=wrap64 (by omega) (by omega)
  have h3:b - a < 9223372036854775807:=by omega
  repeat' (first|(apply nx;with_reducible constructor)|refine uq (by decide) ?_|((first|refine vx env fun Q hQ=>?_|refine vz fun Q hQ=>?_);simp only [vkt,seval,tbG2_21,xbG2_3,h1,h2];(try simp only [ite_and]);(repeat' (first|with_reducible assumption|refine And.intro ?_ ?_|intro hp));all_goals (first|(refine hQ _ ?_;clear hQ Q)|(refine hQ _ (fun h=>?_) (fun h=>?_) <;> clear hQ Q <;> (try simp only [vki,reduceCtorEq] at h))|omega|assumption|with_reducible rfl|(refine vq ?_;kernel_rfl)|skip)))
  (simp only [vrt,Try.results21,vkt,seval,tbG2_21,xbG2_3];refine Fin.ok some [] ?_ ?_ ?_ ?_ ?_ rfl;all_goals (try simp only [vle,vkt,seval,tbG2_21,xbG2_3]))
  all_goals rfl
noncomputable def p21 (S:St):List AV→Option Pk
  |[.ptr i 0,.v (.int .i64 a),.v (.int .i64 b)]=>match S.h i with
    |some (.cells [.v (.int .u64 x)])=>some { pre:=-100000≤a∧a≤100000∧-100000≤b∧b≤100000,hs:=[i],ar:=[.ptr 0 0,.v (.int .i64 a),.v (.int .i64 b)],L0:=[.cells [.v (.int .u64 x)]],v:=.v (.int .i64 (a+upV x (b - a))),L1:=[some (.cells [.v (.int .u64 (upS x (b - a)))])] }
    |_=>none
  |_=>none
theorem e21 {A:Frm→Prop}:EntryOK A Try.prog 21 (fnE p21):=fnE_ok fun S bs q h hp=>by
  unfold p21 at h
  split at h
  · split at h
    · cases h;exact from_fn _ _ _ hp
    · cases h
  · cases h
def nbK (l:List Int):Nat→Int
  |0=>11400714819323198485
  |k+1=>xsh (IntKind.u64.wrap (IntKind.u64.wrap (nbK l k+IntKind.u64.wrap (l.getD k 0)) * 13787848793156543929)) 29
def nbS (l:List Int):Int:=nbK l l.length
def nbI (l:List Int) (k:Nat):St:={ t:=asg [(0,aInts l),(3,.ptr 0 0),(4,aI k)],h:=hasg (bgH (nbK l k)),n:=1 }
def tbG2_20:=vj @ty3 (vj @ty22 (vj @ty95 (vj @ty97 (vj @ti3.eq_1 (vj @ti22.eq_1 (vj @ti95.eq_1 @ti97.eq_1))))))
def xbG2_4:=vj @aI.eq_1 (vj @aB.eq_1 (vj @bgH.eq_1 (vj @nbI.eq_1 (vj @aInts.eq_1 (vj @gInt (@eInt.eq_1))))))
theorem bag_fn (l:List Int) (hl:l.length≤maxLen):Fn noB Try.prog 20 [aInts l] noH (.ptr 0 0) (hasg (bgH (nbS l))) 0:=by
  have env:Env (fun _=>True) Try.prog tyB (tab []):=mkEnv trivial
  refine Fn.of (A:=fun _=>True) (n0:=0) (D:=noD) (Fn0 Try.func20 rfl (fun vs w=>by kernel_rfl) (by kernel_rfl)) (by simp) (by simp [AV.ids,AV.idsL,aInts]) (fun i o h=>by cases h) (fun _ _ _ _=>trivial) noD_ok ?_
  repeat' (first|(apply nx;with_reducible constructor)|refine uq (by decide) ?_|((first|refine vx env fun Q hQ=>?_|refine vz fun Q hQ=>?_);simp only [vkt,seval,tbG2_20,xbG2_4];(try simp only [ite_and]);(repeat' (first|with_reducible assumption|refine And.intro ?_ ?_|intro hp));all_goals (first|(refine hQ _ ?_;clear hQ Q)|(refine hQ _ (fun h=>?_) (fun h=>?_) <;> clear hQ Q <;> (try simp only [vki,reduceCtorEq] at h))|omega|assumption|with_reducible rfl|(refine vq ?_;kernel_rfl)|skip)))
  refine sym_loop (fun k:{ k:Nat // k≤l.length }=>nbI l k.1) (fun k=>l.length - k.1) ⟨0,Nat.zero_le _⟩ ?_ fun ⟨k,hk⟩=>?_
  · (refine Le.ok some [] ?_;constructor;all_goals (try simp only [vle,vkt,seval,tbG2_20,xbG2_4]))
    all_goals first|rfl|simp
  · repeat' (first|(apply nx;with_reducible constructor)|refine uq (by decide) ?_)
    (refine vx env fun Q hQ=>?_;simp only [vkt,seval,tbG2_20,xbG2_4];(try simp only [ite_and]);(repeat' (first|with_reducible assumption|refine And.intro ?_ ?_|intro hp));all_goals (first|(refine hQ _ ?_;clear hQ Q)|omega|assumption|with_reducible rfl|(refine vq ?_;kernel_rfl)|skip))
    repeat' (first|(apply nx;with_reducible constructor)|refine uq (by decide) ?_)
    (refine sym_cd (by simp only [vkt,seval,tbG2_20,xbG2_4];rfl) (fun h=>?_) (fun h=>?_) <;> (try simp only [vki,reduceCtorEq] at h))
    · have hlt:k < l.length:=by omega
      have e9:=wrap_succ hlt hl
      repeat' (first|(apply nx;with_reducible constructor)|refine uq (by decide) ?_|((first|refine vx env fun Q hQ=>?_|refine vz fun Q hQ=>?_);simp only [vkt,seval,tbG2_20,xbG2_4,e9];(try simp only [ite_and]);(repeat' (first|with_reducible assumption|refine And.intro ?_ ?_|intro hp));all_goals (first|(refine hQ _ ?_;clear hQ Q)|(refine hQ _ (fun h=>?_) (fun h=>?_) <;> clear hQ Q <;> (try simp only [vki,reduceCtorEq] at h))|omega|assumption|with_reducible rfl|(refine vq ?_;kernel_rfl)|skip)))
      refine ⟨⟨k+1,hlt⟩,by show l.length - (k+1) < l.length - k;omega, ?_⟩
      (refine Le.ok some [] ?_;constructor;all_goals (try simp only [vle,vkt,seval,tbG2_20,xbG2_4]))
      all_goals first|rfl|(simp [e9];done)
    · have hkn:k=l.length:=by omega
      subst hkn
      repeat' (first|(apply nx;with_reducible constructor)|refine uq (by decide) ?_|((first|refine vx env fun Q hQ=>?_|refine vz fun Q hQ=>?_);simp only [vkt,seval,tbG2_20,xbG2_4];(try simp only [ite_and]);(repeat' (first|with_reducible assumption|refine And.intro ?_ ?_|intro hp));all_goals (first|(refine hQ _ ?_;clear hQ Q)|(refine hQ _ (fun h=>?_) (fun h=>?_) <;> clear hQ Q <;> (try simp only [vki,reduceCtorEq] at h))|omega|assumption|with_reducible rfl|(refine vq ?_;kernel_rfl)|skip)))
      (simp only [vrt,Try.results20,vkt,seval,tbG2_20,xbG2_4];refine Fin.ok some [] ?_ ?_ ?_ ?_ ?_ rfl;all_goals (try simp only [vle,vkt,seval,tbG2_20,xbG2_4]))
      all_goals rfl
def p20 (_:St):List AV→Option Pk
  |[.sl xs]=>some { pre:=xs=(xs.map dInt).map eInt∧xs.length≤maxLen,ar:=[.sl xs],v:=.ptr 0 0,L1:=[some (.cells [.v (.int .u64 (nbS (xs.map dInt)))])] }
  |_=>none
theorem e20 {A:Frm→Prop}:EntryOK A Try.prog 20 (fnE p20):=fnE_ok fun S bs q h hp=>by
  unfold p20 at h
  split at h <;> cases h
  have:=bag_fn (List.map dInt _) (by rw [List.length_map];exact hp.2)
  simp only [aInts,← hp.1] at this
  exact this
end Go.Sym.B
namespace Go.Sym.B
open Go Go.Sym Go.Proofs Go.Sym.C
structure RI (n0 d0 k:Nat) where
  n:Nat
  d:Nat
  n1:1≤n
  n2:n≤n0
  d1:1≤d
  d2:d≤d0
  e:n * d0=d * n0
  c:∀ j,k < j→j≤12→¬ (j ∣ n∧j ∣ d)
def RI.div {n0 d0 k:Nat} (i:RI n0 d0 k) (hk:2≤k) (h1:k ∣ i.n) (h2:k ∣ i.d):RI n0 d0 k where
  n:=i.n / k
  d:=i.d / k
  n1:=Nat.div_pos (Nat.le_of_dvd i.n1 h1) (by omega)
  n2:=Nat.le_trans (Nat.div_le_self _ _) i.n2
  d1:=Nat.div_pos (Nat.le_of_dvd i.d1 h2) (by omega)
  d2:=Nat.le_trans (Nat.div_le_self _ _) i.d2
  e:=by
    obtain ⟨a,ha⟩:=h1
    obtain ⟨b,hb⟩:=h2
    have:=i.e
    rw [ha,hb] at this ⊢
    rw [Nat.mul_div_cancel_left _ (by omega),Nat.mul_div_cancel_left _ (by omega)]
    rw [Nat.mul_assoc,Nat.mul_assoc] at this
    exact Nat.eq_of_mul_eq_mul_left (by omega) this
  c:=fun j hj hl h=>i.c j hj hl ⟨Nat.dvd_trans h.1 (Nat.div_dvd_of_dvd h1),Nat.dvd_trans h.2 (Nat.div_dvd_of_dvd h2)⟩
def RI.less {n0 d0 k:Nat} (i:RI n0 d0 (k+1)) (h:¬ (k+1 ∣ i.n∧k+1 ∣ i.d)):RI n0 d0 k where
  n:=i.n
  d:=i.d
  n1:=i.n1
  n2:=i.n2
  d1:=i.d1
  d2:=i.d2
  e:=i.e
  c:=fun j hj hl hh=>by
    rcases Nat.lt_or_eq_of_le (Nat.succ_le_of_lt hj) with h1|h1
    · exact i.c j h1 hl hh
    · subst h1;exact h hh
theorem RI.last {n0 d0:Nat} (i:RI n0 d0 1) (hd:d0≤12) (hd1:1≤d0):shQ (mkRat n0 d0)=⟨i.n,i.d⟩:=by
  have hg:Nat.gcd i.n i.d=1:=by
    have h1:=Nat.gcd_dvd_left i.n i.d
    have h2:=Nat.gcd_dvd_right i.n i.d
    have h3:0 < Nat.gcd i.n i.d:=Nat.gcd_pos_of_pos_left _ i.n1
    have h4:=Nat.le_of_dvd i.d1 h2
    have h5:=i.d2
    rcases Nat.lt_or_eq_of_le h3 with h6|h6
    · exact absurd ⟨h1,h2⟩ (i.c _ h6 (by omega))
    · exact h6.symm
  have hd0:d0 ≠ 0:=by omega
  have hid:i.d ≠ 0:=by have:=i.d1;omega
  have he:mkRat (n0:Int) d0=mkRat (i.n:Int) i.d:=by
    rw [Rat.mkRat_eq_iff hd0 hid]
    have:=i.e
    rw [Nat.mul_comm i.d] at this
    exact_mod_cast this.symm
  have hp:(0:Int) < (i.d:Int):=by have:=i.d1;omega
  have e1:=mk_num (a:=(i.n:Int)) hp
  have e2:=mk_den (a:=(i.n:Int)) hp
  simp only [Int.toNat_natCast,Int.natAbs_natCast,hg] at e1 e2
  simp only [shQ,he,e1,e2]
  simp
noncomputable def rtN (x:Int):Int:=1+upV (upS x (12 - 1)) (20 - 1)
noncomputable def rtD (x:Int):Int:=1+upV x (12 - 1)
noncomputable def rtV (x:Int):Sh:=shQ (mkRat (rtN x) (rtD x).toNat)
noncomputable def rtS (x:Int):Int:=upS (upS x (12 - 1)) (20 - 1)
theorem rt_bd7 (x:Int):(1≤rtN x∧rtN x≤20)∧1≤rtD x∧rtD x≤12:=by
  have h1:=upV_bd (x:=upS x (12 - 1)) (m:=20 - 1) (by decide)
  have h2:=upV_bd (x:=x) (m:=12 - 1) (by decide)
  unfold rtN rtD
  omega
def rtT (x:Int) (k n d:Nat):St:={ t:=asg [(2,.ptr 1 0),(3,aI d),(4,aI n),(5,aI k)],h:=hasg [(0,.cells [.v (.int .u64 x)]),(1,.cells [.v (.int .i64 0),.v (.int .i64 0)])],n:=2,m:=1 }
theorem tmodN (a b:Nat):((a:Int)).tmod (b:Int)=((a % b:Nat):Int):=rfl
theorem tdivN (a b:Nat):((a:Int)).tdiv (b:Int)=((a / b:Nat):Int):=rfl
theorem wdiv {a b:Nat} (h:a≤1000):IntKind.wrap .i64 ((a:Int).tdiv (b:Int))=((a / b:Nat):Int):=by
  rw [tdivN]
  have:=Nat.div_le_self a b
  generalize a / b=q at *
  exact wrap64 (by omega) (by omega)
def tbG7_84:=vj @ty3 (vj @ty59 (vj @ti3.eq_1 @ti59.eq_1))
def xbG7_1:=vj @aI.eq_1 (vj @aB.eq_1 (vj @aSh.eq_1 (vj @bgH.eq_1 (vj @p21.eq_1 (vj @p21.eq_2 (vj @rtT.eq_1 (@tmodN)))))))
theorem rateOf_fn (x:Int):Fn noB Try.prog 84 [.ptr 0 0] (hasg (bgH x)) (aSh (rtV x)) (hasg (bgH (rtS x))) 0:=by
  have env:Env (fun _=>True) Try.prog tyB (tab [(21,fnE p21)]):=mkEnv ⟨e21,trivial⟩
  refine Fn.of (A:=fun _=>True) (n0:=1) (D:=noD) (Fn0 Try.func84 rfl (fun vs w=>by kernel_rfl) (by kernel_rfl)) (by simp) (by simp [AV.ids]) ?_ (fun _ _ _ _=>trivial) noD_ok ?_
  · intro i o hi
    have h:=hasg_mem hi
    simp [bgH] at h
    rcases h with ⟨rfl,rfl⟩;simp [AObj.ids,AV.ids,AV.idsL]
  have hb:=rt_bd7 x
  obtain ⟨n0,hn0⟩:∃ n:Nat,rtN x=(n:Int):=⟨(rtN x).toNat,by omega⟩
  obtain ⟨d0,hd0⟩:∃ n:Nat,rtD x=(n:Int):=⟨(rtD x).toNat,by omega⟩
  rw [hn0,hd0] at hb
  have hV:rtV x=shQ (mkRat n0 d0):=by unfold rtV;rw [hn0,hd0];rfl
  have hn0':1+upV (upS x (12 - 1)) (20 - 1)=(n0:Int):=hn0
  have hd0':1+upV x (12 - 1)=(d0:Int):=hd0
  have hS:upS (upS x (12 - 1)) (20 - 1)=rtS x:=rfl
  repeat' (first|(apply nx;with_reducible constructor)|refine uq (by decide) ?_|((first|refine vx env fun Q hQ=>?_|refine vz fun Q hQ=>?_);simp only [vkt,seval,-Int.reduceSub,-Int.reduceAdd,-Int.reduceMul,tbG7_84,xbG7_1,hn0',hd0',hS];(try simp only [ite_and]);(repeat' (first|with_reducible assumption|refine And.intro ?_ ?_|intro hp));all_goals (first|(refine hQ _ ?_;clear hQ Q)|(refine hQ _ (fun h=>?_) (fun h=>?_) <;> clear hQ Q <;> (try simp only [vki,reduceCtorEq] at h))|omega|assumption|with_reducible rfl|(refine vq ?_;kernel_rfl)|skip)))
  refine sym_loop (fun i:(k:{ k:Nat // 1≤k∧k≤12 }) × RI n0 d0 k.1=>rtT (rtS x) i.1.1 i.2.n i.2.d) (fun i=>i.1.1) ⟨⟨12,by decide⟩,⟨n0,d0,by omega,Nat.le_refl _,by omega,Nat.le_refl _,Nat.mul_comm _ _,fun j h1 h2=>by have:12 < j:=h1;omega⟩⟩ ?_ fun ⟨⟨k,hk⟩,i⟩=>?_
  · (refine Le.ok some [] ?_;constructor;all_goals (try simp only [vle,vkt,seval,-Int.reduceSub,-Int.reduceAdd,-Int.reduceMul,tbG7_84,xbG7_1]))
    all_goals first|rfl|(simp;done)
  · repeat' (first|(apply nx;with_reducible constructor)|refine uq (by decide) ?_)
    (refine vx env fun Q hQ=>?_;simp only [vkt,seval,-Int.reduceSub,-Int.reduceAdd,-Int.reduceMul,tbG7_84,xbG7_1];(try simp only [ite_and]);(repeat' (first|with_reducible assumption|refine And.intro ?_ ?_|intro hp));all_goals (first|(refine hQ _ ?_;clear hQ Q)|omega|assumption|with_reducible rfl|(refine vq ?_;kernel_rfl)|skip))
    repeat' (first|(apply nx;with_reducible constructor)|refine uq (by decide) ?_)
    (refine sym_cd (by simp only [vkt,seval,-Int.reduceSub,-Int.reduceAdd,-Int.reduceMul,tbG7_84,xbG7_1];rfl) (fun h=>?_) (fun h=>?_) <;> (try simp only [vki,reduceCtorEq] at h))
    · have hk2:1 < k:=by omega
      repeat' (first|(apply nx;with_reducible constructor)|refine uq (by decide) ?_)
      refine sym_loop (fun i:RI n0 d0 k=>rtT (rtS x) k i.n i.d) (fun i=>i.n) i ?_ fun i=>?_
      · (refine Le.ok some [] ?_;constructor;all_goals (try simp only [vle,vkt,seval,-Int.reduceSub,-Int.reduceAdd,-Int.reduceMul,tbG7_84,xbG7_1]))
        all_goals first|rfl|(simp;done)
      · have i1:=i.n1
        have i2:=i.n2
        have i3:=i.d1
        have i4:=i.d2
        have nz:¬ (k:Int)=0:=by omega
        have r1:i.n % k=0 ↔ k ∣ i.n:=(Nat.dvd_iff_mod_eq_zero ..).symm
        have r2:i.d % k=0 ↔ k ∣ i.d:=(Nat.dvd_iff_mod_eq_zero ..).symm
        have w1:IntKind.wrap .i64 ((i.n:Int).tdiv (k:Int))=((i.n / k:Nat):Int):=wdiv (by omega)
        have w2:IntKind.wrap .i64 ((i.d:Int).tdiv (k:Int))=((i.d / k:Nat):Int):=wdiv (by omega)
        have w3:IntKind.wrap .i64 ((k:Int) - 1)=((k - 1:Nat):Int):=by rw [wrap64 (by omega) (by omega)];omega
        by_cases c1:i.n % k=0
        · by_cases c2:i.d % k=0
          · have c1':(((i.n % k:Nat):Int)=0):=by omega
            have c2':(((i.d % k:Nat):Int)=0):=by omega
            repeat' (first|(apply nx;with_reducible constructor)|refine uq (by decide) ?_|((first|refine vx env fun Q hQ=>?_|refine vz fun Q hQ=>?_);simp only [vkt,seval,-Int.reduceSub,-Int.reduceAdd,-Int.reduceMul,tbG7_84,xbG7_1,nz,c1',c2',w1,w2];(try simp only [ite_and]);(repeat' (first|with_reducible assumption|refine And.intro ?_ ?_|intro hp));all_goals (first|(refine hQ _ ?_;clear hQ Q)|(refine hQ _ (fun h=>?_) (fun h=>?_) <;> clear hQ Q <;> (try simp only [vki,reduceCtorEq] at h))|omega|assumption|with_reducible rfl|(refine vq ?_;kernel_rfl)|skip)))
            refine ⟨i.div (by omega) (r1.1 c1) (r2.1 c2),by show i.n / k < i.n;exact Nat.div_lt_self (by omega) hk2, ?_⟩
            (refine Le.ok some [] ?_;constructor;all_goals (try simp only [vle,vkt,seval,-Int.reduceSub,-Int.reduceAdd,-Int.reduceMul,tbG7_84,xbG7_1]))
            all_goals first|rfl|(simp [RI.div];done)
          · have c1':(((i.n % k:Nat):Int)=0):=by omega
            have c2':¬ (((i.d % k:Nat):Int)=0):=by omega
            obtain ⟨m,rfl⟩:∃ m,k=m+1:=⟨k - 1,by omega⟩
            repeat' (first|(apply nx;with_reducible constructor)|refine uq (by decide) ?_|((first|refine vx env fun Q hQ=>?_|refine vz fun Q hQ=>?_);simp only [vkt,seval,-Int.reduceSub,-Int.reduceAdd,-Int.reduceMul,tbG7_84,xbG7_1,nz,c1',c2',w3];(try simp only [ite_and]);(repeat' (first|with_reducible assumption|refine And.intro ?_ ?_|intro hp));all_goals (first|(refine hQ _ ?_;clear hQ Q)|(refine hQ _ (fun h=>?_) (fun h=>?_) <;> clear hQ Q <;> (try simp only [vki,reduceCtorEq] at h))|omega|assumption|with_reducible rfl|(refine vq ?_;kernel_rfl)|skip)))
            refine ⟨⟨⟨m,by omega,by omega⟩,i.less fun h=>c2 (r2.2 h.2)⟩,by show m < m+1;omega, ?_⟩
            (refine Le.ok some [] ?_;constructor;all_goals (try simp only [vle,vkt,seval,-Int.reduceSub,-Int.reduceAdd,-Int.reduceMul,tbG7_84,xbG7_1]))
            all_goals first|rfl|(simp [RI.less];done)
        · have c1':¬ (((i.n % k:Nat):Int)=0):=by omega
          obtain ⟨m,rfl⟩:∃ m,k=m+1:=⟨k - 1,by omega⟩
          repeat' (first|(apply nx;with_reducible constructor)|refine uq (by decide) ?_|((first|refine vx env fun Q hQ=>?_|refine vz fun Q hQ=>?_);simp only [vkt,seval,-Int.reduceSub,-Int.reduceAdd,-Int.reduceMul,tbG7_84,xbG7_1,nz,c1',w3];(try simp only [ite_and]);(repeat' (first|with_reducible assumption|refine And.intro ?_ ?_|intro hp));all_goals (first|(refine hQ _ ?_;clear hQ Q)|(refine hQ _ (fun h=>?_) (fun h=>?_) <;> clear hQ Q <;> (try simp only [vki,reduceCtorEq] at h))|omega|assumption|with_reducible rfl|(refine vq ?_;kernel_rfl)|skip)))
          refine ⟨⟨⟨m,by omega,by omega⟩,i.less fun h=>c1 (r1.2 h.1)⟩,by show m < m+1;omega, ?_⟩
          (refine Le.ok some [] ?_;constructor;all_goals (try simp only [vle,vkt,seval,-Int.reduceSub,-Int.reduceAdd,-Int.reduceMul,tbG7_84,xbG7_1]))
          all_goals first|rfl|(simp [RI.less];done)
    · have hk1:k=1:=by omega
      subst hk1
      have hl:=i.last (by omega) (by omega)
      rw [hV,hl]
      repeat' (first|(apply nx;with_reducible constructor)|refine uq (by decide) ?_|((first|refine vx env fun Q hQ=>?_|refine vz fun Q hQ=>?_);simp only [vkt,seval,-Int.reduceSub,-Int.reduceAdd,-Int.reduceMul,tbG7_84,xbG7_1];(try simp only [ite_and]);(repeat' (first|with_reducible assumption|refine And.intro ?_ ?_|intro hp));all_goals (first|(refine hQ _ ?_;clear hQ Q)|(refine hQ _ (fun h=>?_) (fun h=>?_) <;> clear hQ Q <;> (try simp only [vki,reduceCtorEq] at h))|omega|assumption|with_reducible rfl|(refine vq ?_;kernel_rfl)|skip)))
      (simp only [vrt,Try.results84,vkt,seval,-Int.reduceSub,-Int.reduceAdd,-Int.reduceMul,tbG7_84,xbG7_1];refine Fin.ok some [] ?_ ?_ ?_ ?_ ?_ rfl;all_goals (try simp only [vle,vkt,seval,-Int.reduceSub,-Int.reduceAdd,-Int.reduceMul,tbG7_84,xbG7_1]))
      all_goals first|rfl|(simp;done)
noncomputable def p84 (S:St):List AV→Option Pk
  |[.ptr i 0]=>match S.h i with
    |some (.cells [.v (.int .u64 x)])=>some { hs:=[i],ar:=[.ptr 0 0],L0:=[.cells [.v (.int .u64 x)]],v:=.agg [.v (.int .i64 (rtV x).num),.v (.int .i64 (rtV x).den)],L1:=[some (.cells [.v (.int .u64 (rtS x))])],fl:=true }
    |_=>none
  |_=>none
theorem e84 {A:Frm→Prop}:EntryOK A Try.prog 84 (fnE p84):=fnE_ok fun S bs q h hp=>by
  unfold p84 at h
  split at h
  · split at h
    · cases h;exact rateOf_fn _
    · cases h
  · cases h
noncomputable def oneV (x:Int) (l:List Int):Int:=l.getD (upV x ((l.length:Int) - 1)).toNat 0
theorem upV_le {x m:Int} (h0:0≤m) (h:m < 9223372036854775807):0≤upV x m∧upV x m≤m:=by
  have:=upV_bd (x:=x) h;omega
def tbG7_85:=vj @ty3 (vj @ty22 (vj @ti3.eq_1 @ti22.eq_1))
def xbG7_2:=vj @aI.eq_1 (vj @aB.eq_1 (vj @aInts.eq_1 (vj @bgH.eq_1 (vj @p22.eq_1 (vj @p22.eq_2 (vj @gInt (@eInt.eq_1)))))))
theorem one_fn (x:Int) (l:List Int) (h1:1≤l.length) (h2:l.length≤100):Fn noB Try.prog 85 [.ptr 0 0,aInts l] (hasg (bgH x)) (aI (oneV x l)) (hasg (bgH (upS x ((l.length:Int) - 1)))) 0:=by
  have env:Env (fun _=>True) Try.prog tyB (tab [(22,fnE p22)]):=mkEnv ⟨e22,trivial⟩
  refine Fn.of (A:=fun _=>True) (n0:=1) (D:=noD) (Fn0 Try.func85 rfl (fun vs w=>by kernel_rfl) (by kernel_rfl)) (by simp) (by simp [AV.ids,AV.idsL,aInts]) ?_ (fun _ _ _ _=>trivial) noD_ok ?_
  · intro i o hi
    have h:=hasg_mem hi
    simp [bgH] at h
    rcases h with ⟨rfl,rfl⟩;simp [AObj.ids,AV.ids,AV.idsL]
  have hu:=upV_le (x:=x) (m:=(l.length:Int) - 1) (by omega) (by omega)
  have w1:IntKind.wrap .i64 ((l.length:Int) - 1)=(l.length:Int) - 1:=wrap64 (by omega) (by omega)
  have nz:¬ (l.length:Int)=0:=by omega
  have h3:(l.length:Int) - 1 < 9223372036854775807:=by omega
  have h4:(upV x ((l.length:Int) - 1)).toNat < l.length:=by omega
  repeat' (first|(apply nx;with_reducible constructor)|refine uq (by decide) ?_|((first|refine vx env fun Q hQ=>?_|refine vz fun Q hQ=>?_);simp only [vkt,seval,-Int.reduceSub,-Int.reduceAdd,-Int.reduceMul,tbG7_85,xbG7_2,w1,nz];(try simp only [ite_and]);(repeat' (first|with_reducible assumption|refine And.intro ?_ ?_|intro hp));all_goals (first|(refine hQ _ ?_;clear hQ Q)|(refine hQ _ (fun h=>?_) (fun h=>?_) <;> clear hQ Q <;> (try simp only [vki,reduceCtorEq] at h))|omega|assumption|with_reducible rfl|(refine vq ?_;kernel_rfl)|skip)))
  (simp only [vrt,Try.results85,vkt,seval,-Int.reduceSub,-Int.reduceAdd,-Int.reduceMul,tbG7_85,xbG7_2];refine Fin.ok some [] ?_ ?_ ?_ ?_ ?_ rfl;all_goals (try simp only [vle,vkt,seval,-Int.reduceSub,-Int.reduceAdd,-Int.reduceMul,tbG7_85,xbG7_2]))
  all_goals first|rfl|(simp;done)
noncomputable def p85 (S:St):List AV→Option Pk
  |[.ptr i 0,.row r]=>match S.h i with
    |some (.cells [.v (.int .u64 x)])=>match S.h r with
      |some (.row _ _ xs)=>some { pre:=xs=(xs.map dInt).map eInt∧1≤xs.length∧xs.length≤100,hs:=[i],bo:=[r],ar:=[.ptr 0 0,.sl xs],L0:=[.cells [.v (.int .u64 x)]],v:=.v (.int .i64 (oneV x (xs.map dInt))),L1:=[some (.cells [.v (.int .u64 (upS x ((xs.length:Int) - 1)))])],fl:=true }
      |_=>none
    |_=>none
  |_=>none
theorem e85 {A:Frm→Prop}:EntryOK A Try.prog 85 (fnE p85):=fnE_ok fun S bs q h hp=>by
  unfold p85 at h
  split at h
  · split at h
    · split at h
      · cases h
        obtain ⟨h1,h2,h3⟩:=hp
        rename_i x _ _ _ _ xs _
        have:=one_fn x (List.map dInt xs) (by rw [List.length_map];exact h2) (by rw [List.length_map];exact h3)
        simp only [aInts,← h1,List.length_map] at this
        exact this
      · cases h
    · cases h
  · cases h
def tbG7_71:=vj @ty3 @ti3.eq_1
def xbG7_3:=vj @aI.eq_1 (vj @aB.eq_1 (vj @aInts.eq_1 (vj @bgH.eq_1 (vj @p22.eq_1 (@p22.eq_2)))))
theorem chance_fn (x n m:Int) (h1:1≤m) (h2:m≤1000):Fn noB Try.prog 71 [.ptr 0 0,aI n,aI m] (hasg (bgH x)) (aB (decide (upV x (m - 1) < n))) (hasg (bgH (upS x (m - 1)))) 0:=by
  have env:Env (fun _=>True) Try.prog tyB (tab [(22,fnE p22)]):=mkEnv ⟨e22,trivial⟩
  refine Fn.of (A:=fun _=>True) (n0:=1) (D:=noD) (Fn0 Try.func71 rfl (fun vs w=>by kernel_rfl) (by kernel_rfl)) (by simp) (by simp [AV.ids,AV.idsL,aI]) ?_ (fun _ _ _ _=>trivial) noD_ok ?_
  · intro i o hi
    have h:=hasg_mem hi
    simp [bgH] at h
    rcases h with ⟨rfl,rfl⟩;simp [AObj.ids,AV.ids,AV.idsL]
  have w1:IntKind.wrap .i64 (m - 1)=m - 1:=wrap64 (by omega) (by omega)
  have h3:m - 1 < 9223372036854775807:=by omega
  repeat' (first|(apply nx;with_reducible constructor)|refine uq (by decide) ?_|((first|refine vx env fun Q hQ=>?_|refine vz fun Q hQ=>?_);simp only [vkt,seval,-Int.reduceSub,-Int.reduceAdd,-Int.reduceMul,tbG7_71,xbG7_3,w1];(try simp only [ite_and]);(repeat' (first|with_reducible assumption|refine And.intro ?_ ?_|intro hp));all_goals (first|(refine hQ _ ?_;clear hQ Q)|(refine hQ _ (fun h=>?_) (fun h=>?_) <;> clear hQ Q <;> (try simp only [vki,reduceCtorEq] at h))|omega|assumption|with_reducible rfl|(refine vq ?_;kernel_rfl)|skip)))
  (simp only [vrt,Try.results71,vkt,seval,-Int.reduceSub,-Int.reduceAdd,-Int.reduceMul,tbG7_71,xbG7_3];refine Fin.ok some [] ?_ ?_ ?_ ?_ ?_ rfl;all_goals (try simp only [vle,vkt,seval,-Int.reduceSub,-Int.reduceAdd,-Int.reduceMul,tbG7_71,xbG7_3]))
  all_goals first|rfl|(simp;done)
noncomputable def p71 (S:St):List AV→Option Pk
  |[.ptr i 0,.v (.int .i64 n),.v (.int .i64 m)]=>match S.h i with
    |some (.cells [.v (.int .u64 x)])=>some { pre:=1≤m∧m≤1000,hs:=[i],ar:=[.ptr 0 0,.v (.int .i64 n),.v (.int .i64 m)],L0:=[.cells [.v (.int .u64 x)]],v:=.v (.bool (decide (upV x (m - 1) < n))),L1:=[some (.cells [.v (.int .u64 (upS x (m - 1)))])],fl:=true }
    |_=>none
  |_=>none
theorem e71 {A:Frm→Prop}:EntryOK A Try.prog 71 (fnE p71):=fnE_ok fun S bs q h hp=>by
  unfold p71 at h
  split at h
  · split at h
    · cases h;exact chance_fn _ _ _ hp.1 hp.2
    · cases h
  · cases h
def foldV (x n:Int):Int:=if n < 2 then 0 else (x.tmod n+n).tmod n
def tbG7_54:=vj @ty3 @ti3.eq_1
def xbG7_4:=vj @aI.eq_1 (@aB.eq_1)
theorem fold_fn (x n:Int) (h2:n≤1000000):FnV Try.prog 54 [aI x,aI n] (aI (foldV x n)):=by
  have env:Env (fun _=>True) Try.prog tyB (tab []):=mkEnv trivial
  refine Fn.of (A:=fun _=>True) (n0:=0) (D:=noD) (Fn0 Try.func54 rfl (fun vs w=>by kernel_rfl) (by kernel_rfl)) (by simp) (by simp [AV.ids,AV.idsL,aI]) (fun i o h=>by cases h) (fun _ _ _ _=>trivial) noD_ok ?_
  by_cases c1:n < 2
  · repeat' (first|(apply nx;with_reducible constructor)|refine uq (by decide) ?_|((first|refine vx env fun Q hQ=>?_|refine vz fun Q hQ=>?_);simp only [vkt,seval,-Int.reduceSub,-Int.reduceAdd,-Int.reduceMul,tbG7_54,xbG7_4,c1];(try simp only [ite_and]);(repeat' (first|with_reducible assumption|refine And.intro ?_ ?_|intro hp));all_goals (first|(refine hQ _ ?_;clear hQ Q)|(refine hQ _ (fun h=>?_) (fun h=>?_) <;> clear hQ Q <;> (try simp only [vki,reduceCtorEq] at h))|omega|assumption|with_reducible rfl|(refine vq ?_;kernel_rfl)|skip)))
    (simp only [vrt,Try.results54,vkt,seval,-Int.reduceSub,-Int.reduceAdd,-Int.reduceMul,tbG7_54,xbG7_4];refine Fin.val rfl ?_;(try simp only [AV.le,AV.leL]))
    all_goals simp [foldV,c1]
  · have nz:¬ n=0:=by omega
    have h3:x.tmod n < n:=Int.tmod_lt_of_pos x (by omega)
    have h5:-n < x.tmod n:=Int.lt_tmod_of_pos x (by omega)
    have w1:IntKind.wrap .i64 (x.tmod n+n)=x.tmod n+n:=wrap64 (by omega) (by omega)
    repeat' (first|(apply nx;with_reducible constructor)|refine uq (by decide) ?_|((first|refine vx env fun Q hQ=>?_|refine vz fun Q hQ=>?_);simp only [vkt,seval,-Int.reduceSub,-Int.reduceAdd,-Int.reduceMul,tbG7_54,xbG7_4,c1,nz,w1];(try simp only [ite_and]);(repeat' (first|with_reducible assumption|refine And.intro ?_ ?_|intro hp));all_goals (first|(refine hQ _ ?_;clear hQ Q)|(refine hQ _ (fun h=>?_) (fun h=>?_) <;> clear hQ Q <;> (try simp only [vki,reduceCtorEq] at h))|omega|assumption|with_reducible rfl|(refine vq ?_;kernel_rfl)|skip)))
    (simp only [vrt,Try.results54,vkt,seval,-Int.reduceSub,-Int.reduceAdd,-Int.reduceMul,tbG7_54,xbG7_4];refine Fin.val rfl ?_;(try simp only [AV.le,AV.leL]))
    all_goals simp [foldV,c1]
def s54:List AV→Prop × AV
  |[.v (.int .i64 x),.v (.int .i64 n)]=>(n≤1000000,aI (foldV x n))
  |_=>(False,.junk)
theorem e54 {A:Frm→Prop}:EntryOK A Try.prog 54 (valE true s54):=valE_ok fun vs _ h=>by
  unfold s54 at h ⊢
  split at h
  · exact ⟨trivial,fun _=>trivial,fold_fn _ _ h⟩
  · exact h.elim
theorem foldV_bd {x n:Int} (h:1≤n):0≤foldV x n∧foldV x n < n:=by
  unfold foldV
  split
  · omega
  · have h5:-n < x.tmod n:=Int.lt_tmod_of_pos x (by omega)
    have h1:0≤x.tmod n+n:=by omega
    rw [Int.tmod_eq_emod_of_nonneg h1]
    exact ⟨Int.emod_nonneg _ (by omega),Int.emod_lt_of_pos _ (by omega)⟩
end Go.Sym.B
namespace Go.Sym.B
open Go Go.Sym Go.Proofs Go.Sym.C
noncomputable def pcK (x:Int):Nat→List Int × Int
  |0=>([1],x)
  |k+1=>((pcK x k).1++[(pcK x k).1.getD k 0+(1+upV (pcK x k).2 (12 - 1))],upS (pcK x k).2 (12 - 1))
structure PcOk (p:List Int) (k:Nat):Prop where
  len:p.length=k+1
  one:p.getD 0 0=1
  up:∀ i,i < k→p.getD i 0 < p.getD (i+1) 0
  le:∀ i,i≤k→1≤p.getD i 0∧p.getD i 0≤1+12 * (i:Int)
theorem getD_snocL {α:Type} {l:List α} {v d:α} {i:Nat} (h:i < l.length):(l++[v]).getD i d=l.getD i d:=by
  simp [List.getD_eq_getElem?_getD,List.getElem?_append_left h]
theorem getD_snocR {α:Type} {l:List α} {v d:α} {i:Nat} (h:i=l.length):(l++[v]).getD i d=v:=by
  subst h;simp [List.getD_eq_getElem?_getD]
theorem pcK_ok (x:Int):∀ k,PcOk (pcK x k).1 k
  |0=>⟨rfl,rfl,fun i h=>by omega,fun i h=>by
      obtain rfl:i=0:=by omega
      simp [pcK]⟩
  |k+1=>by
    have ih:=pcK_ok x k
    have hu:=upV_bd (x:=(pcK x k).2) (m:=12 - 1) (by decide)
    have hl:=ih.len
    have hk:=ih.le k (Nat.le_refl _)
    rw [pcK]
    refine ⟨by simp [hl],by rw [getD_snocL (by omega)];exact ih.one,fun i hi=>?_,fun i hi=>?_⟩
    · rcases Nat.lt_or_eq_of_le (Nat.le_of_lt_succ hi) with h|h
      · rw [getD_snocL (by omega),getD_snocL (by omega)];exact ih.up i h
      · subst h;rw [getD_snocL (by omega),getD_snocR hl.symm];omega
    · rcases Nat.lt_or_eq_of_le hi with h|h
      · rw [getD_snocL (by omega)];exact ih.le i (by omega)
      · subst h;rw [getD_snocR hl.symm];omega
structure CoS where
  cs:List (List Int)
  ss:List Int
  x:Int
noncomputable def coStep (s:CoS):CoS:=⟨s.cs++[(pcK (upS s.x 3) (upV s.x 3).toNat).1],s.ss++[upV (pcK (upS s.x 3) (upV s.x 3).toNat).2 200],upS (pcK (upS s.x 3) (upV s.x 3).toNat).2 200⟩
noncomputable def coK (x:Int):Nat→CoS
  |0=>⟨[],[],x⟩
  |k+1=>coStep (coK x k)
theorem coK_succ (x:Int) (k:Nat):coK x (k+1)=coStep (coK x k):=rfl
structure CoOk (s:CoS) (k:Nat):Prop where
  c:s.cs.length=k
  l:s.ss.length=k
  p:∀ q ∈ s.cs,∃ j,j≤3∧PcOk q j
  v:∀ n ∈ s.ss,0≤n∧n≤200
theorem coK_ok (x:Int):∀ k,CoOk (coK x k) k
  |0=>⟨rfl,rfl,fun q hq=>by simp [coK] at hq,fun q hq=>by simp [coK] at hq⟩
  |k+1=>by
    have ih:=coK_ok x k
    rw [coK_succ]
    unfold coStep
    have h1:=upV_bd (x:=(coK x k).x) (m:=3) (by decide)
    have h2:=upV_bd (x:=(pcK (upS (coK x k).x 3) (upV (coK x k).x 3).toNat).2) (m:=200) (by decide)
    refine ⟨by simp [ih.c],by simp [ih.l],fun q hq=>?_,fun q hq=>?_⟩
    · rcases List.mem_append.1 hq with hq|hq
      · exact ih.p q hq
      · obtain rfl:=List.mem_singleton.1 hq
        exact ⟨_,by omega,pcK_ok _ _⟩
    · rcases List.mem_append.1 hq with hq|hq
      · exact ih.v q hq
      · obtain rfl:=List.mem_singleton.1 hq
        omega
noncomputable def rtK (x:Int):Nat→List Sh × Int
  |0=>([⟨1,1⟩],x)
  |k+1=>((rtK x k).1++[rtV (rtK x k).2],rtS (rtK x k).2)
structure ShOk (s:Sh):Prop where
  n:1≤s.num∧s.num≤20
  d:1≤s.den∧s.den≤12
  r:s=shQ (mkRat s.num s.den.toNat)
theorem shQ_ok {q:Rat} (h1:1≤q.num∧q.num≤20) (h2:(q.den:Int)≤12):ShOk (shQ q) :=
  ⟨h1,⟨by have:=den_pos q;show (1:Int)≤(q.den:Int);omega,h2⟩,by show shQ q=shQ (mkRat q.num (q.den:Int).toNat);rw [Int.toNat_natCast,Rat.mkRat_self]⟩
theorem mkq_bd {n d:Int} (hn:1≤n∧n≤20) (hd:1≤d∧d≤12):(1≤(mkRat n d.toNat).num∧(mkRat n d.toNat).num≤20)∧((mkRat n d.toNat).den:Int)≤12:=by
  have hq:(0:Int) < d:=by omega
  have e1:=mk_num_le (a:=n) hq
  have e2:=mk_den_le (a:=n) hq
  have hp:0 < (mkRat n d.toNat).num:=by
    have hm:=mk_num (a:=n) hq
    have h5:0 < Nat.gcd n.natAbs d.toNat:=Nat.gcd_pos_of_pos_left _ (by omega)
    have h6:=Nat.gcd_dvd_left n.natAbs d.toNat
    rw [hm]
    generalize Nat.gcd n.natAbs d.toNat=g at *
    obtain ⟨q,hq⟩:=h6
    have h7:n=(g:Int) * (q:Int):=by
      rw [show n=(n.natAbs:Int) by omega,hq];exact Int.natCast_mul g q
    rw [h7,Int.mul_tdiv_cancel_left _ (by omega)]
    rcases Nat.eq_zero_or_pos q with h8|h8
    · subst h8;simp at h7;omega
    · omega
  omega
theorem rtV_ok (x:Int):ShOk (rtV x):=by
  have h:=mkq_bd (rt_bd7 x).1 (rt_bd7 x).2
  unfold rtV
  exact shQ_ok h.1 h.2
structure RwOk (r:List Sh) (m:Nat):Prop where
  len:r.length=m
  one:r.getD 0 default=⟨1,1⟩
  all:∀ s ∈ r,ShOk s
theorem rtK_ok (x:Int):∀ k,RwOk (rtK x k).1 (k+1)
  |0=>⟨rfl,rfl,fun s hs=>by
    obtain rfl:=List.mem_singleton.1 hs
    exact ⟨by decide,by decide,by decide +kernel⟩⟩
  |k+1=>by
    have ih:=rtK_ok x k
    rw [rtK]
    refine ⟨by simp [ih.len],by rw [getD_snocL (by have:=ih.len;omega)];exact ih.one,fun s hs=>?_⟩
    rcases List.mem_append.1 hs with hs|hs
    · exact ih.all s hs
    · obtain rfl:=List.mem_singleton.1 hs
      exact rtV_ok _
noncomputable def dyK (m:Nat) (x:Int):Nat→List (List Sh) × Int
  |0=>([],x)
  |k+1=>((dyK m x k).1++[(rtK (dyK m x k).2 m).1],(rtK (dyK m x k).2 m).2)
theorem dyK_ok (m:Nat) (x:Int):∀ k,(dyK m x k).1.length=k∧∀ r ∈ (dyK m x k).1,RwOk r (m+1)
  |0=>⟨rfl,fun r h=>by simp [dyK] at h⟩
  |k+1=>by
    obtain ⟨h1,h2⟩:=dyK_ok m x k
    rw [dyK]
    refine ⟨by simp [h1],fun r hr=>?_⟩
    rcases List.mem_append.1 hr with hr|hr
    · exact h2 r hr
    · obtain rfl:=List.mem_singleton.1 hr
      exact rtK_ok _ _
structure EnS where
  day:Int
  till:List Int
  es:List Ent
  x:Int
noncomputable def enD (R:Nat) (s:EnS):Int:=s.day+upV s.x (min (s.day+1) ((R:Int) - 1) - s.day)
noncomputable def enX1 (R:Nat) (s:EnS):Int:=upS s.x (min (s.day+1) ((R:Int) - 1) - s.day)
def kinds:List Int:=[1,2,3,3,3,4]
noncomputable def enS1 (s:EnS) (day coin x:Int):EnS:=⟨day,s.till.set coin.toNat (s.till.getD coin.toNat 0+upV x 90),s.es++[⟨day,1,coin,0,upV x 90,0⟩],upS x 90⟩
noncomputable def enS2 (s:EnS) (day coin x:Int):EnS:=⟨day,s.till.set coin.toNat (s.till.getD coin.toNat 0 - upV x (min (s.till.getD coin.toNat 0) 90)),s.es++[⟨day,2,coin,0,upV x (min (s.till.getD coin.toNat 0) 90),0⟩],upS x (min (s.till.getD coin.toNat 0) 90)⟩
noncomputable def enF (x:Int):Int:=-3+upV x (3 - -3)
noncomputable def enA4 (h x:Int):Int:=max 0 (min 999 (h+oneV (upS x (3 - -3)) [0,enF x]))
noncomputable def enS4 (s:EnS) (day coin x:Int):EnS:=⟨day,s.till.set coin.toNat (enA4 (s.till.getD coin.toNat 0) x),s.es++[⟨day,4,coin,0,enA4 (s.till.getD coin.toNat 0) x,0⟩],upS (upS x (3 - -3)) ((2:Nat) - 1)⟩
def enG0 (rs:List (List Sh)) (day coin to am:Int):Int :=
  (am * ((rs.getD day.toNat []).getD coin.toNat default).num * ((rs.getD day.toNat []).getD to.toNat default).den).tdiv (((rs.getD day.toNat []).getD coin.toNat default).den * ((rs.getD day.toNat []).getD to.toNat default).num)
def enS3b (s:EnS) (day coin to am got x:Int):EnS :=
  if 999 < got then ⟨day,s.till,s.es,x⟩ else ⟨day,(s.till.set coin.toNat (s.till.getD coin.toNat 0 - am)).set to.toNat (s.till.getD to.toNat 0+got),s.es++[⟨day,3,coin,to,am,got⟩],x⟩
noncomputable def enS3a (rs:List (List Sh)) (w:Int) (s:EnS) (day coin to am x:Int):EnS :=
  if upV x (10 - 1) < w then enS3b s day coin to am (enG0 rs day coin to am+(1+upV (upS x (10 - 1)) (3 - 1))) (upS (upS x (10 - 1)) (3 - 1))
  else enS3b s day coin to am (enG0 rs day coin to am) (upS x (10 - 1))
noncomputable def enTo (C:Nat) (coin x:Int):Int:=foldV (coin+(1+upV x ((C:Int) - 1 - 1))) C
noncomputable def enS3 (C:Nat) (rs:List (List Sh)) (w:Int) (s:EnS) (day coin x:Int):EnS :=
  if C=1 then ⟨day,s.till,s.es,x⟩ else
  enS3a rs w s day coin (enTo C coin x) (upV (upS x ((C:Int) - 1 - 1)) (min (s.till.getD coin.toNat 0) 40)) (upS (upS x ((C:Int) - 1 - 1)) (min (s.till.getD coin.toNat 0) 40))
noncomputable def enS0 (C:Nat) (rs:List (List Sh)) (w:Int) (s:EnS) (day kind coin x:Int):EnS :=
  if kind=1 then enS1 s day coin x else if kind=2 then enS2 s day coin x else if kind=4 then enS4 s day coin x else enS3 C rs w s day coin x
noncomputable def enK0 (R:Nat) (s:EnS):Int:=oneV (enX1 R s) kinds
noncomputable def enX2 (R:Nat) (s:EnS):Int:=upS (enX1 R s) ((6:Nat) - 1)
noncomputable def enStep (C:Nat) (rs:List (List Sh)) (w:Int) (s:EnS):EnS :=
  enS0 C rs w s (enD rs.length s) (enK0 rs.length s) (upV (enX2 rs.length s) ((C:Int) - 1)) (upS (enX2 rs.length s) ((C:Int) - 1))
noncomputable def enK (C:Nat) (rs:List (List Sh)) (w:Int) (s:EnS):Nat→EnS
  |0=>s
  |k+1=>enStep C rs w (enK C rs w s k)
structure EnI (C R k:Nat) (s:EnS):Prop where
  d0:0≤s.day
  d1:s.day≤(R:Int) - 1
  len:s.till.length=C
  b:∀ v ∈ s.till,0≤v∧v≤999 * ((k:Int)+1)
  es:s.es.length≤k
theorem enD_bd {C R k:Nat} {s:EnS} (h:EnI C R k s) (hR:R≤100):s.day≤enD R s∧enD R s≤(R:Int) - 1:=by
  have h0:=h.d0
  have h1:=h.d1
  have:=upV_le (x:=s.x) (m:=min (s.day+1) ((R:Int) - 1) - s.day) (by omega) (by omega)
  unfold enD
  omega
structure EnJ (C R k:Nat) (s:EnS) (day coin:Int):Prop where
  i:EnI C R k s
  d0:0≤day
  d1:day≤(R:Int) - 1
  c0:0≤coin
  c1:coin≤(C:Int) - 1
theorem EnJ.h {C R k:Nat} {s:EnS} {day coin:Int} (j:EnJ C R k s day coin):0≤s.till.getD coin.toNat 0∧s.till.getD coin.toNat 0≤999 * ((k:Int)+1):=by
  have:=j.c0
  have:=j.c1
  have:=j.i.len
  exact j.i.b _ (gMem (by omega))
theorem mem_set_bd {l:List Int} {i:Nat} {v:Int} {P:Int→Prop} (h:∀ x ∈ l,P x) (hv:P v):∀ x ∈ l.set i v,P x:=fun x hx=>by
  rcases List.mem_or_eq_of_mem_set hx with h1|h1
  · exact h x h1
  · exact h1 ▸ hv
theorem EnJ.bd {C R k:Nat} {s:EnS} {day coin:Int} (j:EnJ C R k s day coin):∀ v ∈ s.till,0≤v∧v≤999 * (((k+1:Nat):Int)+1):=fun v hv=>by
  have:=j.i.b v hv;omega
theorem EnJ.set {C R k:Nat} {s:EnS} {day coin:Int} (j:EnJ C R k s day coin) {v:Int} {e:Ent} {x:Int} (h:0≤v∧v≤999 * ((k:Int)+1)+999):EnI C R (k+1) ⟨day,s.till.set coin.toNat v,s.es++[e],x⟩ :=
  ⟨j.d0,j.d1,by simp [j.i.len],mem_set_bd j.bd (by omega),by simp;exact j.i.es⟩
theorem enA4_bd (h x:Int):0≤enA4 h x∧enA4 h x≤999:=by unfold enA4;omega
theorem enS3b_ok {C R k:Nat} {s:EnS} {day coin:Int} (j:EnJ C R k s day coin) {to am got x:Int} (ha:0≤am) (ha':am≤s.till.getD coin.toNat 0) (ht:0≤to∧to < C) (hg:0≤got):EnI C R (k+1) (enS3b s day coin to am got x):=by
  unfold enS3b
  have hh:=j.h
  have hl:=j.i.len
  split
  · exact ⟨j.d0,j.d1,hl,j.bd,Nat.le_succ_of_le j.i.es⟩
  · have h2:=j.i.b _ (gMem (l:=s.till) (k:=to.toNat) (d:=0) (by omega))
    exact ⟨j.d0,j.d1,by simp [hl],mem_set_bd (mem_set_bd j.bd (by omega)) (by omega),by simp;exact j.i.es⟩
theorem enG0_bd {rs:List (List Sh)} {day coin to am:Int} (h1:ShOk ((rs.getD day.toNat []).getD coin.toNat default)) (h2:ShOk ((rs.getD day.toNat []).getD to.toNat default)) (ha:0≤am) (ha':am≤40) :
    0≤enG0 rs day coin to am∧enG0 rs day coin to am≤9600:=by
  unfold enG0
  have a1:=h1.n
  have a2:=h1.d
  have a3:=h2.n
  have a4:=h2.d
  generalize ((rs.getD day.toNat []).getD coin.toNat default).num=p at *
  generalize ((rs.getD day.toNat []).getD coin.toNat default).den=q at *
  generalize ((rs.getD day.toNat []).getD to.toNat default).num=r at *
  generalize ((rs.getD day.toNat []).getD to.toNat default).den=u at *
  have m1:0≤am * p * u:=Int.mul_nonneg (Int.mul_nonneg ha (by omega)) (by omega)
  have m2:am * p≤40 * 20:=Int.mul_le_mul ha' a1.2 (by omega) (by omega)
  have m3:am * p * u≤40 * 20 * 12:=Int.mul_le_mul m2 a4.2 (by omega) (by omega)
  have m4:0 < q * r:=Int.mul_pos (by omega) (by omega)
  rw [Int.tdiv_eq_ediv_of_nonneg m1]
  refine ⟨Int.ediv_nonneg m1 (by omega),Int.le_trans (Int.ediv_le_self _ m1) (by omega)⟩
structure RsOk (rs:List (List Sh)) (C:Nat):Prop where
  len:1≤rs.length∧rs.length≤4
  all:∀ r ∈ rs,RwOk r C
theorem RsOk.sh {rs:List (List Sh)} {C:Nat} (h:RsOk rs C) {day coin:Int} (h1:0≤day) (h2:day≤(rs.length:Int) - 1) (h3:0≤coin) (h4:coin≤(C:Int) - 1):ShOk ((rs.getD day.toNat []).getD coin.toNat default):=by
  have hr:=h.all _ (gMem (l:=rs) (k:=day.toNat) (d:=[]) (by omega))
  exact hr.all _ (gMem (by have:=hr.len;omega))
theorem enS0_ok {C k:Nat} {rs:List (List Sh)} (hr:RsOk rs C) (hC:1≤C∧C≤4) {w:Int} {s:EnS} {day coin:Int} (j:EnJ C rs.length k s day coin) (kind x:Int):EnI C rs.length (k+1) (enS0 C rs w s day kind coin x):=by
  have hh:=j.h
  have hc0:=j.c0
  have hc1:=j.c1
  unfold enS0
  split
  · unfold enS1
    have:=upV_le (x:=x) (m:=90) (by decide) (by decide)
    exact j.set (by omega)
  split
  · unfold enS2
    have:=upV_bd (x:=x) (m:=min (s.till.getD coin.toNat 0) 90) (by omega)
    exact j.set (by omega)
  split
  · unfold enS4
    have:=enA4_bd (s.till.getD coin.toNat 0) x
    exact j.set (by omega)
  · unfold enS3
    split
    · exact ⟨j.d0,j.d1,j.i.len,j.bd,Nat.le_succ_of_le j.i.es⟩
    · have ht:0≤enTo C coin x∧enTo C coin x < C:=foldV_bd (by omega)
      generalize enTo C coin x=to at *
      generalize upS x ((C:Int) - 1 - 1)=y
      have ha:=upV_bd (x:=y) (m:=min (s.till.getD coin.toNat 0) 40) (by omega)
      generalize upV y (min (s.till.getD coin.toNat 0) 40)=am at *
      have s1:=hr.sh j.d0 j.d1 hc0 hc1
      have s2:=hr.sh j.d0 j.d1 ht.1 (show to≤(C:Int) - 1 by omega)
      have hg:=enG0_bd s1 s2 (am:=am) (by omega) (by omega)
      unfold enS3a
      split
      · have:=upV_bd (x:=upS (upS y (min (s.till.getD coin.toNat 0) 40)) (10 - 1)) (m:=3 - 1) (by decide)
        exact enS3b_ok j (by omega) (by omega) ht (by omega)
      · exact enS3b_ok j (by omega) (by omega) ht (by omega)
theorem enJ_of {C k:Nat} {rs:List (List Sh)} (hr:RsOk rs C) (hC:1≤C∧C≤4) {s:EnS} (h:EnI C rs.length k s):EnJ C rs.length k s (enD rs.length s) (upV (enX2 rs.length s) ((C:Int) - 1)):=by
  have h1:=enD_bd h (by have:=hr.len;omega)
  have h2:=upV_le (x:=enX2 rs.length s) (m:=(C:Int) - 1) (by omega) (by omega)
  exact ⟨h,by have:=h.d0;omega,h1.2,h2.1,h2.2⟩
theorem enK_ok {C:Nat} {rs:List (List Sh)} (hr:RsOk rs C) (hC:1≤C∧C≤4) {w:Int} {s:EnS} (h:EnI C rs.length 0 s):∀ k,EnI C rs.length k (enK C rs w s k)
  |0=>h
  |k+1=>enS0_ok hr hC (enJ_of hr hC (enK_ok hr hC h k)) _ _
noncomputable def lg1 (x c:Int):CoS:=coK (upS x (c - 1)) (1+upV x (c - 1)).toNat
noncomputable def lg2 (x c d:Int):List (List Sh) × Int:=dyK ((lg1 x c).cs.length - 1) (upS (lg1 x c).x (d - 1)) (1+upV (lg1 x c).x (d - 1)).toNat
noncomputable def lg3 (x c d e w:Int):EnS:=enK (lg1 x c).cs.length (lg2 x c d).1 w ⟨0,(lg1 x c).ss,[],upS (lg2 x c d).2 e⟩ (upV (lg2 x c d).2 e).toNat
noncomputable def lgL (x c d e w:Int):Led:=⟨(lg1 x c).cs,(lg2 x c d).1,(lg1 x c).ss,(lg3 x c d e w).es⟩
noncomputable def lgS (x c d e w:Int):Int:=(lg3 x c d e w).x
end Go.Sym.B
namespace Go.Sym.B
open Go Go.Sym Go.Proofs Go.Sym.C
theorem first0 {n:Nat} {f:Nat→Int} (h:∀ k,k < n→f k=0):firstE (errs n f)=0:=by
  have hall:∀ E:List Int,(∀ e ∈ E,e=0)→firstE E=0:=fun E=>by
    induction E with
    |nil=>intro _;rfl
    |cons e E ih=>intro h;rw [firstE,if_pos (h e List.mem_cons_self)];exact ih fun x hx=>h x (List.mem_cons_of_mem _ hx)
  refine hall _ fun e he=>?_
  obtain ⟨j,hj,rfl⟩:=List.mem_map.1 he
  exact h j (List.mem_range.1 hj)
theorem counted0 {n a b:Int} (h1:a≤n) (h2:n≤b):countedE n a b=0:=by unfold countedE;rw [if_neg (by omega),if_neg (by omega)]
theorem coinE_ok {q:List Int} {j:Nat} (h:PcOk q j) (hj:j≤3):coinE q=0:=by
  have hl:=h.len
  unfold coinE
  rw [if_neg (by rw [counted0 (by omega) (by omega)];simp),if_neg (by rw [h.one];simp)]
  refine first0 fun i hi=>?_
  have h1:=h.up i (by omega)
  have h2:=h.le (i+1) (by omega)
  unfold pieceE
  rw [Nat.add_comm 1 i,if_neg (by omega),if_neg (by omega)]
theorem shE_ok {s:Sh} (h:ShOk s):shE s=0:=by
  unfold shE
  rw [inB_iff.2 h.n,inB_iff.2 h.d,if_neg (by simp),if_neg (by simp),if_neg (by rw [ne_eq,Decidable.not_not];exact h.r)]
theorem ratesE_ok {r:List Sh} {n:Nat} (h:RwOk r n) (hn:1≤n):ratesE r n=0:=by
  have hl:=h.len
  unfold ratesE
  rw [if_neg (by simp [hl]),if_neg (by rw [h.one];simp)]
  refine first0 fun i hi=>?_
  exact shE_ok (h.all _ (gMem (by omega)))
structure LgOk (L:Led):Prop where
  c:1≤L.coins.length∧L.coins.length≤4
  p:∀ q ∈ L.coins,∃ j,j≤3∧PcOk q j
  s:L.start.length=L.coins.length
  v:∀ n ∈ L.start,0≤n∧n≤200
  r:RsOk L.rates L.coins.length
  e:L.entries.length≤6
theorem lg_ok {x c d e w:Int} (hc:1≤c∧c≤4) (hd:1≤d∧d≤4) (he:0≤e∧e≤6):LgOk (lgL x c d e w):=by
  have h1:=upV_le (x:=x) (m:=c - 1) (by omega) (by omega)
  have ok1:CoOk (lg1 x c) (1+upV x (c - 1)).toNat:=coK_ok _ _
  have hl1:=ok1.c
  have h2:=upV_le (x:=(lg1 x c).x) (m:=d - 1) (by omega) (by omega)
  have ok2:(lg2 x c d).1.length=(1+upV (lg1 x c).x (d - 1)).toNat∧∀ r ∈ (lg2 x c d).1,RwOk r ((lg1 x c).cs.length - 1+1):=dyK_ok _ _ _
  rw [show (lg1 x c).cs.length - 1+1=(lg1 x c).cs.length by omega] at ok2
  have hr:RsOk (lg2 x c d).1 (lg1 x c).cs.length:=⟨by have:=ok2.1;omega,ok2.2⟩
  have h3:=upV_le (x:=(lg2 x c d).2) (m:=e) (by omega) (by omega)
  have hI:EnI (lg1 x c).cs.length (lg2 x c d).1.length 0 ⟨0,(lg1 x c).ss,[],upS (lg2 x c d).2 e⟩:=⟨Int.le_refl _,by show (0:Int)≤_;have:=hr.len;omega,by rw [ok1.c];exact ok1.l,fun v hv=>by have:=ok1.v v hv;omega,Nat.le_refl _⟩
  have h4:=(enK_ok hr (by omega) (w:=w) hI (upV (lg2 x c d).2 e).toNat).es
  refine ⟨?_,ok1.p, ?_,ok1.v,hr, ?_⟩
  · show 1≤(lg1 x c).cs.length∧(lg1 x c).cs.length≤4;omega
  · show (lg1 x c).ss.length=(lg1 x c).cs.length;rw [ok1.c];exact ok1.l
  · show (lg3 x c d e w).es.length≤6
    unfold lg3;omega
theorem LgOk.fit {L:Led} (h:LgOk L):Fit L:=by
  refine ⟨by have:=h.c;omega,fun q hq=>?_,by have:=h.r.len;omega,fun r hr=>?_,by have:=h.c;have:=h.s;omega,by have:=h.e;omega⟩
  · obtain ⟨j,hj,hp⟩:=h.p q hq
    have:=hp.len;omega
  · have:=(h.r.all r hr).len;have:=h.c;omega
theorem lg_e0 (x c d w:Int):(lgL x c d 0 w).entries=[]:=by
  show (lg3 x c d 0 w).es=[]
  have h3:=upV_bd (x:=(lg2 x c d).2) (m:=0) (by decide)
  have:upV (lg2 x c d).2 0=0:=by omega
  unfold lg3
  rw [this]
  rfl
theorem entries0 {L:Led} (h:L.entries=[]):entriesE L=0:=by
  unfold entriesE
  rw [h,if_neg (by rw [counted0 (by simp) (by simp)];simp)]
  exact first0 fun k hk=>by simp at hk
end Go.Sym.B
namespace Go.Sym.B
open Go Go.Sym Go.Proofs Go.Sym.C
end Go.Sym.B
namespace Go.Sym.B
open Go Go.Sym Go.Proofs Go.Sym.C
def tbG9_23:=vj @ty3 (vj @ty22 (vj @ti3.eq_1 @ti22.eq_1))
def xbG9_1:=vj @aI.eq_1 (vj @aB.eq_1 (vj @aInts.eq_1 (@rInt)))
theorem copyR_fn (l:List Int) (hl:l.length≤100000):Fn noB Try.prog 23 [aInts l] noH (.row 0) (hasg [(0,.row 3 1 (l.map eInt))]) 0:=by
  have env:Env (fun _=>True) Try.prog tyB (tab []):=mkEnv trivial
  refine Fn.of (A:=fun _=>True) (n0:=0) (D:=noD) (Fn0 Try.func23 rfl (fun vs w=>by kernel_rfl) (by kernel_rfl)) (by simp) (by simp [AV.ids,AV.idsL,aInts]) (fun i o h=>by cases h) (fun _ _ _ _=>trivial) noD_ok ?_
  obtain ⟨b1,b2,b3,b4⟩:=b47 hl
  repeat' (first|(apply nx;with_reducible constructor)|refine uq (by decide) ?_|((first|refine vx env fun Q hQ=>?_|refine vz fun Q hQ=>?_);simp only [vkt,Nat.reduceEqDiff,Nat.reduceAdd,Nat.reduceMul,Nat.reduceSub,Nat.reduceLeDiff,reduceCtorEq,↓reduceIte,↓reduceDIte,Int.reduceToNat,Int.reduceLE,Int.reduceLT,Int.reduceEq,Int.reduceNeg,tbG9_23,xbG9_1];(try simp only [ite_and]);(repeat' (first|with_reducible assumption|refine And.intro ?_ ?_|intro hp));all_goals (first|(refine hQ _ ?_;clear hQ Q)|(refine hQ _ (fun h=>?_) (fun h=>?_) <;> clear hQ Q <;> (try simp only [vki,reduceCtorEq] at h))|omega|assumption|with_reducible rfl|(refine vq ?_;kernel_rfl)|skip)))
  (simp only [vrt,Try.results23,vkt,Nat.reduceEqDiff,Nat.reduceAdd,Nat.reduceMul,Nat.reduceSub,Nat.reduceLeDiff,reduceCtorEq,↓reduceIte,↓reduceDIte,Int.reduceToNat,Int.reduceLE,Int.reduceLT,Int.reduceEq,Int.reduceNeg,tbG9_23,xbG9_1];refine Fin.ok some [] ?_ ?_ ?_ ?_ ?_ rfl;all_goals (try simp only [vle,vkt,Nat.reduceEqDiff,Nat.reduceAdd,Nat.reduceMul,Nat.reduceSub,Nat.reduceLeDiff,reduceCtorEq,↓reduceIte,↓reduceDIte,Int.reduceToNat,Int.reduceLE,Int.reduceLT,Int.reduceEq,Int.reduceNeg,tbG9_23,xbG9_1]))
  all_goals first|rfl|(simp;done)
theorem flInt (l:List Int):(∀ r ∈ l.map eInt,∀ d ∈ r,∃ x,d=DV.v x)=True:=by
  simp [eInt]
def p23r (S:St):List AV→Option Pk
  |[.row r]=>match S.h r with
    |some (.row _ _ xs)=>some { pre:=xs=(xs.map dInt).map eInt∧xs.length≤100000,bo:=[r],ar:=[.sl xs],v:=.row 0,L1:=[some (.row 3 1 xs)],fl:=true }
    |_=>none
  |[.sl xs]=>some { pre:=xs=(xs.map dInt).map eInt∧xs.length≤100000,ar:=[.sl xs],v:=.row 0,L1:=[some (.row 3 1 xs)] }
  |_=>none
theorem e23r {A:Frm→Prop}:EntryOK A Try.prog 23 (fnE p23r):=fnE_ok fun S bs q h hp=>by
  unfold p23r at h
  split at h
  · split at h
    · cases h
      rename_i xs _
      have:=copyR_fn (List.map dInt xs) (by rw [List.length_map];exact hp.2)
      simp only [aInts,← hp.1] at this
      exact this
    · cases h
  · cases h
    rename_i xs
    have:=copyR_fn (List.map dInt xs) (by rw [List.length_map];exact hp.2)
    simp only [aInts,← hp.1] at this
    exact this
  · cases h
theorem pcK_1 (y:Int) (j:Nat):(pcK y (j+1)).1=(pcK y j).1++[(pcK y j).1.getD j 0+(1+upV (pcK y j).2 (12 - 1))]:=rfl
theorem pcK_2 (y:Int) (j:Nat):(pcK y (j+1)).2=upS (pcK y j).2 (12 - 1):=rfl
theorem rtK_1 (y:Int) (j:Nat):(rtK y (j+1)).1=(rtK y j).1++[rtV (rtK y j).2]:=rfl
theorem rtK_2 (y:Int) (j:Nat):(rtK y (j+1)).2=rtS (rtK y j).2:=rfl
theorem dyK_1 (m:Nat) (y:Int) (j:Nat):(dyK m y (j+1)).1=(dyK m y j).1++[(rtK (dyK m y j).2 m).1]:=rfl
theorem dyK_2 (m:Nat) (y:Int) (j:Nat):(dyK m y (j+1)).2=(rtK (dyK m y j).2 m).2:=rfl
theorem dIntW (n:Int):dInt [.v (.int .i64 n)]=n:=rfl
def loT (c d e w:Int):List (Nat × AV):=[(0,.ptr 0 0),(1,aI c),(2,aI d),(3,aI e),(4,aI w),(10,.ptr 1 0),(11,.ptr 2 0)]
def nil4:List AV:=[.nil,.nil,.nil,.nil]
noncomputable def lo1 (c d e w:Int) (b:Int) (V k:Nat):St:={ t:=asg (loT c d e w++[(12,aI ((V:Int) - (k:Int)))]),h:=hasg [(0,.cells [.v (.int .u64 (coK b k).x)]),(1,.cells nil4),(2,.cells [.row 3,.nil,.row 4,.nil]),(3,.row 22 1 ((coK b k).cs.map eInts)),(4,.row 3 1 ((coK b k).ss.map eInt))],n:=5,m:=1 }
noncomputable def lo2 (c d e w:Int) (s:CoS) (y:Int) (V k K j:Nat):St:={ t:=asg (loT c d e w++[(12,aI ((V:Int) - (k:Int))),(13,.row 5),(14,aI ((K:Int) - (j:Int)))]),h:=hasg [(0,.cells [.v (.int .u64 (pcK y j).2)]),(1,.cells nil4),(2,.cells [.row 3,.nil,.row 4,.nil]),(3,.row 22 1 (s.cs.map eInts)),(4,.row 3 1 (s.ss.map eInt)),(5,.row 3 1 ((pcK y j).1.map eInt))],n:=6,m:=1 }
def lo3 (c d e w:Int) (s:CoS) (p:List Int) (y:Int) (V k:Nat):St:={ t:=asg (loT c d e w++[(12,aI ((V:Int) - (k:Int))),(13,aInts p)]),h:=hasg [(0,.cells [.v (.int .u64 y)]),(1,.cells nil4),(2,.cells [.row 3,.nil,.row 4,.nil]),(3,.row 22 1 (s.cs.map eInts)),(4,.row 3 1 (s.ss.map eInt))],n:=5,m:=1 }
noncomputable def ld1 (c d e w:Int) (s:CoS) (m:Nat) (b:Int) (V k:Nat):St:={ t:=asg (loT c d e w++[(15,aI ((V:Int) - (k:Int)))]),h:=hasg [(0,.cells [.v (.int .u64 (dyK m b k).2)]),(1,.cells nil4),(2,.cells [.row 3,.row 5,.row 4,.nil]),(3,.row 22 1 (s.cs.map eInts)),(4,.row 3 1 (s.ss.map eInt)),(5,.row 55 1 ((dyK m b k).1.map eShs))],n:=6,m:=1 }
noncomputable def ld2 (c d e w:Int) (s:CoS) (rs:List (List Sh)) (y:Int) (V k j:Nat):St:={ t:=asg (loT c d e w++[(15,aI ((V:Int) - (k:Int))),(16,.row 6),(17,aI ((j:Int)+1))]),h:=hasg [(0,.cells [.v (.int .u64 (rtK y j).2)]),(1,.cells nil4),(2,.cells [.row 3,.row 5,.row 4,.nil]),(3,.row 22 1 (s.cs.map eInts)),(4,.row 3 1 (s.ss.map eInt)),(5,.row 55 1 (rs.map eShs)),(6,.row 59 2 ((rtK y j).1.map eSh))],n:=7,m:=1 }
def ld3 (c d e w:Int) (s:CoS) (rs:List (List Sh)) (r:List Sh) (y:Int) (V k:Nat):St:={ t:=asg (loT c d e w++[(15,aI ((V:Int) - (k:Int))),(16,aShs r)]),h:=hasg [(0,.cells [.v (.int .u64 y)]),(1,.cells nil4),(2,.cells [.row 3,.row 5,.row 4,.nil]),(3,.row 22 1 (s.cs.map eInts)),(4,.row 3 1 (s.ss.map eInt)),(5,.row 55 1 (rs.map eShs))],n:=6,m:=1 }
def le1 (c d e w:Int) (s:CoS) (rs:List (List Sh)) (t:EnS) (V k:Nat):St:={ t:=asg (loT c d e w++[(18,.row 6),(19,aI t.day),(20,aI ((V:Int) - (k:Int)))]),h:=hasg [(0,.cells [.v (.int .u64 t.x)]),(1,.cells nil4),(2,.cells [.row 3,.row 5,.row 4,.row 7]),(3,.row 22 1 (s.cs.map eInts)),(4,.row 3 1 (s.ss.map eInt)),(5,.row 55 1 (rs.map eShs)),(6,.row 3 1 (t.till.map eInt)),(7,.row 48 6 (t.es.map eEnt))],n:=8,m:=1 }
end Go.Sym.B
namespace Go.Sym.B
open Go Go.Sym Go.Proofs Go.Sym.C
end Go.Sym.B
namespace Go.Sym.B
open Go Go.Sym Go.Proofs Go.Sym.C
def stE (ss:List Int) (es:List Ent):Int × List Int:=es.foldl (fun s x=>(x.day,enterF s.2 x)) (0,ss)
theorem stE_snoc (ss:List Int) (es:List Ent) (x:Ent):stE ss (es++[x])=(x.day,enterF (stE ss es).2 x):=by unfold stE;rw [List.foldl_append];rfl
def VE (l:Led):Prop:=∀ j,j < l.entries.length→eV l (l.entries.getD j default) (stE l.start (l.entries.take j)).1 (stE l.start (l.entries.take j)).2=0
theorem VE.snoc {cs:List (List Int)} {rs:List (List Sh)} {ss:List Int} {es:List Ent} {x:Ent} (h:VE ⟨cs,rs,ss,es⟩) (hx:eV ⟨cs,rs,ss,[]⟩ x (stE ss es).1 (stE ss es).2=0):VE ⟨cs,rs,ss,es++[x]⟩:=fun j hj=>by
  have hj:j < es.length+1:=by simpa using hj
  show eV _ ((es++[x]).getD j default) (stE ss ((es++[x]).take j)).1 (stE ss ((es++[x]).take j)).2=0
  rcases Nat.lt_or_eq_of_le (Nat.le_of_lt_succ hj) with h1|h1
  · rw [getD_snocL h1,List.take_append_of_le_length (by omega)]
    exact h j h1
  · subst h1
    rw [getD_snocR rfl,List.take_left]
    exact hx
structure EnV (cs:List (List Int)) (rs:List (List Sh)) (ss:List Int) (s:EnS):Prop where
  v:VE ⟨cs,rs,ss,s.es⟩
  t:(stE ss s.es).2=s.till
  d:(stE ss s.es).1≤s.day
theorem EnV.add {cs:List (List Int)} {rs:List (List Sh)} {ss:List Int} {s:EnS} (h:EnV cs rs ss s) {x:Ent} {y:Int} {till:List Int} (hx:eV ⟨cs,rs,ss,[]⟩ x (stE ss s.es).1 s.till=0) (ht:enterF s.till x=till):EnV cs rs ss ⟨x.day,till,s.es++[x],y⟩ :=
  ⟨h.v.snoc (by rw [h.t];exact hx),by show (stE ss (s.es++[x])).2=till;rw [stE_snoc,h.t];exact ht,by show (stE ss (s.es++[x])).1≤x.day;rw [stE_snoc];exact Int.le_refl _⟩
theorem EnV.skip {cs:List (List Int)} {rs:List (List Sh)} {ss:List Int} {s:EnS} (h:EnV cs rs ss s) {d x:Int} (hd:s.day≤d):EnV cs rs ss ⟨d,s.till,s.es,x⟩ :=
  ⟨h.v,h.t,Int.le_trans h.d hd⟩
end Go.Sym.B
namespace Go.Sym.B
open Go Go.Sym Go.Proofs Go.Sym.C
end Go.Sym.B
namespace Go.Sym.B
open Go Go.Sym Go.Proofs Go.Sym.C
def aGains (l:Led):AV:=if checkE l ≠ 0 then .tup [.sl [],aI (checkE l)] else .tup [.sl ((gainsL l).map eQ),aI 0]
def gaT (l:Led) (G:List Rat) (k:Nat):St:={ t:=asg [(1,.ptr 0 0),(3,aI 0),(5,.row 1),(14,.sl (G.map eQ)),(15,aI G.length),(16,aI k)],h:=hasg [(0,.cells (cLed l)),(1,.row 59 2 ((G.take k).map eQ))],n:=2 }
theorem takeQ (l:List Rat) {k:Nat} (h:k < l.length):(l.take k).map eQ++[[.v (.int .i64 (l.getD k 0).num),.v (.int .i64 ((l.getD k 0).den:Int))]]=(l.take (k+1)).map eQ:=by
  rw [List.take_succ_eq_append_getElem h,List.map_append];simp [List.getD_eq_getElem?_getD,h,eQ,eSh,shQ]
def tbH7_38:=vj @ty3 (vj @ty30 (vj @ty38 (vj @ty55 (vj @ty59 (vj @ty107 (vj @ty115 (vj @ti3.eq_1 (vj @ti30.eq_1 (vj @ti38.eq_1 (vj @ti55.eq_1 (vj @ti59.eq_1 (vj @ti107.eq_1 @ti115.eq_1))))))))))))
def xbH7_1:=vj @aI.eq_1 (vj @aB.eq_1 (vj @aLed.eq_1 (vj @cLed.eq_1 (vj @gaT.eq_1 (vj @c50.eq_1 (vj @c50.eq_2 (vj @c96.eq_1 (vj @c96.eq_2 (vj @isL_e (vj @ldOf_e (vj @eQ.eq_1 (vj @eSh.eq_1 (vj @shQ.eq_1 (@rQ))))))))))))))
set_option maxHeartbeats 4000000 in
theorem gains38_fn (l:Led) (hl:Fit l):FnV Try.prog 38 [aLed l] (aGains l):=by
  have env:Env (fun _=>True) Try.prog tyB (tab [(50,valE true c50),(96,valE false c96)]):=mkEnv ⟨d50,d96,trivial⟩
  refine Fn.of (A:=fun _=>True) (n0:=0) (D:=noD) (Fn0 Try.func38 rfl (fun vs w=>by kernel_rfl) (by kernel_rfl)) (by simp) (by simp [AV.ids,AV.idsL,aLed,cLed]) (fun i o h=>by cases h) (fun _ _ _ _=>trivial) noD_ok ?_
  have q5:=tmax
  have q1:=hl.c
  by_cases h0:checkE l=0
  · have hV:=val_of h0
    rw [show aGains l=_ from if_neg (by rw [h0];simp)]
    have hGl:(gainsL l).length=l.coins.length:=by simp [gainsL]
    obtain ⟨G,hG⟩:∃ G,gainsL l=G:=⟨_,rfl⟩
    rw [hG] at hGl ⊢
    repeat' (first|(apply nx;with_reducible constructor)|refine uq (by decide) ?_|((first|refine vx env fun Q hQ=>?_|refine vz fun Q hQ=>?_);simp only [vkt,seval,tbH7_38,xbH7_1,h0,hG];(try simp only [ite_and]);(repeat' (first|with_reducible assumption|refine And.intro ?_ ?_|intro hp));all_goals (first|(refine hQ _ ?_;clear hQ Q)|(refine hQ _ (fun h=>?_) (fun h=>?_) <;> clear hQ Q <;> (try simp only [vki,reduceCtorEq] at h))|omega|assumption|with_reducible rfl|(refine vq ?_;kernel_rfl)|skip)))
    refine sym_loop (fun k:{ k:Nat // k≤G.length }=>gaT l G k.1) (fun k=>G.length - k.1) ⟨0,Nat.zero_le _⟩ ?_ fun ⟨k,hk⟩=>?_
    · (refine Le.ok (fun j=>if j=1 then none else some j) [] ?_;constructor;all_goals (try simp only [vle,vkt,seval,tbH7_38,xbH7_1]))
      all_goals first|rfl|(simp;done)
    · repeat' (first|(apply nx;with_reducible constructor)|refine uq (by decide) ?_)
      (refine vx env fun Q hQ=>?_;simp only [vkt,seval,tbH7_38,xbH7_1];(try simp only [ite_and]);(repeat' (first|with_reducible assumption|refine And.intro ?_ ?_|intro hp));all_goals (first|(refine hQ _ ?_;clear hQ Q)|omega|assumption|with_reducible rfl|(refine vq ?_;kernel_rfl)|skip))
      repeat' (first|(apply nx;with_reducible constructor)|refine uq (by decide) ?_)
      (refine sym_cd (by simp only [vkt,seval,tbH7_38,xbH7_1];rfl) (fun h=>?_) (fun h=>?_) <;> (try simp only [vki,reduceCtorEq] at h))
      · have hlt:k < G.length:=by omega
        have e9:=wrap_succ hlt (show G.length≤maxLen by omega)
        have e4:=takeQ G hlt
        have g1:(G.map eQ).getD k [.v (.int .i64 0),.v (.int .i64 0)]=[.v (.int .i64 (G.getD k 0).num),.v (.int .i64 ((G.getD k 0).den:Int))]:=by rw [gQ hlt];rfl
        have hk2:(G.take k).length=k:=by rw [List.length_take];omega
        have m1:(k+1) * 16≤140737488355328∧k+1≤maxLen:=by omega
        repeat' (first|(apply nx;with_reducible constructor)|refine uq (by decide) ?_|((first|refine vx env fun Q hQ=>?_|refine vz fun Q hQ=>?_);simp only [vkt,seval,tbH7_38,xbH7_1,g1,e4,e9,hk2];(try simp only [ite_and]);(repeat' (first|with_reducible assumption|refine And.intro ?_ ?_|intro hp));all_goals (first|(refine hQ _ ?_;clear hQ Q)|(refine hQ _ (fun h=>?_) (fun h=>?_) <;> clear hQ Q <;> (try simp only [vki,reduceCtorEq] at h))|omega|assumption|with_reducible rfl|(refine vq ?_;kernel_rfl)|skip)))
        refine ⟨⟨k+1,hlt⟩,by show G.length - (k+1) < G.length - k;omega, ?_⟩
        (refine Le.ok (fun j=>if j=1 then some 4 else some j) [] ?_;constructor;all_goals (try simp only [vle,vkt,seval,tbH7_38,xbH7_1]))
        all_goals first|rfl|(simp;done)
      · have hkn:k=G.length:=by omega
        subst hkn
        repeat' (first|(apply nx;with_reducible constructor)|refine uq (by decide) ?_|((first|refine vx env fun Q hQ=>?_|refine vz fun Q hQ=>?_);simp only [vkt,seval,tbH7_38,xbH7_1,List.take_length];(try simp only [ite_and]);(repeat' (first|with_reducible assumption|refine And.intro ?_ ?_|intro hp));all_goals (first|(refine hQ _ ?_;clear hQ Q)|(refine hQ _ (fun h=>?_) (fun h=>?_) <;> clear hQ Q <;> (try simp only [vki,reduceCtorEq] at h))|omega|assumption|with_reducible rfl|(refine vq ?_;kernel_rfl)|skip)))
        (simp only [vrt,Try.results38,vkt,seval,tbH7_38,xbH7_1];refine Fin.val rfl ?_;(try simp only [AV.le,AV.leL]))
        all_goals first|rfl|exact ⟨_,_,rfl⟩|exact ⟨⟨_,_,rfl⟩,trivial⟩|exact ⟨⟨_,_,rfl⟩,trivial,trivial⟩
  · rw [show aGains l=_ from if_pos h0]
    repeat' (first|(apply nx;with_reducible constructor)|refine uq (by decide) ?_|((first|refine vx env fun Q hQ=>?_|refine vz fun Q hQ=>?_);simp only [vkt,seval,tbH7_38,xbH7_1,h0];(try simp only [ite_and]);(repeat' (first|with_reducible assumption|refine And.intro ?_ ?_|intro hp));all_goals (first|(refine hQ _ ?_;clear hQ Q)|(refine hQ _ (fun h=>?_) (fun h=>?_) <;> clear hQ Q <;> (try simp only [vki,reduceCtorEq] at h))|omega|assumption|with_reducible rfl|(refine vq ?_;kernel_rfl)|skip)))
    (simp only [vrt,Try.results38,vkt,seval,tbH7_38,xbH7_1];refine Fin.val rfl ?_;(try simp only [AV.le,AV.leL]))
    all_goals first|rfl|(simp;done)
def c38:List AV→Prop × AV
  |[.agg [.sl cs,.sl rs,.sl ss,.sl es]]=>(isL cs rs ss es∧Fit (ldOf cs rs ss es),aGains (ldOf cs rs ss es))
  |_=>(False,.junk)
theorem d38 {A:Frm→Prop}:EntryOK A Try.prog 38 (valE false c38):=valE_ok fun vs hv h=>by
  clear hv
  unfold c38 at h ⊢
  split at h
  · refine ⟨by unfold aGains;split <;> simp [AV.plain,AV.plainL,aI],fun h=>absurd h (by decide), ?_⟩
    rw [← aLed_of h.1];exact gains38_fn _ h.2
  · exact h.elim
end Go.Sym.B
namespace Go.Sym.B
open Go Go.Sym Go.Proofs Go.Sym.C
def ltR (r:Int→Int) (x y:Int):Prop:=r y < r x∨(r y=r x∧x < y)
def Has (l:List Int) (x:Int):Prop:=∃ i,i < l.length∧l.getD i 0=x
structure SoK (r:Int→Int) (n k:Nat) (l:List Int):Prop where
  len:l.length=n
  so:∀ a b,a < b→b≤k→ltR r (l.getD a 0) (l.getD b 0)
  keep:∀ i,k < i→i < n→l.getD i 0=i
  lo:∀ a,a≤k→0≤l.getD a 0∧l.getD a 0≤k
  has:∀ i:Nat,i < n→Has l i
end Go.Sym.B
namespace Go.Sym.B
open Go Go.Sym Go.Proofs Go.Sym.C
end Go.Sym.B
namespace Go.Sym.B
open Go Go.Sym Go.Proofs Go.Sym.C
def tbG4_23:=vj @ty3 (vj @ty22 (vj @ti3.eq_1 @ti22.eq_1))
def xbG4_1:=vj @aI.eq_1 (vj @aB.eq_1 (vj @aInts.eq_1 (@rInt)))
theorem copy_fn (l:List Int) (hl:l.length≤100000):FnV Try.prog 23 [aInts l] (aInts l):=by
  have env:Env (fun _=>True) Try.prog tyB (tab []):=mkEnv trivial
  refine Fn.of (A:=fun _=>True) (n0:=0) (D:=noD) (Fn0 Try.func23 rfl (fun vs w=>by kernel_rfl) (by kernel_rfl)) (by simp) (by simp [AV.ids,AV.idsL,aInts]) (fun i o h=>by cases h) (fun _ _ _ _=>trivial) noD_ok ?_
  obtain ⟨b1,b2,b3,b4⟩:=b47 hl
  repeat' (first|(apply nx;with_reducible constructor)|refine uq (by decide) ?_|((first|refine vx env fun Q hQ=>?_|refine vz fun Q hQ=>?_);simp only [vkt,Nat.reduceEqDiff,Nat.reduceAdd,Nat.reduceMul,Nat.reduceSub,Nat.reduceLeDiff,reduceCtorEq,↓reduceIte,↓reduceDIte,Int.reduceToNat,Int.reduceLE,Int.reduceLT,Int.reduceEq,Int.reduceNeg,tbG4_23,xbG4_1];(try simp only [ite_and]);(repeat' (first|with_reducible assumption|refine And.intro ?_ ?_|intro hp));all_goals (first|(refine hQ _ ?_;clear hQ Q)|(refine hQ _ (fun h=>?_) (fun h=>?_) <;> clear hQ Q <;> (try simp only [vki,reduceCtorEq] at h))|omega|assumption|with_reducible rfl|(refine vq ?_;kernel_rfl)|skip)))
  (simp only [vrt,Try.results23,vkt,Nat.reduceEqDiff,Nat.reduceAdd,Nat.reduceMul,Nat.reduceSub,Nat.reduceLeDiff,reduceCtorEq,↓reduceIte,↓reduceDIte,Int.reduceToNat,Int.reduceLE,Int.reduceLT,Int.reduceEq,Int.reduceNeg,tbG4_23,xbG4_1];refine Fin.val rfl ?_;(try simp only [AV.le,AV.leL]))
  exact ⟨_,_,rfl⟩
def c23:List AV→Prop × AV
  |[.sl xs]=>(xs=(xs.map dInt).map eInt∧xs.length≤100000,.sl xs)
  |_=>(False,.junk)
theorem d23 {A:Frm→Prop}:EntryOK A Try.prog 23 (valE false c23):=valE_ok fun vs hv h=>by
  clear hv
  unfold c23 at h ⊢
  split at h
  · refine ⟨trivial,fun h=>absurd h (by decide), ?_⟩
    have:=copy_fn (List.map dInt _) (by rw [List.length_map];exact h.2)
    simp only [aInts,← h.1] at this
    exact this
  · exact h.elim
end Go.Sym.B
namespace Go.Sym.B
open Go Go.Sym Go.Proofs Go.Sym.C
theorem takeI (l:List (List Int)) {k:Nat} (h:k < l.length):(l.take k).map eInts++[[.sl ((l.getD k []).map eInt)]]=(l.take (k+1)).map eInts:=by
  rw [List.take_succ_eq_append_getElem h,List.map_append];simp [List.getD_eq_getElem?_getD,h,eInts]
def crT (l:List (List Int)) (k:Nat):St:={ t:=asg [(0,aIntss l),(2,.nil),(3,.row 0),(4,aI k)],h:=hasg [(0,.row 22 1 ((l.take k).map eInts))],n:=1 }
def tbH6_104:=vj @ty3 (vj @ty22 (vj @ty28 (vj @ti3.eq_1 (vj @ti22.eq_1 @ti28.eq_1))))
def xbH6_1:=vj @aI.eq_1 (vj @aB.eq_1 (vj @aInts.eq_1 (vj @aIntss.eq_1 (vj @crT.eq_1 (vj @c23.eq_1 (vj @c23.eq_2 (vj @gInts (vj @eInts.eq_1 (vj @mInt (vj @rInts (@rInt)))))))))))
theorem copyRows_fn (l:List (List Int)) (hl:l.length≤20) (hp:∀ p ∈ l,p.length≤100000):FnV Try.prog 104 [aIntss l] (aIntss l):=by
  have env:Env (fun _=>True) Try.prog tyB (tab [(23,valE false c23)]):=mkEnv ⟨d23,trivial⟩
  refine Fn.of (A:=fun _=>True) (n0:=0) (D:=noD) (Fn0 Try.func104 rfl (fun vs w=>by kernel_rfl) (by kernel_rfl)) (by simp) (by simp [AV.ids,AV.idsL,aIntss]) (fun i o h=>by cases h) (fun _ _ _ _=>trivial) noD_ok ?_
  have q5:=tmax
  repeat' (first|(apply nx;with_reducible constructor)|refine uq (by decide) ?_|((first|refine vx env fun Q hQ=>?_|refine vz fun Q hQ=>?_);simp only [vkt,seval,tbH6_104,xbH6_1];(try simp only [ite_and]);(repeat' (first|with_reducible assumption|refine And.intro ?_ ?_|intro hp));all_goals (first|(refine hQ _ ?_;clear hQ Q)|(refine hQ _ (fun h=>?_) (fun h=>?_) <;> clear hQ Q <;> (try simp only [vki,reduceCtorEq] at h))|omega|assumption|with_reducible rfl|(refine vq ?_;kernel_rfl)|skip)))
  refine sym_loop (fun k:{ k:Nat // k≤l.length }=>crT l k.1) (fun k=>l.length - k.1) ⟨0,Nat.zero_le _⟩ ?_ fun ⟨k,hk⟩=>?_
  · (refine Le.ok (fun _=>none) [] ?_;constructor;all_goals (try simp only [vle,vkt,seval,tbH6_104,xbH6_1]))
    all_goals first|rfl|(simp;done)
  · repeat' (first|(apply nx;with_reducible constructor)|refine uq (by decide) ?_)
    (refine vx env fun Q hQ=>?_;simp only [vkt,seval,tbH6_104,xbH6_1];(try simp only [ite_and]);(repeat' (first|with_reducible assumption|refine And.intro ?_ ?_|intro hp));all_goals (first|(refine hQ _ ?_;clear hQ Q)|omega|assumption|with_reducible rfl|(refine vq ?_;kernel_rfl)|skip))
    repeat' (first|(apply nx;with_reducible constructor)|refine uq (by decide) ?_)
    (refine sym_cd (by simp only [vkt,seval,tbH6_104,xbH6_1];rfl) (fun h=>?_) (fun h=>?_) <;> (try simp only [vki,reduceCtorEq] at h))
    · have hlt:k < l.length:=by omega
      have e9:=wrap_succ hlt (show l.length≤maxLen by omega)
      have hpl:=hp _ (gMem (d:=[]) hlt)
      have e4:=takeI l hlt
      have hk2:(l.take k).length=k:=by rw [List.length_take];omega
      obtain ⟨p,hP⟩:∃ p,l.getD k []=p:=⟨_,rfl⟩
      rw [hP] at e4 hpl
      have m1:(k+1) * 24≤140737488355328∧k+1≤maxLen:=by omega
      repeat' (first|(apply nx;with_reducible constructor)|refine uq (by decide) ?_|((first|refine vx env fun Q hQ=>?_|refine vz fun Q hQ=>?_);simp only [vkt,seval,tbH6_104,xbH6_1,hP,e4,e9,hk2];(try simp only [ite_and]);(repeat' (first|with_reducible assumption|refine And.intro ?_ ?_|intro hp));all_goals (first|(refine hQ _ ?_;clear hQ Q)|(refine hQ _ (fun h=>?_) (fun h=>?_) <;> clear hQ Q <;> (try simp only [vki,reduceCtorEq] at h))|omega|assumption|with_reducible rfl|(refine vq ?_;kernel_rfl)|skip)))
      refine ⟨⟨k+1,hlt⟩,by show l.length - (k+1) < l.length - k;omega, ?_⟩
      (refine Le.ok (fun j=>if j=0 then some 2 else some j) [] ?_;constructor;all_goals (try simp only [vle,vkt,seval,tbH6_104,xbH6_1]))
      all_goals first|rfl|(simp;done)
    · have hkn:k=l.length:=by omega
      subst hkn
      repeat' (first|(apply nx;with_reducible constructor)|refine uq (by decide) ?_|((first|refine vx env fun Q hQ=>?_|refine vz fun Q hQ=>?_);simp only [vkt,seval,tbH6_104,xbH6_1];(try simp only [ite_and]);(repeat' (first|with_reducible assumption|refine And.intro ?_ ?_|intro hp));all_goals (first|(refine hQ _ ?_;clear hQ Q)|(refine hQ _ (fun h=>?_) (fun h=>?_) <;> clear hQ Q <;> (try simp only [vki,reduceCtorEq] at h))|omega|assumption|with_reducible rfl|(refine vq ?_;kernel_rfl)|skip)))
      (simp only [vrt,Try.results104,vkt,seval,tbH6_104,xbH6_1];refine Fin.val rfl ?_;(try simp only [AV.le,AV.leL]))
      all_goals first|(rw [List.take_length];exact ⟨_,_,rfl⟩)
def c104:List AV→Prop × AV
  |[.sl xs]=>(xs=(xs.map dInts).map eInts∧xs.length≤20∧∀ p ∈ xs.map dInts,p.length≤100000,.sl xs)
  |_=>(False,.junk)
theorem d104 {A:Frm→Prop}:EntryOK A Try.prog 104 (valE false c104):=valE_ok fun vs hv h=>by
  clear hv
  unfold c104 at h ⊢
  split at h
  · refine ⟨trivial,fun h=>absurd h (by decide), ?_⟩
    have:=copyRows_fn (List.map dInts _) (by rw [List.length_map];exact h.2.1) h.2.2
    simp only [aIntss,← h.1] at this
    exact this
  · exact h.elim
theorem Fit.csl {l:Led} (h:Fit l):∀ p ∈ l.coins,p.length≤100000:=fun p hp=>by have:=h.cs p hp;omega
end Go.Sym.B
namespace Go.Sym.B
open Go Go.Sym Go.Proofs Go.Sym.C
def esT (r:List Sh) (k:Nat):St:={ t:=asg [(0,aShs r),(1,aShs r),(4,aB false),(5,aI k)],h:=hasg [],n:=0 }
def tbJ2_57:=vj @ty3 (vj @ty55 (vj @ty59 (vj @ti3.eq_1 (vj @ti55.eq_1 @ti59.eq_1))))
def xbJ2_3:=vj @aI.eq_1 (vj @aB.eq_1 (vj @aShs.eq_1 (vj @esT.eq_1 (vj @gSh (@eSh.eq_1)))))
theorem eqShs_fn (r:List Sh) (hl:r.length≤maxLen):FnV Try.prog 57 [aShs r,aShs r] (aB true):=by
  have env:Env (fun _=>True) Try.prog tyB (tab []):=mkEnv trivial
  refine Fn.of (A:=fun _=>True) (n0:=0) (D:=noD) (Fn0 Try.func57 rfl (fun vs w=>by kernel_rfl) (by kernel_rfl)) (by simp) (by simp [AV.ids,AV.idsL,aShs]) (fun i o h=>by cases h) (fun _ _ _ _=>trivial) noD_ok ?_
  have zn:∀ n:Int,decide (n=n)=true:=fun n=>decide_eq_true rfl
  repeat' (first|(apply nx;with_reducible constructor)|refine uq (by decide) ?_|((first|refine vx env fun Q hQ=>?_|refine vz fun Q hQ=>?_);simp only [vkt,seval,tbJ2_57,xbJ2_3,zn];(try simp only [ite_and]);(repeat' (first|with_reducible assumption|refine And.intro ?_ ?_|intro hp));all_goals (first|(refine hQ _ ?_;clear hQ Q)|(refine hQ _ (fun h=>?_) (fun h=>?_) <;> clear hQ Q <;> (try simp only [vki,reduceCtorEq] at h))|omega|assumption|with_reducible rfl|(refine vq ?_;kernel_rfl)|skip)))
  refine sym_loop (fun k:{ k:Nat // k≤r.length }=>esT r k.1) (fun k=>r.length - k.1) ⟨0,Nat.zero_le _⟩ ?_ fun ⟨k,hk⟩=>?_
  · (refine Le.ok some [] ?_;constructor;all_goals (try simp only [vle,vkt,seval,tbJ2_57,xbJ2_3]))
    all_goals first|rfl|(simp;done)
  · by_cases hlt:k < r.length
    · have d1:decide ((k:Int) < (r.length:Int))=true:=decide_eq_true (by omega)
      have e9:=wrap_succ hlt hl
      repeat' (first|(apply nx;with_reducible constructor)|refine uq (by decide) ?_|((first|refine vx env fun Q hQ=>?_|refine vz fun Q hQ=>?_);simp only [vkt,seval,tbJ2_57,xbJ2_3,d1,e9,zn];(try simp only [ite_and]);(repeat' (first|with_reducible assumption|refine And.intro ?_ ?_|intro hp));all_goals (first|(refine hQ _ ?_;clear hQ Q)|(refine hQ _ (fun h=>?_) (fun h=>?_) <;> clear hQ Q <;> (try simp only [vki,reduceCtorEq] at h))|omega|assumption|with_reducible rfl|(refine vq ?_;kernel_rfl)|skip)))
      refine ⟨⟨k+1,hlt⟩,by show r.length - (k+1) < r.length - k;omega, ?_⟩
      (refine Le.ok some [] ?_;constructor;all_goals (try simp only [vle,vkt,seval,tbJ2_57,xbJ2_3]))
      all_goals first|rfl|(simp;done)
    · have d1:decide ((k:Int) < (r.length:Int))=false:=decide_eq_false (by omega)
      repeat' (first|(apply nx;with_reducible constructor)|refine uq (by decide) ?_|((first|refine vx env fun Q hQ=>?_|refine vz fun Q hQ=>?_);simp only [vkt,seval,tbJ2_57,xbJ2_3,d1];(try simp only [ite_and]);(repeat' (first|with_reducible assumption|refine And.intro ?_ ?_|intro hp));all_goals (first|(refine hQ _ ?_;clear hQ Q)|(refine hQ _ (fun h=>?_) (fun h=>?_) <;> clear hQ Q <;> (try simp only [vki,reduceCtorEq] at h))|omega|assumption|with_reducible rfl|(refine vq ?_;kernel_rfl)|skip)))
      (simp only [vrt,Try.results57,vkt,seval,tbJ2_57,xbJ2_3];refine Fin.val rfl ?_;(try simp only [AV.le,AV.leL]))
      all_goals first|rfl|(simp;done)
def c57:List AV→Prop × AV
  |[.sl xs,.sl ys]=>(ys=xs∧xs=(xs.map dSh).map eSh∧xs.length≤100000,aB true)
  |_=>(False,.junk)
theorem d57 {A:Frm→Prop}:EntryOK A Try.prog 57 (valE true c57):=valE_ok fun vs hv h=>by
  clear hv
  unfold c57 at h ⊢
  split at h
  · rename_i xs ys
    obtain ⟨h1,h2,h3⟩:=h
    refine ⟨by simp [AV.plain,aB],fun _=>by simp [AV.flat,aB], ?_⟩
    have:=eqShs_fn (xs.map dSh) (by
        rw [List.length_map];have:(100000:Nat)≤maxLen:=by decide
        omega)
    simp only [aShs,← h2] at this
    rw [h1];exact this
  · exact h.elim
end Go.Sym.B
namespace Go.Sym.B
open Go Go.Sym Go.Proofs Go.Sym.C
theorem gains_len (l:Led):(gainsL l).length=l.coins.length:=by simp [gainsL]
end Go.Sym.B
namespace Go.Sym.B
open Go Go.Sym Go.Proofs Go.Sym.C
def ti55d:TI:={ cells:=1,bytes:=24,td:=.slice 59,zero:=[.nil],eqk:=none,deep:=true }
def tyD (t:Nat):Option TI:=bif t == 55 then some ti55d else tyB t
theorem tyD_ok:TysOK Try.prog tyD:=fun t i h=>by
  unfold tyD at h
  by_cases ht:t=55
  · subst ht
    have f:=tyB_ok 55 _ ty55
    simp only [beq_self_eq_true,cond_true,Option.some.injEq] at h
    subst h
    exact ⟨f.info,f.under,f.fsz,f.eq,f.key⟩
  · rw [show (t == 55)=false by simpa using ht] at h
    exact tyB_ok t i h
theorem deepE {Φ:Ctr} (h:Env (fun _=>True) Try.prog tyB Φ):Env (fun _=>True) Try.prog tyD Φ:=⟨tyD_ok,h.ctr,h.mixed⟩
def rid (k:Nat):List AV:=[AV.row 20,.row 21,.row 22].take k
theorem rid_len {k:Nat} (h:k≤3):(rid k).length=k:=by simp [rid];omega
theorem rid0:rid 0=[]:=rfl
theorem rid1:rid 1=[.row 20]:=rfl
theorem rid2:rid 2=[.row 20,.row 21]:=rfl
theorem rid3:rid 3=[.row 20,.row 21,.row 22]:=rfl
def rkv (rs:List (List Sh)) (k i:Nat):List (List DV):=if i < k then (rs.getD i []).map eSh else []
def cdT (l:Led) (k:Nat):St:={ t:=asg [(1,.ptr 0 0),(2,.ptr 1 0),(3,.sl (l.rates.map eShs)),(4,aI k)],h:=hasg [(0,.cells [.sl (l.coins.map eInts),.row 2,.sl (l.start.map eInt),.sl (l.entries.map eEnt)]),(1,.cells [.nil,.nil,.nil,.nil]),(2,.rows 55 (rid k)),(20,.row 59 2 (rkv l.rates k 0)),(21,.row 59 2 (rkv l.rates k 1)),(22,.row 59 2 (rkv l.rates k 2))],n:=23 }
def tbL4_43:=vj @ty3 (vj @ty22 (vj @ty28 (vj @ty35 (vj @ty36 (vj @ty38 (vj @ty48 (vj @ty55 (vj @ty59 (vj @ti3.eq_1 (vj @ti22.eq_1 (vj @ti28.eq_1 (vj @ti35.eq_1 (vj @ti36.eq_1 (vj @ti38.eq_1 (vj @ti48.eq_1 (vj @ti55.eq_1 @ti59.eq_1))))))))))))))))
def xbL4_1:=vj @aI.eq_1 (vj @aB.eq_1 (vj @aLed.eq_1 (vj @cLed.eq_1 (vj @c104.eq_1 (vj @c104.eq_2 (vj @p23r.eq_1 (vj @p23r.eq_2 (vj @p23r.eq_3 (vj @gInts (vj @eInts.eq_1 (vj @gShs (vj @eShs.eq_1 (vj @mInt (vj @mInts (vj @rInts (vj @rInt (vj @rShs (vj @rSh (vj @rEnt (@flInt))))))))))))))))))))
set_option maxHeartbeats 4000000 in
theorem copyLedD_fn (l:Led) (hl:Fit l) (hW:l.rates.length≤3):Fn noB Try.prog 43 [aLed l] noH (.agg [.sl (l.coins.map eInts),.row 0,.row 4,.sl (l.entries.map eEnt)])
    (hasg [(0,.rows 55 ([AV.row 1,.row 2,.row 3].take l.rates.length)),(1,.row 59 2 (rkv l.rates l.rates.length 0)),(2,.row 59 2 (rkv l.rates l.rates.length 1)),(3,.row 59 2 (rkv l.rates l.rates.length 2)),(4,.row 3 1 (l.start.map eInt))]) 0:=by
  have env0:Env (fun _=>True) Try.prog tyB (tab [(23,fnE p23r),(104,valE false c104)]):=mkEnv ⟨e23r,d104,trivial⟩
  have env:=deepE env0
  clear env0
  refine Fn.of (A:=fun _=>True) (n0:=0) (D:=noD) (Fn0 Try.func43 rfl (fun vs w=>by kernel_rfl) (by kernel_rfl)) (by simp) (by simp [AV.ids,AV.idsL,aLed,cLed]) (fun i o h=>by cases h) (fun _ _ _ _=>trivial) noD_ok ?_
  have q1:=hl.c
  have q2:=hl.r
  have q3:=hl.e
  have q4:l.start.length≤100000:=by have:=hl.s;omega
  have q5:=tmax
  have q6:=hl.csl
  have m0:l.entries.length * 48≤140737488355328∧l.entries.length≤maxLen:=by omega
  repeat' (first|(apply nx;with_reducible constructor)|refine uq (by decide) ?_|((first|refine vx env fun Q hQ=>?_|refine vz fun Q hQ=>?_);simp only [vkt,seval,tbL4_43,xbL4_1,cdT,tyD,ti55d];(try simp only [ite_and]);(repeat' (first|with_reducible assumption|refine And.intro ?_ ?_|intro hp));all_goals (first|(refine hQ _ ?_;clear hQ Q)|(refine hQ _ (fun h=>?_) (fun h=>?_) <;> clear hQ Q <;> (try simp only [vki,reduceCtorEq] at h))|omega|assumption|with_reducible rfl|(refine vq ?_;kernel_rfl)|skip)))
  refine sym_loop (fun k:{ k:Nat // k≤l.rates.length }=>cdT l k.1) (fun k=>l.rates.length - k.1) ⟨0,Nat.zero_le _⟩ ?_ fun ⟨k,hk⟩=>?_
  · (refine Le.ok (fun j=>if j < 2 then some j else none) [] ?_;constructor;all_goals (try simp only [vle,vkt,seval,tbL4_43,xbL4_1,cdT,tyD,ti55d]))
    all_goals first|rfl|(simp [-List.getD_eq_getElem?_getD,rid0,rkv,AV.ids,AV.idsL];done)
  · repeat' (first|(apply nx;with_reducible constructor)|refine uq (by decide) ?_)
    (refine vx env fun Q hQ=>?_;simp only [vkt,seval,tbL4_43,xbL4_1,cdT,tyD,ti55d];(try simp only [ite_and]);(repeat' (first|with_reducible assumption|refine And.intro ?_ ?_|intro hp));all_goals (first|(refine hQ _ ?_;clear hQ Q)|omega|assumption|with_reducible rfl|(refine vq ?_;kernel_rfl)|skip))
    repeat' (first|(apply nx;with_reducible constructor)|refine uq (by decide) ?_)
    (refine sym_cd (by simp only [vkt,seval,tbL4_43,xbL4_1,cdT,tyD,ti55d];rfl) (fun h=>?_) (fun h=>?_) <;> (try simp only [vki,reduceCtorEq] at h))
    · have hlt:k < l.rates.length:=by omega
      have e9:=wrap_succ hlt (show l.rates.length≤maxLen by omega)
      have hpl:=hl.rs _ (gMem (d:=[]) hlt)
      obtain ⟨p,hP⟩:∃ p,l.rates.getD k []=p:=⟨_,rfl⟩
      rw [hP] at hpl
      have lk:=rid_len (k:=k) (by omega)
      have m1:(k+1) * 24≤140737488355328∧k+1≤maxLen:=by omega
      have m2:p.length * 16≤140737488355328∧p.length≤maxLen:=by omega
      repeat' (first|(apply nx;with_reducible constructor)|refine uq (by decide) ?_|((first|refine vx env fun Q hQ=>?_|refine vz fun Q hQ=>?_);simp only [vkt,seval,tbL4_43,xbL4_1,cdT,tyD,ti55d,hP,e9,lk];(try simp only [ite_and]);(repeat' (first|with_reducible assumption|refine And.intro ?_ ?_|intro hp));all_goals (first|(refine hQ _ ?_;clear hQ Q)|(refine hQ _ (fun h=>?_) (fun h=>?_) <;> clear hQ Q <;> (try simp only [vki,reduceCtorEq] at h))|omega|assumption|with_reducible rfl|(refine vq ?_;kernel_rfl)|skip)))
      refine ⟨⟨k+1,hlt⟩,by show l.rates.length - (k+1) < l.rates.length - k;omega, ?_⟩
      rcases (show k=0∨k=1∨k=2 by omega) with rfl|rfl|rfl
      · (refine Le.ok (fun j=>if j=2 then some 25 else if j=20 then some 23 else some j) [] ?_;constructor;all_goals (try simp only [vle,vkt,seval,tbL4_43,xbL4_1,cdT,tyD,ti55d]))
        all_goals first|rfl|(simp [-List.getD_eq_getElem?_getD,rid0,rid1,rkv,hP,AV.le,AV.leL,AV.ids,AV.idsL];done)
      · (refine Le.ok (fun j=>if j=2 then some 25 else if j=21 then some 23 else some j) [] ?_;constructor;all_goals (try simp only [vle,vkt,seval,tbL4_43,xbL4_1,cdT,tyD,ti55d]))
        all_goals first|rfl|(simp [-List.getD_eq_getElem?_getD,rid2,rid1,rkv,hP,AV.le,AV.leL,AV.ids,AV.idsL];done)
      · (refine Le.ok (fun j=>if j=2 then some 25 else if j=22 then some 23 else some j) [] ?_;constructor;all_goals (try simp only [vle,vkt,seval,tbL4_43,xbL4_1,cdT,tyD,ti55d]))
        all_goals first|rfl|(simp [-List.getD_eq_getElem?_getD,rid2,rid3,rkv,hP,AV.le,AV.leL,AV.ids,AV.idsL];done)
    · have hkn:k=l.rates.length:=by omega
      subst hkn
      repeat' (first|(apply nx;with_reducible constructor)|refine uq (by decide) ?_|((first|refine vx env fun Q hQ=>?_|refine vz fun Q hQ=>?_);simp only [vkt,seval,tbL4_43,xbL4_1,cdT,tyD,ti55d];(try simp only [ite_and]);(repeat' (first|with_reducible assumption|refine And.intro ?_ ?_|intro hp));all_goals (first|(refine hQ _ ?_;clear hQ Q)|(refine hQ _ (fun h=>?_) (fun h=>?_) <;> clear hQ Q <;> (try simp only [vki,reduceCtorEq] at h))|omega|assumption|with_reducible rfl|(refine vq ?_;kernel_rfl)|skip)))
      rcases (show l.rates.length=0∨l.rates.length=1∨l.rates.length=2∨l.rates.length=3 by omega) with h|h|h|h
      all_goals
        rw [h]
        (simp only [vrt,Try.results43,vkt,seval,tbL4_43,xbL4_1,cdT,tyD,ti55d];refine Fin.ok (fun j=>if j=0 then some 2 else if j=1 then some 20 else if j=2 then some 21 else if j=3 then some 22 else if j=4 then some 23 else none) [24] ?_ ?_ ?_ ?_ ?_ rfl;all_goals (try simp only [vle,vkt,seval,tbL4_43,xbL4_1,cdT,tyD,ti55d]))
        all_goals first|rfl|(simp [-List.getD_eq_getElem?_getD,rid0,rid1,rid2,rid3,AV.le,AV.leL,AV.ids,AV.idsL];done)|exact ⟨_,_,rfl⟩
end Go.Sym.B
namespace Go.Sym.B
open Go Go.Sym Go.Proofs Go.Sym.C
def le0 (c d:Int) (s:CoS) (rs:List (List Sh)) (y:Int):St:={ t:=asg (loT c d 0 0++[(18,.row 6),(19,aI 0),(20,aI 0)]),h:=hasg [(0,.cells [.v (.int .u64 y)]),(1,.cells nil4),(2,.cells [.row 3,.row 5,.row 4,.nil]),(3,.row 22 1 (s.cs.map eInts)),(4,.row 3 1 (s.ss.map eInt)),(5,.row 55 1 (rs.map eShs)),(6,.row 3 1 (s.ss.map eInt))],n:=7,m:=1 }
def lg0H (x c d:Int) (y:Int) (L:Led):List (Nat × AObj):=[(0,.cells [.v (.int .u64 y)]),(1,.row 3 1 (L.start.map eInt))]
def tbL5_27:=vj @ty3 (vj @ty22 (vj @ty28 (vj @ty35 (vj @ty36 (vj @ty38 (vj @ty48 (vj @ty55 (vj @ty59 (vj @ti3.eq_1 (vj @ti22.eq_1 (vj @ti28.eq_1 (vj @ti35.eq_1 (vj @ti36.eq_1 (vj @ti38.eq_1 (vj @ti48.eq_1 (vj @ti55.eq_1 @ti59.eq_1))))))))))))))))
def xbL5_1:=vj @aI.eq_1 (vj @aB.eq_1 (vj @aSh.eq_1 (vj @aLed.eq_1 (vj @cLed.eq_1 (vj @aInts.eq_1 (vj @aShs.eq_1 (vj @bgH.eq_1 (vj @mInt (vj @dIntW (vj @loT.eq_1 (vj @nil4.eq_1 (vj @lo1.eq_1 (vj @lo2.eq_1 (vj @lo3.eq_1 (vj @ld1.eq_1 (vj @ld2.eq_1 (vj @ld3.eq_1 (vj @le1.eq_1 (vj @p21.eq_1 (vj @p21.eq_2 (vj @p22.eq_1 (vj @p22.eq_2 (vj @p84.eq_1 (vj @p84.eq_2 (vj @p85.eq_1 (vj @p85.eq_2 (vj @p71.eq_1 (vj @p71.eq_2 (vj @s54.eq_1 (vj @s54.eq_2 (vj @p23r.eq_1 (vj @p23r.eq_2 (vj @p23r.eq_3 (vj @gInt (vj @eInt.eq_1 (vj @eShs.eq_1 (vj @rInt (vj @rSh (vj @rEnt (vj @rInts (vj @rShs (@flInt))))))))))))))))))))))))))))))))))))))))))
set_option maxRecDepth 100000 in
set_option maxHeartbeats 40000000 in
theorem ledger0_fn (x c d:Int) (hc:1≤c∧c≤4) (hd:1≤d∧d≤4):Fn noB Try.prog 27 [.ptr 0 0,aI c,aI d,aI 0,aI 0] (hasg (bgH x)) (.agg [.sl ((lgL x c d 0 0).coins.map eInts),.sl ((lgL x c d 0 0).rates.map eShs),.row 1,.sl []]) (hasg (lg0H x c d (lgS x c d 0 0) (lgL x c d 0 0))) 0:=by
  have he:(0:Int)≤0∧(0:Int)≤6:=by decide
  have env:Env (fun _=>True) Try.prog tyB (tab [(21,fnE p21),(22,fnE p22),(23,fnE p23r),(84,fnE p84),(85,fnE p85),(71,fnE p71),(54,valE true s54)]):=mkEnv ⟨e21,e22,e23r,e84,e85,e71,e54,trivial⟩
  refine Fn.of (A:=fun _=>True) (n0:=1) (D:=noD) (Fn0 Try.func27 rfl (fun vs w=>by kernel_rfl) (by kernel_rfl)) (by simp) (by simp [AV.ids,AV.idsL,aI]) ?_ (fun _ _ _ _=>trivial) noD_ok ?_
  · intro i o hi
    have h:=hasg_mem hi
    simp [bgH] at h
    rcases h with ⟨rfl,rfl⟩;simp [AObj.ids,AV.ids,AV.idsL]
  have mc:min c 4=c:=by omega
  have md:min d 4=d:=by omega
  have me:min (0:Int) 6=0:=by decide
  have big:(100000:Nat)≤maxLen:=by decide
  have hu:=upV_le (x:=x) (m:=c - 1) (by omega) (by omega)
  obtain ⟨V,hV⟩:∃ V:Nat,1+upV x (c - 1)=(V:Int):=⟨(1+upV x (c - 1)).toNat,by omega⟩
  have hV1:1≤V∧V≤4:=by omega
  have g1:lg1 x c=coK (upS x (c - 1)) V:=by unfold lg1;rw [hV];rfl
  generalize hb:upS x (c - 1)=b at *
  repeat' (first|(apply nx;with_reducible constructor)|refine uq (by decide) ?_|((first|refine vx env fun Q hQ=>?_|refine vz fun Q hQ=>?_);simp only [vkt,Nat.reduceEqDiff,Nat.reduceAdd,Nat.reduceMul,Nat.reduceSub,Nat.reduceLeDiff,reduceCtorEq,↓reduceIte,↓reduceDIte,Int.reduceToNat,Int.reduceLE,Int.reduceLT,Int.reduceEq,Int.reduceNeg,tbL5_27,xbL5_1,List.map_cons,List.map_nil,List.length_cons,List.length_nil,le0,lg0H,List.nil_append,List.append_nil,List.cons_append,mc,hV,hb];(try simp only [ite_and]);(repeat' (first|with_reducible assumption|refine And.intro ?_ ?_|intro hp));all_goals (first|(refine hQ _ ?_;clear hQ Q)|(refine hQ _ (fun h=>?_) (fun h=>?_) <;> clear hQ Q <;> (try simp only [vki,reduceCtorEq] at h))|omega|assumption|with_reducible rfl|(refine vq ?_;kernel_rfl)|skip)))
  refine sym_loop (fun k:{ k:Nat // k≤V }=>lo1 c d 0 0 b V k.1) (fun k=>V - k.1) ⟨0,Nat.zero_le _⟩ ?_ fun ⟨k,hk⟩=>?_
  · (refine Le.ok (fun j=>if j=3∨j=4 then none else some j) [] ?_;constructor;all_goals (try simp only [vle,vkt,Nat.reduceEqDiff,Nat.reduceAdd,Nat.reduceMul,Nat.reduceSub,Nat.reduceLeDiff,reduceCtorEq,↓reduceIte,↓reduceDIte,Int.reduceToNat,Int.reduceLE,Int.reduceLT,Int.reduceEq,Int.reduceNeg,tbL5_27,xbL5_1,List.map_cons,List.map_nil,List.length_cons,List.length_nil,le0,lg0H,List.nil_append,List.append_nil,List.cons_append]))
    all_goals first|rfl|(simp [coK,hb,hV];done)
  · repeat' (first|(apply nx;with_reducible constructor)|refine uq (by decide) ?_)
    (refine vx env fun Q hQ=>?_;simp only [vkt,Nat.reduceEqDiff,Nat.reduceAdd,Nat.reduceMul,Nat.reduceSub,Nat.reduceLeDiff,reduceCtorEq,↓reduceIte,↓reduceDIte,Int.reduceToNat,Int.reduceLE,Int.reduceLT,Int.reduceEq,Int.reduceNeg,tbL5_27,xbL5_1,List.map_cons,List.map_nil,List.length_cons,List.length_nil,le0,lg0H,List.nil_append,List.append_nil,List.cons_append];(try simp only [ite_and]);(repeat' (first|with_reducible assumption|refine And.intro ?_ ?_|intro hp));all_goals (first|(refine hQ _ ?_;clear hQ Q)|omega|assumption|with_reducible rfl|(refine vq ?_;kernel_rfl)|skip))
    repeat' (first|(apply nx;with_reducible constructor)|refine uq (by decide) ?_)
    (refine sym_cd (by simp only [vkt,Nat.reduceEqDiff,Nat.reduceAdd,Nat.reduceMul,Nat.reduceSub,Nat.reduceLeDiff,reduceCtorEq,↓reduceIte,↓reduceDIte,Int.reduceToNat,Int.reduceLE,Int.reduceLT,Int.reduceEq,Int.reduceNeg,tbL5_27,xbL5_1,List.map_cons,List.map_nil,List.length_cons,List.length_nil,le0,lg0H,List.nil_append,List.append_nil,List.cons_append];rfl) (fun h=>?_) (fun h=>?_) <;> (try simp only [vki,reduceCtorEq] at h))
    · have hlt:k < V:=by omega
      have ok:=coK_ok b k
      have hs:=coK_succ b k
      generalize coK b k=s at *
      have u1:=upV_le (x:=s.x) (m:=3) (by decide) (by decide)
      unfold coStep at hs
      obtain ⟨K,hK⟩:∃ K:Nat,upV s.x 3=(K:Int):=⟨(upV s.x 3).toNat,by omega⟩
      rw [hK,Int.toNat_natCast] at hs
      generalize hy:upS s.x 3=y at *
      repeat' (first|(apply nx;with_reducible constructor)|refine uq (by decide) ?_|((first|refine vx env fun Q hQ=>?_|refine vz fun Q hQ=>?_);simp only [vkt,Nat.reduceEqDiff,Nat.reduceAdd,Nat.reduceMul,Nat.reduceSub,Nat.reduceLeDiff,reduceCtorEq,↓reduceIte,↓reduceDIte,Int.reduceToNat,Int.reduceLE,Int.reduceLT,Int.reduceEq,Int.reduceNeg,tbL5_27,xbL5_1,List.map_cons,List.map_nil,List.length_cons,List.length_nil,le0,lg0H,List.nil_append,List.append_nil,List.cons_append,hK,hy];(try simp only [ite_and]);(repeat' (first|with_reducible assumption|refine And.intro ?_ ?_|intro hp));all_goals (first|(refine hQ _ ?_;clear hQ Q)|(refine hQ _ (fun h=>?_) (fun h=>?_) <;> clear hQ Q <;> (try simp only [vki,reduceCtorEq] at h))|omega|assumption|with_reducible rfl|(refine vq ?_;kernel_rfl)|skip)))
      refine sym_loop (fun j:{ j:Nat // j≤K }=>lo2 c d 0 0 s y V k K j.1) (fun j=>K - j.1) ⟨0,Nat.zero_le _⟩ ?_ fun ⟨j,hj⟩=>?_
      · (refine Le.ok some [] ?_;constructor;all_goals (try simp only [vle,vkt,Nat.reduceEqDiff,Nat.reduceAdd,Nat.reduceMul,Nat.reduceSub,Nat.reduceLeDiff,reduceCtorEq,↓reduceIte,↓reduceDIte,Int.reduceToNat,Int.reduceLE,Int.reduceLT,Int.reduceEq,Int.reduceNeg,tbL5_27,xbL5_1,List.map_cons,List.map_nil,List.length_cons,List.length_nil,le0,lg0H,List.nil_append,List.append_nil,List.cons_append]))
        all_goals first|rfl|(simp [pcK,eInt];done)
      · repeat' (first|(apply nx;with_reducible constructor)|refine uq (by decide) ?_)
        (refine vx env fun Q hQ=>?_;simp only [vkt,Nat.reduceEqDiff,Nat.reduceAdd,Nat.reduceMul,Nat.reduceSub,Nat.reduceLeDiff,reduceCtorEq,↓reduceIte,↓reduceDIte,Int.reduceToNat,Int.reduceLE,Int.reduceLT,Int.reduceEq,Int.reduceNeg,tbL5_27,xbL5_1,List.map_cons,List.map_nil,List.length_cons,List.length_nil,le0,lg0H,List.nil_append,List.append_nil,List.cons_append];(try simp only [ite_and]);(repeat' (first|with_reducible assumption|refine And.intro ?_ ?_|intro hp));all_goals (first|(refine hQ _ ?_;clear hQ Q)|omega|assumption|with_reducible rfl|(refine vq ?_;kernel_rfl)|skip))
        repeat' (first|(apply nx;with_reducible constructor)|refine uq (by decide) ?_)
        (refine sym_cd (by simp only [vkt,Nat.reduceEqDiff,Nat.reduceAdd,Nat.reduceMul,Nat.reduceSub,Nat.reduceLeDiff,reduceCtorEq,↓reduceIte,↓reduceDIte,Int.reduceToNat,Int.reduceLE,Int.reduceLT,Int.reduceEq,Int.reduceNeg,tbL5_27,xbL5_1,List.map_cons,List.map_nil,List.length_cons,List.length_nil,le0,lg0H,List.nil_append,List.append_nil,List.cons_append];rfl) (fun h=>?_) (fun h=>?_) <;> (try simp only [vki,reduceCtorEq] at h))
        · have hjl:j < K:=by omega
          have pk:=pcK_ok y j
          have pl:=pk.len
          have pb:=pk.le j (Nat.le_refl _)
          have hp1:=pcK_1 y j
          have hp2:=(pcK_2 y j).symm
          have q1:=upV_le (x:=(pcK y j).2) (m:=12 - 1) (by decide) (by decide)
          generalize (pcK y j).1=p at *
          generalize (pcK y j).2=z at *
          have e7:IntKind.wrap .i64 ((K:Int) - (j:Int) - 1)=(K:Int) - ((j+1:Nat):Int):=by rw [wrap64 (by omega) (by omega)];omega
          have e8:IntKind.wrap .i64 (((j+1:Nat):Int) - 1)=(j:Int):=by rw [wrap64 (by omega) (by omega)];omega
          have e9:IntKind.wrap .i64 (p.getD j 0+(1+upV z (12 - 1)))=p.getD j 0+(1+upV z (12 - 1)):=wrap64 (by omega) (by omega)
          have e5:j < p.length:=by omega
          have m1:(j+1+1) * 8≤140737488355328∧j+1+1≤maxLen:=by omega
          have e6:=gI0 e5
          have e4:p.map eInt++[[.v (.int .i64 (p.getD j 0+(1+upV z (12 - 1))))]]=(pcK y (j+1)).1.map eInt:=by rw [hp1,List.map_append];rfl
          repeat' (first|(apply nx;with_reducible constructor)|refine uq (by decide) ?_|((first|refine vx env fun Q hQ=>?_|refine vz fun Q hQ=>?_);simp only [vkt,Nat.reduceEqDiff,Nat.reduceAdd,Nat.reduceMul,Nat.reduceSub,Nat.reduceLeDiff,reduceCtorEq,↓reduceIte,↓reduceDIte,Int.reduceToNat,Int.reduceLE,Int.reduceLT,Int.reduceEq,Int.reduceNeg,tbL5_27,xbL5_1,List.map_cons,List.map_nil,List.length_cons,List.length_nil,le0,lg0H,List.nil_append,List.append_nil,List.cons_append,e7,e8,e6,e9,e4,pl,hp2];(try simp only [ite_and]);(repeat' (first|with_reducible assumption|refine And.intro ?_ ?_|intro hp));all_goals (first|(refine hQ _ ?_;clear hQ Q)|(refine hQ _ (fun h=>?_) (fun h=>?_) <;> clear hQ Q <;> (try simp only [vki,reduceCtorEq] at h))|omega|assumption|with_reducible rfl|(refine vq ?_;kernel_rfl)|skip)))
          refine ⟨⟨j+1,hjl⟩,by show K - (j+1) < K - j;omega, ?_⟩
          (refine Le.ok (fun j=>if j=5 then some 7 else some j) [] ?_;constructor;all_goals (try simp only [vle,vkt,Nat.reduceEqDiff,Nat.reduceAdd,Nat.reduceMul,Nat.reduceSub,Nat.reduceLeDiff,reduceCtorEq,↓reduceIte,↓reduceDIte,Int.reduceToNat,Int.reduceLE,Int.reduceLT,Int.reduceEq,Int.reduceNeg,tbL5_27,xbL5_1,List.map_cons,List.map_nil,List.length_cons,List.length_nil,le0,lg0H,List.nil_append,List.append_nil,List.cons_append]))
          all_goals first|rfl|(simp;done)
        · have hjk:j=K:=by omega
          subst hjk
          have okc:=ok.c
          have okl:=ok.l
          have pl:=(pcK_ok y j).len
          generalize hq1:(pcK y j).1=p at *
          generalize hq2:(pcK y j).2=z at *
          refine sym_le (S':=lo3 c d 0 0 s p z V k) ?_ ?_
          · (refine Le.ok some [5] ?_;constructor;all_goals (try simp only [vle,vkt,Nat.reduceEqDiff,Nat.reduceAdd,Nat.reduceMul,Nat.reduceSub,Nat.reduceLeDiff,reduceCtorEq,↓reduceIte,↓reduceDIte,Int.reduceToNat,Int.reduceLE,Int.reduceLT,Int.reduceEq,Int.reduceNeg,tbL5_27,xbL5_1,List.map_cons,List.map_nil,List.length_cons,List.length_nil,le0,lg0H,List.nil_append,List.append_nil,List.cons_append]))
            all_goals first|rfl|(simp [hq1,hq2];done)|(rw [hq1];exact ⟨_,_,rfl⟩)|exact ⟨_,_,rfl⟩
          have m1:(k+1) * 24≤140737488355328∧(k+1) * 8≤140737488355328∧k+1≤maxLen:=by omega
          have e7:IntKind.wrap .i64 ((V:Int) - (k:Int) - 1)=(V:Int) - ((k+1:Nat):Int):=by rw [wrap64 (by omega) (by omega)];omega
          have e4:s.cs.map eInts++[[.sl (p.map eInt)]]=(s.cs++[p]).map eInts:=by rw [List.map_append];rfl
          have e5:s.ss.map eInt++[[.v (.int .i64 (upV z 200))]]=(s.ss++[upV z 200]).map eInt:=by rw [List.map_append];rfl
          repeat' (first|(apply nx;with_reducible constructor)|refine uq (by decide) ?_|((first|refine vx env fun Q hQ=>?_|refine vz fun Q hQ=>?_);simp only [vkt,Nat.reduceEqDiff,Nat.reduceAdd,Nat.reduceMul,Nat.reduceSub,Nat.reduceLeDiff,reduceCtorEq,↓reduceIte,↓reduceDIte,Int.reduceToNat,Int.reduceLE,Int.reduceLT,Int.reduceEq,Int.reduceNeg,tbL5_27,xbL5_1,List.map_cons,List.map_nil,List.length_cons,List.length_nil,le0,lg0H,List.nil_append,List.append_nil,List.cons_append,e7,e4,e5,okc,okl];(try simp only [ite_and]);(repeat' (first|with_reducible assumption|refine And.intro ?_ ?_|intro hp));all_goals (first|(refine hQ _ ?_;clear hQ Q)|(refine hQ _ (fun h=>?_) (fun h=>?_) <;> clear hQ Q <;> (try simp only [vki,reduceCtorEq] at h))|omega|assumption|with_reducible rfl|(refine vq ?_;kernel_rfl)|skip)))
          refine ⟨⟨k+1,hlt⟩,by show V - (k+1) < V - k;omega, ?_⟩
          (refine Le.ok (fun j=>if j=3 then some 6 else if j=4 then some 8 else some j) [] ?_;constructor;all_goals (try simp only [vle,vkt,Nat.reduceEqDiff,Nat.reduceAdd,Nat.reduceMul,Nat.reduceSub,Nat.reduceLeDiff,reduceCtorEq,↓reduceIte,↓reduceDIte,Int.reduceToNat,Int.reduceLE,Int.reduceLT,Int.reduceEq,Int.reduceNeg,tbL5_27,xbL5_1,List.map_cons,List.map_nil,List.length_cons,List.length_nil,le0,lg0H,List.nil_append,List.append_nil,List.cons_append]))
          all_goals first|rfl|(simp [hs];done)
    · have hkV:k=V:=by omega
      subst hkV
      have ok:=coK_ok b k
      have g2:lg2 x c d=dyK ((lg1 x c).cs.length - 1) (upS (lg1 x c).x (d - 1)) (1+upV (lg1 x c).x (d - 1)).toNat:=rfl
      have g3:lg3 x c d 0 0=enK (lg1 x c).cs.length (lg2 x c d).1 0 ⟨0,(lg1 x c).ss,[],upS (lg2 x c d).2 0⟩ (upV (lg2 x c d).2 0).toNat:=rfl
      have gL:lgL x c d 0 0=⟨(lg1 x c).cs,(lg2 x c d).1,(lg1 x c).ss,(lg3 x c d 0 0).es⟩:=rfl
      have gS:lgS x c d 0 0=(lg3 x c d 0 0).x:=rfl
      generalize lg1 x c=co at *
      rw [← g1] at ok ⊢
      clear g1 hb
      have okc:=ok.c
      have okl:=ok.l
      have hu2:=upV_le (x:=co.x) (m:=d - 1) (by omega) (by omega)
      obtain ⟨W,hW⟩:∃ W:Nat,1+upV co.x (d - 1)=(W:Int):=⟨(1+upV co.x (d - 1)).toNat,by omega⟩
      have hW1:1≤W∧W≤4:=by omega
      obtain ⟨m,hm⟩:∃ m,m+1=co.cs.length:=⟨co.cs.length - 1,by omega⟩
      have hmC:co.cs.length - 1=m:=by omega
      rw [hW,hmC,Int.toNat_natCast] at g2
      generalize hb2:upS co.x (d - 1)=b2 at *
      repeat' (first|(apply nx;with_reducible constructor)|refine uq (by decide) ?_|((first|refine vx env fun Q hQ=>?_|refine vz fun Q hQ=>?_);simp only [vkt,Nat.reduceEqDiff,Nat.reduceAdd,Nat.reduceMul,Nat.reduceSub,Nat.reduceLeDiff,reduceCtorEq,↓reduceIte,↓reduceDIte,Int.reduceToNat,Int.reduceLE,Int.reduceLT,Int.reduceEq,Int.reduceNeg,tbL5_27,xbL5_1,List.map_cons,List.map_nil,List.length_cons,List.length_nil,le0,lg0H,List.nil_append,List.append_nil,List.cons_append,md,hW,hb2];(try simp only [ite_and]);(repeat' (first|with_reducible assumption|refine And.intro ?_ ?_|intro hp));all_goals (first|(refine hQ _ ?_;clear hQ Q)|(refine hQ _ (fun h=>?_) (fun h=>?_) <;> clear hQ Q <;> (try simp only [vki,reduceCtorEq] at h))|omega|assumption|with_reducible rfl|(refine vq ?_;kernel_rfl)|skip)))
      refine sym_loop (fun k:{ k:Nat // k≤W }=>ld1 c d 0 0 co m b2 W k.1) (fun k=>W - k.1) ⟨0,Nat.zero_le _⟩ ?_ fun ⟨i,hi⟩=>?_
      · (refine Le.ok (fun j=>if j=5 then none else some j) [] ?_;constructor;all_goals (try simp only [vle,vkt,Nat.reduceEqDiff,Nat.reduceAdd,Nat.reduceMul,Nat.reduceSub,Nat.reduceLeDiff,reduceCtorEq,↓reduceIte,↓reduceDIte,Int.reduceToNat,Int.reduceLE,Int.reduceLT,Int.reduceEq,Int.reduceNeg,tbL5_27,xbL5_1,List.map_cons,List.map_nil,List.length_cons,List.length_nil,le0,lg0H,List.nil_append,List.append_nil,List.cons_append]))
        all_goals first|rfl|(simp [dyK,hb2,hW];done)
      · repeat' (first|(apply nx;with_reducible constructor)|refine uq (by decide) ?_)
        (refine vx env fun Q hQ=>?_;simp only [vkt,Nat.reduceEqDiff,Nat.reduceAdd,Nat.reduceMul,Nat.reduceSub,Nat.reduceLeDiff,reduceCtorEq,↓reduceIte,↓reduceDIte,Int.reduceToNat,Int.reduceLE,Int.reduceLT,Int.reduceEq,Int.reduceNeg,tbL5_27,xbL5_1,List.map_cons,List.map_nil,List.length_cons,List.length_nil,le0,lg0H,List.nil_append,List.append_nil,List.cons_append];(try simp only [ite_and]);(repeat' (first|with_reducible assumption|refine And.intro ?_ ?_|intro hp));all_goals (first|(refine hQ _ ?_;clear hQ Q)|omega|assumption|with_reducible rfl|(refine vq ?_;kernel_rfl)|skip))
        repeat' (first|(apply nx;with_reducible constructor)|refine uq (by decide) ?_)
        (refine sym_cd (by simp only [vkt,Nat.reduceEqDiff,Nat.reduceAdd,Nat.reduceMul,Nat.reduceSub,Nat.reduceLeDiff,reduceCtorEq,↓reduceIte,↓reduceDIte,Int.reduceToNat,Int.reduceLE,Int.reduceLT,Int.reduceEq,Int.reduceNeg,tbL5_27,xbL5_1,List.map_cons,List.map_nil,List.length_cons,List.length_nil,le0,lg0H,List.nil_append,List.append_nil,List.cons_append];rfl) (fun h=>?_) (fun h=>?_) <;> (try simp only [vki,reduceCtorEq] at h))
        · have hlt:i < W:=by omega
          have okd:=dyK_ok m b2 i
          have hs1:=dyK_1 m b2 i
          have hs2:=dyK_2 m b2 i
          generalize (dyK m b2 i).1=rs at *
          generalize (dyK m b2 i).2=y at *
          repeat' (first|(apply nx;with_reducible constructor)|refine uq (by decide) ?_|((first|refine vx env fun Q hQ=>?_|refine vz fun Q hQ=>?_);simp only [vkt,Nat.reduceEqDiff,Nat.reduceAdd,Nat.reduceMul,Nat.reduceSub,Nat.reduceLeDiff,reduceCtorEq,↓reduceIte,↓reduceDIte,Int.reduceToNat,Int.reduceLE,Int.reduceLT,Int.reduceEq,Int.reduceNeg,tbL5_27,xbL5_1,List.map_cons,List.map_nil,List.length_cons,List.length_nil,le0,lg0H,List.nil_append,List.append_nil,List.cons_append];(try simp only [ite_and]);(repeat' (first|with_reducible assumption|refine And.intro ?_ ?_|intro hp));all_goals (first|(refine hQ _ ?_;clear hQ Q)|(refine hQ _ (fun h=>?_) (fun h=>?_) <;> clear hQ Q <;> (try simp only [vki,reduceCtorEq] at h))|omega|assumption|with_reducible rfl|(refine vq ?_;kernel_rfl)|skip)))
          refine sym_loop (fun j:{ j:Nat // j≤m }=>ld2 c d 0 0 co rs y W i j.1) (fun j=>m - j.1) ⟨0,Nat.zero_le _⟩ ?_ fun ⟨j,hj⟩=>?_
          · (refine Le.ok some [] ?_;constructor;all_goals (try simp only [vle,vkt,Nat.reduceEqDiff,Nat.reduceAdd,Nat.reduceMul,Nat.reduceSub,Nat.reduceLeDiff,reduceCtorEq,↓reduceIte,↓reduceDIte,Int.reduceToNat,Int.reduceLE,Int.reduceLT,Int.reduceEq,Int.reduceNeg,tbL5_27,xbL5_1,List.map_cons,List.map_nil,List.length_cons,List.length_nil,le0,lg0H,List.nil_append,List.append_nil,List.cons_append]))
            all_goals first|rfl|(simp [rtK,eSh];done)
          · repeat' (first|(apply nx;with_reducible constructor)|refine uq (by decide) ?_)
            (refine vx env fun Q hQ=>?_;simp only [vkt,Nat.reduceEqDiff,Nat.reduceAdd,Nat.reduceMul,Nat.reduceSub,Nat.reduceLeDiff,reduceCtorEq,↓reduceIte,↓reduceDIte,Int.reduceToNat,Int.reduceLE,Int.reduceLT,Int.reduceEq,Int.reduceNeg,tbL5_27,xbL5_1,List.map_cons,List.map_nil,List.length_cons,List.length_nil,le0,lg0H,List.nil_append,List.append_nil,List.cons_append];(try simp only [ite_and]);(repeat' (first|with_reducible assumption|refine And.intro ?_ ?_|intro hp));all_goals (first|(refine hQ _ ?_;clear hQ Q)|omega|assumption|with_reducible rfl|(refine vq ?_;kernel_rfl)|skip))
            repeat' (first|(apply nx;with_reducible constructor)|refine uq (by decide) ?_)
            (refine sym_cd (by simp only [vkt,Nat.reduceEqDiff,Nat.reduceAdd,Nat.reduceMul,Nat.reduceSub,Nat.reduceLeDiff,reduceCtorEq,↓reduceIte,↓reduceDIte,Int.reduceToNat,Int.reduceLE,Int.reduceLT,Int.reduceEq,Int.reduceNeg,tbL5_27,xbL5_1,List.map_cons,List.map_nil,List.length_cons,List.length_nil,le0,lg0H,List.nil_append,List.append_nil,List.cons_append];rfl) (fun h=>?_) (fun h=>?_) <;> (try simp only [vki,reduceCtorEq] at h))
            · have hjl:j < m:=by omega
              have pl:=(rtK_ok y j).len
              have hp1:=rtK_1 y j
              have hp2:=(rtK_2 y j).symm
              generalize (rtK y j).1=r at *
              generalize (rtK y j).2=z at *
              have e7:IntKind.wrap .i64 ((j:Int)+1+1)=((j+1:Nat):Int)+1:=by rw [wrap64 (by omega) (by omega)];omega
              have m1:(j+1+1) * 16≤140737488355328∧j+1+1≤maxLen:=by omega
              have e4:r.map eSh++[[.v (.int .i64 (rtV z).num),.v (.int .i64 (rtV z).den)]]=(rtK y (j+1)).1.map eSh:=by rw [hp1,List.map_append];rfl
              repeat' (first|(apply nx;with_reducible constructor)|refine uq (by decide) ?_|((first|refine vx env fun Q hQ=>?_|refine vz fun Q hQ=>?_);simp only [vkt,Nat.reduceEqDiff,Nat.reduceAdd,Nat.reduceMul,Nat.reduceSub,Nat.reduceLeDiff,reduceCtorEq,↓reduceIte,↓reduceDIte,Int.reduceToNat,Int.reduceLE,Int.reduceLT,Int.reduceEq,Int.reduceNeg,tbL5_27,xbL5_1,List.map_cons,List.map_nil,List.length_cons,List.length_nil,le0,lg0H,List.nil_append,List.append_nil,List.cons_append,e7,e4,pl,hp2];(try simp only [ite_and]);(repeat' (first|with_reducible assumption|refine And.intro ?_ ?_|intro hp));all_goals (first|(refine hQ _ ?_;clear hQ Q)|(refine hQ _ (fun h=>?_) (fun h=>?_) <;> clear hQ Q <;> (try simp only [vki,reduceCtorEq] at h))|omega|assumption|with_reducible rfl|(refine vq ?_;kernel_rfl)|skip)))
              refine ⟨⟨j+1,hjl⟩,by show m - (j+1) < m - j;omega, ?_⟩
              (refine Le.ok (fun j=>if j=6 then some 8 else some j) [] ?_;constructor;all_goals (try simp only [vle,vkt,Nat.reduceEqDiff,Nat.reduceAdd,Nat.reduceMul,Nat.reduceSub,Nat.reduceLeDiff,reduceCtorEq,↓reduceIte,↓reduceDIte,Int.reduceToNat,Int.reduceLE,Int.reduceLT,Int.reduceEq,Int.reduceNeg,tbL5_27,xbL5_1,List.map_cons,List.map_nil,List.length_cons,List.length_nil,le0,lg0H,List.nil_append,List.append_nil,List.cons_append]))
              all_goals first|rfl|(simp;done)
            · have hjm:j=m:=by omega
              subst hjm
              generalize hq1:(rtK y j).1=r at *
              generalize hq2:(rtK y j).2=z at *
              have okd1:=okd.1
              refine sym_le (S':=ld3 c d 0 0 co rs r z W i) ?_ ?_
              · (refine Le.ok some [6] ?_;constructor;all_goals (try simp only [vle,vkt,Nat.reduceEqDiff,Nat.reduceAdd,Nat.reduceMul,Nat.reduceSub,Nat.reduceLeDiff,reduceCtorEq,↓reduceIte,↓reduceDIte,Int.reduceToNat,Int.reduceLE,Int.reduceLT,Int.reduceEq,Int.reduceNeg,tbL5_27,xbL5_1,List.map_cons,List.map_nil,List.length_cons,List.length_nil,le0,lg0H,List.nil_append,List.append_nil,List.cons_append]))
                all_goals first|rfl|(simp [hq1,hq2];done)|(rw [hq1];exact ⟨_,_,rfl⟩)|exact ⟨_,_,rfl⟩
              have m1:(i+1) * 24≤140737488355328∧i+1≤maxLen:=by omega
              have e7:IntKind.wrap .i64 ((W:Int) - (i:Int) - 1)=(W:Int) - ((i+1:Nat):Int):=by rw [wrap64 (by omega) (by omega)];omega
              have e4:rs.map eShs++[[.sl (r.map eSh)]]=(rs++[r]).map eShs:=by rw [List.map_append];rfl
              repeat' (first|(apply nx;with_reducible constructor)|refine uq (by decide) ?_|((first|refine vx env fun Q hQ=>?_|refine vz fun Q hQ=>?_);simp only [vkt,Nat.reduceEqDiff,Nat.reduceAdd,Nat.reduceMul,Nat.reduceSub,Nat.reduceLeDiff,reduceCtorEq,↓reduceIte,↓reduceDIte,Int.reduceToNat,Int.reduceLE,Int.reduceLT,Int.reduceEq,Int.reduceNeg,tbL5_27,xbL5_1,List.map_cons,List.map_nil,List.length_cons,List.length_nil,le0,lg0H,List.nil_append,List.append_nil,List.cons_append,e7,e4,okd1];(try simp only [ite_and]);(repeat' (first|with_reducible assumption|refine And.intro ?_ ?_|intro hp));all_goals (first|(refine hQ _ ?_;clear hQ Q)|(refine hQ _ (fun h=>?_) (fun h=>?_) <;> clear hQ Q <;> (try simp only [vki,reduceCtorEq] at h))|omega|assumption|with_reducible rfl|(refine vq ?_;kernel_rfl)|skip)))
              refine ⟨⟨i+1,hlt⟩,by show W - (i+1) < W - i;omega, ?_⟩
              (refine Le.ok (fun j=>if j=5 then some 7 else some j) [] ?_;constructor;all_goals (try simp only [vle,vkt,Nat.reduceEqDiff,Nat.reduceAdd,Nat.reduceMul,Nat.reduceSub,Nat.reduceLeDiff,reduceCtorEq,↓reduceIte,↓reduceDIte,Int.reduceToNat,Int.reduceLE,Int.reduceLT,Int.reduceEq,Int.reduceNeg,tbL5_27,xbL5_1,List.map_cons,List.map_nil,List.length_cons,List.length_nil,le0,lg0H,List.nil_append,List.append_nil,List.cons_append]))
              all_goals first|rfl|(simp [hs1,hs2];done)
        · have hiW:i=W:=by omega
          subst hiW
          have okd:=dyK_ok m b2 i
          generalize lg2 x c d=dy at *
          rw [← g2] at okd ⊢
          clear g2 hb2
          obtain ⟨rs,y⟩:=dy
          dsimp only at okd g3 gL ⊢
          obtain ⟨okd1,okd2⟩:=okd
          subst okd1
          subst okc
          have u0:upV y 0=0:=by have:=upV_bd (x:=y) (m:=0) (by decide);omega
          rw [u0] at g3
          have g3:lg3 x c d 0 0=⟨0,co.ss,[],upS y 0⟩:=g3
          have m6:co.ss.length≤100000:=by omega
          generalize hy3:upS y 0=y3 at *
          rw [gL,gS,g3]
          repeat' (first|(apply nx;with_reducible constructor)|refine uq (by decide) ?_|((first|refine vx env fun Q hQ=>?_|refine vz fun Q hQ=>?_);simp only [vkt,Nat.reduceEqDiff,Nat.reduceAdd,Nat.reduceMul,Nat.reduceSub,Nat.reduceLeDiff,reduceCtorEq,↓reduceIte,↓reduceDIte,Int.reduceToNat,Int.reduceLE,Int.reduceLT,Int.reduceEq,Int.reduceNeg,tbL5_27,xbL5_1,List.map_cons,List.map_nil,List.length_cons,List.length_nil,le0,lg0H,List.nil_append,List.append_nil,List.cons_append,me,u0,hy3];(try simp only [ite_and]);(repeat' (first|with_reducible assumption|refine And.intro ?_ ?_|intro hp));all_goals (first|(refine hQ _ ?_;clear hQ Q)|(refine hQ _ (fun h=>?_) (fun h=>?_) <;> clear hQ Q <;> (try simp only [vki,reduceCtorEq] at h))|omega|assumption|with_reducible rfl|(refine vq ?_;kernel_rfl)|skip)))
          all_goals first|exact ⟨_,_,rfl⟩|skip
          refine sym_loop (fun _:Unit=>le0 c d co rs y3) (fun _=>0) () ?_ fun _=>?_
          · (refine Le.ok some [] ?_;constructor;all_goals (try simp only [vle,vkt,Nat.reduceEqDiff,Nat.reduceAdd,Nat.reduceMul,Nat.reduceSub,Nat.reduceLeDiff,reduceCtorEq,↓reduceIte,↓reduceDIte,Int.reduceToNat,Int.reduceLE,Int.reduceLT,Int.reduceEq,Int.reduceNeg,tbL5_27,xbL5_1,List.map_cons,List.map_nil,List.length_cons,List.length_nil,le0,lg0H,List.nil_append,List.append_nil,List.cons_append]))
            all_goals first|rfl|(simp;done)
          repeat' (first|(apply nx;with_reducible constructor)|refine uq (by decide) ?_)
          (refine vx env fun Q hQ=>?_;simp only [vkt,Nat.reduceEqDiff,Nat.reduceAdd,Nat.reduceMul,Nat.reduceSub,Nat.reduceLeDiff,reduceCtorEq,↓reduceIte,↓reduceDIte,Int.reduceToNat,Int.reduceLE,Int.reduceLT,Int.reduceEq,Int.reduceNeg,tbL5_27,xbL5_1,List.map_cons,List.map_nil,List.length_cons,List.length_nil,le0,lg0H,List.nil_append,List.append_nil,List.cons_append];(try simp only [ite_and]);(repeat' (first|with_reducible assumption|refine And.intro ?_ ?_|intro hp));all_goals (first|(refine hQ _ ?_;clear hQ Q)|omega|assumption|with_reducible rfl|(refine vq ?_;kernel_rfl)|skip))
          repeat' (first|(apply nx;with_reducible constructor)|refine uq (by decide) ?_)
          (refine sym_cd (by simp only [vkt,Nat.reduceEqDiff,Nat.reduceAdd,Nat.reduceMul,Nat.reduceSub,Nat.reduceLeDiff,reduceCtorEq,↓reduceIte,↓reduceDIte,Int.reduceToNat,Int.reduceLE,Int.reduceLT,Int.reduceEq,Int.reduceNeg,tbL5_27,xbL5_1,List.map_cons,List.map_nil,List.length_cons,List.length_nil,le0,lg0H,List.nil_append,List.append_nil,List.cons_append];rfl) (fun h=>?_) (fun h=>?_) <;> (try simp only [vki,reduceCtorEq] at h))
          repeat' (first|(apply nx;with_reducible constructor)|refine uq (by decide) ?_|((first|refine vx env fun Q hQ=>?_|refine vz fun Q hQ=>?_);simp only [vkt,Nat.reduceEqDiff,Nat.reduceAdd,Nat.reduceMul,Nat.reduceSub,Nat.reduceLeDiff,reduceCtorEq,↓reduceIte,↓reduceDIte,Int.reduceToNat,Int.reduceLE,Int.reduceLT,Int.reduceEq,Int.reduceNeg,tbL5_27,xbL5_1,List.map_cons,List.map_nil,List.length_cons,List.length_nil,le0,lg0H,List.nil_append,List.append_nil,List.cons_append];(try simp only [ite_and]);(repeat' (first|with_reducible assumption|refine And.intro ?_ ?_|intro hp));all_goals (first|(refine hQ _ ?_;clear hQ Q)|(refine hQ _ (fun h=>?_) (fun h=>?_) <;> clear hQ Q <;> (try simp only [vki,reduceCtorEq] at h))|omega|assumption|with_reducible rfl|(refine vq ?_;kernel_rfl)|skip)))
          (simp only [vrt,Try.results27,vkt,Nat.reduceEqDiff,Nat.reduceAdd,Nat.reduceMul,Nat.reduceSub,Nat.reduceLeDiff,reduceCtorEq,↓reduceIte,↓reduceDIte,Int.reduceToNat,Int.reduceLE,Int.reduceLT,Int.reduceEq,Int.reduceNeg,tbL5_27,xbL5_1,List.map_cons,List.map_nil,List.length_cons,List.length_nil,le0,lg0H,List.nil_append,List.append_nil,List.cons_append];refine Fin.ok (fun j=>if j=0 then some 0 else if j=1 then some 4 else none) [3,5] ?_ ?_ ?_ ?_ ?_ rfl;all_goals (try simp only [vle,vkt,Nat.reduceEqDiff,Nat.reduceAdd,Nat.reduceMul,Nat.reduceSub,Nat.reduceLeDiff,reduceCtorEq,↓reduceIte,↓reduceDIte,Int.reduceToNat,Int.reduceLE,Int.reduceLT,Int.reduceEq,Int.reduceNeg,tbL5_27,xbL5_1,List.map_cons,List.map_nil,List.length_cons,List.length_nil,le0,lg0H,List.nil_append,List.append_nil,List.cons_append]))
          all_goals first|rfl|(simp;done)|exact ⟨⟨_,_,rfl⟩,⟨_,_,rfl⟩⟩
noncomputable def p27z (S:St):List AV→Option Pk
  |[.ptr i 0,.v (.int .i64 c),.v (.int .i64 d),.v (.int .i64 e),.v (.int .i64 w)]=>match S.h i with
    |some (.cells [.v (.int .u64 x)])=>some { pre:=(1≤c∧c≤4)∧(1≤d∧d≤4)∧e=0∧w=0,hs:=[i],ar:=[.ptr 0 0,.v (.int .i64 c),.v (.int .i64 d),.v (.int .i64 e),.v (.int .i64 w)],L0:=[.cells [.v (.int .u64 x)]],v:=.agg [.sl ((lgL x c d 0 0).coins.map eInts),.sl ((lgL x c d 0 0).rates.map eShs),.row 1,.sl []],L1:=[some (.cells [.v (.int .u64 (lgS x c d 0 0))]),some (.row 3 1 ((lgL x c d 0 0).start.map eInt))] }
    |_=>none
  |_=>none
theorem e27z {A:Frm→Prop}:EntryOK A Try.prog 27 (fnE p27z):=fnE_ok fun S bs q h hp=>by
  unfold p27z at h
  split at h
  · split at h
    · cases h
      obtain ⟨h1,h2,rfl,rfl⟩:=hp
      exact ledger0_fn _ _ _ h1 h2
    · cases h
  · cases h
end Go.Sym.B
namespace Go.Sym.B
open Go Go.Sym Go.Proofs Go.Sym.C
def dblS (s:Sh):Sh:=shQ (qI s.num s.den * ((2:Int):Rat))
def dRow (c:Nat) (r:List Sh):List Sh:=r.set c (dblS (r.getD c default))
def amL (L:Led) (c:Nat) (h:Int):Led:=⟨L.coins,L.rates,L.start.set c (2 * h),L.entries⟩
def scL (L:Led) (c:Nat) (h:Int):Led:=⟨L.coins,L.rates.map (dRow c),L.start.set c h,L.entries⟩
theorem chk_of {L:Led} (c:1≤L.coins.length∧L.coins.length≤4) (p:∀ q ∈ L.coins,∃ j,j≤3∧PcOk q j) (hs:L.start.length=L.coins.length) (v:∀ n ∈ L.start,0≤n∧n≤999) (r:RsOk L.rates L.coins.length):checkE L=entriesE L:=by
  have hr:=r.len
  unfold checkE
  rw [if_neg (by rw [counted0 (by omega) (by omega)];simp)]
  rw [if_neg (by
    rw [first0 (f:=ckCoin L) fun k hk=>by
      obtain ⟨j,hj,hp⟩:=p _ (gMem (l:=L.coins) (k:=k) (d:=[]) hk)
      exact coinE_ok hp hj]
    simp)]
  rw [if_neg (by rw [counted0 (by omega) (by omega)];simp)]
  rw [if_neg (by
    rw [first0 (f:=ckRate L) fun k hk=>ratesE_ok (r.all _ (gMem (l:=L.rates) (k:=k) (d:=[]) hk)) c.1]
    simp)]
  rw [if_neg (by simp [hs])]
  rw [if_neg (by
    rw [first0 (f:=startE L) fun k hk=>by
      have:=v _ (gMem (l:=L.start) (k:=k) (d:=0) hk)
      unfold startE
      rw [inB_iff.2 (by omega)];rfl]
    simp)]
theorem set_mem {l:List Int} {c:Nat} {v n:Int} (h:n ∈ l.set c v):n=v∨n ∈ l:=by
  rcases List.mem_or_eq_of_mem_set h with h|h
  · exact .inr h
  · exact .inl h
theorem getD_setI {l:List Int} {c:Nat} (h:c < l.length) (v:Int) (k:Nat):(l.set c v).getD k 0=if k=c then v else l.getD k 0:=by
  by_cases hk:k=c
  · subst hk;simp [List.getD_eq_getElem?_getD,h]
  · rw [if_neg hk];simp [List.getD_eq_getElem?_getD,List.getElem?_set_ne (Ne.symm hk)]
theorem q_pos {q:Rat}:0 < q.num ↔ (0:Rat) < q:=by
  constructor
  · intro h
    exact Rat.lt_of_le_of_ne (Rat.num_nonneg.1 (by omega)) (Ne.symm (num_pos h))
  · intro h
    have h1:=Rat.num_nonneg.2 (Rat.le_of_lt h)
    have h2:q.num ≠ 0:=fun e=>by
      rw [Rat.num_eq_zero] at e
      rw [e] at h
      exact absurd h (by decide)
    omega
theorem dbl_q (s:Sh):qI (dblS s).num (dblS s).den=qI s.num s.den * ((2:Int):Rat):=qI_q _
theorem dbl_ok {s:Sh} (h:ShOk s) (h2:(dblS s).num≤20):ShOk (dblS s):=by
  obtain ⟨q,hq⟩:∃ q,mkRat s.num s.den.toNat=q:=⟨_,rfl⟩
  have hr:=h.r
  rw [hq] at hr
  have hn:q.num=s.num:=by rw [hr];rfl
  have hd:(q.den:Int)=s.den:=by rw [hr];rfl
  have e:dblS s=shQ (q * ((2:Int):Rat)):=by unfold dblS qI;rw [hq]
  rw [e] at h2 ⊢
  have hpos:(0:Rat) < q:=q_pos.1 (by rw [hn];have:=h.n;omega)
  have h20:(0:Rat) < ((2:Int):Rat):=by decide +kernel
  have h3:0 < (q * ((2:Int):Rat)).num:=q_pos.2 (Rat.mul_pos hpos h20)
  have hdv:(q * ((2:Int):Rat)).den ∣ q.den:=by
    refine den_of (n:=q.num * 2) q.den_nz ?_
    have:=q_mul q
    rw [Rat.mul_assoc,Rat.mul_comm _ (q.den:Rat),← Rat.mul_assoc]
    rw [ic] at this
    rw [this,← Rat.intCast_mul]
  have hle:(q * ((2:Int):Rat)).den≤q.den:=Nat.le_of_dvd (by have:=q.den_nz;omega) hdv
  refine shQ_ok ⟨by omega,h2⟩ ?_
  have:=h.d
  omega
theorem dRow_len (c:Nat) (r:List Sh):(dRow c r).length=r.length:=by simp [dRow]
theorem dRow_get {c:Nat} {r:List Sh} (h:c < r.length) (k:Nat):(dRow c r).getD k default=if k=c then dblS (r.getD c default) else r.getD k default:=by
  unfold dRow
  by_cases hk:k=c
  · subst hk;simp [List.getD_eq_getElem?_getD,h]
  · rw [if_neg hk];simp [List.getD_eq_getElem?_getD,List.getElem?_set_ne (Ne.symm hk)]
theorem dRow_ok {c m:Nat} {r:List Sh} (h:RwOk r m) (h0:0 < c) (hc:c < m) (h2:(dblS (r.getD c default)).num≤20):RwOk (dRow c r) m:=by
  have hl:=h.len
  refine ⟨by rw [dRow_len,hl], ?_,fun s hs=>?_⟩
  · rw [dRow_get (by omega),if_neg (by omega)];exact h.one
  · rcases List.mem_or_eq_of_mem_set hs with hs|rfl
    · exact h.all s hs
    · exact dbl_ok (h.all _ (gMem (by omega))) h2
section
variable {L : Led} {c : Nat} {h : Int}
structure ScOk (L:Led) (c:Nat) (h:Int):Prop where
  ok:LgOk L
  e:L.entries=[]
  c0:0 < c
  c1:c+1=L.coins.length
  b:0≤h∧h≤300
theorem ScOk.am (H:ScOk L c h):checkE (amL L c h)=0:=by
  rw [chk_of (L:=amL L c h) H.ok.c H.ok.p (by show (L.start.set c (2 * h)).length=_;rw [List.length_set];exact H.ok.s) (fun n hn=>?_) H.ok.r]
  · exact entries0 H.e
  · have b:=H.b
    rcases set_mem (show n ∈ L.start.set c (2 * h) from hn) with rfl|hn
    · omega
    · have:=H.ok.v n hn;omega
theorem ScOk.sc (H:ScOk L c h) (h2:∀ r ∈ L.rates,(dblS (r.getD c default)).num≤20):checkE (scL L c h)=0:=by
  have c1:=H.c1
  rw [chk_of (L:=scL L c h) H.ok.c H.ok.p (by show (L.start.set c h).length=_;rw [List.length_set];exact H.ok.s) (fun n hn=>?_) ⟨by show 1≤(L.rates.map (dRow c)).length∧_;simpa [scL] using H.ok.r.len,fun r hr=>?_⟩]
  · exact entries0 H.e
  · have b:=H.b
    rcases set_mem (show n ∈ L.start.set c h from hn) with rfl|hn
    · omega
    · have:=H.ok.v n hn;omega
  · obtain ⟨q,hq,rfl⟩:=List.mem_map.1 (show r ∈ L.rates.map (dRow c) from hr)
    exact dRow_ok (H.ok.r.all q hq) H.c0 (by show c < L.coins.length;omega) (h2 q hq)
theorem sc_rq (H:ScOk L c h) {d:Int} (h0:0≤d) (h1:d.toNat < L.rates.length) (k:Nat):rq (scL L c h) d k=if k=c then rq L d k * ((2:Int):Rat) else rq L d k:=by
  have c1:=H.c1
  have hl:=(H.ok.r.all _ (gMem (l:=L.rates) (k:=d.toNat) (d:=[]) h1)).len
  have e:(L.rates.map (dRow c)).getD d.toNat []=dRow c (L.rates.getD d.toNat []):=by simp [List.getD_eq_getElem?_getD,h1]
  unfold rq rsh
  show qI (((L.rates.map (dRow c)).getD d.toNat []).getD (k:Int).toNat default).num _=_
  rw [show ((scL L c h).rates.getD d.toNat [])=dRow c (L.rates.getD d.toNat []) from e,e,Int.toNat_natCast,dRow_get (by omega)]
  by_cases hk:k=c
  · subst hk;rw [if_pos rfl,if_pos rfl];exact dbl_q _
  · rw [if_neg hk,if_neg hk]
theorem evH_nil {l:Led} (e:l.entries=[]) (d:Int):evH l d=l.start:=by unfold evH stK;rw [e,List.take_nil];rfl
theorem stK_nil {l:Led} (e:l.entries=[]) (k:Nat):(stK l k).2=l.start:=by unfold stK;rw [e,List.take_nil];rfl
theorem am_rq (d k:Int):rq (amL L c h) d k=rq L d k:=rfl
theorem mul2 (a:Rat) (h:Int):a * ((2:Int):Rat) * ((h:Int):Rat)=a * ((2 * h:Int):Rat):=by
  rw [Rat.mul_assoc,← Rat.intCast_mul]
theorem sc_gT (H:ScOk L c h) {d:Nat} (h1:d+1 < L.rates.length) {k:Nat} (hk:k < L.coins.length):gT (scL L c h) k d=gT (amL L c h) k d:=by
  have c1:=H.c1
  have s:=H.ok.s
  unfold gT
  rw [evH_nil (l:=scL L c h) H.e,evH_nil (l:=amL L c h) H.e,am_rq,am_rq,sc_rq H (by omega) (by omega),sc_rq H (by omega) (by omega)]
  show _ * (((L.start.set c h).getD k 0:Int):Rat)=_ * (((L.start.set c (2 * h)).getD k 0:Int):Rat)
  rw [getD_setI (by omega),getD_setI (by omega)]
  by_cases hkc:k=c
  · rw [if_pos hkc,if_pos hkc,if_pos hkc,if_pos hkc,← mul2]
    congr 1
    rw [Rat.sub_eq_add_neg,Rat.sub_eq_add_neg,Rat.add_mul,Rat.neg_mul]
  · rw [if_neg hkc,if_neg hkc,if_neg hkc,if_neg hkc]
theorem sc_gains (H:ScOk L c h):gainsL (scL L c h)=gainsL (amL L c h):=by
  unfold gainsL gQ1
  rw [show (scL L c h).rates.length=L.rates.length from List.length_map ..]
  show List.map _ (List.range L.coins.length)=List.map _ (List.range L.coins.length)
  refine List.map_congr_left fun i hi=>?_
  congr 1
  refine List.map_congr_left fun d hd=>?_
  have:=List.mem_range.1 hd
  exact sc_gT H (by omega) (List.mem_range.1 hi)
theorem sc_worth (H:ScOk L c h):worthQ (scL L c h) (((scL L c h).rates.length:Int) - 1) (L.start.set c h) L.coins.length=worthQ (amL L c h) ((L.rates.length:Int) - 1) (L.start.set c (2 * h)) L.coins.length:=by
  have c1:=H.c1
  have s:=H.ok.s
  have r:=H.ok.r.len
  unfold worthQ
  rw [show (scL L c h).rates.length=L.rates.length from List.length_map ..]
  congr 1
  refine List.map_congr_left fun k hk=>?_
  rw [am_rq,sc_rq H (by omega) (by omega),getD_setI (by omega),getD_setI (by omega)]
  by_cases hkc:k=c
  · rw [if_pos hkc,if_pos hkc,if_pos hkc,← mul2]
  · rw [if_neg hkc,if_neg hkc,if_neg hkc]
theorem kL_nil {l:Led} (e:l.entries=[]) (κ:Int):kL l κ l.entries.length=[]:=by unfold kL;rw [e];rfl
theorem sc_acc (H:ScOk L c h):accOf (scL L c h)=accOf (amL L c h):=by
  have e1:(scL L c h).entries=[]:=H.e
  have e2:(amL L c h).entries=[]:=H.e
  unfold accOf
  rw [kL_nil e1,kL_nil e1,kL_nil e1,kL_nil e1,kL_nil e2,kL_nil e2,kL_nil e2,kL_nil e2,stK_nil e1,stK_nil e2,sc_gains H]
  have:=sc_worth H
  show Acc.mk _ _ _ _ _ (worthQ (scL L c h) (((scL L c h).rates.length:Int) - 1) (L.start.set c h) L.coins.length)=Acc.mk _ _ _ _ _ (worthQ (amL L c h) ((L.rates.length:Int) - 1) (L.start.set c (2 * h)) L.coins.length)
  rw [this]
theorem sc_w (H:ScOk L c h) {d:Int} (h0:0≤d) (h1:d.toNat < L.rates.length):rq (scL L c h) d c * ((h:Int):Rat)=rq (amL L c h) d c * ((2 * h:Int):Rat):=by
  rw [sc_rq H h0 h1,if_pos rfl,mul2];rfl
end
end Go.Sym.B
namespace Go.Sym.B
open Go Go.Sym Go.Proofs Go.Sym.C
def p43d (S:St):List AV→Option Pk
  |[.agg [.sl cs,.sl rs,.sl ss,.sl es]]=>some { pre:=isL cs rs ss es∧Fit (ldOf cs rs ss es)∧(ldOf cs rs ss es).rates.length≤3,ar:=[.agg [.sl cs,.sl rs,.sl ss,.sl es]],v:=.agg [.sl cs,.row 0,.row 4,.sl es],L1:=[some (.rows 55 ([AV.row 1,.row 2,.row 3].take (ldOf cs rs ss es).rates.length)),some (.row 59 2 (rkv (ldOf cs rs ss es).rates (ldOf cs rs ss es).rates.length 0)),some (.row 59 2 (rkv (ldOf cs rs ss es).rates (ldOf cs rs ss es).rates.length 1)),some (.row 59 2 (rkv (ldOf cs rs ss es).rates (ldOf cs rs ss es).rates.length 2)),some (.row 3 1 ss)] }
  |_=>none
theorem e43d {A:Frm→Prop}:EntryOK A Try.prog 43 (fnE p43d):=fnE_ok fun S bs q h hp=>by
  unfold p43d at h
  split at h
  · cases h
    rename_i cs rs ss es
    obtain ⟨h1,h2,h3⟩:=hp
    have:=copyLedD_fn _ h2 h3
    rw [aLed_of h1] at this
    simp only [ldOf,← h1.1,← h1.2.2.1,← h1.2.2.2] at this ⊢
    exact this
  · cases h
theorem lg_rl {x c d e w:Int} (hd:1≤d∧d≤4):((lgL x c d e w).rates.length:Int)≤d:=by
  have h:=upV_le (x:=(lg1 x c).x) (m:=d - 1) (by omega) (by omega)
  have h2:=(dyK_ok ((lg1 x c).cs.length - 1) (upS (lg1 x c).x (d - 1)) (1+upV (lg1 x c).x (d - 1)).toNat).1
  show ((lg2 x c d).1.length:Int)≤d
  unfold lg2
  rw [h2]
  omega
theorem worth0 {l:Led} {d c n:Int} (h:checkE l=0) (hd:0≤d∧d≤(l.rates.length:Int) - 1) (hc:0≤c∧c≤(l.coins.length:Int) - 1) (hn:0≤n∧n≤999):worthE l d c n=0:=by
  unfold worthE
  rw [if_neg (by rw [h];simp),inB_iff.2 hd,inB_iff.2 hc,inB_iff.2 hn];rfl
def rdv (C:Nat) (rs:List (List Sh)) (k i:Nat):List (List DV):=if i < rs.length then (if i < k then dRow C (rs.getD i []) else rs.getD i []).map eSh else []
def rdvL (C:Nat) (rs:List (List Sh)):List (List DV):=[[DV.sl (rdv C rs rs.length 0)],[DV.sl (rdv C rs rs.length 1)],[DV.sl (rdv C rs rs.length 2)]].take rs.length
theorem rdvL_eq (C:Nat) (rs:List (List Sh)) (h:rs.length≤3):rdvL C rs=(rs.map (dRow C)).map eShs:=by
  match rs,h with
  |[],_=>rfl
  |[a],_=>rfl
  |[a,b],_=>rfl
  |[a,b,c],_=>rfl
theorem rid_at7 {k i:Nat} (h:i < k) (hi:i < 3):(rid k).getD i .junk=.row (20+i):=by
  unfold rid
  rw [List.getD_eq_getElem?_getD,List.getElem?_take,if_pos h]
  rcases (show i=0∨i=1∨i=2 by omega) with rfl|rfl|rfl <;> rfl
theorem leL_same (h:Nat→Option AObj):∀ l:List AV,(∀ c ∈ l,∃ i,c=.row i)→AV.leL h some l l
  |[],_=>by simp [AV.leL]
  |c :: l,hc=>by
    obtain ⟨i,rfl⟩:=hc c (by simp)
    exact ⟨rfl,leL_same h l fun c hm=>hc c (List.mem_cons_of_mem _ hm)⟩
theorem rid_row {n:Nat} {c:AV} (hc:c ∈ rid n):∃ i,c=.row i∧i < 23:=by
  have hc:=List.mem_of_mem_take hc
  simp at hc
  rcases hc with rfl|rfl|rfl <;> exact ⟨_,rfl,by omega⟩
theorem leL_rid (h:Nat→Option AObj) (n:Nat):AV.leL h some (rid n) (rid n):=leL_same h _ fun c hc=>let ⟨i,h,_⟩:=rid_row hc;⟨i,h⟩
theorem ids_rid (n:Nat):∀ id,id ∈ AV.idsL (rid n)→id < 23:=fun id h=>by
  obtain ⟨c,hc,hi⟩:=AV.mem_idsL.1 h
  obtain ⟨i,rfl,h⟩:=rid_row hc
  simp [AV.ids] at hi
  omega
theorem sh_q {s:Sh} (h:ShOk s):∃ q,s=shQ q∧Tm q 2∧q.num≤20:=by
  have h1:=h.n
  have h2:=h.d
  obtain ⟨q,hq⟩:∃ q,mkRat s.num s.den.toNat=q:=⟨_,rfl⟩
  have hr:=h.r
  rw [hq] at hr
  have hn:q.num=s.num:=by rw [hr];rfl
  have hd:(q.den:Int)=s.den:=by rw [hr];rfl
  exact ⟨q,hr,⟨⟨by omega,by omega,by omega⟩,by decide,by decide⟩,by omega⟩
theorem dbl_of {s:Sh} {q:Rat} (h:s=shQ q):dblS s=shQ (q * ((2:Int):Rat)):=by
  subst h
  unfold dblS
  rw [show qI (shQ q).num (shQ q).den=q from qI_q q]
theorem gS7 {l:List Sh} {n:Nat} (h:n < l.length):(l.map eSh).getD n []=eSh (l.getD n default):=by simp [List.getD_eq_getElem?_getD,h]
theorem set_dRow {C:Nat} {r:List Sh} {z:Rat} (h:dblS (r.getD C default)=shQ z):(r.map eSh).set C [.v (.int .i64 z.num),.v (.int .i64 (z.den:Int))]=(dRow C r).map eSh:=by
  unfold dRow
  rw [h,List.map_set]
  rfl
def scS0 (M:Led) (y:Int) (C:Nat) (h:Int):St:={ t:=asg [(2,aB false),(3,.ptr 0 0),(4,.ptr 1 0),(5,aI C),(6,aI h)],h:=hasg [(0,.cells [.v (.int .u64 y)]),(1,.cells (cLed M))],n:=2 }
def scH (M X:Led):List (Nat × AObj):=[(1,.cells (cLed M)),(2,.cells [.sl (X.coins.map eInts),.row 3,.sl (X.start.map eInt),.sl (X.entries.map eEnt)])]
def scS1 (M X:Led) (C:Nat) (h:Int) (k:Nat):St:={ t:=asg [(2,aB false),(4,.ptr 1 0),(5,aI C),(6,aI h),(7,.ptr 2 0),(8,aI k)],h:=hasg (scH M X++[(3,.rows 55 (rid M.rates.length)),(20,.row 59 2 (rdv C M.rates k 0)),(21,.row 59 2 (rdv C M.rates k 1)),(22,.row 59 2 (rdv C M.rates k 2))]),n:=23 }
def scS2 (M X:Led) (C:Nat) (h:Int) (ys:List (List DV)):St:={ t:=asg [(2,aB false),(4,.ptr 1 0),(5,aI C),(6,aI h),(7,.ptr 2 0)],h:=hasg (scH M X++[(3,.row 55 1 ys)]),n:=4 }
def scS3 (M X:Led) (C:Nat) (h:Int):St:={ t:=asg [(2,aB false),(4,.ptr 1 0),(5,aI C),(6,aI h),(7,.ptr 2 0)],h:=hasg [(1,.cells (cLed M)),(2,.cells (cLed X))],n:=3 }
def scS4 (M X:Led) (C:Nat) (h:Int) (k:Nat):St:={ t:=asg [(2,aB false),(4,.ptr 1 0),(5,aI C),(6,aI h),(7,.ptr 2 0),(17,aI k)],h:=hasg [(1,.cells (cLed M)),(2,.cells (cLed X))],n:=3 }
theorem rdv_old {C:Nat} {rs:List (List Sh)} {k i:Nat} (hi:i ≠ k):rdv C rs (k+1) i=rdv C rs k i:=by
  unfold rdv
  by_cases h:i < k
  · rw [if_pos h,if_pos (show i < k+1 by omega)]
  · rw [if_neg h,if_neg (show ¬ i < k+1 by omega)]
theorem rdv_cur {C:Nat} {rs:List (List Sh)} {k:Nat} (h:k < rs.length):rdv C rs k k=(rs.getD k []).map eSh:=by unfold rdv;rw [if_pos h,if_neg (by omega)]
theorem rdv_new {C:Nat} {rs:List (List Sh)} {k:Nat} (h:k < rs.length):rdv C rs (k+1) k=(dRow C (rs.getD k [])).map eSh:=by unfold rdv;rw [if_pos h,if_pos (by omega)]
theorem rkv_rdv (C:Nat) (rs:List (List Sh)) (i:Nat):rkv rs rs.length i=rdv C rs 0 i:=by unfold rkv rdv;simp
theorem renL_take (τ:Nat→Nat) (n:Nat) (l:List AV):AV.renL τ (l.take n)=(AV.renL τ l).take n:=by rw [AV.renL_map,AV.renL_map,List.map_take]
theorem ids3 (n:Nat):(∀ id,id ∈ AV.idsL (List.take n [AV.row 1,.row 2,.row 3])→id < 5)=True:=by
  refine eq_true fun id h=>?_
  obtain ⟨c,hc,hi⟩:=AV.mem_idsL.1 h
  have hc:=List.mem_of_mem_take hc
  simp at hc
  rcases hc with rfl|rfl|rfl <;> (simp [AV.ids] at hi;omega)
def tbL7_11:=vj @ty3 (vj @ty22 (vj @ty28 (vj @ty30 (vj @ty35 (vj @ty38 (vj @ty55 (vj @ty59 (vj @ty61 (vj @ti3.eq_1 (vj @ti22.eq_1 (vj @ti28.eq_1 (vj @ti30.eq_1 (vj @ti35.eq_1 (vj @ti38.eq_1 (vj @ti55.eq_1 (vj @ti59.eq_1 @ti61.eq_1))))))))))))))))
def xbL7_1:=vj @aI.eq_1 (vj @aB.eq_1 (vj @aLed.eq_1 (vj @cLed.eq_1 (vj @cAcc.eq_1 (vj @bgH.eq_1 (vj @aInts.eq_1 (vj @mInt (vj @eInt.eq_1 (vj @gInt (vj @c19.eq_1 (vj @c19.eq_2 (vj @p20.eq_1 (vj @p20.eq_2 (vj @p22.eq_1 (vj @p22.eq_2 (vj @c38.eq_1 (vj @c38.eq_2 (vj @c39.eq_1 (vj @c39.eq_2 (vj @c57.eq_1 (vj @c57.eq_2 (vj @cWorth.eq_1 (vj @cWorth.eq_2 (vj @s99.eq_1 (vj @s99.eq_2 (vj @isL_e (vj @ldOf_e (vj @isQ_q (vj @qI_q (vj @aSh.eq_1 (vj @shQ.eq_1 (vj @rSh (@mSh)))))))))))))))))))))))))))))))))
set_option maxRecDepth 100000 in
set_option maxHeartbeats 40000000 in
theorem scaledLaw_fn (ns:List Int) (h2:ns.length≤maxLen):FnV Try.prog 11 [aInts ns] (aB true):=by
  have env0:Env (fun _=>True) Try.prog tyB (tab [(19,valE true c19),(20,fnE p20),(22,fnE p22),(27,fnE p27z),(38,valE false c38),(39,valE true c39),(43,fnE p43d),(46,valE true cWorth),(56,valE true s99),(57,valE true c57)]):=mkEnv ⟨d19,e20,e22,e27z,d38,d39,e43d,d46,e56,d57,trivial⟩
  have env:=deepE env0
  clear env0
  refine Fn.of (A:=fun _=>True) (n0:=0) (D:=noD) (Fn0 Try.func11 rfl (fun vs w=>by kernel_rfl) (by kernel_rfl)) (by simp) (by simp [AV.ids,AV.idsL,aInts,aI]) (fun i o h=>by cases h) (fun _ _ _ _=>trivial) noD_ok ?_
  have big:(100000:Nat)≤maxLen:=by decide
  have z1:(1:Int)≤3∧(3:Int)≤4:=by decide
  have z2:(0:Int)≤0∧(0:Int)≤6:=by decide
  have hok:=lg_ok (x:=nbS ns) (w:=0) z1 z1 z2
  have hent:=lg_e0 (nbS ns) 3 3 0
  have hrl:=lg_rl (x:=nbS ns) (c:=3) (d:=3) (e:=0) (w:=0) z1
  obtain ⟨L,hL⟩:∃ L,lgL (nbS ns) 3 3 0 0=L:=⟨_,rfl⟩
  obtain ⟨y,hy⟩:∃ y,lgS (nbS ns) 3 3 0 0=y:=⟨_,rfl⟩
  rw [hL] at hok hent hrl
  obtain ⟨C,hC⟩:∃ C,C+1=L.coins.length:=⟨L.coins.length - 1,by have:=hok.c;omega⟩
  have hc:=hok.c
  have hr:=hok.r.len
  have zn:∀ n:Int,decide (n=n)=true:=fun n=>decide_eq_true rfl
  have w1:IntKind.wrap .i64 ((L.coins.length:Int) - 1)=(C:Int):=by rw [wrap64 (by omega) (by omega)];omega
  have hu:=upV_le (x:=y) (m:=300) (by decide) (by decide)
  obtain ⟨a,hh⟩:∃ a,upV y 300=a:=⟨_,rfl⟩
  rw [hh] at hu
  obtain ⟨y2,hy2⟩:∃ y2,upS y 300=y2:=⟨_,rfl⟩
  by_cases hC0:C=0
  · have d0:decide ((C:Int)=0)=true:=decide_eq_true (by omega)
    repeat' (first|(apply nx;with_reducible constructor)|refine uq (by decide) ?_|((first|refine vx env fun Q hQ=>?_|refine vz fun Q hQ=>?_);simp only [vkt,seval,tbL7_11,xbL7_1,renL_take,ids3,scS0,scH,scS1,scS2,scS3,scS4,tyD,ti55d,p27z,p43d,List.map_nil,hL,hy,w1,d0];(try simp only [ite_and]);(repeat' (first|with_reducible assumption|refine And.intro ?_ ?_));all_goals (first|(refine hQ _ ?_;clear hQ Q)|(refine hQ _ (fun h=>?_) (fun h=>?_) <;> clear hQ Q <;> (try simp only [vki,reduceCtorEq] at h))|omega|with_reducible assumption|with_reducible rfl|(refine vq ?_;kernel_rfl)|skip)))
    (simp only [vrt,Try.results11,vkt,seval,tbL7_11,xbL7_1,renL_take,ids3,scS0,scH,scS1,scS2,scS3,scS4,tyD,ti55d,p27z,p43d,List.map_nil];refine Fin.val rfl ?_;(try simp only [AV.le,AV.leL]))
    all_goals first|rfl|(simp;done)
  have d0:decide ((C:Int)=0)=false:=decide_eq_false (by omega)
  have HS:ScOk L C a:=⟨hok,hent,by omega,hC,hu⟩
  have hs:=hok.s
  have lt1:C < L.start.length:=by omega
  have w2:IntKind.wrap .i64 (2 * a)=2 * a:=wrap64 (by omega) (by omega)
  have e6:=gI0 lt1
  repeat' (first|(apply nx;with_reducible constructor)|refine uq (by decide) ?_)
  (refine vx env fun Q hQ=>?_;simp only [vkt,seval,tbL7_11,xbL7_1,renL_take,ids3,scS0,scH,scS1,scS2,scS3,scS4,tyD,ti55d,p27z,p43d,List.map_nil];(try simp only [ite_and]);(repeat' (first|with_reducible assumption|refine And.intro ?_ ?_|intro hp));all_goals (first|(refine hQ _ ?_;clear hQ Q)|omega|assumption|with_reducible rfl|(refine vq ?_;kernel_rfl)|skip))
  repeat' (first|(apply nx;with_reducible constructor)|refine uq (by decide) ?_)
  (refine vx env fun Q hQ=>?_;simp only [vkt,seval,tbL7_11,xbL7_1,renL_take,ids3,scS0,scH,scS1,scS2,scS3,scS4,tyD,ti55d,p27z,p43d,List.map_nil,hL,hy];(try simp only [ite_and]);(repeat' (first|with_reducible assumption|refine And.intro ?_ ?_|intro hp));all_goals (first|(refine hQ _ ?_;clear hQ Q)|omega|assumption|with_reducible rfl|(refine vq ?_;kernel_rfl)|skip))
  repeat' (first|(apply nx;with_reducible constructor)|refine uq (by decide) ?_)
  (refine vx env fun Q hQ=>?_;simp only [vkt,seval,tbL7_11,xbL7_1,renL_take,ids3,scS0,scH,scS1,scS2,scS3,scS4,tyD,ti55d,p27z,p43d,List.map_nil,hL,hy];(try simp only [ite_and]);(repeat' (first|with_reducible assumption|refine And.intro ?_ ?_|intro hp));all_goals (first|(refine hQ _ ?_;clear hQ Q)|omega|assumption|with_reducible rfl|(refine vq ?_;kernel_rfl)|skip))
  repeat' (first|(apply nx;with_reducible constructor)|refine uq (by decide) ?_)
  (refine vx env fun Q hQ=>?_;simp only [vkt,seval,tbL7_11,xbL7_1,renL_take,ids3,scS0,scH,scS1,scS2,scS3,scS4,tyD,ti55d,p27z,p43d,List.map_nil,w1];(try simp only [ite_and]);(repeat' (first|with_reducible assumption|refine And.intro ?_ ?_|intro hp));all_goals (first|(refine hQ _ ?_;clear hQ Q)|omega|assumption|with_reducible rfl|(refine vq ?_;kernel_rfl)|skip))
  repeat' (first|(apply nx;with_reducible constructor)|refine uq (by decide) ?_)
  (refine vx env fun Q hQ=>?_;simp only [vkt,seval,tbL7_11,xbL7_1,renL_take,ids3,scS0,scH,scS1,scS2,scS3,scS4,tyD,ti55d,p27z,p43d,List.map_nil,d0];(try simp only [ite_and]);(repeat' (first|with_reducible assumption|refine And.intro ?_ ?_|intro hp));all_goals (first|(refine hQ _ ?_;clear hQ Q)|omega|assumption|with_reducible rfl|(refine vq ?_;kernel_rfl)|skip))
  repeat' (first|(apply nx;with_reducible constructor)|refine uq (by decide) ?_)
  (refine sym_cd (by simp only [vkt,seval,tbL7_11,xbL7_1,renL_take,ids3,scS0,scH,scS1,scS2,scS3,scS4,tyD,ti55d,p27z,p43d,List.map_nil];rfl) (fun h=>?_) (fun h=>?_) <;> (try simp only [vki,reduceCtorEq] at h))
  repeat' (first|(apply nx;with_reducible constructor)|refine uq (by decide) ?_)
  (refine vx env fun Q hQ=>?_;simp only [vkt,seval,tbL7_11,xbL7_1,renL_take,ids3,scS0,scH,scS1,scS2,scS3,scS4,tyD,ti55d,p27z,p43d,List.map_nil,hh,hy2];(try simp only [ite_and]);(repeat' (first|with_reducible assumption|refine And.intro ?_ ?_|intro hp));all_goals (first|(refine hQ _ ?_;clear hQ Q)|omega|assumption|with_reducible rfl|(refine vq ?_;kernel_rfl)|skip))
  repeat' (first|(apply nx;with_reducible constructor)|refine uq (by decide) ?_)
  (refine vx env fun Q hQ=>?_;simp only [vkt,seval,tbL7_11,xbL7_1,renL_take,ids3,scS0,scH,scS1,scS2,scS3,scS4,tyD,ti55d,p27z,p43d,List.map_nil,w2,e6,setI];(try simp only [ite_and]);(repeat' (first|with_reducible assumption|refine And.intro ?_ ?_|intro hp));all_goals (first|(refine hQ _ ?_;clear hQ Q)|omega|assumption|with_reducible rfl|(refine vq ?_;kernel_rfl)|skip))
  repeat' (first|(apply nx;with_reducible constructor)|refine uq (by decide) ?_)
  refine (sym_le (?_:Le _ (scS0 (amL L C a) y2 C a)) ?_:Sym _ _ _ _ _)
  · (refine Le.ok (fun j=>if j=0 then some 0 else if j=1 then some 2 else none) [1] ?_;constructor;all_goals (try simp only [vle,vkt,seval,tbL7_11,xbL7_1,renL_take,ids3,scS0,scH,scS1,scS2,scS3,scS4,tyD,ti55d,p27z,p43d,List.map_nil]))
    all_goals first|rfl|(refine ⟨rfl,rfl,⟨_,_,rfl⟩, ?_⟩;show []=List.map eEnt L.entries;rw [hent];rfl)
  have hMc:=HS.am
  have mE:(amL L C a).entries=[]:=hent
  have mR:(amL L C a).rates=L.rates:=rfl
  have mC:(amL L C a).coins=L.coins:=rfl
  have mS:(amL L C a).start=L.start.set C (2 * a):=rfl
  have sX:(amL L C a).start.set C a=(scL L C a).start:=by rw [mS,List.set_set];rfl
  have sC:(scL L C a).coins=(amL L C a).coins:=rfl
  have sE:(scL L C a).entries=(amL L C a).entries:=rfl
  have hMf:Fit (amL L C a):=by
    have F:=hok.fit
    exact ⟨F.c,F.cs,F.r,F.rs,by rw [mS,List.length_set];exact F.s,F.e⟩
  obtain ⟨M,hM⟩:∃ M,amL L C a=M:=⟨_,rfl⟩
  obtain ⟨X,hX⟩:∃ X,scL L C a=X:=⟨_,rfl⟩
  rw [hM] at hMc mE mR mC mS sX sC sE hMf ⊢
  rw [hX] at sX sC sE
  have r3:M.rates.length≤3:=by rw [mR];omega
  have lt2:C < M.start.length:=by rw [mS,List.length_set];exact lt1
  have e7:=gI0 lt2
  (refine vx env fun Q hQ=>?_;simp only [vkt,seval,tbL7_11,xbL7_1,renL_take,ids3,scS0,scH,scS1,scS2,scS3,scS4,tyD,ti55d,p27z,p43d,List.map_nil,r3];(try simp only [ite_and]);(repeat' (first|with_reducible assumption|refine And.intro ?_ ?_|intro hp));all_goals (first|(refine hQ _ ?_;clear hQ Q)|omega|assumption|with_reducible rfl|(refine vq ?_;kernel_rfl)|skip))
  repeat' (first|(apply nx;with_reducible constructor)|refine uq (by decide) ?_)
  (refine vx env fun Q hQ=>?_;simp only [vkt,seval,tbL7_11,xbL7_1,renL_take,ids3,scS0,scH,scS1,scS2,scS3,scS4,tyD,ti55d,p27z,p43d,List.map_nil,e7,setI];(try simp only [ite_and]);(repeat' (first|with_reducible assumption|refine And.intro ?_ ?_|intro hp));all_goals (first|(refine hQ _ ?_;clear hQ Q)|omega|assumption|with_reducible rfl|(refine vq ?_;kernel_rfl)|skip))
  repeat' (first|(apply nx;with_reducible constructor)|refine uq (by decide) ?_)
  (refine vx env fun Q hQ=>?_;simp only [vkt,seval,tbL7_11,xbL7_1,renL_take,ids3,scS0,scH,scS1,scS2,scS3,scS4,tyD,ti55d,p27z,p43d,List.map_nil];(try simp only [ite_and]);(repeat' (first|with_reducible assumption|refine And.intro ?_ ?_|intro hp));all_goals (first|(refine hQ _ ?_;clear hQ Q)|omega|assumption|with_reducible rfl|(refine vq ?_;kernel_rfl)|skip))
  repeat' (first|(apply nx;with_reducible constructor)|refine uq (by decide) ?_)
  refine sym_loop (fun k:{ k:Nat // k≤M.rates.length∧∀ i,i < k→(dblS ((M.rates.getD i []).getD C default)).num≤20 }=>scS1 M X C a k.1) (fun k=>M.rates.length - k.1) ⟨0,Nat.zero_le _,fun i hi=>by omega⟩ ?_ fun ⟨k,hk,hk2⟩=>?_
  · have k0:=rkv_rdv C M.rates 0
    have k1:=rkv_rdv C M.rates 1
    have k2:=rkv_rdv C M.rates 2
    rcases (show M.rates.length=1∨M.rates.length=2∨M.rates.length=3 by rw [mR];omega) with hW|hW|hW
    all_goals
      (refine Le.ok (fun j=>if j=1 then some 1 else if j=2 then some 7 else if j=3 then some 2 else if j=20 then some 3 else if j=21 then some 4 else if j=22 then some 5 else none) [6] ?_;constructor;all_goals (try simp only [vle,vkt,seval,tbL7_11,xbL7_1,renL_take,ids3,scS0,scH,scS1,scS2,scS3,scS4,tyD,ti55d,p27z,p43d,List.map_nil]))
      all_goals first|rfl|((try simp only [k0,k1,k2]);simp [-List.getD_eq_getElem?_getD,hW,rid1,rid2,rid3,AV.le,AV.leL,AV.ids,AV.idsL,sC,sX,sE];done)
  have lW:=rid_len r3
  repeat' (first|(apply nx;with_reducible constructor)|refine uq (by decide) ?_)
  (refine vx env fun Q hQ=>?_;simp only [vkt,seval,tbL7_11,xbL7_1,renL_take,ids3,scS0,scH,scS1,scS2,scS3,scS4,tyD,ti55d,p27z,p43d,List.map_nil,lW];(try simp only [ite_and]);(repeat' (first|with_reducible assumption|refine And.intro ?_ ?_|intro hp));all_goals (first|(refine hQ _ ?_;clear hQ Q)|omega|assumption|with_reducible rfl|(refine vq ?_;kernel_rfl)|skip))
  repeat' (first|(apply nx;with_reducible constructor)|refine uq (by decide) ?_)
  (refine sym_cd (by simp only [vkt,seval,tbL7_11,xbL7_1,renL_take,ids3,scS0,scH,scS1,scS2,scS3,scS4,tyD,ti55d,p27z,p43d,List.map_nil];rfl) (fun h=>?_) (fun h=>?_) <;> (try simp only [vki,reduceCtorEq] at h))
  · rcases (show k=0∨k=1∨k=2 by omega) with rfl|rfl|rfl
    · have hlt:0 < M.rates.length:=by omega
      have gr:=rid_at7 (k:=M.rates.length) (i:=0) hlt (by omega)
      have rc:=rdv_cur (C:=C) hlt
      have rn:=rdv_new (C:=C) hlt
      have o0:=rdv_old (C:=C) (rs:=M.rates) (k:=0) (i:=1) (by omega)
      have o1:=rdv_old (C:=C) (rs:=M.rates) (k:=0) (i:=2) (by omega)
      have hw:=hok.r.all (M.rates.getD 0 []) (by rw [← mR];exact gMem hlt)
      obtain ⟨r,hr0⟩:∃ r,M.rates.getD 0 []=r:=⟨_,rfl⟩
      rw [hr0] at rc rn hw
      have lr:=hw.len
      have lC:C < r.length:=by omega
      have hsh:=hw.all _ (gMem (l:=r) (k:=C) (d:=default) lC)
      obtain ⟨q,hq,hT,h20⟩:=sh_q hsh
      have gs:(r.map eSh).getD C [.v (.int .i64 0),.v (.int .i64 0)]=[.v (.int .i64 q.num),.v (.int .i64 (q.den:Int))]:=by rw [gSh,hq];rfl
      have g0:(r.map eSh).getD C []=[.v (.int .i64 q.num),.v (.int .i64 (q.den:Int))]:=by rw [gS7 lC,hq];rfl
      have hz:=dbl_of hq
      have st:=set_dRow (C:=C) (r:=r) hz
      have lz:C < (dRow C r).length:=by rw [dRow_len];exact lC
      have gz:((dRow C r).map eSh).getD C []=[.v (.int .i64 (q * ((2:Int):Rat)).num),.v (.int .i64 ((q * ((2:Int):Rat)).den:Int))]:=by rw [gS7 lz,dRow_get lC,if_pos rfl,hz];rfl
      obtain ⟨z,hz0⟩:∃ z,q * ((2:Int):Rat)=z:=⟨_,rfl⟩
      rw [hz0] at hz st gz
      repeat' (first|(apply nx;with_reducible constructor)|refine uq (by decide) ?_)
      (refine vx env fun Q hQ=>?_;simp only [vkt,seval,tbL7_11,xbL7_1,renL_take,ids3,scS0,scH,scS1,scS2,scS3,scS4,tyD,ti55d,p27z,p43d,List.map_nil,gr,rc,gs,g0,hz0,st];(try simp only [ite_and]);(repeat' (first|with_reducible assumption|refine And.intro ?_ ?_|intro hp));all_goals (first|(refine hQ _ ?_;clear hQ Q)|omega|assumption|with_reducible rfl|(refine vq ?_;kernel_rfl)|skip))
      repeat' (first|(apply nx;with_reducible constructor)|refine uq (by decide) ?_)
      (refine vx env fun Q hQ=>?_;simp only [vkt,seval,tbL7_11,xbL7_1,renL_take,ids3,scS0,scH,scS1,scS2,scS3,scS4,tyD,ti55d,p27z,p43d,List.map_nil,gr,gz];(try simp only [ite_and]);(repeat' (first|with_reducible assumption|refine And.intro ?_ ?_|intro hp));all_goals (first|(refine hQ _ ?_;clear hQ Q)|omega|assumption|with_reducible rfl|(refine vq ?_;kernel_rfl)|skip))
      repeat' (first|(apply nx;with_reducible constructor)|refine uq (by decide) ?_)
      (refine sym_cd (by simp only [vkt,seval,tbL7_11,xbL7_1,renL_take,ids3,scS0,scH,scS1,scS2,scS3,scS4,tyD,ti55d,p27z,p43d,List.map_nil];rfl) (fun h=>?_) (fun h=>?_) <;> (try simp only [vki,reduceCtorEq] at h))
      · repeat' (first|(apply nx;with_reducible constructor)|refine uq (by decide) ?_|((first|refine vx env fun Q hQ=>?_|refine vz fun Q hQ=>?_);simp only [vkt,seval,tbL7_11,xbL7_1,renL_take,ids3,scS0,scH,scS1,scS2,scS3,scS4,tyD,ti55d,p27z,p43d,List.map_nil];(try simp only [ite_and]);(repeat' (first|with_reducible assumption|refine And.intro ?_ ?_|intro hp));all_goals (first|(refine hQ _ ?_;clear hQ Q)|(refine hQ _ (fun h=>?_) (fun h=>?_) <;> clear hQ Q <;> (try simp only [vki,reduceCtorEq] at h))|omega|assumption|with_reducible rfl|(refine vq ?_;kernel_rfl)|skip)))
        (simp only [vrt,Try.results11,vkt,seval,tbL7_11,xbL7_1,renL_take,ids3,scS0,scH,scS1,scS2,scS3,scS4,tyD,ti55d,p27z,p43d,List.map_nil];refine Fin.val rfl ?_;(try simp only [AV.le,AV.leL]))
        all_goals first|rfl|(simp;done)
      · repeat' (first|(apply nx;with_reducible constructor)|refine uq (by decide) ?_)
        (refine vx env fun Q hQ=>?_;simp only [vkt,seval,tbL7_11,xbL7_1,renL_take,ids3,scS0,scH,scS1,scS2,scS3,scS4,tyD,ti55d,p27z,p43d,List.map_nil];(try simp only [ite_and]);(repeat' (first|with_reducible assumption|refine And.intro ?_ ?_|intro hp));all_goals (first|(refine hQ _ ?_;clear hQ Q)|omega|assumption|with_reducible rfl|(refine vq ?_;kernel_rfl)|skip))
        repeat' (first|(apply nx;with_reducible constructor)|refine uq (by decide) ?_)
        refine ⟨⟨1,hlt,fun i hi=>?_⟩,by show M.rates.length - 1 < M.rates.length - 0;omega, ?_⟩
        · by_cases hik:i=0
          · subst hik;rw [hr0,hz];show z.num≤20;omega
          · exact hk2 i (by omega)
        (refine Le.ok some [] ?_;constructor;all_goals (try simp only [vle,vkt,seval,tbL7_11,xbL7_1,renL_take,ids3,scS0,scH,scS1,scS2,scS3,scS4,tyD,ti55d,p27z,p43d,List.map_nil]))
        all_goals first|rfl|exact ids_rid _|exact ⟨leL_rid _ _,rn.symm,o0.symm,o1.symm⟩
    · have hlt:1 < M.rates.length:=by omega
      have gr:=rid_at7 (k:=M.rates.length) (i:=1) hlt (by omega)
      have rc:=rdv_cur (C:=C) hlt
      have rn:=rdv_new (C:=C) hlt
      have o0:=rdv_old (C:=C) (rs:=M.rates) (k:=1) (i:=2) (by omega)
      have o1:=rdv_old (C:=C) (rs:=M.rates) (k:=1) (i:=0) (by omega)
      have hw:=hok.r.all (M.rates.getD 1 []) (by rw [← mR];exact gMem hlt)
      obtain ⟨r,hr0⟩:∃ r,M.rates.getD 1 []=r:=⟨_,rfl⟩
      rw [hr0] at rc rn hw
      have lr:=hw.len
      have lC:C < r.length:=by omega
      have hsh:=hw.all _ (gMem (l:=r) (k:=C) (d:=default) lC)
      obtain ⟨q,hq,hT,h20⟩:=sh_q hsh
      have gs:(r.map eSh).getD C [.v (.int .i64 0),.v (.int .i64 0)]=[.v (.int .i64 q.num),.v (.int .i64 (q.den:Int))]:=by rw [gSh,hq];rfl
      have g0:(r.map eSh).getD C []=[.v (.int .i64 q.num),.v (.int .i64 (q.den:Int))]:=by rw [gS7 lC,hq];rfl
      have hz:=dbl_of hq
      have st:=set_dRow (C:=C) (r:=r) hz
      have lz:C < (dRow C r).length:=by rw [dRow_len];exact lC
      have gz:((dRow C r).map eSh).getD C []=[.v (.int .i64 (q * ((2:Int):Rat)).num),.v (.int .i64 ((q * ((2:Int):Rat)).den:Int))]:=by rw [gS7 lz,dRow_get lC,if_pos rfl,hz];rfl
      obtain ⟨z,hz0⟩:∃ z,q * ((2:Int):Rat)=z:=⟨_,rfl⟩
      rw [hz0] at hz st gz
      repeat' (first|(apply nx;with_reducible constructor)|refine uq (by decide) ?_)
      (refine vx env fun Q hQ=>?_;simp only [vkt,seval,tbL7_11,xbL7_1,renL_take,ids3,scS0,scH,scS1,scS2,scS3,scS4,tyD,ti55d,p27z,p43d,List.map_nil,gr,rc,gs,g0,hz0,st];(try simp only [ite_and]);(repeat' (first|with_reducible assumption|refine And.intro ?_ ?_|intro hp));all_goals (first|(refine hQ _ ?_;clear hQ Q)|omega|assumption|with_reducible rfl|(refine vq ?_;kernel_rfl)|skip))
      repeat' (first|(apply nx;with_reducible constructor)|refine uq (by decide) ?_)
      (refine vx env fun Q hQ=>?_;simp only [vkt,seval,tbL7_11,xbL7_1,renL_take,ids3,scS0,scH,scS1,scS2,scS3,scS4,tyD,ti55d,p27z,p43d,List.map_nil,gr,gz];(try simp only [ite_and]);(repeat' (first|with_reducible assumption|refine And.intro ?_ ?_|intro hp));all_goals (first|(refine hQ _ ?_;clear hQ Q)|omega|assumption|with_reducible rfl|(refine vq ?_;kernel_rfl)|skip))
      repeat' (first|(apply nx;with_reducible constructor)|refine uq (by decide) ?_)
      (refine sym_cd (by simp only [vkt,seval,tbL7_11,xbL7_1,renL_take,ids3,scS0,scH,scS1,scS2,scS3,scS4,tyD,ti55d,p27z,p43d,List.map_nil];rfl) (fun h=>?_) (fun h=>?_) <;> (try simp only [vki,reduceCtorEq] at h))
      · repeat' (first|(apply nx;with_reducible constructor)|refine uq (by decide) ?_|((first|refine vx env fun Q hQ=>?_|refine vz fun Q hQ=>?_);simp only [vkt,seval,tbL7_11,xbL7_1,renL_take,ids3,scS0,scH,scS1,scS2,scS3,scS4,tyD,ti55d,p27z,p43d,List.map_nil];(try simp only [ite_and]);(repeat' (first|with_reducible assumption|refine And.intro ?_ ?_|intro hp));all_goals (first|(refine hQ _ ?_;clear hQ Q)|(refine hQ _ (fun h=>?_) (fun h=>?_) <;> clear hQ Q <;> (try simp only [vki,reduceCtorEq] at h))|omega|assumption|with_reducible rfl|(refine vq ?_;kernel_rfl)|skip)))
        (simp only [vrt,Try.results11,vkt,seval,tbL7_11,xbL7_1,renL_take,ids3,scS0,scH,scS1,scS2,scS3,scS4,tyD,ti55d,p27z,p43d,List.map_nil];refine Fin.val rfl ?_;(try simp only [AV.le,AV.leL]))
        all_goals first|rfl|(simp;done)
      · repeat' (first|(apply nx;with_reducible constructor)|refine uq (by decide) ?_)
        (refine vx env fun Q hQ=>?_;simp only [vkt,seval,tbL7_11,xbL7_1,renL_take,ids3,scS0,scH,scS1,scS2,scS3,scS4,tyD,ti55d,p27z,p43d,List.map_nil];(try simp only [ite_and]);(repeat' (first|with_reducible assumption|refine And.intro ?_ ?_|intro hp));all_goals (first|(refine hQ _ ?_;clear hQ Q)|omega|assumption|with_reducible rfl|(refine vq ?_;kernel_rfl)|skip))
        repeat' (first|(apply nx;with_reducible constructor)|refine uq (by decide) ?_)
        refine ⟨⟨2,hlt,fun i hi=>?_⟩,by show M.rates.length - 2 < M.rates.length - 1;omega, ?_⟩
        · by_cases hik:i=1
          · subst hik;rw [hr0,hz];show z.num≤20;omega
          · exact hk2 i (by omega)
        (refine Le.ok some [] ?_;constructor;all_goals (try simp only [vle,vkt,seval,tbL7_11,xbL7_1,renL_take,ids3,scS0,scH,scS1,scS2,scS3,scS4,tyD,ti55d,p27z,p43d,List.map_nil]))
        all_goals first|rfl|exact ids_rid _|exact ⟨leL_rid _ _,o1.symm,rn.symm,o0.symm⟩
    · have hlt:2 < M.rates.length:=by omega
      have gr:=rid_at7 (k:=M.rates.length) (i:=2) hlt (by omega)
      have rc:=rdv_cur (C:=C) hlt
      have rn:=rdv_new (C:=C) hlt
      have o0:=rdv_old (C:=C) (rs:=M.rates) (k:=2) (i:=0) (by omega)
      have o1:=rdv_old (C:=C) (rs:=M.rates) (k:=2) (i:=1) (by omega)
      have hw:=hok.r.all (M.rates.getD 2 []) (by rw [← mR];exact gMem hlt)
      obtain ⟨r,hr0⟩:∃ r,M.rates.getD 2 []=r:=⟨_,rfl⟩
      rw [hr0] at rc rn hw
      have lr:=hw.len
      have lC:C < r.length:=by omega
      have hsh:=hw.all _ (gMem (l:=r) (k:=C) (d:=default) lC)
      obtain ⟨q,hq,hT,h20⟩:=sh_q hsh
      have gs:(r.map eSh).getD C [.v (.int .i64 0),.v (.int .i64 0)]=[.v (.int .i64 q.num),.v (.int .i64 (q.den:Int))]:=by rw [gSh,hq];rfl
      have g0:(r.map eSh).getD C []=[.v (.int .i64 q.num),.v (.int .i64 (q.den:Int))]:=by rw [gS7 lC,hq];rfl
      have hz:=dbl_of hq
      have st:=set_dRow (C:=C) (r:=r) hz
      have lz:C < (dRow C r).length:=by rw [dRow_len];exact lC
      have gz:((dRow C r).map eSh).getD C []=[.v (.int .i64 (q * ((2:Int):Rat)).num),.v (.int .i64 ((q * ((2:Int):Rat)).den:Int))]:=by rw [gS7 lz,dRow_get lC,if_pos rfl,hz];rfl
      obtain ⟨z,hz0⟩:∃ z,q * ((2:Int):Rat)=z:=⟨_,rfl⟩
      rw [hz0] at hz st gz
      repeat' (first|(apply nx;with_reducible constructor)|refine uq (by decide) ?_)
      (refine vx env fun Q hQ=>?_;simp only [vkt,seval,tbL7_11,xbL7_1,renL_take,ids3,scS0,scH,scS1,scS2,scS3,scS4,tyD,ti55d,p27z,p43d,List.map_nil,gr,rc,gs,g0,hz0,st];(try simp only [ite_and]);(repeat' (first|with_reducible assumption|refine And.intro ?_ ?_|intro hp));all_goals (first|(refine hQ _ ?_;clear hQ Q)|omega|assumption|with_reducible rfl|(refine vq ?_;kernel_rfl)|skip))
      repeat' (first|(apply nx;with_reducible constructor)|refine uq (by decide) ?_)
      (refine vx env fun Q hQ=>?_;simp only [vkt,seval,tbL7_11,xbL7_1,renL_take,ids3,scS0,scH,scS1,scS2,scS3,scS4,tyD,ti55d,p27z,p43d,List.map_nil,gr,gz];(try simp only [ite_and]);(repeat' (first|with_reducible assumption|refine And.intro ?_ ?_|intro hp));all_goals (first|(refine hQ _ ?_;clear hQ Q)|omega|assumption|with_reducible rfl|(refine vq ?_;kernel_rfl)|skip))
      repeat' (first|(apply nx;with_reducible constructor)|refine uq (by decide) ?_)
      (refine sym_cd (by simp only [vkt,seval,tbL7_11,xbL7_1,renL_take,ids3,scS0,scH,scS1,scS2,scS3,scS4,tyD,ti55d,p27z,p43d,List.map_nil];rfl) (fun h=>?_) (fun h=>?_) <;> (try simp only [vki,reduceCtorEq] at h))
      · repeat' (first|(apply nx;with_reducible constructor)|refine uq (by decide) ?_|((first|refine vx env fun Q hQ=>?_|refine vz fun Q hQ=>?_);simp only [vkt,seval,tbL7_11,xbL7_1,renL_take,ids3,scS0,scH,scS1,scS2,scS3,scS4,tyD,ti55d,p27z,p43d,List.map_nil];(try simp only [ite_and]);(repeat' (first|with_reducible assumption|refine And.intro ?_ ?_|intro hp));all_goals (first|(refine hQ _ ?_;clear hQ Q)|(refine hQ _ (fun h=>?_) (fun h=>?_) <;> clear hQ Q <;> (try simp only [vki,reduceCtorEq] at h))|omega|assumption|with_reducible rfl|(refine vq ?_;kernel_rfl)|skip)))
        (simp only [vrt,Try.results11,vkt,seval,tbL7_11,xbL7_1,renL_take,ids3,scS0,scH,scS1,scS2,scS3,scS4,tyD,ti55d,p27z,p43d,List.map_nil];refine Fin.val rfl ?_;(try simp only [AV.le,AV.leL]))
        all_goals first|rfl|(simp;done)
      · repeat' (first|(apply nx;with_reducible constructor)|refine uq (by decide) ?_)
        (refine vx env fun Q hQ=>?_;simp only [vkt,seval,tbL7_11,xbL7_1,renL_take,ids3,scS0,scH,scS1,scS2,scS3,scS4,tyD,ti55d,p27z,p43d,List.map_nil];(try simp only [ite_and]);(repeat' (first|with_reducible assumption|refine And.intro ?_ ?_|intro hp));all_goals (first|(refine hQ _ ?_;clear hQ Q)|omega|assumption|with_reducible rfl|(refine vq ?_;kernel_rfl)|skip))
        repeat' (first|(apply nx;with_reducible constructor)|refine uq (by decide) ?_)
        refine ⟨⟨3,hlt,fun i hi=>?_⟩,by show M.rates.length - 3 < M.rates.length - 2;omega, ?_⟩
        · by_cases hik:i=2
          · subst hik;rw [hr0,hz];show z.num≤20;omega
          · exact hk2 i (by omega)
        (refine Le.ok some [] ?_;constructor;all_goals (try simp only [vle,vkt,seval,tbL7_11,xbL7_1,renL_take,ids3,scS0,scH,scS1,scS2,scS3,scS4,tyD,ti55d,p27z,p43d,List.map_nil]))
        all_goals first|rfl|exact ids_rid _|exact ⟨leL_rid _ _,o0.symm,o1.symm,rn.symm⟩
  have hkW:k=M.rates.length:=by omega
  subst hkW
  have hXc:checkE X=0:=by
    rw [← hX]
    refine HS.sc fun r hr=>?_
    rw [← mR] at hr
    obtain ⟨i,hi,rfl⟩:=List.mem_iff_getElem.1 hr
    have:=hk2 i hi
    rwa [show M.rates.getD i []=M.rates[i] by simp [List.getD_eq_getElem?_getD,hi]] at this
  have hXr:X.rates=M.rates.map (dRow C):=by rw [← hX,mR];rfl
  have hXf:Fit X:=by
    refine ⟨by rw [sC];exact hMf.c,by rw [sC];exact hMf.cs,by rw [hXr,List.length_map];exact hMf.r,fun p hp=>?_,by rw [← sX,List.length_set];exact hMf.s,by rw [sE];exact hMf.e⟩
    rw [hXr] at hp
    obtain ⟨r,hr,rfl⟩:=List.mem_map.1 hp
    rw [dRow_len];exact hMf.rs r hr
  have hyL:rdvL C M.rates=X.rates.map eShs:=by rw [rdvL_eq C M.rates r3,hXr]
  have rL:X.rates.length=M.rates.length:=by rw [hXr,List.length_map]
  have sA:accOf X=accOf M:=by rw [← hX,← hM];exact sc_acc HS
  have sG:gainsL X=gainsL M:=by rw [← hX,← hM];exact sc_gains HS
  have hBM:aBal M=.tup [.agg (cAcc (accOf M)),.v (.int .i64 0)]:=if_neg (by rw [hMc];simp)
  have hBX:aBal X=.tup [.agg (cAcc (accOf X)),.v (.int .i64 0)]:=if_neg (by rw [hXc];simp)
  have hGM:aGains M=.tup [.sl (((gainsL M).map shQ).map eSh),.v (.int .i64 0)]:=by rw [List.map_map];exact if_neg (by rw [hMc];simp)
  have hGX:aGains X=.tup [.sl (((gainsL X).map shQ).map eSh),.v (.int .i64 0)]:=by rw [List.map_map];exact if_neg (by rw [hXc];simp)
  rw [sA] at hBX
  rw [sG] at hGX
  obtain ⟨A,hA⟩:∃ A,accOf M=A:=⟨_,rfl⟩
  obtain ⟨G,hG⟩:∃ G,(gainsL M).map shQ=G:=⟨_,rfl⟩
  have lG:G.length≤100000:=by rw [← hG,List.length_map,gains_len,mC];omega
  rw [hA] at hBM hBX
  rw [hG] at hGM hGX
  have hsw:∀ d:Nat,d < M.rates.length→rq X d C * ((a:Int):Rat)=rq M d C * ((2 * a:Int):Rat):=fun d hd=>by
    rw [← hX,← hM];exact sc_w HS (by omega) (by rw [← mR];omega)
  clear sA sG hX hM
  repeat' (first|(apply nx;with_reducible constructor)|refine uq (by decide) ?_)
  refine (sym_le (?_:Le _ (scS2 M X C a (rdvL C M.rates))) ?_:Sym _ _ _ _ _)
  · rcases (show M.rates.length=1∨M.rates.length=2∨M.rates.length=3 by rw [mR];omega) with hW|hW|hW
    · have hl:rdvL C M.rates=[[.sl (rdv C M.rates M.rates.length 0)]]:=by unfold rdvL;rw [hW];rfl
      have hr:rid M.rates.length=[.row 20]:=by rw [hW];rfl
      (refine Le.ok some [20,21,22] ?_;constructor;all_goals (try simp only [vle,vkt,seval,tbL7_11,xbL7_1,renL_take,ids3,scS0,scH,scS1,scS2,scS3,scS4,tyD,ti55d,p27z,p43d,List.map_nil]))
      all_goals first|rfl|(rw [hr,hl];simp only [rowsLe,AV.le];exact ⟨⟨_,_,rfl⟩,trivial⟩)
    · have hl:rdvL C M.rates=[[.sl (rdv C M.rates M.rates.length 0)],[.sl (rdv C M.rates M.rates.length 1)]]:=by unfold rdvL;rw [hW];rfl
      have hr:rid M.rates.length=[.row 20,.row 21]:=by rw [hW];rfl
      (refine Le.ok some [20,21,22] ?_;constructor;all_goals (try simp only [vle,vkt,seval,tbL7_11,xbL7_1,renL_take,ids3,scS0,scH,scS1,scS2,scS3,scS4,tyD,ti55d,p27z,p43d,List.map_nil]))
      all_goals first|rfl|(rw [hr,hl];simp only [rowsLe,AV.le];exact ⟨⟨_,_,rfl⟩,⟨_,_,rfl⟩,trivial⟩)
    · have hl:rdvL C M.rates=[[.sl (rdv C M.rates M.rates.length 0)],[.sl (rdv C M.rates M.rates.length 1)],[.sl (rdv C M.rates M.rates.length 2)]]:=by unfold rdvL;rw [hW];rfl
      have hr:rid M.rates.length=[.row 20,.row 21,.row 22]:=by rw [hW];rfl
      (refine Le.ok some [20,21,22] ?_;constructor;all_goals (try simp only [vle,vkt,seval,tbL7_11,xbL7_1,renL_take,ids3,scS0,scH,scS1,scS2,scS3,scS4,tyD,ti55d,p27z,p43d,List.map_nil]))
      all_goals first|rfl|(rw [hr,hl];simp only [rowsLe,AV.le];exact ⟨⟨_,_,rfl⟩,⟨_,_,rfl⟩,⟨_,_,rfl⟩,trivial⟩)
  rw [hyL]
  refine (sym_le (?_:Le _ (scS3 M X C a)) ?_:Sym _ _ _ _ _)
  · (refine Le.ok some [3] ?_;constructor;all_goals (try simp only [vle,vkt,seval,tbL7_11,xbL7_1,renL_take,ids3,scS0,scH,scS1,scS2,scS3,scS4,tyD,ti55d,p27z,p43d,List.map_nil]))
    all_goals first|rfl|exact ⟨_,_,rfl⟩|(simp;done)
  repeat' (first|(apply nx;with_reducible constructor)|refine uq (by decide) ?_|((first|refine vx env fun Q hQ=>?_|refine vz fun Q hQ=>?_);simp only [vkt,seval,tbL7_11,xbL7_1,renL_take,ids3,scS0,scH,scS1,scS2,scS3,scS4,tyD,ti55d,p27z,p43d,List.map_nil,hBM,hBX,hGM,hGX,lG,zn];(try simp only [ite_and]);(repeat' (first|with_reducible assumption|refine And.intro ?_ ?_));all_goals (first|(refine hQ _ ?_;clear hQ Q)|(refine hQ _ (fun h=>?_) (fun h=>?_) <;> clear hQ Q <;> (try simp only [vki,reduceCtorEq] at h))|omega|with_reducible assumption|with_reducible rfl|(refine vq ?_;kernel_rfl)|skip)))
  refine sym_loop (fun k:{ k:Nat // k≤M.rates.length }=>scS4 M X C a k.1) (fun k=>M.rates.length - k.1) ⟨0,Nat.zero_le _⟩ ?_ fun ⟨k,hk⟩=>?_
  · (refine Le.ok some [] ?_;constructor;all_goals (try simp only [vle,vkt,seval,tbL7_11,xbL7_1,renL_take,ids3,scS0,scH,scS1,scS2,scS3,scS4,tyD,ti55d,p27z,p43d,List.map_nil]))
    all_goals first|rfl|(simp;done)
  by_cases hlt:k < M.rates.length
  · have d3:decide ((k:Int) < (M.rates.length:Int))=true:=decide_eq_true (by omega)
    have e9:=wrap_succ hlt (show M.rates.length≤maxLen by omega)
    have W1:aWorth M (k:Int) (C:Int) (2 * a)=.tup [.agg [.v (.int .i64 (rq M k C * ((2 * a:Int):Rat)).num),.v (.int .i64 ((rq M k C * ((2 * a:Int):Rat)).den:Int))],.v (.int .i64 0)]:=by
      unfold aWorth;rw [if_neg (by rw [worth0 hMc (by omega) (by rw [mC];omega) (by omega)];simp)];rfl
    have W2:aWorth X (k:Int) (C:Int) a=.tup [.agg [.v (.int .i64 (rq X k C * ((a:Int):Rat)).num),.v (.int .i64 ((rq X k C * ((a:Int):Rat)).den:Int))],.v (.int .i64 0)]:=by
      unfold aWorth;rw [if_neg (by rw [worth0 hXc (by omega) (by rw [sC,mC];omega) (by omega)];simp)];rfl
    rw [hsw k hlt] at W2
    obtain ⟨q,hq⟩:∃ q,rq M k C * ((2 * a:Int):Rat)=q:=⟨_,rfl⟩
    rw [hq] at W1 W2
    repeat' (first|(apply nx;with_reducible constructor)|refine uq (by decide) ?_|((first|refine vx env fun Q hQ=>?_|refine vz fun Q hQ=>?_);simp only [vkt,seval,tbL7_11,xbL7_1,renL_take,ids3,scS0,scH,scS1,scS2,scS3,scS4,tyD,ti55d,p27z,p43d,List.map_nil,d3,e9,w2,W1,W2,zn];(try simp only [ite_and]);(repeat' (first|with_reducible assumption|refine And.intro ?_ ?_));all_goals (first|(refine hQ _ ?_;clear hQ Q)|(refine hQ _ (fun h=>?_) (fun h=>?_) <;> clear hQ Q <;> (try simp only [vki,reduceCtorEq] at h))|omega|with_reducible assumption|with_reducible rfl|(refine vq ?_;kernel_rfl)|skip)))
    refine ⟨⟨k+1,hlt⟩,by show M.rates.length - (k+1) < M.rates.length - k;omega, ?_⟩
    (refine Le.ok some [] ?_;constructor;all_goals (try simp only [vle,vkt,seval,tbL7_11,xbL7_1,renL_take,ids3,scS0,scH,scS1,scS2,scS3,scS4,tyD,ti55d,p27z,p43d,List.map_nil]))
    all_goals first|rfl|(simp;done)
  have d3:decide ((k:Int) < (M.rates.length:Int))=false:=decide_eq_false (by omega)
  repeat' (first|(apply nx;with_reducible constructor)|refine uq (by decide) ?_|((first|refine vx env fun Q hQ=>?_|refine vz fun Q hQ=>?_);simp only [vkt,seval,tbL7_11,xbL7_1,renL_take,ids3,scS0,scH,scS1,scS2,scS3,scS4,tyD,ti55d,p27z,p43d,List.map_nil,d3,zn];(try simp only [ite_and]);(repeat' (first|with_reducible assumption|refine And.intro ?_ ?_));all_goals (first|(refine hQ _ ?_;clear hQ Q)|(refine hQ _ (fun h=>?_) (fun h=>?_) <;> clear hQ Q <;> (try simp only [vki,reduceCtorEq] at h))|omega|with_reducible assumption|with_reducible rfl|(refine vq ?_;kernel_rfl)|skip)))
  (simp only [vrt,Try.results11,vkt,seval,tbL7_11,xbL7_1,renL_take,ids3,scS0,scH,scS1,scS2,scS3,scS4,tyD,ti55d,p27z,p43d,List.map_nil];refine Fin.val rfl ?_;(try simp only [AV.le,AV.leL]))
  all_goals first|rfl|(simp;done)
end Go.Sym.B
