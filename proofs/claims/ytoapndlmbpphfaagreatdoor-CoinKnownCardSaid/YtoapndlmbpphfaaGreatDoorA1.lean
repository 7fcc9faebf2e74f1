/- Walks and what they compute, joined: part 1. -/
import Derived.Test.YtoapndlmbpphfaaGreatDoorAB2
import Derived.Lib.AppendIntMem
set_option linter.all false
namespace Go.Sym.B
open Go Go.Sym Go.Proofs Go.Sym.C
theorem _root_.Go.Sym.vj {a b:Prop} (x:a) (y:b):a∧b:=⟨x,y⟩
def _root_.Go.Sym.uq:=@Yr
def _root_.Go.Sym.ux:=@WR
def _root_.Go.Sym.uz:=@Y9
def _root_.Go.Sym.uj:=@YP
def _root_.Go.Sym.uk:=@Ku
def _root_.Go.Sym.uw:=@X0
def _root_.Go.Sym.uv:=@K8
def _root_.Go.Sym.vq:=@Vb
def _root_.Go.Sym.vx:=@Qbl
def _root_.Go.Sym.vz:=@Qd9
def c105:List AV→Prop × AV
  |[.agg [.sl cs,.sl rs,.sl ss,.sl es],.v (.int .i64 d),.v (.int .i64 c),.v (.int .i64 n)]=>(isL cs rs ss es∧Rt (zN cs rs ss es) d c∧-300000≤n∧n≤300000,aSh (shQ (rq (zN cs rs ss es) d c * (n:Rat))))
  |_=>(False,.junk)
end Go.Sym.B
namespace Go.Sym.B
open Go Go.Sym Go.Proofs Go.Sym.C
end Go.Sym.B
namespace Go.Sym.B
open Go Go.Sym Go.Proofs Go.Sym.C
end Go.Sym.B
namespace Go.Sym.B
open Go Go.Sym Go.Proofs Go.Sym.C
def Qc (l:Led) (d c n:Int):Int:=if zB l ≠ 0 then zB l else if !inB d 0 ((l.rates.length:Int) - 1) then 3 else if !inB c 0 ((l.coins.length:Int) - 1) then 3 else if !inB n 0 999 then 1 else 0
def ZK (l:Led) (d c n:Int):AV:=if Qc l d c n ≠ 0 then .tup [aSh ⟨0,0⟩,aI (Qc l d c n)] else .tup [aSh (shQ (rq l d c * (n:Rat))),aI 0]
theorem Qer {l:Led} {d c n:Int} (h:Qc l d c n=0):Val l∧Rt l d c∧0≤n∧n≤999:=by
  unfold Qc at h
  split at h
  · rename_i h1;exact absurd h h1
  rename_i h1
  split at h
  · exact absurd h (by decide)
  rename_i h2
  split at h
  · exact absurd h (by decide)
  rename_i h3
  split at h
  · exact absurd h (by decide)
  rename_i h4
  have hV:=Qt (Decidable.not_not.1 h1)
  have nf:∀ {p:Bool},¬ (!p)=true→p=true:=fun h=>by simpa using h
  have g2:=wC.1 (nf h2)
  have g3:=wC.1 (nf h3)
  have g4:=wC.1 (nf h4)
  exact ⟨hV,ve hV g2.1 g2.2 g3.1 g3.2,g4.1,g4.2⟩
def Y0:List AV→Prop × AV
  |[.agg [.sl cs,.sl rs,.sl ss,.sl es],.v (.int .i64 d),.v (.int .i64 c),.v (.int .i64 n)]=>(isL cs rs ss es∧Fit (zN cs rs ss es),ZK (zN cs rs ss es) d c n)
  |_=>(False,.junk)
theorem Jt (l:Led) (d c n:Int):(ZK l d c n).plain∧(ZK l d c n).flat:=by
  unfold ZK;split <;> simp [AV.plain,AV.plainL,AV.flat,AV.flatL,aI,aSh]
def zQ:=vj @ty3 (vj @QA (vj @YB (vj @jL (vj @xm (vj @JP (vj @Wt (vj @QJ (vj @ti3.eq_1 (vj @kP.eq_1 (vj @WO.eq_1 (vj @jG.eq_1 (vj @vG.eq_1 (vj @Wu.eq_1 (vj @Zo.eq_1 @Qe.eq_1))))))))))))))
def xw:=vj @aI.eq_1 (vj @aB.eq_1 (vj @zL.eq_1 (vj @zh.eq_1 (vj @aSh.eq_1 (vj @shQ.eq_1 (vj @c50.eq_1 (vj @c50.eq_2 (vj @s79.eq_1 (vj @s79.eq_2 (vj @c98.eq_1 (vj @c98.eq_2 (vj @s99.eq_1 (vj @s99.eq_2 (vj @c105.eq_1 (vj @c105.eq_2 (vj @yT (vj @jO (vj @Zt (@Yy)))))))))))))))))))
theorem QbX (l:Led) (d c n:Int) (hl:Fit l):FnV Tryz.prog 8 [zL l,aI d,aI c,aI n] (ZK l d c n):=by
  have env:Env (fun _=>True) Tryz.prog tyB (tab [(7,qo true c50),(27,qo true s79),(29,qo true c98),(30,qo true s99)]):=qY ⟨d50,e79,d98,e99,trivial⟩
  refine Fn.of (A:=fun _=>True) (n0:=0) (D:=noD) (Fn0 Tryz.func8 rfl (fun vs w=>by kernel_rfl) (by kernel_rfl)) (by simp) (by simp [AV.ids,AV.idsL,zL,zh,aI]) (fun i o h=>by cases h) (fun _ _ _ _=>trivial) qA ?_
  have q1:=hl.c
  have q2:=hl.r
  have w1:IntKind.wrap .i64 ((l.rates.length:Int) - 1)=(l.rates.length:Int) - 1:=wrap64 (by omega) (by omega)
  have w2:IntKind.wrap .i64 ((l.coins.length:Int) - 1)=(l.coins.length:Int) - 1:=wrap64 (by omega) (by omega)
  by_cases hw:Qc l d c n=0
  · obtain ⟨hV,hR,n0,n1⟩:=Qer hw
    rw [show ZK l d c n=_ from if_neg (by rw [hw];simp)]
    unfold Qc at hw
    split at hw
    · rename_i h1;exact absurd hw h1
    rename_i c0
    have c0:=Decidable.not_not.1 c0
    split at hw
    · exact absurd hw (by decide)
    rename_i c1
    split at hw
    · exact absurd hw (by decide)
    rename_i c2
    split at hw
    · exact absurd hw (by decide)
    rename_i c3
    have nf:∀ {p:Bool},¬ (!p)=true→p=true:=fun h=>by simpa using h
    have c1:=nf c1
    have c2:=nf c2
    have c3:=nf c3
    have g1:=Rw (xB hR) (show -100000≤n by omega) (by omega)
    have g2:-300000≤n∧n≤300000:=by omega
    repeat' (first|(apply nx;with_reducible constructor)|refine uq (by decide) ?_|((first|refine vx env fun Q hQ=>?_|refine vz fun Q hQ=>?_);simp only [vkt,seval,zQ,xw,w1,w2,c0,c1,c2,c3];(try simp only [ite_and]);(repeat' (first|with_reducible assumption|refine And.intro ?_ ?_|intro hp));all_goals (first|(refine hQ _ ?_;clear hQ Q)|(refine hQ _ (fun h=>?_) (fun h=>?_) <;> clear hQ Q <;> (try simp only [vki,reduceCtorEq] at h))|omega|assumption|with_reducible rfl|(refine vq ?_;kernel_rfl)|skip)))
    (simp only [vrt,Tryz.results8,vkt,seval,zQ,xw];refine Fin.val rfl ?_;(try simp only [AV.le,AV.leL]))
    all_goals first|rfl|(simp;done)|exact ⟨⟨rfl,rfl,trivial⟩,rfl,trivial⟩
  · rw [show ZK l d c n=_ from if_pos hw]
    by_cases c0:zB l=0
    · cases c1:inB d 0 ((l.rates.length:Int) - 1)
      · repeat' (first|(apply nx;with_reducible constructor)|refine uq (by decide) ?_|((first|refine vx env fun Q hQ=>?_|refine vz fun Q hQ=>?_);simp only [vkt,seval,zQ,xw,w1,w2,c0,c1];(try simp only [ite_and]);(repeat' (first|with_reducible assumption|refine And.intro ?_ ?_|intro hp));all_goals (first|(refine hQ _ ?_;clear hQ Q)|(refine hQ _ (fun h=>?_) (fun h=>?_) <;> clear hQ Q <;> (try simp only [vki,reduceCtorEq] at h))|omega|assumption|with_reducible rfl|(refine vq ?_;kernel_rfl)|skip)))
        (simp only [vrt,Tryz.results8,vkt,seval,zQ,xw];refine Fin.val rfl ?_;(try simp only [AV.le,AV.leL]))
        all_goals simp [Qc, *]
      cases c2:inB c 0 ((l.coins.length:Int) - 1)
      · repeat' (first|(apply nx;with_reducible constructor)|refine uq (by decide) ?_|((first|refine vx env fun Q hQ=>?_|refine vz fun Q hQ=>?_);simp only [vkt,seval,zQ,xw,w1,w2,c0,c1,c2];(try simp only [ite_and]);(repeat' (first|with_reducible assumption|refine And.intro ?_ ?_|intro hp));all_goals (first|(refine hQ _ ?_;clear hQ Q)|(refine hQ _ (fun h=>?_) (fun h=>?_) <;> clear hQ Q <;> (try simp only [vki,reduceCtorEq] at h))|omega|assumption|with_reducible rfl|(refine vq ?_;kernel_rfl)|skip)))
        (simp only [vrt,Tryz.results8,vkt,seval,zQ,xw];refine Fin.val rfl ?_;(try simp only [AV.le,AV.leL]))
        all_goals simp [Qc, *]
      cases c3:inB n 0 999
      · repeat' (first|(apply nx;with_reducible constructor)|refine uq (by decide) ?_|((first|refine vx env fun Q hQ=>?_|refine vz fun Q hQ=>?_);simp only [vkt,seval,zQ,xw,w1,w2,c0,c1,c2,c3];(try simp only [ite_and]);(repeat' (first|with_reducible assumption|refine And.intro ?_ ?_|intro hp));all_goals (first|(refine hQ _ ?_;clear hQ Q)|(refine hQ _ (fun h=>?_) (fun h=>?_) <;> clear hQ Q <;> (try simp only [vki,reduceCtorEq] at h))|omega|assumption|with_reducible rfl|(refine vq ?_;kernel_rfl)|skip)))
        (simp only [vrt,Tryz.results8,vkt,seval,zQ,xw];refine Fin.val rfl ?_;(try simp only [AV.le,AV.leL]))
        all_goals simp [Qc, *]
      exact absurd (by simp [Qc, *]) hw
    · repeat' (first|(apply nx;with_reducible constructor)|refine uq (by decide) ?_|((first|refine vx env fun Q hQ=>?_|refine vz fun Q hQ=>?_);simp only [vkt,seval,zQ,xw,w1,w2,c0];(try simp only [ite_and]);(repeat' (first|with_reducible assumption|refine And.intro ?_ ?_|intro hp));all_goals (first|(refine hQ _ ?_;clear hQ Q)|(refine hQ _ (fun h=>?_) (fun h=>?_) <;> clear hQ Q <;> (try simp only [vki,reduceCtorEq] at h))|omega|assumption|with_reducible rfl|(refine vq ?_;kernel_rfl)|skip)))
      (simp only [vrt,Tryz.results8,vkt,seval,zQ,xw];refine Fin.val rfl ?_;(try simp only [AV.le,AV.leL]))
      all_goals simp [Qc,c0]
theorem d46 {A:Frm→Prop}:qh A Tryz.prog 8 (qo true Y0):=qL fun vs hv h=>by
  clear hv
  unfold Y0 at h ⊢
  split at h
  · refine ⟨(Jt _ _ _ _).1,fun _=>(Jt _ _ _ _).2, ?_⟩
    rw [← jD h.1];exact QbX _ _ _ _ h.2
  · exact h.elim
end Go.Sym.B
namespace Go.Sym.B
open Go Go.Sym Go.Proofs Go.Sym.C
theorem QhT {q:Rat} (h:0≤q):0≤q.num:=Rat.num_nonneg.2 h
theorem Qdq {l:Led} {d a b n:Int} (h1:Rt l d a) (h2:Rt l d b) (hn:0≤n):0≤rq l d a * (n:Rat)∧0≤kg l d a b n:=by
  have e1:0≤rq l d a:=Rat.num_nonneg.1 (by have:=h1.n0;omega)
  have e2:0≤rq l d b:=Rat.num_nonneg.1 (by have:=h2.n0;omega)
  have e3:(0:Rat)≤(n:Rat):=by exact_mod_cast hn
  have e4:=Rat.mul_nonneg e1 e3
  refine ⟨e4, ?_⟩
  unfold kg
  rw [← KT _ _ (show 0 < (rq l d b).num by have:=h2.n0;omega)]
  refine Rat.num_nonneg.1 ?_
  rw [K9 (Int.mul_pos (je _) (by have:=h2.n0;omega))]
  exact Int.tdiv_nonneg (Int.mul_nonneg (QhT e4) (by omega)) (Int.natCast_nonneg _)
theorem w_nd {l:Led} {d a n:Int} (h:Rt l d a) (hn:n.natAbs≤300000):(rq l d a * (n:Rat)).num.natAbs≤6000000∧((rq l d a * (n:Rat)).den:Int)≤12:=by
  have hp:=je (rq l d a)
  have e:=LX (rq l d a) n
  have d':=Yd (a:=(rq l d a).num * n) hp
  have m:=JK (a:=(rq l d a).num * n) hp
  rw [e] at d' m
  have h0:=h.n0
  have h1:=h.n1
  have h2:=h.e1
  have:((rq l d a).num * n).natAbs≤20 * 300000:=by rw [Int.natAbs_mul];exact Nat.mul_le_mul (by omega) hn
  exact ⟨by omega,by omega⟩
theorem QfJ {w r:Rat} (hn:w.num.natAbs≤6000000) (hd:(w.den:Int)≤12) (h0:0 < r.num) (h1:r.num≤20) (h2:r.den≤12):Sm (w / r):=by
  rw [← KT w r h0]
  have hp:=Int.mul_pos (je w) h0
  have d':=Yd (a:=w.num * r.den) hp
  have m:=JK (a:=w.num * r.den) hp
  have hr:(w.num * (r.den:Int)).natAbs≤6000000 * 12:=by rw [Int.natAbs_mul];exact Nat.mul_le_mul hn (by simpa using h2)
  have:(w.den:Int) * r.num≤12 * 20:=Int.mul_le_mul hd h1 (by omega) (by decide)
  exact ⟨by omega,by omega,by omega⟩
end Go.Sym.B
namespace Go.Sym.B
open Go Go.Sym Go.Proofs Go.Sym.C
def Yi (l:Led):AV:=if zB l ≠ 0 then .tup [.sl [],aI (zB l)] else .tup [.sl ((xW l).map eQ),aI 0]
def gaT (l:Led) (G:List Rat) (k:Nat):St:={ t:=asg [(1,.ptr 0 0),(3,aI 0),(5,.row 1),(14,.sl (G.map eQ)),(15,aI G.length),(16,aI k)],h:=qc [(0,.cells (zh l)),(1,.row 30 2 ((G.take k).map eQ))],n:=2 }
theorem takeQ (l:List Rat) {k:Nat} (h:k < l.length):(l.take k).map eQ++[[.v (.int .i64 (l.getD k 0).num),.v (.int .i64 ((l.getD k 0).den:Int))]]=(l.take (k+1)).map eQ:=by
  rw [List.take_succ_eq_append_getElem h,List.map_append];simp [List.getD_eq_getElem?_getD,h,eQ,eSh,shQ]
def zO:=vj @ty3 (vj @xm (vj @JP (vj @Wt (vj @QJ (vj @ZQ (vj @QfC (vj @ti3.eq_1 (vj @vG.eq_1 (vj @Wu.eq_1 (vj @Zo.eq_1 (vj @Qe.eq_1 (vj @Qx.eq_1 @Ub.eq_1))))))))))))
def xz:=vj @aI.eq_1 (vj @aB.eq_1 (vj @zL.eq_1 (vj @zh.eq_1 (vj @gaT.eq_1 (vj @c50.eq_1 (vj @c50.eq_2 (vj @c96.eq_1 (vj @c96.eq_2 (vj @yT (vj @jO (vj @eQ.eq_1 (vj @eSh.eq_1 (vj @shQ.eq_1 (@rQ))))))))))))))
set_option maxHeartbeats 4000000 in
theorem Qat (l:Led) (hl:Fit l):FnV Tryz.prog 10 [zL l] (Yi l):=by
  have env:Env (fun _=>True) Tryz.prog tyB (tab [(7,qo true c50),(36,qo false c96)]):=qY ⟨d50,d96,trivial⟩
  refine Fn.of (A:=fun _=>True) (n0:=0) (D:=noD) (Fn0 Tryz.func10 rfl (fun vs w=>by kernel_rfl) (by kernel_rfl)) (by simp) (by simp [AV.ids,AV.idsL,zL,zh]) (fun i o h=>by cases h) (fun _ _ _ _=>trivial) qA ?_
  have q5:=WM
  have q1:=hl.c
  by_cases h0:zB l=0
  · have hV:=Qt h0
    rw [show Yi l=_ from if_neg (by rw [h0];simp)]
    have hGl:(xW l).length=l.coins.length:=by simp [xW]
    obtain ⟨G,hG⟩:∃ G,xW l=G:=⟨_,rfl⟩
    rw [hG] at hGl ⊢
    repeat' (first|(apply nx;with_reducible constructor)|refine uq (by decide) ?_|((first|refine vx env fun Q hQ=>?_|refine vz fun Q hQ=>?_);simp only [vkt,seval,zO,xz,h0,hG];(try simp only [ite_and]);(repeat' (first|with_reducible assumption|refine And.intro ?_ ?_|intro hp));all_goals (first|(refine hQ _ ?_;clear hQ Q)|(refine hQ _ (fun h=>?_) (fun h=>?_) <;> clear hQ Q <;> (try simp only [vki,reduceCtorEq] at h))|omega|assumption|with_reducible rfl|(refine vq ?_;kernel_rfl)|skip)))
    refine qz (fun k:{ k:Nat // k≤G.length }=>gaT l G k.1) (fun k=>G.length - k.1) ⟨0,Nat.zero_le _⟩ ?_ fun ⟨k,hk⟩=>?_
    · (refine Le.ok (fun j=>if j=1 then none else some j) [] ?_;constructor;all_goals (try simp only [vle,vkt,seval,zO,xz]))
      all_goals first|rfl|(simp;done)
    · repeat' (first|(apply nx;with_reducible constructor)|refine uq (by decide) ?_)
      (refine vx env fun Q hQ=>?_;simp only [vkt,seval,zO,xz];(try simp only [ite_and]);(repeat' (first|with_reducible assumption|refine And.intro ?_ ?_|intro hp));all_goals (first|(refine hQ _ ?_;clear hQ Q)|omega|assumption|with_reducible rfl|(refine vq ?_;kernel_rfl)|skip))
      repeat' (first|(apply nx;with_reducible constructor)|refine uq (by decide) ?_)
      (refine wh (by simp only [vkt,seval,zO,xz];rfl) (fun h=>?_) (fun h=>?_) <;> (try simp only [vki,reduceCtorEq] at h))
      · have hlt:k < G.length:=by omega
        have e9:=zt hlt (show G.length≤maxLen by omega)
        have e4:=takeQ G hlt
        have g1:(G.map eQ).getD k [.v (.int .i64 0),.v (.int .i64 0)]=[.v (.int .i64 (G.getD k 0).num),.v (.int .i64 ((G.getD k 0).den:Int))]:=by rw [gQ hlt];rfl
        have hk2:(G.take k).length=k:=by rw [List.length_take];omega
        have m1:(k+1) * 16≤140737488355328∧k+1≤maxLen:=by omega
        repeat' (first|(apply nx;with_reducible constructor)|refine uq (by decide) ?_|((first|refine vx env fun Q hQ=>?_|refine vz fun Q hQ=>?_);simp only [vkt,seval,zO,xz,g1,e4,e9,hk2];(try simp only [ite_and]);(repeat' (first|with_reducible assumption|refine And.intro ?_ ?_|intro hp));all_goals (first|(refine hQ _ ?_;clear hQ Q)|(refine hQ _ (fun h=>?_) (fun h=>?_) <;> clear hQ Q <;> (try simp only [vki,reduceCtorEq] at h))|omega|assumption|with_reducible rfl|(refine vq ?_;kernel_rfl)|skip)))
        refine ⟨⟨k+1,hlt⟩,by show G.length - (k+1) < G.length - k;omega, ?_⟩
        (refine Le.ok (fun j=>if j=1 then some 4 else some j) [] ?_;constructor;all_goals (try simp only [vle,vkt,seval,zO,xz]))
        all_goals first|rfl|(simp;done)
      · have hkn:k=G.length:=by omega
        subst hkn
        repeat' (first|(apply nx;with_reducible constructor)|refine uq (by decide) ?_|((first|refine vx env fun Q hQ=>?_|refine vz fun Q hQ=>?_);simp only [vkt,seval,zO,xz,List.take_length];(try simp only [ite_and]);(repeat' (first|with_reducible assumption|refine And.intro ?_ ?_|intro hp));all_goals (first|(refine hQ _ ?_;clear hQ Q)|(refine hQ _ (fun h=>?_) (fun h=>?_) <;> clear hQ Q <;> (try simp only [vki,reduceCtorEq] at h))|omega|assumption|with_reducible rfl|(refine vq ?_;kernel_rfl)|skip)))
        (simp only [vrt,Tryz.results10,vkt,seval,zO,xz];refine Fin.val rfl ?_;(try simp only [AV.le,AV.leL]))
        all_goals first|rfl|exact ⟨_,_,rfl⟩|exact ⟨⟨_,_,rfl⟩,trivial⟩|exact ⟨⟨_,_,rfl⟩,trivial,trivial⟩
  · rw [show Yi l=_ from if_pos h0]
    repeat' (first|(apply nx;with_reducible constructor)|refine uq (by decide) ?_|((first|refine vx env fun Q hQ=>?_|refine vz fun Q hQ=>?_);simp only [vkt,seval,zO,xz,h0];(try simp only [ite_and]);(repeat' (first|with_reducible assumption|refine And.intro ?_ ?_|intro hp));all_goals (first|(refine hQ _ ?_;clear hQ Q)|(refine hQ _ (fun h=>?_) (fun h=>?_) <;> clear hQ Q <;> (try simp only [vki,reduceCtorEq] at h))|omega|assumption|with_reducible rfl|(refine vq ?_;kernel_rfl)|skip)))
    (simp only [vrt,Tryz.results10,vkt,seval,zO,xz];refine Fin.val rfl ?_;(try simp only [AV.le,AV.leL]))
    all_goals first|rfl|(simp;done)
def c38:List AV→Prop × AV
  |[.agg [.sl cs,.sl rs,.sl ss,.sl es]]=>(isL cs rs ss es∧Fit (zN cs rs ss es),Yi (zN cs rs ss es))
  |_=>(False,.junk)
theorem d38 {A:Frm→Prop}:qh A Tryz.prog 10 (qo false c38):=qL fun vs hv h=>by
  clear hv
  unfold c38 at h ⊢
  split at h
  · refine ⟨by unfold Yi;split <;> simp [AV.plain,AV.plainL,aI],fun h=>absurd h (by decide), ?_⟩
    rw [← jD h.1];exact Qat _ h.2
  · exact h.elim
end Go.Sym.B
namespace Go.Sym.B
open Go Go.Sym Go.Proofs Go.Sym.C
end Go.Sym.B
namespace Go.Sym.B
open Go Go.Sym Go.Proofs Go.Sym.C
def JD (l:Led) (n:Int):AV:=if zB l ≠ 0 then .tup [.sl [],aI (zB l)] else if (l.entries.length:Int) < n then .tup [.sl [],aI 6] else if n < 0 then .tup [.sl [],aI 1] else .tup [ql (stK l n.toNat).2,aI 0]
def c59:List AV→Prop × AV
  |[.agg [.sl cs,.sl rs,.sl ss,.sl es],.v (.int .i64 n)]=>(isL cs rs ss es∧Fit (zN cs rs ss es),JD (zN cs rs ss es) n)
  |_=>(False,.junk)
theorem R8 (l:Led) (n:Int):(JD l n).plain:=by
  unfold JD ql;repeat' split
  all_goals simp [AV.plain,AV.plainL,aI]
def tiT (l:Led) (es:List Ent) (k:Nat):St:={ t:=asg [(2,.ptr 0 0),(7,.ptr 1 0),(29,.sl (es.map yg)),(30,aI es.length),(31,aI k)],h:=qc [(0,.cells (zh l)),(1,ym l 2),(2,ky (stK l k).2)],n:=3 }
def zG:=vj @ty3 (vj @jL (vj @V8 (vj @xm (vj @JI (vj @QJ (vj @Qa3 (vj @ti3.eq_1 (vj @jG.eq_1 (vj @J4.eq_1 (vj @vG.eq_1 (vj @Wv.eq_1 (vj @Qe.eq_1 @V6.eq_1))))))))))))
def yZ:=vj @aI.eq_1 (vj @aB.eq_1 (vj @zL.eq_1 (vj @zh.eq_1 (vj @ql.eq_1 (vj @U0.eq_1 (vj @yg.eq_1 (vj @QaA (vj @c50.eq_1 (vj @c50.eq_2 (vj @p97.eq_1 (vj @p97.eq_2 (vj @WV.eq_1 (vj @WV.eq_2 (vj @ym.eq_1 (vj @ky.eq_1 (vj @tiT.eq_1 (vj @yT (vj @jO (vj @xC (vj @Kq (vj @vH (vj @WL (@rEnt)))))))))))))))))))))))
set_option maxHeartbeats 4000000 in
theorem Qec (l:Led) (n:Int) (hl:Fit l):FnV Tryz.prog 12 [zL l,aI n] (JD l n):=by
  have env:Env (fun _=>True) Tryz.prog tyB (tab [(7,qo true c50),(37,fnE p97),(38,fnE WV)]):=qY ⟨d50,e97,e101,trivial⟩
  refine Fn.of (A:=fun _=>True) (n0:=0) (D:=noD) (Fn0 Tryz.func12 rfl (fun vs w=>by kernel_rfl) (by kernel_rfl)) (by simp) (by simp [AV.ids,AV.idsL,zL,zh,aI]) (fun i o h=>by cases h) (fun _ _ _ _=>trivial) qA ?_
  by_cases h0:zB l=0
  · have hV:=Qt h0
    rw [show JD l n=_ from if_neg (by rw [h0];simp)]
    by_cases h1:(l.entries.length:Int) < n
    · rw [if_pos h1]
      repeat' (first|(apply nx;with_reducible constructor)|refine uq (by decide) ?_|((first|refine vx env fun Q hQ=>?_|refine vz fun Q hQ=>?_);simp only [vkt,seval,zG,yZ,h0,h1];(try simp only [ite_and]);(repeat' (first|with_reducible assumption|refine And.intro ?_ ?_|intro hp));all_goals (first|(refine hQ _ ?_;clear hQ Q)|(refine hQ _ (fun h=>?_) (fun h=>?_) <;> clear hQ Q <;> (try simp only [vki,reduceCtorEq] at h))|omega|assumption|with_reducible rfl|(refine vq ?_;kernel_rfl)|skip)))
      (simp only [vrt,Tryz.results12,vkt,seval,zG,yZ];refine Fin.val rfl ?_;(try simp only [AV.le,AV.leL]))
      all_goals first|rfl|(simp;done)
    · rw [if_neg h1]
      by_cases h2:n < 0
      · rw [if_pos h2]
        repeat' (first|(apply nx;with_reducible constructor)|refine uq (by decide) ?_|((first|refine vx env fun Q hQ=>?_|refine vz fun Q hQ=>?_);simp only [vkt,seval,zG,yZ,h0,h1,h2];(try simp only [ite_and]);(repeat' (first|with_reducible assumption|refine And.intro ?_ ?_|intro hp));all_goals (first|(refine hQ _ ?_;clear hQ Q)|(refine hQ _ (fun h=>?_) (fun h=>?_) <;> clear hQ Q <;> (try simp only [vki,reduceCtorEq] at h))|omega|assumption|with_reducible rfl|(refine vq ?_;kernel_rfl)|skip)))
        (simp only [vrt,Tryz.results12,vkt,seval,zG,yZ];refine Fin.val rfl ?_;(try simp only [AV.le,AV.leL]))
        all_goals first|rfl|(simp;done)
      · rw [if_neg h2]
        have q1:=hV.c
        have q3:=hV.sl
        have q4:=hV.e
        have q5:l.start.length≤100000:=by omega
        obtain ⟨m,rfl⟩:=Int.eq_ofNat_of_zero_le (show 0≤n by omega)
        have hm:m≤l.entries.length:=by omega
        rw [Int.toNat_natCast]
        have hes:List.take m (l.entries.map yg)=(l.entries.take m).map yg:=by rw [List.map_take]
        have hel:(l.entries.take m).length=m:=by rw [List.length_take];omega
        have hge:∀ k,k < m→(l.entries.take m).getD k default=l.entries.getD k default:=fun k hk=>by
          simp [List.getD_eq_getElem?_getD,List.getElem?_take,hk]
        obtain ⟨es,hE⟩:∃ es,l.entries.take m=es:=⟨_,rfl⟩
        rw [hE] at hes hel hge
        have b1:(m:Int)≤((l.entries.map yg).length:Int):=by rw [List.length_map];omega
        have b2:(m:Int)≤(l.entries.length:Int):=by omega
        repeat' (first|(apply nx;with_reducible constructor)|refine uq (by decide) ?_|((first|refine vx env fun Q hQ=>?_|refine vz fun Q hQ=>?_);simp only [vkt,seval,zG,yZ,h0,h1,h2,hes];(try simp only [ite_and]);(repeat' (first|with_reducible assumption|refine And.intro ?_ ?_|intro hp));all_goals (first|(refine hQ _ ?_;clear hQ Q)|(refine hQ _ (fun h=>?_) (fun h=>?_) <;> clear hQ Q <;> (try simp only [vki,reduceCtorEq] at h))|omega|assumption|with_reducible rfl|(refine vq ?_;kernel_rfl)|skip)))
        refine qz (fun k:{ k:Nat // k≤es.length }=>tiT l es k.1) (fun k=>es.length - k.1) ⟨0,Nat.zero_le _⟩ ?_ fun ⟨k,hk⟩=>?_
        · (refine Le.ok some [] ?_;constructor;all_goals (try simp only [vle,vkt,seval,zG,yZ]))
          all_goals first|rfl|exact ⟨rfl,rfl⟩|exact ⟨rfl,rfl,rfl⟩|(simp;done)
        by_cases hlt:k < es.length
        · have d1:decide ((k:Int) < (es.length:Int))=true:=decide_eq_true (by omega)
          have e9:=wrap64 (n:=(k:Int)+1) (by omega) (by omega)
          have hkE:k < l.entries.length:=by omega
          have ho:=Wn hV k (by omega)
          have hen:=YE ho (by omega) (kF hV hkE)
          have hS:=ZL hkE
          have hx':=hge k (by omega)
          obtain ⟨x,hx⟩:∃ x,l.entries.getD k default=x:=⟨_,rfl⟩
          rw [hx] at hen hS hx'
          obtain ⟨has,hh⟩:∃ x,(stK l k).2=x:=⟨_,rfl⟩
          rw [hh] at hen hS
          have hen':EnOk has ⟨x.day,x.kind,x.coin,x.to,x.amount,x.got⟩:=hen
          have hS1:yj has ⟨x.day,x.kind,x.coin,x.to,x.amount,x.got⟩=(stK l (k+1)).2:=by rw [hS]
          repeat' (first|(apply nx;with_reducible constructor)|refine uq (by decide) ?_|((first|refine vx env fun Q hQ=>?_|refine vz fun Q hQ=>?_);simp only [vkt,seval,zG,yZ,d1,e9,hx',hh];(try simp only [ite_and]);(repeat' (first|with_reducible assumption|refine And.intro ?_ ?_|intro hp));all_goals (first|(refine hQ _ ?_;clear hQ Q)|(refine hQ _ (fun h=>?_) (fun h=>?_) <;> clear hQ Q <;> (try simp only [vki,reduceCtorEq] at h))|omega|assumption|with_reducible rfl|(refine vq ?_;kernel_rfl)|skip)))
          refine ⟨⟨k+1,hlt⟩,by show es.length - (k+1) < es.length - k;omega, ?_⟩
          (refine Le.ok some [] ?_;constructor;all_goals (try simp only [vle,vkt,seval,zG,yZ]))
          all_goals first|rfl|exact ⟨rfl,by rw [hS1]⟩|exact ⟨rfl,by rw [hS1],trivial⟩|(simp [hS1];done)
        · have d1:decide ((k:Int) < (es.length:Int))=false:=decide_eq_false (by omega)
          have hkn:k=m:=by omega
          subst hkn
          repeat' (first|(apply nx;with_reducible constructor)|refine uq (by decide) ?_|((first|refine vx env fun Q hQ=>?_|refine vz fun Q hQ=>?_);simp only [vkt,seval,zG,yZ,d1];(try simp only [ite_and]);(repeat' (first|with_reducible assumption|refine And.intro ?_ ?_|intro hp));all_goals (first|(refine hQ _ ?_;clear hQ Q)|(refine hQ _ (fun h=>?_) (fun h=>?_) <;> clear hQ Q <;> (try simp only [vki,reduceCtorEq] at h))|omega|assumption|with_reducible rfl|(refine vq ?_;kernel_rfl)|skip)))
          (simp only [vrt,Tryz.results12,vkt,seval,zG,yZ];refine Fin.val rfl ?_;(try simp only [AV.le,AV.leL]))
          all_goals first|rfl|exact ⟨⟨_,_,rfl⟩,trivial⟩|exact ⟨⟨_,_,rfl⟩,rfl,trivial⟩|exact ⟨⟨_,_,rfl⟩,trivial,trivial⟩|(simp;done)
  · rw [show JD l n=_ from if_pos h0]
    repeat' (first|(apply nx;with_reducible constructor)|refine uq (by decide) ?_|((first|refine vx env fun Q hQ=>?_|refine vz fun Q hQ=>?_);simp only [vkt,seval,zG,yZ,h0];(try simp only [ite_and]);(repeat' (first|with_reducible assumption|refine And.intro ?_ ?_|intro hp));all_goals (first|(refine hQ _ ?_;clear hQ Q)|(refine hQ _ (fun h=>?_) (fun h=>?_) <;> clear hQ Q <;> (try simp only [vki,reduceCtorEq] at h))|omega|assumption|with_reducible rfl|(refine vq ?_;kernel_rfl)|skip)))
    (simp only [vrt,Tryz.results12,vkt,seval,zG,yZ];refine Fin.val rfl ?_;(try simp only [AV.le,AV.leL]))
    all_goals first|rfl|(simp;done)
theorem d58 {A:Frm→Prop}:qh A Tryz.prog 12 (qo false c59):=qL fun vs hv h=>by
  clear hv
  unfold c59 at h ⊢
  split at h
  · refine ⟨R8 _ _,fun h=>absurd h (by decide), ?_⟩
    rw [← jD h.1];exact Qec _ _ h.2
  · exact h.elim
end Go.Sym.B
namespace Go.Sym.B
open Go Go.Sym Go.Proofs Go.Sym.C
def ZJ (f:Int→Int→Int→Int):List Int→Int→Int
  |a :: b :: r,n=>ZJ f (b :: r) (f a b n)
  |[_],n=>n
  |[],n=>n
theorem VM (f:Int→Int→Int→Int):∀ (p:List Int) (c n:Int),p ≠ []→ZJ f (p++[c]) n=f (p.getLastD 0) c (ZJ f p n)
  |[],_,_,h=>absurd rfl h
  |[a],c,n,_=>by simp [ZJ]
  |a :: b :: r,c,n,_=>by
    have:=VM f (b :: r) c (f a b n) (by simp)
    simp only [List.cons_append,ZJ] at this ⊢
    rw [this]
    simp [List.getLastD]
def bst (s:List Int × Int) (p:List Int) (n:Int):List Int × Int:=if s.2 < n∨(n=s.2∧p.length < s.1.length) then (p,n) else s
def dfs (f:Int→Int→Int→Int) (to:Int) (N:Nat):Nat→List Int→Int→List Int × Int→List Int × Int
  |0,p,n,s=>if p.getLastD 0=to then bst s p n else s
  |m+1,p,n,s=>if p.getLastD 0=to then bst s p n else (List.range N).foldl (fun s (c:Nat)=>if (c:Int) ∈ p then s else dfs f to N m (p++[(c:Int)]) (f (p.getLastD 0) c n) s) s
theorem Ve:∀ (N:Nat) (l:List Int),l.Nodup→(∀ x ∈ l,0≤x∧x < N)→l.length≤N
  |0,l,_,h=>by
    cases l with
    |nil=>simp
    |cons a l=>have:=h a (by simp);omega
  |N+1,l,hn,h=>by
    have h1:(l.erase (N:Int)).Nodup:=hn.erase _
    have h2:=Ve N (l.erase (N:Int)) h1 fun x hx=>by
      have h3:=h x (List.mem_of_mem_erase hx)
      have h4:x ≠ (N:Int):=fun e=>by
        rw [e] at hx
        exact (List.Nodup.not_mem_erase hn) hx
      omega
    have:=List.length_erase_le_of (l:=l) (a:=(N:Int))
    omega
where
  List.length_erase_le_of {l:List Int} {a:Int}:l.length≤(l.erase a).length+1:=by
    by_cases h:a ∈ l
    · rw [List.length_erase_of_mem h];omega
    · rw [List.erase_of_not_mem h];omega
theorem Qad {N:Nat} {p:List Int} (hn:p.Nodup) (h:∀ x ∈ p,0≤x∧x < N) (hl:p.length=N) {c:Nat} (hc:c < N):(c:Int) ∈ p:=by
  refine Classical.byContradiction fun hm=>?_
  have:=Ve N ((c:Int) :: p) (List.nodup_cons.2 ⟨hm,hn⟩) fun x hx=>by
    rcases List.mem_cons.1 hx with rfl|hx
    · omega
    · exact h x hx
  simp at this
  omega
structure Way (N:Nat) (p:List Int):Prop where
  ne:p ≠ []
  nd:p.Nodup
  bd:∀ x ∈ p,0≤x∧x < N
theorem Way.len {N:Nat} {p:List Int} (h:Way N p):p.length≤N:=Ve N p h.nd h.bd
theorem Way.snoc {N:Nat} {p:List Int} (h:Way N p) {c:Nat} (hc:c < N) (hm:(c:Int) ∉ p):Way N (p++[(c:Int)]):=by
  refine ⟨by simp, ?_,fun x hx=>?_⟩
  · rw [List.nodup_append]
    refine ⟨h.nd,by simp,fun a ha b hb=>?_⟩
    rw [List.mem_singleton] at hb
    subst hb
    exact fun e=>hm (e ▸ ha)
  · rcases List.mem_append.1 hx with hx|hx
    · exact h.bd x hx
    · rw [List.mem_singleton.1 hx];omega
theorem Way.last {N:Nat} {p:List Int} (h:Way N p):0≤p.getLastD 0∧p.getLastD 0 < N:=by
  have hm:p.getLastD 0 ∈ p:=by
    have:=h.ne
    rw [List.getLastD_eq_getLast?,List.getLast?_eq_some_getLast this]
    exact List.getLast_mem this
  exact h.bd _ hm
def QaI (f:Int→Int→Int→Int) (to:Int) (N m:Nat) (p:List Int) (n:Int) (s:List Int × Int) (k:Nat):List Int × Int:=(List.range k).foldl (fun s (c:Nat)=>if (c:Int) ∈ p then s else dfs f to N m (p++[(c:Int)]) (f (p.getLastD 0) c n) s) s
theorem XL (f:Int→Int→Int→Int) (to:Int) (N m:Nat) (p:List Int) (n:Int) (s:List Int × Int) (k:Nat):QaI f to N m p n s (k+1)=if (k:Int) ∈ p then QaI f to N m p n s k else dfs f to N m (p++[(k:Int)]) (f (p.getLastD 0) k n) (QaI f to N m p n s k):=by
  unfold QaI;rw [List.range_succ,List.foldl_append];rfl
theorem Qe8 {f:Int→Int→Int→Int} {to:Int} {N m:Nat} {p:List Int} {n:Int} {s:List Int × Int} (h:p.getLastD 0 ≠ to):dfs f to N (m+1) p n s=QaI f to N m p n s N:=by
  simp only [dfs];rw [if_neg h];rfl
end Go.Sym.B
namespace Go.Sym.B
open Go Go.Sym Go.Proofs Go.Sym.C
end Go.Sym.B
namespace Go.Sym.B
open Go Go.Sym Go.Proofs Go.Sym.C
structure RI (n0 d0 k:Nat) where
  n:Nat
  d:Nat
  n1:1≤n
  n2:n≤n0
  d1:1≤d
  d2:d≤d0
  e:n * d0=d * n0
  c:∀ j,k < j→j≤12→¬ (j ∣ n∧j ∣ d)
theorem RI.last {n0 d0:Nat} (i:RI n0 d0 1) (hd:d0≤12) (hd1:1≤d0):shQ (mkRat n0 d0)=⟨i.n,i.d⟩:=by
  have hg:Nat.gcd i.n i.d=1:=by
    have h1:=Nat.gcd_dvd_left i.n i.d
    have h2:=Nat.gcd_dvd_right i.n i.d
    have h3:0 < Nat.gcd i.n i.d:=Nat.gcd_pos_of_pos_left _ i.n1
    have h4:=Nat.le_of_dvd i.d1 h2
    have h5:=i.d2
    rcases Nat.lt_or_eq_of_le h3 with h6|h6
    · exact absurd ⟨h1,h2⟩ (i.c _ h6 (by omega))
    · exact h6.symm
  have hd0:d0 ≠ 0:=by omega
  have hid:i.d ≠ 0:=by have:=i.d1;omega
  have he:mkRat (n0:Int) d0=mkRat (i.n:Int) i.d:=by
    rw [Rat.mkRat_eq_iff hd0 hid]
    have:=i.e
    rw [Nat.mul_comm i.d] at this
    exact_mod_cast this.symm
  have hp:(0:Int) < (i.d:Int):=by have:=i.d1;omega
  have e1:=K9 (a:=(i.n:Int)) hp
  have e2:=LY (a:=(i.n:Int)) hp
  simp only [Int.toNat_natCast,Int.natAbs_natCast,hg] at e1 e2
  simp only [shQ,he,e1,e2]
  simp
end Go.Sym.B
namespace Go.Sym.B
open Go Go.Sym Go.Proofs Go.Sym.C
structure PcOk (p:List Int) (k:Nat):Prop where
  len:p.length=k+1
  one:p.getD 0 0=1
  up:∀ i,i < k→p.getD i 0 < p.getD (i+1) 0
  le:∀ i,i≤k→1≤p.getD i 0∧p.getD i 0≤1+12 * (i:Int)
structure CoS where
  cs:List (List Int)
  ss:List Int
  x:Int
structure CoOk (s:CoS) (k:Nat):Prop where
  c:s.cs.length=k
  l:s.ss.length=k
  p:∀ q ∈ s.cs,∃ j,j≤3∧PcOk q j
  v:∀ n ∈ s.ss,0≤n∧n≤200
structure ShOk (s:Sh):Prop where
  n:1≤s.num∧s.num≤20
  d:1≤s.den∧s.den≤12
  r:s=shQ (mkRat s.num s.den.toNat)
structure RwOk (r:List Sh) (m:Nat):Prop where
  len:r.length=m
  one:r.getD 0 default=⟨1,1⟩
  all:∀ s ∈ r,ShOk s
structure EnS where
  day:Int
  till:List Int
  es:List Ent
  x:Int
structure EnI (C R k:Nat) (s:EnS):Prop where
  d0:0≤s.day
  d1:s.day≤(R:Int) - 1
  len:s.till.length=C
  b:∀ v ∈ s.till,0≤v∧v≤999 * ((k:Int)+1)
  es:s.es.length≤k
structure EnJ (C R k:Nat) (s:EnS) (day coin:Int):Prop where
  i:EnI C R k s
  d0:0≤day
  d1:day≤(R:Int) - 1
  c0:0≤coin
  c1:coin≤(C:Int) - 1
theorem EnJ.h {C R k:Nat} {s:EnS} {day coin:Int} (j:EnJ C R k s day coin):0≤s.till.getD coin.toNat 0∧s.till.getD coin.toNat 0≤999 * ((k:Int)+1):=by
  have:=j.c0
  have:=j.c1
  have:=j.i.len
  exact j.i.b _ (jU (by omega))
theorem LA {l:List Int} {i:Nat} {v:Int} {P:Int→Prop} (h:∀ x ∈ l,P x) (hv:P v):∀ x ∈ l.set i v,P x:=fun x hx=>by
  rcases List.mem_or_eq_of_mem_set hx with h1|h1
  · exact h x h1
  · exact h1 ▸ hv
theorem EnJ.bd {C R k:Nat} {s:EnS} {day coin:Int} (j:EnJ C R k s day coin):∀ v ∈ s.till,0≤v∧v≤999 * (((k+1:Nat):Int)+1):=fun v hv=>by
  have:=j.i.b v hv;omega
theorem EnJ.set {C R k:Nat} {s:EnS} {day coin:Int} (j:EnJ C R k s day coin) {v:Int} {e:Ent} {x:Int} (h:0≤v∧v≤999 * ((k:Int)+1)+999):EnI C R (k+1) ⟨day,s.till.set coin.toNat v,s.es++[e],x⟩ :=
  ⟨j.d0,j.d1,by simp [j.i.len],LA j.bd (by omega),by simp;exact j.i.es⟩
structure RsOk (rs:List (List Sh)) (C:Nat):Prop where
  len:1≤rs.length∧rs.length≤4
  all:∀ r ∈ rs,RwOk r C
end Go.Sym.B
namespace Go.Sym.B
open Go Go.Sym Go.Proofs Go.Sym.C
structure LgOk (L:Led):Prop where
  c:1≤L.coins.length∧L.coins.length≤4
  p:∀ q ∈ L.coins,∃ j,j≤3∧PcOk q j
  s:L.start.length=L.coins.length
  v:∀ n ∈ L.start,0≤n∧n≤200
  r:RsOk L.rates L.coins.length
  e:L.entries.length≤6
theorem LgOk.fit {L:Led} (h:LgOk L):Fit L:=by
  refine ⟨by have:=h.c;omega,fun q hq=>?_,by have:=h.r.len;omega,fun r hr=>?_,by have:=h.c;have:=h.s;omega,by have:=h.e;omega⟩
  · obtain ⟨j,hj,hp⟩:=h.p q hq
    have:=hp.len;omega
  · have:=(h.r.all r hr).len;have:=h.c;omega
end Go.Sym.B
namespace Go.Sym.B
open Go Go.Sym Go.Proofs Go.Sym.C
theorem Qfl {a r:Rat} (h:r ≠ 0):a / r * r=a:=Rat.div_mul_cancel h
theorem K7 {w r:Rat} (hr:0 < r):((w / r).floor:Rat) * r≤w:=by
  have h1:=Rat.mul_le_mul_of_nonneg_right (Rat.floor_le (w / r)) (Rat.le_of_lt hr)
  rwa [Qfl (fun h=>by rw [h] at hr;exact absurd hr (by decide))] at h1
end Go.Sym.B
namespace Go.Sym.B
open Go Go.Sym Go.Proofs Go.Sym.C
def RX (p:List Int) (c:Int):Int:=match p.findIdx? (fun x=>decide (c=x)) with
  |some k=>k
  |none=>-1
theorem QeL {p:List Int} {c:Int} {k:Nat} (hk:k < p.length) (h:c=p.getD k 0) (hn:∀ j,j < k→c ≠ p.getD j 0):RX p c=k:=by
  unfold RX
  rw [List.findIdx?_eq_some_iff_getElem.2 ⟨hk,by simpa [List.getD_eq_getElem?_getD,hk] using h,fun j hj=>by
    have:=hn j hj
    simpa [List.getD_eq_getElem?_getD,show j < p.length by omega] using this⟩]
theorem Xt {p:List Int} {c:Int} (hn:∀ j,j < p.length→c ≠ p.getD j 0):RX p c=-1:=by
  unfold RX
  rw [List.findIdx?_eq_none_iff.2 fun x hx=>by
    obtain ⟨j,hj,rfl⟩:=List.getElem_of_mem hx
    have:=hn j hj
    simpa [List.getD_eq_getElem?_getD,hj] using this]
theorem QdR (p:List Int) (c:Int):decide (0≤RX p c)=decide (c ∈ p):=by
  by_cases h:c ∈ p
  · rw [decide_eq_true h]
    refine decide_eq_true ?_
    unfold RX
    cases hf:p.findIdx? (fun x=>decide (c=x)) with
    |some k=>simp
    |none=>have:=List.findIdx?_eq_none_iff.1 hf c h;simp at this
  · rw [decide_eq_false h]
    refine decide_eq_false ?_
    rw [Xt fun j hj e=>h (by rw [e];exact jU hj)]
    decide
def ixT (p:List Int) (c:Int) (k:Nat):St:={ t:=asg [(0,ql p),(1,aI c),(4,aI 0),(7,aI p.length),(8,aI k)],h:=qc [],n:=0 }
def zo:=vj @ty3 (vj @jL (vj @ti3.eq_1 @jG.eq_1))
def Qk:=vj @aI.eq_1 (vj @aB.eq_1 (vj @ql.eq_1 (vj @Qn (@qp.eq_1))))
theorem QeF (p:List Int) (c:Int) (hl:p.length≤maxLen):FnV Tryz.prog 72 [ql p,aI c] (aI (RX p c)):=by
  have env:Env (fun _=>True) Tryz.prog tyB (tab []):=qY trivial
  refine Fn.of (A:=fun _=>True) (n0:=0) (D:=noD) (Fn0 Tryz.func72 rfl (fun vs w=>by kernel_rfl) (by kernel_rfl)) (by simp) (by simp [AV.ids,AV.idsL,ql,aI]) (fun i o h=>by cases h) (fun _ _ _ _=>trivial) qA ?_
  repeat' (first|(apply nx;with_reducible constructor)|refine uq (by decide) ?_|((first|refine vx env fun Q hQ=>?_|refine vz fun Q hQ=>?_);simp only [vkt,seval,zo,Qk,ixT];(try simp only [ite_and]);(repeat' (first|with_reducible assumption|refine And.intro ?_ ?_|intro hp));all_goals (first|(refine hQ _ ?_;clear hQ Q)|(refine hQ _ (fun h=>?_) (fun h=>?_) <;> clear hQ Q <;> (try simp only [vki,reduceCtorEq] at h))|omega|assumption|with_reducible rfl|(refine vq ?_;kernel_rfl)|skip)))
  refine qz (fun k:{ k:Nat // k≤p.length∧∀ j,j < k→c ≠ p.getD j 0 }=>ixT p c k.1) (fun k=>p.length - k.1) ⟨0,Nat.zero_le _,fun j h=>by omega⟩ ?_ fun ⟨k,hk,hn⟩=>?_
  · (refine Le.ok some [] ?_;constructor;all_goals (try simp only [vle,vkt,seval,zo,Qk,ixT]))
    all_goals first|rfl|(simp;done)
  by_cases hlt:k < p.length
  · have d1:decide ((k:Int) < (p.length:Int))=true:=decide_eq_true (by omega)
    have e9:=zt hlt hl
    by_cases hc:c=p.getD k 0
    · have d2:decide (c=p.getD k 0)=true:=decide_eq_true hc
      have hz:=QeL hlt hc hn
      repeat' (first|(apply nx;with_reducible constructor)|refine uq (by decide) ?_|((first|refine vx env fun Q hQ=>?_|refine vz fun Q hQ=>?_);simp only [vkt,seval,zo,Qk,ixT,d1,d2];(try simp only [ite_and]);(repeat' (first|with_reducible assumption|refine And.intro ?_ ?_|intro hp));all_goals (first|(refine hQ _ ?_;clear hQ Q)|(refine hQ _ (fun h=>?_) (fun h=>?_) <;> clear hQ Q <;> (try simp only [vki,reduceCtorEq] at h))|omega|assumption|with_reducible rfl|(refine vq ?_;kernel_rfl)|skip)))
      (simp only [vrt,Tryz.results72,vkt,seval,zo,Qk,ixT];refine Fin.val rfl ?_;(try simp only [AV.le,AV.leL]))
      all_goals first|rfl|(simp [hz];done)
    · have d2:decide (c=p.getD k 0)=false:=decide_eq_false hc
      repeat' (first|(apply nx;with_reducible constructor)|refine uq (by decide) ?_|((first|refine vx env fun Q hQ=>?_|refine vz fun Q hQ=>?_);simp only [vkt,seval,zo,Qk,ixT,d1,d2,e9];(try simp only [ite_and]);(repeat' (first|with_reducible assumption|refine And.intro ?_ ?_|intro hp));all_goals (first|(refine hQ _ ?_;clear hQ Q)|(refine hQ _ (fun h=>?_) (fun h=>?_) <;> clear hQ Q <;> (try simp only [vki,reduceCtorEq] at h))|omega|assumption|with_reducible rfl|(refine vq ?_;kernel_rfl)|skip)))
      refine ⟨⟨k+1,hlt,fun j hj=>?_⟩,by show p.length - (k+1) < p.length - k;omega, ?_⟩
      · rcases Nat.lt_or_eq_of_le (Nat.le_of_lt_succ hj) with h|h
        · exact hn j h
        · rw [h];exact hc
      · (refine Le.ok some [] ?_;constructor;all_goals (try simp only [vle,vkt,seval,zo,Qk,ixT]))
        all_goals first|rfl|(simp;done)
  · have d1:decide ((k:Int) < (p.length:Int))=false:=decide_eq_false (by omega)
    have hz:=Xt (p:=p) (c:=c) fun j hj=>hn j (by omega)
    repeat' (first|(apply nx;with_reducible constructor)|refine uq (by decide) ?_|((first|refine vx env fun Q hQ=>?_|refine vz fun Q hQ=>?_);simp only [vkt,seval,zo,Qk,ixT,d1];(try simp only [ite_and]);(repeat' (first|with_reducible assumption|refine And.intro ?_ ?_|intro hp));all_goals (first|(refine hQ _ ?_;clear hQ Q)|(refine hQ _ (fun h=>?_) (fun h=>?_) <;> clear hQ Q <;> (try simp only [vki,reduceCtorEq] at h))|omega|assumption|with_reducible rfl|(refine vq ?_;kernel_rfl)|skip)))
    (simp only [vrt,Tryz.results72,vkt,seval,zo,Qk,ixT];refine Fin.val rfl ?_;(try simp only [AV.le,AV.leL]))
    all_goals first|rfl|(simp [hz];done)
def c143:List AV→Prop × AV
  |[.sl xs,.v (.int .i64 c)]=>(xs=(xs.map qJ).map qp∧xs.length≤maxLen,aI (RX (xs.map qJ) c))
  |_=>(False,.junk)
theorem d143 {A:Frm→Prop}:qh A Tryz.prog 72 (qo true c143):=qL fun vs hv h=>by
  clear hv
  unfold c143 at h ⊢
  split at h
  · refine ⟨by simp [AV.plain,aI],fun _=>by simp [AV.flat,aI], ?_⟩
    rename_i xs c
    have:=QeF (xs.map qJ) c (by rw [List.length_map];exact h.2)
    simp only [ql,← h.1] at this
    exact this
  · exact h.elim
def yx:=vj @ty3 @ti3.eq_1
def Qbk:=vj @aI.eq_1 (vj @aB.eq_1 (vj @ql.eq_1 (@vH)))
theorem Qho (p:List Int) (c:Int) (hl:p.length≤maxLen):FnV Tryz.prog 49 [ql p,aI c] (aB (decide (c ∈ p))):=by
  have env:Env (fun _=>True) Tryz.prog tyB (tab [(72,qo true c143)]):=qY ⟨d143,trivial⟩
  refine Fn.of (A:=fun _=>True) (n0:=0) (D:=noD) (Fn0 Tryz.func49 rfl (fun vs w=>by kernel_rfl) (by kernel_rfl)) (by simp) (by simp [AV.ids,AV.idsL,ql,aI]) (fun i o h=>by cases h) (fun _ _ _ _=>trivial) qA ?_
  have hz:=QdR p c
  repeat' (first|(apply nx;with_reducible constructor)|refine uq (by decide) ?_|((first|refine vx env fun Q hQ=>?_|refine vz fun Q hQ=>?_);simp only [vkt,seval,yx,Qbk,c143,hz];(try simp only [ite_and]);(repeat' (first|with_reducible assumption|refine And.intro ?_ ?_|intro hp));all_goals (first|(refine hQ _ ?_;clear hQ Q)|(refine hQ _ (fun h=>?_) (fun h=>?_) <;> clear hQ Q <;> (try simp only [vki,reduceCtorEq] at h))|omega|assumption|with_reducible rfl|(refine vq ?_;kernel_rfl)|skip)))
  (simp only [vrt,Tryz.results49,vkt,seval,yx,Qbk,c143];refine Fin.val rfl ?_;(try simp only [AV.le,AV.leL]))
  all_goals first|rfl|(simp [hz];done)
def ko:List AV→Prop × AV
  |[.sl xs,.v (.int .i64 c)]=>(xs=(xs.map qJ).map qp∧xs.length≤maxLen,aB (decide (c ∈ xs.map qJ)))
  |_=>(False,.junk)
theorem d121 {A:Frm→Prop}:qh A Tryz.prog 49 (qo true ko):=qL fun vs hv h=>by
  clear hv
  unfold ko at h ⊢
  split at h
  · refine ⟨by simp [AV.plain,aB],fun _=>by simp [AV.flat,aB], ?_⟩
    rename_i xs c
    have:=Qho (xs.map qJ) c (by rw [List.length_map];exact h.2)
    simp only [ql,← h.1] at this
    exact this
  · exact h.elim
structure Cap (l:Led) (d c n:Int):Prop where
  nn:0≤n
  le:((n:Int):Rat) * rq l d c≤((19980:Int):Rat)
theorem Qh0 {l:Led} {d c:Int} (h:Rt l d c):0 < rq l d c:=Rat.lt_of_le_of_ne (Rat.num_nonneg.1 (by have:=h.n0;omega)) (Ne.symm (QbB (by have:=h.n0;omega)))
theorem i_nn {n:Int} (h:0≤n):(0:Rat)≤((n:Int):Rat):=by
  have:((0:Int):Rat)≤((n:Int):Rat):=Rat.intCast_le_intCast.2 h
  simpa using this
theorem Cap.bd {l:Led} {d c n:Int} (h:Cap l d c n) (hr:Rt l d c):n≤300000:=by
  have h1:=Rat.mul_le_mul_of_nonneg_right h.le (i_nn (n:=((rq l d c).den:Int)) (Int.natCast_nonneg _))
  rw [Rat.mul_assoc,Yn,← Rat.intCast_mul,← Rat.intCast_mul] at h1
  have h2:=Rat.intCast_le_intCast.1 h1
  have h3:n * 1≤n * (rq l d c).num:=Int.mul_le_mul_of_nonneg_left hr.n0 h.nn
  have:=hr.e1
  omega
theorem Cap.step {l:Led} {d a b n:Int} (h:Cap l d a n) (h1:Rt l d a) (h2:Rt l d b):Cap l d b (kg l d a b n).floor:=by
  refine ⟨Rat.le_floor_iff.2 (by simpa using (Qdq h1 h2 h.nn).2), ?_⟩
  refine Rat.le_trans (K7 (Qh0 h2)) ?_
  rw [Rat.mul_comm];exact h.le
theorem QcF {l:Led} {d c n:Int} (hr:Rt l d c) (h0:0≤n) (h1:n≤999):Cap l d c n:=by
  refine ⟨h0, ?_⟩
  have h2:rq l d c≤((20:Int):Rat):=by simpa using (KP.1 (xB hr)).2.1
  refine Rat.le_trans (Rat.mul_le_mul_of_nonneg_left h2 (i_nn h0)) ?_
  rw [← Rat.intCast_mul]
  exact Rat.intCast_le_intCast.2 (by omega)
theorem Cap.fl {l:Led} {d a b n:Int} (h:Cap l d a n) (h1:Rt l d a) (h2:Rt l d b):FlOk (kg l d a b n):=by
  have hb:=h.bd h1
  have hn:=h.nn
  have hw:=w_nd h1 (n:=n) (by omega)
  exact Qey (QfJ (w:=rq l d a * (n:Rat)) (by omega) (by omega) (by have:=h2.n0;omega) h2.n1 h2.e1)
end Go.Sym.B
namespace Go.Sym.B
open Go Go.Sym Go.Proofs Go.Sym.C
def swF (l:Led) (d a b n:Int):Int:=(kg l d a b n).floor
def beH (l:Led) (d to:Int) (s:List Int × Int):List (Nat × AObj):=[(0,.cells [.v (.int .i64 to)]),(1,.cells [.v (.int .i64 s.2)]),(2,.cells [.sl (s.1.map qp)]),(3,.cells (zh l)),(4,.cells [.clo 48 [.ptr 0 0,.ptr 1 0,.ptr 2 0,.ptr 3 0,.ptr 4 0,.ptr 5 0]]),(5,.cells [.v (.int .i64 d)])]
structure BeOk (l:Led) (d:Int) (p:List Int) (n:Int) (m:Nat):Prop where
  fit:Fit l
  way:Way l.coins.length p
  len:p.length+m=l.coins.length
  rt:∀ c:Int,0≤c→c < l.coins.length→Rt l d c
  cap:Cap l d (p.getLastD 0) n
def BeFn (m:Nat):Prop:=∀ (l:Led) (d to:Int) (p:List Int) (n:Int) (s:List Int × Int),BeOk l d p n m→s.1.length≤20→Fn noB Tryz.prog 48 [ql p,aI n,.ptr 0 0,.ptr 1 0,.ptr 2 0,.ptr 3 0,.ptr 4 0,.ptr 5 0] (qc (beH l d to s)) (.tup []) (qc (beH l d to (dfs (swF l d) to l.coins.length m p n s))) 0
def ku (M:Nat) (S:St):List AV→Option Pk
  |[.row r,.v (.int .i64 n),.ptr a 0,.ptr b 0,.ptr c 0,.ptr e 0,.ptr f 0,.ptr g 0]=>match S.h r,S.h a,S.h b,S.h c,S.h e,S.h f,S.h g with
    |some (.row 3 1 pp),some (.cells [.v (.int .i64 to)]),some (.cells [.v (.int .i64 got)]),some (.cells [.sl way]),some (.cells [.sl cs,.sl rs,.sl ss,.sl es]),some (.cells [.clo 48 [.ptr a' 0,.ptr b' 0,.ptr c' 0,.ptr e' 0,.ptr f' 0,.ptr g' 0]]),some (.cells [.v (.int .i64 d)]) =>
      some { pre:=a'=a∧b'=b∧c'=c∧e'=e∧f'=f∧g'=g∧pp=(pp.map qJ).map qp∧way=(way.map qJ).map qp∧isL cs rs ss es∧pp.length≤cs.length∧cs.length - pp.length < M∧BeOk (zN cs rs ss es) d (pp.map qJ) n (cs.length - pp.length)∧way.length≤20,hs:=[a,b,c,e,f,g],bo:=[r],ar:=[.sl pp,.v (.int .i64 n),.ptr 0 0,.ptr 1 0,.ptr 2 0,.ptr 3 0,.ptr 4 0,.ptr 5 0],L0:=[.cells [.v (.int .i64 to)],.cells [.v (.int .i64 got)],.cells [.sl way],.cells [.sl cs,.sl rs,.sl ss,.sl es],.cells [.clo 48 [.ptr 0 0,.ptr 1 0,.ptr 2 0,.ptr 3 0,.ptr 4 0,.ptr 5 0]],.cells [.v (.int .i64 d)]],v:=.tup [],L1:=[some (.cells [.v (.int .i64 to)]),some (.cells [.v (.int .i64 (dfs (swF (zN cs rs ss es) d) to cs.length (cs.length - pp.length) (pp.map qJ) n (way.map qJ,got)).2)]),some (.cells [.sl ((dfs (swF (zN cs rs ss es) d) to cs.length (cs.length - pp.length) (pp.map qJ) n (way.map qJ,got)).1.map qp)]),some (.cells [.sl cs,.sl rs,.sl ss,.sl es]),some (.cells [.clo 48 [.ptr 0 0,.ptr 1 0,.ptr 2 0,.ptr 3 0,.ptr 4 0,.ptr 5 0]]),some (.cells [.v (.int .i64 d)])] }
    |_,_,_,_,_,_,_=>none
  |_=>none
theorem e120 {A:Frm→Prop} {M:Nat} (ih:∀ m,m < M→BeFn m):qh A Tryz.prog 48 (fnE (ku M)):=jC fun S bs q h hp=>by
  unfold ku at h
  split at h
  · split at h
    · rename_i r n a b c e f g _ _ _ _ _ _ _ pp to got way cs rs ss es a' b' c' e' f' g' d _ _ _ _ _ _ _
      cases h
      obtain ⟨_,_,_,_,_,_,h1,h2,h3,h4,h5,h6,h7⟩:=hp
      have:=ih _ h5 (zN cs rs ss es) d to (pp.map qJ) n (way.map qJ,got) h6 (by simpa using h7)
      simp only [beH,ql,aI,← h1,← h2,ZC h3,show (zN cs rs ss es).coins.length=cs.length by simp [zN]] at this
      exact this
    · cases h
  · cases h
theorem Qbu {s:List Int × Int} {p:List Int} {n:Int} {L:Nat} (h1:s.1.length≤L) (h2:p.length≤L):(bst s p n).1.length≤L:=by
  unfold bst;split <;> assumption
theorem QbM {f:Int→Int→Int→Int} {to:Int} {N:Nat}:∀ {m:Nat} {p:List Int} {n:Int} {s:List Int × Int},s.1.length≤20→p.length+m≤20→(dfs f to N m p n s).1.length≤20
  |0,p,n,s,h1,h2=>by
    simp only [dfs];split
    · exact Qbu h1 (by omega)
    · exact h1
  |m+1,p,n,s,h1,h2=>by
    simp only [dfs];split
    · exact Qbu h1 (by omega)
    · have key:∀ (l:List Nat) (s:List Int × Int),s.1.length≤20→(l.foldl (fun s (c:Nat)=>if (c:Int) ∈ p then s else dfs f to N m (p++[(c:Int)]) (f (p.getLastD 0) c n) s) s).1.length≤20:=by
        intro l
        induction l with
        |nil=>intro s h;exact h
        |cons c l ih =>
          intro s h
          rw [List.foldl_cons]
          refine ih _ ?_
          split
          · exact h
          · exact QbM h (by simp;omega)
      exact key _ _ h1
theorem Vu {f:Int→Int→Int→Int} {to:Int} {N m:Nat} {p:List Int} {n:Int} {s:List Int × Int} (h1:s.1.length≤20) (h2:p.length+m+1≤20):∀ k,(QaI f to N m p n s k).1.length≤20
  |0=>h1
  |k+1=>by
    rw [XL];split
    · exact Vu h1 h2 k
    · exact QbM (Vu h1 h2 k) (by simp;omega)
theorem Qcw {p:List Int} (h:p ≠ []):p.getD (p.length - 1) 0=p.getLastD 0:=by
  rw [List.getLastD_eq_getLast?,List.getLast?_eq_getElem?,List.getD_eq_getElem?_getD]
def beT (l:Led) (d to:Int) (p:List Int) (n:Int) (s:List Int × Int) (k:Nat):St:={ t:=asg [(0,ql p),(1,aI n),(2,.ptr 0 0),(3,.ptr 1 0),(4,.ptr 2 0),(5,.ptr 3 0),(6,.ptr 4 0),(7,.ptr 5 0),(10,aI (p.getLastD 0)),(40,aI l.coins.length),(41,aI k)],h:=qc (beH l d to s),n:=6,m:=6 }
def qx:=vj @ty3 (vj @QA (vj @jL (vj @xm (vj @ty99 (vj @ti3.eq_1 (vj @kP.eq_1 (vj @jG.eq_1 (vj @vG.eq_1 @Qdi.eq_1))))))))
def ja:=vj @aI.eq_1 (vj @aB.eq_1 (vj @zL.eq_1 (vj @zh.eq_1 (vj @ql.eq_1 (vj @aSh.eq_1 (vj @shQ.eq_1 (vj @p88.eq_1 (vj @p88.eq_2 (vj @p88.eq_3 (vj @c89.eq_1 (vj @c89.eq_2 (vj @s90.eq_1 (vj @s90.eq_2 (vj @yT (vj @jO (vj @Zt (vj @Yy (vj @vH (vj @Uk (vj @qp.eq_1 (vj @Qn (vj @WE (@zH.eq_1)))))))))))))))))))))))
set_option maxRecDepth 100000 in
set_option maxHeartbeats 4000000 in
theorem Qdw (m:Nat):BeFn m:=by
  induction m using Nat.strongRecOn with
  |_ m ih =>
    intro l d to p n s hg hs
    have env:Env (fun _=>True) Tryz.prog tyB (tab [(49,qo true ko),(42,fnE p88),(32,qo true c89),(33,qo true s90),(48,fnE (ku m))]):=qY ⟨d121,e88,d89,e90,e120 ih,trivial⟩
    refine Fn.of (A:=fun _=>True) (n0:=6) (D:=noD) (Fn0 Tryz.func48 rfl (fun vs w=>by kernel_rfl) (by kernel_rfl)) (by simp) (by simp [AV.ids,AV.idsL,ql,aI]) ?_ (fun _ _ _ _=>trivial) qA ?_
    · intro i o hi
      have h:=qV hi
      simp [beH] at h
      rcases h with ⟨rfl,rfl⟩|⟨rfl,rfl⟩|⟨rfl,rfl⟩|⟨rfl,rfl⟩|⟨rfl,rfl⟩|⟨rfl,rfl⟩ <;> simp [zh,AObj.ids,AV.ids,AV.idsL]
    have hf:=hg.fit
    have hW:=hg.way
    have hne:0 < p.length:=List.length_pos_iff.2 hW.ne
    have hpl:p.length≤20:=by have:=hg.len;have:=hf.c;omega
    have hpm:p.length≤maxLen:=by have:=WM;omega
    have big:(100000:Nat)≤maxLen:=by decide
    have hlast:=Qcw hW.ne
    have hlb:=hW.last
    obtain ⟨q,hq⟩:∃ q,p.getLastD 0=q:=⟨_,rfl⟩
    rw [hq] at hlast hlb
    have w1:IntKind.wrap .i64 ((p.length:Int) - 1)=((p.length - 1:Nat):Int):=by rw [wrap64 (by omega) (by omega)];omega
    have g1:(p.map qp).getD (p.length - 1) [.v (.int .i64 0)]=[.v (.int .i64 q)]:=by rw [Qn,hlast];rfl
    by_cases ht:q=to
    · have t1:decide (q=to)=true:=decide_eq_true ht
      have hd:dfs (swF l d) to l.coins.length m p n s=bst s p n:=by cases m <;> (simp only [dfs];rw [if_pos (by rw [hq];exact ht)])
      rw [hd]
      by_cases c1:s.2 < n
      · have k1:decide (s.2 < n)=true:=decide_eq_true c1
        rw [show bst s p n=(p,n) from if_pos (.inl c1)]
        repeat' (first|(apply nx;with_reducible constructor)|refine uq (by decide) ?_|((first|refine vx env fun Q hQ=>?_|refine vz fun Q hQ=>?_);simp only [vkt,seval,qx,ja,beH,beT,ku,ko,w1,g1,t1,k1];(try simp only [ite_and]);(repeat' (first|with_reducible assumption|refine And.intro ?_ ?_|intro hp));all_goals (first|(refine hQ _ ?_;clear hQ Q)|(refine hQ _ (fun h=>?_) (fun h=>?_) <;> clear hQ Q <;> (try simp only [vki,reduceCtorEq] at h))|omega|assumption|with_reducible rfl|(refine vq ?_;kernel_rfl)|skip)))
        (simp only [vrt,Tryz.results48,vkt,seval,qx,ja,beH,beT,ku,ko];refine Fin.ok some [] ?_ ?_ ?_ ?_ ?_ rfl;all_goals (try simp only [vle,vkt,seval,qx,ja,beH,beT,ku,ko]))
        all_goals first|rfl|(simp;done)
      have k1:decide (s.2 < n)=false:=decide_eq_false c1
      by_cases c2:n=s.2
      · have k2:decide (n=s.2)=true:=decide_eq_true c2
        by_cases c3:p.length < s.1.length
        · have k3:decide ((p.length:Int) < (s.1.length:Int))=true:=decide_eq_true (by omega)
          rw [show bst s p n=(p,n) from if_pos (.inr ⟨c2,c3⟩)]
          repeat' (first|(apply nx;with_reducible constructor)|refine uq (by decide) ?_|((first|refine vx env fun Q hQ=>?_|refine vz fun Q hQ=>?_);simp only [vkt,seval,qx,ja,beH,beT,ku,ko,w1,g1,t1,k1,k2,k3];(try simp only [ite_and]);(repeat' (first|with_reducible assumption|refine And.intro ?_ ?_|intro hp));all_goals (first|(refine hQ _ ?_;clear hQ Q)|(refine hQ _ (fun h=>?_) (fun h=>?_) <;> clear hQ Q <;> (try simp only [vki,reduceCtorEq] at h))|omega|assumption|with_reducible rfl|(refine vq ?_;kernel_rfl)|skip)))
          (simp only [vrt,Tryz.results48,vkt,seval,qx,ja,beH,beT,ku,ko];refine Fin.ok some [] ?_ ?_ ?_ ?_ ?_ rfl;all_goals (try simp only [vle,vkt,seval,qx,ja,beH,beT,ku,ko]))
          all_goals first|rfl|(simp;done)
        · have k3:decide ((p.length:Int) < (s.1.length:Int))=false:=decide_eq_false (by omega)
          rw [show bst s p n=s from if_neg (fun h=>by rcases h with h|h;exact c1 h;exact c3 h.2)]
          repeat' (first|(apply nx;with_reducible constructor)|refine uq (by decide) ?_|((first|refine vx env fun Q hQ=>?_|refine vz fun Q hQ=>?_);simp only [vkt,seval,qx,ja,beH,beT,ku,ko,w1,g1,t1,k1,k2,k3];(try simp only [ite_and]);(repeat' (first|with_reducible assumption|refine And.intro ?_ ?_|intro hp));all_goals (first|(refine hQ _ ?_;clear hQ Q)|(refine hQ _ (fun h=>?_) (fun h=>?_) <;> clear hQ Q <;> (try simp only [vki,reduceCtorEq] at h))|omega|assumption|with_reducible rfl|(refine vq ?_;kernel_rfl)|skip)))
          (simp only [vrt,Tryz.results48,vkt,seval,qx,ja,beH,beT,ku,ko];refine Fin.ok some [] ?_ ?_ ?_ ?_ ?_ rfl;all_goals (try simp only [vle,vkt,seval,qx,ja,beH,beT,ku,ko]))
          all_goals first|rfl|(simp;done)
      · have k2:decide (n=s.2)=false:=decide_eq_false c2
        rw [show bst s p n=s from if_neg (fun h=>by rcases h with h|h;exact c1 h;exact c2 h.1)]
        repeat' (first|(apply nx;with_reducible constructor)|refine uq (by decide) ?_|((first|refine vx env fun Q hQ=>?_|refine vz fun Q hQ=>?_);simp only [vkt,seval,qx,ja,beH,beT,ku,ko,w1,g1,t1,k1,k2];(try simp only [ite_and]);(repeat' (first|with_reducible assumption|refine And.intro ?_ ?_|intro hp));all_goals (first|(refine hQ _ ?_;clear hQ Q)|(refine hQ _ (fun h=>?_) (fun h=>?_) <;> clear hQ Q <;> (try simp only [vki,reduceCtorEq] at h))|omega|assumption|with_reducible rfl|(refine vq ?_;kernel_rfl)|skip)))
        (simp only [vrt,Tryz.results48,vkt,seval,qx,ja,beH,beT,ku,ko];refine Fin.ok some [] ?_ ?_ ?_ ?_ ?_ rfl;all_goals (try simp only [vle,vkt,seval,qx,ja,beH,beT,ku,ko]))
        all_goals first|rfl|(simp;done)
    · have t1:decide (q=to)=false:=decide_eq_false ht
      have ht':p.getLastD 0 ≠ to:=by rw [hq];exact ht
      have hmk:∀ k,k≤l.coins.length→m=0→True:=fun _ _ _=>trivial
      obtain ⟨mm,fin⟩:∃ G:Nat→List Int × Int,G 0=s∧(∀ k,k < l.coins.length→(G (k+1)=if (k:Int) ∈ p then G k else dfs (swF l d) to l.coins.length (m - 1) (p++[(k:Int)]) (swF l d q k n) (G k))∧((k:Int) ∉ p→0 < m))∧(∀ k,(G k).1.length≤20)∧G l.coins.length=dfs (swF l d) to l.coins.length m p n s:=by
        cases m with
        |zero =>
          have hall:∀ k,k < l.coins.length→(k:Int) ∈ p:=fun k hk=>Qad hW.nd hW.bd (by have:=hg.len;omega) hk
          refine ⟨fun _=>s,rfl,fun k hk=>⟨by rw [if_pos (hall k hk)],fun h=>absurd (hall k hk) h⟩,fun _=>hs, ?_⟩
          simp only [dfs];rw [if_neg ht']
        |succ m =>
          refine ⟨QaI (swF l d) to l.coins.length m p n s,rfl,fun k hk=>⟨by rw [XL,hq];rfl,fun _=>Nat.succ_pos _⟩,Vu hs (by have:=hg.len;have:=hf.c;omega),(Qe8 ht').symm⟩
      obtain ⟨f0,f1,f2,f3⟩:=fin
      rw [← f3]
      repeat' (first|(apply nx;with_reducible constructor)|refine uq (by decide) ?_|((first|refine vx env fun Q hQ=>?_|refine vz fun Q hQ=>?_);simp only [vkt,seval,qx,ja,beH,beT,ku,ko,w1,g1,t1];(try simp only [ite_and]);(repeat' (first|with_reducible assumption|refine And.intro ?_ ?_|intro hp));all_goals (first|(refine hQ _ ?_;clear hQ Q)|(refine hQ _ (fun h=>?_) (fun h=>?_) <;> clear hQ Q <;> (try simp only [vki,reduceCtorEq] at h))|omega|assumption|with_reducible rfl|(refine vq ?_;kernel_rfl)|skip)))
      refine qz (fun k:{ k:Nat // k≤l.coins.length }=>beT l d to p n (mm k.1) k.1) (fun k=>l.coins.length - k.1) ⟨0,Nat.zero_le _⟩ ?_ fun ⟨k,hk⟩=>?_
      · (refine Le.ok some [] ?_;constructor;all_goals (try simp only [vle,vkt,seval,qx,ja,beH,beT,ku,ko]))
        all_goals first|rfl|(rw [hq,f0];done)|(rw [hq];done)|(simp [f0,hq];done)
      unfold beT
      rw [hq]
      by_cases hlt:k < l.coins.length
      · have d1:decide ((k:Int) < (l.coins.length:Int))=true:=decide_eq_true (by omega)
        have e9:=wrap64 (n:=(k:Int)+1) (by omega) (by have:=hf.c;omega)
        obtain ⟨f4,f5⟩:=f1 k hlt
        by_cases hm:(k:Int) ∈ p
        · have d2:decide ((k:Int) ∈ p)=true:=decide_eq_true hm
          rw [if_pos hm] at f4
          repeat' (first|(apply nx;with_reducible constructor)|refine uq (by decide) ?_|((first|refine vx env fun Q hQ=>?_|refine vz fun Q hQ=>?_);simp only [vkt,seval,qx,ja,beH,beT,ku,ko,d1,d2,e9];(try simp only [ite_and]);(repeat' (first|with_reducible assumption|refine And.intro ?_ ?_|intro hp));all_goals (first|(refine hQ _ ?_;clear hQ Q)|(refine hQ _ (fun h=>?_) (fun h=>?_) <;> clear hQ Q <;> (try simp only [vki,reduceCtorEq] at h))|omega|assumption|with_reducible rfl|(refine vq ?_;kernel_rfl)|skip)))
          refine ⟨⟨k+1,hlt⟩,by show l.coins.length - (k+1) < l.coins.length - k;omega, ?_⟩
          (refine Le.ok some [] ?_;constructor;all_goals (try simp only [vle,vkt,seval,qx,ja,beH,beT,ku,ko]))
          all_goals first|rfl|(rw [hq];done)|(simp [f4,hq];done)
        · have d2:decide ((k:Int) ∈ p)=false:=decide_eq_false hm
          rw [if_neg hm] at f4
          have hm0:=f5 hm
          have R1:=hg.rt q hlb.1 hlb.2
          have R2:=hg.rt k (by omega) (by omega)
          have hcap:=hg.cap
          rw [hq] at hcap
          have c0:=hcap.nn
          have c1:=hcap.bd R1
          have c2:=hcap.fl R1 R2
          have c3:=hcap.step R1 R2
          have hpc:p.map qp++[[.v (.int .i64 (k:Int))]]=(p++[(k:Int)]).map qp:=by rw [List.map_append];rfl
          have m1:(p.length+1) * 8≤140737488355328∧p.length+1≤maxLen:=by omega
          have m2:p.length≤100000:=by omega
          have l1:(p++[(k:Int)]).length=p.length+1:=by simp
          have l2:l.coins.length - (p.length+1)=m - 1:=by have:=hg.len;omega
          have hG:BeOk l d (p++[(k:Int)]) (kg l d q k n).floor (l.coins.length - (p.length+1)):=⟨hf,hW.snoc hlt hm,by rw [l1];have:=hg.len;omega,hg.rt,by simpa using c3⟩
          have l3:p.length+1≤l.coins.length∧l.coins.length - (p.length+1) < m:=by have:=hg.len;omega
          have hsw:rq l d q * (n:Rat) / rq l d (k:Int)=kg l d q k n:=rfl
          have f6:=f2 k
          obtain ⟨M0,hM0⟩:∃ x,mm k=x:=⟨_,rfl⟩
          rw [hM0] at f4 f6 ⊢
          obtain ⟨sw,sg⟩:=M0
          have f7:sw.length≤20:=f6
          rw [show swF l d q k n=(kg l d q k n).floor from rfl,← l2] at f4
          repeat' (first|(apply nx;with_reducible constructor)|refine uq (by decide) ?_|((first|refine vx env fun Q hQ=>?_|refine vz fun Q hQ=>?_);simp only [vkt,seval,qx,ja,beH,beT,ku,ko,d1,d2,e9,hpc,hsw,l1];(try simp only [ite_and]);(repeat' (first|with_reducible assumption|refine And.intro ?_ ?_|intro hp));all_goals (first|(refine hQ _ ?_;clear hQ Q)|(refine hQ _ (fun h=>?_) (fun h=>?_) <;> clear hQ Q <;> (try simp only [vki,reduceCtorEq] at h))|omega|assumption|with_reducible rfl|(refine vq ?_;kernel_rfl)|skip)))
          · exact ⟨_,_,rfl⟩
          refine ⟨⟨k+1,hlt⟩,by show l.coins.length - (k+1) < l.coins.length - k;omega, ?_⟩
          (refine Le.ok some [] ?_;constructor;all_goals (try simp only [vle,vkt,seval,qx,ja,beH,beT,ku,ko]))
          all_goals first|rfl|(rw [hq];done)|(simp [f4,hq];done)
      · have d1:decide ((k:Int) < (l.coins.length:Int))=false:=decide_eq_false (by omega)
        have hkn:k=l.coins.length:=by omega
        subst hkn
        repeat' (first|(apply nx;with_reducible constructor)|refine uq (by decide) ?_|((first|refine vx env fun Q hQ=>?_|refine vz fun Q hQ=>?_);simp only [vkt,seval,qx,ja,beH,beT,ku,ko,d1];(try simp only [ite_and]);(repeat' (first|with_reducible assumption|refine And.intro ?_ ?_|intro hp));all_goals (first|(refine hQ _ ?_;clear hQ Q)|(refine hQ _ (fun h=>?_) (fun h=>?_) <;> clear hQ Q <;> (try simp only [vki,reduceCtorEq] at h))|omega|assumption|with_reducible rfl|(refine vq ?_;kernel_rfl)|skip)))
        (simp only [vrt,Tryz.results48,vkt,seval,qx,ja,beH,beT,ku,ko];refine Fin.ok some [] ?_ ?_ ?_ ?_ ?_ rfl;all_goals (try simp only [vle,vkt,seval,qx,ja,beH,beT,ku,ko]))
        all_goals first|rfl|(simp;done)
end Go.Sym.B
namespace Go.Sym.B
open Go Go.Sym Go.Proofs Go.Sym.C
structure WyOk (N:Nat) (p:List Int) (m:Nat):Prop where
  way:Way N p
  len:p.length+m=N
  n4:N≤4
end Go.Sym.B
namespace Go.Sym.B
open Go Go.Sym Go.Proofs Go.Sym.C
structure AlOk (l:Led) (d:Int) (q:List Int) (n:Int):Prop where
  ne:q ≠ []
  rt:∀ c ∈ q,Rt l d c
  cap:Cap l d (q.getD 0 0) n
  len:q.length≤20
theorem Qa4 {q:List Int} {i:Nat} (h:i < q.length):(q.take (i+1)).getLastD 0=q.getD i 0:=by
  rw [List.take_succ_eq_append_getElem h,List.getLastD_concat]
  simp [List.getD_eq_getElem?_getD,h]
theorem Lh {f:Int→Int→Int→Int} {q:List Int} {n:Int} {i:Nat} (h:i+1 < q.length):ZJ f (q.take (i+2)) n=f (q.getD i 0) (q.getD (i+1) 0) (ZJ f (q.take (i+1)) n):=by
  have hl:(q.take (i+1)).length=i+1:=by rw [List.length_take];omega
  rw [List.take_succ_eq_append_getElem (i:=i+1) h,VM f _ _ _ (fun e=>by rw [e] at hl;simp at hl),Qa4 (by omega)]
  simp [List.getD_eq_getElem?_getD,h]
theorem AlOk.caps {l:Led} {d:Int} {q:List Int} {n:Int} (h:AlOk l d q n):∀ i,i < q.length→Cap l d (q.getD i 0) (ZJ (swF l d) (q.take (i+1)) n)
  |0,hi=>by
    have:q.take 1=[q.getD 0 0]:=by
      rw [List.take_succ_eq_append_getElem hi];simp [List.getD_eq_getElem?_getD,hi]
    rw [this];exact h.cap
  |i+1,hi=>by
    have ih:=h.caps i (by omega)
    rw [Lh hi]
    exact ih.step (h.rt _ (jU (by omega))) (h.rt _ (jU hi))
def Qdn (l:Led) (d a b n:Int):List Int × Int:=dfs (swF l d) b l.coins.length (l.coins.length - 1) [a] n ([],-1)
def VT (l:Led) (d a b n:Int):AV:=if jc l d a b n ≠ 0 then .tup [.sl [],aI 0,aI (jc l d a b n)] else .tup [ql (Qdn l d a b n).1,aI (Qdn l d a b n).2,aI 0]
structure BwOk (l:Led) (d a b n:Int):Prop where
  val:Val l
  way:Way l.coins.length [a]
  rt:∀ c:Int,0≤c→c < l.coins.length→Rt l d c
  cap:Cap l d a n
  ab:a ≠ b
  b:0≤b∧b < l.coins.length
theorem bw_of {l:Led} {d a b n:Int} (h:jc l d a b n=0):BwOk l d a b n:=by
  obtain ⟨v1,v2,v3,v4,v5,v6⟩:=YX h
  unfold jc at h
  split at h
  · exact absurd h ‹_›
  split at h
  · exact absurd h (by decide)
  rename_i a2
  split at h
  · exact absurd h (by decide)
  rename_i a3
  split at h
  · exact absurd h (by decide)
  rename_i a4
  have nf:∀ {p:Bool},¬ (!p)=true→p=true:=fun h=>by simpa using h
  have b2:=wC.1 (nf a2)
  have b3:=wC.1 (nf a3)
  have b4:=wC.1 (nf a4)
  exact ⟨v1,⟨by simp,by simp,fun x hx=>by rw [List.mem_singleton.1 hx];omega⟩,fun c h0 h1=>ve v1 b2.1 b2.2 h0 (by omega),QcF v2 v4 v5,v6,by omega⟩
def VV (S:St):List AV→Option Pk
  |[.row r,.v (.int .i64 n),.ptr a 0,.ptr b 0,.ptr c 0,.ptr e 0,.ptr f 0,.ptr g 0]=>match S.h r,S.h a,S.h b,S.h c,S.h e,S.h f,S.h g with
    |some (.row 3 1 pp),some (.cells [.v (.int .i64 to)]),some (.cells [.v (.int .i64 got)]),some (.cells [.nil]),some (.cells [.sl cs,.sl rs,.sl ss,.sl es]),some (.cells [.clo 48 [.ptr a' 0,.ptr b' 0,.ptr c' 0,.ptr e' 0,.ptr f' 0,.ptr g' 0]]),some (.cells [.v (.int .i64 d)]) =>
      some { pre:=a'=a∧b'=b∧c'=c∧e'=e∧f'=f∧g'=g∧pp=(pp.map qJ).map qp∧isL cs rs ss es∧BeOk (zN cs rs ss es) d (pp.map qJ) n (cs.length - pp.length),hs:=[a,b,c,e,f,g],bo:=[r],ar:=[.sl pp,.v (.int .i64 n),.ptr 0 0,.ptr 1 0,.ptr 2 0,.ptr 3 0,.ptr 4 0,.ptr 5 0],L0:=[.cells [.v (.int .i64 to)],.cells [.v (.int .i64 got)],.cells [.sl []],.cells [.sl cs,.sl rs,.sl ss,.sl es],.cells [.clo 48 [.ptr 0 0,.ptr 1 0,.ptr 2 0,.ptr 3 0,.ptr 4 0,.ptr 5 0]],.cells [.v (.int .i64 d)]],v:=.tup [],L1:=[some (.cells [.v (.int .i64 to)]),some (.cells [.v (.int .i64 (dfs (swF (zN cs rs ss es) d) to cs.length (cs.length - pp.length) (pp.map qJ) n ([],got)).2)]),some (.cells [.sl ((dfs (swF (zN cs rs ss es) d) to cs.length (cs.length - pp.length) (pp.map qJ) n ([],got)).1.map qp)]),some (.cells [.sl cs,.sl rs,.sl ss,.sl es]),some (.cells [.clo 48 [.ptr 0 0,.ptr 1 0,.ptr 2 0,.ptr 3 0,.ptr 4 0,.ptr 5 0]]),some (.cells [.v (.int .i64 d)])] }
    |_,_,_,_,_,_,_=>none
  |_=>none
theorem e120n {A:Frm→Prop}:qh A Tryz.prog 48 (fnE VV):=jC fun S bs q h hp=>by
  unfold VV at h
  split at h
  · split at h
    · rename_i r n a b c e f g _ _ _ _ _ _ _ pp to got cs rs ss es a' b' c' e' f' g' d _ _ _ _ _ _ _
      cases h
      obtain ⟨_,_,_,_,_,_,h1,h3,h6⟩:=hp
      have:=Qdw _ (zN cs rs ss es) d to (pp.map qJ) n ([],got) h6 (by simp)
      simp only [beH,ql,aI,← h1,ZC h3,show (zN cs rs ss es).coins.length=cs.length by simp [zN],List.map_nil] at this
      exact this
    · cases h
  · cases h
def yY:=vj @ty3 (vj @jL (vj @xm (vj @QJ (vj @ty99 (vj @ti3.eq_1 (vj @jG.eq_1 (vj @vG.eq_1 (vj @Qe.eq_1 @Qdi.eq_1))))))))
def YJ:=vj @aI.eq_1 (vj @aB.eq_1 (vj @zL.eq_1 (vj @zh.eq_1 (vj @ql.eq_1 (vj @R7.eq_1 (vj @R7.eq_2 (vj @yT (vj @jO (vj @vH (@qp.eq_1))))))))))
set_option maxHeartbeats 4000000 in
theorem Qgb (l:Led) (d a b n:Int) (hl:Fit l):FnV Tryz.prog 16 [zL l,aI d,aI a,aI b,aI n] (VT l d a b n):=by
  have env:Env (fun _=>True) Tryz.prog tyB (tab [(31,qo true R7),(48,fnE VV)]):=qY ⟨d106,e120n,trivial⟩
  refine Fn.of (A:=fun _=>True) (n0:=0) (D:=noD) (Fn0 Tryz.func16 rfl (fun vs w=>by kernel_rfl) (by kernel_rfl)) (by simp) (by simp [AV.ids,AV.idsL,aI,zL,zh]) (fun i o h=>by cases h) (fun _ _ _ _=>trivial) qA ?_
  by_cases c0:jc l d a b n=0
  · have hb:=bw_of c0
    rw [show VT l d a b n=_ from if_neg (by rw [c0];simp)]
    have hc:=hb.val.c
    have hG:BeOk l d [a] n (l.coins.length - 1):=⟨hl,hb.way,by simp;omega,hb.rt,hb.cap⟩
    have hG':BeOk l d [qJ [.v (.int .i64 a)]] n (l.coins.length - 1):=hG
    have hW:dfs (swF l d) b l.coins.length (l.coins.length - 1) [qJ [.v (.int .i64 a)]] n ([],-1)=Qdn l d a b n:=rfl
    have dIW:qJ [DV.v (.int .i64 a)]=a:=rfl
    repeat' (first|(apply nx;with_reducible constructor)|refine uq (by decide) ?_|((first|refine vx env fun Q hQ=>?_|refine vz fun Q hQ=>?_);simp only [vkt,seval,yY,YJ,VV,c0,dIW];(try simp only [ite_and]);(repeat' (first|with_reducible assumption|refine And.intro ?_ ?_|intro hp));all_goals (first|(refine hQ _ ?_;clear hQ Q)|(refine hQ _ (fun h=>?_) (fun h=>?_) <;> clear hQ Q <;> (try simp only [vki,reduceCtorEq] at h))|omega|assumption|with_reducible rfl|(refine vq ?_;kernel_rfl)|skip)))
    all_goals first|exact ⟨_,_,rfl⟩|skip
    (simp only [vrt,Tryz.results16,vkt,seval,yY,YJ,VV];refine Fin.val rfl ?_;(try simp only [AV.le,AV.leL]))
    all_goals first|rfl|(simp;done)|exact ⟨rfl,rfl,trivial,trivial⟩
  · rw [show VT l d a b n=_ from if_pos c0]
    repeat' (first|(apply nx;with_reducible constructor)|refine uq (by decide) ?_|((first|refine vx env fun Q hQ=>?_|refine vz fun Q hQ=>?_);simp only [vkt,seval,yY,YJ,VV,c0];(try simp only [ite_and]);(repeat' (first|with_reducible assumption|refine And.intro ?_ ?_|intro hp));all_goals (first|(refine hQ _ ?_;clear hQ Q)|(refine hQ _ (fun h=>?_) (fun h=>?_) <;> clear hQ Q <;> (try simp only [vki,reduceCtorEq] at h))|omega|assumption|with_reducible rfl|(refine vq ?_;kernel_rfl)|skip)))
    (simp only [vrt,Tryz.results16,vkt,seval,yY,YJ,VV];refine Fin.val rfl ?_;(try simp only [AV.le,AV.leL]))
    all_goals first|rfl|(simp;done)
theorem U4 (l:Led) (d a b n:Int):(VT l d a b n).plain:=by
  unfold VT ql;split <;> simp [AV.plain,AV.plainL,aI]
def c62:List AV→Prop × AV
  |[.agg [.sl cs,.sl rs,.sl ss,.sl es],.v (.int .i64 d),.v (.int .i64 a),.v (.int .i64 b),.v (.int .i64 n)]=>(isL cs rs ss es∧Fit (zN cs rs ss es),VT (zN cs rs ss es) d a b n)
  |_=>(False,.junk)
theorem d62 {A:Frm→Prop}:qh A Tryz.prog 16 (qo false c62):=qL fun vs hv h=>by
  clear hv
  unfold c62 at h ⊢
  split at h
  · refine ⟨U4 _ _ _ _ _,fun h=>absurd h (by decide), ?_⟩
    rw [← jD h.1];exact Qgb _ _ _ _ _ h.2
  · exact h.elim
end Go.Sym.B
namespace Go.Sym.B
open Go Go.Sym Go.Proofs Go.Sym.C
def aD:AV→Int
  |.v (.int _ n)=>n
  |_=>0
theorem aD_e (n:Int):aD (aI n)=n:=rfl
theorem mAD (p:List Int):(p.map aI).map aD=p:=by simp [Function.comp_def,aD_e]
def aPu (p:List Int):AV:=.agg (p.map aI)
structure PuOk (p:List Int):Prop where
  len:p.length=4
  bd:∀ n ∈ p,0≤n∧n≤4
structure PzOk (ps:List Int):Prop where
  len:ps.length≤4
  bd:∀ n ∈ ps,1≤n∧n≤50
theorem Qdo (p:List Int):(p.map aI).all jQ=true:=by simp [aI,jQ]
theorem jl (p:List Int):AV.idsL (p.map aI)=[]:=Ro fun c hc=>by obtain ⟨n,_,rfl⟩:=List.mem_map.1 hc;rfl
theorem kY (h:Nat→Option AObj) (σ:Nat→Option Nat):∀ p:List Int,AV.leL h σ (p.map aI) (p.map aI)
  |[]=>by simp [AV.leL]
  |n :: p=>by simp only [List.map_cons,AV.leL];exact ⟨by simp [aI,AV.le],kY h σ p⟩
theorem Qbw (h:Nat→Option AObj):∀ p:List Int,AV.viewL h (p.map aI)=p.map aI
  |[]=>rfl
  |n :: p=>by simp only [List.map_cons,AV.viewL,Qbw h p];rfl
theorem ZM:∀ p:List Int,AV.plainL (p.map aI)=True
  |[]=>rfl
  |n :: p=>by simp only [List.map_cons,AV.plainL,ZM p];simp [aI,AV.plain]
theorem JB:∀ p:List Int,AV.flatL (p.map aI)=True
  |[]=>rfl
  |n :: p=>by simp only [List.map_cons,AV.flatL,JB p];simp [aI,AV.flat]
theorem Qby:∀ p:List Int,AV.rowsL (p.map aI)=[]
  |[]=>rfl
  |n :: p=>by simp only [List.map_cons,AV.rowsL,Qby p];rfl
theorem ZB (τ:Nat→Nat):∀ p:List Int,AV.renL τ (p.map aI)=p.map aI
  |[]=>rfl
  |n :: p=>by simp only [List.map_cons,AV.renL,ZB τ p];rfl
def puL:=And.intro Qdo (And.intro jl (And.intro kY (And.intro Qbw (And.intro ZM (And.intro JB (And.intro Qby ZB))))))
theorem Qa2 {p:List Int} {i:Nat} (h:i < p.length):(((p.map aI).drop i).take 1).headD .junk=aI (p.getD i 0):=by
  rw [List.drop_eq_getElem_cons (by simpa using h)]
  simp [List.getD_eq_getElem?_getD,h]
theorem QhF {p:List Int} {i:Nat} {n:Int} (h:i < p.length):(p.map aI).take i++[aI n]++(p.map aI).drop (i+1)=(p.set i n).map aI:=by
  rw [List.map_set,List.set_eq_take_append_cons_drop,if_pos (by simpa using h)];simp
def xF:List Int→List Int→Int
  |a :: xs,b :: ys=>a * b+xF xs ys
  |_,_=>0
theorem Uz:∀ {i:Nat} {ps p:List Int},i < ps.length→i < p.length→xF (ps.take (i+1)) (p.take (i+1))=xF (ps.take i) (p.take i)+ps.getD i 0 * p.getD i 0
  |0,a :: ps,b :: p,_,_=>by simp [xF]
  |i+1,a :: ps,b :: p,h,h'=>by
    have:=Uz (i:=i) (ps:=ps) (p:=p) (by simpa using h) (by simpa using h')
    simp only [List.take_succ_cons,xF,List.getD_cons_succ] at this ⊢
    omega
theorem RL:∀ {ps p:List Int} {n:Nat},ps.length≤n→xF ps (p.take n)=xF ps p
  |[],p,n,_=>by simp [xF]
  |a :: ps,[],n,_=>by simp
  |a :: ps,b :: p,0,h=>by simp at h
  |a :: ps,b :: p,n+1,h=>by simp only [List.take_succ_cons,xF];rw [RL (by simpa using h)]
theorem Qhd {a b A B:Int} (h:0≤a∧a≤A) (h':0≤b∧b≤B):0≤a * b∧a * b≤A * B :=
  ⟨Int.mul_nonneg h.1 h'.1,Int.mul_le_mul h.2 h'.2 h'.1 (Int.le_trans h.1 h.2)⟩
theorem Qan:∀ {ps p:List Int},(∀ n ∈ ps,1≤n∧n≤50)→(∀ n ∈ p,0≤n∧n≤4)→0≤xF ps p∧xF ps p≤200 * ps.length
  |[],p,_,_=>by simp [xF]
  |a :: ps,[],_,_=>by simp [xF];omega
  |a :: ps,b :: p,h,h'=>by
    have ih:=Qan (ps:=ps) (p:=p) (fun n hn=>h n (List.mem_cons_of_mem _ hn)) fun n hn=>h' n (List.mem_cons_of_mem _ hn)
    have h1:=h a List.mem_cons_self
    have h2:=h' b List.mem_cons_self
    have:=Qhd (A:=50) (B:=4) ⟨by omega,h1.2⟩ h2
    simp only [xF,List.length_cons]
    omega
theorem QdJ {p:List Int} {i:Nat} (h:i < p.length):(p.take (i+1)).sum=(p.take i).sum+p.getD i 0:=by
  rw [List.take_succ_eq_append_getElem h,List.sum_append]
  simp [List.getD_eq_getElem?_getD,h]
theorem KQ:∀ {p:List Int},(∀ n ∈ p,0≤n∧n≤4)→0≤p.sum∧p.sum≤4 * p.length
  |[],_=>by simp
  |b :: p,h=>by
    have ih:=KQ (p:=p) fun n hn=>h n (List.mem_cons_of_mem _ hn)
    have:=h b List.mem_cons_self
    simp only [List.sum_cons,List.length_cons]
    omega
theorem PuOk.at {p:List Int} (h:PuOk p) {i:Nat} (hi:i < 4):0≤p.getD i 0∧p.getD i 0≤4:=h.bd _ (by
  have:i < p.length:=by rw [h.len];exact hi
  simp [List.getD_eq_getElem?_getD,this])
def Qa0 (ps p:List Int) (i:Nat):St:={ t:=asg [(2,.ptr 0 0),(5,aI (xF (ps.take i) (p.take i))),(8,ql ps),(9,aI ps.length),(10,aI i)],h:=qc [(0,.cells (p.map aI))],n:=1 }
def wm:=vj @ty3 (vj @jL (vj @V7 (vj @ti3.eq_1 (vj @jG.eq_1 @JE.eq_1))))
def Wm:=vj @aI.eq_1 (vj @aB.eq_1 (vj @ql.eq_1 (vj @aPu.eq_1 (vj @vH (vj @qp.eq_1 (@Qn))))))
theorem QbY (ps p:List Int) (hp:PuOk p) (hs:PzOk ps):FnV Tryz.prog 46 [aPu p,ql ps] (aI (xF ps p)):=by
  have env:Env (fun _=>True) Tryz.prog tyB (tab []):=qY trivial
  refine Fn.of (A:=fun _=>True) (n0:=0) (D:=noD) (Fn0 Tryz.func46 rfl (fun vs w=>by kernel_rfl) (by kernel_rfl)) (by simp) (by simp [AV.ids,ql,aPu,jl]) (fun i o h=>by cases h) (fun _ _ _ _=>trivial) qA ?_
  have hl:=hs.len
  have hpl:=hp.len
  have h1:=Qdo p
  repeat' (first|(apply nx;with_reducible constructor)|refine uq (by decide) ?_|((first|refine vx env fun Q hQ=>?_|refine vz fun Q hQ=>?_);simp only [vkt,seval,wm,Wm,Qa0,puL,List.length_map,Nat.mul_one,hpl,h1];(try simp only [ite_and]);(repeat' (first|with_reducible assumption|refine And.intro ?_ ?_|intro hp));all_goals (first|(refine hQ _ ?_;clear hQ Q)|(refine hQ _ (fun h=>?_) (fun h=>?_) <;> clear hQ Q <;> (try simp only [vki,reduceCtorEq] at h))|omega|assumption|with_reducible rfl|(refine vq ?_;kernel_rfl)|skip)))
  refine qz (fun i:{ i:Nat // i≤ps.length }=>Qa0 ps p i.1) (fun i=>ps.length - i.1) ⟨0,Nat.zero_le _⟩ ?_ fun ⟨i,hi⟩=>?_
  · (refine Le.ok some [] ?_;constructor;all_goals (try simp only [vle,vkt,seval,wm,Wm,Qa0,puL,List.length_map,Nat.mul_one]))
    all_goals first|rfl
  by_cases hlt:i < ps.length
  · have d1:decide ((i:Int) < (ps.length:Int))=true:=decide_eq_true (by omega)
    have hi4:i < p.length:=by omega
    have b1:=hs.bd _ (jU (d:=0) hlt)
    have b2:=hp.at (show i < 4 by omega)
    have b3:=Qhd (A:=50) (B:=4) ⟨by omega,b1.2⟩ b2
    have b4:=Qan (ps:=ps.take i) (p:=p.take i) (fun n hn=>hs.bd n (List.mem_of_mem_take hn)) fun n hn=>hp.bd n (List.mem_of_mem_take hn)
    have b5:(ps.take i).length=i:=by rw [List.length_take];omega
    rw [b5] at b4
    have e1:=wrap64 (n:=(i:Int)+1) (by omega) (by omega)
    have e2:=wrap64 (n:=ps.getD i 0 * p.getD i 0) (by omega) (by omega)
    have e3:=wrap64 (n:=xF (ps.take i) (p.take i)+ps.getD i 0 * p.getD i 0) (by omega) (by omega)
    have e4:=Uz hlt hi4
    have e5:=Qa2 hi4
    repeat' (first|(apply nx;with_reducible constructor)|refine uq (by decide) ?_|((first|refine vx env fun Q hQ=>?_|refine vz fun Q hQ=>?_);simp only [vkt,seval,wm,Wm,Qa0,puL,List.length_map,Nat.mul_one,d1,e1,e2,e3,e5,hpl];(try simp only [ite_and]);(repeat' (first|with_reducible assumption|refine And.intro ?_ ?_|intro hp));all_goals (first|(refine hQ _ ?_;clear hQ Q)|(refine hQ _ (fun h=>?_) (fun h=>?_) <;> clear hQ Q <;> (try simp only [vki,reduceCtorEq] at h))|omega|assumption|with_reducible rfl|(refine vq ?_;kernel_rfl)|skip)))
    refine ⟨⟨i+1,hlt⟩,by show ps.length - (i+1) < ps.length - i;omega, ?_⟩
    (refine Le.ok some [] ?_;constructor;all_goals (try simp only [vle,vkt,seval,wm,Wm,Qa0,puL,List.length_map,Nat.mul_one]))
    all_goals first|rfl|(rw [e4];rfl)|exact ⟨by rw [e4],rfl⟩
  · have d1:decide ((i:Int) < (ps.length:Int))=false:=decide_eq_false (by omega)
    have e6:xF (ps.take i) (p.take i)=xF ps p:=by rw [List.take_of_length_le (by omega),RL (by omega)]
    repeat' (first|(apply nx;with_reducible constructor)|refine uq (by decide) ?_|((first|refine vx env fun Q hQ=>?_|refine vz fun Q hQ=>?_);simp only [vkt,seval,wm,Wm,Qa0,puL,List.length_map,Nat.mul_one,d1,e6];(try simp only [ite_and]);(repeat' (first|with_reducible assumption|refine And.intro ?_ ?_|intro hp));all_goals (first|(refine hQ _ ?_;clear hQ Q)|(refine hQ _ (fun h=>?_) (fun h=>?_) <;> clear hQ Q <;> (try simp only [vki,reduceCtorEq] at h))|omega|assumption|with_reducible rfl|(refine vq ?_;kernel_rfl)|skip)))
    (simp only [vrt,Tryz.results46,vkt,seval,wm,Wm,Qa0,puL,List.length_map,Nat.mul_one];refine Fin.val rfl ?_;(try simp only [AV.le,AV.leL]))
    all_goals first|rfl
def c131:List AV→Prop × AV
  |[.agg cs,.sl xs]=>(cs=(cs.map aD).map aI∧xs=(xs.map qJ).map qp∧PuOk (cs.map aD)∧PzOk (xs.map qJ),aI (xF (xs.map qJ) (cs.map aD)))
  |_=>(False,.junk)
theorem d131 {A:Frm→Prop}:qh A Tryz.prog 46 (qo true c131):=qL fun vs hv h=>by
  clear hv
  unfold c131 at h ⊢
  split at h
  · refine ⟨by simp [AV.plain,aI],fun _=>by simp [AV.flat,aI], ?_⟩
    have:=QbY _ _ h.2.2.1 h.2.2.2
    simp only [ql,aPu,← h.1,← h.2.1] at this
    exact this
  · exact h.elim
def maT (p:List Int) (i:Nat):St:={ t:=asg [(3,aI (p.take i).sum),(6,.agg (p.map aI)),(7,aI i)],h:=qc [(0,.cells (p.map aI))],n:=1 }
def wz:=vj @ty3 (vj @V7 (vj @ti3.eq_1 @JE.eq_1))
def Z9:=vj @aI.eq_1 (vj @aB.eq_1 (@aPu.eq_1))
theorem QdQ (p:List Int) (hp:PuOk p):FnV Tryz.prog 44 [aPu p] (aI p.sum):=by
  have env:Env (fun _=>True) Tryz.prog tyB (tab []):=qY trivial
  refine Fn.of (A:=fun _=>True) (n0:=0) (D:=noD) (Fn0 Tryz.func44 rfl (fun vs w=>by kernel_rfl) (by kernel_rfl)) (by simp) (by simp [AV.ids,aPu,jl]) (fun i o h=>by cases h) (fun _ _ _ _=>trivial) qA ?_
  have hpl:=hp.len
  have htk:(p.map aI).take 4=p.map aI:=List.take_of_length_le (by simp [hpl])
  repeat' (first|(apply nx;with_reducible constructor)|refine uq (by decide) ?_|((first|refine vx env fun Q hQ=>?_|refine vz fun Q hQ=>?_);simp only [vkt,seval,wz,Z9,maT,puL,List.length_map,Nat.mul_one,hpl,htk];(try simp only [ite_and]);(repeat' (first|with_reducible assumption|refine And.intro ?_ ?_|intro hp));all_goals (first|(refine hQ _ ?_;clear hQ Q)|(refine hQ _ (fun h=>?_) (fun h=>?_) <;> clear hQ Q <;> (try simp only [vki,reduceCtorEq] at h))|omega|assumption|with_reducible rfl|(refine vq ?_;kernel_rfl)|skip)))
  refine qz (fun i:{ i:Nat // i≤4 }=>maT p i.1) (fun i=>4 - i.1) ⟨0,Nat.zero_le _⟩ ?_ fun ⟨i,hi⟩=>?_
  · (refine Le.ok some [] ?_;constructor;all_goals (try simp only [vle,vkt,seval,wz,Z9,maT,puL,List.length_map,Nat.mul_one]))
    all_goals first|rfl
  by_cases hlt:i < 4
  · have d1:decide ((i:Int) < 4)=true:=decide_eq_true (by omega)
    have hi4:i < p.length:=by omega
    have b2:=hp.at hlt
    have b4:=KQ (p:=p.take i) fun n hn=>hp.bd n (List.mem_of_mem_take hn)
    have b5:(p.take i).length=i:=by rw [List.length_take];omega
    rw [b5] at b4
    have e1:=wrap64 (n:=(i:Int)+1) (by omega) (by omega)
    have e3:=wrap64 (n:=(p.take i).sum+p.getD i 0) (by omega) (by omega)
    have e4:=QdJ hi4
    have e5:=Qa2 hi4
    repeat' (first|(apply nx;with_reducible constructor)|refine uq (by decide) ?_|((first|refine vx env fun Q hQ=>?_|refine vz fun Q hQ=>?_);simp only [vkt,seval,wz,Z9,maT,puL,List.length_map,Nat.mul_one,d1,e1,e3,e5,hpl];(try simp only [ite_and]);(repeat' (first|with_reducible assumption|refine And.intro ?_ ?_|intro hp));all_goals (first|(refine hQ _ ?_;clear hQ Q)|(refine hQ _ (fun h=>?_) (fun h=>?_) <;> clear hQ Q <;> (try simp only [vki,reduceCtorEq] at h))|omega|assumption|with_reducible rfl|(refine vq ?_;kernel_rfl)|skip)))
    refine ⟨⟨i+1,hlt⟩,by show 4 - (i+1) < 4 - i;omega, ?_⟩
    (refine Le.ok some [] ?_;constructor;all_goals (try simp only [vle,vkt,seval,wz,Z9,maT,puL,List.length_map,Nat.mul_one]))
    all_goals first|rfl|(rw [e4];rfl)|exact ⟨by rw [e4],rfl⟩
  · have d1:decide ((i:Int) < 4)=false:=decide_eq_false (by omega)
    have e6:p.take i=p:=List.take_of_length_le (by omega)
    repeat' (first|(apply nx;with_reducible constructor)|refine uq (by decide) ?_|((first|refine vx env fun Q hQ=>?_|refine vz fun Q hQ=>?_);simp only [vkt,seval,wz,Z9,maT,puL,List.length_map,Nat.mul_one,d1,e6];(try simp only [ite_and]);(repeat' (first|with_reducible assumption|refine And.intro ?_ ?_|intro hp));all_goals (first|(refine hQ _ ?_;clear hQ Q)|(refine hQ _ (fun h=>?_) (fun h=>?_) <;> clear hQ Q <;> (try simp only [vki,reduceCtorEq] at h))|omega|assumption|with_reducible rfl|(refine vq ?_;kernel_rfl)|skip)))
    (simp only [vrt,Tryz.results44,vkt,seval,wz,Z9,maT,puL,List.length_map,Nat.mul_one];refine Fin.val rfl ?_;(try simp only [AV.le,AV.leL]))
    all_goals first|rfl
def Xb:List AV→Prop × AV
  |[.agg cs]=>(cs=(cs.map aD).map aI∧PuOk (cs.map aD),aI (cs.map aD).sum)
  |_=>(False,.junk)
theorem d129 {A:Frm→Prop}:qh A Tryz.prog 44 (qo true Xb):=qL fun vs hv h=>by
  clear hv
  unfold Xb at h ⊢
  split at h
  · refine ⟨by simp [AV.plain,aI],fun _=>by simp [AV.flat,aI], ?_⟩
    have:=QdQ _ h.2
    simp only [aPu,← h.1] at this
    exact this
  · exact h.elim
def btr {α:Type} (f:α→Int) (a b:α):α:=if f b < f a then b else a
def wX:=vj @ty3 (vj @V7 (vj @ti3.eq_1 @JE.eq_1))
def YN:=vj @aI.eq_1 (vj @aB.eq_1 (@aPu.eq_1))
theorem Qb1 (a b:List Int) (ha:PuOk a) (hb:PuOk b):FnV Tryz.prog 69 [aPu a,aPu b,.clo 44 []] (aPu (btr List.sum a b)):=by
  have env:Env (fun _=>True) Tryz.prog tyB (tab [(44,qo true Xb)]):=qY ⟨d129,trivial⟩
  refine Fn.of (A:=fun _=>True) (n0:=0) (D:=noD) (Fn0 Tryz.func69 rfl (fun vs w=>by kernel_rfl) (by kernel_rfl)) (by simp) (by simp [AV.ids,AV.idsL,aPu,jl]) (fun i o h=>by cases h) (fun _ _ _ _=>trivial) qA ?_
  have hal:=ha.len
  have hbl:=hb.len
  have ta:(a.map aI).take 4=a.map aI:=List.take_of_length_le (by simp [hal])
  have tb:(b.map aI).take 4=b.map aI:=List.take_of_length_le (by simp [hbl])
  by_cases hlt:b.sum < a.sum
  · have d1:decide (b.sum < a.sum)=true:=decide_eq_true hlt
    rw [show btr List.sum a b=b from if_pos hlt]
    repeat' (first|(apply nx;with_reducible constructor)|refine uq (by decide) ?_|((first|refine vx env fun Q hQ=>?_|refine vz fun Q hQ=>?_);simp only [vkt,seval,wX,YN,puL,Xb,mAD,List.length_map,hal,hbl,ta,tb,d1,ha,hb];(try simp only [ite_and]);(repeat' (first|with_reducible assumption|refine And.intro ?_ ?_|intro hp));all_goals (first|(refine hQ _ ?_;clear hQ Q)|(refine hQ _ (fun h=>?_) (fun h=>?_) <;> clear hQ Q <;> (try simp only [vki,reduceCtorEq] at h))|omega|assumption|with_reducible rfl|(refine vq ?_;kernel_rfl)|skip)))
    (simp only [vrt,Tryz.results69,hal,hbl,ta,tb,vkt,seval,wX,YN,puL,Xb,mAD,List.length_map];refine Fin.val rfl ?_;(try simp only [AV.le,AV.leL]))
    all_goals first|rfl|exact kY _ _ _
  · have d1:decide (b.sum < a.sum)=false:=decide_eq_false hlt
    rw [show btr List.sum a b=a from if_neg hlt]
    repeat' (first|(apply nx;with_reducible constructor)|refine uq (by decide) ?_|((first|refine vx env fun Q hQ=>?_|refine vz fun Q hQ=>?_);simp only [vkt,seval,wX,YN,puL,Xb,mAD,List.length_map,hal,hbl,ta,tb,d1,ha,hb];(try simp only [ite_and]);(repeat' (first|with_reducible assumption|refine And.intro ?_ ?_|intro hp));all_goals (first|(refine hQ _ ?_;clear hQ Q)|(refine hQ _ (fun h=>?_) (fun h=>?_) <;> clear hQ Q <;> (try simp only [vki,reduceCtorEq] at h))|omega|assumption|with_reducible rfl|(refine vq ?_;kernel_rfl)|skip)))
    (simp only [vrt,Tryz.results69,hal,hbl,ta,tb,vkt,seval,wX,YN,puL,Xb,mAD,List.length_map];refine Fin.val rfl ?_;(try simp only [AV.le,AV.leL]))
    all_goals first|rfl|exact kY _ _ _
def JV:List AV→Prop × AV
  |[.agg cs,.agg ds,.clo 44 []]=>(cs=(cs.map aD).map aI∧ds=(ds.map aD).map aI∧PuOk (cs.map aD)∧PuOk (ds.map aD),aPu (btr List.sum (cs.map aD) (ds.map aD)))
  |_=>(False,.junk)
theorem d144 {A:Frm→Prop}:qh A Tryz.prog 69 (qo true JV):=qL fun vs hv h=>by
  clear hv
  unfold JV at h ⊢
  split at h
  · refine ⟨by simp [aPu,AV.plain,ZM],fun _=>by simp [aPu,AV.flat,JB], ?_⟩
    have:=Qb1 _ _ h.2.2.1 h.2.2.2
    simp only [aPu,← h.1,← h.2.1] at this ⊢
    exact this
  · exact h.elim
def pad (l:List Int):List Int:=l++List.replicate (4 - l.length) 0
theorem QbE {l:List Int} (h:l.length≤4):(pad l).length=4:=by simp [pad];omega
theorem Lr {l:List Int} (h:l.length≤4) (hb:∀ n ∈ l,0≤n∧n≤4):PuOk (pad l) :=
  ⟨QbE h,fun n hn=>by
    rcases List.mem_append.1 hn with hn|hn
    · exact hb n hn
    · rw [(List.mem_replicate.1 hn).2];omega⟩
theorem Xp:∀ l:List Int,((l.map qp).flatten).map DV.av=l.map aI
  |[]=>rfl
  |n :: l=>by simp only [List.map_cons,List.flatten_cons,List.map_append,Xp l];rfl
theorem QaW {n:Nat} (h:n≤4):[aI 0,aI 0,aI 0,aI 0].drop n=(List.replicate (4 - n) (0:Int)).map aI:=by
  match n,h with
  |0,_=>rfl
  |1,_=>rfl
  |2,_=>rfl
  |3,_=>rfl
  |4,_=>rfl
theorem JH (l:List Int):zX 1 (l.map qp)=True:=vk (f:=qp) (fun _=>rfl) l
def kH:=vj @ty3 (vj @jL (vj @V7 (vj @ti3.eq_1 (vj @jG.eq_1 @JE.eq_1))))
def Qbm:=vj @aI.eq_1 (vj @aB.eq_1 (@ql.eq_1))
theorem Qdy (l:List Int) (h0:0 < l.length) (h4:l.length≤4):FnV Tryz.prog 40 [ql l] (aPu (pad l)):=by
  have env:Env (fun _=>True) Tryz.prog tyB (tab []):=qY trivial
  refine Fn.of (A:=fun _=>True) (n0:=0) (D:=noD) (Fn0 Tryz.func40 rfl (fun vs w=>by kernel_rfl) (by kernel_rfl)) (by simp) (by simp [AV.ids,ql]) (fun i o h=>by cases h) (fun _ _ _ _=>trivial) qA ?_
  have hm:min l.length 4=l.length:=Nat.min_eq_left h4
  have tk:(l.map qp).take l.length=l.map qp:=List.take_of_length_le (by simp)
  have hz:=QaW h4
  simp only [aI] at hz
  have hc:l.map aI++(List.replicate (4 - l.length) (0:Int)).map aI=(pad l).map aI:=by simp [pad]
  have hpl:=QbE h4
  have tp:((pad l).map aI).take 4=(pad l).map aI:=List.take_of_length_le (by simp [hpl])
  have hf:=Xp l
  have hml:4≤maxLen:=by decide
  repeat' (first|(apply nx;with_reducible constructor)|refine uq (by decide) ?_|((first|refine vx env fun Q hQ=>?_|refine vz fun Q hQ=>?_);simp only [vkt,seval,kH,Qbm,puL,JH,List.length_map,Nat.mul_one,h0,hm,tk,hz,hf,hc,hpl,tp,hml];(try simp only [ite_and]);(repeat' (first|with_reducible assumption|refine And.intro ?_ ?_|intro hp));all_goals (first|(refine hQ _ ?_;clear hQ Q)|(refine hQ _ (fun h=>?_) (fun h=>?_) <;> clear hQ Q <;> (try simp only [vki,reduceCtorEq] at h))|omega|assumption|with_reducible rfl|(refine vq ?_;kernel_rfl)|skip)))
  (simp only [vrt,Tryz.results40,hpl,tp,vkt,seval,kH,Qbm,puL,JH,List.length_map,Nat.mul_one];refine Fin.val rfl ?_;(try simp only [AV.le,AV.leL]))
  all_goals first|rfl|exact kY _ _ _
def xY:List AV→Prop × AV
  |[.sl xs]=>(xs=(xs.map qJ).map qp∧0 < (xs.map qJ).length∧(xs.map qJ).length≤4,aPu (pad (xs.map qJ)))
  |_=>(False,.junk)
theorem d125 {A:Frm→Prop}:qh A Tryz.prog 40 (qo true xY):=qL fun vs hv h=>by
  clear hv
  unfold xY at h ⊢
  split at h
  · refine ⟨by simp [aPu,AV.plain,ZM],fun _=>by simp [aPu,AV.flat,JB], ?_⟩
    have:=Qdy _ h.2.1 h.2.2
    simp only [ql,← h.1] at this
    exact this
  · exact h.elim
def aDe (q:List Int × List Int):AV:=.agg ((q.1++q.2).map aI)
def Jp (q:List Int × List Int):Int:=q.1.sum+q.2.sum
theorem de_1 {a b:List Int} (ha:a.length=4):((a++b).map aI).take 4=a.map aI:=by
  rw [List.map_append,List.take_left' (by simp [ha])]
theorem de_2 {a b:List Int} (ha:a.length=4) (hb:b.length=4):(((a++b).map aI).drop 4).take 4=b.map aI:=by
  rw [List.map_append,List.drop_left' (by simp [ha])];exact List.take_of_length_le (by simp [hb])
def QD:=vj @ty3 (vj @V7 (vj @ty92 (vj @ti3.eq_1 (vj @JE.eq_1 @Qcd.eq_1))))
def QbN:=vj @aI.eq_1 (vj @aB.eq_1 (@aPu.eq_1))
theorem QhH (q:List Int × List Int) (ha:PuOk q.1) (hb:PuOk q.2):FnV Tryz.prog 43 [aDe q] (aI (Jp q)):=by
  have env:Env (fun _=>True) Tryz.prog tyB (tab [(44,qo true Xb)]):=qY ⟨d129,trivial⟩
  refine Fn.of (A:=fun _=>True) (n0:=0) (D:=noD) (Fn0 Tryz.func43 rfl (fun vs w=>by kernel_rfl) (by kernel_rfl)) (by simp) (by simp [AV.ids,aDe,jl,-List.map_append]) (fun i o h=>by cases h) (fun _ _ _ _=>trivial) qA ?_
  have hal:=ha.len
  have hbl:=hb.len
  have t1:=de_1 (b:=q.2) hal
  have t2:=de_2 hal hbl
  have s1:=KQ ha.bd
  have s2:=KQ hb.bd
  have e1:=wrap64 (n:=q.1.sum+q.2.sum) (by omega) (by omega)
  repeat' (first|(apply nx;with_reducible constructor)|refine uq (by decide) ?_|((first|refine vx env fun Q hQ=>?_|refine vz fun Q hQ=>?_);simp only [vkt,seval,QD,QbN,aDe,puL,Xb,mAD,List.length_map,List.length_append,hal,hbl,t1,t2,ha,hb,e1];(try simp only [ite_and]);(repeat' (first|with_reducible assumption|refine And.intro ?_ ?_|intro hp));all_goals (first|(refine hQ _ ?_;clear hQ Q)|(refine hQ _ (fun h=>?_) (fun h=>?_) <;> clear hQ Q <;> (try simp only [vki,reduceCtorEq] at h))|omega|assumption|with_reducible rfl|(refine vq ?_;kernel_rfl)|skip)))
  (simp only [vrt,Tryz.results43,vkt,seval,QD,QbN,aDe,puL,Xb,mAD,List.length_map,List.length_append];refine Fin.val rfl ?_;(try simp only [AV.le,AV.leL]))
  all_goals first|rfl
def dDe (cs:List AV):List Int × List Int:=((cs.take 4).map aD,(cs.drop 4).map aD)
theorem Qbr {a b:List Int} (ha:a.length=4):dDe ((a++b).map aI)=(a,b):=by
  rw [List.map_append,dDe,List.take_left' (by simp [ha]),List.drop_left' (by simp [ha]),mAD,mAD]
def Qa5:List AV→Prop × AV
  |[.agg cs]=>(cs=((dDe cs).1++(dDe cs).2).map aI∧PuOk (dDe cs).1∧PuOk (dDe cs).2,aI (Jp (dDe cs)))
  |_=>(False,.junk)
theorem d128 {A:Frm→Prop}:qh A Tryz.prog 43 (qo true Qa5):=qL fun vs hv h=>by
  clear hv
  unfold Qa5 at h ⊢
  split at h
  · refine ⟨by simp [AV.plain,aI],fun _=>by simp [AV.flat,aI], ?_⟩
    have:=QhH _ h.2.1 h.2.2
    simp only [aDe,← h.1] at this
    exact this
  · exact h.elim
def jh:=vj @ty3 (vj @ty92 (vj @ti3.eq_1 @Qcd.eq_1))
def YI:=vj @aI.eq_1 (vj @aB.eq_1 (@aPu.eq_1))
theorem Qap (a b:List Int × List Int) (ha:PuOk a.1∧PuOk a.2) (hb:PuOk b.1∧PuOk b.2):FnV Tryz.prog 47 [aDe a,aDe b,.clo 43 []] (aDe (btr Jp a b)):=by
  have env:Env (fun _=>True) Tryz.prog tyB (tab [(43,qo true Qa5)]):=qY ⟨d128,trivial⟩
  refine Fn.of (A:=fun _=>True) (n0:=0) (D:=noD) (Fn0 Tryz.func47 rfl (fun vs w=>by kernel_rfl) (by kernel_rfl)) (by simp) (by simp [AV.ids,AV.idsL,aDe,jl,-List.map_append]) (fun i o h=>by cases h) (fun _ _ _ _=>trivial) qA ?_
  have hal:(a.1++a.2).length=8:=by simp [ha.1.len,ha.2.len]
  have hbl:(b.1++b.2).length=8:=by simp [hb.1.len,hb.2.len]
  have ta:((a.1++a.2).map aI).take 8=(a.1++a.2).map aI:=List.take_of_length_le (by simp only [List.length_map,hal];omega)
  have tb:((b.1++b.2).map aI).take 8=(b.1++b.2).map aI:=List.take_of_length_le (by simp only [List.length_map,hbl];omega)
  have da:dDe ((a.1++a.2).map aI)=a:=Qbr ha.1.len
  have db:dDe ((b.1++b.2).map aI)=b:=Qbr hb.1.len
  have ha1:=ha.1
  have ha2:=ha.2
  have hb1:=hb.1
  have hb2:=hb.2
  by_cases hlt:Jp b < Jp a
  · have d1:decide (Jp b < Jp a)=true:=decide_eq_true hlt
    rw [show btr Jp a b=b from if_pos hlt]
    repeat' (first|(apply nx;with_reducible constructor)|refine uq (by decide) ?_|((first|refine vx env fun Q hQ=>?_|refine vz fun Q hQ=>?_);simp only [vkt,seval,jh,YI,aDe,puL,Qa5,List.length_map,hal,hbl,ta,tb,d1,da,db,ha1,ha2,hb1,hb2];(try simp only [ite_and]);(repeat' (first|with_reducible assumption|refine And.intro ?_ ?_|intro hp));all_goals (first|(refine hQ _ ?_;clear hQ Q)|(refine hQ _ (fun h=>?_) (fun h=>?_) <;> clear hQ Q <;> (try simp only [vki,reduceCtorEq] at h))|omega|assumption|with_reducible rfl|(refine vq ?_;kernel_rfl)|skip)))
    (simp only [vrt,Tryz.results47,hal,hbl,ta,tb,vkt,seval,jh,YI,aDe,puL,Qa5,List.length_map];refine Fin.val rfl ?_;(try simp only [AV.le,AV.leL]))
    all_goals first|rfl|exact kY _ _ _
  · have d1:decide (Jp b < Jp a)=false:=decide_eq_false hlt
    rw [show btr Jp a b=a from if_neg hlt]
    repeat' (first|(apply nx;with_reducible constructor)|refine uq (by decide) ?_|((first|refine vx env fun Q hQ=>?_|refine vz fun Q hQ=>?_);simp only [vkt,seval,jh,YI,aDe,puL,Qa5,List.length_map,hal,hbl,ta,tb,d1,da,db,ha1,ha2,hb1,hb2];(try simp only [ite_and]);(repeat' (first|with_reducible assumption|refine And.intro ?_ ?_|intro hp));all_goals (first|(refine hQ _ ?_;clear hQ Q)|(refine hQ _ (fun h=>?_) (fun h=>?_) <;> clear hQ Q <;> (try simp only [vki,reduceCtorEq] at h))|omega|assumption|with_reducible rfl|(refine vq ?_;kernel_rfl)|skip)))
    (simp only [vrt,Tryz.results47,hal,hbl,ta,tb,vkt,seval,jh,YI,aDe,puL,Qa5,List.length_map];refine Fin.val rfl ?_;(try simp only [AV.le,AV.leL]))
    all_goals first|rfl|exact kY _ _ _
def Zp:List AV→Prop × AV
  |[.agg cs,.agg ds,.clo 43 []]=>(cs=((dDe cs).1++(dDe cs).2).map aI∧ds=((dDe ds).1++(dDe ds).2).map aI∧(PuOk (dDe cs).1∧PuOk (dDe cs).2)∧(PuOk (dDe ds).1∧PuOk (dDe ds).2),aDe (btr Jp (dDe cs) (dDe ds)))
  |_=>(False,.junk)
theorem d132 {A:Frm→Prop}:qh A Tryz.prog 47 (qo true Zp):=qL fun vs hv h=>by
  clear hv
  unfold Zp at h ⊢
  split at h
  · refine ⟨by simp only [aDe,AV.plain,ZM],fun _=>by simp only [aDe,AV.flat,JB], ?_⟩
    have:=Qap _ _ h.2.2.1 h.2.2.2
    simp only [aDe,← h.1,← h.2.1] at this ⊢
    exact this
  · exact h.elim
end Go.Sym.B
namespace Go.Sym.B
open Go Go.Sym Go.Proofs Go.Sym.C
def qO:List Int→List (List Int)
  |[]=>[[]]
  |p :: ps=>(List.range (p.toNat+1)).flatMap fun (n:Nat)=>(qO ps).map ((n:Int) :: ·)
theorem Yo {α β:Type} {f:α→List β} {m:Nat}:∀ {l:List α},(∀ a ∈ l,(f a).length=m)→(l.flatMap f).length=l.length * m
  |[],_=>by simp
  |a :: l,h=>by
    rw [List.flatMap_cons,List.length_append,Yo fun b hb=>h b (List.mem_cons_of_mem _ hb),h a List.mem_cons_self,List.length_cons,Nat.succ_mul];omega
theorem Yp {α β:Type} {f:α→List β} {m:Nat} {d:β} {da:α}:∀ {l:List α},(∀ a ∈ l,(f a).length=m)→∀ n j,n < l.length→j < m→(l.flatMap f).getD (n * m+j) d=(f (l.getD n da)).getD j d
  |[],_,n,j,hn,_=>by simp at hn
  |a :: l,h,n,j,hn,hj=>by
    have h0:=h a List.mem_cons_self
    rw [List.flatMap_cons]
    cases n with
    |zero=>rw [Nat.zero_mul,Nat.zero_add,List.getD_eq_getElem?_getD,List.getElem?_append_left (by omega),← List.getD_eq_getElem?_getD];rfl
    |succ n =>
      rw [List.getD_eq_getElem?_getD,List.getElem?_append_right (by rw [h0,Nat.succ_mul];omega),← List.getD_eq_getElem?_getD,h0,show (n+1) * m+j - m=n * m+j by rw [Nat.succ_mul];omega,Yp (da:=da) (fun b hb=>h b (List.mem_cons_of_mem _ hb)) n j (by simpa using hn) hj]
      rfl
theorem ZZ (p:Int) (ps:List Int):(qO (p :: ps)).length=(p.toNat+1) * (qO ps).length:=by
  simp only [qO]
  rw [Yo (m:=(qO ps).length) (fun a _=>by simp),List.length_range]
theorem Xj:∀ q:List Int,0 < (qO q).length
  |[]=>by simp [qO]
  |p :: ps=>by rw [ZZ];exact Nat.mul_pos (by omega) (Xj ps)
theorem QcG {p:Int} {ps:List Int} {n j:Nat} (hn:n≤p.toNat) (hj:j < (qO ps).length):(qO (p :: ps)).getD (n * (qO ps).length+j) []=(n:Int) :: (qO ps).getD j []:=by
  simp only [qO]
  rw [Yp (da:=0) (m:=(qO ps).length) (fun a _=>by simp) n j (by simp;omega) hj]
  have:(List.range (p.toNat+1)).getD n 0=n:=by simp [List.getD_eq_getElem?_getD,List.getElem?_range (show n < p.toNat+1 by omega)]
  rw [this]
  simp [List.getD_eq_getElem?_getD,hj]
theorem Qc9 {q x:List Int} (h:∀ n ∈ q,0≤n) (hx:x ∈ qO q):x.length=q.length∧∀ i,i < q.length→0≤x.getD i 0∧x.getD i 0≤q.getD i 0:=by
  induction q generalizing x with
  |nil=>simp [qO] at hx;subst hx;simp
  |cons p ps ih =>
    simp only [qO,List.mem_flatMap,List.mem_range,List.mem_map] at hx
    obtain ⟨n,hn,y,hy,rfl⟩:=hx
    obtain ⟨i1,i2⟩:=ih (fun m hm=>h m (List.mem_cons_of_mem _ hm)) hy
    have hp:=h p List.mem_cons_self
    refine ⟨by simp [i1],fun i hi=>?_⟩
    cases i with
    |zero=>simp only [List.getD_cons_zero];omega
    |succ i=>simp only [List.getD_cons_succ];exact i2 i (by simpa using hi)
theorem ZE {P x:List Int} (h:PuOk P) (hx:x ∈ qO P):PuOk x:=by
  obtain ⟨h1,h2⟩:=Qc9 (fun n hn=>(h.bd n hn).1) hx
  refine ⟨h1.trans h.len,fun n hn=>?_⟩
  obtain ⟨i,hi,rfl⟩:=List.mem_iff_getElem.1 hn
  have:=h2 i (by omega)
  have hb:=h.at (show i < 4 by have:=h.len;omega)
  rw [show x.getD i 0=x[i] by simp [List.getD_eq_getElem?_getD,hi]] at this
  omega
def gpH (P:List Int):List (Nat × AObj):=[(0,.cells (P.map aI)),(1,.cells [.cb]),(2,.cells [.clo 71 [.ptr 1 0,.ptr 0 0,.ptr 2 0]])]
def gpL (P:List Int):List AObj:=[.cells (P.map aI),.cells [.cb],.cells [.clo 71 [.ptr 1 0,.ptr 0 0,.ptr 2 0]]]
structure GpOk (P B:List Int) (k:Nat) (ys:Nat→List AV) (ans:Nat→Bool) (R:Nat):Prop where
  len:B.length=4
  rounds:Rounds ans R (qO (P.drop k)).length
  ys:∀ j,j < (qO (P.drop k)).length→ys j=[aPu (B.take k++(qO (P.drop k)).getD j [])]
def GpFn (P:List Int) (k:Nat):Prop:=∀ (B:List Int) (ys:Nat→List AV) (ans:Nat→Bool) (R:Nat),GpOk P B k ys ans R →
  Fn (Bcc Tryz.prog (qc (wM 0 [.cells (P.map aI)])) (qc (wM 0 (gpL P))) ys (fun _=>nth [.cells (P.map aI)]) ans R) Tryz.prog 71 [aPu B,aI k,.ptr 1 0,.ptr 0 0,.ptr 2 0] (qc (wM 0 (gpL P))) (aB (ans (R - 1))) (qc (yX 0 ((gpL P).map some))) R
def QX (P:List Int) (k:Nat) (ka:Int) (ys:Nat→List AV) (ans:Nat→Bool) (R:Nat) (S:St):List AV→Option PkI
  |[.agg cs,.v (.int .i64 a),.ptr y 0,.ptr p 0,.ptr g 0]=>match S.h p,S.h y,S.h g with
    |some (.cells pp),some (.cells [.cb]),some (.cells [.clo 71 [.ptr y' 0,.ptr p' 0,.ptr g' 0]]) =>
      some { q:={ pre:=y'=y∧p'=p∧g'=g∧pp=P.map aI∧cs=(cs.map aD).map aI∧a=ka∧GpOk P (cs.map aD) k (fun j=>ys (S.j+j)) (fun j=>ans (S.j+j)) (min (qO (P.drop k)).length (R - S.j)),hs:=[p,y,g],ar:=[.agg cs,.v (.int .i64 a),.ptr 1 0,.ptr 0 0,.ptr 2 0],L0:=gpL P,v:=.v (.bool (ans (S.j+(min (qO (P.drop k)).length (R - S.j) - 1)))),L1:=(gpL P).map some },dj:=min (qO (P.drop k)).length (R - S.j) }
    |_,_,_=>none
  |_=>none
theorem e146 {A:Frm→Prop} {P:List Int} {k:Nat} {ka:Int} {ys:Nat→List AV} {ans:Nat→Bool} {R:Nat} {h0:Nat→Option AObj} (hk:ka=(k:Int)) (ih:GpFn P k) (hA:∀ F,A F→Acb Tryz.prog (qc (wM 0 [.cells (P.map aI)])) h0 ys (fun _=>nth [.cells (P.map aI)]) ans R F) :
    qh A Tryz.prog 71 (fnI [.cells (P.map aI)] R (QX P k ka ys ans R)):=QhU hA fun S bs q h hp=>by
  unfold QX at h
  split at h
  · split at h
    · cases h
      obtain ⟨_,_,_,_,h1,rfl,h2⟩:=hp
      have:=ih _ _ _ _ h2
      simp only [aPu,aI,aB,← h1,← hk] at this
      exact this
    · cases h
  · cases h
theorem Qg8 {A:Frm→Prop} {P:List Int} {ys:Nat→List AV} {ans:Nat→Bool} {R:Nat} {h0:Nat→Option AObj} (hA:∀ F,A F→Acb Tryz.prog (qc (wM 0 [.cells (P.map aI)])) h0 ys (fun _=>nth [.cells (P.map aI)]) ans R F) :
    ∀ S bs,(cbX [0] ys (fun _=>[.cells (P.map aI)]) ans R S bs).1→Wf S→∀ ops o g args tys caps,Want ops o S→o.op=.call { callee:=.value g,args:=args,argTypes:=tys }→wO (ev S g)=some (none,caps)→args.toList.map (ev S)++caps=bs→VE A Tryz.prog ops o (cbX [0] ys (fun _=>[.cells (P.map aI)]) ans R S bs).2 S :=
  fun S bs h hS ops o g args tys caps hw ho hg hb=>QcS hA (fun i o hi=>by
    rw [yF] at hi
    cases i with
    |zero=>rfl
    |succ i=>simp at hi) (by simp) h hS hw ho hg hb
theorem Qfi {A:Frm→Prop} {P:List Int} {k:Nat} {ka:Int} {ys:Nat→List AV} {ans:Nat→Bool} {R:Nat} {h0:Nat→Option AObj} (hk:ka=(k:Int)) (ih:GpFn P k) (hA:∀ F,A F→Acb Tryz.prog (qc (wM 0 [.cells (P.map aI)])) h0 ys (fun _=>nth [.cells (P.map aI)]) ans R F) :
    Env A Tryz.prog tyB (Go.Sym.tabC (cbX [0] ys (fun _=>[.cells (P.map aI)]) ans R) [(71,fnI [.cells (P.map aI)] R (QX P k ka ys ans R))]):=⟨WS,QbF (Qg8 hA) ⟨e146 hk ih hA,trivial⟩,by kernel_rfl⟩
theorem QgG {A:Frm→Prop} {P:List Int} {ys:Nat→List AV} {ans:Nat→Bool} {R:Nat} {h0:Nat→Option AObj} (hA:∀ F,A F→Acb Tryz.prog (qc (wM 0 [.cells (P.map aI)])) h0 ys (fun _=>nth [.cells (P.map aI)]) ans R F) :
    Env A Tryz.prog tyB (Go.Sym.tabC (cbX [0] ys (fun _=>[.cells (P.map aI)]) ans R) []):=⟨WS,QbF (Qg8 hA) trivial,by kernel_rfl⟩
def gpT (P B:List Int) (k n j:Nat):St:={ t:=asg [(1,aI k),(2,.ptr 1 0),(3,.ptr 0 0),(4,.ptr 2 0),(5,.ptr 3 0),(7,aB false),(8,aI n)],h:=qc [(0,.cells (P.map aI)),(1,.cells [.cb]),(2,.cells [.clo 71 [.ptr 1 0,.ptr 0 0,.ptr 2 0]]),(3,.cells (B.map aI))],n:=4,j:=j,m:=3 }
theorem gp_h (P:List Int):qc (wM 0 (gpL P))=qc (gpH P):=rfl
theorem Qg4 (P:List Int):qc (yX 0 ((gpL P).map some))=qc (gpH P):=rfl
def qw:=vj @ty3 (vj @V7 (vj @ty121 (vj @Qg9 (vj @ti3.eq_1 (vj @JE.eq_1 (vj @Qbx.eq_1 @Rf.eq_1))))))
def yA:=vj @aI.eq_1 (vj @aB.eq_1 (@aPu.eq_1))
theorem QhD (P:List Int) (hP:PuOk P):∀ m k,k+m=4→GpFn P k:=by
  intro m
  induction m with
  |zero =>
    intro k hk B ys ans R hG
    obtain rfl:k=4:=by omega
    have hA:∀ F,Acb Tryz.prog (qc (wM 0 [.cells (P.map aI)])) (qc (gpH P)) ys (fun _=>nth [.cells (P.map aI)]) ans R F→Acb Tryz.prog (qc (wM 0 [.cells (P.map aI)])) (qc (gpH P)) ys (fun _=>nth [.cells (P.map aI)]) ans R F:=fun _ h=>h
    have env:=QgG hA
    have hd:P.drop 4=[]:=List.drop_of_length_le (by rw [hP.len];omega)
    have hN:(qO (P.drop 4)).length=1:=by rw [hd];rfl
    have hr:=hG.rounds
    rw [hN] at hr
    have hR:R=1:=by
      have h1:=hr.le
      have h2:=hr.lt (k:=0) (by omega) (fun j hj=>by omega)
      omega
    subst hR
    have hy:=hG.ys 0 (by rw [hN];omega)
    rw [hd] at hy
    have hy:ys 0=[.agg (B.map aI)]:=by
      rw [hy]
      have:B.take 4=B:=List.take_of_length_le (by rw [hG.len];omega)
      simp [qO,aPu,this]
    have hBl:=hG.len
    have tB:(B.map aI).take 4=B.map aI:=List.take_of_length_le (by simp [hBl])
    rw [gp_h,Qg4]
    refine Fn.of (A:=Acb Tryz.prog (qc (wM 0 [.cells (P.map aI)])) (qc (gpH P)) ys (fun _=>nth [.cells (P.map aI)]) ans 1) (n0:=3) (D:=noD) (Fn0 Tryz.func71 rfl (fun vs w=>by kernel_rfl) (by kernel_rfl)) (by simp) (by simp [AV.ids,aPu,jl,aI]) ?_ (fun F hb h0 _=>⟨h0,fun i o hi=>?_,hb⟩) qA ?_
    · intro i o hi
      have h:=qV hi
      simp [gpH] at h
      rcases h with ⟨rfl,rfl⟩|⟨rfl,rfl⟩|⟨rfl,rfl⟩ <;> simp [AObj.ids,AV.ids,AV.idsL,jl]
    · rw [yF] at hi
      cases i with
      |zero=>exact ⟨_,rfl⟩
      |succ i=>simp at hi
    repeat' (first|(apply nx;with_reducible constructor)|refine uq (by decide) ?_|((first|refine vx env fun Q hQ=>?_|refine vz fun Q hQ=>?_);simp only [vkt,seval,qw,yA,gpT,gpH,gpL,puL,QX,mAD,List.length_map,Nat.mul_one,Go.Sym.tabC,cbX,fnI,Q8,jT,nth,hwL,hBl,tB,hy];(try simp only [ite_and]);(repeat' (first|with_reducible assumption|refine And.intro ?_ ?_|intro hp));all_goals (first|(refine hQ _ ?_;clear hQ Q)|(refine hQ _ (fun h=>?_) (fun h=>?_) <;> clear hQ Q <;> (try simp only [vki,reduceCtorEq] at h))|omega|assumption|with_reducible rfl|(refine vq ?_;kernel_rfl)|skip)))
    (simp only [vrt,Tryz.results71,vkt,seval,qw,yA,gpT,gpH,gpL,puL,QX,mAD,List.length_map,Nat.mul_one,Go.Sym.tabC,cbX,fnI,Q8,jT,nth,hwL];refine Fin.ok some [] ?_ ?_ ?_ ?_ ?_ rfl;all_goals (try simp only [vle,vkt,seval,qw,yA,gpT,gpH,gpL,puL,QX,mAD,List.length_map,Nat.mul_one,Go.Sym.tabC,cbX,fnI,Q8,jT,nth,hwL]))
    all_goals first|rfl|(simp;done)
  |succ m ih =>
    intro k hk B ys ans R hG
    have hk4:k < 4:=by omega
    have hPl:=hP.len
    have hBl:=hG.len
    have hkP:k < P.length:=by omega
    have hkB:k < B.length:=by omega
    obtain ⟨pk,hpk⟩:∃ x,P.getD k 0=x:=⟨_,rfl⟩
    have hpb:=hP.at hk4
    rw [hpk] at hpb
    have hd:P.drop k=pk :: P.drop (k+1):=by
      rw [List.drop_eq_getElem_cons hkP,← hpk];simp [List.getD_eq_getElem?_getD,hkP]
    have hr:=hG.rounds
    have hys:=hG.ys
    rw [hd] at hr hys
    rw [ZZ] at hr
    have hMp:=Xj (P.drop (k+1))
    obtain ⟨M,hM⟩:∃ x,(qO (P.drop (k+1))).length=x:=⟨_,rfl⟩
    rw [hM] at hr hMp
    have hA:∀ F,Acb Tryz.prog (qc (wM 0 [.cells (P.map aI)])) (qc (gpH P)) ys (fun _=>nth [.cells (P.map aI)]) ans R F→Acb Tryz.prog (qc (wM 0 [.cells (P.map aI)])) (qc (gpH P)) ys (fun _=>nth [.cells (P.map aI)]) ans R F:=fun _ h=>h
    have env:=Qfi (ka:=(k:Int)+1) (k:=k+1) rfl (ih (k+1) (by omega)) hA
    rw [gp_h,Qg4]
    refine Fn.of (A:=Acb Tryz.prog (qc (wM 0 [.cells (P.map aI)])) (qc (gpH P)) ys (fun _=>nth [.cells (P.map aI)]) ans R) (n0:=3) (D:=noD) (Fn0 Tryz.func71 rfl (fun vs w=>by kernel_rfl) (by kernel_rfl)) (by simp) (by simp [AV.ids,aPu,jl,aI]) ?_ (fun F hb h0 _=>⟨h0,fun i o hi=>?_,hb⟩) qA ?_
    · intro i o hi
      have h:=qV hi
      simp [gpH] at h
      rcases h with ⟨rfl,rfl⟩|⟨rfl,rfl⟩|⟨rfl,rfl⟩ <;> simp [AObj.ids,AV.ids,AV.idsL,jl]
    · rw [yF] at hi
      cases i with
      |zero=>exact ⟨_,rfl⟩
      |succ i=>simp at hi
    have tB:(B.map aI).take 4=B.map aI:=List.take_of_length_le (by simp [hBl])
    have d4:decide ((k:Int)=4)=false:=decide_eq_false (by omega)
    have e9:=wrap64 (n:=(k:Int)+1) (by omega) (by omega)
    have pg:=Qa2 hkP
    rw [hpk] at pg
    have e0:(0:Int)≤(k:Int):=by omega
    repeat' (first|(apply nx;with_reducible constructor)|refine uq (by decide) ?_|((first|refine vx env fun Q hQ=>?_|refine vz fun Q hQ=>?_);simp only [vkt,seval,qw,yA,gpT,gpH,gpL,puL,QX,mAD,List.length_map,Nat.mul_one,Go.Sym.tabC,cbX,fnI,Q8,jT,nth,hwL,hBl,tB,d4];(try simp only [ite_and]);(repeat' (first|with_reducible assumption|refine And.intro ?_ ?_|intro hp));all_goals (first|(refine hQ _ ?_;clear hQ Q)|(refine hQ _ (fun h=>?_) (fun h=>?_) <;> clear hQ Q <;> (try simp only [vki,reduceCtorEq] at h))|omega|assumption|with_reducible rfl|(refine vq ?_;kernel_rfl)|skip)))
    refine qz (fun x:{ x:Nat × Nat // x.1≤pk.toNat+1∧x.2=x.1 * M∧∀ j,j < x.2→ans j=true }=>gpT P B k x.1.1 x.1.2) (fun x=>pk.toNat+1 - x.1.1) ⟨(0,0),by simp⟩ ?_ fun ⟨(n,j),hn,hj,hy⟩=>?_
    · (refine Le.ok some [] ?_;constructor;all_goals (try simp only [vle,vkt,seval,qw,yA,gpT,gpH,gpL,puL,QX,mAD,List.length_map,Nat.mul_one,Go.Sym.tabC,cbX,fnI,Q8,jT,nth,hwL]))
      all_goals first|rfl|(simp;done)
    simp only at hn hj hy ⊢
    by_cases hlt:n≤pk.toNat
    · have d1:decide ((n:Int)≤pk)=true:=decide_eq_true (by omega)
      have e1:=wrap64 (n:=(n:Int)+1) (by omega) (by omega)
      have hjN:j+M≤(pk.toNat+1) * M:=by rw [hj,← Nat.succ_mul];exact Nat.mul_le_mul_right _ (by omega)
      have hjR:j < R:=hr.lt (by omega) hy
      have hle:=hr.le
      have hsl:(B.set k (n:Int)).length=4:=by simp [hBl]
      have hst:=QhF (n:=(n:Int)) hkB
      simp only [show aI (n:Int)=.v (.int .i64 (n:Int)) from rfl] at hst
      have tS:((B.set k (n:Int)).map aI).take 4=(B.set k (n:Int)).map aI:=List.take_of_length_le (by simp [hBl])
      obtain ⟨D,hD⟩:∃ x,min M (R - j)=x:=⟨_,rfl⟩
      have hD1:D≤M∧D≤R - j∧(D=M∨D=R - j)∧0 < D:=by omega
      have hGG:GpOk P (B.set k (n:Int)) (k+1) (fun i=>ys (j+i)) (fun i=>ans (j+i)) D:=by
        refine ⟨hsl, ?_,fun i hi=>?_⟩
        · rw [hM]
          refine ⟨hD1.1,fun i hi=>hr.yes (j+i) (by omega),fun h=>⟨hD1.2.2.2, ?_⟩⟩
          have h1:=(hr.stop (by omega)).2
          rw [show j+(D - 1)=R - 1 by omega];exact h1
        · rw [hM] at hi
          show ys (j+i)=_
          rw [hys (j+i) (by rw [ZZ,hM];omega),hj,← hM,QcG hlt (by rw [hM];exact hi)]
          have:(B.set k (n:Int)).take (k+1)=B.take k++[(n:Int)]:=by
            rw [List.take_succ_eq_append_getElem (by simp;omega)];simp [List.take_set_of_le]
          rw [this,List.append_assoc,List.singleton_append]
      cases hb:ans (j+(D - 1)) with
      |false =>
        have eqR:R=j+D:=by have:=hr.last (k:=j+(D - 1)) (by omega) hb;omega
        subst eqR
        have hres:ans (j+D - 1)=false:=by rw [show j+D - 1=j+(D - 1) by omega];exact hb
        rw [hres]
        repeat' (first|(apply nx;with_reducible constructor)|refine uq (by decide) ?_|((first|refine vx env fun Q hQ=>?_|refine vz fun Q hQ=>?_);simp only [vkt,seval,qw,yA,gpT,gpH,gpL,puL,QX,mAD,List.length_map,Nat.mul_one,Go.Sym.tabC,cbX,fnI,Q8,jT,nth,hwL,hBl,hPl,tB,pg,d1,e9,e1,hst,hsl,tS,hM,hD,hGG,hb,hkP];(try simp only [ite_and]);(repeat' (first|with_reducible assumption|refine And.intro ?_ ?_|intro hp));all_goals (first|(refine hQ _ ?_;clear hQ Q)|(refine hQ _ (fun h=>?_) (fun h=>?_) <;> clear hQ Q <;> (try simp only [vki,reduceCtorEq] at h))|omega|assumption|with_reducible rfl|(refine vq ?_;kernel_rfl)|skip)))
        (simp only [vrt,Tryz.results71,vkt,seval,qw,yA,gpT,gpH,gpL,puL,QX,mAD,List.length_map,Nat.mul_one,Go.Sym.tabC,cbX,fnI,Q8,jT,nth,hwL];refine Fin.ok some [] ?_ ?_ ?_ ?_ ?_ rfl;all_goals (try simp only [vle,vkt,seval,qw,yA,gpT,gpH,gpL,puL,QX,mAD,List.length_map,Nat.mul_one,Go.Sym.tabC,cbX,fnI,Q8,jT,nth,hwL]))
        all_goals first|rfl|(simp;done)
      |true =>
        have hDM:D=M:=by
          refine Classical.byContradiction fun hne=>?_
          have h1:=(hr.stop (by omega)).2
          rw [show R - 1=j+(D - 1) by omega,hb] at h1
          cases h1
        have hnx:n+1≤pk.toNat+1∧j+D=(n+1) * M∧∀ i,i < j+D→ans i=true:=by
          refine ⟨by omega,by rw [hj,hDM,Nat.succ_mul],fun i hi=>?_⟩
          by_cases h1:i < j
          · exact hy i h1
          · by_cases h2:i+1 < R
            · exact hr.yes i h2
            · rw [show i=j+(D - 1) by omega];exact hb
        repeat' (first|(apply nx;with_reducible constructor)|refine uq (by decide) ?_|((first|refine vx env fun Q hQ=>?_|refine vz fun Q hQ=>?_);simp only [vkt,seval,qw,yA,gpT,gpH,gpL,puL,QX,mAD,List.length_map,Nat.mul_one,Go.Sym.tabC,cbX,fnI,Q8,jT,nth,hwL,hBl,hPl,tB,pg,d1,e9,e1,hst,hsl,tS,hM,hD,hGG,hb,hkP];(try simp only [ite_and]);(repeat' (first|with_reducible assumption|refine And.intro ?_ ?_|intro hp));all_goals (first|(refine hQ _ ?_;clear hQ Q)|(refine hQ _ (fun h=>?_) (fun h=>?_) <;> clear hQ Q <;> (try simp only [vki,reduceCtorEq] at h))|omega|assumption|with_reducible rfl|(refine vq ?_;kernel_rfl)|skip)))
        refine ⟨⟨(n+1,j+D),hnx⟩,by show pk.toNat+1 - (n+1) < pk.toNat+1 - n;omega, ?_⟩
        (refine Le.ok some [] ?_;constructor;all_goals (try simp only [vle,vkt,seval,qw,yA,gpT,gpH,gpL,puL,QX,mAD,List.length_map,Nat.mul_one,Go.Sym.tabC,cbX,fnI,Q8,jT,nth,hwL]))
        all_goals first|rfl|(simp;done)
    · have d1:decide ((n:Int)≤pk)=false:=decide_eq_false (by omega)
      have hn1:n=pk.toNat+1:=by omega
      have eqR:R=j:=by
        have h1:=hr.all (k:=j) (by rw [hj,hn1];exact Nat.le_refl _) hy
        rw [h1,hj,hn1]
      subst eqR
      have hjp:0 < R:=by rw [hj,hn1];exact Nat.mul_pos (by omega) hMp
      have hres:ans (R - 1)=true:=hy _ (by omega)
      rw [hres]
      repeat' (first|(apply nx;with_reducible constructor)|refine uq (by decide) ?_|((first|refine vx env fun Q hQ=>?_|refine vz fun Q hQ=>?_);simp only [vkt,seval,qw,yA,gpT,gpH,gpL,puL,QX,mAD,List.length_map,Nat.mul_one,Go.Sym.tabC,cbX,fnI,Q8,jT,nth,hwL,hBl,hPl,tB,pg,d1,e9];(try simp only [ite_and]);(repeat' (first|with_reducible assumption|refine And.intro ?_ ?_|intro hp));all_goals (first|(refine hQ _ ?_;clear hQ Q)|(refine hQ _ (fun h=>?_) (fun h=>?_) <;> clear hQ Q <;> (try simp only [vki,reduceCtorEq] at h))|omega|assumption|with_reducible rfl|(refine vq ?_;kernel_rfl)|skip)))
      (simp only [vrt,Tryz.results71,vkt,seval,qw,yA,gpT,gpH,gpL,puL,QX,mAD,List.length_map,Nat.mul_one,Go.Sym.tabC,cbX,fnI,Q8,jT,nth,hwL];refine Fin.ok some [] ?_ ?_ ?_ ?_ ?_ rfl;all_goals (try simp only [vle,vkt,seval,qw,yA,gpT,gpH,gpL,puL,QX,mAD,List.length_map,Nat.mul_one,Go.Sym.tabC,cbX,fnI,Q8,jT,nth,hwL]))
      all_goals first|rfl|(simp;done)
end Go.Sym.B
namespace Go.Sym.B
open Go Go.Sym Go.Proofs Go.Sym.C
def ptY (P:List Int) (j:Nat):List AV:=[aPu ((qO P).getD j [])]
def jN:=vj @ty3 (vj @V7 (vj @Qg9 (vj @ti3.eq_1 (vj @JE.eq_1 @Rf.eq_1))))
def KU:=vj @aI.eq_1 (vj @aB.eq_1 (@aPu.eq_1))
theorem Rk (P:List Int) (hP:PuOk P):Iter Tryz.prog 70 [.cb,.ptr 0 0] (nth [.cells (P.map aI)]) (ptY P) (qO P).length (fun _=>nth [.cells (P.map aI)]) fun _ _=>.tup []:=by
  intro ans R hr
  obtain ⟨A0,hA0⟩:∃ A0:Frm→Prop,A0=Acb Tryz.prog (qc (wM 0 [.cells (P.map aI)])) (qc [(0,.cells (P.map aI))]) (ptY P) (fun _=>nth [.cells (P.map aI)]) ans R:=⟨_,rfl⟩
  have hA:∀ F,A0 F→Acb Tryz.prog (qc (wM 0 [.cells (P.map aI)])) (qc [(0,.cells (P.map aI))]) (ptY P) (fun _=>nth [.cells (P.map aI)]) ans R F:=fun F h=>hA0 ▸ h
  have env:=Qfi (ka:=0) (k:=0) rfl (QhD P hP 4 0 rfl) hA
  have e0:(nth [.cells (P.map aI)])=qc [(0,.cells (P.map aI))]:=by
    funext i
    match i with
    |0=>rfl
    |i+1=>simp [nth,qc]
  have e0':qc (wM 0 [.cells (P.map aI)])=qc [(0,AObj.cells (P.map aI))]:=rfl
  rw [← e0'] at e0
  have hbcc:∀ c,Bcb Tryz.prog (nth [.cells (P.map aI)]) (ptY P) (fun _=>nth [.cells (P.map aI)]) ans R c→Bcc Tryz.prog (qc (wM 0 [.cells (P.map aI)])) (qc [(0,.cells (P.map aI))]) (ptY P) (fun _=>nth [.cells (P.map aI)]) ans R c:=fun c h=>by
    show Bcc Tryz.prog (qc (wM 0 [.cells (P.map aI)])) (qc (wM 0 [.cells (P.map aI)])) (ptY P) (fun _=>nth [.cells (P.map aI)]) ans R c
    rw [← e0]
    exact h
  have hG:GpOk P [0,0,0,0] 0 (ptY P) ans R:=⟨rfl,by rw [List.drop_zero];exact hr,fun j hj=>by simp [ptY]⟩
  have hG':GpOk P [0,0,0,0] 0 (fun j=>ptY P j) (fun j=>ans j) R:=hG
  have hle:=hr.le
  have m1:min (qO P).length R=R:=Nat.min_eq_right hle
  have hs0:R - 0=R:=rfl
  have hz:([0,0,0,0]:List Int).map aI=[.v (.int .i64 0),.v (.int .i64 0),.v (.int .i64 0),.v (.int .i64 0)]:=rfl
  have hzd:([.v (.int .i64 0),.v (.int .i64 0),.v (.int .i64 0),.v (.int .i64 0)]:List AV).map aD=[0,0,0,0]:=rfl
  refine Fn.of (A:=A0) (n0:=1) (D:=noD) (Fn0 Tryz.func70 rfl (fun vs w=>by kernel_rfl) (by kernel_rfl)) (by simp) (by simp [AV.ids]) ?_ (fun F hb h0 _=>hA0 ▸ ⟨h0.trans (e0.trans e0'),fun i o hi=>⟨o,hi⟩,hbcc _ hb⟩) qA ?_
  · intro i o hi
    rw [e0] at hi
    have h:=qV hi
    simp [wM] at h
    obtain ⟨rfl,rfl⟩:=h
    simp [AObj.ids,jl]
  rw [e0,e0']
  repeat' (first|(apply nx;with_reducible constructor)|refine uq (by decide) ?_|((first|refine vx env fun Q hQ=>?_|refine vz fun Q hQ=>?_);simp only [vkt,seval,jN,KU,gpH,gpL,puL,QX,mAD,List.length_map,Go.Sym.tabC,cbX,fnI,Q8,jT,nth,hwL,List.drop_zero,hG,hG',m1,hs0,hz,hzd,hle];(try simp only [ite_and]);(repeat' (first|with_reducible assumption|refine And.intro ?_ ?_|intro hp));all_goals (first|(refine hQ _ ?_;clear hQ Q)|(refine hQ _ (fun h=>?_) (fun h=>?_) <;> clear hQ Q <;> (try simp only [vki,reduceCtorEq] at h))|omega|assumption|with_reducible rfl|(refine vq ?_;kernel_rfl)|skip)))
  (simp only [vrt,Tryz.results70,vkt,seval,jN,KU,gpH,gpL,puL,QX,mAD,List.length_map,Go.Sym.tabC,cbX,fnI,Q8,jT,nth,hwL,List.drop_zero];refine Fin.ok some [] ?_ ?_ ?_ ?_ ?_ rfl;all_goals (try simp only [vle,vkt,seval,jN,KU,gpH,gpL,puL,QX,mAD,List.length_map,Go.Sym.tabC,cbX,fnI,Q8,jT,nth,hwL,List.drop_zero]))
  all_goals first|rfl|(simp;done)
def vR (_:St):List AV→Option Pk
  |[.agg cs]=>some { pre:=cs=(cs.map aD).map aI,ar:=[.agg cs],v:=.clo 70 [.ptr 0 0],L1:=[some (.cells cs)] }
  |_=>none
def Kz:=vj @aI.eq_1 (vj @aB.eq_1 (@aPu.eq_1))
theorem Qe2 (p:List Int):Fn noB Tryz.prog 45 [aPu p] (qc []) (.clo 70 [.ptr 0 0]) (qc [(0,.cells (p.map aI))]) 0:=by
  have env:Env (fun _=>True) Tryz.prog tyB (tab []):=qY trivial
  refine Fn.of (A:=fun _=>True) (n0:=0) (D:=noD) (Fn0 Tryz.func45 rfl (fun vs w=>by kernel_rfl) (by kernel_rfl)) (by simp) (by simp [AV.ids,aPu,jl]) (fun i o h=>by cases h) (fun _ _ _ _=>trivial) qA ?_
  repeat' (first|(apply nx;with_reducible constructor)|refine uq (by decide) ?_|((first|refine vx env fun Q hQ=>?_|refine vz fun Q hQ=>?_);simp only [vkt,seval,Kz,puL,List.length_map];(try simp only [ite_and]);(repeat' (first|with_reducible assumption|refine And.intro ?_ ?_|intro hp));all_goals (first|(refine hQ _ ?_;clear hQ Q)|(refine hQ _ (fun h=>?_) (fun h=>?_) <;> clear hQ Q <;> (try simp only [vki,reduceCtorEq] at h))|omega|assumption|with_reducible rfl|(refine vq ?_;kernel_rfl)|skip)))
  (simp only [vrt,Tryz.results45,vkt,seval,Kz,puL,List.length_map];refine Fin.ok some [] ?_ ?_ ?_ ?_ ?_ rfl;all_goals (try simp only [vle,vkt,seval,Kz,puL,List.length_map]))
  all_goals first|rfl|exact ⟨kY _ _ _,trivial⟩|(simp;done)
theorem e130 {A:Frm→Prop}:qh A Tryz.prog 45 (fnE vR):=jC fun S bs q h hp=>by
  unfold vR at h
  split at h
  · rename_i cs
    cases h
    have:=Qe2 (cs.map aD)
    simp only [aPu,← (show cs=(cs.map aD).map aI from hp)] at this
    exact this
  · cases h
def kR:List (Int × List Int)→Int→Option (List Int)
  |[],_=>none
  |q :: m,n=>if q.1=n then some q.2 else kR m n
def xL:List (Int × List Int)→Int→List Int→List (Int × List Int)
  |[],n,x=>[(n,x)]
  |q :: m,n,x=>if q.1=n then (n,x) :: m else q :: xL m n x
def Zw (ps:List Int) (m:List (Int × List Int)) (x:List Int):List (Int × List Int) :=
  xL m (xF ps x) (match kR m (xF ps x) with|some y=>btr List.sum y x|none=>x)
def fwK (ps P:List Int) (k:Nat):List (Int × List Int):=((qO P).take k).foldl (Zw ps) []
def Qav (ps P:List Int):List (Int × List Int):=(qO P).foldl (Zw ps) []
theorem Qd7 {ps P:List Int} {k:Nat} (h:k < (qO P).length):fwK ps P (k+1)=Zw ps (fwK ps P k) ((qO P).getD k []):=by
  rw [fwK,List.take_succ_eq_append_getElem h,List.foldl_append]
  simp [fwK,List.getD_eq_getElem?_getD,h]
def XT (x:List Int):Value:=.agg (x.map (Value.int .i64)).toArray
def QN (m:List (Int × List Int)):List (Value × Value):=m.map fun q=>(.int .i64 q.1,XT q.2)
theorem zx (n:Int):∀ m,yR (QN m) (.int .i64 n)=(kR m n).map XT
  |[]=>rfl
  |q :: m=>by
    have ih:=zx n m
    simp only [QN,List.map_cons,yR,kR] at ih ⊢
    by_cases h:q.1=n
    · rw [if_pos h,if_pos (by rw [h])];rfl
    · rw [if_neg h,if_neg (by simpa using h)];exact ih
theorem yP (n:Int) (x:List Int):∀ m,Ql (QN m) (.int .i64 n) (XT x)=QN (xL m n x)
  |[]=>rfl
  |q :: m=>by
    have ih:=yP n x m
    simp only [QN,List.map_cons,Ql,xL] at ih ⊢
    by_cases h:q.1=n
    · rw [if_pos h,if_pos (by rw [h])];rfl
    · rw [if_neg h,if_neg (by simpa using h),ih];rfl
theorem Y7 (n:Int) (x:List Int):∀ m a,a ∈ (xL m n x).map (·.1)→a=n∨a ∈ m.map (·.1)
  |[],a,h=>by simp [xL] at h;exact .inl h
  |q :: m,a,h=>by
    simp only [xL] at h
    split at h
    · simp only [List.map_cons,List.mem_cons] at h ⊢
      rcases h with h|h
      · exact .inl h
      · exact .inr (.inr h)
    · simp only [List.map_cons,List.mem_cons] at h ⊢
      rcases h with h|h
      · exact .inr (.inl h)
      · rcases Y7 n x m a h with h|h
        · exact .inl h
        · exact .inr (.inr h)
theorem R6 (n:Int) (x:List Int):∀ m,(m.map (·.1)).Nodup→((xL m n x).map (·.1)).Nodup
  |[],_=>by simp [xL]
  |q :: m,h=>by
    simp only [List.map_cons,List.nodup_cons] at h
    simp only [xL]
    split
    · rename_i hq;simp only [List.map_cons,List.nodup_cons];exact ⟨hq ▸ h.1,h.2⟩
    · rename_i hq
      simp only [List.map_cons,List.nodup_cons]
      refine ⟨fun hm=>?_,R6 n x m h.2⟩
      rcases Y7 n x m _ hm with h1|h1
      · exact hq h1
      · exact h.1 h1
theorem Ye (n:Int) (x:List Int):∀ m,(xL m n x).length≤m.length+1
  |[]=>by simp [xL]
  |q :: m=>by
    simp only [xL]
    split
    · simp
    · simp only [List.length_cons];have:=Ye n x m;omega
theorem Qaq (ps P:List Int):∀ k,((fwK ps P k).map (·.1)).Nodup∧(fwK ps P k).length≤k:=by
  have key:∀ (l:List (List Int)) (m:List (Int × List Int)) (k:Nat),(m.map (·.1)).Nodup→m.length≤k→((l.foldl (Zw ps) m).map (·.1)).Nodup∧(l.foldl (Zw ps) m).length≤k+l.length:=by
    intro l
    induction l with
    |nil=>intro m k h1 h2;exact ⟨h1,h2⟩
    |cons x l ih =>
      intro m k h1 h2
      have:=ih (Zw ps m x) (k+1) (R6 _ _ _ h1) (Nat.le_trans (Ye _ _ _) (by omega))
      simp only [List.foldl_cons,List.length_cons]
      exact ⟨this.1,by omega⟩
  intro k
  have:=key ((qO P).take k) [] 0 (by simp) (Nat.le_refl _)
  exact ⟨this.1,by have:=this.2;simp only [fwK];rw [List.length_take] at this;omega⟩
theorem KO {m:List (Int × List Int)} (h:(m.map (·.1)).Nodup):MOK (KD.Q (.one (.int .i64))) (QN m):=by
  refine ⟨?_,fun p hp=>?_⟩
  · have:(QN m).map (·.1)=(m.map (·.1)).map (Value.int .i64):=by simp [QN,Function.comp_def]
    rw [this]
    exact List.Pairwise.map _ (fun a b h e=>h (by simpa using e)) h
  · obtain ⟨q,_,rfl⟩:=List.mem_map.1 hp
    simp [KD.Q,MapKept.IsKey]
theorem zU (x:List Int):vAV (XT x)=.agg (x.map aI):=by simp [vAV,XT,aI,Function.comp_def]
theorem zT (x:List Int):Xc true (XT x)=true:=by simp [Xc,XT,Value.oneCell']
theorem QdA:∀ x:List Int,Qo (x.map aI)=some (x.map (Value.int .i64))
  |[]=>rfl
  |n :: x=>by simp only [List.map_cons,aI,Qo,QdA x];simp
theorem xe (x:List Int):Option.map (fun l:List Value=>Value.agg l.toArray) (Qo (x.map aI))=some (XT x):=by simp [QdA,XT]
theorem Qed {ps P:List Int} (hP:PuOk P):∀ k,∀ q ∈ fwK ps P k,PuOk q.2:=by
  have set:∀ (n:Int) (x:List Int) (m:List (Int × List Int)),PuOk x→(∀ q ∈ m,PuOk q.2)→∀ q ∈ xL m n x,PuOk q.2:=by
    intro n x m hx
    induction m with
    |nil=>intro _ q hq;simp [xL] at hq;subst hq;exact hx
    |cons r m ih =>
      intro hm q hq
      simp only [xL] at hq
      split at hq
      · rcases List.mem_cons.1 hq with rfl|hq
        · exact hx
        · exact hm q (List.mem_cons_of_mem _ hq)
      · rcases List.mem_cons.1 hq with rfl|hq
        · exact hm _ List.mem_cons_self
        · exact ih (fun q hq=>hm q (List.mem_cons_of_mem _ hq)) q hq
  have get:∀ (n:Int) (m:List (Int × List Int)) (y:List Int),kR m n=some y→(∀ q ∈ m,PuOk q.2)→PuOk y:=by
    intro n m
    induction m with
    |nil=>intro y h;simp [kR] at h
    |cons r m ih =>
      intro y h hm
      simp only [kR] at h
      split at h
      · cases h;exact hm _ List.mem_cons_self
      · exact ih y h fun q hq=>hm q (List.mem_cons_of_mem _ hq)
  have key:∀ (l:List (List Int)) (m:List (Int × List Int)),(∀ x ∈ l,PuOk x)→(∀ q ∈ m,PuOk q.2)→∀ q ∈ l.foldl (Zw ps) m,PuOk q.2:=by
    intro l
    induction l with
    |nil=>intro m _ h;exact h
    |cons x l ih =>
      intro m hl hm
      refine ih _ (fun y hy=>hl y (List.mem_cons_of_mem _ hy)) (set _ _ _ ?_ hm)
      have hx:=hl x List.mem_cons_self
      split
      · rename_i y hy
        have hyy:=get _ _ _ hy hm
        unfold btr;split <;> assumption
      · exact hx
  intro k
  exact key _ [] (fun x hx=>ZE hP (List.mem_of_mem_take hx)) (by simp)
theorem JC {m:List (Int × List Int)} {n:Int} {y:List Int} (h:kR m n=some y) (hm:∀ q ∈ m,PuOk q.2):PuOk y:=by
  induction m with
  |nil=>simp [kR] at h
  |cons r m ih =>
    simp only [kR] at h
    split at h
    · cases h;exact hm _ List.mem_cons_self
    · exact ih h fun q hq=>hm q (List.mem_cons_of_mem _ hq)
theorem UZ:∀ {q:List Int},(∀ n ∈ q,n≤4)→(qO q).length≤5 ^ q.length
  |[],_=>by simp [qO]
  |p :: ps,h=>by
    have ih:=UZ (q:=ps) fun n hn=>h n (List.mem_cons_of_mem _ hn)
    have:=h p List.mem_cons_self
    rw [ZZ,List.length_cons,Nat.pow_succ,Nat.mul_comm]
    exact Nat.mul_le_mul ih (by omega)
theorem PuOk.parts {P:List Int} (h:PuOk P):(qO P).length≤625:=by
  have:=UZ (q:=P) fun n hn=>(h.bd n hn).2
  rw [h.len] at this;exact this
theorem QO:∀ p:List Int,AV.nocbL (p.map aI)=True
  |[]=>rfl
  |n :: p=>by simp only [List.map_cons,AV.nocbL,QO p];simp [aI,AV.nocb]
def fwC (ps P:List Int) (k:Nat):List (Nat × AObj):=[(0,.cells (P.map aI)),(1,.cells [.sl (ps.map qp)]),(2,.map (QN (fwK ps P k))),(3,.cells [.mp 2])]
def fwL:List (Nat × AV):=[(2,.ptr 0 0),(3,.ptr 1 0),(5,.ptr 3 0),(12,.clo 70 [.ptr 4 0])]
theorem yD (P:List Int):kN [4] (5+1) 0 [.cells (P.map aI)]=[(4,.cells (P.map aI))]:=by simp [kN,qj,AObj.ren,ZB]
theorem QbK {N:Nat}:Rounds (fun _=>true) N N:=⟨Nat.le_refl _,fun _ _=>rfl,fun h=>absurd h (Nat.lt_irrefl _)⟩
def za:=vj @ty3 (vj @jL (vj @V7 (vj @ty87 (vj @ti3.eq_1 (vj @jG.eq_1 (vj @JE.eq_1 @QcT.eq_1))))))
def kC:=vj @aI.eq_1 (vj @aB.eq_1 (vj @ql.eq_1 (vj @aPu.eq_1 (vj @vH (vj @qp.eq_1 (@Qn))))))
theorem QbR (P ps:List Int) (hP:PuOk P) (hs:PzOk ps):Fn noB Tryz.prog 41 [aPu P,ql ps] (qc []) (.mp 0) (qc [(0,.map (QN (Qav ps P)))]) 0:=by
  have env:Env (fun F=>F.r=none) Tryz.prog tyB (tab [(45,fnE vR),(46,qo true c131),(69,qo true JV)]):=qY ⟨e130,d131,d144,trivial⟩
  refine Fn.of (A:=fun F=>F.r=none) (n0:=0) (D:=noD) (Fn0 Tryz.func41 rfl (fun vs w=>by kernel_rfl) (by kernel_rfl)) (by simp) (by simp [AV.ids,aPu,ql,jl]) (fun i o h=>by cases h) (fun _ _ _ h=>h) qA ?_
  have hPl:=hP.len
  have tP:(P.map aI).take 4=P.map aI:=List.take_of_length_le (by simp [hPl])
  repeat' (first|(apply nx;with_reducible constructor)|refine uq (by decide) ?_|((first|refine vx env fun Q hQ=>?_|refine vz fun Q hQ=>?_);simp only [vkt,seval,za,kC,fwC,fwL,puL,vR,c131,JV,mAD,List.length_map,wD,yD,zU,zT,xe,zx,yP,MapKept.IsKey,hPl,tP];(try simp only [ite_and]);(repeat' (first|with_reducible assumption|refine And.intro ?_ ?_|intro hp));all_goals (first|(refine hQ _ ?_;clear hQ Q)|(refine hQ _ (fun h=>?_) (fun h=>?_) <;> clear hQ Q <;> (try simp only [vki,reduceCtorEq] at h))|omega|assumption|with_reducible rfl|(refine vq ?_;kernel_rfl)|skip)))
  refine J7 (S':={ t:=asg fwL,h:=qc (fwC ps P 0++[(4,.cells (P.map aI))]),n:=5,j:=0,d:=[],m:=0 }) ?_ ?_
  · show Le _ { t:=asg [(2,.ptr 0 0),(3,.ptr 1 0),(5,.ptr 3 0),(12,.clo 70 [.ptr 4 0])],h:=qc [(0,.cells (P.map aI)),(1,.cells [.sl (ps.map qp)]),(2,.map []),(3,.cells [.mp 2]),(4,.cells (P.map aI))],n:=5,j:=0,d:=[],m:=0 }
    (refine Le.ok some [] ?_;constructor;all_goals (try simp only [vle,vkt,seval,za,kC,fwC,fwL,puL,vR,c131,JV,mAD,List.length_map,wD,yD,zU,zT,xe,zx,yP,MapKept.IsKey]))
    all_goals first|rfl|(simp;done)
  rw [← yD P]
  refine Vi (L:=fwL) (hs:=[4]) (n:=5) (nl:=0) (hc:=fwC ps P) (Lp:=[.cells (P.map aI)]) (jj:=fun _=>0) (d:=[]) (ys:=ptY P) (hl:=fun _=>[.cells (P.map aI)]) (ans:=fun _=>true) (ex:=.ret) (caps:=[.ptr 4 0]) (caps0:=[.ptr 0 0]) (N:=(qO P).length) (R:=(qO P).length) (A':=fun _=>True) (fun F h=>h) (fun _ _=>trivial) rfl (Rk P hP) QbK (.inl rfl) ?_ ?_ ?_ rfl (by simp) ?_ (by simp) ?_ (fun j hj=>?_) ?_ (fun j hj=>?_) (fun _=>?_) (fun _ h=>by cases h)
  · simp [AV.leL,AV.le]
  · simp [AV.nocbL,AV.nocb]
  · simp [UU,AObj.nocb,QO,AObj.ids,jl,AObj.ren,ZB,AObj.le,kY]
  · simp [fwC,qc]
  · simp [UV,fwL,AV.ids,AV.idsL]
  · refine ⟨?_,rfl, ?_, ?_,rfl, ?_⟩
    · simp [YV,fwC,AObj.ids,AV.ids,AV.idsL,jl]
    · simp [Ud,AObj.nocb,QO,AObj.ids,jl]
    · simp [Qdh,ptY,aPu,AV.nocb,QO,AV.ids,jl]
    · simp [Vr,UA,yD,fwC,fwL,XM,AV.ids,AV.idsL,ADf.ids,List.range_zero]
  · simp [YV,fwC,AObj.ids,AV.ids,AV.idsL,jl]
  · have env:Env (fun _:Frm=>True) Tryz.prog tyB (tab [(45,fnE vR),(46,qo true c131),(69,qo true JV)]):=qY ⟨e130,d131,d144,trivial⟩
    obtain ⟨x,hx⟩:∃ x,(qO P).getD j []=x:=⟨_,rfl⟩
    have hxm:x ∈ qO P:=hx ▸ jU hj
    have hxo:=ZE hP hxm
    have hxl:=hxo.len
    have tx:(x.map aI).take 4=x.map aI:=List.take_of_length_le (by simp [hxl])
    have hS:=Qd7 (ps:=ps) hj
    rw [hx,Zw] at hS
    obtain ⟨nd1,nd2⟩:=Qaq ps P j
    have hfw:=Qed (ps:=ps) hP j
    have hpz:=hP.parts
    have hst:wD fwL [13] [4] 5 0 (ptY P j) (fwC ps P j) [.cells (P.map aI)]={ t:=asg [(13,.agg (x.map aI)),(2,.ptr 0 0),(3,.ptr 1 0),(5,.ptr 3 0),(12,.clo 70 [.ptr 4 0])],h:=qc [(5,.mark),(0,.cells (P.map aI)),(1,.cells [.sl (ps.map qp)]),(2,.map (QN (fwK ps P j))),(3,.cells [.mp 2]),(4,.cells (P.map aI))],n:=6,m:=6 }:=by
      simp only [wD,yD,ptY,hx,aPu,List.map_cons,List.map_nil,AV.ren,ZB,List.zip_cons_cons,List.zip_nil_right,fwC,fwL,Yt,List.cons_append,List.nil_append]
      rfl
    show Sym _ _ _ (wD fwL [13] [4] 5 0 (ptY P j) (fwC ps P j) [.cells (P.map aI)]) _
    rw [hst]
    generalize fwK ps P j=m at *
    obtain ⟨n,hn⟩:∃ n,xF ps x=n:=⟨_,rfl⟩
    rw [hn] at hS
    have hmk:=KO nd1
    have hlen:∀ y,(QN (xL m n y)).length≤maxLen:=fun y=>by
      have h1:=Ye n y m
      have h2:(626:Nat)≤maxLen:=by decide
      simp only [QN,List.length_map];omega
    cases hg:kR m n with
    |none =>
      rw [hg] at hS
      repeat' (first|(apply nx;with_reducible constructor)|refine uq (by decide) ?_|((first|refine vx env fun Q hQ=>?_|refine vz fun Q hQ=>?_);simp only [vkt,seval,za,kC,fwC,fwL,puL,vR,c131,JV,mAD,List.length_map,wD,yD,zU,zT,xe,zx,yP,MapKept.IsKey,hPl,hxl,tx,hxo,hs,hn,hg,hmk,hlen];(try simp only [ite_and]);(repeat' (first|with_reducible assumption|refine And.intro ?_ ?_|intro hp));all_goals (first|(refine hQ _ ?_;clear hQ Q)|(refine hQ _ (fun h=>?_) (fun h=>?_) <;> clear hQ Q <;> (try simp only [vki,reduceCtorEq] at h))|omega|assumption|with_reducible rfl|(refine vq ?_;kernel_rfl)|skip)))
      refine ⟨rfl,rfl,some,_,RFin.ok some [] ?_⟩
      constructor
      all_goals (try simp only [vle,Yk,Jd,qj,vkt,seval,za,kC,fwC,fwL,puL,vR,c131,JV,mAD,List.length_map,wD,yD,zU,zT,xe,zx,yP,MapKept.IsKey])
      all_goals first|rfl|exact congrArg QN hS.symm|(rw [hS,← hz];done)|(simp;done)
    |some y =>
      rw [hg] at hS
      have hyo:=JC hg hfw
      have hyl:=hyo.len
      have ty:(y.map aI).take 4=y.map aI:=List.take_of_length_le (by simp [hyl])
      obtain ⟨z,hz⟩:∃ z,btr List.sum y x=z:=⟨_,rfl⟩
      have hzo:PuOk z:=by rw [← hz];unfold btr;split <;> assumption
      have hzl:=hzo.len
      have tz:(z.map aI).take 4=z.map aI:=List.take_of_length_le (by simp [hzl])
      have dz:(x.map aI).drop 4=[]:=List.drop_of_length_le (by simp [hxl])
      repeat' (first|(apply nx;with_reducible constructor)|refine uq (by decide) ?_|((first|refine vx env fun Q hQ=>?_|refine vz fun Q hQ=>?_);simp only [vkt,seval,za,kC,fwC,fwL,puL,vR,c131,JV,mAD,List.length_map,wD,yD,zU,zT,xe,zx,yP,MapKept.IsKey,hPl,hxl,tx,hxo,hs,hn,hg,hmk,hlen,hyo,hyl,ty,hz,hzl,tz,dz];(try simp only [ite_and]);(repeat' (first|with_reducible assumption|refine And.intro ?_ ?_|intro hp));all_goals (first|(refine hQ _ ?_;clear hQ Q)|(refine hQ _ (fun h=>?_) (fun h=>?_) <;> clear hQ Q <;> (try simp only [vki,reduceCtorEq] at h))|omega|assumption|with_reducible rfl|(refine vq ?_;kernel_rfl)|skip)))
      refine ⟨rfl,rfl,some,_,RFin.ok some [] ?_⟩
      constructor
      all_goals (try simp only [vle,Yk,Jd,qj,vkt,seval,za,kC,fwC,fwL,puL,vR,c131,JV,mAD,List.length_map,wD,yD,zU,zT,xe,zx,yP,MapKept.IsKey])
      all_goals first|rfl|exact congrArg QN hS.symm|(rw [hS,← hz];done)|(simp;done)
  · have hN:fwK ps P (qO P).length=Qav ps P:=by rw [fwK,List.take_length];rfl
    rw [yD]
    simp only [fwC,hN]
    repeat' (first|(apply nx;with_reducible constructor)|refine uq (by decide) ?_|((first|refine vx env fun Q hQ=>?_|refine vz fun Q hQ=>?_);simp only [vkt,seval,za,kC,fwC,fwL,puL,vR,c131,JV,mAD,List.length_map,wD,yD,zU,zT,xe,zx,yP,MapKept.IsKey];(try simp only [ite_and]);(repeat' (first|with_reducible assumption|refine And.intro ?_ ?_|intro hp));all_goals (first|(refine hQ _ ?_;clear hQ Q)|(refine hQ _ (fun h=>?_) (fun h=>?_) <;> clear hQ Q <;> (try simp only [vki,reduceCtorEq] at h))|omega|assumption|with_reducible rfl|(refine vq ?_;kernel_rfl)|skip)))
    (simp only [vrt,Tryz.results41,vkt,seval,za,kC,fwC,fwL,puL,vR,c131,JV,mAD,List.length_map,wD,yD,zU,zT,xe,zx,yP,MapKept.IsKey];refine Fin.ok (fun _=>some 2) [] ?_ ?_ ?_ ?_ ?_ rfl;all_goals (try simp only [vle,vkt,seval,za,kC,fwC,fwL,puL,vR,c131,JV,mAD,List.length_map,wD,yD,zU,zT,xe,zx,yP,MapKept.IsKey]))
    all_goals first|rfl|(simp;done)
def xS (_:St):List AV→Option Pk
  |[.agg cs,.sl xs]=>some { pre:=cs=(cs.map aD).map aI∧xs=(xs.map qJ).map qp∧PuOk (cs.map aD)∧PzOk (xs.map qJ),ar:=[.agg cs,.sl xs],v:=.mp 0,L1:=[some (.map (QN (Qav (xs.map qJ) (cs.map aD))))] }
  |_=>none
theorem e126 {A:Frm→Prop}:qh A Tryz.prog 41 (fnE xS):=jC fun S bs q h hp=>by
  unfold xS at h
  split at h
  · cases h
    obtain ⟨h1,h2,h3,h4⟩:=hp
    have:=QbR _ _ h3 h4
    simp only [aPu,ql,← h1,← h2] at this
    exact this
  · cases h
end Go.Sym.B
namespace Go.Sym.B
open Go Go.Sym Go.Proofs Go.Sym.C
def xQ (S:St):List AV→Option Pk
  |[.psl id off n _]=>match S.h id with
    |some (.cells cs)=>some { pre:=off+n≤cs.length∧(cs.drop off).take n=(((cs.drop off).take n).map aD).map aI∧n≤100000,bo:=[id],ar:=[.sl ((((cs.drop off).take n).map aD).map qp)],v:=.row 0,L1:=[some (.row 3 1 ((((cs.drop off).take n).map aD).map qp))],fl:=true }
    |_=>none
  |[.sl xs]=>some { pre:=zX 1 xs∧xs.length≤100000,ar:=[.sl xs],v:=.row 0,L1:=[some (.row 3 1 xs)] }
  |_=>none
theorem e88x {A:Frm→Prop}:qh A Tryz.prog 42 (fnE xQ):=jC fun S bs q h hp=>by
  unfold xQ at h
  split at h
  · split at h
    · cases h
      obtain ⟨h1,h2,h3⟩:=hp
      exact YG _ (by rw [JH];trivial) (by simp;omega)
    · cases h
  · cases h;exact YG _ hp.1 hp.2
  · cases h
theorem Kw:∀ l:List Int,dvP (l.map aI)=some (l.map fun n=>DV.v (.int .i64 n))
  |[]=>rfl
  |n :: l=>by simp only [List.map_cons,aI,dvP,Kw l];rfl
theorem LP (l:List Int):(l.map fun n=>DV.v (.int .i64 n)).map (fun d=>[d])=l.map qp:=by simp [Function.comp_def,qp]
theorem Qbz {l:List Int} {r:List DV} {d:DV} (hr:r ∈ l.map qp) (hd:d ∈ r):∃ x,d=.v x:=by
  obtain ⟨n,_,rfl⟩:=List.mem_map.1 hr
  simp [qp] at hd
  exact ⟨_,hd⟩
def chgL (ps dr:List Int) (n:Int):Option (List Int):=(kR (Qav ps (pad dr)) n).map (·.take dr.length)
def QaM (l:Led) (c:Int) (dr:List Int) (n:Int):AV:=if jM l c n [dr] ≠ 0 then .tup [.sl [],aI (jM l c n [dr])] else match chgL (l.coins.getD c.toNat []) dr n with
  |none=>.tup [.sl [],aI 11]
  |some y=>.tup [ql y,aI 0]
def jf:=vj @ty3 (vj @QA (vj @jL (vj @xm (vj @QJ (vj @V7 (vj @ty87 (vj @ti3.eq_1 (vj @kP.eq_1 (vj @jG.eq_1 (vj @vG.eq_1 (vj @Qe.eq_1 (vj @JE.eq_1 @QcT.eq_1))))))))))))
def Wh:=vj @aI.eq_1 (vj @aB.eq_1 (vj @zL.eq_1 (vj @zh.eq_1 (vj @ql.eq_1 (vj @aPu.eq_1 (vj @c86.eq_1 (vj @c86.eq_2 (vj @yT (vj @jO (vj @qp.eq_1 (vj @Qn (vj @vH (vj @xC (vj @zH.eq_1 (@WE)))))))))))))))
set_option maxHeartbeats 2000000 in
theorem QcD (l:Led) (c:Int) (dr:List Int) (n:Int) (hl:Fit l) (hd:dr.length≤20):FnV Tryz.prog 14 [zL l,aI c,ql dr,aI n] (QaM l c dr n):=by
  have env:Env (fun _=>True) Tryz.prog tyB (tab [(39,qo true c86),(42,fnE xQ),(40,qo true xY),(41,fnE xS)]):=qY ⟨d86,e88x,d125,e126,trivial⟩
  refine Fn.of (A:=fun _=>True) (n0:=0) (D:=noD) (Fn0 Tryz.func14 rfl (fun vs w=>by kernel_rfl) (by kernel_rfl)) (by simp) (by simp [AV.ids,AV.idsL,aI,zL,zh,ql]) (fun i o h=>by cases h) (fun _ _ _ _=>trivial) qA ?_
  have hml:(20:Nat)≤maxLen:=by decide
  have q0:∀ p ∈ [dr],p.length≤maxLen:=fun p hp=>by simp at hp;subst hp;omega
  have q1:(1:Nat)≤maxLen:=by omega
  have dI1:zw [.sl (dr.map qp)]=dr:=vH dr
  by_cases h0:jM l c n [dr]=0
  · rw [show QaM l c dr n=_ from if_neg (by rw [h0];simp)]
    obtain ⟨hV,⟨g1,g2⟩,hds,hn0,hn1⟩:=VI h0
    obtain ⟨hdl,hdb⟩:=hds dr (List.mem_singleton.2 rfl)
    obtain ⟨ps,hP⟩:∃ x,l.coins.getD c.toNat []=x:=⟨_,rfl⟩
    have hps:PsOk ps:=hP ▸ YL (hV.cs _ g2)
    rw [hP] at hdl ⊢
    have hl1:=hps.l
    have hd0:0 < dr.length:=by omega
    have hd4:dr.length≤4:=by omega
    have hd4':(dr.length:Int)≤4:=by omega
    have hd5:dr.length≤100000:=by omega
    have hml4:4≤maxLen:=by omega
    have hpu:=Lr hd4 hdb
    have hpc:PzOk ps:=⟨hl1.2,hps.b⟩
    obtain ⟨m,hm⟩:∃ m,Qav ps (pad dr)=m:=⟨_,rfl⟩
    have hk:=Qaq ps (pad dr) (qO (pad dr)).length
    have hN:fwK ps (pad dr) (qO (pad dr)).length=m:=by rw [fwK,List.take_length];exact hm
    have hfw:=Qed (ps:=ps) hpu (qO (pad dr)).length
    rw [hN] at hk hfw
    have hmk:=KO hk.1
    simp only [chgL,hm]
    cases hg:kR m n with
    |none =>
      repeat' (first|(apply nx;with_reducible constructor)|refine uq (by decide) ?_|((first|refine vx env fun Q hQ=>?_|refine vz fun Q hQ=>?_);simp only [vkt,seval,jf,Wh,puL,xY,xS,xQ,mAD,zU,zT,xe,zx,MapKept.IsKey,List.length_map,hl,q0,q1,dI1,h0,g1,g2,hP,hd0,hd4,hpu,hpc,hm,hg,hmk];(try simp only [ite_and]);(repeat' (first|with_reducible assumption|refine And.intro ?_ ?_|intro hp));all_goals (first|(refine hQ _ ?_;clear hQ Q)|(refine hQ _ (fun h=>?_) (fun h=>?_) <;> clear hQ Q <;> (try simp only [vki,reduceCtorEq] at h))|omega|assumption|with_reducible rfl|(apply yQ;(case hs=>(try simp only [vdt,List.map_cons,List.map_nil,List.append_nil,List.nil_append,List.isEmpty_nil,List.flatMap_nil,vk9,Vw,puL]);rfl);kernel_rfl)|skip)))
      show U7 tyB noD Tryz.f14 (fun S rv=>Fin S rv (.tup [.sl [],aI 11]) 0 noH 0) Exit.ret _
      (simp only [vrt,Tryz.results14,vkt,seval,jf,Wh,puL,xY,xS,xQ,mAD,zU,zT,xe,zx,MapKept.IsKey,List.length_map];refine Fin.val rfl ?_;(try simp only [AV.le,AV.leL]))
      all_goals first|rfl|(simp;done)
    |some y =>
      have hyo:=JC hg hfw
      have hyl:=hyo.len
      have tk:(y.map aI).take dr.length=(y.take dr.length).map aI:=by rw [List.map_take]
      repeat' (first|(apply nx;with_reducible constructor)|refine uq (by decide) ?_|((first|refine vx env fun Q hQ=>?_|refine vz fun Q hQ=>?_);simp only [vkt,seval,jf,Wh,puL,xY,xS,xQ,mAD,zU,zT,xe,zx,MapKept.IsKey,List.length_map,hl,q0,q1,dI1,h0,g1,g2,hP,hd0,hd4,hd4',hd5,hml4,hpu,hpc,hm,hg,hmk,hyl,tk];(try simp only [ite_and]);(repeat' (first|with_reducible assumption|refine And.intro ?_ ?_|intro hp));all_goals (first|(refine hQ _ ?_;clear hQ Q)|(refine hQ _ (fun h=>?_) (fun h=>?_) <;> clear hQ Q <;> (try simp only [vki,reduceCtorEq] at h))|omega|assumption|with_reducible rfl|(apply yQ;(case hs=>(try simp only [vdt,List.map_cons,List.map_nil,List.append_nil,List.nil_append,List.isEmpty_nil,List.flatMap_nil,vk9,Vw,puL]);rfl);kernel_rfl)|skip)))
      all_goals first|exact Qbz ‹_› ‹_›|exact ⟨_,_,rfl,by simp [hyl];omega,by rw [tk];exact Kw _,(LP _).symm⟩|skip
      show U7 tyB noD Tryz.f14 (fun S rv=>Fin S rv (.tup [ql (y.take dr.length),aI 0]) 0 noH 0) Exit.ret _
      (simp only [vrt,Tryz.results14,vkt,seval,jf,Wh,puL,xY,xS,xQ,mAD,zU,zT,xe,zx,MapKept.IsKey,List.length_map];refine Fin.val rfl ?_;(try simp only [AV.le,AV.leL]))
      all_goals first|rfl|(simp;done)|exact ⟨⟨_,_,rfl⟩,trivial,trivial⟩|(simp [upd];done)
  · rw [show QaM l c dr n=_ from if_pos h0]
    have hne:decide (jM l c n [dr]=0)=false:=decide_eq_false h0
    repeat' (first|(apply nx;with_reducible constructor)|refine uq (by decide) ?_|((first|refine vx env fun Q hQ=>?_|refine vz fun Q hQ=>?_);simp only [vkt,seval,jf,Wh,puL,xY,xS,xQ,mAD,zU,zT,xe,zx,MapKept.IsKey,List.length_map,hl,q0,q1,dI1,hne];(try simp only [ite_and]);(repeat' (first|with_reducible assumption|refine And.intro ?_ ?_|intro hp));all_goals (first|(refine hQ _ ?_;clear hQ Q)|(refine hQ _ (fun h=>?_) (fun h=>?_) <;> clear hQ Q <;> (try simp only [vki,reduceCtorEq] at h))|omega|assumption|with_reducible rfl|(apply yQ;(case hs=>(try simp only [vdt,List.map_cons,List.map_nil,List.append_nil,List.nil_append,List.isEmpty_nil,List.flatMap_nil,vk9,Vw,puL]);rfl);kernel_rfl)|skip)))
    (simp only [vrt,Tryz.results14,vkt,seval,jf,Wh,puL,xY,xS,xQ,mAD,zU,zT,xe,zx,MapKept.IsKey,List.length_map];refine Fin.val rfl ?_;(try simp only [AV.le,AV.leL]))
    all_goals first|rfl|(simp;done)
def c69:List AV→Prop × AV
  |[.agg [.sl cs,.sl rs,.sl ss,.sl es],.v (.int .i64 c),.sl ds,.v (.int .i64 n)]=>(isL cs rs ss es∧Fit (zN cs rs ss es)∧ds=(ds.map qJ).map qp∧(ds.map qJ).length≤20,QaM (zN cs rs ss es) c (ds.map qJ) n)
  |_=>(False,.junk)
theorem d69 {A:Frm→Prop}:qh A Tryz.prog 14 (qo false c69):=qL fun vs hv h=>by
  clear hv
  unfold c69 at h ⊢
  split at h
  · obtain ⟨h1,h2,h3,h4⟩:=h
    refine ⟨by
        unfold QaM;split;· simp [AV.plain,AV.plainL,aI]
        · split <;> simp [AV.plain,AV.plainL,aI,ql],fun h=>absurd h (by decide), ?_⟩
    rename_i cs rs ss es c ds n
    have:=QcD (zN cs rs ss es) c (ds.map qJ) n h2 h4
    rw [← jD h1]
    simp only [ql,← h3] at this
    exact this
  · exact h.elim
end Go.Sym.B
namespace Go.Sym.B
open Go Go.Sym Go.Proofs Go.Sym.C
end Go.Sym.B
namespace Go.Sym.B
open Go Go.Sym Go.Proofs Go.Sym.C
abbrev DL:=List Int × List Int
def ZI (ps:List Int) (price:Int) (gives:List (Int × List Int)) (o:Option DL) (x:List Int):Option DL :=
  match kR gives (xF ps x - price) with
  |none=>o
  |some y=>match o with
    |some b=>some (btr Jp b (x,y))
    |none=>some (x,y)
end Go.Sym.B
namespace Go.Sym.B
open Go Go.Sym Go.Proofs Go.Sym.C
def jd:Option DL→List AV
  |none=>[aI 0,aI 0,aI 0,aI 0,aI 0,aI 0,aI 0,aI 0]
  |some q=>(q.1++q.2).map aI
def pyP (ps P G':List Int) (price:Int):Option DL:=(qO P).foldl (ZI ps price (Qav ps G')) none
def pyK (ps P:List Int) (price:Int) (G:List (Int × List Int)) (j:Nat):Option DL:=((qO P).take j).foldl (ZI ps price G) none
theorem Qfd {ps P:List Int} {price:Int} {G:List (Int × List Int)} {k:Nat} (h:k < (qO P).length):pyK ps P price G (k+1)=ZI ps price G (pyK ps P price G k) ((qO P).getD k []):=by
  rw [pyK,List.take_succ_eq_append_getElem h,List.foldl_append]
  simp [pyK,List.getD_eq_getElem?_getD,h]
theorem QaD {ps P:List Int} {price:Int} {G:List (Int × List Int)} (hP:PuOk P) (hG:∀ q ∈ G,PuOk q.2):∀ (l:List (List Int)) (o:Option DL),(∀ x ∈ l,PuOk x)→(∀ q,o=some q→PuOk q.1∧PuOk q.2)→∀ q,l.foldl (ZI ps price G) o=some q→PuOk q.1∧PuOk q.2
  |[],o,_,ho,q,h=>ho q h
  |x :: l,o,hl,ho,q,h=>by
    rw [List.foldl_cons] at h
    refine QaD hP hG l _ (fun y hy=>hl y (List.mem_cons_of_mem _ hy)) (fun r hr=>?_) q h
    have hx:=hl x List.mem_cons_self
    unfold ZI at hr
    split at hr
    · exact ho r hr
    · rename_i y hy
      have hyy:=JC hy hG
      split at hr
      · rename_i b
        cases hr
        have hb:=ho b rfl
        unfold btr
        split
        · exact ⟨hx,hyy⟩
        · exact hb
      · cases hr;exact ⟨hx,hyy⟩
def pyL (h d:List Int):List (Nat × AV):=[(2,ql h),(3,ql d),(9,.ptr 0 0),(14,.ptr 1 0),(15,.ptr 3 0),(16,.ptr 4 0),(17,.ptr 5 0),(18,.ptr 6 0),(44,.clo 70 [.ptr 7 0])]
def pyC (ps:List Int) (price:Int) (G:List (Int × List Int)) (o:Option DL):List (Nat × AObj):=[(0,.cells [aI price]),(1,.cells [.sl (ps.map qp)]),(2,.map (QN G)),(3,.cells [.mp 2]),(4,.cells [.clo 43 []]),(5,.cells (jd o)),(6,.cells [aB o.isSome])]
theorem jF (P:List Int):kN [7] (8+1) 0 [.cells (P.map aI)]=[(7,.cells (P.map aI))]:=by simp [kN,qj,AObj.ren,ZB]
theorem yH (o:Option DL):AV.idsL (jd o)=[]:=by
  cases o with
  |none=>rfl
  |some q=>exact jl _
def QcB (l:Led) (c:Int) (h d:List Int) (n:Int):AV:=if jM l c n [h,d] ≠ 0 then .tup [.sl [],.sl [],aI (jM l c n [h,d])] else match (pyP (l.coins.getD c.toNat []) (pad h) (pad d) n).map (fun q=>(q.1.take h.length,q.2.take d.length)) with
  |none=>.tup [.sl [],.sl [],aI 11]
  |some q=>.tup [ql q.1,ql q.2,aI 0]
theorem QeT (h:Nat→Option AObj) (σ:Nat→Option Nat) (o:Option DL):AV.leL h σ (jd o) (jd o):=by
  cases o with
  |none=>simp [jd,AV.leL,AV.le,aI]
  |some q=>exact kY h σ (q.1++q.2)
def z4:List AV:=[.v (.int .i64 0),.v (.int .i64 0),.v (.int .i64 0),.v (.int .i64 0)]
theorem Qdm {x:List Int} (hx:x.length=4):(x.map aI++z4).length=8:=by simp [hx,z4]
theorem Qh3 {x y:List Int} (hx:x.length=4):(x.map aI++z4).take 4++y.map aI++(x.map aI++z4).drop 8=(x++y).map aI:=by
  rw [List.take_left' (by simp [hx]),List.drop_of_length_le (by rw [Qdm hx];exact Nat.le_refl _)];simp
theorem de_o {a b:List Int} (ha:a.length=4) (hb:b.length=4):((a++b).map aI).take 8=(a++b).map aI:=List.take_of_length_le (by simp [ha,hb])
def zC:=vj @ty3 (vj @ty4 (vj @QA (vj @jL (vj @xm (vj @QJ (vj @V7 (vj @ty87 (vj @ty92 (vj @ty93 (vj @ti3.eq_1 (vj @ti4.eq_1 (vj @kP.eq_1 (vj @jG.eq_1 (vj @vG.eq_1 (vj @Qe.eq_1 (vj @JE.eq_1 (vj @QcT.eq_1 (vj @Qcd.eq_1 @ti93.eq_1))))))))))))))))))
def yn:=vj @aI.eq_1 (vj @aB.eq_1 (vj @zL.eq_1 (vj @zh.eq_1 (vj @ql.eq_1 (vj @aPu.eq_1 (vj @c86.eq_1 (vj @c86.eq_2 (vj @yT (vj @jO (vj @qp.eq_1 (vj @Qn (vj @vH (vj @xC (vj @zH.eq_1 (@WE)))))))))))))))
set_option maxHeartbeats 4000000 in
theorem Qie (l:Led) (c:Int) (hand d:List Int) (price:Int) (hl:Fit l) (hh:hand.length≤20) (hd:d.length≤20):FnV Tryz.prog 15 [zL l,aI c,ql hand,ql d,aI price] (QcB l c hand d price):=by
  have env:Env (fun F=>F.r=none) Tryz.prog tyB (tab [(39,qo true c86),(42,fnE xQ),(40,qo true xY),(41,fnE xS),(45,fnE vR),(46,qo true c131),(47,qo true Zp)]):=qY ⟨d86,e88x,d125,e126,e130,d131,d132,trivial⟩
  refine Fn.of (A:=fun F=>F.r=none) (n0:=0) (D:=noD) (Fn0 Tryz.func15 rfl (fun vs w=>by kernel_rfl) (by kernel_rfl)) (by simp) (by simp [AV.ids,AV.idsL,aI,zL,zh,ql]) (fun i o h=>by cases h) (fun _ _ _ h=>h) qA ?_
  have hml:(20:Nat)≤maxLen:=by decide
  have q0:∀ p ∈ [hand,d],p.length≤maxLen:=fun p hp=>by
    simp at hp
    rcases hp with rfl|rfl <;> omega
  have q1:(2:Nat)≤maxLen:=by omega
  have dI1:zw [.sl (hand.map qp)]=hand:=vH hand
  have dI2:zw [.sl (d.map qp)]=d:=vH d
  by_cases h0:jM l c price [hand,d]=0
  · rw [show QcB l c hand d price=_ from if_neg (by rw [h0];simp)]
    obtain ⟨hV,⟨g1,g2⟩,hds,hn0,hn1⟩:=VI h0
    obtain ⟨hhl,hhb⟩:=hds hand (by simp)
    obtain ⟨hdl,hdb⟩:=hds d (by simp)
    obtain ⟨ps,hP⟩:∃ x,l.coins.getD c.toNat []=x:=⟨_,rfl⟩
    have hps:PsOk ps:=hP ▸ YL (hV.cs _ g2)
    rw [hP] at hdl hhl ⊢
    have hl1:=hps.l
    have hd0:0 < d.length:=by omega
    have hd4:d.length≤4:=by omega
    have hh0:0 < hand.length:=by omega
    have hh4:hand.length≤4:=by omega
    have hml4:4≤maxLen:=by omega
    have hpd:=Lr hd4 hdb
    have hph:=Lr hh4 hhb
    have hpc:PzOk ps:=⟨hl1.2,hps.b⟩
    obtain ⟨P,hPp⟩:∃ x,pad hand=x:=⟨_,rfl⟩
    rw [hPp] at hph ⊢
    obtain ⟨m,hm⟩:∃ m,Qav ps (pad d)=m:=⟨_,rfl⟩
    have hk:=Qaq ps (pad d) (qO (pad d)).length
    have hN:fwK ps (pad d) (qO (pad d)).length=m:=by rw [fwK,List.take_length];exact hm
    have hfw:=Qed (ps:=ps) hpd (qO (pad d)).length
    rw [hN] at hk hfw
    have hmk:=KO hk.1
    have hPl:=hph.len
    have tP:(P.map aI).take 4=P.map aI:=List.take_of_length_le (by simp [hPl])
    simp only [pyP,hm]
    repeat' (first|(apply nx;with_reducible constructor)|refine uq (by decide) ?_|((first|refine vx env fun Q hQ=>?_|refine vz fun Q hQ=>?_);simp only [vkt,seval,zC,yn,aDe,puL,pyL,pyC,xY,xS,vR,c131,Zp,xQ,mAD,wD,jF,zU,zT,xe,zx,MapKept.IsKey,List.length_map,jd.eq_1,jd.eq_2,hl,q0,q1,dI1,dI2,h0,g1,g2,hP,hd0,hd4,hh0,hh4,hml4,hpd,hph,hpc,hm,hmk,hPp,hPl,tP];(try simp only [ite_and]);(repeat' (first|with_reducible assumption|refine And.intro ?_ ?_|intro hp));all_goals (first|(refine hQ _ ?_;clear hQ Q)|(refine hQ _ (fun h=>?_) (fun h=>?_) <;> clear hQ Q <;> (try simp only [vki,reduceCtorEq] at h))|omega|assumption|with_reducible rfl|(apply yQ;(case hs=>(try simp only [vdt,List.map_cons,List.map_nil,List.append_nil,List.nil_append,List.isEmpty_nil,List.flatMap_nil,vk9,Vw,puL,yH,List.map_append]);rfl);kernel_rfl)|skip)))
    refine J7 (S':={ t:=asg (pyL hand d),h:=qc (pyC ps price m none++[(7,.cells (P.map aI))]),n:=8,j:=0,d:=[],m:=0 }) ?_ ?_
    · show Le _ { t:=asg [(2,ql hand),(3,ql d),(9,.ptr 0 0),(14,.ptr 1 0),(15,.ptr 3 0),(16,.ptr 4 0),(17,.ptr 5 0),(18,.ptr 6 0),(44,.clo 70 [.ptr 7 0])],h:=qc [(0,.cells [aI price]),(1,.cells [.sl (ps.map qp)]),(2,.map (QN m)),(3,.cells [.mp 2]),(4,.cells [.clo 43 []]),(5,.cells [aI 0,aI 0,aI 0,aI 0,aI 0,aI 0,aI 0,aI 0]),(6,.cells [aB false]),(7,.cells (P.map aI))],n:=8,j:=0,d:=[],m:=0 }
      (refine Le.ok (fun j=>if j=0 then some 1 else some (j+2)) [] ?_;constructor;all_goals (try simp only [vle,vkt,seval,zC,yn,aDe,puL,pyL,pyC,xY,xS,vR,c131,Zp,xQ,mAD,wD,jF,zU,zT,xe,zx,MapKept.IsKey,List.length_map,jd.eq_1,jd.eq_2]))
      all_goals first|rfl|(simp;done)
    rw [← jF P]
    refine Vi (L:=pyL hand d) (hs:=[7]) (n:=8) (nl:=0) (hc:=fun j=>pyC ps price m (pyK ps P price m j)) (Lp:=[.cells (P.map aI)]) (jj:=fun _=>0) (d:=[]) (ys:=ptY P) (hl:=fun _=>[.cells (P.map aI)]) (ans:=fun _=>true) (ex:=.ret) (caps:=[.ptr 7 0]) (caps0:=[.ptr 0 0]) (N:=(qO P).length) (R:=(qO P).length) (A':=fun _=>True) (fun F h=>h) (fun _ _=>trivial) rfl (Rk P hph) QbK (.inl rfl) ?_ ?_ ?_ rfl (by simp) ?_ (by simp) ?_ (fun j hj=>?_) ?_ (fun j hj=>?_) (fun _=>?_) (fun _ h=>by cases h)
    · simp [AV.leL,AV.le]
    · simp [AV.nocbL,AV.nocb]
    · simp [UU,AObj.nocb,QO,AObj.ids,jl,AObj.ren,ZB,AObj.le,kY]
    · simp [pyC,qc]
    · simp [UV,pyL,AV.ids,AV.idsL,ql]
    · refine ⟨?_,rfl, ?_, ?_,rfl, ?_⟩
      · simp [YV,pyC,AObj.ids,AV.ids,AV.idsL,jl,yH,aI,aB]
      · simp [Ud,AObj.nocb,QO,AObj.ids,jl]
      · simp [Qdh,ptY,aPu,AV.nocb,QO,AV.ids,jl]
      · simp [Vr,UA,jF,pyC,pyL,XM,AV.ids,AV.idsL,ADf.ids,List.range_zero,ql]
    · simp [YV,pyC,AObj.ids,AV.ids,AV.idsL,jl,yH,aI,aB]
    · have env:Env (fun _:Frm=>True) Tryz.prog tyB (tab [(39,qo true c86),(42,fnE xQ),(40,qo true xY),(41,fnE xS),(45,fnE vR),(46,qo true c131),(47,qo true Zp)]):=qY ⟨d86,e88x,d125,e126,e130,d131,d132,trivial⟩
      obtain ⟨x,hx⟩:∃ x,(qO P).getD j []=x:=⟨_,rfl⟩
      have hxm:x ∈ qO P:=hx ▸ jU hj
      have hxo:=ZE hph hxm
      have hxl:=hxo.len
      have tx:(x.map aI).take 4=x.map aI:=List.take_of_length_le (by simp [hxl])
      have hS:=Qfd (ps:=ps) (price:=price) (G:=m) hj
      rw [hx] at hS
      have hok:=QaD (ps:=ps) (price:=price) hph hfw ((qO P).take j) none (fun y hy=>ZE hph (List.mem_of_mem_take hy)) (fun q hq=>by cases hq)
      have hst:∀ o,wD (pyL hand d) [45] [7] 8 0 (ptY P j) (pyC ps price m o) [.cells (P.map aI)]={ t:=asg [(45,.agg (x.map aI)),(2,ql hand),(3,ql d),(9,.ptr 0 0),(14,.ptr 1 0),(15,.ptr 3 0),(16,.ptr 4 0),(17,.ptr 5 0),(18,.ptr 6 0),(44,.clo 70 [.ptr 7 0])],h:=qc [(8,.mark),(0,.cells [aI price]),(1,.cells [.sl (ps.map qp)]),(2,.map (QN m)),(3,.cells [.mp 2]),(4,.cells [.clo 43 []]),(5,.cells (jd o)),(6,.cells [aB o.isSome]),(7,.cells (P.map aI))],n:=9,m:=9 }:=fun o=>by
        simp only [wD,jF,ptY,hx,aPu,List.map_cons,List.map_nil,AV.ren,ZB,List.zip_cons_cons,List.zip_nil_right,pyC,pyL,Yt,List.cons_append,List.nil_append]
        rfl
      show Sym _ _ _ (wD (pyL hand d) [45] [7] 8 0 (ptY P j) (pyC ps price m (pyK ps P price m j)) [.cells (P.map aI)]) _
      rw [hst]
      change ∀ q,pyK ps P price m j=some q→_ at hok
      generalize pyK ps P price m j=o at *
      obtain ⟨n,hn⟩:∃ n,xF ps x - price=n:=⟨_,rfl⟩
      have hdb2:=Qan hpc.bd hxo.bd
      have wn:IntKind.wrap .i64 (xF ps x - price)=n:=by rw [← hn];exact wrap64 (by omega) (by omega)
      unfold ZI at hS
      rw [hn] at hS
      cases hg:kR m n with
      |none =>
        rw [hg] at hS
        simp only at hS
        repeat' (first|(apply nx;with_reducible constructor)|refine uq (by decide) ?_|((first|refine vx env fun Q hQ=>?_|refine vz fun Q hQ=>?_);simp only [vkt,seval,zC,yn,aDe,puL,pyL,pyC,xY,xS,vR,c131,Zp,xQ,mAD,wD,jF,zU,zT,xe,zx,MapKept.IsKey,List.length_map,jd.eq_1,jd.eq_2,hPl,hxl,tx,hxo,hpc,wn,hg,hmk];(try simp only [ite_and]);(repeat' (first|with_reducible assumption|refine And.intro ?_ ?_|intro hp));all_goals (first|(refine hQ _ ?_;clear hQ Q)|(refine hQ _ (fun h=>?_) (fun h=>?_) <;> clear hQ Q <;> (try simp only [vki,reduceCtorEq] at h))|omega|assumption|with_reducible rfl|(apply yQ;(case hs=>(try simp only [vdt,List.map_cons,List.map_nil,List.append_nil,List.nil_append,List.isEmpty_nil,List.flatMap_nil,vk9,Vw,puL,yH,List.map_append]);rfl);kernel_rfl)|skip)))
        refine ⟨rfl,rfl,some,_,RFin.ok some [] ?_⟩
        constructor
        all_goals (try simp only [vle,Yk,Jd,qj,vkt,seval,zC,yn,aDe,puL,pyL,pyC,xY,xS,vR,c131,Zp,xQ,mAD,wD,jF,zU,zT,xe,zx,MapKept.IsKey,List.length_map,jd.eq_1,jd.eq_2])
        all_goals first|rfl|(rw [hS];exact ⟨QeT _ _ _,rfl⟩)|(rw [hS];done)|(simp [hS];done)
      |some y =>
        rw [hg] at hS
        simp only at hS
        have hyo:=JC hg hfw
        have hyl:=hyo.len
        have ty:(y.map aI).take 4=y.map aI:=List.take_of_length_le (by simp [hyl])
        have txy:=de_o hxl hyl
        have dxy:dDe ((x++y).map aI)=(x,y):=Qbr hxl
        have lxy:(x++y).length=8:=by simp [hxl,hyl]
        have bl1:=Qdm hxl
        have bl2:=Qh3 (y:=y) hxl
        simp only [z4] at bl1 bl2
        cases ho:o with
        |none =>
          rw [ho] at hS
          simp only at hS
          have hoS:o.isSome=false:=by rw [ho];rfl
          repeat' (first|(apply nx;with_reducible constructor)|refine uq (by decide) ?_|((first|refine vx env fun Q hQ=>?_|refine vz fun Q hQ=>?_);simp only [vkt,seval,zC,yn,aDe,puL,pyL,pyC,xY,xS,vR,c131,Zp,xQ,mAD,wD,jF,zU,zT,xe,zx,MapKept.IsKey,List.length_map,jd.eq_1,jd.eq_2,hPl,hxl,tx,hxo,hpc,wn,hg,hmk,hyo,hyl,ty,txy,dxy,lxy,bl1,bl2,Option.isSome_none];(try simp only [ite_and]);(repeat' (first|with_reducible assumption|refine And.intro ?_ ?_|intro hp));all_goals (first|(refine hQ _ ?_;clear hQ Q)|(refine hQ _ (fun h=>?_) (fun h=>?_) <;> clear hQ Q <;> (try simp only [vki,reduceCtorEq] at h))|omega|assumption|with_reducible rfl|(apply yQ;(case hs=>(try simp only [vdt,List.map_cons,List.map_nil,List.append_nil,List.nil_append,List.isEmpty_nil,List.flatMap_nil,vk9,Vw,puL,yH,List.map_append]);rfl);kernel_rfl)|skip)))
          refine ⟨rfl,rfl,some,_,RFin.ok some [] ?_⟩
          constructor
          all_goals (try simp only [vle,Yk,Jd,qj,vkt,seval,zC,yn,aDe,puL,pyL,pyC,xY,xS,vR,c131,Zp,xQ,mAD,wD,jF,zU,zT,xe,zx,MapKept.IsKey,List.length_map,jd.eq_1,jd.eq_2])
          all_goals first|rfl|(rw [hS];exact ⟨kY _ _ _,rfl⟩)|(rw [hS];exact kY _ _ _)|(rw [hS];done)|(simp [hS];done)
        |some b =>
          rw [ho] at hS
          simp only at hS
          obtain ⟨hb1,hb2⟩:=hok b ho
          have lb:(b.1++b.2).length=8:=by simp [hb1.len,hb2.len]
          have tb:=de_o hb1.len hb2.len
          have db:dDe ((b.1++b.2).map aI)=b:=Qbr hb1.len
          obtain ⟨z,hz⟩:∃ z,btr Jp b (x,y)=z:=⟨_,rfl⟩
          have hzo:PuOk z.1∧PuOk z.2:=by rw [← hz];unfold btr;split <;> first|exact ⟨hxo,hyo⟩|exact ⟨hb1,hb2⟩
          have lz:(z.1++z.2).length=8:=by simp [hzo.1.len,hzo.2.len]
          have tz:=de_o hzo.1.len hzo.2.len
          have d8:(((b.1++b.2).map aI).drop 8)=[]:=List.drop_of_length_le (by simp [hb1.len,hb2.len])
          rw [hz] at hS
          repeat' (first|(apply nx;with_reducible constructor)|refine uq (by decide) ?_|((first|refine vx env fun Q hQ=>?_|refine vz fun Q hQ=>?_);simp only [vkt,seval,zC,yn,aDe,puL,pyL,pyC,xY,xS,vR,c131,Zp,xQ,mAD,wD,jF,zU,zT,xe,zx,MapKept.IsKey,List.length_map,jd.eq_1,jd.eq_2,hPl,hxl,tx,hxo,hpc,wn,hg,hmk,hyo,hyl,ty,txy,dxy,lxy,bl1,bl2,hb1,hb2,tb,db,lb,hz,lz,tz,d8,Option.isSome_some];(try simp only [ite_and]);(repeat' (first|with_reducible assumption|refine And.intro ?_ ?_|intro hp));all_goals (first|(refine hQ _ ?_;clear hQ Q)|(refine hQ _ (fun h=>?_) (fun h=>?_) <;> clear hQ Q <;> (try simp only [vki,reduceCtorEq] at h))|omega|assumption|with_reducible rfl|(apply yQ;(case hs=>(try simp only [vdt,List.map_cons,List.map_nil,List.append_nil,List.nil_append,List.isEmpty_nil,List.flatMap_nil,vk9,Vw,puL,yH,List.map_append]);rfl);kernel_rfl)|skip)))
          refine ⟨rfl,rfl,some,_,RFin.ok some [] ?_⟩
          constructor
          all_goals (try simp only [vle,Yk,Jd,qj,vkt,seval,zC,yn,aDe,puL,pyL,pyC,xY,xS,vR,c131,Zp,xQ,mAD,wD,jF,zU,zT,xe,zx,MapKept.IsKey,List.length_map,jd.eq_1,jd.eq_2])
          all_goals first|rfl|(rw [hS];exact ⟨kY _ _ _,rfl⟩)|(rw [hS];exact kY _ _ _)|(rw [hS];done)|(simp [hS];done)
    · have hN2:pyK ps P price m (qO P).length=(qO P).foldl (ZI ps price m) none:=by rw [pyK,List.take_length]
      have hokE:=QaD (ps:=ps) (price:=price) hph hfw (qO P) none (fun y hy=>ZE hph hy) (fun q hq=>by cases hq)
      rw [jF]
      simp only [pyC,hN2]
      generalize (qO P).foldl (ZI ps price m) none=o at *
      cases o with
      |none =>
        repeat' (first|(apply nx;with_reducible constructor)|refine uq (by decide) ?_|((first|refine vx env fun Q hQ=>?_|refine vz fun Q hQ=>?_);simp only [vkt,seval,zC,yn,aDe,puL,pyL,pyC,xY,xS,vR,c131,Zp,xQ,mAD,wD,jF,zU,zT,xe,zx,MapKept.IsKey,List.length_map,jd.eq_1,jd.eq_2,Option.isSome_none];(try simp only [ite_and]);(repeat' (first|with_reducible assumption|refine And.intro ?_ ?_|intro hp));all_goals (first|(refine hQ _ ?_;clear hQ Q)|(refine hQ _ (fun h=>?_) (fun h=>?_) <;> clear hQ Q <;> (try simp only [vki,reduceCtorEq] at h))|omega|assumption|with_reducible rfl|(apply yQ;(case hs=>(try simp only [vdt,List.map_cons,List.map_nil,List.append_nil,List.nil_append,List.isEmpty_nil,List.flatMap_nil,vk9,Vw,puL,yH,List.map_append]);rfl);kernel_rfl)|skip)))
        show U7 tyB noD Tryz.f15 (fun S rv=>Fin S rv (.tup [.sl [],.sl [],aI 11]) 0 noH 0) Exit.ret _
        (simp only [vrt,Tryz.results15,vkt,seval,zC,yn,aDe,puL,pyL,pyC,xY,xS,vR,c131,Zp,xQ,mAD,wD,jF,zU,zT,xe,zx,MapKept.IsKey,List.length_map,jd.eq_1,jd.eq_2];refine Fin.val rfl ?_;(try simp only [AV.le,AV.leL]))
        all_goals first|rfl|(simp;done)
      |some q =>
        obtain ⟨hq1,hq2⟩:=hokE q rfl
        have lq:(q.1++q.2).length=8:=by simp [hq1.len,hq2.len]
        have hq1l:=hq1.len
        have hq2l:=hq2.len
        have hh4':(hand.length:Int)≤4:=by omega
        have hd4':(d.length:Int)≤4:=by omega
        have hh5:hand.length≤100000:=by omega
        have hd5:d.length≤100000:=by omega
        have tq1:((q.1++q.2).map aI).take hand.length=(q.1.take hand.length).map aI:=by rw [List.map_append,List.take_append_of_le_length (by simp;omega),List.map_take]
        have tq2:(((q.1++q.2).map aI).drop 4).take d.length=(q.2.take d.length).map aI:=by rw [List.map_append,List.drop_left' (by simp [hq1l]),List.map_take]
        repeat' (first|(apply nx;with_reducible constructor)|refine uq (by decide) ?_|((first|refine vx env fun Q hQ=>?_|refine vz fun Q hQ=>?_);simp only [vkt,seval,zC,yn,aDe,puL,pyL,pyC,xY,xS,vR,c131,Zp,xQ,mAD,wD,jF,zU,zT,xe,zx,MapKept.IsKey,List.length_map,jd.eq_1,jd.eq_2,hh0,hh4,hh4',hh5,hd0,hd4,hd4',hd5,hml4,lq,tq1,tq2,Option.isSome_some];(try simp only [ite_and]);(repeat' (first|with_reducible assumption|refine And.intro ?_ ?_|intro hp));all_goals (first|(refine hQ _ ?_;clear hQ Q)|(refine hQ _ (fun h=>?_) (fun h=>?_) <;> clear hQ Q <;> (try simp only [vki,reduceCtorEq] at h))|omega|assumption|with_reducible rfl|(apply yQ;(case hs=>(try simp only [vdt,List.map_cons,List.map_nil,List.append_nil,List.nil_append,List.isEmpty_nil,List.flatMap_nil,vk9,Vw,puL,yH,List.map_append]);rfl);kernel_rfl)|skip)))
        all_goals first|exact Qbz ‹_› ‹_›|exact ⟨_,_,rfl,by simp [hq1l,hq2l];omega,by rw [tq1];exact Kw _,(LP _).symm⟩|exact ⟨_,_,rfl,by simp [hq1l,hq2l];omega,by rw [tq2];exact Kw _,(LP _).symm⟩|(simp [hq1l,hq2l];omega)|skip
        show U7 tyB noD Tryz.f15 (fun S rv=>Fin S rv (.tup [ql (q.1.take hand.length),ql (q.2.take d.length),aI 0]) 0 noH 0) Exit.ret _
        (simp only [vrt,Tryz.results15,vkt,seval,zC,yn,aDe,puL,pyL,pyC,xY,xS,vR,c131,Zp,xQ,mAD,wD,jF,zU,zT,xe,zx,MapKept.IsKey,List.length_map,jd.eq_1,jd.eq_2];refine Fin.val rfl ?_;(try simp only [AV.le,AV.leL]))
        all_goals first|rfl|(simp;done)|exact ⟨⟨_,_,rfl⟩,⟨_,_,rfl⟩,trivial,trivial⟩|(simp [upd];done)
  · rw [show QcB l c hand d price=_ from if_pos h0]
    have hne:decide (jM l c price [hand,d]=0)=false:=decide_eq_false h0
    repeat' (first|(apply nx;with_reducible constructor)|refine uq (by decide) ?_|((first|refine vx env fun Q hQ=>?_|refine vz fun Q hQ=>?_);simp only [vkt,seval,zC,yn,aDe,puL,pyL,pyC,xY,xS,vR,c131,Zp,xQ,mAD,wD,jF,zU,zT,xe,zx,MapKept.IsKey,List.length_map,jd.eq_1,jd.eq_2,hl,q0,q1,dI1,dI2,hne];(try simp only [ite_and]);(repeat' (first|with_reducible assumption|refine And.intro ?_ ?_|intro hp));all_goals (first|(refine hQ _ ?_;clear hQ Q)|(refine hQ _ (fun h=>?_) (fun h=>?_) <;> clear hQ Q <;> (try simp only [vki,reduceCtorEq] at h))|omega|assumption|with_reducible rfl|(apply yQ;(case hs=>(try simp only [vdt,List.map_cons,List.map_nil,List.append_nil,List.nil_append,List.isEmpty_nil,List.flatMap_nil,vk9,Vw,puL,yH,List.map_append]);rfl);kernel_rfl)|skip)))
    (simp only [vrt,Tryz.results15,vkt,seval,zC,yn,aDe,puL,pyL,pyC,xY,xS,vR,c131,Zp,xQ,mAD,wD,jF,zU,zT,xe,zx,MapKept.IsKey,List.length_map,jd.eq_1,jd.eq_2];refine Fin.val rfl ?_;(try simp only [AV.le,AV.leL]))
    all_goals first|rfl|(simp;done)
end Go.Sym.B
namespace Go.Sym.B
open Go Go.Sym Go.Proofs Go.Sym.C
def ltR (r:Int→Int) (x y:Int):Prop:=r y < r x∨(r y=r x∧x < y)
def Has (l:List Int) (x:Int):Prop:=∃ i,i < l.length∧l.getD i 0=x
structure SoK (r:Int→Int) (n k:Nat) (l:List Int):Prop where
  len:l.length=n
  so:∀ a b,a < b→b≤k→ltR r (l.getD a 0) (l.getD b 0)
  keep:∀ i,k < i→i < n→l.getD i 0=i
  lo:∀ a,a≤k→0≤l.getD a 0∧l.getD a 0≤k
  has:∀ i:Nat,i < n→Has l i
end Go.Sym.B
namespace Go.Sym.B
open Go Go.Sym Go.Proofs Go.Sym.C
end Go.Sym.B
namespace Go.Sym.B
open Go Go.Sym Go.Proofs Go.Sym.C
end Go.Sym.B
namespace Go.Sym.B
open Go Go.Sym Go.Proofs Go.Sym.C
end Go.Sym.B
namespace Go.Sym.B
open Go Go.Sym Go.Proofs Go.Sym.C
def esT (r:List Sh) (k:Nat):St:={ t:=asg [(0,J5 r),(1,J5 r),(4,aB false),(5,aI k)],h:=qc [],n:=0 }
def wy:=vj @ty3 (vj @JP (vj @Wt (vj @ti3.eq_1 (vj @Wu.eq_1 @Zo.eq_1))))
def Wp:=vj @aI.eq_1 (vj @aB.eq_1 (vj @J5.eq_1 (vj @esT.eq_1 (vj @gSh (@eSh.eq_1)))))
theorem Qe9 (r:List Sh) (hl:r.length≤maxLen):FnV Tryz.prog 11 [J5 r,J5 r] (aB true):=by
  have env:Env (fun _=>True) Tryz.prog tyB (tab []):=qY trivial
  refine Fn.of (A:=fun _=>True) (n0:=0) (D:=noD) (Fn0 Tryz.func11 rfl (fun vs w=>by kernel_rfl) (by kernel_rfl)) (by simp) (by simp [AV.ids,AV.idsL,J5]) (fun i o h=>by cases h) (fun _ _ _ _=>trivial) qA ?_
  have zn:∀ n:Int,decide (n=n)=true:=fun n=>decide_eq_true rfl
  repeat' (first|(apply nx;with_reducible constructor)|refine uq (by decide) ?_|((first|refine vx env fun Q hQ=>?_|refine vz fun Q hQ=>?_);simp only [vkt,seval,wy,Wp,zn];(try simp only [ite_and]);(repeat' (first|with_reducible assumption|refine And.intro ?_ ?_|intro hp));all_goals (first|(refine hQ _ ?_;clear hQ Q)|(refine hQ _ (fun h=>?_) (fun h=>?_) <;> clear hQ Q <;> (try simp only [vki,reduceCtorEq] at h))|omega|assumption|with_reducible rfl|(refine vq ?_;kernel_rfl)|skip)))
  refine qz (fun k:{ k:Nat // k≤r.length }=>esT r k.1) (fun k=>r.length - k.1) ⟨0,Nat.zero_le _⟩ ?_ fun ⟨k,hk⟩=>?_
  · (refine Le.ok some [] ?_;constructor;all_goals (try simp only [vle,vkt,seval,wy,Wp]))
    all_goals first|rfl|(simp;done)
  · by_cases hlt:k < r.length
    · have d1:decide ((k:Int) < (r.length:Int))=true:=decide_eq_true (by omega)
      have e9:=zt hlt hl
      repeat' (first|(apply nx;with_reducible constructor)|refine uq (by decide) ?_|((first|refine vx env fun Q hQ=>?_|refine vz fun Q hQ=>?_);simp only [vkt,seval,wy,Wp,d1,e9,zn];(try simp only [ite_and]);(repeat' (first|with_reducible assumption|refine And.intro ?_ ?_|intro hp));all_goals (first|(refine hQ _ ?_;clear hQ Q)|(refine hQ _ (fun h=>?_) (fun h=>?_) <;> clear hQ Q <;> (try simp only [vki,reduceCtorEq] at h))|omega|assumption|with_reducible rfl|(refine vq ?_;kernel_rfl)|skip)))
      refine ⟨⟨k+1,hlt⟩,by show r.length - (k+1) < r.length - k;omega, ?_⟩
      (refine Le.ok some [] ?_;constructor;all_goals (try simp only [vle,vkt,seval,wy,Wp]))
      all_goals first|rfl|(simp;done)
    · have d1:decide ((k:Int) < (r.length:Int))=false:=decide_eq_false (by omega)
      repeat' (first|(apply nx;with_reducible constructor)|refine uq (by decide) ?_|((first|refine vx env fun Q hQ=>?_|refine vz fun Q hQ=>?_);simp only [vkt,seval,wy,Wp,d1];(try simp only [ite_and]);(repeat' (first|with_reducible assumption|refine And.intro ?_ ?_|intro hp));all_goals (first|(refine hQ _ ?_;clear hQ Q)|(refine hQ _ (fun h=>?_) (fun h=>?_) <;> clear hQ Q <;> (try simp only [vki,reduceCtorEq] at h))|omega|assumption|with_reducible rfl|(refine vq ?_;kernel_rfl)|skip)))
      (simp only [vrt,Tryz.results11,vkt,seval,wy,Wp];refine Fin.val rfl ?_;(try simp only [AV.le,AV.leL]))
      all_goals first|rfl|(simp;done)
def c57:List AV→Prop × AV
  |[.sl xs,.sl ys]=>(ys=xs∧xs=(xs.map dSh).map eSh∧xs.length≤100000,aB true)
  |_=>(False,.junk)
theorem d57 {A:Frm→Prop}:qh A Tryz.prog 11 (qo true c57):=qL fun vs hv h=>by
  clear hv
  unfold c57 at h ⊢
  split at h
  · rename_i xs ys
    obtain ⟨h1,h2,h3⟩:=h
    refine ⟨by simp [AV.plain,aB],fun _=>by simp [AV.flat,aB], ?_⟩
    have:=Qe9 (xs.map dSh) (by
        rw [List.length_map];have:(100000:Nat)≤maxLen:=by decide
        omega)
    simp only [J5,← h2] at this
    rw [h1];exact this
  · exact h.elim
end Go.Sym.B
namespace Go.Sym.B
open Go Go.Sym Go.Proofs Go.Sym.C Go.RowKit
def TabT (w : World) : Prop := Lib.TabIs Tryz.prog w "internal/strconv.uint64pow10" .u64 Lib.pow10Tab
def aS (s:List UInt8):AV:=.v (.string ⟨⟨s⟩⟩)
def wP (l:List (List UInt8)):AV:=.sl (l.map wT)
def yS:List DV→List UInt8
  |[.v (.string ⟨⟨s⟩⟩)]=>s
  |_=>[]
theorem mStr (l:List (List UInt8)):(l.map wT).map yS=l:=by rw [List.map_map];exact (List.map_congr_left fun _ _=>rfl).trans (List.map_id _)
theorem xJ (l:List (List UInt8)):zX 1 (l.map wT)=True:=vk (f:=wT) (k:=1) (fun _=>rfl) l
def dg (n:Int):List UInt8:=Lib.itoa n
theorem ZY {n:Int} (h0:0≤n) (h1:n < 1000):(dg n).length≤3:=by
  unfold dg Lib.itoa
  rw [if_neg (by omega),Lib.decDigits_length]
  have h:n.toNat < 1000:=by omega
  by_cases h2:n.toNat < 10
  · rw [Lib.nDigits_small h2];decide
  · by_cases h3:n.toNat < 100
    · rw [Lib.nDigits_unique 1 _ (by omega) (by omega)];decide
    · rw [Lib.nDigits_unique 2 _ (by omega) (by omega)];decide
def jnd (w:List UInt8) (l:List Int):List UInt8:=w++l.flatMap fun n=>32 :: dg n
theorem QfQ (w:List UInt8):jnd w []=w:=by simp [jnd]
theorem QdW (w:List UInt8) (l:List Int) {k:Nat} (h:k < l.length):jnd w (l.take (k+1))=jnd w (l.take k)++([32]++dg (l.getD k 0)):=by
  unfold jnd
  rw [List.take_add_one,List.getElem?_eq_getElem h,List.flatMap_append]
  simp [List.getD_eq_getElem?_getD,h]
theorem Qaw {α:Type} (f:α→List UInt8) (m:Nat):∀ (l:List α),(∀ x ∈ l,(f x).length≤m)→(l.flatMap f).length≤l.length * m
  |[],_=>by simp
  |x :: l,h=>by
    have h1:=Qaw f m l fun y hy=>h y (.tail _ hy)
    have h2:=h x (.head _)
    rw [List.flatMap_cons,List.length_append,List.length_cons,Nat.succ_mul]
    omega
theorem QZ (w:List UInt8) (l:List Int) (h:∀ n ∈ l,0≤n∧n < 1000):(jnd w l).length≤w.length+l.length * 4:=by
  unfold jnd
  rw [List.length_append]
  have:=Qaw (fun n=>32 :: dg n) 4 l fun n hn=>by have:=ZY (h n hn).1 (h n hn).2;simp;omega
  omega
def Zm (r:List Sh):List UInt8:=[114,97,116,101,115]++r.flatMap fun s=>[32]++dg s.num++[47]++dg s.den
theorem QaQ (r:List Sh) {k:Nat} (h:k < r.length):Zm (r.take (k+1))=Zm (r.take k)++([32]++dg (r.getD k default).num++[47]++dg (r.getD k default).den):=by
  unfold Zm
  rw [List.take_add_one,List.getElem?_eq_getElem h,List.flatMap_append]
  simp [List.getD_eq_getElem?_getD,h]
theorem XD (r:List Sh) (h:∀ s ∈ r,(0≤s.num∧s.num < 1000)∧0≤s.den∧s.den < 1000):(Zm r).length≤5+r.length * 8:=by
  unfold Zm
  rw [List.length_append]
  have:=Qaw (fun s:Sh=>[32]++dg s.num++[47]++dg s.den) 8 r fun s hs=>by
    have h1:=ZY (h s hs).1.1 (h s hs).1.2
    have h2:=ZY (h s hs).2.1 (h s hs).2.2
    simp;omega
  simp at this ⊢;omega
def Xg (k:Int):List UInt8:=if k=1 then [116,97,107,101] else if k=2 then [112,97,121] else if k=3 then [115,119,97,112] else if k=4 then [99,111,117,110,116] else []
def Uo (x:Ent):List UInt8:=if x.kind=3 then jnd (jnd (dg x.day++[32]++Xg x.kind) [x.coin,x.amount]) [x.to,x.got] else jnd (dg x.day++[32]++Xg x.kind) [x.coin,x.amount]
def Jw (l:Led) (k:Nat):List (List UInt8):=(l.coins.take k).map (jnd [99,111,105,110])
def WK (l:Led) (k:Nat):List (List UInt8):=Jw l l.coins.length++(l.rates.take k).map fun r=>Zm (r.drop 1)
def Q5 (l:Led) (k:Nat):List (List UInt8):=WK l l.rates.length++[jnd [115,116,97,114,116] l.start]++(l.entries.take k).map Uo
def QT (l:Led):List UInt8 × Int:=if zB l=0 then (Lib.join (Q5 l l.entries.length++[[98,97,108,97,110,99,101]]) [10]++[10],0) else ([],zB l)
theorem QeK (sep:List UInt8) (m:Nat):∀ l:List (List UInt8),(∀ x ∈ l,x.length≤m)→(Lib.joinTail sep l).length≤l.length * (m+sep.length)
  |[],_=>by simp [Lib.joinTail]
  |x :: l,h=>by
    have h1:=QeK sep m l fun y hy=>h y (.tail _ hy)
    have h2:=h x (.head _)
    have e:Lib.joinTail sep (x :: l)=sep++x++Lib.joinTail sep l:=by simp [Lib.joinTail]
    rw [e,List.length_append,List.length_append,List.length_cons,Nat.succ_mul]
    omega
theorem Qh5 {l:List (List UInt8)} {sep:List UInt8} {m:Nat} (h:∀ x ∈ l,x.length≤m):(Lib.join l sep).length≤l.length * (m+sep.length):=by
  match l,h with
  |[],_=>rw [Lib.join_nil];exact Nat.zero_le _
  |x :: l,h =>
    have h1:=QeK sep m l fun y hy=>h y (.tail _ hy)
    have h2:=h x (.head _)
    rw [Lib.join_cons,List.length_append,List.length_cons,Nat.succ_mul]
    omega
theorem Qf2 (n:Int) (h0:-9223372036854775808≤n) (h1:n≤9223372036854775807):Fn (VX TabT) Tryz.prog 53 [aI n] noH (aS (dg n)) noH 0:=Fn.of_callsT (fun vs w=>by kernel_rfl) rfl fun w ok ρ y vs hT _ hs ha=>by
  obtain ⟨v,rfl⟩:∃ v,vs=#[v]:=by
    match vs,hs with
    |⟨[v]⟩,_=>exact ⟨v,rfl⟩
  have h2:=ha 0 _ rfl
  have h2:ARel w ok ρ y (.v (.int .i64 n)) v:=h2
  cases h2 with
  |v _ =>
    refine vg (Tryz.strconv_Itoa n h0 h1 w hT) fun e w' ⟨he,k,os,hw⟩=>⟨he, ?_⟩
    rw [hw];exact Lib.below_grow _ _ (Nat.le_refl _) _ _
theorem QfR (l:List (List UInt8)) (sep:List UInt8) (h1:l.length≤100000) (h2:(Lib.join l sep).length≤140737488355328):FnV Tryz.prog 55 [wP l,aS sep] (aS (Lib.join l sep)):=Fn.of_calls (fun vs w=>by kernel_rfl) rfl fun w ok ρ y vs _ hs ha=>by
  obtain ⟨v,u,rfl⟩:∃ v u,vs=#[v,u]:=by
    match vs,hs with
    |⟨[v,u]⟩,_=>exact ⟨v,u,rfl⟩
  have h3:ARel w ok ρ y (aS sep) u:=ha 1 _ rfl
  have h4:=QgQ (show ARel w ok ρ y (.sl (l.map wT)) v from ha 0 _ rfl)
  unfold aS at h3
  cases h3 with
  |v _ =>
    rcases h4 with ⟨rfl,a,c,rfl⟩|⟨b,o,c,rfl,hp,hc,hm,hb,hcell⟩
    · exact vg (Tryz.strings_Join_none a c ⟨⟨sep⟩⟩ w) fun e w' ⟨he,hw⟩=>⟨he,by rw [hw];exact Below.refl _ _⟩
    · have e1:(l.map fun s=>(⟨⟨s⟩⟩:ByteArray)).map (·.data.toList)=l:=by rw [List.map_map];exact (List.map_congr_left fun _ _=>rfl).trans (List.map_id _)
      have:=Tryz.strings_Join b o c (l.map fun s=>(⟨⟨s⟩⟩:ByteArray)) ⟨⟨sep⟩⟩ w (fun j x hx=>by
        rw [List.getElem?_map] at hx
        obtain ⟨s,hs,rfl⟩:=Option.map_eq_some_iff.1 hx
        exact hcell j s hs) hb (by simp;omega) (by simp;omega) (by rw [e1];exact h2)
      rw [e1] at this
      simp only [List.length_map] at this
      exact this
def wW:List AV→Prop × AV
  |[.v (.int .i64 n)]=>(-9223372036854775808≤n∧n≤9223372036854775807,aS (dg n))
  |_=>(False,.junk)
theorem Qg6:qh (YA TabT) Tryz.prog 53 (qo true wW):=K3 fun vs hv h=>by
  clear hv
  unfold wW at h ⊢
  split at h
  · rename_i n;obtain ⟨k0,k1⟩:=h
    refine ⟨by first|trivial|(simp [AV.plain,AV.plainL,aI,aB,ql,aBunks,aTks,aBunk,aTk,cTk,aS,wP];done)|(repeat' split) <;> simp [AV.plain,AV.plainL,aI,aB,ql,aBunks,aTks,aBunk,aTk,cTk,aS,wP],fun _=>(by simp [AV.flat,AV.flatL,aI,aB,aS]), ?_⟩
    have:=Qf2 n k0 k1
    simp only [aI] at this
    first|exact this|(simp only [aI];exact this)
  · exact h.elim
def jK:List AV→Prop × AV
  |[.sl l,.v (.string ⟨⟨s⟩⟩)]=>(l=(l.map yS).map wT∧(l.map yS).length≤100000∧(Lib.join (l.map yS) s).length≤140737488355328,aS (Lib.join (l.map yS) s))
  |_=>(False,.junk)
theorem ejoin {A:Frm→Prop}:qh A Tryz.prog 55 (qo true jK):=qL fun vs hv h=>by
  clear hv
  unfold jK at h ⊢
  split at h
  · rename_i l s;obtain ⟨q0,k0,k1⟩:=h
    refine ⟨by first|trivial|(simp [AV.plain,AV.plainL,aI,aB,ql,aBunks,aTks,aBunk,aTk,cTk,aS,wP];done)|(repeat' split) <;> simp [AV.plain,AV.plainL,aI,aB,ql,aBunks,aTks,aBunk,aTk,cTk,aS,wP],fun _=>(by simp [AV.flat,AV.flatL,aI,aB,aS]), ?_⟩
    have:=QfR (l.map yS) s k0 k1
    simp only [aS,wP,← q0] at this
    first|exact this|(simp only [aS,wP,← q0];exact this)
  · exact h.elim
def jnS (w:List UInt8) (l:List Int) (k:Nat):St:={ t:=asg [(0,aS (jnd w (l.take k))),(7,.sl (l.map qp)),(8,aI l.length),(9,aI k)],h:=qc [],n:=0 }
def yG:=vj @ty3 (vj @ty9 (vj @jL (vj @ti3.eq_1 (vj @ti9.eq_1 @jG.eq_1))))
def Wj:=vj @aI.eq_1 (vj @aB.eq_1 (vj @ql.eq_1 (vj @qp.eq_1 (@Qn))))
theorem Qcx (w:List UInt8) (l:List Int) (hw:w.length≤10000) (hl:l.length≤100) (hn:∀ n ∈ l,0≤n∧n < 1000):Fn (VX TabT) Tryz.prog 52 [aS w,ql l] noH (aS (jnd w l)) noH 0:=by
  have env:Env (YA TabT) Tryz.prog tyB (tab [(53,qo true wW)]):=qY ⟨Qg6,trivial⟩
  refine Fn.of (A:=YA TabT) (n0:=0) (D:=noD) (Fn0 Tryz.func52 rfl (fun vs w=>by kernel_rfl) (by kernel_rfl)) (by simp) (by simp [AV.ids,ql,aS]) (fun i o h=>by cases h) (fun _ hB _ _=>hB) qA ?_
  have hmx:(100:Nat)≤maxLen:=by decide
  repeat' (first|(apply nx;with_reducible constructor)|refine uq (by decide) ?_|((first|refine vx env fun Q hQ=>?_|refine vz fun Q hQ=>?_);simp only [vkt,seval,yG,Wj,aS,wW,jnS];(try simp only [ite_and]);(repeat' (first|with_reducible assumption|refine And.intro ?_ ?_|intro hp));all_goals (first|(refine hQ _ ?_;clear hQ Q)|(refine hQ _ (fun h=>?_) (fun h=>?_) <;> clear hQ Q <;> (try simp only [vki,reduceCtorEq] at h))|(refine vq ?_;kernel_rfl)|omega|assumption|with_reducible rfl|skip)))
  refine qz (fun s:{ s:Nat // s≤l.length }=>jnS w l s.1) (fun s=>l.length - s.1) ⟨0,Nat.zero_le _⟩ ?_ fun ⟨k,hk⟩=>?_
  · simp only [jnS,List.take_zero,QfQ]
    (refine Le.ok some [] ?_;constructor;all_goals (try simp only [vle,vkt,seval,yG,Wj,aS,wW,jnS]))
    all_goals first|rfl|(simp;done)
  simp only at hk ⊢
  have hj:=QZ w (l.take k) fun n hm=>hn n (List.mem_of_mem_take hm)
  have hj2:(l.take k).length≤100:=by simp;omega
  by_cases hlt:k < l.length
  · have d1:decide ((k:Int) < (l.length:Int))=true:=decide_eq_true (by omega)
    have e9:IntKind.wrap .i64 ((k:Int)+1)=((k+1:Nat):Int):=by rw [wrap64 (by omega) (by omega)];rfl
    have hS:=QdW w l hlt
    have hx:=Qn l k
    have hb:=hn _ (jU (d:=0) hlt)
    generalize l.getD k 0=n at hx hb hS
    have hd:=ZY hb.1 hb.2
    obtain ⟨W,hW⟩:∃ W,jnd w (l.take k)=W:=⟨_,rfl⟩
    rw [hW] at hS hj
    simp only [jnS,hW]
    have b0:-9223372036854775808≤n:=by omega
    have b1:n≤9223372036854775807:=by omega
    have b2:[(32:UInt8)].length+(dg n).length≤9223372036854775807:=by simp;omega
    have b3:W.length+([(32:UInt8)]++dg n).length≤9223372036854775807:=by simp;omega
    repeat' (first|(apply nx;with_reducible constructor)|refine uq (by decide) ?_|((first|refine vx env fun Q hQ=>?_|refine vz fun Q hQ=>?_);simp only [vkt,seval,yG,Wj,aS,wW,jnS,d1,e9,hx,b2,b3];(try simp only [ite_and]);(repeat' (first|with_reducible assumption|refine And.intro ?_ ?_|intro hp));all_goals (first|(refine hQ _ ?_;clear hQ Q)|(refine hQ _ (fun h=>?_) (fun h=>?_) <;> clear hQ Q <;> (try simp only [vki,reduceCtorEq] at h))|(refine vq ?_;kernel_rfl)|omega|assumption|with_reducible rfl|skip)))
    refine ⟨⟨k+1,hlt⟩,by show l.length - (k+1) < l.length - k;omega, ?_⟩
    simp only [jnS,hS]
    (refine Le.ok some [] ?_;constructor;all_goals (try simp only [vle,vkt,seval,yG,Wj,aS,wW,jnS]))
    all_goals first|rfl|(simp;done)
  · have d1:decide ((k:Int) < (l.length:Int))=false:=decide_eq_false (by omega)
    obtain rfl:k=l.length:=by omega
    simp only [jnS,List.take_length]
    repeat' (first|(apply nx;with_reducible constructor)|refine uq (by decide) ?_|((first|refine vx env fun Q hQ=>?_|refine vz fun Q hQ=>?_);simp only [vkt,seval,yG,Wj,aS,wW,jnS,d1];(try simp only [ite_and]);(repeat' (first|with_reducible assumption|refine And.intro ?_ ?_|intro hp));all_goals (first|(refine hQ _ ?_;clear hQ Q)|(refine hQ _ (fun h=>?_) (fun h=>?_) <;> clear hQ Q <;> (try simp only [vki,reduceCtorEq] at h))|(refine vq ?_;kernel_rfl)|omega|assumption|with_reducible rfl|skip)))
    (simp only [vrt,Tryz.results52,vkt,seval,yG,Wj,aS,wW,jnS];refine Fin.val rfl ?_;(try simp only [AV.le,AV.leL]))
    all_goals first|rfl|(simp;done)
def zS:List AV→Prop × AV
  |[.v (.string ⟨⟨w⟩⟩),.sl l]=>(l=(l.map qJ).map qp∧w.length≤10000∧(l.map qJ).length≤100∧∀ n ∈ (l.map qJ),0≤n∧n < 1000,aS (jnd w (l.map qJ)))
  |_=>(False,.junk)
theorem Qgj:qh (YA TabT) Tryz.prog 52 (qo true zS):=K3 fun vs hv h=>by
  clear hv
  unfold zS at h ⊢
  split at h
  · rename_i w l;obtain ⟨q0,k0,k1,k2⟩:=h
    refine ⟨by first|trivial|(simp [AV.plain,AV.plainL,aI,aB,ql,aBunks,aTks,aBunk,aTk,cTk,aS,wP];done)|(repeat' split) <;> simp [AV.plain,AV.plainL,aI,aB,ql,aBunks,aTks,aBunk,aTk,cTk,aS,wP],fun _=>(by simp [AV.flat,AV.flatL,aI,aB,aS]), ?_⟩
    have:=Qcx w (l.map qJ) k0 k1 k2
    simp only [ql,aS,← q0] at this
    first|exact this|(simp only [ql,aS,← q0];exact this)
  · exact h.elim
end Go.Sym.B
namespace Go.Sym.B
open Go Go.Sym Go.Proofs Go.Sym.C
structure TxOk (l:Led):Prop where
  c:l.coins.length≤4
  cs:∀ p ∈ l.coins,p.length≤4∧∀ n ∈ p,0≤n∧n < 1000
  r:l.rates.length≤4
  rs:∀ r ∈ l.rates,(1≤r.length∧r.length≤4)∧∀ s ∈ r,(0≤s.num∧s.num < 1000)∧0≤s.den∧s.den < 1000
  s:l.start.length≤4∧∀ n ∈ l.start,0≤n∧n < 1000
  e:l.entries.length≤6
  es:∀ x ∈ l.entries,(1≤x.kind∧x.kind≤4)∧(0≤x.day∧x.day < 1000)∧(0≤x.coin∧x.coin < 1000)∧(0≤x.amount∧x.amount < 1000)∧(x.kind=3→(0≤x.to∧x.to < 1000)∧0≤x.got∧x.got < 1000)
theorem QfO {r:List Sh} {n:Int} (h:vN r n=0):(r.length:Int)=n∧∀ s ∈ r,(0≤s.num∧s.num < 1000)∧0≤s.den∧s.den < 1000:=by
  unfold vN at h
  split at h
  · exact absurd h (by decide)
  rename_i a1
  split at h
  · exact absurd h (by decide)
  rename_i a2
  refine ⟨Decidable.not_not.1 a1,fun s hs=>?_⟩
  obtain ⟨j,hj,rfl⟩:=List.getElem_of_mem hs
  have e:r[j]=r.getD j default:=by simp [List.getD_eq_getElem?_getD,hj]
  rw [e]
  cases j with
  |zero=>rw [Decidable.not_not.1 a2];decide
  |succ j =>
    have h2:=kD h (k:=j) (by omega)
    unfold Ym at h2
    rw [Nat.add_comm 1 j] at h2
    generalize r.getD (j+1) default=s at *
    change shE s=0 at h2
    unfold shE at h2
    split at h2
    · exact absurd h2 (by decide)
    rename_i b1
    split at h2
    · exact absurd h2 (by decide)
    rename_i b2
    have b1:1≤s.num∧s.num≤20:=by simpa [inB] using b1
    have b2:1≤s.den∧s.den≤12:=by simpa [inB] using b2
    omega
theorem tx_of {l:Led} (h:Val l):TxOk l:=by
  have hc:=h.c
  have hr:=h.r
  refine ⟨hc.2,fun p hp=>?_,hr.2,fun r hm=>?_,⟨by rw [h.sl];exact hc.2,fun n hn=>by have:=h.s n hn;omega⟩,h.e,fun x hx=>?_⟩
  · obtain ⟨j,hj,rfl⟩:=List.getElem_of_mem hp
    have h1:=YL (h.cs j hj)
    have e:l.coins[j]=l.coins.getD j []:=by simp [List.getD_eq_getElem?_getD,hj]
    rw [e]
    exact ⟨h1.l.2,fun n hn=>by have:=h1.b n hn;omega⟩
  · obtain ⟨j,hj,rfl⟩:=List.getElem_of_mem hm
    obtain ⟨h1,h2⟩:=QfO (h.rs j hj)
    have e:l.rates[j]=l.rates.getD j []:=by simp [List.getD_eq_getElem?_getD,hj]
    rw [e]
    exact ⟨by omega,h2⟩
  · obtain ⟨j,hj,rfl⟩:=List.getElem_of_mem hx
    have e:l.entries[j]=l.entries.getD j default:=by simp [List.getD_eq_getElem?_getD,hj]
    rw [e]
    have g:=kF h hj
    have g1:=g.day
    have g2:=g.coin
    have g3:=g.am
    refine ⟨g.kind,by omega,by omega,by omega,fun hk=>?_⟩
    have:=g.to hk
    have:=g.got hk
    omega
theorem Qck (l:Led) {k:Nat} (h:k < l.coins.length):Jw l (k+1)=Jw l k++[jnd [99,111,105,110] (l.coins.getD k [])]:=by
  unfold Jw
  rw [List.take_add_one,List.getElem?_eq_getElem h,List.map_append]
  simp [List.getD_eq_getElem?_getD,h]
theorem QbU (l:Led) {k:Nat} (h:k < l.rates.length):WK l (k+1)=WK l k++[Zm ((l.rates.getD k []).drop 1)]:=by
  unfold WK
  rw [List.take_add_one,List.getElem?_eq_getElem h,List.map_append]
  simp [List.getD_eq_getElem?_getD,h]
theorem Qb3 (l:Led) {k:Nat} (h:k < l.entries.length):Q5 l (k+1)=Q5 l k++[Uo (l.entries.getD k default)]:=by
  unfold Q5
  rw [List.take_add_one,List.getElem?_eq_getElem h,List.map_append]
  simp [List.getD_eq_getElem?_getD,h]
theorem Qez (l:Led) {k:Nat} (h:k≤l.coins.length):(Jw l k).length=k:=by simp [Jw];omega
theorem U5 (l:Led) {k:Nat} (h:k≤l.rates.length):(WK l k).length=l.coins.length+k:=by simp [WK,Jw];omega
theorem Vo (l:Led) {k:Nat} (h:k≤l.entries.length):(Q5 l k).length=l.coins.length+l.rates.length+1+k:=by simp [Q5,WK,Jw];omega
theorem QcX (k:Int):(Xg k).length≤5:=by unfold Xg;repeat' split <;> try decide
theorem UM {x:Ent} (h:(1≤x.kind∧x.kind≤4)∧(0≤x.day∧x.day < 1000)∧(0≤x.coin∧x.coin < 1000)∧(0≤x.amount∧x.amount < 1000)∧(x.kind=3→(0≤x.to∧x.to < 1000)∧0≤x.got∧x.got < 1000)):(Uo x).length≤100:=by
  obtain ⟨_,h1,h2,h3,h4⟩:=h
  have a1:=ZY h1.1 h1.2
  have a2:=QcX x.kind
  have a3:=QZ (dg x.day++[32]++Xg x.kind) [x.coin,x.amount] fun n hn=>by simp at hn;rcases hn with rfl|rfl <;> assumption
  simp at a3
  unfold Uo
  split
  · rename_i hk
    obtain ⟨h5,h6⟩:=h4 hk
    have a4:=QZ (jnd (dg x.day++[32]++Xg x.kind) [x.coin,x.amount]) [x.to,x.got] fun n hn=>by simp at hn;rcases hn with rfl|rfl <;> assumption
    simp at a4 ⊢
    omega
  · simp
    omega
theorem Qgn {l:Led} (h:TxOk l):(Lib.join (Q5 l l.entries.length++[[98,97,108,97,110,99,101]]) [10]).length≤100000:=by
  refine Nat.le_trans (Qh5 (m:=100) fun y hy=>?_) ?_
  · unfold Q5 WK Jw at hy
    simp only [List.mem_append,List.mem_map,List.mem_singleton] at hy
    rcases hy with (((⟨p,hp,rfl⟩|⟨r,hr,rfl⟩)|rfl)|⟨x,hx,rfl⟩)|rfl
    · obtain ⟨g1,g2⟩:=h.cs p (List.mem_of_mem_take hp)
      have:=QZ [99,111,105,110] p g2
      simp at this ⊢;omega
    · obtain ⟨g1,g2⟩:=h.rs r (List.mem_of_mem_take hr)
      have:=XD (r.drop 1) fun s hs=>g2 s (List.mem_of_mem_drop hs)
      simp at this ⊢;omega
    · have:=QZ [115,116,97,114,116] l.start h.s.2
      have:=h.s.1
      simp at *;omega
    · exact UM (h.es x (List.mem_of_mem_take hx))
    · decide
  · have:=h.c
    have:=h.r
    have:=h.e
    rw [List.length_append,Vo l (Nat.le_refl _)]
    simp
    omega
def Yl:=vj @ty9 (vj @Qhf (vj @ti9.eq_1 @U8.eq_1))
theorem QeI:FnV Tryz.prog 54 [] (wP [[],[116,97,107,101],[112,97,121],[115,119,97,112],[99,111,117,110,116]]):=by
  have env:Env (fun _=>True) Tryz.prog tyB (tab []):=qY trivial
  refine Fn.of (A:=fun _=>True) (n0:=0) (D:=noD) (Fn0 Tryz.func54 rfl (fun vs w=>by kernel_rfl) (by kernel_rfl)) (by simp) (by simp [AV.ids]) (fun i o h=>by cases h) (fun _ _ _ _=>trivial) qA ?_
  have q1:(5:Nat)≤maxLen:=by decide
  repeat' (first|(apply nx;with_reducible constructor)|refine uq (by decide) ?_|((first|refine vx env fun Q hQ=>?_|refine vz fun Q hQ=>?_);simp only [vkt,seval,Yl,aS,wT];(try simp only [ite_and]);(repeat' (first|with_reducible assumption|refine And.intro ?_ ?_|intro hp));all_goals (first|(refine hQ _ ?_;clear hQ Q)|(refine hQ _ (fun h=>?_) (fun h=>?_) <;> clear hQ Q <;> (try simp only [vki,reduceCtorEq] at h))|(refine vq ?_;kernel_rfl)|omega|assumption|with_reducible rfl|skip)))
  (simp only [vrt,Tryz.results54,vkt,seval,Yl,aS,wT];refine Fin.val rfl ?_;(try simp only [AV.le,AV.leL]))
  all_goals first|exact ⟨_,_,rfl⟩|rfl|(simp;done)
def wN:List AV→Prop × AV
  |[]=>(True,wP [[],[116,97,107,101],[112,97,121],[115,119,97,112],[99,111,117,110,116]])
  |_=>(False,.junk)
theorem QhR {A:Frm→Prop}:qh A Tryz.prog 54 (qo false wN):=qL fun vs hv h=>by
  clear hv
  unfold wN at h ⊢
  split at h
  · clear h
    refine ⟨by first|trivial|(simp [AV.plain,AV.plainL,aI,aB,ql,aBunks,aTks,aBunk,aTk,cTk,aS,wP];done)|(repeat' split) <;> simp [AV.plain,AV.plainL,aI,aB,ql,aBunks,aTks,aBunk,aTk,cTk,aS,wP],fun h=>absurd h (by decide), ?_⟩
    have:=QeI
    first|exact this|(simp only [];exact this)
  · exact h.elim
end Go.Sym.B
namespace Go.Sym.B
open Go Go.Sym Go.Proofs Go.Sym.C
def wr1 (l:Led) (k:Nat):St:={ t:=asg [(1,.ptr 0 0),(5,.row 1),(22,.sl (l.coins.map zH)),(23,aI l.coins.length),(24,aI k)],h:=qc [(0,.cells (zh l)),(1,.row 9 1 ((Jw l k).map wT))],n:=2 }
def wr2 (l:Led) (k:Nat):St:={ t:=asg [(1,.ptr 0 0),(5,.row 1),(35,.sl (l.rates.map kw)),(36,aI l.rates.length),(37,aI k)],h:=qc [(0,.cells (zh l)),(1,.row 9 1 ((WK l k).map wT))],n:=2 }
def vo (l:Led) (k:Nat) (K:List (List UInt8)) (r:List Sh) (q:Nat):St:={ t:=asg [(1,.ptr 0 0),(5,.row 1),(35,.sl (l.rates.map kw)),(36,aI l.rates.length),(37,aI k),(10,aS (Zm (r.take q))),(42,.sl (r.map eSh)),(43,aI r.length),(44,aI q)],h:=qc [(0,.cells (zh l)),(1,.row 9 1 (K.map wT))],n:=2 }
def wr3 (l:Led) (k:Nat):St:={ t:=asg [(1,.ptr 0 0),(5,.row 1),(72,.sl (l.entries.map yg)),(73,aI l.entries.length),(74,aI k)],h:=qc [(0,.cells (zh l)),(1,.row 9 1 ((Q5 l k).map wT))],n:=2 }
theorem QcH:Zm []=[114,97,116,101,115]:=by simp [Zm]
theorem zK (n:Int):qJ [.v (.int .i64 n)]=n:=rfl
theorem QhZ (r:List Sh):((r.map eSh).drop 1)=(r.drop 1).map eSh:=by rw [List.map_drop]
def qQ:=vj @ty3 (vj @ty9 (vj @QA (vj @YB (vj @jL (vj @V8 (vj @xm (vj @JP (vj @Wt (vj @JI (vj @QJ (vj @Qhf (vj @ti3.eq_1 (vj @ti9.eq_1 (vj @kP.eq_1 (vj @WO.eq_1 (vj @jG.eq_1 (vj @J4.eq_1 (vj @vG.eq_1 (vj @Wu.eq_1 (vj @Zo.eq_1 (vj @Wv.eq_1 (vj @Qe.eq_1 @U8.eq_1))))))))))))))))))))))
def ww:=vj @aI.eq_1 (vj @aB.eq_1 (vj @ql.eq_1 (vj @qp.eq_1 (vj @zH.eq_1 (vj @eSh.eq_1 (vj @kw.eq_1 (vj @yg.eq_1 (vj @zL.eq_1 (vj @zh.eq_1 (vj @vH (vj @xC (vj @Kq (vj @mSh (vj @WL (vj @yT (vj @jO (@rSh)))))))))))))))))
set_option maxRecDepth 100000 in
set_option maxHeartbeats 40000000 in
theorem Qd2 (l:Led) (hf:Fit l):Fn (VX TabT) Tryz.prog 19 [zL l] noH (.tup [aS (QT l).1,aI (QT l).2]) noH 0:=by
  have env:Env (YA TabT) Tryz.prog tyB (tab [(7,qo true s50),(53,qo true wW),(55,qo true jK),(52,qo true zS),(54,qo false wN)]):=qY ⟨e50,Qg6,ejoin,Qgj,QhR,trivial⟩
  refine Fn.of (A:=YA TabT) (n0:=0) (D:=noD) (Fn0 Tryz.func19 rfl (fun vs w=>by kernel_rfl) (by kernel_rfl)) (by simp) (by simp [AV.ids,AV.idsL,zL,zh]) (fun i o h=>by cases h) (fun _ hB _ _=>hB) qA ?_
  have ec:(⟨l.coins,l.rates,l.start,l.entries⟩:Led)=l:=rfl
  have hmx:(100000:Nat)≤maxLen:=by decide
  obtain ⟨e,he⟩:∃ e,zB l=e:=⟨_,rfl⟩
  by_cases h0:e=0
  · rw [h0] at he
    have hv:=tx_of (Qt he)
    have hjl:=Qgn hv
    have hc4:=hv.c
    have hr4':=hv.r
    have he6:=hv.e
    have hs4:=hv.s.1
    have hE:QT l=(Lib.join (Q5 l l.entries.length++[[98,97,108,97,110,99,101]]) [10]++[10],0):=by unfold QT;rw [if_pos he]
    rw [hE]
    repeat' (first|(apply nx;with_reducible constructor)|refine uq (by decide) ?_|((first|refine vx env fun Q hQ=>?_|refine vz fun Q hQ=>?_);simp only [vkt,seval,qQ,ww,aS,wP,xJ,wT,yS,s50,wW,jK,zS,wN,wr1,wr2,vo,wr3,List.map_cons,List.map_nil,List.length_map,ec,he,hf,decide_true];(try simp only [ite_and]);(repeat' (first|with_reducible assumption|refine And.intro ?_ ?_|intro hp));all_goals (first|(refine hQ _ ?_;clear hQ Q)|(refine hQ _ (fun h=>?_) (fun h=>?_) <;> clear hQ Q <;> (try simp only [vki,reduceCtorEq] at h))|(refine vq ?_;kernel_rfl)|omega|assumption|with_reducible rfl|skip)))
    refine qz (fun s:{ s:Nat // s≤l.coins.length }=>wr1 l s.1) (fun s=>l.coins.length - s.1) ⟨0,Nat.zero_le _⟩ ?_ fun ⟨k,hk⟩=>?_
    · simp only [wr1,show Jw l 0=[] from rfl]
      (refine Le.ok (fun i=>if i=1 then none else some i) [] ?_;constructor;all_goals (try simp only [vle,vkt,seval,qQ,ww,aS,wP,xJ,wT,yS,s50,wW,jK,zS,wN,wr1,wr2,vo,wr3,List.map_cons,List.map_nil,List.length_map]))
      all_goals first|rfl|(simp;done)
    simp only at hk ⊢
    by_cases hlt:k < l.coins.length
    · have d1:decide ((k:Int) < (l.coins.length:Int))=true:=decide_eq_true (by omega)
      have e9:IntKind.wrap .i64 ((k:Int)+1)=((k+1:Nat):Int):=by have:=hv.c;rw [wrap64 (by omega) (by omega)];rfl
      have hS:=Qck l hlt
      have hl:=Qez l hk
      have hx:=WE l.coins k
      obtain ⟨hb1,hb2⟩:=hv.cs _ (jU (d:=[]) hlt)
      obtain ⟨K,hK⟩:∃ K,Jw l k=K:=⟨_,rfl⟩
      rw [hK] at hS hl
      simp only [wr1,hK]
      generalize l.coins.getD k []=p at hx hb1 hb2 hS
      have hm:K.length+1≤maxLen:=by have:=hv.c;omega
      have e4:K.map wT++[[.v (.string ⟨⟨jnd [99,111,105,110] p⟩⟩)]]=(Jw l (k+1)).map wT:=by rw [hS,List.map_append];rfl
      have q1:[(99:UInt8),111,105,110].length≤10000:=by decide
      have q2:p.length≤100:=by omega
      repeat' (first|(apply nx;with_reducible constructor)|refine uq (by decide) ?_|((first|refine vx env fun Q hQ=>?_|refine vz fun Q hQ=>?_);simp only [vkt,seval,qQ,ww,aS,wP,xJ,wT,yS,s50,wW,jK,zS,wN,wr1,wr2,vo,wr3,List.map_cons,List.map_nil,List.length_map,d1,e9,hx,hm,e4,q1,q2];(try simp only [ite_and]);(repeat' (first|with_reducible assumption|refine And.intro ?_ ?_|intro hp));all_goals (first|(refine hQ _ ?_;clear hQ Q)|(refine hQ _ (fun h=>?_) (fun h=>?_) <;> clear hQ Q <;> (try simp only [vki,reduceCtorEq] at h))|(refine vq ?_;kernel_rfl)|omega|assumption|with_reducible rfl|skip)))
      refine ⟨⟨k+1,hlt⟩,by show l.coins.length - (k+1) < l.coins.length - k;omega, ?_⟩
      (refine Le.ok (fun i=>if i=1 then some 3 else some i) [] ?_;constructor;all_goals (try simp only [vle,vkt,seval,qQ,ww,aS,wP,xJ,wT,yS,s50,wW,jK,zS,wN,wr1,wr2,vo,wr3,List.map_cons,List.map_nil,List.length_map]))
      all_goals first|rfl|(simp;done)|(intro i hi;rw [if_neg (by omega)];done)
    have d1:decide ((k:Int) < (l.coins.length:Int))=false:=decide_eq_false (by omega)
    obtain rfl:k=l.coins.length:=by omega
    have hB0:WK l 0=Jw l l.coins.length:=by simp [WK]
    simp only [wr1,← hB0]
    repeat' (first|(apply nx;with_reducible constructor)|refine uq (by decide) ?_|((first|refine vx env fun Q hQ=>?_|refine vz fun Q hQ=>?_);simp only [vkt,seval,qQ,ww,aS,wP,xJ,wT,yS,s50,wW,jK,zS,wN,wr1,wr2,vo,wr3,List.map_cons,List.map_nil,List.length_map,d1];(try simp only [ite_and]);(repeat' (first|with_reducible assumption|refine And.intro ?_ ?_|intro hp));all_goals (first|(refine hQ _ ?_;clear hQ Q)|(refine hQ _ (fun h=>?_) (fun h=>?_) <;> clear hQ Q <;> (try simp only [vki,reduceCtorEq] at h))|(refine vq ?_;kernel_rfl)|omega|assumption|with_reducible rfl|skip)))
    refine qz (fun s:{ s:Nat // s≤l.rates.length }=>wr2 l s.1) (fun s=>l.rates.length - s.1) ⟨0,Nat.zero_le _⟩ ?_ fun ⟨k,hk⟩=>?_
    · simp only [wr2]
      (refine Le.ok some [] ?_;constructor;all_goals (try simp only [vle,vkt,seval,qQ,ww,aS,wP,xJ,wT,yS,s50,wW,jK,zS,wN,wr1,wr2,vo,wr3,List.map_cons,List.map_nil,List.length_map]))
      all_goals first|rfl|(simp;done)
    clear hB0 d1
    simp only at hk ⊢
    by_cases hlt:k < l.rates.length
    · have d1:decide ((k:Int) < (l.rates.length:Int))=true:=decide_eq_true (by omega)
      have e9:IntKind.wrap .i64 ((k:Int)+1)=((k+1:Nat):Int):=by have:=hv.r;rw [wrap64 (by omega) (by omega)];rfl
      have hS:=QbU l hlt
      have hl:=U5 l hk
      have hx:=gShs l.rates k
      obtain ⟨hb1,hb2⟩:=hv.rs _ (jU (d:=[]) hlt)
      obtain ⟨K,hK⟩:∃ K,WK l k=K:=⟨_,rfl⟩
      rw [hK] at hS hl
      simp only [wr2,hK]
      generalize l.rates.getD k []=r0 at hx hb1 hb2 hS
      have hm:K.length+1≤maxLen:=by have:=hv.c;have:=hv.r;omega
      obtain ⟨r,hr⟩:∃ r,r0.drop 1=r:=⟨_,rfl⟩
      have hrl:r.length≤4:=by rw [← hr];simp;omega
      have hrb:∀ s ∈ r,(0≤s.num∧s.num < 1000)∧0≤s.den∧s.den < 1000:=fun s hs=>hb2 s (List.mem_of_mem_drop (hr ▸ hs))
      have hr2:=QhZ r0
      have hr3:r0.length - 1=r.length:=by rw [← hr];simp
      rw [hr] at hS hr2
      have hr4:(1:Int)≤(r0.length:Int):=by omega
      have hr5:(r0.map eSh).take r0.length=r0.map eSh:=List.take_of_length_le (by simp)
      repeat' (first|(apply nx;with_reducible constructor)|refine uq (by decide) ?_|((first|refine vx env fun Q hQ=>?_|refine vz fun Q hQ=>?_);simp only [vkt,seval,qQ,ww,aS,wP,xJ,wT,yS,s50,wW,jK,zS,wN,wr1,wr2,vo,wr3,List.map_cons,List.map_nil,List.length_map,d1,e9,hx,hr5,hr2,hr3,hr4];(try simp only [ite_and]);(repeat' (first|with_reducible assumption|refine And.intro ?_ ?_|intro hp));all_goals (first|(refine hQ _ ?_;clear hQ Q)|(refine hQ _ (fun h=>?_) (fun h=>?_) <;> clear hQ Q <;> (try simp only [vki,reduceCtorEq] at h))|(refine vq ?_;kernel_rfl)|omega|assumption|with_reducible rfl|skip)))
      refine qz (fun s:{ s:Nat // s≤r.length }=>vo l k K r s.1) (fun s=>r.length - s.1) ⟨0,Nat.zero_le _⟩ ?_ fun ⟨q,hq⟩=>?_
      · simp only [vo,List.take_zero,QcH]
        (refine Le.ok some [] ?_;constructor;all_goals (try simp only [vle,vkt,seval,qQ,ww,aS,wP,xJ,wT,yS,s50,wW,jK,zS,wN,wr1,wr2,vo,wr3,List.map_cons,List.map_nil,List.length_map]))
        all_goals first|rfl|(simp;done)
      simp only at hq ⊢
      by_cases hq1:q < r.length
      · have d2:decide ((q:Int) < (r.length:Int))=true:=decide_eq_true (by omega)
        have e8:IntKind.wrap .i64 ((q:Int)+1)=((q+1:Nat):Int):=by rw [wrap64 (by omega) (by omega)];rfl
        have hx3:=gSh r q
        have hsq:=QaQ r hq1
        have hj:=XD (r.take q) fun s hs=>hrb s (List.mem_of_mem_take hs)
        have hj2:(r.take q).length≤4:=by simp;omega
        obtain ⟨⟨n0,n1⟩,n2,n3⟩:=hrb _ (jU (d:=default) hq1)
        obtain ⟨V,hV⟩:∃ V,Zm (r.take q)=V:=⟨_,rfl⟩
        rw [hV] at hsq hj
        simp only [vo,hV]
        generalize r.getD q default=s0 at hx3 n0 n1 n2 n3 hsq
        obtain ⟨nu,de⟩:=s0
        dsimp only at n0 n1 n2 n3
        have dl1:=ZY n0 n1
        have dl2:=ZY n2 n3
        have c0:-9223372036854775808≤nu:=by omega
        have c1:nu≤9223372036854775807:=by omega
        have c2:-9223372036854775808≤de:=by omega
        have c3:de≤9223372036854775807:=by omega
        have b1:[(32:UInt8)].length+(dg nu).length≤9223372036854775807:=by simp;omega
        have b2:([(32:UInt8)]++dg nu).length+[(47:UInt8)].length≤9223372036854775807:=by simp;omega
        have b3:([(32:UInt8)]++dg nu++[47]).length+(dg de).length≤9223372036854775807:=by simp;omega
        have b4:V.length+([(32:UInt8)]++dg nu++[47]++dg de).length≤9223372036854775807:=by simp;omega
        repeat' (first|(apply nx;with_reducible constructor)|refine uq (by decide) ?_|((first|refine vx env fun Q hQ=>?_|refine vz fun Q hQ=>?_);simp only [vkt,seval,qQ,ww,aS,wP,xJ,wT,yS,s50,wW,jK,zS,wN,wr1,wr2,vo,wr3,List.map_cons,List.map_nil,List.length_map,d2,e8,hx3,b1,b2,b3,b4];(try simp only [ite_and]);(repeat' (first|with_reducible assumption|refine And.intro ?_ ?_|intro hp));all_goals (first|(refine hQ _ ?_;clear hQ Q)|(refine hQ _ (fun h=>?_) (fun h=>?_) <;> clear hQ Q <;> (try simp only [vki,reduceCtorEq] at h))|(refine vq ?_;kernel_rfl)|omega|assumption|with_reducible rfl|skip)))
        refine ⟨⟨q+1,hq1⟩,by show r.length - (q+1) < r.length - q;omega, ?_⟩
        simp only [vo,hsq]
        (refine Le.ok some [] ?_;constructor;all_goals (try simp only [vle,vkt,seval,qQ,ww,aS,wP,xJ,wT,yS,s50,wW,jK,zS,wN,wr1,wr2,vo,wr3,List.map_cons,List.map_nil,List.length_map]))
        all_goals first|rfl|(simp;done)
      · have d2:decide ((q:Int) < (r.length:Int))=false:=decide_eq_false (by omega)
        obtain rfl:q=r.length:=by omega
        have e4:K.map wT++[[.v (.string ⟨⟨Zm r⟩⟩)]]=(WK l (k+1)).map wT:=by rw [hS,List.map_append];rfl
        simp only [vo,List.take_length]
        repeat' (first|(apply nx;with_reducible constructor)|refine uq (by decide) ?_|((first|refine vx env fun Q hQ=>?_|refine vz fun Q hQ=>?_);simp only [vkt,seval,qQ,ww,aS,wP,xJ,wT,yS,s50,wW,jK,zS,wN,wr1,wr2,vo,wr3,List.map_cons,List.map_nil,List.length_map,d2,e9,hm,e4];(try simp only [ite_and]);(repeat' (first|with_reducible assumption|refine And.intro ?_ ?_|intro hp));all_goals (first|(refine hQ _ ?_;clear hQ Q)|(refine hQ _ (fun h=>?_) (fun h=>?_) <;> clear hQ Q <;> (try simp only [vki,reduceCtorEq] at h))|(refine vq ?_;kernel_rfl)|omega|assumption|with_reducible rfl|skip)))
        refine ⟨⟨k+1,hlt⟩,by show l.rates.length - (k+1) < l.rates.length - k;omega, ?_⟩
        (refine Le.ok (fun i=>if i=1 then some 3 else some i) [] ?_;constructor;all_goals (try simp only [vle,vkt,seval,qQ,ww,aS,wP,xJ,wT,yS,s50,wW,jK,zS,wN,wr1,wr2,vo,wr3,List.map_cons,List.map_nil,List.length_map]))
        all_goals first|rfl|(simp;done)|(intro i hi;rw [if_neg (by omega)];done)
    have d1:decide ((k:Int) < (l.rates.length:Int))=false:=decide_eq_false (by omega)
    obtain rfl:k=l.rates.length:=by omega
    have hl:=U5 l (Nat.le_refl _)
    have hC0:Q5 l 0=WK l l.rates.length++[jnd [115,116,97,114,116] l.start]:=by simp [Q5]
    have hjs:=QZ [115,116,97,114,116] l.start hv.s.2
    obtain ⟨K,hK⟩:∃ K,WK l l.rates.length=K:=⟨_,rfl⟩
    rw [hK] at hC0 hl
    simp only [wr2,hK]
    have hm:K.length+1≤maxLen:=by omega
    have e4:K.map wT++[[.v (.string ⟨⟨jnd [115,116,97,114,116] l.start⟩⟩)]]=(Q5 l 0).map wT:=by rw [hC0,List.map_append];rfl
    have q1:[(115:UInt8),116,97,114,116].length≤10000:=by decide
    have q2:l.start.length≤100:=by omega
    have q3:=hv.s.2
    repeat' (first|(apply nx;with_reducible constructor)|refine uq (by decide) ?_|((first|refine vx env fun Q hQ=>?_|refine vz fun Q hQ=>?_);simp only [vkt,seval,qQ,ww,aS,wP,xJ,wT,yS,s50,wW,jK,zS,wN,wr1,wr2,vo,wr3,List.map_cons,List.map_nil,List.length_map,d1,hm,e4,q1,q2];(try simp only [ite_and]);(repeat' (first|with_reducible assumption|refine And.intro ?_ ?_|intro hp));all_goals (first|(refine hQ _ ?_;clear hQ Q)|(refine hQ _ (fun h=>?_) (fun h=>?_) <;> clear hQ Q <;> (try simp only [vki,reduceCtorEq] at h))|(refine vq ?_;kernel_rfl)|omega|assumption|with_reducible rfl|skip)))
    refine qz (fun s:{ s:Nat // s≤l.entries.length }=>wr3 l s.1) (fun s=>l.entries.length - s.1) ⟨0,Nat.zero_le _⟩ ?_ fun ⟨q,hq⟩=>?_
    · simp only [wr3]
      (refine Le.ok (fun i=>if i=1 then some 3 else some i) [] ?_;constructor;all_goals (try simp only [vle,vkt,seval,qQ,ww,aS,wP,xJ,wT,yS,s50,wW,jK,zS,wN,wr1,wr2,vo,wr3,List.map_cons,List.map_nil,List.length_map]))
      all_goals first|rfl|(simp;done)|(intro i hi;rw [if_neg (by omega)];done)
    simp only at hq ⊢
    clear e4 d1 hm hl hK hC0
    by_cases hlt:q < l.entries.length
    · have d1:decide ((q:Int) < (l.entries.length:Int))=true:=decide_eq_true (by omega)
      have e9:IntKind.wrap .i64 ((q:Int)+1)=((q+1:Nat):Int):=by rw [wrap64 (by omega) (by omega)];rfl
      have hS:=Qb3 l hlt
      have hl:=Vo l hq
      have hx:=QaA l.entries q
      have hb:=hv.es _ (jU (d:=default) hlt)
      obtain ⟨K,hK⟩:∃ K,Q5 l q=K:=⟨_,rfl⟩
      rw [hK] at hS hl
      simp only [wr3,hK]
      generalize l.entries.getD q default=x at hx hb hS
      have hj:=UM hb
      obtain ⟨dy,ki,co,to,am,go⟩:=x
      obtain ⟨g1,g2,g3,g4,g5⟩:=hb
      dsimp only at g1 g2 g3 g4 g5
      have hm:K.length+1≤maxLen:=by omega
      have dl:=ZY g2.1 g2.2
      have c0:-9223372036854775808≤dy:=by omega
      have c1:dy≤9223372036854775807:=by omega
      have b1:(dg dy).length+[(32:UInt8)].length≤9223372036854775807:=by simp;omega
      have q5:(2:Nat)≤100:=by decide
      rcases (show ki=1∨ki=2∨ki=3∨ki=4 by omega) with rfl|rfl|rfl|rfl
      · have hc0:Uo ⟨dy,1,co,to,am,go⟩=jnd (dg dy++[32]++[(116:UInt8),97,107,101]) [co,am]:=rfl
        rw [hc0] at hj hS
        have e4:K.map wT++[[.v (.string ⟨⟨jnd (dg dy++[32]++[(116:UInt8),97,107,101]) [co,am]⟩⟩)]]=(Q5 l (q+1)).map wT:=by rw [hS,List.map_append];rfl
        have b2:(dg dy++[32]).length+[(116:UInt8),97,107,101].length≤9223372036854775807:=by simp;omega
        have b5:(dg dy++[32]).length≤9223372036854775803:=by simp;omega
        have b3:(dg dy++[32]++[(116:UInt8),97,107,101]).length≤10000:=by simp;omega
        have b4:∀ n ∈ [co,am],0≤n∧n < 1000:=fun n hn=>by simp at hn;rcases hn with rfl|rfl <;> omega
        repeat' (first|(apply nx;with_reducible constructor)|refine uq (by decide) ?_|((first|refine vx env fun Q hQ=>?_|refine vz fun Q hQ=>?_);simp only [vkt,seval,qQ,ww,aS,wP,xJ,wT,yS,s50,wW,jK,zS,wN,wr1,wr2,vo,wr3,List.map_cons,List.map_nil,List.length_map,d1,e9,hx,hm,e4,b1,b2,b3,q5,List.getD_cons_succ,List.getD_cons_zero,List.length_cons,List.length_nil,List.set_cons_succ,List.set_cons_zero,zK];(try simp only [ite_and]);(repeat' (first|with_reducible assumption|refine And.intro ?_ ?_|intro hp));all_goals (first|(refine hQ _ ?_;clear hQ Q)|(refine hQ _ (fun h=>?_) (fun h=>?_) <;> clear hQ Q <;> (try simp only [vki,reduceCtorEq] at h))|(refine vq ?_;kernel_rfl)|omega|assumption|with_reducible rfl|skip)))
        refine ⟨⟨q+1,hlt⟩,by show l.entries.length - (q+1) < l.entries.length - q;omega, ?_⟩
        (refine Le.ok (fun i=>if i=1 then some 5 else some i) [] ?_;constructor;all_goals (try simp only [vle,vkt,seval,qQ,ww,aS,wP,xJ,wT,yS,s50,wW,jK,zS,wN,wr1,wr2,vo,wr3,List.map_cons,List.map_nil,List.length_map]))
        all_goals first|rfl|(simp;done)|(intro i hi;rw [if_neg (by omega)];done)
      · have hc0:Uo ⟨dy,2,co,to,am,go⟩=jnd (dg dy++[32]++[(112:UInt8),97,121]) [co,am]:=rfl
        rw [hc0] at hj hS
        have e4:K.map wT++[[.v (.string ⟨⟨jnd (dg dy++[32]++[(112:UInt8),97,121]) [co,am]⟩⟩)]]=(Q5 l (q+1)).map wT:=by rw [hS,List.map_append];rfl
        have b2:(dg dy++[32]).length+[(112:UInt8),97,121].length≤9223372036854775807:=by simp;omega
        have b5:(dg dy++[32]).length≤9223372036854775804:=by simp;omega
        have b3:(dg dy++[32]++[(112:UInt8),97,121]).length≤10000:=by simp;omega
        have b4:∀ n ∈ [co,am],0≤n∧n < 1000:=fun n hn=>by simp at hn;rcases hn with rfl|rfl <;> omega
        repeat' (first|(apply nx;with_reducible constructor)|refine uq (by decide) ?_|((first|refine vx env fun Q hQ=>?_|refine vz fun Q hQ=>?_);simp only [vkt,seval,qQ,ww,aS,wP,xJ,wT,yS,s50,wW,jK,zS,wN,wr1,wr2,vo,wr3,List.map_cons,List.map_nil,List.length_map,d1,e9,hx,hm,e4,b1,b2,b3,q5,List.getD_cons_succ,List.getD_cons_zero,List.length_cons,List.length_nil,List.set_cons_succ,List.set_cons_zero,zK];(try simp only [ite_and]);(repeat' (first|with_reducible assumption|refine And.intro ?_ ?_|intro hp));all_goals (first|(refine hQ _ ?_;clear hQ Q)|(refine hQ _ (fun h=>?_) (fun h=>?_) <;> clear hQ Q <;> (try simp only [vki,reduceCtorEq] at h))|(refine vq ?_;kernel_rfl)|omega|assumption|with_reducible rfl|skip)))
        refine ⟨⟨q+1,hlt⟩,by show l.entries.length - (q+1) < l.entries.length - q;omega, ?_⟩
        (refine Le.ok (fun i=>if i=1 then some 5 else some i) [] ?_;constructor;all_goals (try simp only [vle,vkt,seval,qQ,ww,aS,wP,xJ,wT,yS,s50,wW,jK,zS,wN,wr1,wr2,vo,wr3,List.map_cons,List.map_nil,List.length_map]))
        all_goals first|rfl|(simp;done)|(intro i hi;rw [if_neg (by omega)];done)
      · have hc0:Uo ⟨dy,3,co,to,am,go⟩=jnd (jnd (dg dy++[32]++[(115:UInt8),119,97,112]) [co,am]) [to,go]:=rfl
        rw [hc0] at hj hS
        have e4:K.map wT++[[.v (.string ⟨⟨jnd (jnd (dg dy++[32]++[(115:UInt8),119,97,112]) [co,am]) [to,go]⟩⟩)]]=(Q5 l (q+1)).map wT:=by rw [hS,List.map_append];rfl
        have b2:(dg dy++[32]).length+[(115:UInt8),119,97,112].length≤9223372036854775807:=by simp;omega
        have b5:(dg dy++[32]).length≤9223372036854775803:=by simp;omega
        have b3:(dg dy++[32]++[(115:UInt8),119,97,112]).length≤10000:=by simp;omega
        have b4:∀ n ∈ [co,am],0≤n∧n < 1000:=fun n hn=>by simp at hn;rcases hn with rfl|rfl <;> omega
        obtain ⟨⟨t0,t1⟩,u0,u1⟩:=g5 rfl
        have b6:∀ n ∈ [to,go],0≤n∧n < 1000:=fun n hn=>by simp at hn;rcases hn with rfl|rfl <;> omega
        have b7:(jnd (dg dy++[32]++[(115:UInt8),119,97,112]) [co,am]).length≤10000:=by have:=QZ (dg dy++[32]++[(115:UInt8),119,97,112]) [co,am] b4;simp at this ⊢;omega
        repeat' (first|(apply nx;with_reducible constructor)|refine uq (by decide) ?_|((first|refine vx env fun Q hQ=>?_|refine vz fun Q hQ=>?_);simp only [vkt,seval,qQ,ww,aS,wP,xJ,wT,yS,s50,wW,jK,zS,wN,wr1,wr2,vo,wr3,List.map_cons,List.map_nil,List.length_map,d1,e9,hx,hm,e4,b1,b2,b3,q5,List.getD_cons_succ,List.getD_cons_zero,List.length_cons,List.length_nil,List.set_cons_succ,List.set_cons_zero,zK,b7];(try simp only [ite_and]);(repeat' (first|with_reducible assumption|refine And.intro ?_ ?_|intro hp));all_goals (first|(refine hQ _ ?_;clear hQ Q)|(refine hQ _ (fun h=>?_) (fun h=>?_) <;> clear hQ Q <;> (try simp only [vki,reduceCtorEq] at h))|(refine vq ?_;kernel_rfl)|omega|assumption|with_reducible rfl|skip)))
        refine ⟨⟨q+1,hlt⟩,by show l.entries.length - (q+1) < l.entries.length - q;omega, ?_⟩
        (refine Le.ok (fun i=>if i=1 then some 6 else some i) [] ?_;constructor;all_goals (try simp only [vle,vkt,seval,qQ,ww,aS,wP,xJ,wT,yS,s50,wW,jK,zS,wN,wr1,wr2,vo,wr3,List.map_cons,List.map_nil,List.length_map]))
        all_goals first|rfl|(simp;done)|(intro i hi;rw [if_neg (by omega)];done)
      · have hc0:Uo ⟨dy,4,co,to,am,go⟩=jnd (dg dy++[32]++[(99:UInt8),111,117,110,116]) [co,am]:=rfl
        rw [hc0] at hj hS
        have e4:K.map wT++[[.v (.string ⟨⟨jnd (dg dy++[32]++[(99:UInt8),111,117,110,116]) [co,am]⟩⟩)]]=(Q5 l (q+1)).map wT:=by rw [hS,List.map_append];rfl
        have b2:(dg dy++[32]).length+[(99:UInt8),111,117,110,116].length≤9223372036854775807:=by simp;omega
        have b5:(dg dy++[32]).length≤9223372036854775802:=by simp;omega
        have b3:(dg dy++[32]++[(99:UInt8),111,117,110,116]).length≤10000:=by simp;omega
        have b4:∀ n ∈ [co,am],0≤n∧n < 1000:=fun n hn=>by simp at hn;rcases hn with rfl|rfl <;> omega
        repeat' (first|(apply nx;with_reducible constructor)|refine uq (by decide) ?_|((first|refine vx env fun Q hQ=>?_|refine vz fun Q hQ=>?_);simp only [vkt,seval,qQ,ww,aS,wP,xJ,wT,yS,s50,wW,jK,zS,wN,wr1,wr2,vo,wr3,List.map_cons,List.map_nil,List.length_map,d1,e9,hx,hm,e4,b1,b2,b3,q5,List.getD_cons_succ,List.getD_cons_zero,List.length_cons,List.length_nil,List.set_cons_succ,List.set_cons_zero,zK];(try simp only [ite_and]);(repeat' (first|with_reducible assumption|refine And.intro ?_ ?_|intro hp));all_goals (first|(refine hQ _ ?_;clear hQ Q)|(refine hQ _ (fun h=>?_) (fun h=>?_) <;> clear hQ Q <;> (try simp only [vki,reduceCtorEq] at h))|(refine vq ?_;kernel_rfl)|omega|assumption|with_reducible rfl|skip)))
        refine ⟨⟨q+1,hlt⟩,by show l.entries.length - (q+1) < l.entries.length - q;omega, ?_⟩
        (refine Le.ok (fun i=>if i=1 then some 5 else some i) [] ?_;constructor;all_goals (try simp only [vle,vkt,seval,qQ,ww,aS,wP,xJ,wT,yS,s50,wW,jK,zS,wN,wr1,wr2,vo,wr3,List.map_cons,List.map_nil,List.length_map]))
        all_goals first|rfl|(simp;done)|(intro i hi;rw [if_neg (by omega)];done)
    · have d1:decide ((q:Int) < (l.entries.length:Int))=false:=decide_eq_false (by omega)
      obtain rfl:q=l.entries.length:=by omega
      have hl:=Vo l (Nat.le_refl _)
      obtain ⟨K,hK⟩:∃ K,Q5 l l.entries.length=K:=⟨_,rfl⟩
      rw [hK] at hl hjl
      simp only [wr3,hK]
      have hm:K.length+1≤maxLen:=by omega
      have e4:K.map wT++[[.v (.string ⟨⟨[98,97,108,97,110,99,101]⟩⟩)]]=(K++[[98,97,108,97,110,99,101]]).map wT:=by rw [List.map_append];rfl
      have e5:(K++[[98,97,108,97,110,99,101]]).length≤100000:=by rw [List.length_append,hl];simp;omega
      have e6:(Lib.join (K++[[98,97,108,97,110,99,101]]) [10]).length≤140737488355328:=by omega
      have e7:(Lib.join (K++[[98,97,108,97,110,99,101]]) [10]).length+1≤9223372036854775807:=by omega
      repeat' (first|(apply nx;with_reducible constructor)|refine uq (by decide) ?_|((first|refine vx env fun Q hQ=>?_|refine vz fun Q hQ=>?_);simp only [vkt,seval,qQ,ww,aS,wP,xJ,wT,yS,s50,wW,jK,zS,wN,wr1,wr2,vo,wr3,List.map_cons,List.map_nil,List.length_map,d1,hm,e4,mStr,e7];(try simp only [ite_and]);(repeat' (first|with_reducible assumption|refine And.intro ?_ ?_|intro hp));all_goals (first|(refine hQ _ ?_;clear hQ Q)|(refine hQ _ (fun h=>?_) (fun h=>?_) <;> clear hQ Q <;> (try simp only [vki,reduceCtorEq] at h))|(refine vq ?_;kernel_rfl)|omega|assumption|with_reducible rfl|skip)))
      (simp only [vrt,Tryz.results19,vkt,seval,qQ,ww,aS,wP,xJ,wT,yS,s50,wW,jK,zS,wN,wr1,wr2,vo,wr3,List.map_cons,List.map_nil,List.length_map];refine Fin.val rfl ?_;(try simp only [AV.le,AV.leL]))
      all_goals first|rfl|(simp;done)
  · have hE:QT l=([],e):=by unfold QT;rw [if_neg (by rw [he];exact h0),he]
    rw [hE]
    have d0:decide (e=0)=false:=decide_eq_false h0
    repeat' (first|(apply nx;with_reducible constructor)|refine uq (by decide) ?_|((first|refine vx env fun Q hQ=>?_|refine vz fun Q hQ=>?_);simp only [vkt,seval,qQ,ww,aS,wP,xJ,wT,yS,s50,wW,jK,zS,wN,wr1,wr2,vo,wr3,List.map_cons,List.map_nil,List.length_map,ec,he,hf,d0];(try simp only [ite_and]);(repeat' (first|with_reducible assumption|refine And.intro ?_ ?_|intro hp));all_goals (first|(refine hQ _ ?_;clear hQ Q)|(refine hQ _ (fun h=>?_) (fun h=>?_) <;> clear hQ Q <;> (try simp only [vki,reduceCtorEq] at h))|(refine vq ?_;kernel_rfl)|omega|assumption|with_reducible rfl|skip)))
    (simp only [vrt,Tryz.results19,vkt,seval,qQ,ww,aS,wP,xJ,wT,yS,s50,wW,jK,zS,wN,wr1,wr2,vo,wr3,List.map_cons,List.map_nil,List.length_map];refine Fin.val rfl ?_;(try simp only [AV.le,AV.leL]))
    all_goals first|rfl|(simp;done)
def zM:List AV→Prop × AV
  |[.agg [.sl cs,.sl rs,.sl ss,.sl es]]=>(isL cs rs ss es∧Fit (zN cs rs ss es),.tup [aS (QT (zN cs rs ss es)).1,aI (QT (zN cs rs ss es)).2])
  |_=>(False,.junk)
theorem Qhl:qh (YA TabT) Tryz.prog 19 (qo true zM):=K3 fun vs hv h=>by
  clear hv
  unfold zM at h ⊢
  split at h
  · refine ⟨by simp [AV.plain,AV.plainL,aI,aS],fun _=>by simp [AV.flat,AV.flatL,aI,aS], ?_⟩
    rw [← jD h.1];exact Qd2 _ h.2
  · exact h.elim
end Go.Sym.B
namespace Go.Sym.B
open Go Go.Sym Go.Proofs Go.Sym.C
def tiII:TI:={ cells:=1,bytes:=24,td:=.slice 3,zero:=[.nil],eqk:=none,deep:=true }
def tiSS:TI:={ cells:=1,bytes:=24,td:=.slice 30,zero:=[.nil],eqk:=none,deep:=true }
def tyX (t:Nat):Option TI:=bif t == 24 then some tiII else bif t == 32 then some tiSS else tyB t
theorem Qic:jg Tryz.prog tyX:=fun t i h=>by
  unfold tyX at h
  by_cases ht:t=24
  · subst ht
    have f:=WS 24 _ jL
    simp only [beq_self_eq_true,cond_true,Option.some.injEq] at h
    subst h
    exact ⟨f.info,f.under,f.fsz,f.eq,f.key⟩
  · rw [show (t == 24)=false by simpa using ht,cond_false] at h
    by_cases ht2:t=32
    · subst ht2
      have f:=WS 32 _ Wt
      simp only [beq_self_eq_true,cond_true,Option.some.injEq] at h
      subst h
      exact ⟨f.info,f.under,f.fsz,f.eq,f.key⟩
    · rw [show (t == 32)=false by simpa using ht2] at h
      exact WS t i h
theorem envX {A:Frm→Prop} {Φ:Ctr} (h:Env A Tryz.prog tyB Φ):Env A Tryz.prog tyX Φ:=⟨Qic,h.ctr,h.mixed⟩
def QeD (g:Int):List (Nat × AObj):=[(0,.rows 24 [.row 4,.row 5]),(1,.rows 32 [.row 6,.row 7]),(2,.row 3 1 ([100,10].map qp)),(3,.row 34 6 ((wZ g).entries.map yg)),(4,.row 3 1 ([1,5,10].map qp)),(5,.row 3 1 ([1,2].map qp)),(6,.row 30 2 ([⟨1,1⟩,⟨3,2⟩].map eSh)),(7,.row 30 2 ([⟨1,1⟩,⟨2,1⟩].map eSh))]
def Zf:=vj @ty3 (vj @QA (vj @YB (vj @jL (vj @V8 (vj @xm (vj @JP (vj @Wt (vj @JI (vj @ti3.eq_1 (vj @kP.eq_1 (vj @WO.eq_1 (vj @jG.eq_1 (vj @J4.eq_1 (vj @vG.eq_1 (vj @Wu.eq_1 (vj @Zo.eq_1 @Wv.eq_1))))))))))))))))
def Kv:=vj @aI.eq_1 (vj @aB.eq_1 (vj @aSh.eq_1 (vj @zL.eq_1 (vj @zh.eq_1 (vj @wZ.eq_1 (vj @s40.eq_1 (vj @s40.eq_2 (vj @zH.eq_1 (vj @kw.eq_1 (vj @qp.eq_1 (vj @eSh.eq_1 (@yg.eq_1))))))))))))
set_option maxRecDepth 100000 in
theorem LB (g:Int):Fn noB Tryz.prog 4 [aI g] noH (.agg [.row 0,.row 1,.row 2,.row 3]) (qc (QeD g)) 0:=by
  have env0:Env (fun _=>True) Tryz.prog tyB (tab [(5,qo true s40)]):=qY ⟨e40,trivial⟩
  have env:=envX env0
  clear env0
  refine Fn.of (A:=fun _=>True) (n0:=0) (D:=noD) (Fn0 Tryz.func4 rfl (fun vs w=>by kernel_rfl) (by kernel_rfl)) (by simp) (by simp [AV.ids,aI]) (fun i o h=>by cases h) (fun _ _ _ _=>trivial) qA ?_
  have q1:(4:Nat)≤maxLen:=by decide
  repeat' (first|(apply nx;with_reducible constructor)|refine uq (by decide) ?_|((first|refine vx env fun Q hQ=>?_|refine vz fun Q hQ=>?_);simp only [vkt,seval,Zf,Kv,List.map_cons,List.map_nil,tyX,tiII,tiSS,QeD];(try simp only [ite_and]);(repeat' (first|with_reducible assumption|refine And.intro ?_ ?_|intro hp));all_goals (first|(refine hQ _ ?_;clear hQ Q)|(refine hQ _ (fun h=>?_) (fun h=>?_) <;> clear hQ Q <;> (try simp only [vki,reduceCtorEq] at h))|(refine vq ?_;kernel_rfl)|omega|assumption|with_reducible rfl|skip)))
  simp only [QeD]
  (simp only [vrt,Tryz.results4,vkt,seval,Zf,Kv,List.map_cons,List.map_nil,tyX,tiII,tiSS,QeD];refine Fin.ok (fun j=>if j=0 then some 4 else if j=1 then some 7 else if j=2 then some 8 else if j=3 then some 9 else if j=4 then some 2 else if j=5 then some 3 else if j=6 then some 5 else if j=7 then some 6 else none) [] ?_ ?_ ?_ ?_ ?_ rfl;all_goals (try simp only [vle,vkt,seval,Zf,Kv,List.map_cons,List.map_nil,tyX,tiII,tiSS,QeD]))
  all_goals first|rfl|(simp;done)
def jW (_:St):List AV→Option Pk
  |[.v (.int .i64 g)]=>some { ar:=[.v (.int .i64 g)],v:=.agg [.row 0,.row 1,.row 2,.row 3],L1:=[some (.rows 24 [.row 4,.row 5]),some (.rows 32 [.row 6,.row 7]),some (.row 3 1 ([100,10].map qp)),some (.row 34 6 ((wZ g).entries.map yg)),some (.row 3 1 ([1,5,10].map qp)),some (.row 3 1 ([1,2].map qp)),some (.row 30 2 ([⟨1,1⟩,⟨3,2⟩].map eSh)),some (.row 30 2 ([⟨1,1⟩,⟨2,1⟩].map eSh))] }
  |_=>none
theorem eLdR {A:Frm→Prop}:qh A Tryz.prog 4 (fnE jW):=jC fun S bs q h hp=>by
  unfold jW at h
  split at h
  · rename_i g
    cases h;exact LB g
  · cases h
end Go.Sym.B
namespace Go.Sym.B
open Go Go.Sym Go.Proofs Go.Sym.C
def kM:Led:={ wZ 22 with rates:=[[⟨1,1⟩,⟨3,2⟩],[⟨1,1⟩,⟨4,2⟩]] }
def kV:Led:={ wZ 22 with entries:=[⟨0,1,1,0,20,0⟩,⟨0,3,1,0,31,22⟩,⟨1,2,0,0,30,0⟩,⟨1,4,1,0,14,0⟩] }
def vU:Led:={ wZ 22 with coins:=[[2,5,10],[1,2]] }
def kW:Led:={ wZ 22 with entries:=[⟨0,1,1,0,20,0⟩] }
theorem QeE:zB (wZ 22)=0∧zB kM=8∧zB kV=9∧zB vU=1:=⟨by kernel_rfl,by kernel_rfl,by kernel_rfl,by kernel_rfl⟩
theorem Qek:ZK (wZ 22) 0 1 15=.tup [aSh ⟨45,2⟩,aI 0]:=by kernel_rfl
theorem QfN:Js (wZ 22) 1 0 1 9=.tup [aI 4,aSh ⟨1,2⟩,aI 0]:=by kernel_rfl
theorem QeQ:Yi (wZ 22)=.tup [.sl ([⟨0,1⟩,⟨15,2⟩].map eSh),aI 0]:=by kernel_rfl
theorem QfK:JD (wZ 22) 0=.tup [ql [100,10],aI 0]∧JD (wZ 22) 2=.tup [ql [122,15],aI 0]∧JD (wZ 22) 4=.tup [ql [92,14],aI 0]:=⟨by kernel_rfl,by kernel_rfl,by kernel_rfl⟩
theorem QcR:QaM (wZ 22) 0 [2,1,3] 16=.tup [ql [1,1,1],aI 0]∧QaM (wZ 22) 0 [1,1,0] 7=.tup [.sl [],aI 11]:=⟨by kernel_rfl,by kernel_rfl⟩
theorem QhP:QcB (wZ 22) 0 [0,0,2] [4,1,0] 14=.tup [ql [0,0,2],ql [1,1,0],aI 0]:=by kernel_rfl
theorem QgA:VT (wZ 22) 0 1 0 15=.tup [ql [1,0],aI 22,aI 0]:=by kernel_rfl
theorem Qig:KR (wZ 22)=.tup [ql [],aI 0]∧KR (wZ 23)=.tup [ql [1],aI 0]:=⟨by kernel_rfl,by kernel_rfl⟩
theorem QeW:yK 10 [1,1,1]=.tup [ql [4,3,3],aI 0]∧yK 1 [0,0]=.tup [.sl [],aI 11]:=⟨by kernel_rfl,by kernel_rfl⟩
theorem Qfy:QT kW=([99,111,105,110,32,49,32,53,32,49,48,10,99,111,105,110,32,49,32,50,10,114,97,116,101,115,32,51,47,50,10,114,97,116,101,115,32,50,47,49,10,115,116,97,114,116,32,49,48,48,32,49,48,10,48,32,116,97,107,101,32,49,32,50,48,10,98,97,108,97,110,99,101,10],0):=by kernel_rfl
theorem Qh6:Fit kM∧Fit kV∧Fit vU∧Fit kW:=by
  refine ⟨⟨?_, ?_, ?_, ?_, ?_, ?_⟩,⟨?_, ?_, ?_, ?_, ?_, ?_⟩,⟨?_, ?_, ?_, ?_, ?_, ?_⟩,⟨?_, ?_, ?_, ?_, ?_, ?_⟩⟩ <;> first|decide|(intro p hp;simp [kM,kV,vU,kW,wZ] at hp;rcases hp with rfl|rfl <;> decide)
def jZ:List AV→Prop × AV
  |[.agg [.sl cs,.sl rs,.sl ss,.sl es],.v (.int .i64 c),.sl hs,.sl ds,.v (.int .i64 n)]=>(isL cs rs ss es∧Fit (zN cs rs ss es)∧hs=(hs.map qJ).map qp∧ds=(ds.map qJ).map qp∧(hs.map qJ).length≤20∧(ds.map qJ).length≤20,QcB (zN cs rs ss es) c (hs.map qJ) (ds.map qJ) n)
  |_=>(False,.junk)
theorem d73k {A:Frm→Prop}:qh A Tryz.prog 15 (qo false jZ):=qL fun vs hv h=>by
  clear hv
  unfold jZ at h ⊢
  split at h
  · obtain ⟨h1,h2,h3,h4,h5,h6⟩:=h
    refine ⟨by
        unfold QcB;split;· simp [AV.plain,AV.plainL,aI]
        · split <;> simp [AV.plain,AV.plainL,aI,ql],fun h=>absurd h (by decide), ?_⟩
    rename_i cs rs ss es c hs ds n
    have:=Qie (zN cs rs ss es) c (hs.map qJ) (ds.map qJ) n h2 h5 h6
    rw [← jD h1]
    simp only [ql,← h3,← h4] at this
    exact this
  · exact h.elim
end Go.Sym.B
namespace Go.Sym.B
open Go Go.Sym Go.Proofs Go.Sym.C
def knSr:St:={ t:=asg [(1,.ptr 0 0),(2,.ptr 1 0),(3,.ptr 2 0),(4,.ptr 3 0)],h:=qc [(0,.cells (zh kM)),(1,.cells (zh kV)),(2,.cells (zh vU)),(3,.cells [.sl ((wZ 22).coins.map zH),.sl ((wZ 22).rates.map kw),.sl ((wZ 22).start.map qp),.rsl 4 6 0 1]),(4,.row 34 6 ((wZ 22).entries.map yg))],n:=5 }
def knS0:St:={ t:=asg [(1,.ptr 0 0),(2,.ptr 1 0),(3,.ptr 2 0),(4,.ptr 3 0)],h:=qc [(0,.cells (zh kM)),(1,.cells (zh kV)),(2,.cells (zh vU)),(3,.cells (zh kW))],n:=4 }
def lpS (k:Nat):St:={ t:=asg [(4,.ptr 0 0),(12,.row 1),(13,.row 2),(14,aI k)],h:=qc [(0,.cells (zh kW)),(1,.row 3 1 ([0,2,4].map qp)),(2,.row 24 1 ([[100,10],[122,15],[92,14]].map zH))],n:=3 }
theorem yu (a b:Int):dSh [.v (.int .i64 a),.v (.int .i64 b)]=⟨a,b⟩:=rfl
theorem ec22:(⟨(wZ 22).coins,(wZ 22).rates,(wZ 22).start,(wZ 22).entries⟩:Led)=wZ 22:=rfl
theorem ec23:(⟨(wZ 23).coins,(wZ 23).rates,(wZ 23).start,(wZ 23).entries⟩:Led)=wZ 23:=rfl
theorem ecK:(⟨kM.coins,kM.rates,kM.start,kM.entries⟩:Led)=kM:=rfl
theorem ecM:(⟨kV.coins,kV.rates,kV.start,kV.entries⟩:Led)=kV:=rfl
theorem ecP:(⟨vU.coins,vU.rates,vU.start,vU.entries⟩:Led)=vU:=rfl
theorem ecL:(⟨kW.coins,kW.rates,kW.start,kW.entries⟩:Led)=kW:=rfl
def qM:=vj @ty3 (vj @ty9 (vj @QA (vj @YB (vj @jL (vj @V8 (vj @xm (vj @JP (vj @Wt (vj @JI (vj @QJ (vj @ti3.eq_1 (vj @ti9.eq_1 (vj @kP.eq_1 (vj @WO.eq_1 (vj @jG.eq_1 (vj @J4.eq_1 (vj @vG.eq_1 (vj @Wu.eq_1 (vj @Zo.eq_1 (vj @Wv.eq_1 @Qe.eq_1))))))))))))))))))))
def zy:=vj @Qel (vj @aI.eq_1 (vj @aB.eq_1 (vj @aSh.eq_1 (vj @ql.eq_1 (vj @zh.eq_1 (vj @zL.eq_1 (vj @qp.eq_1 (vj @eSh.eq_1 (vj @yg.eq_1 (vj @zH.eq_1 (vj @kw.eq_1 (vj @s40.eq_1 (vj @s40.eq_2 (vj @c76.eq_1 (vj @c76.eq_2 (vj @c50.eq_1 (vj @c50.eq_2 (vj @Y0.eq_1 (vj @Y0.eq_2 (vj @c48.eq_1 (vj @c48.eq_2 (vj @c38.eq_1 (vj @c38.eq_2 (vj @c59.eq_1 (vj @c59.eq_2 (vj @c31.eq_1 (vj @c31.eq_2 (vj @c24.eq_1 (vj @c24.eq_2 (vj @c19.eq_1 (vj @c19.eq_2 (vj @s26.eq_1 (vj @s26.eq_2 (vj @c57.eq_1 (vj @c57.eq_2 (vj @yT (vj @jO (vj @vH (vj @xC (vj @Kq (vj @mSh (vj @WL (vj @rSh (vj @Uk (@decide_true)))))))))))))))))))))))))))))))))))))))))))))
set_option maxRecDepth 100000 in
set_option maxHeartbeats 40000000 in
theorem known_fn:Fn (VX TabT) Tryz.prog 3 [] noH (aB true) noH 0:=by
  have env:Env (YA TabT) Tryz.prog tyB (tab [(4,fnE jW),(5,qo true s40)]):=qY ⟨eLdR,e40,trivial⟩
  refine Fn.of (A:=YA TabT) (n0:=0) (D:=noD) (Fn0 Tryz.func3 rfl (fun vs w=>by kernel_rfl) (by kernel_rfl)) (by simp) (by simp) (fun i o h=>by cases h) (fun _ hB _ _=>hB) qA ?_
  repeat' (first|(apply nx;with_reducible constructor)|refine uq (by decide) ?_)
  (refine vx env fun Q hQ=>?_;simp only [vkt,seval,qM,zy,yu,eq_self,zK,aS,jW,c69,jZ,c62,zM,List.map_cons,List.map_nil,List.set_cons_succ,List.set_cons_zero,List.getD_cons_succ,List.getD_cons_zero,List.length_cons,List.length_nil,Bool.not_true];(try simp only [ite_and]);(repeat' (first|with_reducible assumption|refine And.intro ?_ ?_|intro hp));all_goals (first|(refine hQ _ ?_;clear hQ Q)|(refine vq ?_;kernel_rfl)|omega|assumption|with_reducible rfl|skip))
  repeat' (first|(apply nx;with_reducible constructor)|refine uq (by decide) ?_)
  (refine vx env fun Q hQ=>?_;simp only [vkt,seval,qM,zy,yu,eq_self,zK,aS,jW,c69,jZ,c62,zM,List.map_cons,List.map_nil,List.set_cons_succ,List.set_cons_zero,List.getD_cons_succ,List.getD_cons_zero,List.length_cons,List.length_nil,Bool.not_true,wZ];(try simp only [ite_and]);(repeat' (first|with_reducible assumption|refine And.intro ?_ ?_|intro hp));all_goals (first|(refine hQ _ ?_;clear hQ Q)|(refine vq ?_;kernel_rfl)|omega|assumption|with_reducible rfl|skip))
  repeat' (first|(apply nx;with_reducible constructor)|refine uq (by decide) ?_)
  (refine vx env fun Q hQ=>?_;simp only [vkt,seval,qM,zy,yu,eq_self,zK,aS,jW,c69,jZ,c62,zM,List.map_cons,List.map_nil,List.set_cons_succ,List.set_cons_zero,List.getD_cons_succ,List.getD_cons_zero,List.length_cons,List.length_nil,Bool.not_true,wZ];(try simp only [ite_and]);(repeat' (first|with_reducible assumption|refine And.intro ?_ ?_|intro hp));all_goals (first|(refine hQ _ ?_;clear hQ Q)|(refine vq ?_;kernel_rfl)|omega|assumption|with_reducible rfl|skip))
  repeat' (first|(apply nx;with_reducible constructor)|refine uq (by decide) ?_)
  refine (J7 (?_:Le _ knSr) ?_:Sym _ _ _ _ _)
  · simp only [knSr,kM,kV,vU,wZ]
    (refine Le.ok (fun j=>if j=0 then some 32 else if j=1 then some 33 else if j=2 then some 34 else if j=3 then some 35 else if j=4 then some 27 else none) [0,1,2,3,4,5,6,7,8,9,10,11,12,13,14,15,16,17,18,19,20,21,22,23,24,25,26,28,29,30,31] ?_;constructor;all_goals (try simp only [vle,vkt,seval,qM,zy,yu,eq_self,zK,aS,jW,c69,jZ,c62,zM,List.map_cons,List.map_nil,List.set_cons_succ,List.set_cons_zero,List.getD_cons_succ,List.getD_cons_zero,List.length_cons,List.length_nil,Bool.not_true]))
    all_goals first|rfl|(simp;done)
  refine (J7 (Qd5 (S:=knSr) (c0:=3) (p:=3) (id:=4) (k:=6) (n:=1) (xs:=(wZ 22).entries.map yg) rfl rfl rfl (by decide)) ?_:Sym _ _ _ _ _)
  refine (J7 (?_:Le _ knS0) ?_:Sym _ _ _ _ _)
  · simp only [knSr,knS0,kW,wZ]
    (refine Le.ok some [5] ?_;constructor;all_goals (try simp only [vle,vkt,seval,qM,zy,yu,eq_self,zK,aS,jW,c69,jZ,c62,zM,List.map_cons,List.map_nil,List.set_cons_succ,List.set_cons_zero,List.getD_cons_succ,List.getD_cons_zero,List.length_cons,List.length_nil,Bool.not_true]))
    all_goals first|rfl|exact ⟨rfl,rfl,_,_,rfl⟩|(simp;done)
  clear env
  have env:Env (YA TabT) Tryz.prog tyB (tab [(4,qo false c76),(5,qo true s40),(6,qo true c19),(7,qo true c50),(8,qo true Y0),(9,qo true c48),(10,qo false c38),(12,qo false c59),(14,qo false c69),(15,qo false jZ),(16,qo false c62),(17,qo false c31),(18,qo false c24),(19,qo true zM),(13,qo true s26),(11,qo true c57)]):=qY ⟨d76,e40,d19,d50,d46,d48,d38,d58,d69,d73k,d62,d31,d24,Qhl,e26,d57,trivial⟩
  have f1:=fitW 22
  have f2:=fitW 23
  obtain ⟨g1,g2,g3,g4⟩:=Qh6
  obtain ⟨h1,h2,h3,h4⟩:=QeE
  simp only [knS0]
  have m3:(3:Nat)≤maxLen:=by decide
  have m2:(2:Nat)≤maxLen:=by decide
  have m1:(1:Nat)≤maxLen:=by decide
  (refine vx env fun Q hQ=>?_;simp only [vkt,seval,qM,zy,yu,eq_self,zK,aS,jW,c69,jZ,c62,zM,List.map_cons,List.map_nil,List.set_cons_succ,List.set_cons_zero,List.getD_cons_succ,List.getD_cons_zero,List.length_cons,List.length_nil,Bool.not_true,ec22,ec23,ecK,ecM,ecP,f1,g1,g2,g3,h1,h2,h3,h4];(try simp only [ite_and]);(repeat' (first|with_reducible assumption|refine And.intro ?_ ?_|intro hp));all_goals (first|(refine hQ _ ?_;clear hQ Q)|(refine vq ?_;kernel_rfl)|omega|assumption|with_reducible rfl|skip))
  repeat' (first|(apply nx;with_reducible constructor)|refine uq (by decide) ?_)
  (refine wh (by simp only [vkt,seval,qM,zy,yu,eq_self,zK,aS,jW,c69,jZ,c62,zM,List.map_cons,List.map_nil,List.set_cons_succ,List.set_cons_zero,List.getD_cons_succ,List.getD_cons_zero,List.length_cons,List.length_nil,Bool.not_true];rfl) (fun h=>?_) (fun h=>?_) <;> (try simp only [vki,reduceCtorEq] at h))
  repeat' (first|(apply nx;with_reducible constructor)|refine uq (by decide) ?_)
  (refine vx env fun Q hQ=>?_;simp only [vkt,seval,qM,zy,yu,eq_self,zK,aS,jW,c69,jZ,c62,zM,List.map_cons,List.map_nil,List.set_cons_succ,List.set_cons_zero,List.getD_cons_succ,List.getD_cons_zero,List.length_cons,List.length_nil,Bool.not_true,f1,Qek];(try simp only [ite_and]);(repeat' (first|with_reducible assumption|refine And.intro ?_ ?_|intro hp));all_goals (first|(refine hQ _ ?_;clear hQ Q)|(refine vq ?_;kernel_rfl)|omega|assumption|with_reducible rfl|skip))
  repeat' (first|(apply nx;with_reducible constructor)|refine uq (by decide) ?_)
  (refine vx env fun Q hQ=>?_;simp only [vkt,seval,qM,zy,yu,eq_self,zK,aS,jW,c69,jZ,c62,zM,List.map_cons,List.map_nil,List.set_cons_succ,List.set_cons_zero,List.getD_cons_succ,List.getD_cons_zero,List.length_cons,List.length_nil,Bool.not_true,f1,QfN];(try simp only [ite_and]);(repeat' (first|with_reducible assumption|refine And.intro ?_ ?_|intro hp));all_goals (first|(refine hQ _ ?_;clear hQ Q)|(refine vq ?_;kernel_rfl)|omega|assumption|with_reducible rfl|skip))
  repeat' (first|(apply nx;with_reducible constructor)|refine uq (by decide) ?_)
  have q5:([⟨0,1⟩,⟨15,2⟩]:List Sh).length≤100000:=by decide
  (refine vx env fun Q hQ=>?_;simp only [vkt,seval,qM,zy,yu,eq_self,zK,aS,jW,c69,jZ,c62,zM,List.map_cons,List.map_nil,List.set_cons_succ,List.set_cons_zero,List.getD_cons_succ,List.getD_cons_zero,List.length_cons,List.length_nil,Bool.not_true,f1,QeQ];(try simp only [ite_and]);(repeat' (first|with_reducible assumption|refine And.intro ?_ ?_|intro hp));all_goals (first|(refine hQ _ ?_;clear hQ Q)|(refine vq ?_;kernel_rfl)|omega|assumption|with_reducible rfl|skip))
  repeat' (first|(apply nx;with_reducible constructor)|refine uq (by decide) ?_)
  (refine vx env fun Q hQ=>?_;simp only [vkt,seval,qM,zy,yu,eq_self,zK,aS,jW,c69,jZ,c62,zM,List.map_cons,List.map_nil,List.set_cons_succ,List.set_cons_zero,List.getD_cons_succ,List.getD_cons_zero,List.length_cons,List.length_nil,Bool.not_true,q5];(try simp only [ite_and]);(repeat' (first|with_reducible assumption|refine And.intro ?_ ?_|intro hp));all_goals (first|(refine hQ _ ?_;clear hQ Q)|(refine vq ?_;kernel_rfl)|omega|assumption|with_reducible rfl|skip))
  repeat' (first|(apply nx;with_reducible constructor)|refine uq (by decide) ?_)
  (refine wh (by simp only [vkt,seval,qM,zy,yu,eq_self,zK,aS,jW,c69,jZ,c62,zM,List.map_cons,List.map_nil,List.set_cons_succ,List.set_cons_zero,List.getD_cons_succ,List.getD_cons_zero,List.length_cons,List.length_nil,Bool.not_true];rfl) (fun h=>?_) (fun h=>?_) <;> (try simp only [vki,reduceCtorEq] at h))
  repeat' (first|(apply nx;with_reducible constructor)|refine uq (by decide) ?_)
  (refine vx env fun Q hQ=>?_;simp only [vkt,seval,qM,zy,yu,eq_self,zK,aS,jW,c69,jZ,c62,zM,List.map_cons,List.map_nil,List.set_cons_succ,List.set_cons_zero,List.getD_cons_succ,List.getD_cons_zero,List.length_cons,List.length_nil,Bool.not_true,m3];(try simp only [ite_and]);(repeat' (first|with_reducible assumption|refine And.intro ?_ ?_|intro hp));all_goals (first|(refine hQ _ ?_;clear hQ Q)|(refine vq ?_;kernel_rfl)|omega|assumption|with_reducible rfl|skip))
  repeat' (first|(apply nx;with_reducible constructor)|refine uq (by decide) ?_)
  (refine vx env fun Q hQ=>?_;simp only [vkt,seval,qM,zy,yu,eq_self,zK,aS,jW,c69,jZ,c62,zM,List.map_cons,List.map_nil,List.set_cons_succ,List.set_cons_zero,List.getD_cons_succ,List.getD_cons_zero,List.length_cons,List.length_nil,Bool.not_true];(try simp only [ite_and]);(repeat' (first|with_reducible assumption|refine And.intro ?_ ?_|intro hp));all_goals (first|(refine hQ _ ?_;clear hQ Q)|(refine vq ?_;kernel_rfl)|omega|assumption|with_reducible rfl|skip))
  repeat' (first|(apply nx;with_reducible constructor)|refine uq (by decide) ?_)
  refine qz (fun s:{ s:Nat // s≤3 }=>lpS s.1) (fun s=>3 - s.1) ⟨0,Nat.zero_le _⟩ ?_ fun ⟨k,hk⟩=>?_
  · simp only [lpS]
    (refine Le.ok (fun j=>if j=0 then some 3 else if j=1 then some 7 else if j=2 then some 11 else none) [] ?_;constructor;all_goals (try simp only [vle,vkt,seval,qM,zy,yu,eq_self,zK,aS,jW,c69,jZ,c62,zM,List.map_cons,List.map_nil,List.set_cons_succ,List.set_cons_zero,List.getD_cons_succ,List.getD_cons_zero,List.length_cons,List.length_nil,Bool.not_true]))
    all_goals first|rfl|(simp;done)
  obtain ⟨t0,t1,t2⟩:=QfK
  simp only [lpS]
  rcases (show k=0∨k=1∨k=2∨k=3 by omega) with rfl|rfl|rfl|rfl
  · repeat' (first|(apply nx;with_reducible constructor)|refine uq (by decide) ?_|((first|refine vx env fun Q hQ=>?_|refine vz fun Q hQ=>?_);simp only [vkt,seval,qM,zy,yu,eq_self,zK,aS,jW,c69,jZ,c62,zM,List.map_cons,List.map_nil,List.set_cons_succ,List.set_cons_zero,List.getD_cons_succ,List.getD_cons_zero,List.length_cons,List.length_nil,Bool.not_true,f1,t0,m2];(try simp only [ite_and]);(repeat' (first|with_reducible assumption|refine And.intro ?_ ?_|intro hp));all_goals (first|(refine hQ _ ?_;clear hQ Q)|(refine hQ _ (fun h=>?_) (fun h=>?_) <;> clear hQ Q <;> (try simp only [vki,reduceCtorEq] at h))|(refine vq ?_;kernel_rfl)|omega|assumption|with_reducible rfl|skip)))
    refine ⟨⟨1,by decide⟩,by decide, ?_⟩
    simp only [lpS]
    (refine Le.ok some [] ?_;constructor;all_goals (try simp only [vle,vkt,seval,qM,zy,yu,eq_self,zK,aS,jW,c69,jZ,c62,zM,List.map_cons,List.map_nil,List.set_cons_succ,List.set_cons_zero,List.getD_cons_succ,List.getD_cons_zero,List.length_cons,List.length_nil,Bool.not_true]))
    all_goals first|rfl|(simp;done)
  · repeat' (first|(apply nx;with_reducible constructor)|refine uq (by decide) ?_|((first|refine vx env fun Q hQ=>?_|refine vz fun Q hQ=>?_);simp only [vkt,seval,qM,zy,yu,eq_self,zK,aS,jW,c69,jZ,c62,zM,List.map_cons,List.map_nil,List.set_cons_succ,List.set_cons_zero,List.getD_cons_succ,List.getD_cons_zero,List.length_cons,List.length_nil,Bool.not_true,f1,t1,m2];(try simp only [ite_and]);(repeat' (first|with_reducible assumption|refine And.intro ?_ ?_|intro hp));all_goals (first|(refine hQ _ ?_;clear hQ Q)|(refine hQ _ (fun h=>?_) (fun h=>?_) <;> clear hQ Q <;> (try simp only [vki,reduceCtorEq] at h))|(refine vq ?_;kernel_rfl)|omega|assumption|with_reducible rfl|skip)))
    refine ⟨⟨2,by decide⟩,by decide, ?_⟩
    simp only [lpS]
    (refine Le.ok some [] ?_;constructor;all_goals (try simp only [vle,vkt,seval,qM,zy,yu,eq_self,zK,aS,jW,c69,jZ,c62,zM,List.map_cons,List.map_nil,List.set_cons_succ,List.set_cons_zero,List.getD_cons_succ,List.getD_cons_zero,List.length_cons,List.length_nil,Bool.not_true]))
    all_goals first|rfl|(simp;done)
  · repeat' (first|(apply nx;with_reducible constructor)|refine uq (by decide) ?_|((first|refine vx env fun Q hQ=>?_|refine vz fun Q hQ=>?_);simp only [vkt,seval,qM,zy,yu,eq_self,zK,aS,jW,c69,jZ,c62,zM,List.map_cons,List.map_nil,List.set_cons_succ,List.set_cons_zero,List.getD_cons_succ,List.getD_cons_zero,List.length_cons,List.length_nil,Bool.not_true,f1,t2,m2];(try simp only [ite_and]);(repeat' (first|with_reducible assumption|refine And.intro ?_ ?_|intro hp));all_goals (first|(refine hQ _ ?_;clear hQ Q)|(refine hQ _ (fun h=>?_) (fun h=>?_) <;> clear hQ Q <;> (try simp only [vki,reduceCtorEq] at h))|(refine vq ?_;kernel_rfl)|omega|assumption|with_reducible rfl|skip)))
    refine ⟨⟨3,by decide⟩,by decide, ?_⟩
    simp only [lpS]
    (refine Le.ok some [] ?_;constructor;all_goals (try simp only [vle,vkt,seval,qM,zy,yu,eq_self,zK,aS,jW,c69,jZ,c62,zM,List.map_cons,List.map_nil,List.set_cons_succ,List.set_cons_zero,List.getD_cons_succ,List.getD_cons_zero,List.length_cons,List.length_nil,Bool.not_true]))
    all_goals first|rfl|(simp;done)
  obtain ⟨c1,c2⟩:=QcR
  obtain ⟨b1,b2⟩:=Qig
  obtain ⟨s1,s2⟩:=QeW
  have l20:(3:Nat)≤20:=by decide
  repeat' (first|(apply nx;with_reducible constructor)|refine uq (by decide) ?_)
  (refine vx env fun Q hQ=>?_;simp only [vkt,seval,qM,zy,yu,eq_self,zK,aS,jW,c69,jZ,c62,zM,List.map_cons,List.map_nil,List.set_cons_succ,List.set_cons_zero,List.getD_cons_succ,List.getD_cons_zero,List.length_cons,List.length_nil,Bool.not_true];(try simp only [ite_and]);(repeat' (first|with_reducible assumption|refine And.intro ?_ ?_|intro hp));all_goals (first|(refine hQ _ ?_;clear hQ Q)|(refine vq ?_;kernel_rfl)|omega|assumption|with_reducible rfl|skip))
  repeat' (first|(apply nx;with_reducible constructor)|refine uq (by decide) ?_)
  (refine wh (by simp only [vkt,seval,qM,zy,yu,eq_self,zK,aS,jW,c69,jZ,c62,zM,List.map_cons,List.map_nil,List.set_cons_succ,List.set_cons_zero,List.getD_cons_succ,List.getD_cons_zero,List.length_cons,List.length_nil,Bool.not_true];rfl) (fun h=>?_) (fun h=>?_) <;> (try simp only [vki,reduceCtorEq] at h))
  repeat' (first|(apply nx;with_reducible constructor)|refine uq (by decide) ?_)
  (refine vx env fun Q hQ=>?_;simp only [vkt,seval,qM,zy,yu,eq_self,zK,aS,jW,c69,jZ,c62,zM,List.map_cons,List.map_nil,List.set_cons_succ,List.set_cons_zero,List.getD_cons_succ,List.getD_cons_zero,List.length_cons,List.length_nil,Bool.not_true,f1,c1,m3];(try simp only [ite_and]);(repeat' (first|with_reducible assumption|refine And.intro ?_ ?_|intro hp));all_goals (first|(refine hQ _ ?_;clear hQ Q)|(refine vq ?_;kernel_rfl)|omega|assumption|with_reducible rfl|skip))
  repeat' (first|(apply nx;with_reducible constructor)|refine uq (by decide) ?_)
  (refine vx env fun Q hQ=>?_;simp only [vkt,seval,qM,zy,yu,eq_self,zK,aS,jW,c69,jZ,c62,zM,List.map_cons,List.map_nil,List.set_cons_succ,List.set_cons_zero,List.getD_cons_succ,List.getD_cons_zero,List.length_cons,List.length_nil,Bool.not_true,f1,c2,m3];(try simp only [ite_and]);(repeat' (first|with_reducible assumption|refine And.intro ?_ ?_|intro hp));all_goals (first|(refine hQ _ ?_;clear hQ Q)|(refine vq ?_;kernel_rfl)|omega|assumption|with_reducible rfl|skip))
  repeat' (first|(apply nx;with_reducible constructor)|refine uq (by decide) ?_)
  have hp:=QhP
  (refine vx env fun Q hQ=>?_;simp only [vkt,seval,qM,zy,yu,eq_self,zK,aS,jW,c69,jZ,c62,zM,List.map_cons,List.map_nil,List.set_cons_succ,List.set_cons_zero,List.getD_cons_succ,List.getD_cons_zero,List.length_cons,List.length_nil,Bool.not_true,f1,hp,m3];(try simp only [ite_and]);(repeat' (first|with_reducible assumption|refine And.intro ?_ ?_|intro hp));all_goals (first|(refine hQ _ ?_;clear hQ Q)|(refine vq ?_;kernel_rfl)|omega|assumption|with_reducible rfl|skip))
  repeat' (first|(apply nx;with_reducible constructor)|refine uq (by decide) ?_)
  have hb:=QgA
  (refine vx env fun Q hQ=>?_;simp only [vkt,seval,qM,zy,yu,eq_self,zK,aS,jW,c69,jZ,c62,zM,List.map_cons,List.map_nil,List.set_cons_succ,List.set_cons_zero,List.getD_cons_succ,List.getD_cons_zero,List.length_cons,List.length_nil,Bool.not_true,f1,hb];(try simp only [ite_and]);(repeat' (first|with_reducible assumption|refine And.intro ?_ ?_|intro hp));all_goals (first|(refine hQ _ ?_;clear hQ Q)|(refine vq ?_;kernel_rfl)|omega|assumption|with_reducible rfl|skip))
  repeat' (first|(apply nx;with_reducible constructor)|refine uq (by decide) ?_)
  (refine vx env fun Q hQ=>?_;simp only [vkt,seval,qM,zy,yu,eq_self,zK,aS,jW,c69,jZ,c62,zM,List.map_cons,List.map_nil,List.set_cons_succ,List.set_cons_zero,List.getD_cons_succ,List.getD_cons_zero,List.length_cons,List.length_nil,Bool.not_true,m3,m2];(try simp only [ite_and]);(repeat' (first|with_reducible assumption|refine And.intro ?_ ?_|intro hp));all_goals (first|(refine hQ _ ?_;clear hQ Q)|(refine vq ?_;kernel_rfl)|omega|assumption|with_reducible rfl|skip))
  repeat' (first|(apply nx;with_reducible constructor)|refine uq (by decide) ?_)
  (refine wh (by simp only [vkt,seval,qM,zy,yu,eq_self,zK,aS,jW,c69,jZ,c62,zM,List.map_cons,List.map_nil,List.set_cons_succ,List.set_cons_zero,List.getD_cons_succ,List.getD_cons_zero,List.length_cons,List.length_nil,Bool.not_true];rfl) (fun h=>?_) (fun h=>?_) <;> (try simp only [vki,reduceCtorEq] at h))
  repeat' (first|(apply nx;with_reducible constructor)|refine uq (by decide) ?_)
  (refine vx env fun Q hQ=>?_;simp only [vkt,seval,qM,zy,yu,eq_self,zK,aS,jW,c69,jZ,c62,zM,List.map_cons,List.map_nil,List.set_cons_succ,List.set_cons_zero,List.getD_cons_succ,List.getD_cons_zero,List.length_cons,List.length_nil,Bool.not_true,f1,b1];(try simp only [ite_and]);(repeat' (first|with_reducible assumption|refine And.intro ?_ ?_|intro hp));all_goals (first|(refine hQ _ ?_;clear hQ Q)|(refine vq ?_;kernel_rfl)|omega|assumption|with_reducible rfl|skip))
  repeat' (first|(apply nx;with_reducible constructor)|refine uq (by decide) ?_)
  (refine vx env fun Q hQ=>?_;simp only [vkt,seval,qM,zy,yu,eq_self,zK,aS,jW,c69,jZ,c62,zM,List.map_cons,List.map_nil,List.set_cons_succ,List.set_cons_zero,List.getD_cons_succ,List.getD_cons_zero,List.length_cons,List.length_nil,Bool.not_true,f2,b2];(try simp only [ite_and]);(repeat' (first|with_reducible assumption|refine And.intro ?_ ?_|intro hp));all_goals (first|(refine hQ _ ?_;clear hQ Q)|(refine vq ?_;kernel_rfl)|omega|assumption|with_reducible rfl|skip))
  repeat' (first|(apply nx;with_reducible constructor)|refine uq (by decide) ?_)
  (refine vx env fun Q hQ=>?_;simp only [vkt,seval,qM,zy,yu,eq_self,zK,aS,jW,c69,jZ,c62,zM,List.map_cons,List.map_nil,List.set_cons_succ,List.set_cons_zero,List.getD_cons_succ,List.getD_cons_zero,List.length_cons,List.length_nil,Bool.not_true,s1,m3];(try simp only [ite_and]);(repeat' (first|with_reducible assumption|refine And.intro ?_ ?_|intro hp));all_goals (first|(refine hQ _ ?_;clear hQ Q)|(refine vq ?_;kernel_rfl)|omega|assumption|with_reducible rfl|skip))
  repeat' (first|(apply nx;with_reducible constructor)|refine uq (by decide) ?_)
  (refine vx env fun Q hQ=>?_;simp only [vkt,seval,qM,zy,yu,eq_self,zK,aS,jW,c69,jZ,c62,zM,List.map_cons,List.map_nil,List.set_cons_succ,List.set_cons_zero,List.getD_cons_succ,List.getD_cons_zero,List.length_cons,List.length_nil,Bool.not_true,s2,m2];(try simp only [ite_and]);(repeat' (first|with_reducible assumption|refine And.intro ?_ ?_|intro hp));all_goals (first|(refine hQ _ ?_;clear hQ Q)|(refine vq ?_;kernel_rfl)|omega|assumption|with_reducible rfl|skip))
  repeat' (first|(apply nx;with_reducible constructor)|refine uq (by decide) ?_)
  have hw:=Qfy
  (refine vx env fun Q hQ=>?_;simp only [vkt,seval,qM,zy,yu,eq_self,zK,aS,jW,c69,jZ,c62,zM,List.map_cons,List.map_nil,List.set_cons_succ,List.set_cons_zero,List.getD_cons_succ,List.getD_cons_zero,List.length_cons,List.length_nil,Bool.not_true,ecL,g4,hw];(try simp only [ite_and]);(repeat' (first|with_reducible assumption|refine And.intro ?_ ?_|intro hp));all_goals (first|(refine hQ _ ?_;clear hQ Q)|(refine vq ?_;kernel_rfl)|omega|assumption|with_reducible rfl|skip))
  repeat' (first|(apply nx;with_reducible constructor)|refine uq (by decide) ?_)
  (refine vx env fun Q hQ=>?_;simp only [vkt,seval,qM,zy,yu,eq_self,zK,aS,jW,c69,jZ,c62,zM,List.map_cons,List.map_nil,List.set_cons_succ,List.set_cons_zero,List.getD_cons_succ,List.getD_cons_zero,List.length_cons,List.length_nil,Bool.not_true,m3,m1];(try simp only [ite_and]);(repeat' (first|with_reducible assumption|refine And.intro ?_ ?_|intro hp));all_goals (first|(refine hQ _ ?_;clear hQ Q)|(refine vq ?_;kernel_rfl)|omega|assumption|with_reducible rfl|skip))
  repeat' (first|(apply nx;with_reducible constructor)|refine uq (by decide) ?_)
  (simp only [vrt,Tryz.results3,vkt,seval,qM,zy,yu,eq_self,zK,aS,jW,c69,jZ,c62,zM,List.map_cons,List.map_nil,List.set_cons_succ,List.set_cons_zero,List.getD_cons_succ,List.getD_cons_zero,List.length_cons,List.length_nil,Bool.not_true];refine Fin.val rfl ?_;(try simp only [AV.le,AV.leL]))
  all_goals first|rfl|(simp;done)
end Go.Sym.B
