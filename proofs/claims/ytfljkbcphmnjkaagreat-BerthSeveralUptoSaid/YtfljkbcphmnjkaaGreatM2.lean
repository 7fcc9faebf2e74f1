/- Walks and what they compute, joined: part 2. -/
import Derived.Test.YtfljkbcphmnjkaaGreatMB3
import Derived.Test.YtfljkbcphmnjkaaGreatM1
set_option linter.all false
namespace Go.Sym.B
open Go Go.Sym Go.Proofs Go.Sym.C
theorem QiE (c:Chart) (a:Ask) (hs:c.sold.length≤100) (ha:a.sexes.length≤maxLen):FnV Tryz.prog 105 [qd c,qI a] (aI (wu c a)):=by
 have env:Env (fun _=>True) Tryz.prog tyB (tab [(83,qG true yl),(84,qG true Wl)]):=qA ⟨Qdw,QkS,trivial⟩
 refine Fn.of (A:=fun _=>True) (n0:=0) (D:=noD) (Fn0 Tryz.func105 rfl (fun vs w=>by kernel_rfl) (by kernel_rfl)) (by simp) (by simp [AV.ids,AV.idsL,qd,qa,qI,qg]) (fun i o h=>by cases h) (fun _ _ _ _=>trivial) qw ?_
 have ec:(⟨c.cabins,c.secs,c.sold⟩:Chart)=c:=rfl
 have hmx:maxLen=9223372036854775807:=by decide
 cases h1:inB a.party 1 99 with
 |false =>
  rw [show wu c a=1 by simp [wu,h1]]
  repeat' (first|(apply nx;with_reducible constructor)|refine uq (by decide) ?_|((first|refine vx env fun Q hQ=>?_|refine vz fun Q hQ=>?_);simp only [vkt,seval,wS,wG,qd,qa,qI,qg,yl,h1,ite_and];(repeat' first|with_reducible assumption|apply kk|intro hp);all_goals (first|(refine hQ _ ?_;clear hQ Q)|(refine hQ _ (fun h=>?_) (fun h=>?_) <;> clear hQ Q <;> (try simp only [reduceCtorEq] at h))|(refine vq ?_;kernel_rfl)|omega|assumption|with_reducible rfl|skip)))
  (simp only [vrt,Tryz.results105,vkt,seval,wG];refine Fin.val rfl ?_;(try simp only [AV.le]))
  all_goals first|rfl|simp
 |true =>
 repeat' (first|(apply nx;with_reducible constructor)|refine uq (by decide) ?_|((first|refine vx env fun Q hQ=>?_|refine vz fun Q hQ=>?_);simp only [vkt,seval,wS,wG,qd,qa,qI,qg,yl,h1,ite_and];(repeat' first|with_reducible assumption|apply kk|intro hp);all_goals (first|(refine hQ _ ?_;clear hQ Q)|(refine hQ _ (fun h=>?_) (fun h=>?_) <;> clear hQ Q <;> (try simp only [reduceCtorEq] at h))|(refine vq ?_;kernel_rfl)|omega|assumption|with_reducible rfl|skip)))
 refine qC (fun k:{ k:Nat // k≤c.sold.length∧∀ j,j < k→decide ((c.sold.getD j default).party=a.party)=false }=>raS c a [(5,aI k.1)]) (fun k=>c.sold.length - k.1) ⟨0,Nat.zero_le _,fun j h=>absurd h (Nat.not_lt_zero _)⟩ ?_ fun ⟨k,hk,hno⟩=>?_
 ·simp only [raS,List.cons_append,List.nil_append]
  (refine Le.ok some [] ?_;constructor;all_goals (try simp only [vle,vkt,seval,wG,qa,qg]))
  all_goals first|rfl|simp
 simp only at hk hno ⊢
 simp only [raS,List.cons_append,List.nil_append]
 by_cases hlt:k < c.sold.length
 ·have d1:decide ((k:Int) < (c.sold.length:Int))=true:=decide_eq_true (by omega)
  have k0:((k:Int)).toNat=k:=rfl
  have e9:=k9 k (by omega)
  have hg:=hTk hlt
  obtain ⟨x,hx⟩:∃ x,c.sold.getD k default=x:=⟨_,rfl⟩
  rw [hx] at hg
  cases hp:decide (x.party=a.party) with
  |true =>
   have h2:c.sold.any (fun t=>decide (t.party=a.party))=true:=Vd (d:=default) hlt (by rw [hx];exact hp)
   rw [show wu c a=4 by simp only [wu,h1,h2];rfl]
   repeat' (first|(apply nx;with_reducible constructor)|refine uq (by decide) ?_|((first|refine vx env fun Q hQ=>?_|refine vz fun Q hQ=>?_);simp only [vkt,seval,wS,wG,gTk,eTk,qa,qg,d1,k0,hlt,hx,hp,ite_and];(repeat' first|with_reducible assumption|apply kk|intro hp);all_goals (first|(refine hQ _ ?_;clear hQ Q)|(refine hQ _ (fun h=>?_) (fun h=>?_) <;> clear hQ Q <;> (try simp only [reduceCtorEq] at h))|(refine vq ?_;kernel_rfl)|omega|assumption|with_reducible rfl|skip)))
   (simp only [vrt,Tryz.results105,vkt,seval,wG];refine Fin.val rfl ?_;(try simp only [AV.le]))
   all_goals first|rfl|simp
  |false =>
   repeat' (first|(apply nx;with_reducible constructor)|refine uq (by decide) ?_|((first|refine vx env fun Q hQ=>?_|refine vz fun Q hQ=>?_);simp only [vkt,seval,wS,wG,gTk,eTk,qa,qg,d1,k0,hlt,hx,hp,e9,ite_and];(repeat' first|with_reducible assumption|apply kk|intro hp);all_goals (first|(refine hQ _ ?_;clear hQ Q)|(refine hQ _ (fun h=>?_) (fun h=>?_) <;> clear hQ Q <;> (try simp only [reduceCtorEq] at h))|(refine vq ?_;kernel_rfl)|omega|assumption|with_reducible rfl|skip)))
   refine ⟨⟨k+1,hlt,fun j hj=>?_⟩,by show c.sold.length - (k+1) < c.sold.length - k;omega, ?_⟩
   ·rcases Nat.lt_or_eq_of_le (Nat.le_of_lt_succ hj) with h2|h2
    ·exact hno j h2
    ·rw [h2,hx];exact hp
   ·simp only []
    (refine Le.ok some [] ?_;constructor;all_goals (try simp only [vle,vkt,seval,wG,qa,qg]))
    all_goals first|rfl|simp
 ·have d1:decide ((k:Int) < (c.sold.length:Int))=false:=decide_eq_false (by omega)
  obtain rfl:k=c.sold.length:=by omega
  have h2:c.sold.any (fun t=>decide (t.party=a.party))=false:=V8 hno
  obtain ⟨w,hw⟩:∃ w,xY c.secs a.frm a.to=w:=⟨_,rfl⟩
  by_cases hw0:w=0
  case neg =>
   rw [show wu c a=w by unfold wu;rw [h1,h2,hw];simp [hw0]]
   have d2:decide (w=0)=false:=decide_eq_false hw0
   repeat' (first|(apply nx;with_reducible constructor)|refine uq (by decide) ?_|((first|refine vx env fun Q hQ=>?_|refine vz fun Q hQ=>?_);simp only [vkt,seval,wS,wG,mTk,qy,qa,qg,Wl,d1,hw,d2,ite_and];(repeat' first|with_reducible assumption|apply kk|intro hp);all_goals (first|(refine hQ _ ?_;clear hQ Q)|(refine hQ _ (fun h=>?_) (fun h=>?_) <;> clear hQ Q <;> (try simp only [reduceCtorEq] at h))|(refine vq ?_;kernel_rfl)|omega|assumption|with_reducible rfl|skip)))
   (simp only [vrt,Tryz.results105,vkt,seval,wG];refine Fin.val rfl ?_;(try simp only [AV.le]))
   all_goals first|rfl|simp
  rw [hw0] at hw
  by_cases h0:a.sexes.length=0
  ·rw [show wu c a=7 by unfold wu;rw [h1,h2,hw];simp [qR,h0]]
   have d3:decide ((a.sexes.length:Int)=0)=true:=decide_eq_true (by omega)
   repeat' (first|(apply nx;with_reducible constructor)|refine uq (by decide) ?_|((first|refine vx env fun Q hQ=>?_|refine vz fun Q hQ=>?_);simp only [vkt,seval,wS,wG,mTk,qy,qa,qg,Wl,d1,hw,d3,decide_true,ite_and];(repeat' first|with_reducible assumption|apply kk|intro hp);all_goals (first|(refine hQ _ ?_;clear hQ Q)|(refine hQ _ (fun h=>?_) (fun h=>?_) <;> clear hQ Q <;> (try simp only [reduceCtorEq] at h))|(refine vq ?_;kernel_rfl)|omega|assumption|with_reducible rfl|skip)))
   (simp only [vrt,Tryz.results105,vkt,seval,wG];refine Fin.val rfl ?_;(try simp only [AV.le]))
   all_goals first|rfl|simp
  have d3:decide ((a.sexes.length:Int)=0)=false:=decide_eq_false (by omega)
  by_cases h3:3 < a.sexes.length
  ·have d4:decide ((3:Int) < (a.sexes.length:Int))=true:=decide_eq_true (by omega)
   have hcnt:qR a.sexes.length 1 3=6:=by unfold qR;rw [if_neg (by omega),if_pos (by omega)]
   rw [show wu c a=6 by unfold wu;rw [h1,h2,hw,hcnt];rfl]
   repeat' (first|(apply nx;with_reducible constructor)|refine uq (by decide) ?_|((first|refine vx env fun Q hQ=>?_|refine vz fun Q hQ=>?_);simp only [vkt,seval,wS,wG,mTk,qy,qa,qg,Wl,d1,hw,d3,d4,decide_true,ite_and];(repeat' first|with_reducible assumption|apply kk|intro hp);all_goals (first|(refine hQ _ ?_;clear hQ Q)|(refine hQ _ (fun h=>?_) (fun h=>?_) <;> clear hQ Q <;> (try simp only [reduceCtorEq] at h))|(refine vq ?_;kernel_rfl)|omega|assumption|with_reducible rfl|skip)))
   (simp only [vrt,Tryz.results105,vkt,seval,wG];refine Fin.val rfl ?_;(try simp only [AV.le]))
   all_goals first|rfl|simp
  have d4:decide ((3:Int) < (a.sexes.length:Int))=false:=decide_eq_false (by omega)
  have hcnt:qR a.sexes.length 1 3=0:=by unfold qR;rw [if_neg (by omega),if_neg (by omega)]
  rw [show wu c a=zM (a.sexes.map Qm) by unfold wu;rw [h1,h2,hw,hcnt];rfl]
  repeat' (first|(apply nx;with_reducible constructor)|refine uq (by decide) ?_|((first|refine vx env fun Q hQ=>?_|refine vz fun Q hQ=>?_);simp only [vkt,seval,wS,wG,mTk,qy,qa,qg,Wl,d1,hw,d3,d4,decide_true,ite_and];(repeat' first|with_reducible assumption|apply kk|intro hp);all_goals (first|(refine hQ _ ?_;clear hQ Q)|(refine hQ _ (fun h=>?_) (fun h=>?_) <;> clear hQ Q <;> (try simp only [reduceCtorEq] at h))|(refine vq ?_;kernel_rfl)|omega|assumption|with_reducible rfl|skip)))
  refine qC (fun k:{ k:Nat // k≤a.sexes.length∧∀ j,j < k→(a.sexes.map Qm).getD j 0=0 }=>raS c a [(7,aI k.1)]) (fun k=>a.sexes.length - k.1) ⟨0,Nat.zero_le _,fun j h=>absurd h (Nat.not_lt_zero _)⟩ ?_ fun ⟨k,hk,hno⟩=>?_
  ·simp only [raS,List.cons_append,List.nil_append]
   (refine Le.ok some [] ?_;constructor;all_goals (try simp only [vle,vkt,seval,wG,qa,qg]))
   all_goals first|rfl|simp
  simp only at hk hno ⊢
  simp only [raS,List.cons_append,List.nil_append]
  by_cases hlt:k < a.sexes.length
  ·have d5:decide ((k:Int) < (a.sexes.length:Int))=true:=decide_eq_true (by omega)
   have k0:((k:Int)).toNat=k:=rfl
   have e9:=k9 k (by omega)
   have hg:=hInt hlt
   obtain ⟨x,hx⟩:∃ x,a.sexes.getD k 0=x:=⟨_,rfl⟩
   rw [hx] at hg
   have hm:(a.sexes.map Qm).getD k 0=Qm x:=by rw [mapD hlt];exact congrArg Qm hx
   cases hb:inB x 1 2 with
   |false =>
    have hE:Qm x=8:=by simp [Qm,hb]
    have hf:=wU hno (by simpa using hlt) (by rw [hm,hE];decide)
    rw [hm,hE] at hf
    rw [hf]
    repeat' (first|(apply nx;with_reducible constructor)|refine uq (by decide) ?_|((first|refine vx env fun Q hQ=>?_|refine vz fun Q hQ=>?_);simp only [vkt,seval,wS,wG,qa,qg,yl,d5,k0,hlt,hx,hb,ite_and];(repeat' first|with_reducible assumption|apply kk|intro hp);all_goals (first|(refine hQ _ ?_;clear hQ Q)|(refine hQ _ (fun h=>?_) (fun h=>?_) <;> clear hQ Q <;> (try simp only [reduceCtorEq] at h))|(refine vq ?_;kernel_rfl)|omega|assumption|with_reducible rfl|skip)))
    (simp only [vrt,Tryz.results105,vkt,seval,wG];refine Fin.val rfl ?_;(try simp only [AV.le]))
    all_goals first|rfl|simp
   |true =>
    have hE:Qm x=0:=by simp [Qm,hb]
    repeat' (first|(apply nx;with_reducible constructor)|refine uq (by decide) ?_|((first|refine vx env fun Q hQ=>?_|refine vz fun Q hQ=>?_);simp only [vkt,seval,wS,wG,qa,qg,yl,d5,k0,hlt,hx,hb,e9,ite_and];(repeat' first|with_reducible assumption|apply kk|intro hp);all_goals (first|(refine hQ _ ?_;clear hQ Q)|(refine hQ _ (fun h=>?_) (fun h=>?_) <;> clear hQ Q <;> (try simp only [reduceCtorEq] at h))|(refine vq ?_;kernel_rfl)|omega|assumption|with_reducible rfl|skip)))
    refine ⟨⟨k+1,hlt,fun j hj=>?_⟩,by show a.sexes.length - (k+1) < a.sexes.length - k;omega, ?_⟩
    ·rcases Nat.lt_or_eq_of_le (Nat.le_of_lt_succ hj) with h2|h2
     ·exact hno j h2
     ·rw [h2,hm,hE]
    ·simp only []
     (refine Le.ok some [] ?_;constructor;all_goals (try simp only [vle,vkt,seval,wG,qa,qg]))
     all_goals first|rfl|simp
  ·have d5:decide ((k:Int) < (a.sexes.length:Int))=false:=decide_eq_false (by omega)
   obtain rfl:k=a.sexes.length:=by omega
   rw [wD (l:=a.sexes.map Qm) (by simpa using hno)]
   repeat' (first|(apply nx;with_reducible constructor)|refine uq (by decide) ?_|((first|refine vx env fun Q hQ=>?_|refine vz fun Q hQ=>?_);simp only [vkt,seval,wS,wG,qa,qg,d5,ite_and];(repeat' first|with_reducible assumption|apply kk|intro hp);all_goals (first|(refine hQ _ ?_;clear hQ Q)|(refine hQ _ (fun h=>?_) (fun h=>?_) <;> clear hQ Q <;> (try simp only [reduceCtorEq] at h))|(refine vq ?_;kernel_rfl)|omega|assumption|with_reducible rfl|skip)))
   (simp only [vrt,Tryz.results105,vkt,seval,wG];refine Fin.val rfl ?_;(try simp only [AV.le]))
   all_goals first|rfl|simp
def UT:List AV→Prop × AV
 |[.agg [.sl c0,.v (.int .i64 c1),.sl c2],.agg [.v (.int .i64 a0),.v (.int .i64 a1),.v (.int .i64 a2),.sl a3,.v (.bool a4)]]=>(c0=(c0.map qj).map qz∧c2=(c2.map dTk).map eTk∧a3=(a3.map qM).map qU∧((⟨(c0.map qj),c1,(c2.map dTk)⟩:Chart)).sold.length≤100∧((⟨a0,a1,a2,(a3.map qM),a4⟩:Ask)).sexes.length≤maxLen,aI (wu ((⟨(c0.map qj),c1,(c2.map dTk)⟩:Chart)) ((⟨a0,a1,a2,(a3.map qM),a4⟩:Ask))))
 |_=>(False,.junk)
theorem erask {A:Frm→Prop}:qm A Tryz.prog 105 (qG true UT):=qH fun vs hv h=>by
 clear hv
 unfold UT at h ⊢
 split at h
 ·rename_i c0 c1 c2 a0 a1 a2 a3 a4;obtain ⟨q0,q1,q2,k0,k1⟩:=h
  refine ⟨by first|trivial|(repeat' split) <;> simp [AV.plain,AV.plainL,aI,aB,ql,qb,qp,qx,aTk,cTk],fun _=>(by simp [AV.flat,aI]), ?_⟩
  have:=QiE ((⟨(c0.map qj),c1,(c2.map dTk)⟩:Chart)) ((⟨a0,a1,a2,(a3.map qM),a4⟩:Ask)) k0 k1
  simp only [qI,qd,aI,qg,qa,← q0,← q1,← q2] at this
  first|exact this|(simp only [qI,aB,zB,qd,aI,ql,qp,qg,qa,← q0,← q1,← q2];exact this)
 ·exact h.elim
def Q5:=vj @ty3 (vj @ty4 (vj @yf (vj @jL (vj @ti3.eq_1 (vj @ti4.eq_1 (vj @jK.eq_1 @wY.eq_1))))))
def J3:=vj @aI.eq_1 (vj @aB.eq_1 (vj @ql.eq_1 (@jJ)))
theorem Qlp (a b:Ask) (h1:a.sexes.length≤maxLen) (h2:b.sexes.length≤maxLen):FnV Tryz.prog 22 [qI a,qI b] (aB (decide (a=b))):=by
 have env:Env (fun _=>True) Tryz.prog tyB (tab [(41,qG true QdV)]):=qA ⟨eeqI,trivial⟩
 refine Fn.of (A:=fun _=>True) (n0:=0) (D:=noD) (Fn0 Tryz.func22 rfl (fun vs w=>by kernel_rfl) (by kernel_rfl)) (by simp) (by simp [AV.ids,AV.idsL,qI,qg]) (fun i o h=>by cases h) (fun _ _ _ _=>trivial) qw ?_
 have hE:decide (a=b)=(decide (a.party=b.party) && (decide (a.frm=b.frm) && (decide (a.to=b.to) && ((a.dog == b.dog) && decide (a.sexes=b.sexes))))):=by
  cases a with|mk p f t s d=>cases b with|mk p' f' t' s' d' =>
  rw [Bool.eq_iff_iff]
  simp only [decide_eq_true_eq,Bool.and_eq_true,beq_iff_eq,Ask.mk.injEq]
  exact ⟨fun ⟨x1,x2,x3,x4,x5⟩=>⟨x1,x2,x3,x5,x4⟩,fun ⟨x1,x2,x3,x5,x4⟩=>⟨x1,x2,x3,x4,x5⟩⟩
 rw [hE]
 cases q0:decide (a.party=b.party) with
 |false =>
  rw [Bool.false_and]
  repeat' (first|(apply nx;with_reducible constructor)|refine uq (by decide) ?_|((first|refine vx env fun Q hQ=>?_|refine vz fun Q hQ=>?_);simp only [vkt,seval,Q5,qI,qg,q0,ite_and];(repeat' first|with_reducible assumption|apply kk|intro hp);all_goals (first|(refine hQ _ ?_;clear hQ Q)|(refine hQ _ (fun h=>?_) (fun h=>?_) <;> clear hQ Q <;> (try simp only [vki,reduceCtorEq] at h))|(refine vq ?_;kernel_rfl)|omega|assumption|with_reducible rfl|skip)))
  (simp only [vrt,Tryz.results22,vkt,seval,J3];refine Fin.val rfl ?_;(try simp only [AV.le]))
  all_goals first|rfl|simp
 |true =>
 cases q1:decide (a.frm=b.frm) with
 |false =>
  rw [Bool.false_and,Bool.and_false]
  repeat' (first|(apply nx;with_reducible constructor)|refine uq (by decide) ?_|((first|refine vx env fun Q hQ=>?_|refine vz fun Q hQ=>?_);simp only [vkt,seval,Q5,qI,qg,q0,q1,ite_and];(repeat' first|with_reducible assumption|apply kk|intro hp);all_goals (first|(refine hQ _ ?_;clear hQ Q)|(refine hQ _ (fun h=>?_) (fun h=>?_) <;> clear hQ Q <;> (try simp only [vki,reduceCtorEq] at h))|(refine vq ?_;kernel_rfl)|omega|assumption|with_reducible rfl|skip)))
  (simp only [vrt,Tryz.results22,vkt,seval,J3];refine Fin.val rfl ?_;(try simp only [AV.le]))
  all_goals first|rfl|simp
 |true =>
 cases q2:decide (a.to=b.to) with
 |false =>
  rw [Bool.false_and,Bool.and_false,Bool.and_false]
  repeat' (first|(apply nx;with_reducible constructor)|refine uq (by decide) ?_|((first|refine vx env fun Q hQ=>?_|refine vz fun Q hQ=>?_);simp only [vkt,seval,Q5,qI,qg,q0,q1,q2,ite_and];(repeat' first|with_reducible assumption|apply kk|intro hp);all_goals (first|(refine hQ _ ?_;clear hQ Q)|(refine hQ _ (fun h=>?_) (fun h=>?_) <;> clear hQ Q <;> (try simp only [vki,reduceCtorEq] at h))|(refine vq ?_;kernel_rfl)|omega|assumption|with_reducible rfl|skip)))
  (simp only [vrt,Tryz.results22,vkt,seval,J3];refine Fin.val rfl ?_;(try simp only [AV.le]))
  all_goals first|rfl|simp
 |true =>
 cases q3:(a.dog == b.dog) with
 |false =>
  rw [Bool.false_and,Bool.and_false,Bool.and_false,Bool.and_false]
  repeat' (first|(apply nx;with_reducible constructor)|refine uq (by decide) ?_|((first|refine vx env fun Q hQ=>?_|refine vz fun Q hQ=>?_);simp only [vkt,seval,Q5,qI,qg,q0,q1,q2,q3,ite_and];(repeat' first|with_reducible assumption|apply kk|intro hp);all_goals (first|(refine hQ _ ?_;clear hQ Q)|(refine hQ _ (fun h=>?_) (fun h=>?_) <;> clear hQ Q <;> (try simp only [vki,reduceCtorEq] at h))|(refine vq ?_;kernel_rfl)|omega|assumption|with_reducible rfl|skip)))
  (simp only [vrt,Tryz.results22,vkt,seval,J3];refine Fin.val rfl ?_;(try simp only [AV.le]))
  all_goals first|rfl|simp
 |true =>
 rw [Bool.true_and,Bool.true_and,Bool.true_and,Bool.true_and]
 repeat' (first|(apply nx;with_reducible constructor)|refine uq (by decide) ?_|((first|refine vx env fun Q hQ=>?_|refine vz fun Q hQ=>?_);simp only [vkt,seval,Q5,J3,qI,qg,QdV,q0,q1,q2,q3,h1,h2,ite_and];(repeat' first|with_reducible assumption|apply kk|intro hp);all_goals (first|(refine hQ _ ?_;clear hQ Q)|(refine hQ _ (fun h=>?_) (fun h=>?_) <;> clear hQ Q <;> (try simp only [vki,reduceCtorEq] at h))|(refine vq ?_;kernel_rfl)|omega|assumption|with_reducible rfl|skip)))
 (simp only [vrt,Tryz.results22,vkt,seval,J3];refine Fin.val rfl ?_;(try simp only [AV.le]))
 all_goals first|rfl|simp
def seqA:List AV→Prop × AV
 |[.agg [.v (.int .i64 a0),.v (.int .i64 a1),.v (.int .i64 a2),.sl a3,.v (.bool a4)],.agg [.v (.int .i64 b0),.v (.int .i64 b1),.v (.int .i64 b2),.sl b3,.v (.bool b4)]]=>(a3=(a3.map qM).map qU∧b3=(b3.map qM).map qU∧((⟨a0,a1,a2,(a3.map qM),a4⟩:Ask)).sexes.length≤maxLen∧((⟨b0,b1,b2,(b3.map qM),b4⟩:Ask)).sexes.length≤maxLen,aB (decide (((⟨a0,a1,a2,(a3.map qM),a4⟩:Ask))=((⟨b0,b1,b2,(b3.map qM),b4⟩:Ask)))))
 |_=>(False,.junk)
theorem eeqA {A:Frm→Prop}:qm A Tryz.prog 22 (qG true seqA):=qH fun vs hv h=>by
 clear hv
 unfold seqA at h ⊢
 split at h
 ·rename_i a0 a1 a2 a3 a4 b0 b1 b2 b3 b4;obtain ⟨q0,q1,k0,k1⟩:=h
  refine ⟨by first|trivial|(repeat' split) <;> simp [AV.plain,AV.plainL,aI,aB,ql,qb,qp,qx,aTk,cTk],fun _=>(by simp [AV.flat,aB]), ?_⟩
  have:=Qlp ((⟨a0,a1,a2,(a3.map qM),a4⟩:Ask)) ((⟨b0,b1,b2,(b3.map qM),b4⟩:Ask)) k0 k1
  simp only [qI,aB,qg,← q0,← q1] at this
  first|exact this|(simp only [qI,aB,aI,ql,qg,← q0,← q1];exact this)
 ·exact h.elim
theorem Qcm {n:Nat} (hn:n≤8):∀ m f,(jf n m f).length≤8 ^ m
 |0,_=>Nat.le_refl 1
 |m+1,f=>by
  rw [jf,List.length_flatMap]
  simp only [List.length_map]
  have h:∀ l:List Nat,(l.map fun k=>(jf n m (f+k+1)).length).sum≤l.length * 8 ^ m:=fun l=>by
   induction l with
   |nil=>simp
   |cons x l ih =>
    have:=Qcm hn m (f+x+1)
    rw [List.map_cons,List.sum_cons,List.length_cons,Nat.succ_mul]
    omega
  have h2:=h (List.range (n - f))
  rw [List.length_range] at h2
  have h3:(n - f) * 8 ^ m≤8 * 8 ^ m:=Nat.mul_le_mul_right _ (by omega)
  rw [Nat.pow_succ,Nat.mul_comm (8 ^ m) 8]
  omega
def chP (n m f k:Nat):List (List Int):=(List.range k).flatMap fun k=>(jf n m (f+k+1)).map (((f+k:Nat):Int) :: ·)
theorem QaJ (n m f k:Nat):chP n m f (k+1)=chP n m f k++(jf n m (f+k+1)).map (((f+k:Nat):Int) :: ·):=by
 unfold chP
 rw [List.range_succ,List.flatMap_append]
 simp
theorem QcJ {n:Nat} (hn:n≤8) (m f:Nat):∀ k,(chP n m f k).length≤k * 8 ^ m
 |0=>by simp [chP]
 |k+1=>by
  rw [QaJ,List.length_append,List.length_map,Nat.succ_mul]
  have h1:=QcJ hn m f k
  have h2:=Qcm hn m (f+k+1)
  omega
def U4 (m:Nat):Prop:=∀ f n:Nat,n≤8→FnV Tryz.prog 68 [aI f,aI n,aI m] (QO (jf n m f))
def sCho (m:Nat):List AV→Prop × AV
 |[.v (.int .i64 f),.v (.int .i64 n),.v (.int .i64 k)]=>(0≤f∧0≤n∧n≤8∧k=m,QO (jf n.toNat m f.toNat))
 |_=>(False,.junk)
theorem eCho {A:Frm→Prop} {m:Nat} (ih:U4 m):qm A Tryz.prog 68 (qG false (sCho m)):=qH fun vs hv h=>by
 clear hv
 unfold sCho at h ⊢
 split at h
 ·rename_i f n k
  obtain ⟨h1,h2,h3,rfl⟩:=h
  obtain ⟨f,rfl⟩:=Int.eq_ofNat_of_zero_le h1
  obtain ⟨n,rfl⟩:=Int.eq_ofNat_of_zero_le h2
  refine ⟨by simp [AV.plain,QO],fun h=>absurd h (by decide), ?_⟩
  exact ih f n (by omega)
 ·exact h.elim
def Qbm (n m:Nat) (M:List (List Int)) (T:List (Nat × AV)):St:={ t:=asg (T++[(1,aI n),(2,aI ((m+1:Nat):Int)),(7,.row 0)]),h:=qc [(0,.row 26 1 (M.map Qo))],n:=1 }
def jX:=vj @ty3 (vj @yf (vj @Qla (vj @ti3.eq_1 (vj @jK.eq_1 @Lh.eq_1))))
def xn:=vj @aI.eq_1 (vj @aB.eq_1 (vj @ql.eq_1 (vj @QO.eq_1 (vj @qU.eq_1 (vj @Qo.eq_1 (vj @JN (vj @Qk8 (vj @Xw (vj @rInts (vj @jJ (@QkN)))))))))))
theorem QfB:U4 0:=by
 intro f n _
 have env:Env (fun _=>True) Tryz.prog tyB (tab []):=qA trivial
 refine Fn.of (A:=fun _=>True) (n0:=0) (D:=noD) (Fn0 Tryz.func68 rfl (fun vs w=>by kernel_rfl) (by kernel_rfl)) (by simp) (by simp [AV.ids,aI]) (fun i o h=>by cases h) (fun _ _ _ _=>trivial) qw ?_
 have d0:decide (((0:Nat):Int)=0)=true:=rfl
 repeat' (first|(apply nx;with_reducible constructor)|refine uq (by decide) ?_|((first|refine vx env fun Q hQ=>?_|refine vz fun Q hQ=>?_);simp only [vkt,seval,jX,xn,decide_true,ite_and];(repeat' first|with_reducible assumption|apply kk|intro hp);all_goals (first|(refine hQ _ ?_;clear hQ Q)|(refine hQ _ (fun h=>?_) (fun h=>?_) <;> clear hQ Q <;> (try simp only [reduceCtorEq] at h))|(refine vq ?_;kernel_rfl)|omega|assumption|with_reducible rfl|skip)))
 (simp only [vrt,Tryz.results68,vkt,seval,xn];refine Fin.val rfl ?_;(try simp only [AV.le]))
 all_goals first|rfl|(simp;done)|exact ⟨_,_,rfl⟩
set_option maxHeartbeats 4000000 in
theorem QgY (m:Nat) (hm4:m≤3) (ih:U4 m):U4 (m+1):=by
 intro f n hn
 have env:Env (fun _=>True) Tryz.prog tyB (tab [(68,qG false (sCho m))]):=qA ⟨eCho ih,trivial⟩
 refine Fn.of (A:=fun _=>True) (n0:=0) (D:=noD) (Fn0 Tryz.func68 rfl (fun vs w=>by kernel_rfl) (by kernel_rfl)) (by simp) (by simp [AV.ids,aI]) (fun i o h=>by cases h) (fun _ _ _ _=>trivial) qw ?_
 have hmx:(100000:Nat)≤maxLen:=by decide
 have hF:jf n (m+1) f=chP n m f (n - f):=rfl
 have h8:8 ^ m≤512:=Nat.le_trans (Nat.pow_le_pow_right (by decide) hm4) (by decide)
 rw [hF]
 have d0:decide (((m+1:Nat):Int)=0)=false:=decide_eq_false (by omega)
 have w0:IntKind.wrap .i64 (((m+1:Nat):Int) - 1)=(m:Int):=by rw [wrap64 (by omega) (by omega)];omega
 have n0:((n:Int)).toNat=n:=rfl
 have n1:(0:Int)≤(n:Int):=by omega
 have n2:(n:Int)≤8:=by omega
 repeat' (first|(apply nx;with_reducible constructor)|refine uq (by decide) ?_|((first|refine vx env fun Q hQ=>?_|refine vz fun Q hQ=>?_);simp only [vkt,seval,jX,xn,d0,ite_and];(repeat' first|with_reducible assumption|apply kk|intro hp);all_goals (first|(refine hQ _ ?_;clear hQ Q)|(refine hQ _ (fun h=>?_) (fun h=>?_) <;> clear hQ Q <;> (try simp only [reduceCtorEq] at h))|(refine vq ?_;kernel_rfl)|omega|assumption|with_reducible rfl|skip)))
 refine qC (fun k:{ k:Nat // k≤n - f }=>Qbm n m (chP n m f k.1) [(8,aI ((f+k.1:Nat):Int))]) (fun k=>n - f - k.1) ⟨0,Nat.zero_le _⟩ ?_ fun ⟨k,hk⟩=>?_
 ·simp only [Qbm,show chP n m f 0=[] from rfl,Nat.add_zero,List.cons_append,List.nil_append]
  (refine Le.ok (fun i=>if i=0 then none else some i) [] ?_;constructor;all_goals (try simp only [vle,vkt,seval,xn]))
  all_goals first|rfl|(simp;done)|(intro i hi;rw [if_neg (by omega)];done)
 simp only at hk ⊢
 have hL:=QcJ hn m f k
 have hL2:k * 8 ^ m≤8 * 512:=Nat.mul_le_mul (by omega) h8
 have hS:=QaJ n m f k
 obtain ⟨j,hj⟩:∃ j,f+k=j:=⟨_,rfl⟩
 rw [hj] at hS
 obtain ⟨L,hLe⟩:∃ L,chP n m f k=L:=⟨_,rfl⟩
 rw [hLe] at hL hS
 simp only [hj,hLe]
 by_cases hkn:k < n - f
 ·have d1:decide ((j:Int) < (n:Int))=true:=decide_eq_true (by omega)
  have e9:=k9 j (by omega)
  have j0:(((j+1:Nat):Int)).toNat=j+1:=rfl
  have j1:(0:Int)≤((j+1:Nat):Int):=by omega
  have hRl:=Qcm hn m (j+1)
  have hR1:=YS (n:=n) m (j+1)
  obtain ⟨R,hR⟩:∃ R,jf n m (j+1)=R:=⟨_,rfl⟩
  rw [hR] at hRl hR1 hS
  simp only [Qbm,List.cons_append,List.nil_append]
  repeat' (first|(apply nx;with_reducible constructor)|refine uq (by decide) ?_|((first|refine vx env fun Q hQ=>?_|refine vz fun Q hQ=>?_);simp only [vkt,seval,jX,xn,sCho,d1,w0,e9,n0,n1,n2,j0,j1,hR,ite_and];(repeat' first|with_reducible assumption|apply kk|intro hp);all_goals (first|(refine hQ _ ?_;clear hQ Q)|(refine hQ _ (fun h=>?_) (fun h=>?_) <;> clear hQ Q <;> (try simp only [reduceCtorEq] at h))|(refine vq ?_;kernel_rfl)|omega|assumption|with_reducible rfl|skip)))
  refine qC (fun q:{ q:Nat // q≤R.length }=>Qbm n m (L++(R.take q.1).map ((j:Int) :: ·)) [(8,aI j),(9,QO R),(10,aI q.1)]) (fun q=>R.length - q.1) ⟨0,Nat.zero_le _⟩ ?_ fun ⟨q,hq⟩=>?_
  ·simp only [Qbm,List.take_zero,List.map_nil,List.append_nil,List.cons_append,List.nil_append]
   (refine Le.ok some [] ?_;constructor;all_goals (try simp only [vle,vkt,seval,xn]))
   all_goals first|rfl|simp
  simp only at hq ⊢
  obtain ⟨M,hM⟩:∃ M,L++(R.take q).map ((j:Int) :: ·)=M:=⟨_,rfl⟩
  have hMl:M.length≤10000:=by rw [← hM,List.length_append,List.length_map,List.length_take];omega
  simp only [Qbm,hM,List.cons_append,List.nil_append]
  by_cases hql:q < R.length
  ·have d2:decide ((q:Int) < (R.length:Int))=true:=decide_eq_true (by omega)
   have e8:=k9 q (by omega)
   have q0:((q:Int)).toNat=q:=rfl
   have hm:M.length+1≤maxLen:=by omega
   obtain ⟨p,hp⟩:∃ p,R.getD q []=p:=⟨_,rfl⟩
   have hg:=QkM hql
   rw [hp] at hg
   have hpl:=hR1 p (by rw [← hp];exact wC hql)
   have hpm:1+p.length≤maxLen:=by omega
   have hMS:L++(R.take (q+1)).map ((j:Int) :: ·)=M++[(j:Int) :: p]:=by
    rw [List.take_succ_eq_append_getElem hql,List.map_append,← List.append_assoc,hM,← hp]
    simp [List.getD_eq_getElem?_getD,hql]
   repeat' (first|(apply nx;with_reducible constructor)|refine uq (by decide) ?_|((first|refine vx env fun Q hQ=>?_|refine vz fun Q hQ=>?_);simp only [vkt,seval,jX,xn,q0,hql,hp,d2,e8,hm,hpm,ite_and];(repeat' first|with_reducible assumption|apply kk|intro hp);all_goals (first|(refine hQ _ ?_;clear hQ Q)|(refine hQ _ (fun h=>?_) (fun h=>?_) <;> clear hQ Q <;> (try simp only [reduceCtorEq] at h))|(refine vq ?_;kernel_rfl)|omega|assumption|with_reducible rfl|skip)))
   refine ⟨⟨q+1,hql⟩,by show R.length - (q+1) < R.length - q;omega, ?_⟩
   simp only [hMS]
   (refine Le.ok (fun i=>if i=0 then some 4 else some i) [] ?_;constructor;all_goals (try simp only [vle,vkt,seval,xn]))
   all_goals first|rfl|(rw [List.map_append];rfl)|(simp;done)|(intro i hi;rw [if_neg (by omega)];done)
  ·have d2:decide ((q:Int) < (R.length:Int))=false:=decide_eq_false (by omega)
   obtain rfl:q=R.length:=by omega
   rw [List.take_length] at hM
   rw [hM] at hS
   have hj2:f+(k+1)=j+1:=by omega
   repeat' (first|(apply nx;with_reducible constructor)|refine uq (by decide) ?_|((first|refine vx env fun Q hQ=>?_|refine vz fun Q hQ=>?_);simp only [vkt,seval,jX,xn,d2,e9,ite_and];(repeat' first|with_reducible assumption|apply kk|intro hp);all_goals (first|(refine hQ _ ?_;clear hQ Q)|(refine hQ _ (fun h=>?_) (fun h=>?_) <;> clear hQ Q <;> (try simp only [reduceCtorEq] at h))|(refine vq ?_;kernel_rfl)|omega|assumption|with_reducible rfl|skip)))
   refine ⟨⟨k+1,hkn⟩,by show n - f - (k+1) < n - f - k;omega, ?_⟩
   simp only [hS,hj2]
   (refine Le.ok some [] ?_;constructor;all_goals (try simp only [vle,vkt,seval,xn]))
   all_goals first|rfl|simp
 ·have d1:decide ((j:Int) < (n:Int))=false:=decide_eq_false (by omega)
  obtain rfl:k=n - f:=by omega
  simp only [Qbm,List.cons_append,List.nil_append]
  rw [hLe]
  repeat' (first|(apply nx;with_reducible constructor)|refine uq (by decide) ?_|((first|refine vx env fun Q hQ=>?_|refine vz fun Q hQ=>?_);simp only [vkt,seval,jX,xn,d1,ite_and];(repeat' first|with_reducible assumption|apply kk|intro hp);all_goals (first|(refine hQ _ ?_;clear hQ Q)|(refine hQ _ (fun h=>?_) (fun h=>?_) <;> clear hQ Q <;> (try simp only [reduceCtorEq] at h))|(refine vq ?_;kernel_rfl)|omega|assumption|with_reducible rfl|skip)))
  (simp only [vrt,Tryz.results68,vkt,seval,xn];refine Fin.val rfl ?_;(try simp only [AV.le]))
  all_goals first|rfl|(simp;done)|exact ⟨_,_,rfl⟩
theorem Qcz:∀ m,m≤4→U4 m
 |0,_=>QfB
 |m+1,h=>QgY m (by omega) (Qcz m (by omega))
theorem Qb7 (f n m:Int) (h:(0≤f∧0≤n∧n≤8)∧0≤m∧m≤4):FnV Tryz.prog 68 [aI f,aI n,aI m] (QO (jf n.toNat m.toNat f.toNat)):=by
 obtain ⟨⟨h1,h2,h3⟩,h4,h5⟩:=h
 obtain ⟨f,rfl⟩:=Int.eq_ofNat_of_zero_le h1
 obtain ⟨n,rfl⟩:=Int.eq_ofNat_of_zero_le h2
 obtain ⟨m,rfl⟩:=Int.eq_ofNat_of_zero_le h4
 exact Qcz m (by omega) f n (by omega)
def Jt:List AV→Prop × AV
 |[.v (.int .i64 f),.v (.int .i64 n),.v (.int .i64 m)]=>(0≤f∧0≤n∧n≤8∧0≤m∧m≤4,QO (jf n.toNat m.toNat f.toNat))
 |_=>(False,.junk)
theorem QhI {A:Frm→Prop}:qm A Tryz.prog 68 (qG false Jt):=qH fun vs hv h=>by
 clear hv
 unfold Jt at h ⊢
 split at h
 ·rename_i f n m;obtain ⟨k0,k1,k2,k3,k4⟩:=h
  refine ⟨by first|trivial|(repeat' split) <;> simp [AV.plain,AV.plainL,aI,aB,ql,qb,qp,qx,aTk,cTk],fun h=>absurd h (by decide), ?_⟩
  have:=Qb7 f n m ⟨⟨k0,k1,k2⟩,k3,k4⟩
  simp only [aI] at this
  first|exact this|(simp only [aI];exact this)
 ·exact h.elim
def j3 (L:List Ask) (l:List Int):List Ask:=l.map fun k=>L.getD k.toNat default
theorem Qb3 {L:List Ask} {l:List Int} {i:Nat} (h:i < l.length):j3 L (l.take (i+1))=j3 L (l.take i)++[L.getD (l.getD i 0).toNat default]:=by
 unfold j3
 rw [List.take_succ_eq_append_getElem h,List.map_append]
 simp [List.getD_eq_getElem?_getD,h]
def rsoS (L:List Ask) (l:List Int) (M:List Ask) (i:Nat):St:={ t:=asg [(0,qB L),(1,ql l),(5,.row 0),(6,aI i)],h:=qc [(0,.row 28 5 (M.map qV))],n:=1 }
def Yl:=vj @ty3 (vj @yf (vj @jL (vj @Yw (vj @ti3.eq_1 (vj @jK.eq_1 (vj @wY.eq_1 @Wy.eq_1))))))
def Jy:=vj @aI.eq_1 (vj @aB.eq_1 (vj @ql.eq_1 (vj @qU.eq_1 (vj @JN (@jJ)))))
theorem Qf9 (L:List Ask) (l:List Int) (h1:L.length≤1000) (h2:l.length≤1000) (h3:∀ k ∈ l,0≤k∧k.toNat < L.length):FnV Tryz.prog 100 [qB L,ql l] (qB (j3 L l)):=by
 have env:Env (fun _=>True) Tryz.prog tyB (tab []):=qA trivial
 refine Fn.of (A:=fun _=>True) (n0:=0) (D:=noD) (Fn0 Tryz.func100 rfl (fun vs w=>by kernel_rfl) (by kernel_rfl)) (by simp) (by simp [AV.ids,qB,ql]) (fun i o h=>by cases h) (fun _ _ _ _=>trivial) qw ?_
 have hmx:(100000:Nat)≤maxLen:=by decide
 repeat' (first|(apply nx;with_reducible constructor)|refine uq (by decide) ?_|((first|refine vx env fun Q hQ=>?_|refine vz fun Q hQ=>?_);simp only [vkt,seval,Jy,qB,ite_and];(repeat' first|with_reducible assumption|apply kk|intro hp);all_goals (first|(refine hQ _ ?_;clear hQ Q)|(refine hQ _ (fun h=>?_) (fun h=>?_) <;> clear hQ Q <;> (try simp only [vki,reduceCtorEq] at h))|(refine vq ?_;kernel_rfl)|omega|assumption|with_reducible rfl|skip)))
 refine qC (fun i:{ i:Nat // i≤l.length }=>rsoS L l (j3 L (l.take i.1)) i.1) (fun i=>l.length - i.1) ⟨0,Nat.zero_le _⟩ ?_ fun ⟨i,hi⟩=>?_
 ·simp only [rsoS,List.take_zero,show j3 L []=[] from rfl]
  (refine Le.ok (fun i=>if i=0 then none else some i) [] ?_;constructor;all_goals (try simp only [vle,vkt,seval,Jy,qB]))
  all_goals first|rfl|(simp;done)|(intro i hi;rw [if_neg (by omega)];done)
 simp only at hi ⊢
 have hMl:(j3 L (l.take i)).length≤i:=by unfold j3;rw [List.length_map,List.length_take];omega
 by_cases hil:i < l.length
 ·have d1:decide ((i:Int) < (l.length:Int))=true:=decide_eq_true (by omega)
  have e9:=k9 i (by omega)
  have i0:((i:Int)).toNat=i:=rfl
  have hS:=Qb3 (L:=L) hil
  have hg:=hInt hil
  have hkb:=h3 _ (wC (d:=0) hil)
  obtain ⟨k,hk⟩:∃ k,l.getD i 0=k:=⟨_,rfl⟩
  rw [hk] at hS hg hkb
  obtain ⟨k0,k1⟩:=hkb
  have hga:=Vv k1
  obtain ⟨x,hx⟩:∃ x,L.getD k.toNat default=x:=⟨_,rfl⟩
  rw [hx] at hS hga
  obtain ⟨M,hM⟩:∃ M,j3 L (l.take i)=M:=⟨_,rfl⟩
  rw [hM] at hMl hS
  have hm:M.length+1≤maxLen:=by omega
  simp only [rsoS,hM]
  repeat' (first|(apply nx;with_reducible constructor)|refine uq (by decide) ?_|((first|refine vx env fun Q hQ=>?_|refine vz fun Q hQ=>?_);simp only [vkt,seval,Yl,Jy,qB,qV,JA,Xy,d1,e9,i0,hil,hk,k0,k1,hx,hm,ite_and];(repeat' first|with_reducible assumption|apply kk|intro hp);all_goals (first|(refine hQ _ ?_;clear hQ Q)|(refine hQ _ (fun h=>?_) (fun h=>?_) <;> clear hQ Q <;> (try simp only [reduceCtorEq] at h))|(refine vq ?_;kernel_rfl)|omega|assumption|with_reducible rfl|skip)))
  refine ⟨⟨i+1,hil⟩,by show l.length - (i+1) < l.length - i;omega, ?_⟩
  simp only [hS]
  (refine Le.ok (fun i=>if i=0 then some 2 else some i) [] ?_;constructor;all_goals (try simp only [vle,vkt,seval,Jy,qB]))
  all_goals first|rfl|(rw [List.map_append];rfl)|(simp;done)|(intro i hi;rw [if_neg (by omega)];done)
 ·have d1:decide ((i:Int) < (l.length:Int))=false:=decide_eq_false (by omega)
  obtain rfl:i=l.length:=by omega
  rw [List.take_length]
  simp only [rsoS]
  repeat' (first|(apply nx;with_reducible constructor)|refine uq (by decide) ?_|((first|refine vx env fun Q hQ=>?_|refine vz fun Q hQ=>?_);simp only [vkt,seval,Yl,Jy,qB,d1,ite_and];(repeat' first|with_reducible assumption|apply kk|intro hp);all_goals (first|(refine hQ _ ?_;clear hQ Q)|(refine hQ _ (fun h=>?_) (fun h=>?_) <;> clear hQ Q <;> (try simp only [reduceCtorEq] at h))|(refine vq ?_;kernel_rfl)|omega|assumption|with_reducible rfl|skip)))
  (simp only [vrt,Tryz.results100,vkt,seval,qB];refine Fin.val rfl ?_;(try simp only [AV.le]))
  all_goals first|rfl|(simp;done)|exact ⟨_,_,rfl⟩
def Xo:List AV→Prop × AV
 |[.sl x,.sl l]=>(x=(x.map jb).map qV∧l=(l.map qM).map qU∧(x.map jb).length≤1000∧(l.map qM).length≤1000∧(∀ k ∈ (l.map qM),0≤k∧k.toNat < (x.map jb).length),qB (j3 (x.map jb) (l.map qM)))
 |_=>(False,.junk)
theorem Qlc {A:Frm→Prop}:qm A Tryz.prog 100 (qG false Xo):=qH fun vs hv h=>by
 clear hv
 unfold Xo at h ⊢
 split at h
 ·rename_i x l;obtain ⟨q0,q1,k0,k1,k2⟩:=h
  refine ⟨by first|trivial|(repeat' split) <;> simp [AV.plain,AV.plainL,aI,aB,ql,qb,qp,qx,aTk,cTk],fun h=>absurd h (by decide), ?_⟩
  have:=Qf9 (x.map jb) (l.map qM) k0 k1 k2
  simp only [qB,ql,← q0,← q1] at this
  first|exact this|(simp only [qB,ql,← q0,← q1];exact this)
 ·exact h.elim
structure AlOk (cs:List Cabin) (s:Int) (r:List Ask) (sold:List Tk):Prop where
 gn:∀ a ∈ r,GnOk ⟨cs,s,sold⟩ a
 many:sold.length+3 * r.length≤20
 four:r.length≤4
 cabs:cs.length≤3
theorem Qei {cs:List Cabin} {s:Int} {a:Ask} {r:List Ask} {sold:List Tk}:xw cs s (a :: r) sold=((plP ⟨cs,s,sold⟩ a).map (·.1)).any fun p=>xw cs s r (sold++jM a p p.length):=by
 rw [xw,List.any_map]
 have h:∀ l:List (List Bunk × List Tk),(∀ x ∈ l,x.2=sold++jM a x.1 x.1.length)→(l.any fun x=>xw cs s r x.2)=l.any ((fun p=>xw cs s r (sold++jM a p p.length)) ∘ fun x=>x.1):=fun l=>by
  induction l with
  |nil=>intro _;rfl
  |cons x l ih =>
   intro hx
   rw [List.any_cons,List.any_cons,ih fun y hy=>hx y (List.mem_cons_of_mem _ hy)]
   show (xw cs s r x.2 || _)=(xw cs s r (sold++jM a x.1 x.1.length) || _)
   rw [← hx x (List.mem_cons_self ..)]
 exact h _ fun x hx=>K4 hx
def Qao (cs:List Cabin) (s:Int) (r:List Ask):Prop:=∀ sold,AlOk cs s r sold→FnV Tryz.prog 99 [qd ⟨cs,s,sold⟩,.sl (r.map qV)] (aB (xw cs s r sold))
def QhM (cs:List Cabin) (s:Int) (r:List Ask):List AV→Prop × AV
 |[.agg [.sl cc,.v (.int .i64 s'),.sl ts],.sl xs]=>(cc=cs.map qz∧s'=s∧xs=r.map qV∧ts=(ts.map dTk).map eTk∧AlOk cs s r (ts.map dTk),aB (xw cs s r (ts.map dTk)))
 |_=>(False,.junk)
theorem eAllR {A:Frm→Prop} {cs:List Cabin} {s:Int} {r:List Ask} (ih:Qao cs s r):qm A Tryz.prog 99 (qG true (QhM cs s r)):=qH fun vs hv h=>by
 clear hv
 unfold QhM at h ⊢
 split at h
 ·rename_i cc s' ts xs
  obtain ⟨rfl,rfl,rfl,h4,h5⟩:=h
  refine ⟨by simp [AV.plain,aB],fun _=>by simp [AV.flat,aB], ?_⟩
  have:=ih _ h5
  simp only [qd,qa,← h4] at this
  exact this
 ·exact h.elim
def ralS (c:Chart) (xs:List (List DV)) (P:List (List Bunk)) (i:Nat):St:={ t:=asg [(1,.sl xs),(2,.ptr 0 0),(5,vN P),(6,aI i)],h:=qc [(0,.cells (qa c))],n:=1 }
def kF:=vj @ty3 (vj @wh (vj @jL (vj @Yw (vj @QbT (vj @Q0 (vj @yu (vj @ti3.eq_1 (vj @zQ.eq_1 (vj @wY.eq_1 (vj @Wy.eq_1 (vj @Xx.eq_1 (vj @kU.eq_1 @jQ.eq_1))))))))))))
def xL:=vj @aI.eq_1 (vj @aB.eq_1 (@jJ))
theorem Qh3 (cs:List Cabin) (s:Int):Qao cs s []:=by
 intro sold ok
 have env:Env (fun _=>True) Tryz.prog tyB (tab []):=qA trivial
 refine Fn.of (A:=fun _=>True) (n0:=0) (D:=noD) (Fn0 Tryz.func99 rfl (fun vs w=>by kernel_rfl) (by kernel_rfl)) (by simp) (by simp [AV.ids,AV.idsL,qd,qa]) (fun i o h=>by cases h) (fun _ _ _ _=>trivial) qw ?_
 have e0:([]:List Ask).map qV=[]:=rfl
 rw [e0]
 repeat' (first|(apply nx;with_reducible constructor)|refine uq (by decide) ?_|((first|refine vx env fun Q hQ=>?_|refine vz fun Q hQ=>?_);simp only [vkt,seval,kF,qd,qa,decide_true,ite_and];(repeat' first|with_reducible assumption|apply kk|intro hp);all_goals (first|(refine hQ _ ?_;clear hQ Q)|(refine hQ _ (fun h=>?_) (fun h=>?_) <;> clear hQ Q <;> (try simp only [reduceCtorEq] at h))|(refine vq ?_;kernel_rfl)|omega|assumption|with_reducible rfl|skip)))
 (simp only [vrt,Tryz.results99,vkt,seval,xL];refine Fin.val rfl ?_;(try simp only [AV.le]))
 all_goals first|rfl|simp
set_option maxHeartbeats 4000000 in
theorem Qe7 (cs:List Cabin) (s:Int) (a:Ask) (r:List Ask) (ih:Qao cs s r):Qao cs s (a :: r):=by
 intro sold ok
 have env:Env (fun _=>True) Tryz.prog tyB (tab [(54,qG false Js),(61,qG false Yg),(60,qG false Xp),(99,qG true (QhM cs s r))]):=qA ⟨Qhc,QkO,Qlt,eAllR ih,trivial⟩
 refine Fn.of (A:=fun _=>True) (n0:=0) (D:=noD) (Fn0 Tryz.func99 rfl (fun vs w=>by kernel_rfl) (by kernel_rfl)) (by simp) (by simp [AV.ids,AV.idsL,qd,qa]) (fun i o h=>by cases h) (fun _ _ _ _=>trivial) qw ?_
 have hgn:=ok.gn a (List.mem_cons_self ..)
 have hmn:=ok.many
 have h4:=ok.four
 rw [List.length_cons] at hmn h4
 have hcb:=ok.cabs
 have hCar:CarOk ⟨cs,s,sold⟩:=hgn.car
 obtain ⟨sx1,sx2⟩:=hgn.sx
 have a1:0 < a.sexes.length:=by omega
 have hmx:(100000:Nat)≤maxLen:=by decide
 have hs20:sold.length≤20:=by omega
 have c1:cs.length≤100000:=by omega
 have c2:sold.length≤1000:=by omega
 have ea:(⟨a.party,a.frm,a.to,a.sexes,a.dog⟩:Ask)=a:=rfl
 have hP:=QgW hgn
 have hmem:∀ p ∈ (plP ⟨cs,s,sold⟩ a).map (·.1),p.length=a.sexes.length∧AlOk cs s r (sold++jM a p p.length):=fun p hp=>by
  obtain ⟨x,hx,rfl⟩:=List.mem_map.1 hp
  have hl:x.1.length=a.sexes.length:=by
   rw [Ud hgn] at hp
   exact Qt _ (List.mem_filter.1 hp).1
  have hps:=K4 hx
  refine ⟨hl,fun b hb=>?_, ?_,by omega,hcb⟩
  ·have:=QjG hgn (ok.gn b (List.mem_cons_of_mem _ hb)) hx
   rw [hps] at this
   exact this
  ·rw [List.length_append,YL];omega
 have hPl:((plP ⟨cs,s,sold⟩ a).map (·.1)).length≤1000:=by
  rw [List.length_map]
  have h1:=VJ cs a (LJ hcb fun x hx=>(hgn.car.beds x hx).2) a.sexes.length sold []
  have h2:9 ^ a.sexes.length≤9 ^ 3:=Nat.pow_le_pow_right (by decide) sx2
  show (zz cs a a.sexes.length sold []).length≤1000
  omega
 rw [Qei]
 obtain ⟨P,hPe⟩:∃ P,(plP ⟨cs,s,sold⟩ a).map (·.1)=P:=⟨_,rfl⟩
 rw [hPe] at hP hmem hPl ⊢
 have hPm:P.length≤maxLen:=by omega
 obtain ⟨xs,hxs⟩:∃ xs,qV a :: r.map qV=xs:=⟨_,rfl⟩
 have e0:(a :: r).map qV=xs:=by rw [← hxs];rfl
 have hg0:xs.getD 0 [.v (.int .i64 0),.v (.int .i64 0),.v (.int .i64 0),.sl [],.v (.bool false)]=qV a:=by rw [← hxs];rfl
 have hxr:ze 5 xs=True:=by rw [← e0];exact Xy _
 have hxl:xs.length=r.length+1:=by rw [← hxs];simp
 have z3:List.take (r.length+1) xs=xs:=List.take_of_length_le (by omega)
 have hdr:(xs.take (r.length+1)).drop 1=r.map qV:=by rw [z3,← hxs];rfl
 have hdr2:xs.drop 1=r.map qV:=by rw [← hxs];rfl
 have d9:decide ((((r.length+1):Nat):Int)=0)=false:=decide_eq_false (by omega)
 have z1:(0:Nat) < r.length+1:=by omega
 have z2:(1:Int)≤((r.length+1:Nat):Int):=by omega
 have z4:(((r.length+1:Nat):Int)).toNat=r.length+1:=rfl
 have eq1:∀ p:List Bunk,jM a p p.length=jM a p p.length:=fun _=>rfl
 rw [e0]
 repeat' (first|(apply nx;with_reducible constructor)|refine uq (by decide) ?_|((first|refine vx env fun Q hQ=>?_|refine vz fun Q hQ=>?_);simp only [vkt,seval,kF,xL,vN,mTk,qy,qV,qd,qa,Js,d9,z1,hg0,hxl,ea,hCar,hs20,a1,sx2,hP,ite_and];(repeat' first|with_reducible assumption|apply kk|intro hp);all_goals (first|(refine hQ _ ?_;clear hQ Q)|(refine hQ _ (fun h=>?_) (fun h=>?_) <;> clear hQ Q <;> (try simp only [reduceCtorEq] at h))|(refine vq ?_;kernel_rfl)|omega|assumption|with_reducible rfl|skip)))
 refine qC (fun i:{ i:Nat // i≤P.length∧∀ j,j < i→xw cs s r (sold++jM a (P.getD j []) (P.getD j []).length)=false }=>ralS ⟨cs,s,sold⟩ xs P i.1) (fun i=>P.length - i.1) ⟨0,Nat.zero_le _,fun j h=>absurd h (Nat.not_lt_zero _)⟩ ?_ fun ⟨i,hi,hno⟩=>?_
 ·simp only [ralS]
  (refine Le.ok some [] ?_;constructor;all_goals (try simp only [vle,vkt,seval,xL,vN,qa]))
  all_goals first|rfl|simp
 simp only at hi hno ⊢
 simp only [ralS]
 by_cases hil:i < P.length
 ·have d1:decide ((i:Int) < (P.length:Int))=true:=decide_eq_true (by omega)
  have e9:=k9 i (by omega)
  have i0:((i:Int)).toNat=i:=rfl
  have hg:=Xb hil
  obtain ⟨hpl,hal⟩:=hmem _ (wC (d:=[]) hil)
  have hhere:=Vd (p:=fun p=>xw cs s r (sold++jM a p p.length)) (d:=[]) hil
  obtain ⟨p,hp⟩:∃ p,P.getD i []=p:=⟨_,rfl⟩
  rw [hp] at hg hpl hal hhere
  have p1:p.length≤100:=by omega
  have p2:p.length≤maxLen:=by omega
  have p3:a.sexes.length=p.length:=hpl.symm
  have p4:(jM a p p.length).length≤1000:=by rw [YL];omega
  obtain ⟨T,hT⟩:∃ T,sold++jM a p p.length=T:=⟨_,rfl⟩
  simp only [hT] at hhere
  rw [hT] at hal
  cases q:xw cs s r T with
  |true =>
   rw [hhere q]
   repeat' (first|(apply nx;with_reducible constructor)|refine uq (by decide) ?_|((first|refine vx env fun Q hQ=>?_|refine vz fun Q hQ=>?_);simp only [vkt,seval,kF,xL,vN,qY,QhO,yX,qp,mTk,qy,qV,qd,qa,Yg,Xp,QhM,d1,i0,hil,hp,p1,p3,p4,hT,hal,q,c1,c2,z1,z2,z4,hg0,hxr,hxl,hdr,ea,ite_and];(repeat' first|with_reducible assumption|apply kk|intro hp);all_goals (first|(refine hQ _ ?_;clear hQ Q)|(refine hQ _ (fun h=>?_) (fun h=>?_) <;> clear hQ Q <;> (try simp only [reduceCtorEq] at h))|(refine vq ?_;kernel_rfl)|omega|assumption|with_reducible rfl|skip)))
   (simp only [vrt,Tryz.results99,vkt,seval,xL];refine Fin.val rfl ?_;(try simp only [AV.le]))
   all_goals first|rfl|simp
  |false =>
   repeat' (first|(apply nx;with_reducible constructor)|refine uq (by decide) ?_|((first|refine vx env fun Q hQ=>?_|refine vz fun Q hQ=>?_);simp only [vkt,seval,kF,xL,vN,qY,QhO,yX,qp,mTk,qy,qV,qd,qa,Yg,Xp,QhM,d1,e9,i0,hil,hp,p1,p3,p4,hT,hal,q,c1,c2,z1,z2,z4,hg0,hxr,hxl,hdr,ea,ite_and];(repeat' first|with_reducible assumption|apply kk|intro hp);all_goals (first|(refine hQ _ ?_;clear hQ Q)|(refine hQ _ (fun h=>?_) (fun h=>?_) <;> clear hQ Q <;> (try simp only [reduceCtorEq] at h))|(refine vq ?_;kernel_rfl)|omega|assumption|with_reducible rfl|skip)))
   refine ⟨⟨i+1,hil,fun j hj=>?_⟩,by show P.length - (i+1) < P.length - i;omega, ?_⟩
   ·rcases Nat.lt_or_eq_of_le (Nat.le_of_lt_succ hj) with h|h
    ·exact hno j h
    ·rw [h,hp,hT];exact q
   ·simp only []
    (refine Le.ok some [] ?_;constructor;all_goals (try simp only [vle,vkt,seval,xL,vN,qa]))
    all_goals first|rfl|simp
 ·have d1:decide ((i:Int) < (P.length:Int))=false:=decide_eq_false (by omega)
  obtain rfl:i=P.length:=by omega
  rw [V8 (p:=fun p=>xw cs s r (sold++jM a p p.length)) hno]
  repeat' (first|(apply nx;with_reducible constructor)|refine uq (by decide) ?_|((first|refine vx env fun Q hQ=>?_|refine vz fun Q hQ=>?_);simp only [vkt,seval,kF,xL,vN,qa,d1,ite_and];(repeat' first|with_reducible assumption|apply kk|intro hp);all_goals (first|(refine hQ _ ?_;clear hQ Q)|(refine hQ _ (fun h=>?_) (fun h=>?_) <;> clear hQ Q <;> (try simp only [reduceCtorEq] at h))|(refine vq ?_;kernel_rfl)|omega|assumption|with_reducible rfl|skip)))
  (simp only [vrt,Tryz.results99,vkt,seval,xL];refine Fin.val rfl ?_;(try simp only [AV.le]))
  all_goals first|rfl|simp
theorem QaQ (cs:List Cabin) (s:Int):∀ r,Qao cs s r
 |[]=>Qh3 cs s
 |a :: r=>Qe7 cs s a r (QaQ cs s r)
theorem Qh5 {α β:Type} {f:α→Option β} {d:α} {r:β}:∀ {l:List α} {k:Nat},k < l.length→(∀ j,j < k→f (l.getD j d)=none)→f (l.getD k d)=some r→l.findSome? f=some r
 |x :: l,0,_,_,h=>by
  have h:f x=some r:=h
  rw [List.findSome?_cons,h]
 |x :: l,k+1,hk,hn,h=>by
  have h0:f x=none:=hn 0 (Nat.succ_pos _)
  rw [List.findSome?_cons,h0]
  exact Qh5 (l:=l) (k:=k) (Nat.lt_of_succ_lt_succ hk) (fun j hj=>hn (j+1) (by omega)) h
theorem Qcv {α β:Type} {f:α→Option β} {d:α}:∀ {l:List α},(∀ j,j < l.length→f (l.getD j d)=none)→l.findSome? f=none
 |[],_=>rfl
 |x :: l,h=>by
  have h0:f x=none:=h 0 (Nat.succ_pos _)
  rw [List.findSome?_cons,h0]
  exact Qcv (l:=l) fun j hj=>h (j+1) (by rw [List.length_cons];omega)
theorem Qiq {n:Nat}:∀ (m f:Nat),∀ r ∈ jf n m f,∀ v ∈ r,0≤v∧v.toNat < n
 |0,f,r,h,v,hv=>by rw [jf,List.mem_singleton] at h;rw [h] at hv;simp at hv
 |m+1,f,r,h,v,hv=>by
  rw [jf,List.mem_flatMap] at h
  obtain ⟨k,hk,h⟩:=h
  obtain ⟨w,hw,rfl⟩:=List.mem_map.1 h
  rw [List.mem_range] at hk
  rcases List.mem_cons.1 hv with rfl|hv
  ·exact ⟨by omega,by omega⟩
  ·exact Qiq m _ w hw v hv
theorem Qgu {α:Type} {d:α} {l:List α} {i:Nat} (h:i < l.length):l.take (i+1)=l.take i++[l.getD i d]:=by
 rw [List.take_succ_eq_append_getElem h]
 simp [List.getD_eq_getElem?_getD,h]
def KZ (c:Chart) (L:List Ask) (T:List (Nat × AV)):St:={ t:=asg (T++[(1,qB L),(2,.ptr 0 0)]),h:=qc [(0,.cells (qa c))],n:=1 }
def wB:=vj @ty3 (vj @wh (vj @jL (vj @Yw (vj @x8 (vj @ti3.eq_1 (vj @zQ.eq_1 (vj @wY.eq_1 (vj @Wy.eq_1 @vV.eq_1))))))))
def zN:=vj @aI.eq_1 (vj @aB.eq_1 (@jJ))
set_option maxHeartbeats 4000000 in
theorem Qjm (c:Chart) (L:List Ask) (hc:c.cabins.length≤maxLen) (hs:c.sold.length≤100000) (hL:L.length≤100000) (hsx:∀ a ∈ L,a.sexes.length≤maxLen):FnV Tryz.prog 98 [qd c,qB L] (aI (kX c L)):=by
 have env:Env (fun _=>True) Tryz.prog tyB (tab [(82,qG true Z4),(105,qG true UT)]):=qA ⟨QiX,erask,trivial⟩
 refine Fn.of (A:=fun _=>True) (n0:=0) (D:=noD) (Fn0 Tryz.func98 rfl (fun vs w=>by kernel_rfl) (by kernel_rfl)) (by simp) (by simp [AV.ids,AV.idsL,qd,qa,qB]) (fun i o h=>by cases h) (fun _ _ _ _=>trivial) qw ?_
 have ec:(⟨c.cabins,c.secs,c.sold⟩:Chart)=c:=rfl
 have hmx:(100000:Nat)≤maxLen:=by decide
 obtain ⟨e,he⟩:∃ e,zw c=e:=⟨_,rfl⟩
 by_cases h0:e=0
 case neg =>
  rw [show kX c L=e by unfold kX;rw [he,if_pos h0]]
  have d0:decide (e=0)=false:=decide_eq_false h0
  repeat' (first|(apply nx;with_reducible constructor)|refine uq (by decide) ?_|((first|refine vx env fun Q hQ=>?_|refine vz fun Q hQ=>?_);simp only [vkt,seval,wB,zN,qB,mTk,qy,qd,qa,Z4,ec,hc,hs,he,d0,ite_and];(repeat' first|with_reducible assumption|apply kk|intro hp);all_goals (first|(refine hQ _ ?_;clear hQ Q)|(refine hQ _ (fun h=>?_) (fun h=>?_) <;> clear hQ Q <;> (try simp only [reduceCtorEq] at h))|(refine vq ?_;kernel_rfl)|omega|assumption|with_reducible rfl|skip)))
  (simp only [vrt,Tryz.results98,vkt,seval,zN];refine Fin.val rfl ?_;(try simp only [AV.le]))
  all_goals first|rfl|simp
 rw [h0] at he
 have h8:=(xq he).many
 have h100:c.sold.length≤100:=by omega
 by_cases h4:4 < L.length
 ·have hw:qR L.length 0 4=6:=by unfold qR;rw [if_neg (by omega),if_pos (by omega)]
  rw [show kX c L=6 by unfold kX;rw [he,hw];rfl]
  have d4:decide ((4:Int) < (L.length:Int))=true:=decide_eq_true (by omega)
  repeat' (first|(apply nx;with_reducible constructor)|refine uq (by decide) ?_|((first|refine vx env fun Q hQ=>?_|refine vz fun Q hQ=>?_);simp only [vkt,seval,wB,zN,qB,mTk,qy,qd,qa,Z4,ec,hc,hs,he,d4,decide_true,ite_and];(repeat' first|with_reducible assumption|apply kk|intro hp);all_goals (first|(refine hQ _ ?_;clear hQ Q)|(refine hQ _ (fun h=>?_) (fun h=>?_) <;> clear hQ Q <;> (try simp only [reduceCtorEq] at h))|(refine vq ?_;kernel_rfl)|omega|assumption|with_reducible rfl|skip)))
  (simp only [vrt,Tryz.results98,vkt,seval,zN];refine Fin.val rfl ?_;(try simp only [AV.le]))
  all_goals first|rfl|simp
 have hw:qR L.length 0 4=0:=by unfold qR;rw [if_neg (by omega),if_neg (by omega)]
 have d4:decide ((4:Int) < (L.length:Int))=false:=decide_eq_false (by omega)
 have hE:kX c L=if zM (L.map (wu c)) ≠ 0 then zM (L.map (wu c)) else if WG L then 4 else 0:=by unfold kX;rw [he,hw];rfl
 rw [hE]
 repeat' (first|(apply nx;with_reducible constructor)|refine uq (by decide) ?_|((first|refine vx env fun Q hQ=>?_|refine vz fun Q hQ=>?_);simp only [vkt,seval,wB,zN,qB,mTk,qy,qd,qa,Z4,ec,hc,hs,he,d4,decide_true,ite_and];(repeat' first|with_reducible assumption|apply kk|intro hp);all_goals (first|(refine hQ _ ?_;clear hQ Q)|(refine hQ _ (fun h=>?_) (fun h=>?_) <;> clear hQ Q <;> (try simp only [reduceCtorEq] at h))|(refine vq ?_;kernel_rfl)|omega|assumption|with_reducible rfl|skip)))
 refine qC (fun k:{ k:Nat // k≤L.length∧∀ j,j < k→(L.map (wu c)).getD j 0=0 }=>KZ c L [(6,aI k.1)]) (fun k=>L.length - k.1) ⟨0,Nat.zero_le _,fun j h=>absurd h (Nat.not_lt_zero _)⟩ ?_ fun ⟨k,hk,hno⟩=>?_
 ·simp only [KZ,List.cons_append,List.nil_append]
  (refine Le.ok some [] ?_;constructor;all_goals (try simp only [vle,vkt,seval,zN,qB,qa]))
  all_goals first|rfl|simp
 simp only at hk hno ⊢
 simp only [KZ,List.cons_append,List.nil_append]
 by_cases hkl:k < L.length
 ·have d1:decide ((k:Int) < (L.length:Int))=true:=decide_eq_true (by omega)
  have e9:=k9 k (by omega)
  have k0:((k:Int)).toNat=k:=rfl
  have hg:=Vv hkl
  have hxs:=hsx _ (wC (d:=default) hkl)
  have hm:(L.map (wu c)).getD k 0=wu c (L.getD k default):=mapD hkl
  obtain ⟨x,hx⟩:∃ x,L.getD k default=x:=⟨_,rfl⟩
  rw [hx] at hg hxs hm
  have ex:(⟨x.party,x.frm,x.to,x.sexes,x.dog⟩:Ask)=x:=rfl
  obtain ⟨v,hv⟩:∃ v,wu c x=v:=⟨_,rfl⟩
  rw [hv] at hm
  by_cases hv0:v=0
  ·rw [hv0] at hv
   repeat' (first|(apply nx;with_reducible constructor)|refine uq (by decide) ?_|((first|refine vx env fun Q hQ=>?_|refine vz fun Q hQ=>?_);simp only [vkt,seval,wB,zN,qB,qV,JA,mTk,qy,qa,UT,d1,k0,hkl,hx,ec,ex,h100,hxs,hv,e9,decide_true,ite_and];(repeat' first|with_reducible assumption|apply kk|intro hp);all_goals (first|(refine hQ _ ?_;clear hQ Q)|(refine hQ _ (fun h=>?_) (fun h=>?_) <;> clear hQ Q <;> (try simp only [reduceCtorEq] at h))|(refine vq ?_;kernel_rfl)|omega|assumption|with_reducible rfl|skip)))
   refine ⟨⟨k+1,hkl,fun j hj=>?_⟩,by show L.length - (k+1) < L.length - k;omega, ?_⟩
   ·rcases Nat.lt_or_eq_of_le (Nat.le_of_lt_succ hj) with h2|h2
    ·exact hno j h2
    ·rw [h2,hm,hv0]
   ·simp only []
    (refine Le.ok some [] ?_;constructor;all_goals (try simp only [vle,vkt,seval,zN,qB,qa]))
    all_goals first|rfl|simp
  ·have hf:=wU hno (by simpa using hkl) (by rw [hm];exact hv0)
   rw [hm] at hf
   rw [hf,if_pos hv0]
   have d0:decide (v=0)=false:=decide_eq_false hv0
   repeat' (first|(apply nx;with_reducible constructor)|refine uq (by decide) ?_|((first|refine vx env fun Q hQ=>?_|refine vz fun Q hQ=>?_);simp only [vkt,seval,wB,zN,qB,qV,JA,mTk,qy,qa,UT,d1,k0,hkl,hx,ec,ex,h100,hxs,hv,d0,ite_and];(repeat' first|with_reducible assumption|apply kk|intro hp);all_goals (first|(refine hQ _ ?_;clear hQ Q)|(refine hQ _ (fun h=>?_) (fun h=>?_) <;> clear hQ Q <;> (try simp only [reduceCtorEq] at h))|(refine vq ?_;kernel_rfl)|omega|assumption|with_reducible rfl|skip)))
   (simp only [vrt,Tryz.results98,vkt,seval,zN];refine Fin.val rfl ?_;(try simp only [AV.le]))
   all_goals first|rfl|simp
 have d1:decide ((k:Int) < (L.length:Int))=false:=decide_eq_false (by omega)
 obtain rfl:k=L.length:=by omega
 rw [wD (l:=L.map (wu c)) (by simpa using hno),if_neg (by decide)]
 repeat' (first|(apply nx;with_reducible constructor)|refine uq (by decide) ?_|((first|refine vx env fun Q hQ=>?_|refine vz fun Q hQ=>?_);simp only [vkt,seval,wB,zN,qB,qa,d1,ite_and];(repeat' first|with_reducible assumption|apply kk|intro hp);all_goals (first|(refine hQ _ ?_;clear hQ Q)|(refine hQ _ (fun h=>?_) (fun h=>?_) <;> clear hQ Q <;> (try simp only [reduceCtorEq] at h))|(refine vq ?_;kernel_rfl)|omega|assumption|with_reducible rfl|skip)))
 refine qC (fun i:{ i:Nat // i≤L.length∧∀ j,j < i→((L.take j).any fun x=>decide (x.party=(L.getD j default).party))=false }=>KZ c L [(8,aI i.1)]) (fun i=>L.length - i.1) ⟨0,Nat.zero_le _,fun j h=>absurd h (Nat.not_lt_zero _)⟩ ?_ fun ⟨i,hi,hni⟩=>?_
 ·simp only [KZ,List.cons_append,List.nil_append]
  (refine Le.ok some [] ?_;constructor;all_goals (try simp only [vle,vkt,seval,zN,qB,qa]))
  all_goals first|rfl|simp
 simp only at hi hni ⊢
 simp only [KZ,List.cons_append,List.nil_append]
 by_cases hil:i < L.length
 ·have d1:decide ((i:Int) < (L.length:Int))=true:=decide_eq_true (by omega)
  have e9:=k9 i (by omega)
  have i0:((i:Int)).toNat=i:=rfl
  have hgi:=Vv hil
  have hh:=XR hil
  obtain ⟨y,hy⟩:∃ y,L.getD i default=y:=⟨_,rfl⟩
  rw [hy] at hgi hh
  repeat' (first|(apply nx;with_reducible constructor)|refine uq (by decide) ?_|((first|refine vx env fun Q hQ=>?_|refine vz fun Q hQ=>?_);simp only [vkt,seval,wB,zN,qB,qa,d1,ite_and];(repeat' first|with_reducible assumption|apply kk|intro hp);all_goals (first|(refine hQ _ ?_;clear hQ Q)|(refine hQ _ (fun h=>?_) (fun h=>?_) <;> clear hQ Q <;> (try simp only [reduceCtorEq] at h))|(refine vq ?_;kernel_rfl)|omega|assumption|with_reducible rfl|skip)))
  refine qC (fun k:{ k:Nat // k≤i∧∀ j,j < k→decide ((L.getD j default).party=y.party)=false }=>KZ c L [(8,aI i),(9,aI k.1)]) (fun k=>i - k.1) ⟨0,Nat.zero_le _,fun j h=>absurd h (Nat.not_lt_zero _)⟩ ?_ fun ⟨k,hk,hno⟩=>?_
  ·simp only [KZ,List.cons_append,List.nil_append]
   (refine Le.ok some [] ?_;constructor;all_goals (try simp only [vle,vkt,seval,zN,qB,qa]))
   all_goals first|rfl|simp
  simp only at hk hno ⊢
  simp only [KZ,List.cons_append,List.nil_append]
  by_cases hki:k < i
  ·have d2:decide ((k:Int) < (i:Int))=true:=decide_eq_true (by omega)
   have e8:=k9 k (by omega)
   have k0:((k:Int)).toNat=k:=rfl
   have hkl:k < L.length:=by omega
   have hgk:=Vv hkl
   have hin:(L.take i).getD k default=L.getD k default:=by simp [List.getD_eq_getElem?_getD,hki]
   obtain ⟨x,hx⟩:∃ x,L.getD k default=x:=⟨_,rfl⟩
   rw [hx] at hgk hin
   cases q:decide (x.party=y.party) with
   |true =>
    rw [hh (Vd (d:=default) (k:=k) (by rw [List.length_take];omega) (by rw [hin];exact q)),if_pos rfl]
    repeat' (first|(apply nx;with_reducible constructor)|refine uq (by decide) ?_|((first|refine vx env fun Q hQ=>?_|refine vz fun Q hQ=>?_);simp only [vkt,seval,wB,zN,qB,qV,JA,qa,d2,i0,k0,hil,hkl,hx,hy,q,ite_and];(repeat' first|with_reducible assumption|apply kk|intro hp);all_goals (first|(refine hQ _ ?_;clear hQ Q)|(refine hQ _ (fun h=>?_) (fun h=>?_) <;> clear hQ Q <;> (try simp only [reduceCtorEq] at h))|(refine vq ?_;kernel_rfl)|omega|assumption|with_reducible rfl|skip)))
    (simp only [vrt,Tryz.results98,vkt,seval,zN];refine Fin.val rfl ?_;(try simp only [AV.le]))
    all_goals first|rfl|simp
   |false =>
    repeat' (first|(apply nx;with_reducible constructor)|refine uq (by decide) ?_|((first|refine vx env fun Q hQ=>?_|refine vz fun Q hQ=>?_);simp only [vkt,seval,wB,zN,qB,qV,JA,qa,d2,i0,k0,hil,hkl,hx,hy,q,e8,ite_and];(repeat' first|with_reducible assumption|apply kk|intro hp);all_goals (first|(refine hQ _ ?_;clear hQ Q)|(refine hQ _ (fun h=>?_) (fun h=>?_) <;> clear hQ Q <;> (try simp only [reduceCtorEq] at h))|(refine vq ?_;kernel_rfl)|omega|assumption|with_reducible rfl|skip)))
    refine ⟨⟨k+1,hki,fun j hj=>?_⟩,by show i - (k+1) < i - k;omega, ?_⟩
    ·rcases Nat.lt_or_eq_of_le (Nat.le_of_lt_succ hj) with h2|h2
     ·exact hno j h2
     ·rw [h2,hx];exact q
    ·simp only []
     (refine Le.ok some [] ?_;constructor;all_goals (try simp only [vle,vkt,seval,zN,qB,qa]))
     all_goals first|rfl|simp
  ·have d2:decide ((k:Int) < (i:Int))=false:=decide_eq_false (by omega)
   obtain rfl:k=i:=by omega
   repeat' (first|(apply nx;with_reducible constructor)|refine uq (by decide) ?_|((first|refine vx env fun Q hQ=>?_|refine vz fun Q hQ=>?_);simp only [vkt,seval,wB,zN,qB,qa,d2,e9,ite_and];(repeat' first|with_reducible assumption|apply kk|intro hp);all_goals (first|(refine hQ _ ?_;clear hQ Q)|(refine hQ _ (fun h=>?_) (fun h=>?_) <;> clear hQ Q <;> (try simp only [reduceCtorEq] at h))|(refine vq ?_;kernel_rfl)|omega|assumption|with_reducible rfl|skip)))
   refine ⟨⟨k+1,hil,fun j hj=>?_⟩,by show L.length - (k+1) < L.length - k;omega, ?_⟩
   ·rcases Nat.lt_or_eq_of_le (Nat.le_of_lt_succ hj) with h2|h2
    ·exact hni j h2
    ·rw [h2,hy]
     refine V8 (d:=default) fun q hq=>?_
     rw [List.length_take] at hq
     have:(L.take k).getD q default=L.getD q default:=by simp [List.getD_eq_getElem?_getD,show q < k by omega]
     rw [this]
     exact hno q (by omega)
   ·simp only []
    (refine Le.ok some [] ?_;constructor;all_goals (try simp only [vle,vkt,seval,zN,qB,qa]))
    all_goals first|rfl|simp
 ·have d1:decide ((i:Int) < (L.length:Int))=false:=decide_eq_false (by omega)
  obtain rfl:i=L.length:=by omega
  rw [QaO hni,if_neg (by decide)]
  repeat' (first|(apply nx;with_reducible constructor)|refine uq (by decide) ?_|((first|refine vx env fun Q hQ=>?_|refine vz fun Q hQ=>?_);simp only [vkt,seval,wB,zN,qB,qa,d1,ite_and];(repeat' first|with_reducible assumption|apply kk|intro hp);all_goals (first|(refine hQ _ ?_;clear hQ Q)|(refine hQ _ (fun h=>?_) (fun h=>?_) <;> clear hQ Q <;> (try simp only [reduceCtorEq] at h))|(refine vq ?_;kernel_rfl)|omega|assumption|with_reducible rfl|skip)))
  (simp only [vrt,Tryz.results98,vkt,seval,zN];refine Fin.val rfl ?_;(try simp only [AV.le]))
  all_goals first|rfl|simp
def U0:List AV→Prop × AV
 |[.agg [.sl c0,.v (.int .i64 c1),.sl c2],.sl x]=>(c0=(c0.map qj).map qz∧c2=(c2.map dTk).map eTk∧x=(x.map jb).map qV∧((⟨(c0.map qj),c1,(c2.map dTk)⟩:Chart)).cabins.length≤maxLen∧((⟨(c0.map qj),c1,(c2.map dTk)⟩:Chart)).sold.length≤100000∧(x.map jb).length≤100000∧(∀ a ∈ (x.map jb),a.sexes.length≤maxLen),aI (kX ((⟨(c0.map qj),c1,(c2.map dTk)⟩:Chart)) (x.map jb)))
 |_=>(False,.junk)
theorem erSev {A:Frm→Prop}:qm A Tryz.prog 98 (qG true U0):=qH fun vs hv h=>by
 clear hv
 unfold U0 at h ⊢
 split at h
 ·rename_i c0 c1 c2 x;obtain ⟨q0,q1,q2,k0,k1,k2,k3⟩:=h
  refine ⟨by first|trivial|(repeat' split) <;> simp [AV.plain,AV.plainL,aI,aB,ql,qb,qp,qx,aTk,cTk],fun _=>(by simp [AV.flat,aI]), ?_⟩
  have:=Qjm ((⟨(c0.map qj),c1,(c2.map dTk)⟩:Chart)) (x.map jb) k0 k1 k2 k3
  simp only [qB,qd,aI,qa,← q0,← q1,← q2] at this
  first|exact this|(simp only [qB,zB,qd,aI,qp,qa,← q0,← q1,← q2];exact this)
 ·exact h.elim
theorem QgH {c:Chart} {L:List Ask} (h:kX c L=0):zw c=0∧L.length≤4∧∀ a ∈ L,wu c a=0:=by
 unfold kX at h
 split at h
 ·exact absurd h ‹_›
 rename_i h1
 split at h
 ·exact absurd h ‹_›
 rename_i h2
 split at h
 ·exact absurd h ‹_›
 rename_i h3
 have h2:=Decidable.not_not.1 h2
 refine ⟨Decidable.not_not.1 h1, ?_,fun a ha=>vS (Decidable.not_not.1 h3) _ (List.mem_map.2 ⟨a,ha,rfl⟩)⟩
 unfold qR at h2
 split at h2
 ·exact absurd h2 (by decide)
 ·split at h2
  ·exact absurd h2 (by decide)
  ·omega
theorem Qef {c:Chart} {L:List Ask} (h4:L.length≤4) {m:Nat} (hm:m≤L.length):(vQ L.length m [] 0).findSome? (Yi fun b=>tkB c.cabins c.secs L b c.sold)=(jf L.length m 0).findSome? fun l=>if xw c.cabins c.secs (j3 L l) c.sold then some l else none:=by
 rw [VD,Qin]
 refine LU fun l hl=>?_
 rw [List.nil_append]
 show (if tkB c.cabins c.secs L (vY l) c.sold then some l else none)=_
 rw [QeT c.cabins c.secs L c.sold h4 m hm l hl]
 rfl
def Qep (c:Chart) (L:List Ask) (T:List (Nat × AV)):St:={ t:=asg (T++[(1,qB L),(2,.ptr 0 0)]),h:=qc [(0,.cells (qa c))],n:=1 }
def LH:List AV→Prop × AV
 |[.agg [.sl cc,.v (.int .i64 s),.sl ts],.sl xs]=>(cc=(cc.map qj).map qz∧xs=(xs.map jb).map qV∧ts=(ts.map dTk).map eTk∧AlOk (cc.map qj) s (xs.map jb) (ts.map dTk),aB (xw (cc.map qj) s (xs.map jb) (ts.map dTk)))
 |_=>(False,.junk)
theorem eAllV {A:Frm→Prop}:qm A Tryz.prog 99 (qG true LH):=qH fun vs hv h=>by
 clear hv
 unfold LH at h ⊢
 split at h
 ·rename_i cc s ts xs
  obtain ⟨h1,h2,h3,h5⟩:=h
  refine ⟨by simp [AV.plain,aB],fun _=>by simp [AV.flat,aB], ?_⟩
  have:=QaQ _ _ _ _ h5
  simp only [qd,qa,← h1,← h2,← h3] at this
  exact this
 ·exact h.elim
def jU:=vj @ty3 (vj @wh (vj @yf (vj @jL (vj @Yw (vj @x8 (vj @Qla (vj @ti3.eq_1 (vj @zQ.eq_1 (vj @jK.eq_1 (vj @wY.eq_1 (vj @Wy.eq_1 (vj @vV.eq_1 @Lh.eq_1))))))))))))
def jF:=vj @aI.eq_1 (vj @aB.eq_1 (vj @ql.eq_1 (vj @QO.eq_1 (vj @qU.eq_1 (vj @Qo.eq_1 (vj @Qk8 (vj @jJ (@QkN))))))))
set_option maxHeartbeats 4000000 in
theorem Qha (c:Chart) (L:List Ask) (hc:c.cabins.length≤maxLen) (hs:c.sold.length≤100000) (hL:L.length≤100000) (hsx:∀ a ∈ L,a.sexes.length≤maxLen):FnV Tryz.prog 40 [qd c,qB L] (.tup [ql (jl c L).1,aI (jl c L).2]):=by
 have env:Env (fun _=>True) Tryz.prog tyB (tab [(98,qG true U0),(68,qG false Jt),(100,qG false Xo),(99,qG true LH)]):=qA ⟨erSev,QhI,Qlc,eAllV,trivial⟩
 refine Fn.of (A:=fun _=>True) (n0:=0) (D:=noD) (Fn0 Tryz.func40 rfl (fun vs w=>by kernel_rfl) (by kernel_rfl)) (by simp) (by simp [AV.ids,AV.idsL,qd,qa,qB]) (fun i o h=>by cases h) (fun _ _ _ _=>trivial) qw ?_
 have ec:(⟨c.cabins,c.secs,c.sold⟩:Chart)=c:=rfl
 have hmx:(100000:Nat)≤maxLen:=by decide
 obtain ⟨e,he⟩:∃ e,kX c L=e:=⟨_,rfl⟩
 by_cases h0:e=0
 case neg =>
  rw [show jl c L=([],e) by unfold jl;rw [he,if_pos h0]]
  have d0:decide (e=0)=false:=decide_eq_false h0
  repeat' (first|(apply nx;with_reducible constructor)|refine uq (by decide) ?_|((first|refine vx env fun Q hQ=>?_|refine vz fun Q hQ=>?_);simp only [vkt,seval,jU,jF,qB,JU,mTk,qy,qd,qa,U0,ec,hc,hs,hL,he,d0,ite_and];(repeat' first|with_reducible assumption|apply kk|intro hp);all_goals (first|(refine hQ _ ?_;clear hQ Q)|(refine hQ _ (fun h=>?_) (fun h=>?_) <;> clear hQ Q <;> (try simp only [reduceCtorEq] at h))|(refine vq ?_;kernel_rfl)|omega|assumption|with_reducible rfl|skip)))
  (simp only [vrt,Tryz.results40,vkt,seval,jF];refine Fin.val rfl ?_;(try simp only [AV.le,AV.leL]))
  all_goals first|rfl|simp
 rw [h0] at he
 obtain ⟨k1,h4,k3⟩:=QgH he
 have hV:=xq k1
 have h8:=hV.many
 have hcb:=hV.car.cabs
 have hgn:∀ a ∈ L,GnOk c a:=fun a ha=>gn_of (show zJ c a=0 by unfold zJ;rw [k1,if_neg (by decide)];exact k3 a ha)
 rw [show jl c L=((vZ (fun b=>tkB c.cabins c.secs L b c.sold) L.length L.length).getD [],0) by unfold jl;rw [he,if_neg (by decide)]]
 have hst:=fun {m:Nat} (hm:m≤L.length)=>Qef (c:=c) h4 hm
 obtain ⟨F,hF⟩:∃ F:Int→Bool,(fun b=>tkB c.cabins c.secs L b c.sold)=F:=⟨_,rfl⟩
 rw [hF] at hst ⊢
 have hL1:L.length≤1000:=by omega
 have hLm:L.length≤maxLen:=by omega
 repeat' (first|(apply nx;with_reducible constructor)|refine uq (by decide) ?_|((first|refine vx env fun Q hQ=>?_|refine vz fun Q hQ=>?_);simp only [vkt,seval,jU,jF,qB,JU,mTk,qy,qd,qa,U0,ec,hc,hs,hL,he,decide_true,ite_and];(repeat' first|with_reducible assumption|apply kk|intro hp);all_goals (first|(refine hQ _ ?_;clear hQ Q)|(refine hQ _ (fun h=>?_) (fun h=>?_) <;> clear hQ Q <;> (try simp only [reduceCtorEq] at h))|(refine vq ?_;kernel_rfl)|omega|assumption|with_reducible rfl|skip)))
 refine qC (fun m:{ m:Nat // m≤L.length∧vZ F L.length L.length=vZ F L.length m }=>Qep c L [(7,aI m.1)]) (fun m=>m.1) ⟨L.length,Nat.le_refl _,rfl⟩ ?_ fun ⟨m,hm,hmo⟩=>?_
 ·simp only [Qep,List.cons_append,List.nil_append]
  (refine Le.ok some [] ?_;constructor;all_goals (try simp only [vle,vkt,seval,jF,qB,qa]))
  all_goals first|rfl|simp
 simp only at hm hmo ⊢
 simp only [Qep,List.cons_append,List.nil_append]
 cases m with
 |zero =>
  rw [hmo,vZ]
  have d1:decide ((0:Int) < ((0:Nat):Int))=false:=rfl
  repeat' (first|(apply nx;with_reducible constructor)|refine uq (by decide) ?_|((first|refine vx env fun Q hQ=>?_|refine vz fun Q hQ=>?_);simp only [vkt,seval,jU,jF,qB,qa,ite_and];(repeat' first|with_reducible assumption|apply kk|intro hp);all_goals (first|(refine hQ _ ?_;clear hQ Q)|(refine hQ _ (fun h=>?_) (fun h=>?_) <;> clear hQ Q <;> (try simp only [vki] at h))|(refine vq ?_;kernel_rfl)|omega|assumption|with_reducible rfl|skip)))
  (simp only [vrt,Tryz.results40,vkt,seval,jF];refine Fin.val rfl ?_;(try simp only [AV.le,AV.leL]))
  all_goals first|rfl|simp
 |succ m =>
  have d1:decide ((0:Int) < ((m+1:Nat):Int))=true:=decide_eq_true (by omega)
  have w1:IntKind.wrap .i64 (((m+1:Nat):Int) - 1)=(m:Int):=by rw [wrap64 (by omega) (by omega)];omega
  have hst:=hst hm
  have m0:(((m+1:Nat):Int)).toNat=m+1:=rfl
  have n0:((L.length:Int)).toNat=L.length:=rfl
  have z0:((0:Int)).toNat=0:=rfl
  have m1:(0:Int)≤((m+1:Nat):Int):=by omega
  have m2:((m+1:Nat):Int)≤4:=by omega
  have n1:(0:Int)≤(L.length:Int):=by omega
  have n2:(L.length:Int)≤8:=by omega
  have hch1:=YS (n:=L.length) (m+1) 0
  have hch2:=Qiq (n:=L.length) (m+1) 0
  have hCHl:=Qcm (n:=L.length) (by omega) (m+1) 0
  have h8m:8 ^ (m+1)≤4096:=Nat.le_trans (Nat.pow_le_pow_right (by decide) (show m+1≤4 by omega)) (by decide)
  have hmD:vZ F L.length (m+1)=match (vQ L.length (m+1) [] 0).findSome? (Yi F) with|some l=>some l|none=>vZ F L.length m:=rfl
  rw [hst] at hmD
  obtain ⟨CH,hCH⟩:∃ l,jf L.length (m+1) 0=l:=⟨_,rfl⟩
  rw [hCH] at hmD hch1 hch2 hCHl
  have CHm:CH.length≤maxLen:=by omega
  repeat' (first|(apply nx;with_reducible constructor)|refine uq (by decide) ?_|((first|refine vx env fun Q hQ=>?_|refine vz fun Q hQ=>?_);simp only [vkt,seval,jU,jF,qB,qa,Jt,d1,m0,n0,z0,m1,m2,n1,n2,hCH,Int.le_refl,ite_and];(repeat' first|with_reducible assumption|apply kk|intro hp);all_goals (first|(refine hQ _ ?_;clear hQ Q)|(refine hQ _ (fun h=>?_) (fun h=>?_) <;> clear hQ Q <;> (try simp only [reduceCtorEq] at h))|(refine vq ?_;kernel_rfl)|omega|assumption|with_reducible rfl|skip)))
  refine qC (fun i:{ i:Nat // i≤CH.length∧∀ j,j < i→xw c.cabins c.secs (j3 L (CH.getD j [])) c.sold=false }=>Qep c L [(7,aI ((m+1:Nat):Int)),(8,QO CH),(9,aI i.1)]) (fun i=>CH.length - i.1) ⟨0,Nat.zero_le _,fun j h=>absurd h (Nat.not_lt_zero _)⟩ ?_ fun ⟨i,hi,hno⟩=>?_
  ·simp only [Qep,List.cons_append,List.nil_append]
   (refine Le.ok some [] ?_;constructor;all_goals (try simp only [vle,vkt,seval,jF,qB,qa]))
   all_goals first|rfl|simp
  simp only at hi hno ⊢
  simp only [Qep,List.cons_append,List.nil_append]
  by_cases hil:i < CH.length
  ·have d2:decide ((i:Int) < (CH.length:Int))=true:=decide_eq_true (by omega)
   have e2:=k9 i (by omega)
   have i0:((i:Int)).toNat=i:=rfl
   have hgr:=QkM hil
   have hrl:=hch1 _ (wC (d:=[]) hil)
   have hrb:=hch2 _ (wC (d:=[]) hil)
   have hhit:=fun r (h:(fun l=>if xw c.cabins c.secs (j3 L l) c.sold then some l else none) (CH.getD i [])=some r)=>Qh5 (f:=fun l=>if xw c.cabins c.secs (j3 L l) c.sold then some l else none) (d:=[]) hil (fun j hj=>by show (if xw c.cabins c.secs (j3 L (CH.getD j [])) c.sold then some (CH.getD j []) else none)=none;rw [hno j hj,if_neg (by decide)]) h
   obtain ⟨r,hr⟩:∃ r,CH.getD i []=r:=⟨_,rfl⟩
   rw [hr] at hgr hrl hrb hhit
   have hr1:r.length≤1000:=by omega
   have hr2:r.length≤maxLen:=by omega
   have hal:AlOk c.cabins c.secs (j3 L r) c.sold:=by
    have hl:(j3 L r).length=m+1:=by unfold j3;rw [List.length_map];exact hrl
    refine ⟨fun a ha=>?_,by omega,by omega,by omega⟩
    obtain ⟨k,hk,rfl⟩:=List.mem_map.1 ha
    exact hgn _ (wC (hrb k hk).2)
   obtain ⟨B,hB⟩:∃ B,j3 L r=B:=⟨_,rfl⟩
   rw [hB] at hal
   cases q:xw c.cabins c.secs B c.sold with
   |true =>
    have:=hhit r (by show (if xw c.cabins c.secs (j3 L r) c.sold then some r else none)=some r;rw [hB,q,if_pos rfl])
    rw [this] at hmD
    rw [hmo,hmD]
    repeat' (first|(apply nx;with_reducible constructor)|refine uq (by decide) ?_|((first|refine vx env fun Q hQ=>?_|refine vz fun Q hQ=>?_);simp only [vkt,seval,jU,jF,qB,JU,mTk,qy,qa,Xo,LH,d2,i0,hil,hr,hL1,hr1,hB,hal,q,ite_and];(repeat' first|with_reducible assumption|apply kk|intro hp);all_goals (first|(refine hQ _ ?_;clear hQ Q)|(refine hQ _ (fun h=>?_) (fun h=>?_) <;> clear hQ Q <;> (try simp only [reduceCtorEq] at h))|(refine vq ?_;kernel_rfl)|omega|assumption|with_reducible rfl|skip)))
    (simp only [vrt,Tryz.results40,vkt,seval,jF];refine Fin.val rfl ?_;(try simp only [AV.le,AV.leL]))
    all_goals first|rfl|simp
   |false =>
    repeat' (first|(apply nx;with_reducible constructor)|refine uq (by decide) ?_|((first|refine vx env fun Q hQ=>?_|refine vz fun Q hQ=>?_);simp only [vkt,seval,jU,jF,qB,JU,mTk,qy,qa,Xo,LH,d2,e2,i0,hil,hr,hL1,hr1,hB,hal,q,ite_and];(repeat' first|with_reducible assumption|apply kk|intro hp);all_goals (first|(refine hQ _ ?_;clear hQ Q)|(refine hQ _ (fun h=>?_) (fun h=>?_) <;> clear hQ Q <;> (try simp only [reduceCtorEq] at h))|(refine vq ?_;kernel_rfl)|omega|assumption|with_reducible rfl|skip)))
    refine ⟨⟨i+1,hil,fun j hj=>?_⟩,by show CH.length - (i+1) < CH.length - i;omega, ?_⟩
    ·rcases Nat.lt_or_eq_of_le (Nat.le_of_lt_succ hj) with h|h
     ·exact hno j h
     ·rw [h,hr,hB];exact q
    ·simp only []
     (refine Le.ok some [] ?_;constructor;all_goals (try simp only [vle,vkt,seval,jF,qB,qa]))
     all_goals first|rfl|simp
  ·have d2:decide ((i:Int) < (CH.length:Int))=false:=decide_eq_false (by omega)
   obtain rfl:i=CH.length:=by omega
   have hmiss:=Qcv (f:=fun l=>if xw c.cabins c.secs (j3 L l) c.sold then some l else none) (d:=[]) (l:=CH) fun j hj=>by show (if xw c.cabins c.secs (j3 L (CH.getD j [])) c.sold then some (CH.getD j []) else none)=none;rw [hno j hj,if_neg (by decide)]
   rw [hmiss] at hmD
   repeat' (first|(apply nx;with_reducible constructor)|refine uq (by decide) ?_|((first|refine vx env fun Q hQ=>?_|refine vz fun Q hQ=>?_);simp only [vkt,seval,jU,jF,qB,qa,d2,w1,ite_and];(repeat' first|with_reducible assumption|apply kk|intro hp);all_goals (first|(refine hQ _ ?_;clear hQ Q)|(refine hQ _ (fun h=>?_) (fun h=>?_) <;> clear hQ Q <;> (try simp only [reduceCtorEq] at h))|(refine vq ?_;kernel_rfl)|omega|assumption|with_reducible rfl|skip)))
   refine ⟨⟨m,by omega,by rw [hmo,hmD]⟩,Nat.lt_succ_self m, ?_⟩
   simp only []
   (refine Le.ok some [] ?_;constructor;all_goals (try simp only [vle,vkt,seval,jF,qB,qa]))
   all_goals first|rfl|simp
def UE:List AV→Prop × AV
 |[.agg [.sl c0,.v (.int .i64 c1),.sl c2],.sl x]=>(c0=(c0.map qj).map qz∧c2=(c2.map dTk).map eTk∧x=(x.map jb).map qV∧((⟨(c0.map qj),c1,(c2.map dTk)⟩:Chart)).cabins.length≤maxLen∧((⟨(c0.map qj),c1,(c2.map dTk)⟩:Chart)).sold.length≤100000∧(x.map jb).length≤100000∧(∀ a ∈ (x.map jb),a.sexes.length≤maxLen),.tup [ql (jl ((⟨(c0.map qj),c1,(c2.map dTk)⟩:Chart)) (x.map jb)).1,aI (jl ((⟨(c0.map qj),c1,(c2.map dTk)⟩:Chart)) (x.map jb)).2])
 |_=>(False,.junk)
theorem QlH {A:Frm→Prop}:qm A Tryz.prog 40 (qG false UE):=qH fun vs hv h=>by
 clear hv
 unfold UE at h ⊢
 split at h
 ·rename_i c0 c1 c2 x;obtain ⟨q0,q1,q2,k0,k1,k2,k3⟩:=h
  refine ⟨by first|trivial|(repeat' split) <;> simp [AV.plain,AV.plainL,aI,aB,ql,qb,qp,qx,aTk,cTk],fun h=>absurd h (by decide), ?_⟩
  have:=Qha ((⟨(c0.map qj),c1,(c2.map dTk)⟩:Chart)) (x.map jb) k0 k1 k2 k3
  simp only [qB,qd,aI,qa,← q0,← q1,← q2] at this
  first|exact this|(simp only [qB,zB,qd,aI,qp,qa,← q0,← q1,← q2];exact this)
 ·exact h.elim
def ppA (L:List Ask):Nat→Int
 |0=>0
 |i+1=>min 100 (ppA L i+((L.getD i default).sexes.length:Int))
theorem Qk1 (L:List Ask):∀ i,0≤ppA L i∧ppA L i≤100
 |0=>⟨Int.le_refl 0,by show (0:Int)≤100;decide⟩
 |i+1=>by
  have:=Qk1 L i
  rw [ppA]
  omega
theorem QdB (L:List Ask) {i:Nat} (h:ppA L i=100):∀ k,ppA L (i+k)=100
 |0=>h
 |k+1=>by
  have:=QdB L h k
  rw [← Nat.add_assoc,ppA,this]
  omega
def ppS (L:List Ask) (n:Int) (i:Nat):St:={ t:=asg [(0,qB L),(3,aI n),(4,aI i)],h:=qc [],n:=0 }
def QJ:=vj @ty3 (vj @yf (vj @jL (vj @Yw (vj @ti3.eq_1 (vj @jK.eq_1 (vj @wY.eq_1 @Wy.eq_1))))))
def Qu:=vj @aI.eq_1 (@aB.eq_1)
theorem Qe1 (L:List Ask) (hL:L.length≤1000) (hsx:∀ a ∈ L,a.sexes.length≤2000000):FnV Tryz.prog 36 [qB L] (aI (ppA L L.length)):=by
 have env:Env (fun _=>True) Tryz.prog tyB (tab []):=qA trivial
 refine Fn.of (A:=fun _=>True) (n0:=0) (D:=noD) (Fn0 Tryz.func36 rfl (fun vs w=>by kernel_rfl) (by kernel_rfl)) (by simp) (by simp [AV.ids,qB]) (fun i o h=>by cases h) (fun _ _ _ _=>trivial) qw ?_
 have hmx:(100000:Nat)≤maxLen:=by decide
 repeat' (first|(apply nx;with_reducible constructor)|refine uq (by decide) ?_|((first|refine vx env fun Q hQ=>?_|refine vz fun Q hQ=>?_);simp only [vkt,seval,qB,ite_and];(repeat' first|with_reducible assumption|apply kk|intro hp);all_goals (first|(refine hQ _ ?_;clear hQ Q)|(refine hQ _ (fun h=>?_) (fun h=>?_) <;> clear hQ Q <;> (try simp only [vki,reduceCtorEq] at h))|(refine vq ?_;kernel_rfl)|omega|assumption|with_reducible rfl|skip)))
 refine qC (fun i:{ i:Nat // i≤L.length }=>ppS L (ppA L i.1) i.1) (fun i=>L.length - i.1) ⟨0,Nat.zero_le _⟩ ?_ fun ⟨i,hi⟩=>?_
 ·simp only [ppS,show ppA L 0=0 from rfl]
  (refine Le.ok some [] ?_;constructor;all_goals (try simp only [vle,vkt,seval,Qu,qB]))
  all_goals first|rfl|simp
 simp only at hi ⊢
 have hb:=Qk1 L i
 have hst:=fun h=>QdB L (i:=i) h
 have hS:ppA L (i+1)=min 100 (ppA L i+((L.getD i default).sexes.length:Int)):=rfl
 obtain ⟨n,hn⟩:∃ n,ppA L i=n:=⟨_,rfl⟩
 rw [hn] at hb hst hS
 simp only [ppS,hn]
 by_cases hil:i < L.length
 ·have d1:decide ((i:Int) < (L.length:Int))=true:=decide_eq_true (by omega)
  by_cases hn1:n < 100
  ·have d2:decide (n < 100)=true:=decide_eq_true hn1
   have e9:=k9 i (by omega)
   have i0:((i:Int)).toNat=i:=rfl
   have hg:=Vv hil
   have hx2:=hsx _ (wC (d:=default) hil)
   obtain ⟨x,hx⟩:∃ x,L.getD i default=x:=⟨_,rfl⟩
   rw [hx] at hg hx2 hS
   have w1:IntKind.wrap .i64 (n+(x.sexes.length:Int))=n+(x.sexes.length:Int):=wrap64 (by omega) (by omega)
   repeat' (first|(apply nx;with_reducible constructor)|refine uq (by decide) ?_|((first|refine vx env fun Q hQ=>?_|refine vz fun Q hQ=>?_);simp only [vkt,seval,QJ,Qu,qB,qV,JA,d1,d2,e9,i0,hil,hx,w1,ite_and];(repeat' first|with_reducible assumption|apply kk|intro hp);all_goals (first|(refine hQ _ ?_;clear hQ Q)|(refine hQ _ (fun h=>?_) (fun h=>?_) <;> clear hQ Q <;> (try simp only [reduceCtorEq] at h))|(refine vq ?_;kernel_rfl)|omega|assumption|with_reducible rfl|skip)))
   refine ⟨⟨i+1,hil⟩,by show L.length - (i+1) < L.length - i;omega, ?_⟩
   simp only [hS]
   (refine Le.ok some [] ?_;constructor;all_goals (try simp only [vle,vkt,seval,Qu,qB]))
   all_goals first|rfl|simp
  ·have d2:decide (n < 100)=false:=decide_eq_false hn1
   have:=hst (by omega) (L.length - i)
   rw [show i+(L.length - i)=L.length by omega] at this
   rw [this]
   have hn2:n=100:=by omega
   repeat' (first|(apply nx;with_reducible constructor)|refine uq (by decide) ?_|((first|refine vx env fun Q hQ=>?_|refine vz fun Q hQ=>?_);simp only [vkt,seval,QJ,Qu,qB,d1,hn2,ite_and];(repeat' first|with_reducible assumption|apply kk|intro hp);all_goals (first|(refine hQ _ ?_;clear hQ Q)|(refine hQ _ (fun h=>?_) (fun h=>?_) <;> clear hQ Q <;> (try simp only [vki] at h))|(refine vq ?_;kernel_rfl)|omega|assumption|with_reducible rfl|skip)))
   (simp only [vrt,Tryz.results36,vkt,seval,Qu];refine Fin.val rfl ?_;(try simp only [AV.le]))
   all_goals first|rfl|(simp;done)|(simp [hn2];done)
 ·have d1:decide ((i:Int) < (L.length:Int))=false:=decide_eq_false (by omega)
  obtain rfl:i=L.length:=by omega
  rw [hn]
  repeat' (first|(apply nx;with_reducible constructor)|refine uq (by decide) ?_|((first|refine vx env fun Q hQ=>?_|refine vz fun Q hQ=>?_);simp only [vkt,seval,QJ,Qu,qB,d1,ite_and];(repeat' first|with_reducible assumption|apply kk|intro hp);all_goals (first|(refine hQ _ ?_;clear hQ Q)|(refine hQ _ (fun h=>?_) (fun h=>?_) <;> clear hQ Q <;> (try simp only [reduceCtorEq] at h))|(refine vq ?_;kernel_rfl)|omega|assumption|with_reducible rfl|skip)))
  (simp only [vrt,Tryz.results36,vkt,seval,Qu];refine Fin.val rfl ?_;(try simp only [AV.le]))
  all_goals first|rfl|simp
def kK:List AV→Prop × AV
 |[.sl x]=>(x=(x.map jb).map qV∧(x.map jb).length≤1000∧(∀ a ∈ (x.map jb),a.sexes.length≤2000000),aI (ppA (x.map jb) (x.map jb).length))
 |_=>(False,.junk)
theorem Qis {A:Frm→Prop}:qm A Tryz.prog 36 (qG true kK):=qH fun vs hv h=>by
 clear hv
 unfold kK at h ⊢
 split at h
 ·rename_i x;obtain ⟨q0,k0,k1⟩:=h
  refine ⟨by first|trivial|(repeat' split) <;> simp [AV.plain,AV.plainL,aI,aB,ql,qb,qp,qx,aTk,cTk],fun _=>(by simp [AV.flat,aI]), ?_⟩
  have:=Qe1 (x.map jb) k0 k1
  simp only [qB,← q0] at this
  first|exact this|(simp only [qB,← q0];exact this)
 ·exact h.elim
def fdA (x n:Int):Int:=if n < 2 then 0 else Int.tmod (Int.tmod x n+n) n
theorem Qk5 {x n:Int} (h:0 < n):-n < Int.tmod x n:=by
 by_cases hx:0≤x
 ·have:=Int.tmod_nonneg n hx
  omega
 ·have h1:=Int.tmod_lt_of_pos (-x) h
  rw [Int.neg_tmod] at h1
  omega
theorem fd_bd {x n:Int} (h:1≤n):0≤fdA x n∧fdA x n < n:=by
 unfold fdA
 split
 ·omega
 ·have h1:=Int.tmod_lt_of_pos x (show 0 < n by omega)
  have h2:-n < Int.tmod x n:=Qk5 (x:=x) (by omega)
  rw [Int.tmod_eq_emod_of_nonneg (show 0≤Int.tmod x n+n by omega)]
  exact ⟨Int.emod_nonneg _ (by omega),Int.emod_lt_of_pos _ (by omega)⟩
def Vh:=vj @ty3 @ti3.eq_1
def YO:=vj @aI.eq_1 (@aB.eq_1)
theorem QjP (x n:Int) (h:0≤n∧n≤1000):FnV Tryz.prog 38 [aI x,aI n] (aI (fdA x n)):=by
 have env:Env (fun _=>True) Tryz.prog tyB (tab []):=qA trivial
 refine Fn.of (A:=fun _=>True) (n0:=0) (D:=noD) (Fn0 Tryz.func38 rfl (fun vs w=>by kernel_rfl) (by kernel_rfl)) (by simp) (by simp [AV.ids,aI]) (fun i o h=>by cases h) (fun _ _ _ _=>trivial) qw ?_
 by_cases h2:n < 2
 ·have d1:decide (n < 2)=true:=decide_eq_true h2
  rw [show fdA x n=0 by unfold fdA;rw [if_pos h2]]
  repeat' (first|(apply nx;with_reducible constructor)|refine uq (by decide) ?_|((first|refine vx env fun Q hQ=>?_|refine vz fun Q hQ=>?_);simp only [vkt,seval,Vh,YO,d1,ite_and];(repeat' first|with_reducible assumption|apply kk|intro hp);all_goals (first|(refine hQ _ ?_;clear hQ Q)|(refine hQ _ (fun h=>?_) (fun h=>?_) <;> clear hQ Q <;> (try simp only [reduceCtorEq] at h))|(refine vq ?_;kernel_rfl)|omega|assumption|with_reducible rfl|skip)))
  (simp only [vrt,Tryz.results38,vkt,seval,YO];refine Fin.val rfl ?_;(try simp only [AV.le]))
  all_goals first|rfl|simp
 ·have d1:decide (n < 2)=false:=decide_eq_false h2
  have hr1:=Int.tmod_lt_of_pos x (show 0 < n by omega)
  have hr2:-n < Int.tmod x n:=Qk5 (x:=x) (by omega)
  have hn0:n ≠ 0:=by omega
  rw [show fdA x n=Int.tmod (Int.tmod x n+n) n by unfold fdA;rw [if_neg h2]]
  have w1:IntKind.wrap .i64 (Int.tmod x n+n)=Int.tmod x n+n:=wrap64 (by omega) (by omega)
  repeat' (first|(apply nx;with_reducible constructor)|refine uq (by decide) ?_|((first|refine vx env fun Q hQ=>?_|refine vz fun Q hQ=>?_);simp only [vkt,seval,Vh,YO,d1,hn0,w1,ite_and];(repeat' first|with_reducible assumption|apply kk|intro hp);all_goals (first|(refine hQ _ ?_;clear hQ Q)|(refine hQ _ (fun h=>?_) (fun h=>?_) <;> clear hQ Q <;> (try simp only [reduceCtorEq] at h))|(refine vq ?_;kernel_rfl)|omega|assumption|with_reducible rfl|skip)))
  (simp only [vrt,Tryz.results38,vkt,seval,YO];refine Fin.val rfl ?_;(try simp only [AV.le]))
  all_goals first|rfl|simp
def QcM:List AV→Prop × AV
 |[.v (.int .i64 x),.v (.int .i64 n)]=>(0≤n∧n≤1000,aI (fdA x n))
 |_=>(False,.junk)
theorem efold {A:Frm→Prop}:qm A Tryz.prog 38 (qG true QcM):=qH fun vs hv h=>by
 clear hv
 unfold QcM at h ⊢
 split at h
 ·rename_i x n;obtain ⟨k0,k1⟩:=h
  refine ⟨by first|trivial|(repeat' split) <;> simp [AV.plain,AV.plainL,aI,aB,ql,qb,qp,qx,aTk,cTk],fun _=>(by simp [AV.flat,aI]), ?_⟩
  have:=QjP x n ⟨k0,k1⟩
  simp only [aI] at this
  first|exact this|(simp only [aI];exact this)
 ·exact h.elim
def Rf:=vj @ty3 (vj @yf (vj @ti3.eq_1 @jK.eq_1))
def QcP:=vj @aI.eq_1 (vj @aB.eq_1 (vj @ql.eq_1 (@Xw)))
theorem Qem (l:List Int) (h:l.length≤2000000):FnV Tryz.prog 49 [ql l] (ql l):=by
 have env:Env (fun _=>True) Tryz.prog tyB (tab []):=qA trivial
 refine Fn.of (A:=fun _=>True) (n0:=0) (D:=noD) (Fn0 Tryz.func49 rfl (fun vs w=>by kernel_rfl) (by kernel_rfl)) (by simp) (by simp [AV.ids,ql]) (fun i o h=>by cases h) (fun _ _ _ _=>trivial) qw ?_
 have hmx:(2000000:Nat)≤maxLen:=by decide
 have h5:l.length≤maxLen:=by omega
 repeat' (first|(apply nx;with_reducible constructor)|refine uq (by decide) ?_|((first|refine vx env fun Q hQ=>?_|refine vz fun Q hQ=>?_);simp only [vkt,seval,Rf,QcP,h5,ite_and];(repeat' first|with_reducible assumption|apply kk|intro hp);all_goals (first|(refine hQ _ ?_;clear hQ Q)|(refine hQ _ (fun h=>?_) (fun h=>?_) <;> clear hQ Q <;> (try simp only [vki,reduceCtorEq] at h))|(refine vq ?_;kernel_rfl)|omega|assumption|with_reducible rfl|skip)))
 (simp only [vrt,Tryz.results49,vkt,seval,QcP];refine Fin.val rfl ?_;(try simp only [AV.le]))
 all_goals first|rfl|(simp;done)|exact ⟨_,_,rfl⟩
def YG:List AV→Prop × AV
 |[.sl l]=>(l=(l.map qM).map qU∧(l.map qM).length≤2000000,ql (l.map qM))
 |_=>(False,.junk)
theorem Qiw {A:Frm→Prop}:qm A Tryz.prog 49 (qG false YG):=qH fun vs hv h=>by
 clear hv
 unfold YG at h ⊢
 split at h
 ·rename_i l;obtain ⟨q0,k0⟩:=h
  refine ⟨by first|trivial|(repeat' split) <;> simp [AV.plain,AV.plainL,aI,aB,ql,qb,qp,qx,aTk,cTk],fun h=>absurd h (by decide), ?_⟩
  have:=Qem (l.map qM) k0
  simp only [ql,← q0] at this
  first|exact this|(simp only [ql,← q0];exact this)
 ·exact h.elim
def Ju:=vj @ty3 (vj @yf (vj @jL (vj @ti3.eq_1 (vj @jK.eq_1 @wY.eq_1))))
def Qi0:=vj @aI.eq_1 (vj @aB.eq_1 (vj @ql.eq_1 (@jJ)))
theorem Qen (a:Ask) (h:a.sexes.length≤2000000):FnV Tryz.prog 15 [qI a] (qI a):=by
 have env:Env (fun _=>True) Tryz.prog tyB (tab [(49,qG false YG)]):=qA ⟨Qiw,trivial⟩
 refine Fn.of (A:=fun _=>True) (n0:=0) (D:=noD) (Fn0 Tryz.func15 rfl (fun vs w=>by kernel_rfl) (by kernel_rfl)) (by simp) (by simp [AV.ids,AV.idsL,qI,qg]) (fun i o h=>by cases h) (fun _ _ _ _=>trivial) qw ?_
 repeat' (first|(apply nx;with_reducible constructor)|refine uq (by decide) ?_|((first|refine vx env fun Q hQ=>?_|refine vz fun Q hQ=>?_);simp only [vkt,seval,Ju,Qi0,qI,qg,YG,h,ite_and];(repeat' first|with_reducible assumption|apply kk|intro hp);all_goals (first|(refine hQ _ ?_;clear hQ Q)|(refine hQ _ (fun h=>?_) (fun h=>?_) <;> clear hQ Q <;> (try simp only [vki,reduceCtorEq] at h))|(refine vq ?_;kernel_rfl)|omega|assumption|with_reducible rfl|skip)))
 (simp only [vrt,Tryz.results15,vkt,seval,Ju,qI,qg];refine Fin.val rfl ?_;(try simp only [AV.le,AV.leL]))
 all_goals first|rfl|(simp;done)|exact ⟨_,_,rfl⟩
def YX:List AV→Prop × AV
 |[.agg [.v (.int .i64 a0),.v (.int .i64 a1),.v (.int .i64 a2),.sl a3,.v (.bool a4)]]=>(a3=(a3.map qM).map qU∧((⟨a0,a1,a2,(a3.map qM),a4⟩:Ask)).sexes.length≤2000000,qI ((⟨a0,a1,a2,(a3.map qM),a4⟩:Ask)))
 |_=>(False,.junk)
theorem QiY {A:Frm→Prop}:qm A Tryz.prog 15 (qG false YX):=qH fun vs hv h=>by
 clear hv
 unfold YX at h ⊢
 split at h
 ·rename_i a0 a1 a2 a3 a4;obtain ⟨q0,k0⟩:=h
  refine ⟨by first|trivial|(repeat' split) <;> simp [AV.plain,AV.plainL,aI,aB,ql,qb,qp,qx,aTk,cTk],fun h=>absurd h (by decide), ?_⟩
  have:=Qen ((⟨a0,a1,a2,(a3.map qM),a4⟩:Ask)) k0
  simp only [qI,qg,← q0] at this
  first|exact this|(simp only [qI,qg,← q0];exact this)
 ·exact h.elim
def renA (A:Ask) (P:Int):Ask:=⟨P,A.frm,A.to,A.sexes,A.dog⟩
noncomputable def akR (secs:Int):Nat→Int→Int→List Ask × Int
 |0,x,_=>([],x)
 |i+1,x,p=>if 0 < p then (renA (aoA x secs (min 2 p)) (50+((i+1:Nat):Int)) :: (akR secs i (aoX x secs (min 2 p)) (p - ((aoA x secs (min 2 p)).sexes.length:Int))).1,(akR secs i (aoX x secs (min 2 p)) (p - ((aoA x secs (min 2 p)).sexes.length:Int))).2) else ([],x)
theorem QkI {x secs n:Int} (hn:1≤n∧n≤3):((aoA x secs n).sexes.length:Int)≤n∧1≤(aoA x secs n).sexes.length:=by
 have h1:=(QaR (upS (VM x secs) (n - 1)) (1+upV (VM x secs) (n - 1)).toNat).1
 have h2:=up2 (VM x secs) (m:=n - 1) (by omega) (by omega)
 show ((sxK (upS (VM x secs) (n - 1)) (1+upV (VM x secs) (n - 1)).toNat).1.length:Int)≤n∧1≤(sxK (upS (VM x secs) (n - 1)) (1+upV (VM x secs) (n - 1)).toNat).1.length
 omega
theorem QkZ (secs:Int):∀ (i:Nat) (x p:Int),(akR secs i x p).1.length≤i∧∀ a ∈ (akR secs i x p).1,a.sexes.length≤2
 |0,x,p=>⟨Nat.le_refl 0,by simp [akR]⟩
 |i+1,x,p=>by
  rw [akR]
  split
  ·rename_i hp
   obtain ⟨h1,h2⟩:=QkZ secs i (aoX x secs (min 2 p)) (p - ((aoA x secs (min 2 p)).sexes.length:Int))
   refine ⟨by simp only [List.length_cons];omega,fun a ha=>?_⟩
   simp only at ha
   rcases List.mem_cons.1 ha with rfl|ha
   ·have:=(QkI (x:=x) (secs:=secs) (n:=min 2 p) (by omega)).1
    show (aoA x secs (min 2 p)).sexes.length≤2
    omega
   ·exact h2 a ha
  ·exact ⟨Nat.zero_le _,by simp⟩
def akoS (c:Chart) (y p:Int) (i:Nat) (M:List Ask):St:={ t:=asg [(0,.ptr 0 0),(3,aI p),(5,.ptr 1 0),(9,.row 2),(10,aI i)],h:=qc [(0,.cells [.v (.int .u64 y)]),(1,.cells (qa c)),(2,.row 28 5 (M.map qV))],n:=3,m:=1 }
def Qr:=vj @ty3 (vj @wh (vj @yf (vj @jL (vj @Yw (vj @ti3.eq_1 (vj @zQ.eq_1 (vj @jK.eq_1 (vj @wY.eq_1 @Wy.eq_1))))))))
def ZL:=vj @aI.eq_1 (vj @aB.eq_1 (vj @ql.eq_1 (vj @qU.eq_1 (@jJ))))
set_option maxHeartbeats 4000000 in
theorem QeV (x:Int) (c:Chart) (hg:1≤c.secs∧c.secs≤5):Fn noB Tryz.prog 37 [.ptr 0 0,qd c,aI 4,aI 3] (qc (wN x)) (.row 1) (qc [(0,.cells [.v (.int .u64 (akR c.secs (upV x 4).toNat (upS x 4) 3).2)]),(1,.row 28 5 ((akR c.secs (upV x 4).toNat (upS x 4) 3).1.map qV))]) 0:=by
 have env:Env (fun _=>True) Tryz.prog tyB (tab [(31,fnE pUp),(12,fnE Jd)]):=qA ⟨eUp,Qfy,trivial⟩
 refine Fn.of (A:=fun _=>True) (n0:=1) (D:=noD) (Fn0 Tryz.func37 rfl (fun vs w=>by kernel_rfl) (by kernel_rfl)) (by simp) (by simp [AV.ids,AV.idsL,aI,qd,qa]) ?_ (fun _ _ _ _=>trivial) qw ?_
 ·intro i o hi
  have h:=qF hi
  simp [wN] at h
  rcases h with ⟨rfl,rfl⟩;simp [AObj.ids,AV.ids,AV.idsL]
 have m44:min (4:Int) 4=4:=rfl
 have hmx:(100000:Nat)≤maxLen:=by decide
 have eC:(⟨c.cabins,c.secs,c.sold⟩:Chart)=c:=rfl
 have hu:=up2 x (m:=4) (by omega) (by omega)
 obtain ⟨u,hu1⟩:∃ u:Nat,upV x 4=u:=⟨(upV x 4).toNat,by omega⟩
 obtain ⟨x1,hx1⟩:∃ y,upS x 4=y:=⟨_,rfl⟩
 have hu4:u≤4:=by omega
 have u0:((u:Int)).toNat=u:=rfl
 rw [hu1,hx1,u0]
 obtain ⟨S,hS⟩:∃ S,c.secs=S:=⟨_,rfl⟩
 have hgS:=hg
 rw [hS] at hgS ⊢
 obtain ⟨⟨LL,xx⟩,hR⟩:∃ r,akR S u x1 3=r:=⟨_,rfl⟩
 rw [hR]
 repeat' (first|(apply nx;with_reducible constructor)|refine uq (by decide) ?_|((first|refine vx env fun Q hQ=>?_|refine vz fun Q hQ=>?_);simp only [vkt,seval,ZL,wN,qd,qa,pUp,m44,hu1,hx1,ite_and];(repeat' first|with_reducible assumption|apply kk|intro hp);all_goals (first|(refine hQ _ ?_;clear hQ Q)|(refine hQ _ (fun h=>?_) (fun h=>?_) <;> clear hQ Q <;> (try simp only [vki,reduceCtorEq] at h))|(refine vq ?_;kernel_rfl)|omega|assumption|with_reducible rfl|skip)))
 refine qC (fun q:{ q:Nat × Int × Int × List Ask // q.1≤u∧q.2.2.1≤3∧-10≤q.2.2.1∧q.2.2.2.length+q.1≤4∧akR S u x1 3=(q.2.2.2++(akR S q.1 q.2.1 q.2.2.1).1,(akR S q.1 q.2.1 q.2.2.1).2) }=>akoS c q.1.2.1 q.1.2.2.1 q.1.1 q.1.2.2.2) (fun q=>q.1.1) ⟨(u,x1,3,[]),Nat.le_refl _,by show (3:Int)≤3;omega,by show (-10:Int)≤3;omega,by simp only [List.length_nil];omega,rfl⟩ ?_ fun ⟨(i,y,p,M),hi,hp3,hp10,hMl,hin⟩=>?_
 ·simp only [akoS]
  (refine Le.ok (fun i=>if i=2 then none else some i) [] ?_;constructor;all_goals (try simp only [vle,vkt,seval,ZL,qa]))
  all_goals first|rfl|(simp;done)|(intro i hi;rw [if_neg (by omega)];done)
 simp only at hi hp3 hp10 hMl hin ⊢
 rw [hR] at hin
 simp only [akoS]
 cases i with
 |zero =>
  have d1:decide ((0:Int) < ((0:Nat):Int))=false:=rfl
  simp only [akR,List.append_nil,Prod.mk.injEq] at hin
  obtain ⟨rfl,rfl⟩:=hin
  repeat' (first|(apply nx;with_reducible constructor)|refine uq (by decide) ?_|((first|refine vx env fun Q hQ=>?_|refine vz fun Q hQ=>?_);simp only [vkt,seval,Qr,ZL,qa,ite_and];(repeat' first|with_reducible assumption|apply kk|intro hp);all_goals (first|(refine hQ _ ?_;clear hQ Q)|(refine hQ _ (fun h=>?_) (fun h=>?_) <;> clear hQ Q <;> (try simp only [reduceCtorEq] at h))|(refine vq ?_;kernel_rfl)|omega|assumption|with_reducible rfl|skip)))
  (simp only [vrt,Tryz.results37,vkt,seval];refine Fin.ok (fun j=>[0,2][j]?) [] ?_ ?_ ?_ ?_ ?_ rfl;all_goals (try simp only [vle,vkt,seval]))
  all_goals first|rfl|(simp;done)|exact fun i hi=>(match i,hi with|0,_=>rfl)
 |succ i =>
  have d1:decide ((0:Int) < ((i+1:Nat):Int))=true:=decide_eq_true (by omega)
  by_cases hp:0 < p
  ·have d2:decide (0 < p)=true:=decide_eq_true hp
   have hN1:1≤min 2 p∧min 2 p≤3:=by omega
   have hsx:=QkI (x:=y) (secs:=S) hN1
   rw [akR,if_pos hp] at hin
   obtain ⟨N,hN⟩:∃ N,min 2 p=N:=⟨_,rfl⟩
   rw [hN] at hN1 hsx hin
   obtain ⟨A,hA⟩:∃ A,aoA y S N=A:=⟨_,rfl⟩
   obtain ⟨y',hy'⟩:∃ z,aoX y S N=z:=⟨_,rfl⟩
   rw [hA] at hsx hin
   rw [hy'] at hin
   have w1:IntKind.wrap .i64 (((i+1:Nat):Int) - 1)=(i:Int):=by rw [wrap64 (by omega) (by omega)];omega
   have w2:IntKind.wrap .i64 (50+((i+1:Nat):Int))=50+((i+1:Nat):Int):=wrap64 (by omega) (by omega)
   have w3:IntKind.wrap .i64 (p - (A.sexes.length:Int))=p - (A.sexes.length:Int):=wrap64 (by omega) (by omega)
   have hm:M.length+1≤maxLen:=by omega
   have hMb:M.length≤10:=by omega
   obtain ⟨p',hp'⟩:∃ q,p - (A.sexes.length:Int)=q:=⟨_,rfl⟩
   rw [hp'] at w3 hin
   repeat' (first|(apply nx;with_reducible constructor)|refine uq (by decide) ?_|((first|refine vx env fun Q hQ=>?_|refine vz fun Q hQ=>?_);simp only [vkt,seval,Qr,ZL,Xy,mTk,qy,qa,qI,qg,Jd,d1,d2,hN,hN1,hgS,hS,hA,hy',w1,w2,hp',w3,hm,ite_and];(repeat' first|with_reducible assumption|apply kk|intro hp);all_goals (first|(refine hQ _ ?_;clear hQ Q)|(refine hQ _ (fun h=>?_) (fun h=>?_) <;> clear hQ Q <;> (try simp only [reduceCtorEq] at h))|(refine vq ?_;kernel_rfl)|omega|assumption|with_reducible rfl|skip)))
   refine ⟨⟨(i,y',p',M++[renA A (50+((i+1:Nat):Int))]),by show i≤u;omega,by show p'≤3;omega,by show -10≤p';omega,by show (M++[_]).length+i≤4;rw [List.length_append,List.length_singleton];omega,by rw [hR,hin];simp⟩,Nat.lt_succ_self i, ?_⟩
   simp only []
   (refine Le.ok (fun i=>if i=2 then some 5 else some i) [] ?_;constructor;all_goals (try simp only [vle,vkt,seval,ZL,qV,qa,List.map_append]))
   all_goals first|rfl|(rw [List.map_append];rfl)|(rw [hS];exact ⟨rfl,rfl⟩)|(simp [];done)|(intro i hi;rw [if_neg (by omega)];done)
  ·have d2:decide (0 < p)=false:=decide_eq_false hp
   rw [akR,if_neg hp] at hin
   simp only [List.append_nil,Prod.mk.injEq] at hin
   obtain ⟨rfl,rfl⟩:=hin
   repeat' (first|(apply nx;with_reducible constructor)|refine uq (by decide) ?_|((first|refine vx env fun Q hQ=>?_|refine vz fun Q hQ=>?_);simp only [vkt,seval,Qr,ZL,qa,d1,d2,ite_and];(repeat' first|with_reducible assumption|apply kk|intro hp);all_goals (first|(refine hQ _ ?_;clear hQ Q)|(refine hQ _ (fun h=>?_) (fun h=>?_) <;> clear hQ Q <;> (try simp only [reduceCtorEq] at h))|(refine vq ?_;kernel_rfl)|omega|assumption|with_reducible rfl|skip)))
   (simp only [vrt,Tryz.results37,vkt,seval];refine Fin.ok (fun j=>[0,2][j]?) [] ?_ ?_ ?_ ?_ ?_ rfl;all_goals (try simp only [vle,vkt,seval]))
   all_goals first|rfl|(simp;done)|exact fun i hi=>(match i,hi with|0,_=>rfl)
noncomputable def YJ (S:St):List AV→Option Pk
 |[.ptr i 0,.agg [.sl cs,.v (.int .i64 s),.sl ts],.v (.int .i64 n),.v (.int .i64 m)]=>match S.h i with
  |some (.cells [.v (.int .u64 x)])=>some { pre:=cs=(cs.map qj).map qz∧ts=(ts.map dTk).map eTk∧(1≤s∧s≤5)∧n=4∧m=3,hs:=[i],ar:=[.ptr 0 0,.agg [.sl cs,.v (.int .i64 s),.sl ts],aI 4,aI 3],L0:=[.cells [.v (.int .u64 x)]],v:=.row 1,L1:=[some (.cells [.v (.int .u64 (akR s (upV x 4).toNat (upS x 4) 3).2)]),some (.row 28 5 ((akR s (upV x 4).toNat (upS x 4) 3).1.map qV))] }
  |_=>none
 |_=>none
theorem QjV {A:Frm→Prop}:qm A Tryz.prog 37 (fnE YJ):=qZ fun S bs q h hp=>by
 unfold YJ at h
 split at h
 ·rename_i cs s ts n m
  split at h
  ·cases h
   obtain ⟨h1,h2,h3,_,_⟩:=hp
   have:=QeV (by assumption) ⟨cs.map qj,s,ts.map dTk⟩ h3
   simp only [qd,qa,← h1,← h2] at this
   exact this
  ·cases h
 ·cases h
end Go.Sym.B
namespace Go.Sym.B
open Go Go.Sym Go.Proofs Go.RowKit
def spI:Sp:=.int .i64
def spB:Sp:=.bool
theorem QfL (r:List DV) (h:r.length=1) (hs:∀ (j:Nat) (s:Sp) (d:DV),[spI][j]?=some s→r[j]?=some d→D1 s d):∃ a,r=qU a:=by
 obtain ⟨d,rfl⟩:=List.length_eq_one_iff.1 h
 obtain ⟨n,rfl,_⟩:=(hs 0 spI d rfl rfl).int_inv
 exact ⟨n,rfl⟩
theorem QlA (r:List DV) (h:r.length=2) (hs:∀ (j:Nat) (s:Sp) (d:DV),[spI,spB][j]?=some s→r[j]?=some d→D1 s d):∃ a,r=qz a:=by
 match r,h with
 |[a,b],_ =>
  obtain ⟨n,rfl,_⟩:=(hs 0 spI a rfl rfl).int_inv
  obtain ⟨m,rfl⟩:=(hs 1 spB b rfl rfl).bool_inv
  exact ⟨⟨n,m⟩,rfl⟩
theorem eT_of (r:List DV) (h:r.length=7) (hs:∀ (j:Nat) (s:Sp) (d:DV),[spI,spI,spI,spI,spI,spI,spB][j]?=some s→r[j]?=some d→D1 s d):∃ a,r=eTk a:=by
 match r,h with
 |[a,b,c,d,e,f,g],_ =>
  obtain ⟨n1,rfl,_⟩:=(hs 0 spI a rfl rfl).int_inv
  obtain ⟨n2,rfl,_⟩:=(hs 1 spI b rfl rfl).int_inv
  obtain ⟨n3,rfl,_⟩:=(hs 2 spI c rfl rfl).int_inv
  obtain ⟨n4,rfl,_⟩:=(hs 3 spI d rfl rfl).int_inv
  obtain ⟨n5,rfl,_⟩:=(hs 4 spI e rfl rfl).int_inv
  obtain ⟨n6,rfl,_⟩:=(hs 5 spI f rfl rfl).int_inv
  obtain ⟨n7,rfl⟩:=(hs 6 spB g rfl rfl).bool_inv
  exact ⟨⟨n1,n2,n3,n4,n5,n6,n7⟩,rfl⟩
def spC:List Sp:=[.sl [spI,spB],spI,.sl [spI,spI,spI,spI,spI,spI,spB]]
def spA:List Sp:=[spI,spI,spI,.sl [spI],spB]
theorem flI:Fl Tryz.prog 3 [spI]:=vF (n:=6) (by kernel_rfl)
theorem flN:Fl Tryz.prog 26 [.sl [spI]]:=vF (n:=6) (by kernel_rfl)
theorem flC:Fl Tryz.prog 25 spC:=vF (n:=6) (by kernel_rfl)
theorem flA:Fl Tryz.prog 28 spA:=vF (n:=6) (by kernel_rfl)
variable {H : Type} {enc : TypeId × Value → H} {W : World} {base : Nat} {spare : Nat → Bool} {held : Bool}
theorem Qj3 {fuel:Nat} {v:Value} {x:DataW H × List MemPlace} (h:DataW.trod enc Tryz.prog W base spare held fuel 3 [v]=some x):∃ n,ARel W (okW W) JD undef (aI n) v:=by
 obtain ⟨ds,hd⟩:=ZV flI h
 obtain ⟨d,rfl,h1,h2⟩:=hd.one_inv
 obtain ⟨n,rfl,_⟩:=h1.int_inv
 exact ⟨n,Jm h2⟩
theorem Qg4 {fuel:Nat} {v:Value} {x:DataW H × List MemPlace} (h:DataW.trod enc Tryz.prog W base spare held fuel 26 [v]=some x):∃ l:List Int,ARel W (okW W) JD undef (ql l) v∧l.length≤maxLen:=by
 obtain ⟨ds,hd⟩:=ZV flN h
 obtain ⟨d,rfl,h1,h2⟩:=hd.one_inv
 obtain ⟨l,rfl,hl⟩:=h1.sl_inv qU QfL
 exact ⟨l,Jm h2,hl⟩
theorem QdT {fuel:Nat} {cs:Array Value} {x:DataW H × List MemPlace} (h:DataW.trod enc Tryz.prog W base spare held fuel 25 cs.toList=some x):∃ l:Chart,ARel W (okW W) JD undef (qd l) (.agg cs):=by
 obtain ⟨ds,hd⟩:=ZV flC h
 match ds,hd with
 |[a,b,c],hd =>
  obtain ⟨l1,rfl,_⟩:=(hd.shape 0 _ a rfl rfl).sl_inv qz QlA
  obtain ⟨n,rfl,_⟩:=(hd.shape 1 _ b rfl rfl).int_inv
  obtain ⟨l3,rfl,_⟩:=(hd.shape 2 _ c rfl rfl).sl_inv eTk eT_of
  exact ⟨⟨l1,n,l3⟩,hd.agg⟩
 |[],hd=>exact absurd hd.len (by simp [spC])
 |[_],hd=>exact absurd hd.len (by simp [spC])
 |[_,_],hd=>exact absurd hd.len (by simp [spC])
 |_ :: _ :: _ :: _ :: _,hd=>exact absurd hd.len (by simp [spC])
theorem Qkz {fuel:Nat} {cs:Array Value} {x:DataW H × List MemPlace} (h:DataW.trod enc Tryz.prog W base spare held fuel 28 cs.toList=some x):∃ l:Ask,ARel W (okW W) JD undef (qI l) (.agg cs)∧l.sexes.length≤maxLen:=by
 obtain ⟨ds,hd⟩:=ZV flA h
 match ds,hd with
 |[a,b,c,d,e],hd =>
  obtain ⟨n1,rfl,_⟩:=(hd.shape 0 _ a rfl rfl).int_inv
  obtain ⟨n2,rfl,_⟩:=(hd.shape 1 _ b rfl rfl).int_inv
  obtain ⟨n3,rfl,_⟩:=(hd.shape 2 _ c rfl rfl).int_inv
  obtain ⟨l3,rfl,hl⟩:=(hd.shape 3 _ d rfl rfl).sl_inv qU QfL
  obtain ⟨n5,rfl⟩:=(hd.shape 4 _ e rfl rfl).bool_inv
  exact ⟨⟨n1,n2,n3,l3,n5⟩,hd.agg,hl⟩
 |[],hd=>exact absurd hd.len (by simp [spA])
 |[_],hd=>exact absurd hd.len (by simp [spA])
 |[_,_],hd=>exact absurd hd.len (by simp [spA])
 |[_,_,_],hd=>exact absurd hd.len (by simp [spA])
 |[_,_,_,_],hd=>exact absurd hd.len (by simp [spA])
 |_ :: _ :: _ :: _ :: _ :: _ :: _,hd=>exact absurd hd.len (by simp [spA])
theorem Kv {v:Value} (h:v.cells.toList.length ≠ 1):∃ cs,v=.agg cs:=by
 cases v <;> first|exact ⟨_,rfl⟩|(simp [Value.cells] at h)
theorem chart_of {v:Value} {d:DataW H} {p:List MemPlace} (h:DataW.Trod enc Tryz.prog W base spare held 25 v d p):∃ l:Chart,ARel W (okW W) JD undef (qd l) v:=by
 obtain ⟨fuel,hf⟩:=h
 obtain ⟨ds,hd⟩:=ZV flC hf
 obtain ⟨cs,rfl⟩:=Kv (v:=v) (by rw [hd.clen];simp [spC])
 exact QdT hf
theorem ask_of {v:Value} {d:DataW H} {p:List MemPlace} (h:DataW.Trod enc Tryz.prog W base spare held 28 v d p):∃ l:Ask,ARel W (okW W) JD undef (qI l) v∧l.sexes.length≤maxLen:=by
 obtain ⟨fuel,hf⟩:=h
 obtain ⟨ds,hd⟩:=ZV flA hf
 obtain ⟨cs,rfl⟩:=Kv (v:=v) (by rw [hd.clen];simp [spA])
 exact Qkz hf
set_option maxRecDepth 100000 in
theorem int_of {v:Value} {d:DataW H} {p:List MemPlace} {r:Reach} {b0:Nat} (h:DataW.Trod enc Tryz.prog W base spare held 3 v d p) (hu:Tryz.prog.underlying 3=some (.int .i64)) (hv:Value.okWide Tryz.prog W r b0 3 v):∃ n:Int,ARel W (okW W) JD undef (aI n) v:=by
 obtain ⟨fuel,hf⟩:=h
 obtain ⟨n,rfl⟩:=WideShapes.okWide_int hu hv
 exact Qj3 hf
set_option maxRecDepth 100000 in
theorem ints_of {v:Value} {d:DataW H} {p:List MemPlace} {r:Reach} {b0:Nat} (h:DataW.Trod enc Tryz.prog W base spare held 26 v d p) (hu:Tryz.prog.underlying 26=some (.slice 3)) (hv:Value.okWide Tryz.prog W r b0 26 v):∃ l:List Int,ARel W (okW W) JD undef (ql l) v∧l.length≤maxLen:=by
 obtain ⟨fuel,hf⟩:=h
 obtain ⟨a,n,c,rfl⟩:=WideShapes.okWide_slice hu hv
 exact Qg4 hf
end Go.Sym.B
namespace Go.Sym.B
open Go Go.Sym Go.Proofs Go.Sym.C
def VP (l:List Ask):List DV:=[.sl (l.map qV)]
theorem hAsks {l:List (List Ask)} {n:Nat} (h:n < l.length):(l.map VP).getD n []=VP (l.getD n []):=by simp [List.getD_eq_getElem?_getD,h]
theorem X5 {f:Int→Bool} {n:Nat}:∀ {k:Nat} {l:List Int},vZ f n k=some l→l.length≤k
 |0,l,h=>by cases h
 |k+1,l,h=>by
  rw [vZ] at h
  cases hq:(vQ n (k+1) [] 0).findSome? (Yi f) with
  |some t =>
   rw [hq] at h
   cases h
   obtain ⟨r,hr,hp⟩:=List.exists_of_findSome?_eq_some hq
   unfold Yi at hp
   split at hp
   ·cases hp
    rw [VD] at hr
    obtain ⟨v,hv,rfl⟩:=List.mem_map.1 hr
    rw [List.nil_append,YS _ _ v hv]
    exact Nat.le_refl _
   ·cases hp
  |none =>
   rw [hq] at h
   have:=X5 h
   omega
theorem QgJ (c:Chart) (L:List Ask):(jl c L).1.length≤4:=by
 unfold jl
 split
 ·simp
 ·rename_i h
  have h4:=(QgH (Decidable.not_not.1 h)).2.1
  show ((vZ _ L.length L.length).getD []).length≤4
  cases hq:vZ (fun b=>tkB c.cabins c.secs L b c.sold) L.length L.length with
  |none=>simp
  |some l =>
   have:=X5 hq
   show l.length≤4
   omega
def lvSA (c:Chart) (L:List Ask) (a:Ask) (at':Int) (nums:List Int):St:={ t:=asg [(1,qB L),(3,aI at'),(4,ql nums),(5,.ptr 0 0),(7,.ptr 1 0),(48,aB false)],h:=qc [(0,.cells (qa c)),(1,.cells (qg a))],n:=2 }
def lvS0 (c C:Chart) (L B O:List Ask):St:={ t:=asg [(1,qB L),(5,.ptr 0 0),(12,.ptr 3 0),(13,.row 4),(14,.row 5)],h:=qc [(0,.cells (qa c)),(3,.cells (qa C)),(4,.row 28 5 (B.map qV)),(5,.row 28 5 (O.map qV))],n:=6 }
def lvS (CL:List Chart) (LL:List (List Ask)) (i:Nat) (T:List (Nat × AV)) (H:List (Nat × AObj)) (n:Nat):St:={ t:=asg (T++[(15,.row 9),(16,.row 10),(17,aI i)]),h:=qc (H++[(9,.row 25 3 (CL.map J2)),(10,.row 37 1 (LL.map VP))]),n:=n }
def zx:=vj @ty3 (vj @wh (vj @yf (vj @jL (vj @ty34 (vj @Yw (vj @x8 (vj @ty72 (vj @ti3.eq_1 (vj @zQ.eq_1 (vj @jK.eq_1 (vj @wY.eq_1 (vj @ti34.eq_1 (vj @Wy.eq_1 (vj @vV.eq_1 @ti72.eq_1))))))))))))))
def zb:=vj @aI.eq_1 (vj @aB.eq_1 (vj @ql.eq_1 (vj @qU.eq_1 (@jJ))))
set_option maxRecDepth 100000 in
set_option maxHeartbeats 40000000 in
theorem severalLaw_fn (c:Chart) (L:List Ask) (a:Ask) (at':Int) (nums:List Int) (hL:L.length≤maxLen) (hsx:∀ x ∈ L,x.sexes.length≤2000000) (ha:a.sexes.length≤maxLen) (hnums:nums.length≤maxLen):FnV Tryz.prog 7 [qd c,qB L,qI a,aI at',ql nums] (aB true):=by
 have env:Env (fun _=>True) Tryz.prog tyB (tab [(8,qG true xV),(36,qG true kK),(10,fnE pBag),(11,fnE Ji),(37,fnE YJ),(38,qG true QcM),(14,qG false Ua),(15,qG false YX),(39,qG false Qdj),(40,qG false UE),(41,qG true QdV),(21,qG true seqC),(22,qG true seqA),(9,qG true yn)]):=qA ⟨Qle,Qis,eBag,Qhd,QjV,efold,QlK,QiY,eMost,QlH,eeqI,eeqC,eeqA,Qhz,trivial⟩
 refine Fn.of (A:=fun _=>True) (n0:=0) (D:=noD) (Fn0 Tryz.func7 rfl (fun vs w=>by kernel_rfl) (by kernel_rfl)) (by simp) (by simp [AV.ids,AV.idsL,aI,ql,qd,qa,qI,qg,qB]) (fun i o h=>by cases h) (fun _ _ _ _=>trivial) qw ?_
 cases q0:decide (20 < (c.cabins.length:Int)) with
 |true =>
  repeat' (first|(apply nx;with_reducible constructor)|refine uq (by decide) ?_|((first|refine vx env fun Q hQ=>?_|refine vz fun Q hQ=>?_);simp only [vkt,seval,zx,zb,qB,mTk,qy,qd,qa,qI,qg,xV,yn,q0,ite_and];(repeat' first|with_reducible assumption|apply kk|intro hp);all_goals (first|(refine hQ _ ?_;clear hQ Q)|(refine hQ _ (fun h=>?_) (fun h=>?_) <;> clear hQ Q <;> (try simp only [reduceCtorEq] at h))|(refine vq ?_;kernel_rfl)|omega|assumption|with_reducible rfl|skip)))
  (simp only [vrt,Tryz.results7,vkt,seval,zb];refine Fin.val rfl ?_;(try simp only [AV.le]))
  all_goals first|rfl|simp
 |false =>
 cases q1:decide (20 < (c.sold.length:Int)) with
 |true =>
  repeat' (first|(apply nx;with_reducible constructor)|refine uq (by decide) ?_|((first|refine vx env fun Q hQ=>?_|refine vz fun Q hQ=>?_);simp only [vkt,seval,zx,zb,qB,mTk,qy,qd,qa,qI,qg,xV,yn,q0,q1,ite_and];(repeat' first|with_reducible assumption|apply kk|intro hp);all_goals (first|(refine hQ _ ?_;clear hQ Q)|(refine hQ _ (fun h=>?_) (fun h=>?_) <;> clear hQ Q <;> (try simp only [reduceCtorEq] at h))|(refine vq ?_;kernel_rfl)|omega|assumption|with_reducible rfl|skip)))
  (simp only [vrt,Tryz.results7,vkt,seval,zb];refine Fin.val rfl ?_;(try simp only [AV.le]))
  all_goals first|rfl|simp
 |false =>
 cases q2:decide (20 < (L.length:Int)) with
 |true =>
  repeat' (first|(apply nx;with_reducible constructor)|refine uq (by decide) ?_|((first|refine vx env fun Q hQ=>?_|refine vz fun Q hQ=>?_);simp only [vkt,seval,zx,zb,qB,mTk,qy,qd,qa,qI,qg,xV,yn,q0,q1,q2,ite_and];(repeat' first|with_reducible assumption|apply kk|intro hp);all_goals (first|(refine hQ _ ?_;clear hQ Q)|(refine hQ _ (fun h=>?_) (fun h=>?_) <;> clear hQ Q <;> (try simp only [reduceCtorEq] at h))|(refine vq ?_;kernel_rfl)|omega|assumption|with_reducible rfl|skip)))
  (simp only [vrt,Tryz.results7,vkt,seval,zb];refine Fin.val rfl ?_;(try simp only [AV.le]))
  all_goals first|rfl|simp
 |false =>
 have g0:=of_decide_eq_false q0
 have g1:=of_decide_eq_false q1
 have g2:=of_decide_eq_false q2
 have hL1:L.length≤1000:=by omega
 obtain ⟨P,hP⟩:∃ P,ppA L L.length=P:=⟨_,rfl⟩
 cases q3:(decide (3 < P) && decide ((L.length:Int)≤4)) with
 |true =>
  rw [Bool.and_eq_true] at q3
  obtain ⟨q3,q4⟩:=q3
  repeat' (first|(apply nx;with_reducible constructor)|refine uq (by decide) ?_|((first|refine vx env fun Q hQ=>?_|refine vz fun Q hQ=>?_);simp only [vkt,seval,zx,zb,qB,JU,mTk,qy,qd,qa,qI,qg,xV,kK,yn,q0,q1,q2,hL1,hP,q3,q4,ite_and];(repeat' first|with_reducible assumption|apply kk|intro hp);all_goals (first|(refine hQ _ ?_;clear hQ Q)|(refine hQ _ (fun h=>?_) (fun h=>?_) <;> clear hQ Q <;> (try simp only [reduceCtorEq] at h))|(refine vq ?_;kernel_rfl)|omega|assumption|with_reducible rfl|skip)))
  (simp only [vrt,Tryz.results7,vkt,seval,zb];refine Fin.val rfl ?_;(try simp only [AV.le]))
  all_goals first|rfl|simp
 |false =>
 cases q5:decide (1 < (a.sexes.length:Int)) with
 |true =>
  cases q3':decide (3 < P) with
  |true =>
   have q4:decide ((L.length:Int)≤4)=false:=by rw [q3',Bool.true_and] at q3;exact q3
   repeat' (first|(apply nx;with_reducible constructor)|refine uq (by decide) ?_|((first|refine vx env fun Q hQ=>?_|refine vz fun Q hQ=>?_);simp only [vkt,seval,zx,zb,qB,JU,mTk,qy,qd,qa,qI,qg,xV,kK,yn,q0,q1,q2,hL1,hP,q3',q4,q5,ite_and];(repeat' first|with_reducible assumption|apply kk|intro hp);all_goals (first|(refine hQ _ ?_;clear hQ Q)|(refine hQ _ (fun h=>?_) (fun h=>?_) <;> clear hQ Q <;> (try simp only [reduceCtorEq] at h))|(refine vq ?_;kernel_rfl)|omega|assumption|with_reducible rfl|skip)))
   (simp only [vrt,Tryz.results7,vkt,seval,zb];refine Fin.val rfl ?_;(try simp only [AV.le]))
   all_goals first|rfl|simp
  |false =>
   repeat' (first|(apply nx;with_reducible constructor)|refine uq (by decide) ?_|((first|refine vx env fun Q hQ=>?_|refine vz fun Q hQ=>?_);simp only [vkt,seval,zx,zb,qB,JU,mTk,qy,qd,qa,qI,qg,xV,kK,yn,q0,q1,q2,hL1,hP,q3',q5,ite_and];(repeat' first|with_reducible assumption|apply kk|intro hp);all_goals (first|(refine hQ _ ?_;clear hQ Q)|(refine hQ _ (fun h=>?_) (fun h=>?_) <;> clear hQ Q <;> (try simp only [reduceCtorEq] at h))|(refine vq ?_;kernel_rfl)|omega|assumption|with_reducible rfl|skip)))
   (simp only [vrt,Tryz.results7,vkt,seval,zb];refine Fin.val rfl ?_;(try simp only [AV.le]))
   all_goals first|rfl|simp
 |false =>
 have g5:=of_decide_eq_false q5
 obtain ⟨x0,hx0⟩:∃ x,nbS nums=x:=⟨_,rfl⟩
 obtain ⟨hC0,hCp,hCs,hCc,hCg⟩:=co_ok (x:=x0) (a:=2) (g:=3) (s:=6) (by decide) (by decide) (by decide)
 obtain ⟨C,hC⟩:∃ C,coC x0 2 3 6=C:=⟨_,rfl⟩
 obtain ⟨x1,hx1⟩:∃ x,coX x0 2 3 6=x:=⟨_,rfl⟩
 rw [hC] at hC0 hCp hCs hCc hCg
 have hsec:=(xq hC0).car.secs
 obtain ⟨hB1,hB2⟩:=QkZ C.secs (upV x1 4).toNat (upS x1 4) 3
 have hu4:=up2 x1 (m:=4) (by omega) (by omega)
 obtain ⟨⟨B,x2⟩,hB⟩:∃ r,akR C.secs (upV x1 4).toNat (upS x1 4) 3=r:=⟨_,rfl⟩
 rw [hB] at hB1 hB2
 simp only at hB1 hB2
 have hmx:(2000000:Nat)≤maxLen:=by decide
 have hBl:B.length≤4:=by omega
 have hBm:B.length≤maxLen:=by omega
 have eC:(⟨C.cabins,C.secs,C.sold⟩:Chart)=C:=rfl
 repeat' (first|(apply nx;with_reducible constructor)|refine uq (by decide) ?_)
 ((first|refine vx env fun Q hQ=>?_|refine vz fun Q hQ=>?_);simp only [vkt,seval,zb,qB,qd,qa,qI,qg,ite_and];(repeat' first|with_reducible assumption|apply kk|intro hp);all_goals (first|(refine hQ _ ?_;clear hQ Q)|(refine hQ _ (fun h=>?_) (fun h=>?_) <;> clear hQ Q <;> (try simp only [vki,reduceCtorEq] at h))|(refine vq ?_;kernel_rfl)|omega|assumption|with_reducible rfl|skip))
 repeat' (first|(apply nx;with_reducible constructor)|refine uq (by decide) ?_)
 refine Sym.mono (K:=fun e S1=>e=.normal∧Le S1 (lvSA c L a at' nums)) ?_ ?_
 ·cases q3':decide (3 < P) with
  |true =>
   have q4:decide ((L.length:Int)≤4)=false:=by rw [q3',Bool.true_and] at q3;exact q3
   ((first|refine vx env fun Q hQ=>?_|refine vz fun Q hQ=>?_);simp only [vkt,seval,zx,zb,JU,mTk,qy,xV,kK,q0,q1,q2,hL1,hP,q3',q4,q5,ite_and];(repeat' first|with_reducible assumption|apply kk|intro hp);all_goals (first|(refine hQ _ ?_;clear hQ Q)|(refine hQ _ (fun h=>?_) (fun h=>?_) <;> clear hQ Q <;> (try simp only [vki,reduceCtorEq] at h))|(refine vq ?_;kernel_rfl)|omega|assumption|with_reducible rfl|skip))
   refine ⟨rfl, ?_⟩
   simp only [lvSA]
   (refine Le.ok some [] ?_;constructor;all_goals (try simp only [vle,vkt,seval,zb,qB,qa,qg]))
   all_goals first|rfl|simp
  |false =>
   ((first|refine vx env fun Q hQ=>?_|refine vz fun Q hQ=>?_);simp only [vkt,seval,zx,zb,JU,mTk,qy,xV,kK,q0,q1,q2,hL1,hP,q3',q5,ite_and];(repeat' first|with_reducible assumption|apply kk|intro hp);all_goals (first|(refine hQ _ ?_;clear hQ Q)|(refine hQ _ (fun h=>?_) (fun h=>?_) <;> clear hQ Q <;> (try simp only [vki,reduceCtorEq] at h))|(refine vq ?_;kernel_rfl)|omega|assumption|with_reducible rfl|skip))
   refine ⟨rfl, ?_⟩
   simp only [lvSA]
   (refine Le.ok some [] ?_;constructor;all_goals (try simp only [vle,vkt,seval,zb,qB,qa,qg]))
   all_goals first|rfl|simp
 rintro e1 S1 ⟨rfl,hle⟩
 refine (jT hle ?_:Sym _ _ _ S1 _)
 clear hle S1
 simp only [lvSA]
 repeat' (first|(apply nx;with_reducible constructor)|refine uq (by decide) ?_)
 ((first|refine vx env fun Q hQ=>?_|refine vz fun Q hQ=>?_);simp only [vkt,seval,zb,qB,qa,qg,ite_and];(repeat' first|with_reducible assumption|apply kk|intro hp);all_goals (first|(refine hQ _ ?_;clear hQ Q)|(refine hQ _ (fun h=>?_) (fun h=>?_) <;> clear hQ Q <;> (try simp only [reduceCtorEq] at h))|(refine vq ?_;kernel_rfl)|omega|assumption|with_reducible rfl|skip))
 repeat' (first|(apply nx;with_reducible constructor)|refine uq (by decide) ?_)
 ((first|refine vx env fun Q hQ=>?_|refine vz fun Q hQ=>?_);simp only [vkt,seval,zb,qB,qa,qg,pBag,hx0,ite_and];(repeat' first|with_reducible assumption|apply kk|intro hp);all_goals (first|(refine hQ _ ?_;clear hQ Q)|(refine hQ _ (fun h=>?_) (fun h=>?_) <;> clear hQ Q <;> (try simp only [vki,reduceCtorEq] at h))|(refine vq ?_;kernel_rfl)|omega|assumption|with_reducible rfl|skip))
 repeat' (first|(apply nx;with_reducible constructor)|refine uq (by decide) ?_)
 ((first|refine vx env fun Q hQ=>?_|refine vz fun Q hQ=>?_);simp only [vkt,seval,zx,qd,qa,Ji,hC,hx1,ite_and];(repeat' first|with_reducible assumption|apply kk|intro hp);all_goals (first|(refine hQ _ ?_;clear hQ Q)|(refine hQ _ (fun h=>?_) (fun h=>?_) <;> clear hQ Q <;> (try simp only [vki,reduceCtorEq] at h))|(refine vq ?_;kernel_rfl)|omega|assumption|with_reducible rfl|skip))
 repeat' (first|(apply nx;with_reducible constructor)|refine uq (by decide) ?_)
 ((first|refine vx env fun Q hQ=>?_|refine vz fun Q hQ=>?_);simp only [vkt,seval,zx,zb,mTk,qy,YJ,hsec,hB,ite_and];(repeat' first|with_reducible assumption|apply kk|intro hp);all_goals (first|(refine hQ _ ?_;clear hQ Q)|(refine hQ _ (fun h=>?_) (fun h=>?_) <;> clear hQ Q <;> (try simp only [vki,reduceCtorEq] at h))|(refine vq ?_;kernel_rfl)|omega|assumption|with_reducible rfl|skip))
 repeat' (first|(apply nx;with_reducible constructor)|refine uq (by decide) ?_)
 ((first|refine vx env fun Q hQ=>?_|refine vz fun Q hQ=>?_);simp only [vkt,seval,zx,Xy,hBm,ite_and];(repeat' first|with_reducible assumption|apply kk|intro hp);all_goals (first|(refine hQ _ ?_;clear hQ Q)|(refine hQ _ (fun h=>?_) (fun h=>?_) <;> clear hQ Q <;> (try simp only [vki,reduceCtorEq] at h))|(refine vq ?_;kernel_rfl)|omega|assumption|with_reducible rfl|skip))
 repeat' (first|(apply nx;with_reducible constructor)|refine uq (by decide) ?_)
 ((first|refine vx env fun Q hQ=>?_|refine vz fun Q hQ=>?_);simp only [vkt,seval,zx,ite_and];(repeat' first|with_reducible assumption|apply kk|intro hp);all_goals (first|(refine hQ _ ?_;clear hQ Q)|(refine hQ _ (fun h=>?_) (fun h=>?_) <;> clear hQ Q <;> (try simp only [vki,reduceCtorEq] at h))|(refine vq ?_;kernel_rfl)|omega|assumption|with_reducible rfl|skip))
 repeat' (first|(apply nx;with_reducible constructor)|refine uq (by decide) ?_)
 refine Sym.mono (K:=fun e S1=>e=.normal∧∃ O:List Ask,O.length=B.length∧(∀ x ∈ O,x.sexes.length≤2)∧Le S1 (lvS0 c C L B O)) ?_ ?_
 ·by_cases hz:0 < B.length
  ·have d2:decide ((0:Int) < (B.length:Int))=true:=decide_eq_true (by omega)
   have hn0:(0:Int)≤(B.length:Int):=by omega
   have hn1:(B.length:Int)≤1000:=by omega
   have hfb:=fd_bd (x:=at') (n:=(B.length:Int)) (by omega)
   obtain ⟨f,hf⟩:∃ f,fdA at' (B.length:Int)=f:=⟨_,rfl⟩
   rw [hf] at hfb
   have f0:0≤f:=hfb.1
   have fl:f.toNat < B.length:=by omega
   have hset:(B.map qV).set f.toNat (qV a)=(B.set f.toNat a).map qV:=List.map_set.symm
   have hset:(B.map qV).set f.toNat [.v (.int .i64 a.party),.v (.int .i64 a.frm),.v (.int .i64 a.to),.sl (a.sexes.map qU),.v (.bool a.dog)]=(B.set f.toNat a).map qV:=hset
   have hgB:=Vv fl
   repeat' (first|(apply nx;with_reducible constructor)|refine uq (by decide) ?_|((first|refine vx env fun Q hQ=>?_|refine vz fun Q hQ=>?_);simp only [vkt,seval,zx,zb,qV,QcM,d2,hn0,hn1,hf,f0,fl,hset,hgB,ite_and];(repeat' first|with_reducible assumption|apply kk|intro hp);all_goals (first|(refine hQ _ ?_;clear hQ Q)|(refine hQ _ (fun h=>?_) (fun h=>?_) <;> clear hQ Q <;> (try simp only [reduceCtorEq] at h))|(refine vq ?_;kernel_rfl)|omega|assumption|with_reducible rfl|skip)))
   refine ⟨rfl,B.set f.toNat a,by simp,fun x hx=>?_, ?_⟩
   ·rcases List.mem_or_eq_of_mem_set hx with h|h
    ·exact hB2 x h
    ·rw [h];omega
   ·simp only [lvS0]
    (refine Le.ok some [] ?_;constructor;all_goals (try simp only [vle,vkt,seval,qB,qa]))
    all_goals first|rfl|(simp;done)|(rw [hset];done)|(intro i hi;rw [if_neg (by omega)];done)
  ·have d2:decide ((0:Int) < (B.length:Int))=false:=decide_eq_false (by omega)
   repeat' (first|(apply nx;with_reducible constructor)|refine uq (by decide) ?_|((first|refine vx env fun Q hQ=>?_|refine vz fun Q hQ=>?_);simp only [vkt,seval,d2,ite_and];(repeat' first|with_reducible assumption|apply kk|intro hp);all_goals (first|(refine hQ _ ?_;clear hQ Q)|(refine hQ _ (fun h=>?_) (fun h=>?_) <;> clear hQ Q <;> (try simp only [reduceCtorEq] at h))|(refine vq ?_;kernel_rfl)|omega|assumption|with_reducible rfl|skip)))
   refine ⟨rfl,B,rfl,hB2, ?_⟩
   simp only [lvS0]
   (refine Le.ok some [] ?_;constructor;all_goals (try simp only [vle,vkt,seval,qB,qa]))
   all_goals first|rfl|(simp;done)|(intro i hi;rw [if_neg (by omega)];done)
 rintro e1 S1 ⟨rfl,O,hOl,hO2,hle⟩
 refine (jT hle ?_:Sym _ _ _ S1 _)
 clear hle S1
 simp only [lvS0]
 obtain ⟨CL,hCL⟩:∃ CL,[c,C,C,C]=CL:=⟨_,rfl⟩
 obtain ⟨LL,hLL⟩:∃ LL,[L,B,O,L]=LL:=⟨_,rfl⟩
 have hCl:CL.length=4:=by rw [← hCL];rfl
 have hLl:LL.length=4:=by rw [← hLL];rfl
 have hCb:∀ x ∈ CL,x.cabins.length≤20∧x.sold.length≤20:=by
  rw [← hCL]
  intro x hx
  simp only [List.mem_cons,List.not_mem_nil,or_false] at hx
  rcases hx with rfl|rfl|rfl|rfl <;> omega
 have hLb:∀ l ∈ LL,l.length≤20∧∀ x ∈ l,x.sexes.length≤2000000:=by
  rw [← hLL]
  intro l hl
  simp only [List.mem_cons,List.not_mem_nil,or_false] at hl
  rcases hl with rfl|rfl|rfl|rfl
  ·exact ⟨by omega,hsx⟩
  ·exact ⟨by omega,fun x hx=>by have:=hB2 x hx;omega⟩
  ·exact ⟨by omega,fun x hx=>by have:=hO2 x hx;omega⟩
  ·exact ⟨by omega,hsx⟩
 repeat' (first|(apply nx;with_reducible constructor)|refine uq (by decide) ?_|((first|refine vx env fun Q hQ=>?_|refine vz fun Q hQ=>?_);simp only [vkt,seval,zx,qB,qa,ite_and];(repeat' first|with_reducible assumption|apply kk|intro hp);all_goals (first|(refine hQ _ ?_;clear hQ Q)|(refine hQ _ (fun h=>?_) (fun h=>?_) <;> clear hQ Q <;> (try simp only [vki,reduceCtorEq] at h))|(refine vq ?_;kernel_rfl)|omega|assumption|with_reducible rfl|skip)))
 refine qC (fun i:{ i:Nat // i≤CL.length }=>lvS CL LL i.1 [] [] 11) (fun i=>CL.length - i.1) ⟨0,Nat.zero_le _⟩ ?_ fun ⟨i,hi⟩=>?_
 ·simp only [lvS,← hCL,← hLL,List.nil_append]
  (refine Le.ok (fun i=>if i=9 then some 6 else if i=10 then some 7 else none) [] ?_;constructor;all_goals (try simp only [vle,vkt,seval,zb,VP,J2]))
  all_goals first|rfl|simp
 simp only at hi ⊢
 by_cases hil:i < CL.length
 case neg =>
  have d1:decide ((i:Int) < (CL.length:Int))=false:=decide_eq_false (by omega)
  simp only [lvS,List.nil_append]
  repeat' (first|(apply nx;with_reducible constructor)|refine uq (by decide) ?_|((first|refine vx env fun Q hQ=>?_|refine vz fun Q hQ=>?_);simp only [vkt,seval,zx,zb,yn,d1,ite_and];(repeat' first|with_reducible assumption|apply kk|intro hp);all_goals (first|(refine hQ _ ?_;clear hQ Q)|(refine hQ _ (fun h=>?_) (fun h=>?_) <;> clear hQ Q <;> (try simp only [reduceCtorEq] at h))|(refine vq ?_;kernel_rfl)|omega|assumption|with_reducible rfl|skip)))
  (simp only [vrt,Tryz.results7,vkt,seval,zb];refine Fin.val rfl ?_;(try simp only [AV.le]))
  all_goals first|rfl|simp
 have d1:decide ((i:Int) < (CL.length:Int))=true:=decide_eq_true (by omega)
 have e9:=k9 i (by omega)
 have i0:((i:Int)).toNat=i:=rfl
 have hia:i < LL.length:=by omega
 have hg:=Qli hil
 have hgl:=hAsks hia
 obtain ⟨b1,b2⟩:=hCb _ (wC (d:=default) hil)
 obtain ⟨b3,b4⟩:=hLb _ (wC (d:=[]) hia)
 obtain ⟨x,hx⟩:∃ x,CL.getD i default=x:=⟨_,rfl⟩
 obtain ⟨l,hl⟩:∃ y,LL.getD i []=y:=⟨_,rfl⟩
 rw [hx] at hg b1 b2
 rw [hl] at hgl b3 b4
 have ex:(⟨x.cabins,x.secs,x.sold⟩:Chart)=x:=rfl
 have b5:x.cabins.length≤maxLen:=by omega
 have b6:x.sold.length≤maxLen:=by omega
 have b7:x.cabins.length≤100000:=by omega
 have b8:x.sold.length≤100000:=by omega
 have b9:l.length≤100000:=by omega
 have b10:l.length≤maxLen:=by omega
 have b11:∀ a ∈ l,a.sexes.length≤maxLen:=fun a ha=>by have:=b4 a ha;omega
 have hmb:=QgJ x l
 obtain ⟨⟨M,E⟩,hM⟩:∃ r,jl x l=r:=⟨_,rfl⟩
 rw [hM] at hmb
 simp only at hmb
 have b12:M.length≤maxLen:=by omega
 simp only [lvS,List.nil_append]
 repeat' (first|(apply nx;with_reducible constructor)|refine uq (by decide) ?_|((first|refine vx env fun Q hQ=>?_|refine vz fun Q hQ=>?_);simp only [vkt,seval,zx,zb,J2,mTk,qy,qd,qa,Ua,d1,i0,hil,hg,b7,b8,ite_and];(repeat' first|with_reducible assumption|apply kk|intro hp);all_goals (first|(refine hQ _ ?_;clear hQ Q)|(refine hQ _ (fun h=>?_) (fun h=>?_) <;> clear hQ Q <;> (try simp only [reduceCtorEq] at h))|(refine vq ?_;kernel_rfl)|omega|assumption|with_reducible rfl|skip)))
 refine qC (fun k:{ k:Nat // k≤l.length }=>lvS CL LL i [(18,.ptr 12 0),(19,.row 11),(20,aI k.1)] [(11,.row 28 5 ((l.take k.1).map qV)),(12,.cells (qa x))] 13) (fun k=>l.length - k.1) ⟨0,Nat.zero_le _⟩ ?_ fun ⟨k,hk⟩=>?_
 ·simp only [lvS,List.take_zero,List.map_nil,List.cons_append,List.nil_append]
  (refine Le.ok (fun i=>if i=11 then none else if i=12 then some 11 else some i) [] ?_;constructor;all_goals (try simp only [vle,vkt,seval,zb,qa]))
  all_goals first|rfl|(simp;done)|(intro i hi;rw [if_neg (by omega),if_neg (by omega)];done)
 simp only at hk ⊢
 by_cases hkl:k < l.length
 ·have d2:decide ((k:Int) < (l.length:Int))=true:=decide_eq_true (by omega)
  have e8:=k9 k (by omega)
  have k0:((k:Int)).toNat=k:=rfl
  have hgk:=Vv hkl
  have hyb:=b4 _ (wC (d:=default) hkl)
  have hS:=Qgu (d:=default) hkl
  obtain ⟨y,hy⟩:∃ y,l.getD k default=y:=⟨_,rfl⟩
  rw [hy] at hgk hyb hS
  have ey:(⟨y.party,y.frm,y.to,y.sexes,y.dog⟩:Ask)=y:=rfl
  have hTl:(l.take k).length+1≤maxLen:=by rw [List.length_take];omega
  have hTb:(l.take k).length≤100:=by rw [List.length_take];omega
  obtain ⟨T,hT⟩:∃ T,l.take k=T:=⟨_,rfl⟩
  rw [hT] at hS hTl hTb
  simp only [lvS,hT,List.cons_append,List.nil_append]
  repeat' (first|(apply nx;with_reducible constructor)|refine uq (by decide) ?_|((first|refine vx env fun Q hQ=>?_|refine vz fun Q hQ=>?_);simp only [vkt,seval,zx,zb,VP,JA,qV,Xy,qa,qI,qg,YX,d2,e8,i0,k0,hia,hgl,hkl,hy,hyb,hTl,ite_and];(repeat' first|with_reducible assumption|apply kk|intro hp);all_goals (first|(refine hQ _ ?_;clear hQ Q)|(refine hQ _ (fun h=>?_) (fun h=>?_) <;> clear hQ Q <;> (try simp only [reduceCtorEq] at h))|(refine vq ?_;kernel_rfl)|omega|assumption|with_reducible rfl|skip)))
  refine ⟨⟨k+1,hkl⟩,by show l.length - (k+1) < l.length - k;omega, ?_⟩
  simp only [hS]
  (refine Le.ok (fun i=>if i=11 then some 14 else some i) [] ?_;constructor;all_goals (try simp only [vle,vkt,seval,zb,qa]))
  all_goals first|rfl|(rw [List.map_append];rfl)|(simp;done)|(intro i hi;rw [if_neg (by omega)];done)
 have d2:decide ((k:Int) < (l.length:Int))=false:=decide_eq_false (by omega)
 obtain rfl:k=l.length:=by omega
 rw [List.take_length]
 refine (jT (?_:Le _ (lvS CL LL i [(18,.ptr 12 0),(19,qB l),(20,aI l.length)] [(12,.cells (qa x))] 13)) ?_:Sym _ _ _ _ _)
 ·simp only [lvS,List.cons_append,List.nil_append]
  (refine Le.ok (fun i=>if i=11 then none else some i) [11] ?_;constructor;all_goals (try simp only [vle,vkt,seval,zb,qB,qa]))
  all_goals first|rfl|(simp;done)|(intro i hi;rw [if_neg (by omega)];done)
 simp only [lvS,List.cons_append,List.nil_append]
 repeat' (first|(apply nx;with_reducible constructor)|refine uq (by decide) ?_|((first|refine vx env fun Q hQ=>?_|refine vz fun Q hQ=>?_);simp only [vkt,seval,zx,zb,qB,VP,JU,J2,mTk,qy,qa,Qdj,UE,QdV,seqC,d2,i0,hil,hia,hg,hgl,ex,b5,b6,b8,b9,b12,hM,decide_true,ite_and];(repeat' first|with_reducible assumption|apply kk|intro hp);all_goals (first|(refine hQ _ ?_;clear hQ Q)|(refine hQ _ (fun h=>?_) (fun h=>?_) <;> clear hQ Q <;> (try simp only [reduceCtorEq] at h))|(refine vq ?_;kernel_rfl)|omega|assumption|with_reducible rfl|skip)))
 refine qC (fun k:{ k:Nat // k≤l.length }=>lvS CL LL i [(19,qB l),(25,aI k.1)] [] 11) (fun k=>l.length - k.1) ⟨0,Nat.zero_le _⟩ ?_ fun ⟨k,hk⟩=>?_
 ·simp only [lvS,List.cons_append,List.nil_append]
  (refine Le.ok (fun i=>if i < 11 then some i else none) [] ?_;constructor;all_goals (try simp only [vle,vkt,seval,zb,qB]))
  all_goals first|rfl|simp
 simp only at hk ⊢
 simp only [lvS,List.cons_append,List.nil_append]
 by_cases hkl:k < l.length
 ·have d2:decide ((k:Int) < (l.length:Int))=true:=decide_eq_true (by omega)
  have e8:=k9 k (by omega)
  have k0:((k:Int)).toNat=k:=rfl
  have hgk:=Vv hkl
  have hyb:=b11 _ (wC (d:=default) hkl)
  obtain ⟨y,hy⟩:∃ y,l.getD k default=y:=⟨_,rfl⟩
  rw [hy] at hgk hyb
  have ey:(⟨y.party,y.frm,y.to,y.sexes,y.dog⟩:Ask)=y:=rfl
  repeat' (first|(apply nx;with_reducible constructor)|refine uq (by decide) ?_|((first|refine vx env fun Q hQ=>?_|refine vz fun Q hQ=>?_);simp only [vkt,seval,zx,zb,qB,VP,JA,qV,seqA,d2,e8,i0,k0,hia,hgl,hkl,hy,ey,hyb,decide_true,ite_and];(repeat' first|with_reducible assumption|apply kk|intro hp);all_goals (first|(refine hQ _ ?_;clear hQ Q)|(refine hQ _ (fun h=>?_) (fun h=>?_) <;> clear hQ Q <;> (try simp only [reduceCtorEq] at h))|(refine vq ?_;kernel_rfl)|omega|assumption|with_reducible rfl|skip)))
  refine ⟨⟨k+1,hkl⟩,by show l.length - (k+1) < l.length - k;omega, ?_⟩
  simp only []
  (refine Le.ok some [] ?_;constructor;all_goals (try simp only [vle,vkt,seval,zb,qB]))
  all_goals first|rfl|simp
 ·have d2:decide ((k:Int) < (l.length:Int))=false:=decide_eq_false (by omega)
  repeat' (first|(apply nx;with_reducible constructor)|refine uq (by decide) ?_|((first|refine vx env fun Q hQ=>?_|refine vz fun Q hQ=>?_);simp only [vkt,seval,zx,zb,qB,d2,e9,ite_and];(repeat' first|with_reducible assumption|apply kk|intro hp);all_goals (first|(refine hQ _ ?_;clear hQ Q)|(refine hQ _ (fun h=>?_) (fun h=>?_) <;> clear hQ Q <;> (try simp only [reduceCtorEq] at h))|(refine vq ?_;kernel_rfl)|omega|assumption|with_reducible rfl|skip)))
  refine ⟨⟨i+1,hil⟩,by show CL.length - (i+1) < CL.length - i;omega, ?_⟩
  simp only []
  (refine Le.ok some [] ?_;constructor;all_goals (try simp only [vle,vkt,seval,zb]))
  all_goals first|rfl|simp
end Go.Sym.B
namespace Go.Sym
open Go Go.RowKit
structure BulkOk {H:Type} (β:DataW H→Nat):Prop where
 elem:∀ {es sp:List (DataW H)} {d:DataW H},d ∈ es→β d≤β (.slice es sp)
 len:∀ {es sp:List (DataW H)},es.length≤β (.slice es sp)
 part:∀ {ps:List (DataW H)} {d:DataW H},d ∈ ps→β d≤β (.agg ps)
inductive DSm (n:Nat):DV→Prop
 |v {x:Value}:DSm n (.v x)
 |sl {xs:List (List DV)}:xs.length≤n→(∀ r ∈ xs,∀ d ∈ r,DSm n d)→DSm n (.sl xs)
theorem DSm.mono {n m:Nat} {d:DV} (h:DSm n d) (hm:n≤m):DSm m d:=by
 induction h with
 |v=>exact .v
 |sl h1 _ ih=>exact .sl (Nat.le_trans h1 hm) ih
theorem Qka {P:Program} {H:Type} {β:DataW H→Nat} (hbk:BulkOk β) {enc:TypeId × Value→H} {w:World} {base:Nat} {spare:Nat→Bool} {held:Bool} {t:TypeId} {sps:List Sp} (hf:Fl P t sps) :
  ∀ {fuel:Nat} {cs:List Value} {x:DataW H × List MemPlace},DataW.trod enc P w base spare held fuel t cs=some x→∃ ds,DRow w sps ds cs∧∀ d ∈ ds,DSm (β x.1) d:=by
 induction hf with
 |@int t k ht =>
  intro fuel cs x h
  cases fuel with
  |zero=>simp [DataW.trod] at h
  |succ n =>
   unfold DataW.trod at h
   rw [ht] at h
   split at h <;> simp_all
   exact ⟨_,.one (.int h.1.2) (.v rfl),fun d hd=>by cases List.mem_singleton.1 hd;exact .v⟩
 |@bool t ht =>
  intro fuel cs x h
  cases fuel with
  |zero=>simp [DataW.trod] at h
  |succ n =>
   unfold DataW.trod at h
   rw [ht] at h
   split at h <;> simp_all
   exact ⟨_,.one .bool (.v rfl),fun d hd=>by cases List.mem_singleton.1 hd;exact .v⟩
 |@sl t e es ht hce hpos hfe ih =>
  intro fuel cs x h
  rcases DataW.trod_slice ht h with ⟨rfl,_⟩|⟨a,len,cap,elems,rest,n,_,rfl,rfl,hb,hl,hm,hlen,hel,_,_⟩
  ·exact ⟨_,.one (.sl (xs:=[]) (by simp) (by simp) (Nat.zero_le _)) (.sl0 (Nat.zero_le _)),fun d hd=>by cases List.mem_singleton.1 hd;exact .sl (Nat.zero_le _) (by simp)⟩
  ·obtain ⟨rows,hrl,hrow⟩:=xc (p:=fun i (r:List DV × List Value)=>(DRow w es r.1 r.2∧∀ j,j < es.length→w.cell? (a.add (i * es.length+j))=r.2[j]?)∧∀ d ∈ r.1,DSm (β (.slice (elems.map (·.1)) (rest.map (·.1)))) d) len fun i hi=>by
    have h1:=hel i hi
    rw [List.getElem?_eq_getElem (by omega)] at h1
    obtain ⟨cs',hc,ht'⟩:=Option.bind_eq_some_iff.1 h1
    obtain ⟨ds,hd,hsm⟩:=ih ht'
    refine ⟨(ds,cs'),⟨hd,fun j hj=>?_⟩,fun d h=>(hsm d h).mono (hbk.elem (List.mem_map_of_mem (List.getElem_mem _)))⟩
    rw [hce] at hc
    have:=(World.cells?_some hc).2.2 j hj
    rwa [add_add'] at this
   have get:∀ (i:Nat) (r:List DV),(rows.map (·.1))[i]?=some r→∃ q,rows[i]?=some q∧q.1=r:=fun i r hr=>by
    rw [List.getElem?_map] at hr
    exact Option.map_eq_some_iff.1 hr
   have hrowl:∀ r ∈ rows.map (·.1),r.length=es.length:=fun r hr=>by
    obtain ⟨i,hi⟩:=List.getElem?_of_mem hr
    obtain ⟨q,hq,rfl⟩:=get i r hi
    exact (hrow i q hq).1.1.len
   refine ⟨[.sl (rows.map (·.1))],.one (.sl hrowl (fun r hr j s d hs hd=>?_) (by simp [hrl];omega)) ?_,fun d hd=>by
    cases List.mem_singleton.1 hd
    refine .sl ?_ fun r hr d hd=>?_
    ·have:=hbk.len (es:=elems.map (·.1)) (sp:=rest.map (·.1))
     simp only [List.length_map] at this ⊢
     omega
    ·obtain ⟨i,hi⟩:=List.getElem?_of_mem hr
     obtain ⟨q,hq,rfl⟩:=get i r hi
     exact (hrow i q hq).2 d hd⟩
   ·obtain ⟨i,hi⟩:=List.getElem?_of_mem hr
    obtain ⟨q,hq,rfl⟩:=get i r hi
    exact (hrow i q hq).1.1.shape j s d hs hd
   ·rcases Nat.eq_zero_or_pos len with rfl|hp
    ·have:rows=[]:=List.length_eq_zero_iff.1 hrl
     subst this
     exact .sl0 hm
    ·have cell:∀ (i:Nat) (r:List DV) (j:Nat) (d:DV),(rows.map (·.1))[i]?=some r→r[j]?=some d→∃ v,w.cell? (a.add (i * es.length+j))=some v∧DRel w (okW w) d v:=fun i r j d hr hd=>by
      obtain ⟨q,hq,rfl⟩:=get i r hr
      obtain ⟨⟨hR,hc⟩,_⟩:=hrow i q hq
      have hj:j < es.length:=by rw [← hR.len];exact (List.getElem?_eq_some_iff.1 hd).1
      have h1:=hc j hj
      have hj2:j < q.2.length:=by rw [hR.clen];exact hj
      exact ⟨q.2[j],by rw [h1,List.getElem?_eq_getElem hj2],hR.rel j d _ hd (List.getElem?_eq_getElem hj2)⟩
     have hblk:a.block < w.heap.size:=by
      have h0:0 < rows.length:=by omega
      obtain ⟨⟨hR,hc⟩,_⟩:=hrow 0 _ (List.getElem?_eq_getElem h0)
      have h1:=hc 0 hpos
      have hj2:0 < rows[0].2.length:=by rw [hR.clen];exact hpos
      rw [List.getElem?_eq_getElem hj2] at h1
      have:=Vl h1
      rwa [block_add] at this
     refine .sl (k:=es.length) (fun i j=>(w.cell? (a.add (i * es.length+j))).getD undef) (by simp [hrl]) hp hl hm hpos (fun i r hr=>hrowl r (List.mem_of_getElem? hr)) (fun i r j d hr hd=>?_) (fun i r j d hr hd=>?_) (QhV hblk)
     ·obtain ⟨v,hv,_⟩:=cell i r j d hr hd
      rw [hv];rfl
     ·obtain ⟨v,hv,hd⟩:=cell i r j d hr hd
      rw [hv];exact hd
 |@struct t fs L ht hct hL _ hoff ih =>
  intro fuel cs x h
  obtain ⟨xs,n,_,rfl,hcl,hxl,hx⟩:=DataW.trod_struct ht h
  have hlen:cs.length=L.flatten.length:=by rw [hcl,hct]
  obtain ⟨dss,hdl,hds⟩:=xc (p:=fun i (d:List DV)=>(∀ l,L[i]?=some l→DRow w l d ((cs.drop (L.take i).flatten.length).take l.length))∧∀ e ∈ d,DSm (β (.agg (xs.map (·.1)))) e) L.length fun i hi=>by
   have hfi:i < fs.size:=by omega
   obtain ⟨h1,h2⟩:=hoff i _ _ (Array.getElem?_eq_getElem hfi) (List.getElem?_eq_getElem hi)
   have h3:=hx i _ (Array.getElem?_eq_getElem hfi)
   rw [List.getElem?_eq_getElem (by omega),h1,h2] at h3
   obtain ⟨ds,hd,hsm⟩:=ih i _ _ (Array.getElem?_eq_getElem hfi) (List.getElem?_eq_getElem hi) h3
   refine ⟨ds,fun l hl=>?_,fun e he=>(hsm e he).mono (hbk.part (List.mem_map_of_mem (List.getElem_mem _)))⟩
   rw [List.getElem?_eq_getElem hi] at hl
   cases hl
   exact hd
  have hlens:∀ (i:Nat) (d:List DV) (l:List Sp),dss[i]?=some d→L[i]?=some l→d.length=l.length:=fun i d l hd hl=>((hds i d hd).1 l hl).len
  have htake:∀ i,i≤L.length→(dss.take i).flatten.length=(L.take i).flatten.length:=by
   intro i
   induction i with
   |zero=>intro _;rfl
   |succ i ihi =>
    intro hi
    have h1:i < dss.length:=by omega
    have h2:i < L.length:=by omega
    rw [List.take_succ_eq_append_getElem h1,List.take_succ_eq_append_getElem h2,List.flatten_append,List.flatten_append,List.length_append,List.length_append,ihi (by omega)]
    simp only [List.flatten_cons,List.flatten_nil,List.append_nil]
    rw [hlens i _ _ (List.getElem?_eq_getElem h1) (List.getElem?_eq_getElem h2)]
  have hfl:dss.flatten.length=L.flatten.length:=by
   have:=htake L.length (Nat.le_refl _)
   rwa [List.take_of_length_le (by omega),List.take_of_length_le (Nat.le_refl _)] at this
  refine ⟨dss.flatten,⟨hfl,hlen,fun q s d hs hd=>?_,fun q d v hd hv=>?_⟩,fun e he=>by
   obtain ⟨d,hd,he⟩:=List.mem_flatten.1 he
   obtain ⟨i,hi⟩:=List.getElem?_of_mem hd
   exact (hds i d hi).2 e he⟩
  ·obtain ⟨i,l,h1,h2,h3⟩:=vP hs
   have hi:=(List.getElem?_eq_some_iff.1 h1).1
   have hdi:i < dss.length:=by omega
   have hR:=(hds i _ (List.getElem?_eq_getElem hdi)).1 l h1
   have hj:q - (L.take i).flatten.length < l.length:=(List.getElem?_eq_some_iff.1 h3).1
   have h4:=Xc (L:=dss) (List.getElem?_eq_getElem hdi) (j:=q - (L.take i).flatten.length) (by rw [hR.len];exact hj)
   rw [htake i (by omega),show (L.take i).flatten.length+(q - (L.take i).flatten.length)=q by omega,hd] at h4
   exact hR.shape _ s d h3 h4.symm
  ·obtain ⟨i,dl,h1,h2,h3⟩:=vP hd
   have hi:=(List.getElem?_eq_some_iff.1 h1).1
   have hLi:i < L.length:=by omega
   rw [htake i (by omega)] at h2 h3
   have hR:=(hds i dl h1).1 _ (List.getElem?_eq_getElem hLi)
   have hj:q - (L.take i).flatten.length < L[i].length:=by rw [← hR.len];exact (List.getElem?_eq_some_iff.1 h3).1
   refine hR.rel _ d v h3 ?_
   rw [List.getElem?_take,if_pos hj,List.getElem?_drop,show (L.take i).flatten.length+(q - (L.take i).flatten.length)=q by omega]
   exact hv
end Go.Sym
namespace Go.Sym.B
open Go Go.Sym Go.Proofs Go.RowKit
theorem eA_of (r:List DV) (h:r.length=5) (hs:∀ (j:Nat) (s:Sp) (d:DV),spA[j]?=some s→r[j]?=some d→D1 s d):∃ a,r=qV a:=by
 match r,h with
 |[a,b,c,d,e],_ =>
  obtain ⟨n1,rfl,_⟩:=(hs 0 _ a rfl rfl).int_inv
  obtain ⟨n2,rfl,_⟩:=(hs 1 _ b rfl rfl).int_inv
  obtain ⟨n3,rfl,_⟩:=(hs 2 _ c rfl rfl).int_inv
  obtain ⟨l3,rfl,_⟩:=(hs 3 _ d rfl rfl).sl_inv qU QfL
  obtain ⟨n5,rfl⟩:=(hs 4 _ e rfl rfl).bool_inv
  exact ⟨⟨n1,n2,n3,l3,n5⟩,rfl⟩
theorem flL:Fl Tryz.prog 37 [.sl spA]:=vF (n:=6) (by kernel_rfl)
variable {H : Type} {enc : TypeId × Value → H} {W : World} {base : Nat} {spare : Nat → Bool} {held : Bool}
theorem Qga {β:DataW H→Nat} (hbk:BulkOk β) {fuel:Nat} {v:Value} {x:DataW H × List MemPlace} (h:DataW.trod enc Tryz.prog W base spare held fuel 37 [v]=some x):∃ l:List Ask,ARel W (okW W) JD undef (qB l) v∧l.length≤maxLen∧∀ a ∈ l,a.sexes.length≤β x.1:=by
 obtain ⟨ds,hd,hsm⟩:=Qka hbk flL h
 obtain ⟨d,rfl,h1,h2⟩:=hd.one_inv
 obtain ⟨l,rfl,hl⟩:=h1.sl_inv qV eA_of
 refine ⟨l,Jm h2,hl,fun a ha=>?_⟩
 have h3:=hsm _ (List.mem_singleton.2 rfl)
 cases h3 with
 |sl _ h4 =>
  have h5:=h4 _ (List.mem_map_of_mem ha) (.sl (a.sexes.map qU)) (by simp [qV])
  cases h5 with
  |sl h6 _=>simpa using h6
set_option maxRecDepth 100000 in
theorem asks_of {β:DataW H→Nat} (hbk:BulkOk β) {v:Value} {d:DataW H} {p:List MemPlace} {r:Reach} {b0:Nat} (h:DataW.Trod enc Tryz.prog W base spare held 37 v d p) (hu:Tryz.prog.underlying 37=some (.slice 28)) (hv:Value.okWide Tryz.prog W r b0 37 v):∃ l:List Ask,ARel W (okW W) JD undef (qB l) v∧l.length≤maxLen∧∀ a ∈ l,a.sexes.length≤β d:=by
 obtain ⟨fuel,hf⟩:=h
 obtain ⟨a,n,c,rfl⟩:=WideShapes.okWide_slice hu hv
 exact Qga hbk hf
end Go.Sym.B
