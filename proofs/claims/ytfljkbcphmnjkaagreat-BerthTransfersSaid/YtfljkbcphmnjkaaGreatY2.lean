/- Walks and what they compute, joined: part 2. -/
import Derived.Test.YtfljkbcphmnjkaaGreatYB3
import Derived.Test.YtfljkbcphmnjkaaGreatY1
set_option linter.all false
namespace Go.Sym.B
open Go Go.Sym Go.Proofs Go.Sym.C
set_option maxRecDepth 100000 in
set_option maxHeartbeats 8000000 in
theorem QeA (c:Chart) (a:Ask) (hc:c.cabins.length≤maxLen) (hs:c.sold.length≤20) (ha:a.sexes.length≤maxLen):FnV Tryz.prog 24 [qa c,qx a] (.tup [qI (wV c a).1,aI (wV c a).2]):=by
 have env:Env (fun _=>True) Tryz.prog tyB (tab [(53,qX true jg),(67,qX false jh),(68,qX false zN),(70,qX false zx),(69,fnE Qc),(71,qX false wB),(54,qX false zM)]):=qL ⟨QjO,QjU,Qfg,QcW,eAlZ,Qit,QfV,trivial⟩
 refine Fn.of (A:=fun _=>True) (n0:=0) (D:=noD) (Fn0 Tryz.func24 rfl (fun vs w=>by kernel_rfl) (by kernel_rfl)) (by simp) (by simp [AV.ids,AV.idsL,qa,qb,qx,qg]) (fun i o h=>by cases h) (fun _ _ _ _=>trivial) qF ?_
 have ec:(⟨c.cabins,c.secs,c.sold⟩:Chart)=c:=rfl
 have ea:(⟨a.party,a.frm,a.to,a.sexes,a.dog⟩:Ask)=a:=rfl
 have hmx:(100000:Nat)≤maxLen:=by decide
 have hs2:c.sold.length≤100:=by omega
 obtain ⟨e,he⟩:∃ e,zw c a=e:=⟨_,rfl⟩
 by_cases h0:e=0
 case neg =>
  have d0:decide (e=0)=false:=decide_eq_false h0
  rw [show wV c a=([],e) by unfold wV;rw [he,if_pos h0]]
  repeat' (first|(apply nx;with_reducible constructor)|refine uq (by decide) ?_|((first|refine vx env fun Q hQ=>?_|refine vz fun Q hQ=>?_);simp only [vkt,seval,ze,jW,qf,qc,zI,qI,qo,qA,eTr,qD,qH,gTr,qO,qG,rTr,qM,mTr,mTk,qd,qa,qb,qx,qg,kM,yE,jg,jh,zN,zx,Qc,wB,zM,List.length_map,ec,ea,hc,hs2,ha,he,d0];(try simp only [ite_and]);(repeat' (first|with_reducible assumption|refine And.intro ?_ ?_|intro hp));all_goals (first|(refine hQ _ ?_;clear hQ Q)|(refine hQ _ (fun h=>?_) (fun h=>?_) <;> clear hQ Q <;> (try simp only [vki,reduceCtorEq] at h))|(refine vq ?_;kernel_rfl)|omega|assumption|with_reducible rfl|skip)))
  (simp only [vrt,Tryz.results24,vkt,seval,ze,jW,qf,qc,zI,qI,qo,qA,eTr,qD,qH,gTr,qO,qG,rTr,qM,mTr,mTk,qd,qa,qb,qx,qg,kM,yE,jg,jh,zN,zx,Qc,wB,zM,List.length_map];refine Fin.val rfl ?_;(try simp only [AV.le,AV.leL]))
  all_goals first|rfl|(simp;done)
 rw [h0] at he
 obtain ⟨hx1,hx2⟩:=Qc5 (yK he).2
 have hV:=QK (yK he).1
 have hCar:=hV.car
 have h8:=hV.many
 have a1:0 < a.sexes.length:=by omega
 have a2:a.sexes.length≤3:=by omega
 have b1:c.cabins.length≤3:=hCar.cabs.2
 have b2:∀ x ∈ c.cabins,x.beds≤3:=fun x hx=>(hCar.beds x hx).2
 have b4:=Qdd b1 hCar.beds
 have hat:=fun {m:Nat} {l:List Tr}=>Qgn (m:=m) (l:=l) he
 have hno:=Qfe he
 have hbd:=fun n h=>Qh7 (sold:=c.sold) n h
 have hQl:=LB c.sold
 have hzg:=fun {r:List Int} {bb:List Bunk} {q:Nat}=>QiH (c:=c) (r:=r) (bb:=bb) (q:=q)
 have hrm:∀ m,Qb9 c a m=(QW (zS c.sold).length m 0).findSome? fun ts=>(alL (qV c.cabins) m).findSome? fun bb=>trR c.cabins c.secs a c.sold (Z8 (jf c ts) bb):=fun m=>rfl
 obtain ⟨Q,hQ⟩:∃ Q,zS c.sold=Q:=⟨_,rfl⟩
 rw [hQ] at hbd hQl hrm
 simp only [hQ] at hzg
 obtain ⟨BS,hBS⟩:∃ l,qV c.cabins=l:=⟨_,rfl⟩
 rw [hBS] at b4 hrm
 have q1:Q.length≤maxLen:=by omega
 repeat' (first|(apply nx;with_reducible constructor)|refine uq (by decide) ?_|((first|refine vx env fun Q hQ=>?_|refine vz fun Q hQ=>?_);simp only [vkt,seval,ze,jW,qf,qc,zI,qI,qo,qA,eTr,qD,qH,gTr,qO,qG,rTr,qM,mTr,mTk,qd,qa,qb,qx,qg,kM,yE,jg,jh,zN,zx,Qc,wB,zM,List.length_map,ec,ea,hc,hs2,ha,he,hQ,decide_true];(try simp only [ite_and]);(repeat' (first|with_reducible assumption|refine And.intro ?_ ?_|intro hp));all_goals (first|(refine hQ _ ?_;clear hQ Q)|(refine hQ _ (fun h=>?_) (fun h=>?_) <;> clear hQ Q <;> (try simp only [vki,reduceCtorEq] at h))|(refine vq ?_;kernel_rfl)|omega|assumption|with_reducible rfl|skip)))
 refine qN (fun m:{ m:Nat // m≤3∧∀ j,j < m→Qb9 c a j=none }=>kM c a Q m.1) (fun m=>3 - m.1) ⟨0,Nat.zero_le _,fun j h=>absurd h (Nat.not_lt_zero _)⟩ ?_ fun ⟨m,hm,hmn⟩=>?_
 ·simp only [kM]
  (refine Le.ok some [] ?_;constructor;all_goals (try simp only [vle,vkt,seval,ze,jW,qf,qc,zI,qI,qo,qA,eTr,qD,qH,gTr,qO,qG,rTr,qM,mTr,mTk,qd,qa,qb,qx,qg,kM,yE,jg,jh,zN,zx,Qc,wB,zM,List.length_map]))
  all_goals first|rfl|(rw [hQ];done)|(simp;done)
 simp only at hm hmn ⊢
 simp only [kM]
 by_cases hm3:m < 3
 case neg =>
  obtain rfl:m=3:=by omega
  rw [hno hmn]
  have d1:decide (((3:Nat):Int)≤2)=false:=rfl
  repeat' (first|(apply nx;with_reducible constructor)|refine uq (by decide) ?_|((first|refine vx env fun Q hQ=>?_|refine vz fun Q hQ=>?_);simp only [vkt,seval,ze,jW,qf,qc,zI,qI,qo,qA,eTr,qD,qH,gTr,qO,qG,rTr,qM,mTr,mTk,qd,qa,qb,qx,qg,kM,yE,jg,jh,zN,zx,Qc,wB,zM,List.length_map,d1];(try simp only [ite_and]);(repeat' (first|with_reducible assumption|refine And.intro ?_ ?_|intro hp));all_goals (first|(refine hQ _ ?_;clear hQ Q)|(refine hQ _ (fun h=>?_) (fun h=>?_) <;> clear hQ Q <;> (try simp only [vki,reduceCtorEq] at h))|(refine vq ?_;kernel_rfl)|omega|assumption|with_reducible rfl|skip)))
  (simp only [vrt,Tryz.results24,vkt,seval,ze,jW,qf,qc,zI,qI,qo,qA,eTr,qD,qH,gTr,qO,qG,rTr,qM,mTr,mTk,qd,qa,qb,qx,qg,kM,yE,jg,jh,zN,zx,Qc,wB,zM,List.length_map];refine Fin.val rfl ?_;(try simp only [AV.le,AV.leL]))
  all_goals first|rfl|(simp;done)
 have d1:decide ((m:Int)≤2)=true:=decide_eq_true (by omega)
 have e1:IntKind.wrap .i64 ((m:Int)+1)=((m+1:Nat):Int):=by rw [wrap64 (by omega) (by omega)];rfl
 have m0:((m:Int)).toNat=m:=rfl
 have n0:((Q.length:Int)).toNat=Q.length:=rfl
 have z0:((0:Int)).toNat=0:=rfl
 have m1:(0:Int)≤(m:Int):=by omega
 have m2:(m:Int)≤4:=by omega
 have m3:(m:Int)≤3:=by omega
 have n1:(0:Int)≤(Q.length:Int):=by omega
 have n2:(Q.length:Int)≤8:=by omega
 have hrm:=hrm m
 have hch1:=VV (n:=Q.length) m 0
 have hch2:=QgH (n:=Q.length) m 0
 have hli1:∀ p ∈ alL BS m,p.length=m:=fun p hp=>ZC p hp
 have hCHl:=QdG (n:=Q.length) (by omega) m 0
 have h8m:8 ^ m≤512:=Nat.le_trans (Nat.pow_le_pow_right (by decide) (show m≤3 by omega)) (by decide)
 have hLIl:(alL BS m).length≤1000:=by
  rw [VX]
  have h1:BS.length ^ m≤9 ^ m:=Nat.pow_le_pow_left b4 m
  have h2:9 ^ m≤9 ^ 3:=Nat.pow_le_pow_right (by decide) (by omega)
  omega
 obtain ⟨CH,hCH⟩:∃ l,QW Q.length m 0=l:=⟨_,rfl⟩
 obtain ⟨LI,hLI⟩:∃ l,alL BS m=l:=⟨_,rfl⟩
 rw [hCH] at hrm hch1 hch2 hCHl
 rw [hLI] at hrm hli1 hLIl
 have CHm:CH.length≤maxLen:=by omega
 have LIm:LI.length≤maxLen:=by omega
 repeat' (first|(apply nx;with_reducible constructor)|refine uq (by decide) ?_|((first|refine vx env fun Q hQ=>?_|refine vz fun Q hQ=>?_);simp only [vkt,seval,ze,jW,qf,qc,zI,qI,qo,qA,eTr,qD,qH,gTr,qO,qG,rTr,qM,mTr,mTk,qd,qa,qb,qx,qg,kM,yE,jg,jh,zN,zx,Qc,wB,zM,List.length_map,d1,m0,n0,z0,m1,m2,m3,n1,n2,q1,hCH,hLI,ec,b1,b2,b4,hBS,Int.le_refl,Nat.zero_le];(try simp only [ite_and]);(repeat' (first|with_reducible assumption|refine And.intro ?_ ?_|intro hp));all_goals (first|(refine hQ _ ?_;clear hQ Q)|(refine hQ _ (fun h=>?_) (fun h=>?_) <;> clear hQ Q <;> (try simp only [vki,reduceCtorEq] at h))|(refine vq ?_;kernel_rfl)|omega|assumption|with_reducible rfl|skip)))
 refine qN (fun i:{ i:Nat // i≤CH.length∧∀ j,j < i→(LI.findSome? fun bb=>trR c.cabins c.secs a c.sold (Z8 (jf c (CH.getD j [])) bb))=none }=>yE c a Q m CH LI i.1 [] [] 3) (fun i=>CH.length - i.1) ⟨0,Nat.zero_le _,fun j h=>absurd h (Nat.not_lt_zero _)⟩ ?_ fun ⟨i,hi,hin⟩=>?_
 ·simp only [yE,List.nil_append]
  (refine Le.ok some [] ?_;constructor;all_goals (try simp only [vle,vkt,seval,ze,jW,qf,qc,zI,qI,qo,qA,eTr,qD,qH,gTr,qO,qG,rTr,qM,mTr,mTk,qd,qa,qb,qx,qg,kM,yE,jg,jh,zN,zx,Qc,wB,zM,List.length_map]))
  all_goals first|rfl|(simp;done)
 simp only at hi hin ⊢
 by_cases hil:i < CH.length
 case neg =>
  have d2:decide ((i:Int) < (CH.length:Int))=false:=decide_eq_false (by omega)
  obtain rfl:i=CH.length:=by omega
  simp only [yE,List.nil_append]
  repeat' (first|(apply nx;with_reducible constructor)|refine uq (by decide) ?_|((first|refine vx env fun Q hQ=>?_|refine vz fun Q hQ=>?_);simp only [vkt,seval,ze,jW,qf,qc,zI,qI,qo,qA,eTr,qD,qH,gTr,qO,qG,rTr,qM,mTr,mTk,qd,qa,qb,qx,qg,kM,yE,jg,jh,zN,zx,Qc,wB,zM,List.length_map,d2,e1,CHm];(try simp only [ite_and]);(repeat' (first|with_reducible assumption|refine And.intro ?_ ?_|intro hp));all_goals (first|(refine hQ _ ?_;clear hQ Q)|(refine hQ _ (fun h=>?_) (fun h=>?_) <;> clear hQ Q <;> (try simp only [vki,reduceCtorEq] at h))|(refine vq ?_;kernel_rfl)|omega|assumption|with_reducible rfl|skip)))
  refine ⟨⟨m+1,hm3,fun j hj=>?_⟩,by show 3 - (m+1) < 3 - m;omega, ?_⟩
  ·rcases Nat.lt_or_eq_of_le (Nat.le_of_lt_succ hj) with h|h
   ·exact hmn j h
   ·rw [h,hrm]
    exact VS hin
  ·simp only [kM]
   (refine Le.ok (fun i=>if i=2 then none else some i) [] ?_;constructor;all_goals (try simp only [vle,vkt,seval,ze,jW,qf,qc,zI,qI,qo,qA,eTr,qD,qH,gTr,qO,qG,rTr,qM,mTr,mTk,qd,qa,qb,qx,qg,kM,yE,jg,jh,zN,zx,Qc,wB,zM,List.length_map]))
   all_goals first|rfl|(simp;done)|(intro i hi;rw [if_neg (by omega)];done)
 have d2:decide ((i:Int) < (CH.length:Int))=true:=decide_eq_true (by omega)
 have e2:IntKind.wrap .i64 ((i:Int)+1)=((i+1:Nat):Int):=by rw [wrap64 (by omega) (by omega)];rfl
 have i0:((i:Int)).toNat=i:=rfl
 have hgr:=Qjb hil
 have hrl:=hch1 _ (yB (d:=[]) hil)
 have hrb:=hch2 _ (yB (d:=[]) hil)
 have hcase:∀ k l,(∀ j,j < k→trR c.cabins c.secs a c.sold (Z8 (jf c (CH.getD i [])) (LI.getD j []))=none)→k < LI.length→trR c.cabins c.secs a c.sold (Z8 (jf c (CH.getD i [])) (LI.getD k []))=some l→wV c a=(l,0):=fun k l h1 h2 h3=>by
  refine hat hm3 hmn ?_
  rw [hrm]
  exact UH (d:=[]) hil hin (UH (d:=[]) h2 h1 h3)
 obtain ⟨r,hr⟩:∃ r,CH.getD i []=r:=⟨_,rfl⟩
 rw [hr] at hgr hrl hrb hcase
 have hrm2:r.length≤maxLen:=by omega
 simp only [yE,List.nil_append]
 repeat' (first|(apply nx;with_reducible constructor)|refine uq (by decide) ?_|((first|refine vx env fun Q hQ=>?_|refine vz fun Q hQ=>?_);simp only [vkt,seval,ze,jW,qf,qc,zI,qI,qo,qA,eTr,qD,qH,gTr,qO,qG,rTr,qM,mTr,mTk,qd,qa,qb,qx,qg,kM,yE,jg,jh,zN,zx,Qc,wB,zM,List.length_map,d2,CHm];(try simp only [ite_and]);(repeat' (first|with_reducible assumption|refine And.intro ?_ ?_|intro hp));all_goals (first|(refine hQ _ ?_;clear hQ Q)|(refine hQ _ (fun h=>?_) (fun h=>?_) <;> clear hQ Q <;> (try simp only [vki,reduceCtorEq] at h))|(refine vq ?_;kernel_rfl)|omega|assumption|with_reducible rfl|skip)))
 refine qN (fun k:{ k:Nat // k≤LI.length∧∀ j,j < k→trR c.cabins c.secs a c.sold (Z8 (jf c r) (LI.getD j []))=none }=>yE c a Q m CH LI i [(12,aI k.1)] [] 3) (fun k=>LI.length - k.1) ⟨0,Nat.zero_le _,fun j h=>absurd h (Nat.not_lt_zero _)⟩ ?_ fun ⟨k,hk,hkn⟩=>?_
 ·simp only [yE,List.cons_append,List.nil_append]
  (refine Le.ok some [] ?_;constructor;all_goals (try simp only [vle,vkt,seval,ze,jW,qf,qc,zI,qI,qo,qA,eTr,qD,qH,gTr,qO,qG,rTr,qM,mTr,mTk,qd,qa,qb,qx,qg,kM,yE,jg,jh,zN,zx,Qc,wB,zM,List.length_map]))
  all_goals first|rfl|(simp;done)
 simp only at hk hkn ⊢
 by_cases hkl:k < LI.length
 case neg =>
  have d3:decide ((k:Int) < (LI.length:Int))=false:=decide_eq_false (by omega)
  obtain rfl:k=LI.length:=by omega
  simp only [yE,List.cons_append,List.nil_append]
  repeat' (first|(apply nx;with_reducible constructor)|refine uq (by decide) ?_|((first|refine vx env fun Q hQ=>?_|refine vz fun Q hQ=>?_);simp only [vkt,seval,ze,jW,qf,qc,zI,qI,qo,qA,eTr,qD,qH,gTr,qO,qG,rTr,qM,mTr,mTk,qd,qa,qb,qx,qg,kM,yE,jg,jh,zN,zx,Qc,wB,zM,List.length_map,d3,e2];(try simp only [ite_and]);(repeat' (first|with_reducible assumption|refine And.intro ?_ ?_|intro hp));all_goals (first|(refine hQ _ ?_;clear hQ Q)|(refine hQ _ (fun h=>?_) (fun h=>?_) <;> clear hQ Q <;> (try simp only [vki,reduceCtorEq] at h))|(refine vq ?_;kernel_rfl)|omega|assumption|with_reducible rfl|skip)))
  refine ⟨⟨i+1,hil,fun j hj=>?_⟩,by show CH.length - (i+1) < CH.length - i;omega, ?_⟩
  ·rcases Nat.lt_or_eq_of_le (Nat.le_of_lt_succ hj) with h|h
   ·exact hin j h
   ·rw [h,hr]
    exact VS hkn
  ·simp only [yE,List.nil_append]
   (refine Le.ok some [] ?_;constructor;all_goals (try simp only [vle,vkt,seval,ze,jW,qf,qc,zI,qI,qo,qA,eTr,qD,qH,gTr,qO,qG,rTr,qM,mTr,mTk,qd,qa,qb,qx,qg,kM,yE,jg,jh,zN,zx,Qc,wB,zM,List.length_map]))
   all_goals first|rfl|(simp;done)
 have d3:decide ((k:Int) < (LI.length:Int))=true:=decide_eq_true (by omega)
 have e3:IntKind.wrap .i64 ((k:Int)+1)=((k+1:Nat):Int):=by rw [wrap64 (by omega) (by omega)];rfl
 have k0:((k:Int)).toNat=k:=rfl
 have hgb:=V7 hkl
 have hbl:=hli1 _ (yB (d:=[]) hkl)
 have hcase:=hcase k
 have hnext:trR c.cabins c.secs a c.sold (Z8 (jf c r) (LI.getD k []))=none→∀ S,Le S (yE c a Q m CH LI i [(12,aI ((k+1:Nat):Int))] [] 3)→∃ y:{ k:Nat // k≤LI.length∧∀ j,j < k→trR c.cabins c.secs a c.sold (Z8 (jf c r) (LI.getD j []))=none },LI.length - y.1 < LI.length - k∧Le S (yE c a Q m CH LI i [(12,aI y.1)] [] 3):=fun h S hle=>⟨⟨k+1,hkl,fun j hj=>by
   rcases Nat.lt_or_eq_of_le (Nat.le_of_lt_succ hj) with h2|h2
   ·exact hkn j h2
   ·rw [h2];exact h⟩,by show LI.length - (k+1) < LI.length - k;omega,hle⟩
 obtain ⟨bb,hbb⟩:∃ b,LI.getD k []=b:=⟨_,rfl⟩
 rw [hbb] at hgb hbl hcase hnext
 have hbm:bb.length≤maxLen:=by omega
 have hZl:=QiW (c:=c) (r:=r) (bb:=bb) (by omega)
 have hZg:=fun {q:Nat} (h:q < m)=>hzg (r:=r) (bb:=bb) (q:=q) (by omega) (by omega)
 have hZt:∀ t ∈ Z8 (jf c r) bb,0≤t.ticket∧t.ticket.toNat < c.sold.length:=fun t ht=>by
  obtain ⟨q,hq,rfl⟩:=List.getElem_of_mem ht
  have hqm:q < m:=by omega
  have:=hZg hqm
  rw [List.getD_eq_getElem?_getD,List.getElem?_eq_getElem hq] at this
  have this:(Z8 (jf c r) bb)[q]=_:=this
  rw [this]
  refine hbd _ (yB (hrb _ (yB (by omega))).2)
 obtain ⟨Z,hZ⟩:∃ Z,Z8 (jf c r) bb=Z:=⟨_,rfl⟩
 rw [hZ] at hZl hZt hcase hnext
 simp only [hZ] at hZg
 simp only [yE,List.cons_append,List.nil_append]
 repeat' (first|(apply nx;with_reducible constructor)|refine uq (by decide) ?_|((first|refine vx env fun Q hQ=>?_|refine vz fun Q hQ=>?_);simp only [vkt,seval,ze,jW,qf,qc,zI,qI,qo,qA,eTr,qD,qH,gTr,qO,qG,rTr,qM,mTr,mTk,qd,qa,qb,qx,qg,kM,yE,jg,jh,zN,zx,Qc,wB,zM,List.length_map,d3];(try simp only [ite_and]);(repeat' (first|with_reducible assumption|refine And.intro ?_ ?_|intro hp));all_goals (first|(refine hQ _ ?_;clear hQ Q)|(refine hQ _ (fun h=>?_) (fun h=>?_) <;> clear hQ Q <;> (try simp only [vki,reduceCtorEq] at h))|(refine vq ?_;kernel_rfl)|omega|assumption|with_reducible rfl|skip)))
 refine qN (fun q:{ q:Nat // q≤m }=>yE c a Q m CH LI i [(12,aI k),(13,.row 3),(14,aI q.1)] [(3,.row 83 3 ((Z.take q.1).map eTr))] 4) (fun q=>m - q.1) ⟨0,Nat.zero_le _⟩ ?_ fun ⟨q,hq⟩=>?_
 ·simp only [yE,List.take_zero,List.map_nil,List.cons_append,List.nil_append]
  (refine Le.ok (fun i=>if i=3 then none else some i) [] ?_;constructor;all_goals (try simp only [vle,vkt,seval,ze,jW,qf,qc,zI,qI,qo,qA,eTr,qD,qH,gTr,qO,qG,rTr,qM,mTr,mTk,qd,qa,qb,qx,qg,kM,yE,jg,jh,zN,zx,Qc,wB,zM,List.length_map]))
  all_goals first|rfl|(simp;done)|(intro i hi;rw [if_neg (by omega)];done)
 simp only at hq ⊢
 by_cases hqm:q < m
 ·have d4:decide ((q:Int) < (m:Int))=true:=decide_eq_true (by omega)
  have e4:IntKind.wrap .i64 ((q:Int)+1)=((q+1:Nat):Int):=by rw [wrap64 (by omega) (by omega)];rfl
  have q0:((q:Int)).toNat=q:=rfl
  have hqr:q < r.length:=by omega
  have hqb:q < bb.length:=by omega
  have hS:=Qhp (d:=default) (show q < Z.length by omega)
  have hzq:=hZg hqm
  have hvb:=hrb _ (yB (d:=0) hqr)
  obtain ⟨v,hv⟩:∃ v,r.getD q 0=v:=⟨_,rfl⟩
  rw [hv] at hzq hvb
  obtain ⟨v0,v1⟩:=hvb
  have hgQ:=hInt v1
  obtain ⟨w,hw⟩:∃ w,Q.getD v.toNat 0=w:=⟨_,rfl⟩
  rw [hw] at hgQ hzq
  obtain ⟨b,hb⟩:∃ b,bb.getD q default=b:=⟨_,rfl⟩
  rw [hb] at hzq
  rw [hzq] at hS
  have hMl:(Z.take q).length+1≤maxLen:=by rw [List.length_take];omega
  have hMb:(Z.take q).length≤10:=by rw [List.length_take];omega
  obtain ⟨M,hM⟩:∃ M,Z.take q=M:=⟨_,rfl⟩
  rw [hM] at hS hMl hMb
  simp only [yE,hM,List.cons_append,List.nil_append]
  repeat' (first|(apply nx;with_reducible constructor)|refine uq (by decide) ?_|((first|refine vx env fun Q hQ=>?_|refine vz fun Q hQ=>?_);simp only [vkt,seval,ze,jW,qf,qc,zI,qI,qo,qA,eTr,qD,qH,gTr,qO,qG,rTr,qM,mTr,mTk,qd,qa,qb,qx,qg,kM,yE,jg,jh,zN,zx,Qc,wB,zM,List.length_map,d4,e4,i0,k0,q0,hil,hkl,hqr,hqb,hgr,hr,hgb,hbb,hv,v0,v1,hgQ,hw,hb,hMl,hrm2,hbm,CHm,LIm,q1];(try simp only [ite_and]);(repeat' (first|with_reducible assumption|refine And.intro ?_ ?_|intro hp));all_goals (first|(refine hQ _ ?_;clear hQ Q)|(refine hQ _ (fun h=>?_) (fun h=>?_) <;> clear hQ Q <;> (try simp only [vki,reduceCtorEq] at h))|(refine vq ?_;kernel_rfl)|omega|assumption|with_reducible rfl|skip)))
  refine ⟨⟨q+1,hqm⟩,by show m - (q+1) < m - q;omega, ?_⟩
  simp only [yE,hS,List.cons_append,List.nil_append]
  (refine Le.ok (fun i=>if i=3 then some 5 else some i) [] ?_;constructor;all_goals (try simp only [vle,vkt,seval,ze,jW,qf,qc,zI,qI,qo,qA,eTr,qD,qH,gTr,qO,qG,rTr,qM,mTr,mTk,qd,qa,qb,qx,qg,kM,yE,jg,jh,zN,zx,Qc,wB,zM,List.length_map]))
  all_goals first|rfl|(rw [List.map_append];rfl)|(simp;done)|(intro i hi;rw [if_neg (by omega)];done)
 ·have d4:decide ((q:Int) < (m:Int))=false:=decide_eq_false (by omega)
  obtain rfl:q=m:=by omega
  rw [List.take_of_length_le (by omega)]
  have hZ2:Z.length≤1000:=by omega
  have hZ3:Z.length≤maxLen:=by omega
  have hpar:=Rw (QbC he) hZt
  have hsl:=UA Z c.sold
  obtain ⟨⟨s,g⟩,hsg⟩:∃ p,sfP c.sold Z=p:=⟨_,rfl⟩
  have htv:=Qh6 (a:=a) hV hsg
  rw [hsg] at hpar hsl
  simp only at hpar hsl
  obtain ⟨v,hvv⟩:∃ v,(g && decide (zW ⟨c.cabins,c.secs,s⟩ s=0))=v:=⟨_,rfl⟩
  rw [hvv] at htv
  refine (kY (?_:Le _ (yE c a Q q CH LI i [(12,aI k),(13,qI Z),(14,aI q)] [] 3)) ?_:Sym _ _ _ _ _)
  ·simp only [yE,List.cons_append,List.nil_append]
   (refine Le.ok (fun i=>if i < 3 then some i else none) [3] ?_;constructor;all_goals (try simp only [vle,vkt,seval,ze,jW,qf,qc,zI,qI,qo,qA,eTr,qD,qH,gTr,qO,qG,rTr,qM,mTr,mTk,qd,qa,qb,qx,qg,kM,yE,jg,jh,zN,zx,Qc,wB,zM,List.length_map]))
   all_goals first|rfl|(simp;done)
  simp only [yE,List.cons_append,List.nil_append]
  cases v with
  |false =>
   have hn:=hnext (by rw [htv,if_neg (by simp)])
   repeat' (first|(apply nx;with_reducible constructor)|refine uq (by decide) ?_|((first|refine vx env fun Q hQ=>?_|refine vz fun Q hQ=>?_);simp only [vkt,seval,ze,jW,qf,qc,zI,qI,qo,qA,eTr,qD,qH,gTr,qO,qG,rTr,qM,mTr,mTk,qd,qa,qb,qx,qg,kM,yE,jg,jh,zN,zx,Qc,wB,zM,List.length_map,d4,e3,ec,hCar,hs2,hZ2,hZt,hsg,hvv];(try simp only [ite_and]);(repeat' (first|with_reducible assumption|refine And.intro ?_ ?_|intro hp));all_goals (first|(refine hQ _ ?_;clear hQ Q)|(refine hQ _ (fun h=>?_) (fun h=>?_) <;> clear hQ Q <;> (try simp only [vki,reduceCtorEq] at h))|(refine vq ?_;kernel_rfl)|omega|assumption|with_reducible rfl|skip)))
   refine hn _ ?_
   simp only [yE,List.cons_append,List.nil_append]
   (refine Le.ok (fun i=>if i < 3 then some i else none) [] ?_;constructor;all_goals (try simp only [vle,vkt,seval,ze,jW,qf,qc,zI,qI,qo,qA,eTr,qD,qH,gTr,qO,qG,rTr,qM,mTr,mTk,qd,qa,qb,qx,qg,kM,yE,jg,jh,zN,zx,Qc,wB,zM,List.length_map]))
   all_goals first|rfl|(simp;done)
  |true =>
   have hck:zu ⟨c.cabins,c.secs,s⟩=0:=by
    rw [Bool.and_eq_true,decide_eq_true_eq] at hvv
    exact Xc (c:=⟨c.cabins,c.secs,s⟩) (hCar.to' s) (by show s.length≤8;omega) hvv.2
   have hbo:=QhK he hck hpar
   have hPD:xP ⟨c.cabins,c.secs,s⟩ a=(plP ⟨c.cabins,c.secs,s⟩ a).map (·.1):=by unfold xP;rw [if_pos hbo]
   have hPP:=U1 hbo hx2
   have hDc:CarOk ⟨c.cabins,c.secs,s⟩:=hCar.to' s
   have hDs:(⟨c.cabins,c.secs,s⟩:Chart).sold.length≤20:=by show s.length≤20;omega
   obtain ⟨D,hD⟩:∃ D,(⟨c.cabins,c.secs,s⟩:Chart)=D:=⟨_,rfl⟩
   have eD:(⟨D.cabins,D.secs,D.sold⟩:Chart)=D:=rfl
   rw [hD] at htv hbo hPD hvv hPP hDc hDs
   obtain ⟨N,hN⟩:∃ N,xP D a=N:=⟨_,rfl⟩
   rw [hN] at hPD hPP
   have hPP:=hPP.symm
   have hDcb:D.cabins=c.cabins:=by rw [← hD]
   rw [hDcb] at hPP
   have hs20:s.length≤20:=by omega
   have hN1:N=[] ↔ plP D a=[]:=by rw [hPD,List.map_eq_nil_iff]
   have hNl:N.length≤maxLen:=by
    have:=UJ (Zx hbo)
    rw [hPD,List.length_map];omega
   by_cases hN0:N=[]
   ·have d5:decide ((0:Int) < (N.length:Int))=false:=by rw [hN0];rfl
    have hn:=hnext (by rw [htv,if_neg (fun h=>h.2 (hN1.1 hN0))])
    repeat' (first|(apply nx;with_reducible constructor)|refine uq (by decide) ?_|((first|refine vx env fun Q hQ=>?_|refine vz fun Q hQ=>?_);simp only [vkt,seval,ze,jW,qf,qc,zI,qI,qo,qA,eTr,qD,qH,gTr,qO,qG,rTr,qM,mTr,mTk,qd,qa,qb,qx,qg,kM,yE,jg,jh,zN,zx,Qc,wB,zM,List.length_map,d4,e3,ec,ea,hCar,hs2,hZ2,hZt,hsg,hvv,hD,eD,hDc,hDs,hs20,a1,a2,hPP,hNl,d5];(try simp only [ite_and]);(repeat' (first|with_reducible assumption|refine And.intro ?_ ?_|intro hp));all_goals (first|(refine hQ _ ?_;clear hQ Q)|(refine hQ _ (fun h=>?_) (fun h=>?_) <;> clear hQ Q <;> (try simp only [vki,reduceCtorEq] at h))|(refine vq ?_;kernel_rfl)|omega|assumption|with_reducible rfl|skip)))
    refine hn _ ?_
    simp only [yE,List.cons_append,List.nil_append]
    (refine Le.ok (fun i=>if i < 3 then some i else none) [] ?_;constructor;all_goals (try simp only [vle,vkt,seval,ze,jW,qf,qc,zI,qI,qo,qA,eTr,qD,qH,gTr,qO,qG,rTr,qM,mTr,mTk,qd,qa,qb,qx,qg,kM,yE,jg,jh,zN,zx,Qc,wB,zM,List.length_map]))
    all_goals first|rfl|(simp;done)
   ·have d5:decide ((0:Int) < (N.length:Int))=true:=decide_eq_true (by have:=List.length_pos_iff.2 hN0;omega)
    rw [hcase Z hkn hkl (by rw [htv,if_pos ⟨rfl,fun h=>hN0 (hN1.2 h)⟩])]
    repeat' (first|(apply nx;with_reducible constructor)|refine uq (by decide) ?_|((first|refine vx env fun Q hQ=>?_|refine vz fun Q hQ=>?_);simp only [vkt,seval,ze,jW,qf,qc,zI,qI,qo,qA,eTr,qD,qH,gTr,qO,qG,rTr,qM,mTr,mTk,qd,qa,qb,qx,qg,kM,yE,jg,jh,zN,zx,Qc,wB,zM,List.length_map,d4,ec,ea,hCar,hs2,hZ2,hZ3,hZt,hsg,hvv,hD,eD,hDc,hDs,hs20,a1,a2,hPP,hNl,d5];(try simp only [ite_and]);(repeat' (first|with_reducible assumption|refine And.intro ?_ ?_|intro hp));all_goals (first|(refine hQ _ ?_;clear hQ Q)|(refine hQ _ (fun h=>?_) (fun h=>?_) <;> clear hQ Q <;> (try simp only [vki,reduceCtorEq] at h))|(refine vq ?_;kernel_rfl)|omega|assumption|with_reducible rfl|skip)))
    (simp only [vrt,Tryz.results24,vkt,seval,ze,jW,qf,qc,zI,qI,qo,qA,eTr,qD,qH,gTr,qO,qG,rTr,qM,mTr,mTk,qd,qa,qb,qx,qg,kM,yE,jg,jh,zN,zx,Qc,wB,zM,List.length_map];refine Fin.val rfl ?_;(try simp only [AV.le,AV.leL]))
    all_goals first|rfl|(simp;done)|exact ⟨⟨_,_,rfl⟩,trivial,trivial⟩
def yJ:List AV→Prop × AV
 |[.agg [.sl c0,.v (.int .i64 c1),.sl c2],.agg [.v (.int .i64 a0),.v (.int .i64 a1),.v (.int .i64 a2),.sl a3,.v (.bool a4)]]=>(c0=(c0.map qw).map qh∧c2=(c2.map dTk).map eTk∧a3=(a3.map zb).map zF∧((⟨(c0.map qw),c1,(c2.map dTk)⟩:Chart)).cabins.length≤maxLen∧((⟨(c0.map qw),c1,(c2.map dTk)⟩:Chart)).sold.length≤20∧((⟨a0,a1,a2,(a3.map zb),a4⟩:Ask)).sexes.length≤maxLen,.tup [qI (wV ((⟨(c0.map qw),c1,(c2.map dTk)⟩:Chart)) ((⟨a0,a1,a2,(a3.map zb),a4⟩:Ask))).1,aI (wV ((⟨(c0.map qw),c1,(c2.map dTk)⟩:Chart)) ((⟨a0,a1,a2,(a3.map zb),a4⟩:Ask))).2])
 |_=>(False,.junk)
theorem Qh0 {A:Frm→Prop}:qE A Tryz.prog 24 (qX false yJ):=qW fun vs hv h=>by
 clear hv
 unfold yJ at h ⊢
 split at h
 ·rename_i c0 c1 c2 a0 a1 a2 a3 a4;obtain ⟨q0,q1,q2,k0,k1,k2⟩:=h
  refine ⟨by first|trivial|(simp [AV.plain,AV.plainL,aI,aB,qz,qc,ql,qf,aTk,cTk];done)|(repeat' split) <;> simp [AV.plain,AV.plainL,aI,aB,qz,qc,ql,qf,aTk,cTk],fun h=>absurd h (by decide), ?_⟩
  have:=QeA ((⟨(c0.map qw),c1,(c2.map dTk)⟩:Chart)) ((⟨a0,a1,a2,(a3.map zb),a4⟩:Ask)) k0 k1 k2
  simp only [qx,aB,qY,qa,aI,qz,ql,qg,qb,← q0,← q1,← q2] at this
  first|exact this|(simp only [qx,aB,qY,qa,aI,qz,ql,qg,qb,← q0,← q1,← q2];exact this)
 ·exact h.elim
end Go.Sym.B
namespace Go.Sym.B
open Go Go.Sym Go.Proofs Go.RowKit
def spI:Sp:=.int .i64
def spB:Sp:=.bool
theorem Qjr (r:List DV) (h:r.length=1) (hs:∀ (j:Nat) (s:Sp) (d:DV),[spI][j]?=some s→r[j]?=some d→D1 s d):∃ a,r=zF a:=by
 obtain ⟨d,rfl⟩:=List.length_eq_one_iff.1 h
 obtain ⟨n,rfl,_⟩:=(hs 0 spI d rfl rfl).int_inv
 exact ⟨n,rfl⟩
theorem Qkw (r:List DV) (h:r.length=2) (hs:∀ (j:Nat) (s:Sp) (d:DV),[spI,spB][j]?=some s→r[j]?=some d→D1 s d):∃ a,r=qh a:=by
 match r,h with
 |[a,b],_ =>
  obtain ⟨n,rfl,_⟩:=(hs 0 spI a rfl rfl).int_inv
  obtain ⟨m,rfl⟩:=(hs 1 spB b rfl rfl).bool_inv
  exact ⟨⟨n,m⟩,rfl⟩
theorem eT_of (r:List DV) (h:r.length=7) (hs:∀ (j:Nat) (s:Sp) (d:DV),[spI,spI,spI,spI,spI,spI,spB][j]?=some s→r[j]?=some d→D1 s d):∃ a,r=eTk a:=by
 match r,h with
 |[a,b,c,d,e,f,g],_ =>
  obtain ⟨n1,rfl,_⟩:=(hs 0 spI a rfl rfl).int_inv
  obtain ⟨n2,rfl,_⟩:=(hs 1 spI b rfl rfl).int_inv
  obtain ⟨n3,rfl,_⟩:=(hs 2 spI c rfl rfl).int_inv
  obtain ⟨n4,rfl,_⟩:=(hs 3 spI d rfl rfl).int_inv
  obtain ⟨n5,rfl,_⟩:=(hs 4 spI e rfl rfl).int_inv
  obtain ⟨n6,rfl,_⟩:=(hs 5 spI f rfl rfl).int_inv
  obtain ⟨n7,rfl⟩:=(hs 6 spB g rfl rfl).bool_inv
  exact ⟨⟨n1,n2,n3,n4,n5,n6,n7⟩,rfl⟩
def spC:List Sp:=[.sl [spI,spB],spI,.sl [spI,spI,spI,spI,spI,spI,spB]]
def spA:List Sp:=[spI,spI,spI,.sl [spI],spB]
theorem flN:Fl Tryz.prog 26 [.sl [spI]]:=ZX (n:=6) (by kernel_rfl)
theorem flC:Fl Tryz.prog 25 spC:=ZX (n:=6) (by kernel_rfl)
theorem flA:Fl Tryz.prog 28 spA:=ZX (n:=6) (by kernel_rfl)
variable {H : Type} {enc : TypeId × Value → H} {W : World} {base : Nat} {spare : Nat → Bool} {held : Bool}
theorem QfR {fuel:Nat} {v:Value} {x:DataW H × List MemPlace} (h:DataW.trod enc Tryz.prog W base spare held fuel 26 [v]=some x):∃ l:List Int,ARel W (okW W) Uh undef (qz l) v∧l.length≤maxLen:=by
 obtain ⟨ds,hd⟩:=YM flN h
 obtain ⟨d,rfl,h1,h2⟩:=hd.one_inv
 obtain ⟨l,rfl,hl⟩:=h1.sl_inv zF Qjr
 exact ⟨l,QaZ h2,hl⟩
theorem Qe0 {fuel:Nat} {cs:Array Value} {x:DataW H × List MemPlace} (h:DataW.trod enc Tryz.prog W base spare held fuel 25 cs.toList=some x):∃ l:Chart,ARel W (okW W) Uh undef (qa l) (.agg cs):=by
 obtain ⟨ds,hd⟩:=YM flC h
 match ds,hd with
 |[a,b,c],hd =>
  obtain ⟨l1,rfl,_⟩:=(hd.shape 0 _ a rfl rfl).sl_inv qh Qkw
  obtain ⟨n,rfl,_⟩:=(hd.shape 1 _ b rfl rfl).int_inv
  obtain ⟨l3,rfl,_⟩:=(hd.shape 2 _ c rfl rfl).sl_inv eTk eT_of
  exact ⟨⟨l1,n,l3⟩,hd.agg⟩
 |[],hd=>exact absurd hd.len (by simp [spC])
 |[_],hd=>exact absurd hd.len (by simp [spC])
 |[_,_],hd=>exact absurd hd.len (by simp [spC])
 |_ :: _ :: _ :: _ :: _,hd=>exact absurd hd.len (by simp [spC])
theorem Qii {fuel:Nat} {cs:Array Value} {x:DataW H × List MemPlace} (h:DataW.trod enc Tryz.prog W base spare held fuel 28 cs.toList=some x):∃ l:Ask,ARel W (okW W) Uh undef (qx l) (.agg cs)∧l.sexes.length≤maxLen:=by
 obtain ⟨ds,hd⟩:=YM flA h
 match ds,hd with
 |[a,b,c,d,e],hd =>
  obtain ⟨n1,rfl,_⟩:=(hd.shape 0 _ a rfl rfl).int_inv
  obtain ⟨n2,rfl,_⟩:=(hd.shape 1 _ b rfl rfl).int_inv
  obtain ⟨n3,rfl,_⟩:=(hd.shape 2 _ c rfl rfl).int_inv
  obtain ⟨l3,rfl,hl⟩:=(hd.shape 3 _ d rfl rfl).sl_inv zF Qjr
  obtain ⟨n5,rfl⟩:=(hd.shape 4 _ e rfl rfl).bool_inv
  exact ⟨⟨n1,n2,n3,l3,n5⟩,hd.agg,hl⟩
 |[],hd=>exact absurd hd.len (by simp [spA])
 |[_],hd=>exact absurd hd.len (by simp [spA])
 |[_,_],hd=>exact absurd hd.len (by simp [spA])
 |[_,_,_],hd=>exact absurd hd.len (by simp [spA])
 |[_,_,_,_],hd=>exact absurd hd.len (by simp [spA])
 |_ :: _ :: _ :: _ :: _ :: _ :: _,hd=>exact absurd hd.len (by simp [spA])
theorem KQ {v:Value} (h:v.cells.toList.length ≠ 1):∃ cs,v=.agg cs:=by
 cases v <;> first|exact ⟨_,rfl⟩|(simp [Value.cells] at h)
theorem chart_of {v:Value} {d:DataW H} {p:List MemPlace} (h:DataW.Trod enc Tryz.prog W base spare held 25 v d p):∃ l:Chart,ARel W (okW W) Uh undef (qa l) v:=by
 obtain ⟨fuel,hf⟩:=h
 obtain ⟨ds,hd⟩:=YM flC hf
 obtain ⟨cs,rfl⟩:=KQ (v:=v) (by rw [hd.clen];simp [spC])
 exact Qe0 hf
theorem ask_of {v:Value} {d:DataW H} {p:List MemPlace} (h:DataW.Trod enc Tryz.prog W base spare held 28 v d p):∃ l:Ask,ARel W (okW W) Uh undef (qx l) v∧l.sexes.length≤maxLen:=by
 obtain ⟨fuel,hf⟩:=h
 obtain ⟨ds,hd⟩:=YM flA hf
 obtain ⟨cs,rfl⟩:=KQ (v:=v) (by rw [hd.clen];simp [spA])
 exact Qii hf
set_option maxRecDepth 100000 in
theorem ints_of {v:Value} {d:DataW H} {p:List MemPlace} {r:Reach} {b0:Nat} (h:DataW.Trod enc Tryz.prog W base spare held 26 v d p) (hu:Tryz.prog.underlying 26=some (.slice 3)) (hv:Value.okWide Tryz.prog W r b0 26 v):∃ l:List Int,ARel W (okW W) Uh undef (qz l) v∧l.length≤maxLen:=by
 obtain ⟨fuel,hf⟩:=h
 obtain ⟨a,n,c,rfl⟩:=WideShapes.okWide_slice hu hv
 exact QfR hf
end Go.Sym.B
namespace Go.Sym.B
open Go Go.Sym Go.Proofs Go.Sym.C
theorem QiM {a b c a' b' c':Int}:decide ((⟨a,b,c⟩:Tr)=⟨a',b',c'⟩)=(decide (a=a') && (decide (b=b') && decide (c=c'))):=by
 rw [Bool.eq_iff_iff];simp
def VP (l m:List Tr) (k:Nat):St:={ t:=asg [(0,qI l),(1,qI m),(4,aB false),(5,aI k)],h:=qj [],n:=0 }
def vP:=vj @ty3 (vj @UZ (vj @Uc (vj @ti3.eq_1 (vj @VL.eq_1 @VQ.eq_1))))
def Qq:=vj @aI.eq_1 (@aB.eq_1)
theorem QjX (l m:List Tr) (hl:l.length≤maxLen) (hm:m.length≤maxLen):FnV Tryz.prog 25 [qI l,qI m] (aB (decide (l=m))):=by
 have env:Env (fun _=>True) Tryz.prog tyB (tab []):=qL trivial
 refine Fn.of (A:=fun _=>True) (n0:=0) (D:=noD) (Fn0 Tryz.func25 rfl (fun vs w=>by kernel_rfl) (by kernel_rfl)) (by simp) (by simp [AV.ids,qI]) (fun i o h=>by cases h) (fun _ _ _ _=>trivial) qF ?_
 have hmx:maxLen=9223372036854775807:=by decide
 by_cases h0:l.length=m.length
 ·have d0:decide ((l.length:Int)=(m.length:Int))=true:=decide_eq_true (by omega)
  repeat' (first|(apply nx;with_reducible constructor)|refine uq (by decide) ?_|((first|refine vx env fun Q hQ=>?_|refine vz fun Q hQ=>?_);simp only [vkt,seval,vP,Qq,qI,eTr,gTr,VP,Bool.true_and,Bool.false_and,d0];(try simp only [ite_and]);(repeat' (first|with_reducible assumption|refine And.intro ?_ ?_|intro hp));all_goals (first|(refine hQ _ ?_;clear hQ Q)|(refine hQ _ (fun h=>?_) (fun h=>?_) <;> clear hQ Q <;> (try simp only [vki,reduceCtorEq] at h))|(refine vq ?_;kernel_rfl)|omega|assumption|with_reducible rfl|skip)))
  refine qN (fun k:{ k:Nat // k≤l.length∧∀ j,j < k→l.getD j default=m.getD j default }=>VP l m k.1) (fun k=>l.length - k.1) ⟨0,Nat.zero_le _,fun j h=>absurd h (Nat.not_lt_zero _)⟩ ?_ fun ⟨k,hk,hno⟩=>?_
  ·(refine Le.ok some [] ?_;constructor;all_goals (try simp only [vle,vkt,seval,vP,Qq,qI,eTr,gTr,VP,Bool.true_and,Bool.false_and]))
   all_goals first|rfl|(simp;done)
  simp only at hk hno ⊢
  simp only [VP]
  by_cases hlt:k < l.length
  ·have d1:decide ((k:Int) < (l.length:Int))=true:=decide_eq_true (by omega)
   have hlm:k < m.length:=by omega
   have k0:((k:Int)).toNat=k:=rfl
   have e9:IntKind.wrap .i64 ((k:Int)+1)=((k+1:Nat):Int):=by rw [wrap64 (by omega) (by omega)];rfl
   obtain ⟨x,hx⟩:∃ x,l.getD k default=x:=⟨_,rfl⟩
   obtain ⟨y,hy⟩:∃ x,m.getD k default=x:=⟨_,rfl⟩
   have hxy:(decide (x.ticket=y.ticket) && (decide (x.cab=y.cab) && (decide (x.bed=y.bed))))=decide (x=y):=by cases x;cases y;rw [QiM]
   have hne:¬ x=y→decide (l=m)=false:=fun h=>decide_eq_false fun e=>h (by rw [← hx,← hy,e])
   cases q:decide (x=y) with
   |false =>
    rw [hne (of_decide_eq_false q)]
    repeat' (first|(apply nx;with_reducible constructor)|refine uq (by decide) ?_|((first|refine vx env fun Q hQ=>?_|refine vz fun Q hQ=>?_);simp only [vkt,seval,vP,Qq,qI,eTr,gTr,VP,Bool.true_and,Bool.false_and,d1,k0,hlt,hlm,hx,hy,hxy,q];(try simp only [ite_and]);(repeat' (first|with_reducible assumption|refine And.intro ?_ ?_|intro hp));all_goals (first|(refine hQ _ ?_;clear hQ Q)|(refine hQ _ (fun h=>?_) (fun h=>?_) <;> clear hQ Q <;> (try simp only [vki,reduceCtorEq] at h))|(refine vq ?_;kernel_rfl)|omega|assumption|with_reducible rfl|skip)))
    (simp only [vrt,Tryz.results25,vkt,seval,vP,Qq,qI,eTr,gTr,VP,Bool.true_and,Bool.false_and];refine Fin.val rfl ?_;(try simp only [AV.le,AV.leL]))
    all_goals first|rfl|(simp;done)
   |true =>
    repeat' (first|(apply nx;with_reducible constructor)|refine uq (by decide) ?_|((first|refine vx env fun Q hQ=>?_|refine vz fun Q hQ=>?_);simp only [vkt,seval,vP,Qq,qI,eTr,gTr,VP,Bool.true_and,Bool.false_and,d1,k0,hlt,hlm,hx,hy,hxy,q,e9];(try simp only [ite_and]);(repeat' (first|with_reducible assumption|refine And.intro ?_ ?_|intro hp));all_goals (first|(refine hQ _ ?_;clear hQ Q)|(refine hQ _ (fun h=>?_) (fun h=>?_) <;> clear hQ Q <;> (try simp only [vki,reduceCtorEq] at h))|(refine vq ?_;kernel_rfl)|omega|assumption|with_reducible rfl|skip)))
    refine ⟨⟨k+1,hlt,fun j hj=>?_⟩,by show l.length - (k+1) < l.length - k;omega, ?_⟩
    ·rcases Nat.lt_or_eq_of_le (Nat.le_of_lt_succ hj) with h1|h1
     ·exact hno j h1
     ·rw [h1,hx,hy];exact of_decide_eq_true q
    ·(refine Le.ok some [] ?_;constructor;all_goals (try simp only [vle,vkt,seval,vP,Qq,qI,eTr,gTr,VP,Bool.true_and,Bool.false_and]))
     all_goals first|rfl|(simp;done)
  ·have d1:decide ((k:Int) < (l.length:Int))=false:=decide_eq_false (by omega)
   obtain rfl:k=l.length:=by omega
   rw [decide_eq_true (Z9 h0 hno)]
   repeat' (first|(apply nx;with_reducible constructor)|refine uq (by decide) ?_|((first|refine vx env fun Q hQ=>?_|refine vz fun Q hQ=>?_);simp only [vkt,seval,vP,Qq,qI,eTr,gTr,VP,Bool.true_and,Bool.false_and,d1];(try simp only [ite_and]);(repeat' (first|with_reducible assumption|refine And.intro ?_ ?_|intro hp));all_goals (first|(refine hQ _ ?_;clear hQ Q)|(refine hQ _ (fun h=>?_) (fun h=>?_) <;> clear hQ Q <;> (try simp only [vki,reduceCtorEq] at h))|(refine vq ?_;kernel_rfl)|omega|assumption|with_reducible rfl|skip)))
   (simp only [vrt,Tryz.results25,vkt,seval,vP,Qq,qI,eTr,gTr,VP,Bool.true_and,Bool.false_and];refine Fin.val rfl ?_;(try simp only [AV.le,AV.leL]))
   all_goals first|rfl|(simp;done)
 ·have d0:decide ((l.length:Int)=(m.length:Int))=false:=decide_eq_false (by omega)
  rw [decide_eq_false (fun e=>h0 (by rw [e]))]
  repeat' (first|(apply nx;with_reducible constructor)|refine uq (by decide) ?_|((first|refine vx env fun Q hQ=>?_|refine vz fun Q hQ=>?_);simp only [vkt,seval,vP,Qq,qI,eTr,gTr,VP,Bool.true_and,Bool.false_and,d0];(try simp only [ite_and]);(repeat' (first|with_reducible assumption|refine And.intro ?_ ?_|intro hp));all_goals (first|(refine hQ _ ?_;clear hQ Q)|(refine hQ _ (fun h=>?_) (fun h=>?_) <;> clear hQ Q <;> (try simp only [vki,reduceCtorEq] at h))|(refine vq ?_;kernel_rfl)|omega|assumption|with_reducible rfl|skip)))
  (simp only [vrt,Tryz.results25,vkt,seval,vP,Qq,qI,eTr,gTr,VP,Bool.true_and,Bool.false_and];refine Fin.val rfl ?_;(try simp only [AV.le,AV.leL]))
  all_goals first|rfl|(simp;done)
def Jb:List AV→Prop × AV
 |[.sl l,.sl m]=>(l=(l.map dTr).map eTr∧m=(m.map dTr).map eTr∧(l.map dTr).length≤maxLen∧(m.map dTr).length≤maxLen,aB (decide ((l.map dTr)=(m.map dTr))))
 |_=>(False,.junk)
theorem eeqR {A:Frm→Prop}:qE A Tryz.prog 25 (qX true Jb):=qW fun vs hv h=>by
 clear hv
 unfold Jb at h ⊢
 split at h
 ·rename_i l m;obtain ⟨q0,q1,k0,k1⟩:=h
  refine ⟨by first|trivial|(simp [AV.plain,AV.plainL,aI,aB,qz,qc,ql,qf,aTk,cTk];done)|(repeat' split) <;> simp [AV.plain,AV.plainL,aI,aB,qz,qc,ql,qf,aTk,cTk],fun _=>(by simp [AV.flat,AV.flatL,aI,aB]), ?_⟩
  have:=QjX (l.map dTr) (m.map dTr) k0 k1
  simp only [qI,← q0,← q1] at this
  first|exact this|(simp only [qI,← q0,← q1];exact this)
 ·exact h.elim
theorem QgS (c:Chart) (a:Ask):(wV c a).1.length≤2:=by
 by_cases h:zw c a=0
 ·rcases Qac h with ⟨_,h2⟩|⟨_,⟨t,h2,_⟩|⟨_,⟨l,h3,h4⟩|h3⟩⟩
  ·rw [h2];decide
  ·rw [h2];simp
  ·rw [h3]
   have:=(Rk h4).1
   show l.length≤2
   omega
  ·rw [h3];decide
 ·unfold wV
  rw [if_pos h]
  simp
def WR (CL:List Chart) (AL:List Ask) (i:Nat):St:={ t:=asg [(9,.row 9),(10,.row 10),(11,aI i)],h:=qj [(9,.row 25 3 (CL.map vB)),(10,.row 28 5 (AL.map Wj))],n:=11 }
def jP:=vj @ty3 (vj @yc (vj @Qe (vj @QM (vj @ty34 (vj @ty37 (vj @Zc (vj @ti3.eq_1 (vj @jM.eq_1 (vj @x8.eq_1 (vj @Qb.eq_1 (vj @ti34.eq_1 (vj @ti37.eq_1 @QA.eq_1))))))))))))
def vW:=vj @aI.eq_1 (vj @aB.eq_1 (vj @qz.eq_1 (vj @zF.eq_1 (@QT))))
set_option maxRecDepth 100000 in
set_option maxHeartbeats 40000000 in
theorem transfersLaw_fn (c:Chart) (a:Ask) (nums:List Int) (hnums:nums.length≤maxLen):FnV Tryz.prog 4 [qa c,qx a,qz nums] (aB true):=by
 have env:Env (fun _=>True) Tryz.prog tyB (tab [(8,qX true xe),(10,fnE Jp),(11,fnE jH),(12,fnE jI),(14,qX false xm),(15,qX false xg),(23,qX false wG),(24,qX false yJ),(25,qX true Jb),(21,qX true WZ),(22,qX true Ju),(9,qX true jL)]):=qL ⟨QjY,eBag,QfI,Qgx,Qkn,Qkz,Qds,Qh0,eeqR,eeqC,eeqA,QgX,trivial⟩
 refine Fn.of (A:=fun _=>True) (n0:=0) (D:=noD) (Fn0 Tryz.func4 rfl (fun vs w=>by kernel_rfl) (by kernel_rfl)) (by simp) (by simp [AV.ids,AV.idsL,qz,qa,qb,qx,qg]) (fun i o h=>by cases h) (fun _ _ _ _=>trivial) qF ?_
 cases q0:decide (20 < (c.cabins.length:Int)) with
 |true =>
  repeat' (first|(apply nx;with_reducible constructor)|refine uq (by decide) ?_|((first|refine vx env fun Q hQ=>?_|refine vz fun Q hQ=>?_);simp only [vkt,seval,jP,vW,qI,eTr,mTr,qh,eTk,vB,Wj,kW,YF,rTk,zf,mTk,qd,qa,qb,qx,qg,WR,xe,Jp,jH,jI,xm,xg,wG,yJ,Jb,WZ,Ju,jL,List.length_map,q0,Bool.true_or];(try simp only [ite_and]);(repeat' (first|with_reducible assumption|refine And.intro ?_ ?_|intro hp));all_goals (first|(refine hQ _ ?_;clear hQ Q)|(refine hQ _ (fun h=>?_) (fun h=>?_) <;> clear hQ Q <;> (try simp only [vki,reduceCtorEq] at h))|(refine vq ?_;kernel_rfl)|omega|assumption|with_reducible rfl|skip)))
  (simp only [vrt,Tryz.results4,vkt,seval,jP,vW,qI,eTr,mTr,qh,eTk,vB,Wj,kW,YF,rTk,zf,mTk,qd,qa,qb,qx,qg,WR,xe,Jp,jH,jI,xm,xg,wG,yJ,Jb,WZ,Ju,jL,List.length_map];refine Fin.val rfl ?_;(try simp only [AV.le,AV.leL]))
  all_goals first|rfl|(simp;done)
 |false =>
 cases q1:decide (20 < (c.sold.length:Int)) with
 |true =>
  repeat' (first|(apply nx;with_reducible constructor)|refine uq (by decide) ?_|((first|refine vx env fun Q hQ=>?_|refine vz fun Q hQ=>?_);simp only [vkt,seval,jP,vW,qI,eTr,mTr,qh,eTk,vB,Wj,kW,YF,rTk,zf,mTk,qd,qa,qb,qx,qg,WR,xe,Jp,jH,jI,xm,xg,wG,yJ,Jb,WZ,Ju,jL,List.length_map,q0,q1,Bool.false_or];(try simp only [ite_and]);(repeat' (first|with_reducible assumption|refine And.intro ?_ ?_|intro hp));all_goals (first|(refine hQ _ ?_;clear hQ Q)|(refine hQ _ (fun h=>?_) (fun h=>?_) <;> clear hQ Q <;> (try simp only [vki,reduceCtorEq] at h))|(refine vq ?_;kernel_rfl)|omega|assumption|with_reducible rfl|skip)))
  (simp only [vrt,Tryz.results4,vkt,seval,jP,vW,qI,eTr,mTr,qh,eTk,vB,Wj,kW,YF,rTk,zf,mTk,qd,qa,qb,qx,qg,WR,xe,Jp,jH,jI,xm,xg,wG,yJ,Jb,WZ,Ju,jL,List.length_map];refine Fin.val rfl ?_;(try simp only [AV.le,AV.leL]))
  all_goals first|rfl|(simp;done)
 |false =>
 cases q2:decide (20 < (a.sexes.length:Int)) with
 |true =>
  repeat' (first|(apply nx;with_reducible constructor)|refine uq (by decide) ?_|((first|refine vx env fun Q hQ=>?_|refine vz fun Q hQ=>?_);simp only [vkt,seval,jP,vW,qI,eTr,mTr,qh,eTk,vB,Wj,kW,YF,rTk,zf,mTk,qd,qa,qb,qx,qg,WR,xe,Jp,jH,jI,xm,xg,wG,yJ,Jb,WZ,Ju,jL,List.length_map,q0,q1,q2,Bool.false_or];(try simp only [ite_and]);(repeat' (first|with_reducible assumption|refine And.intro ?_ ?_|intro hp));all_goals (first|(refine hQ _ ?_;clear hQ Q)|(refine hQ _ (fun h=>?_) (fun h=>?_) <;> clear hQ Q <;> (try simp only [vki,reduceCtorEq] at h))|(refine vq ?_;kernel_rfl)|omega|assumption|with_reducible rfl|skip)))
  (simp only [vrt,Tryz.results4,vkt,seval,jP,vW,qI,eTr,mTr,qh,eTk,vB,Wj,kW,YF,rTk,zf,mTk,qd,qa,qb,qx,qg,WR,xe,Jp,jH,jI,xm,xg,wG,yJ,Jb,WZ,Ju,jL,List.length_map];refine Fin.val rfl ?_;(try simp only [AV.le,AV.leL]))
  all_goals first|rfl|(simp;done)
 |false =>
 cases q3:decide ((a.sexes.length:Int)=3) with
 |true =>
  repeat' (first|(apply nx;with_reducible constructor)|refine uq (by decide) ?_|((first|refine vx env fun Q hQ=>?_|refine vz fun Q hQ=>?_);simp only [vkt,seval,jP,vW,qI,eTr,mTr,qh,eTk,vB,Wj,kW,YF,rTk,zf,mTk,qd,qa,qb,qx,qg,WR,xe,Jp,jH,jI,xm,xg,wG,yJ,Jb,WZ,Ju,jL,List.length_map,q0,q1,q2,q3,Bool.false_or];(try simp only [ite_and]);(repeat' (first|with_reducible assumption|refine And.intro ?_ ?_|intro hp));all_goals (first|(refine hQ _ ?_;clear hQ Q)|(refine hQ _ (fun h=>?_) (fun h=>?_) <;> clear hQ Q <;> (try simp only [vki,reduceCtorEq] at h))|(refine vq ?_;kernel_rfl)|omega|assumption|with_reducible rfl|skip)))
  (simp only [vrt,Tryz.results4,vkt,seval,jP,vW,qI,eTr,mTr,qh,eTk,vB,Wj,kW,YF,rTk,zf,mTk,qd,qa,qb,qx,qg,WR,xe,Jp,jH,jI,xm,xg,wG,yJ,Jb,WZ,Ju,jL,List.length_map];refine Fin.val rfl ?_;(try simp only [AV.le,AV.leL]))
  all_goals first|rfl|(simp;done)
 |false =>
 have g0:=of_decide_eq_false q0
 have g1:=of_decide_eq_false q1
 have g2:=of_decide_eq_false q2
 obtain ⟨x0,hx0⟩:∃ x,nbS nums=x:=⟨_,rfl⟩
 obtain ⟨hC0,hCp,hCs,hCc,hCg⟩:=co_ok (x:=x0) (a:=2) (g:=4) (s:=6) (by decide) (by decide) (by decide)
 obtain ⟨C,hC⟩:∃ C,coC x0 2 4 6=C:=⟨_,rfl⟩
 obtain ⟨x1,hx1⟩:∃ x,coX x0 2 4 6=x:=⟨_,rfl⟩
 rw [hC] at hC0 hCp hCs hCc hCg
 obtain ⟨hA0,hA1,hA2⟩:=ao_ok (x:=x1) (n:=2) hC0 hCp (by decide)
 obtain ⟨A,hA⟩:∃ A,aoA x1 C.secs 2=A:=⟨_,rfl⟩
 rw [hA] at hA0 hA1 hA2
 have hsec:=(QK hC0).car.secs
 have hmx:(100000:Nat)≤maxLen:=by decide
 have c1:C.cabins.length≤maxLen:=by omega
 have c2:C.sold.length≤maxLen:=by omega
 have c3:c.cabins.length≤maxLen:=by omega
 have c4:c.sold.length≤maxLen:=by omega
 have c5:a.sexes.length≤maxLen:=by omega
 have eC:(⟨C.cabins,C.secs,C.sold⟩:Chart)=C:=rfl
 obtain ⟨CL,hCL⟩:∃ CL,[c,C,C]=CL:=⟨_,rfl⟩
 obtain ⟨AL,hAL⟩:∃ AL,[a,A,a]=AL:=⟨_,rfl⟩
 have hCl:CL.length=3:=by rw [← hCL];rfl
 have hAl:AL.length=3:=by rw [← hAL];rfl
 have hCb:∀ x ∈ CL,x.cabins.length≤20∧x.sold.length≤20:=by
  rw [← hCL]
  intro x hx
  simp only [List.mem_cons,List.not_mem_nil,or_false] at hx
  rcases hx with rfl|rfl|rfl <;> omega
 have hAb:∀ x ∈ AL,x.sexes.length≤20:=by
  rw [← hAL]
  intro x hx
  simp only [List.mem_cons,List.not_mem_nil,or_false] at hx
  rcases hx with rfl|rfl|rfl <;> omega
 repeat' (first|(apply nx;with_reducible constructor)|refine uq (by decide) ?_|((first|refine vx env fun Q hQ=>?_|refine vz fun Q hQ=>?_);simp only [vkt,seval,jP,vW,qI,eTr,mTr,qh,eTk,vB,Wj,kW,YF,rTk,zf,mTk,qd,qa,qb,qx,qg,WR,xe,Jp,jH,jI,xm,xg,wG,yJ,Jb,WZ,Ju,jL,List.length_map,q0,q1,q2,q3,hx0,hC,hx1,hA,hsec,eC,c1,c2,c3,c4,c5,Bool.false_or];(try simp only [ite_and]);(repeat' (first|with_reducible assumption|refine And.intro ?_ ?_|intro hp));all_goals (first|(refine hQ _ ?_;clear hQ Q)|(refine hQ _ (fun h=>?_) (fun h=>?_) <;> clear hQ Q <;> (try simp only [vki,reduceCtorEq] at h))|(refine vq ?_;kernel_rfl)|omega|assumption|with_reducible rfl|skip)))
 refine qN (fun i:{ i:Nat // i≤CL.length }=>WR CL AL i.1) (fun i=>CL.length - i.1) ⟨0,Nat.zero_le _⟩ ?_ fun ⟨i,hi⟩=>?_
 ·simp only [WR,← hCL,← hAL]
  (refine Le.ok (fun i=>if i=9 then some 4 else if i=10 then some 5 else none) [] ?_;constructor;all_goals (try simp only [vle,vkt,seval,jP,vW,qI,eTr,mTr,qh,eTk,vB,Wj,kW,YF,rTk,zf,mTk,qd,qa,qb,qx,qg,WR,xe,Jp,jH,jI,xm,xg,wG,yJ,Jb,WZ,Ju,jL,List.length_map]))
  all_goals first|rfl|(simp;done)
 simp only at hi ⊢
 simp only [WR]
 by_cases hil:i < CL.length
 ·have d1:decide ((i:Int) < (CL.length:Int))=true:=decide_eq_true (by omega)
  have e9:IntKind.wrap .i64 ((i:Int)+1)=((i+1:Nat):Int):=by rw [wrap64 (by omega) (by omega)];rfl
  have i0:((i:Int)).toNat=i:=rfl
  have hia:i < AL.length:=by omega
  have hg:=Qkl hil
  have hga:=hAsk hia
  obtain ⟨b1,b2⟩:=hCb _ (yB (d:=default) hil)
  have b3:=hAb _ (yB (d:=default) hia)
  obtain ⟨x,hx⟩:∃ x,CL.getD i default=x:=⟨_,rfl⟩
  obtain ⟨y,hy⟩:∃ y,AL.getD i default=y:=⟨_,rfl⟩
  rw [hx] at hg b1 b2
  rw [hy] at hga b3
  have ex:(⟨x.cabins,x.secs,x.sold⟩:Chart)=x:=rfl
  have ey:(⟨y.party,y.frm,y.to,y.sexes,y.dog⟩:Ask)=y:=rfl
  have b4:x.cabins.length≤maxLen:=by omega
  have b5:x.sold.length≤maxLen:=by omega
  have b6:y.sexes.length≤maxLen:=by omega
  have b7:x.cabins.length≤100000:=by omega
  have b8:x.sold.length≤100000:=by omega
  have b9:y.sexes.length≤100000:=by omega
  have p1:=QgS x y
  obtain ⟨⟨L,E⟩,hL⟩:∃ l,wV x y=l:=⟨_,rfl⟩
  rw [hL] at p1
  simp only at p1
  have p2:L.length≤maxLen:=by omega
  repeat' (first|(apply nx;with_reducible constructor)|refine uq (by decide) ?_|((first|refine vx env fun Q hQ=>?_|refine vz fun Q hQ=>?_);simp only [vkt,seval,jP,vW,qI,eTr,mTr,qh,eTk,vB,Wj,kW,YF,rTk,zf,mTk,qd,qa,qb,qx,qg,WR,xe,Jp,jH,jI,xm,xg,wG,yJ,Jb,WZ,Ju,jL,List.length_map,d1,e9,i0,hil,hia,hg,hga,hx,hy,ex,ey,b1,b2,b3,b4,b5,b6,b7,b8,b9,hL,p2,decide_true,Bool.not_true,Bool.not_false];(try simp only [ite_and]);(repeat' (first|with_reducible assumption|refine And.intro ?_ ?_|intro hp));all_goals (first|(refine hQ _ ?_;clear hQ Q)|(refine hQ _ (fun h=>?_) (fun h=>?_) <;> clear hQ Q <;> (try simp only [vki,reduceCtorEq] at h))|(refine vq ?_;kernel_rfl)|omega|assumption|with_reducible rfl|skip)))
  refine ⟨⟨i+1,hil⟩,by show CL.length - (i+1) < CL.length - i;omega, ?_⟩
  simp only [WR]
  (refine Le.ok some [] ?_;constructor;all_goals (try simp only [vle,vkt,seval,jP,vW,qI,eTr,mTr,qh,eTk,vB,Wj,kW,YF,rTk,zf,mTk,qd,qa,qb,qx,qg,WR,xe,Jp,jH,jI,xm,xg,wG,yJ,Jb,WZ,Ju,jL,List.length_map]))
  all_goals first|rfl|(simp;done)
 ·have d1:decide ((i:Int) < (CL.length:Int))=false:=decide_eq_false (by omega)
  repeat' (first|(apply nx;with_reducible constructor)|refine uq (by decide) ?_|((first|refine vx env fun Q hQ=>?_|refine vz fun Q hQ=>?_);simp only [vkt,seval,jP,vW,qI,eTr,mTr,qh,eTk,vB,Wj,kW,YF,rTk,zf,mTk,qd,qa,qb,qx,qg,WR,xe,Jp,jH,jI,xm,xg,wG,yJ,Jb,WZ,Ju,jL,List.length_map,d1];(try simp only [ite_and]);(repeat' (first|with_reducible assumption|refine And.intro ?_ ?_|intro hp));all_goals (first|(refine hQ _ ?_;clear hQ Q)|(refine hQ _ (fun h=>?_) (fun h=>?_) <;> clear hQ Q <;> (try simp only [vki,reduceCtorEq] at h))|(refine vq ?_;kernel_rfl)|omega|assumption|with_reducible rfl|skip)))
  (simp only [vrt,Tryz.results4,vkt,seval,jP,vW,qI,eTr,mTr,qh,eTk,vB,Wj,kW,YF,rTk,zf,mTk,qd,qa,qb,qx,qg,WR,xe,Jp,jH,jI,xm,xg,wG,yJ,Jb,WZ,Ju,jL,List.length_map];refine Fin.val rfl ?_;(try simp only [AV.le,AV.leL]))
  all_goals first|rfl|(simp;done)
end Go.Sym.B
