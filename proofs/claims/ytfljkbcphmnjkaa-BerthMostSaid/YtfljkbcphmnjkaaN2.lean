/- Walks and what they compute, joined: part 2. -/
import Derived.Test.YtfljkbcphmnjkaaNB3
import Derived.Test.YtfljkbcphmnjkaaN1
set_option linter.all false
namespace Go.Sym.B
open Go Go.Sym Go.Proofs Go.Sym.C
set_option maxHeartbeats 4000000 in
theorem Qec (x:Int) (c:Chart) (hg:1≤c.secs∧c.secs≤5):Fn noB Try.prog 49 [.ptr 0 0,qa c,aI 4,aI 3] (qg (zy x)) (.row 1) (qg [(0,.cells [.v (.int .u64 (akR c.secs (upV x 4).toNat (upS x 4) 3).2)]),(1,.row 31 5 ((akR c.secs (upV x 4).toNat (upS x 4) 3).1.map qO))]) 0:=by
  have env:Env (fun _=>True) Try.prog tyB (tab [(40,fnE pUp),(17,fnE yG)]):=qM ⟨eUp,Qg6,trivial⟩
  refine Fn.of (A:=fun _=>True) (n0:=1) (D:=noD) (Fn0 Try.func49 rfl (fun vs w=>by kernel_rfl) (by kernel_rfl)) (by simp) (by simp [AV.ids,AV.idsL,aI,qa,qb]) ?_ (fun _ _ _ _=>trivial) qH ?_
  · intro i o hi
    have h:=qL hi
    simp [zy] at h
    rcases h with ⟨rfl,rfl⟩;simp [AObj.ids,AV.ids,AV.idsL]
  have m44:min (4:Int) 4=4:=rfl
  have hmx:(100000:Nat)≤maxLen:=by decide
  have eC:(⟨c.cabins,c.secs,c.sold⟩:Chart)=c:=rfl
  have hu:=up2 x (m:=4) (by omega) (by omega)
  obtain ⟨u,hu1⟩:∃ u:Nat,upV x 4=u:=⟨(upV x 4).toNat,by omega⟩
  obtain ⟨x1,hx1⟩:∃ y,upS x 4=y:=⟨_,rfl⟩
  have hu4:u≤4:=by omega
  have u0:((u:Int)).toNat=u:=rfl
  rw [hu1,hx1,u0]
  obtain ⟨S,hS⟩:∃ S,c.secs=S:=⟨_,rfl⟩
  have hgS:=hg
  rw [hS] at hgS ⊢
  obtain ⟨⟨LL,xx⟩,hR⟩:∃ r,akR S u x1 3=r:=⟨_,rfl⟩
  rw [hR]
  repeat' (first|(apply nx;with_reducible constructor)|refine uq (by decide) ?_|((first|refine vx env fun Q hQ=>?_|refine vz fun Q hQ=>?_);simp only [vkt,seval,jo,Qo,qO,wZ,mTk,qd,zy,qa,qb,qw,qj,YI,pUp,yG,List.length_map,List.map_append,List.map_cons,List.map_nil,m44,hu1,hx1];(try simp only [ite_and]);(repeat' (first|with_reducible assumption|refine And.intro ?_ ?_|intro hp));all_goals (first|(refine hQ _ ?_;clear hQ Q)|(refine hQ _ (fun h=>?_) (fun h=>?_) <;> clear hQ Q <;> (try simp only [vki,reduceCtorEq] at h))|(refine vq ?_;kernel_rfl)|omega|assumption|with_reducible rfl|skip)))
  refine qU (fun q:{ q:Nat × Int × Int × List Ask // q.1≤u∧q.2.2.1≤3∧-10≤q.2.2.1∧q.2.2.2.length+q.1≤4∧akR S u x1 3=(q.2.2.2++(akR S q.1 q.2.1 q.2.2.1).1,(akR S q.1 q.2.1 q.2.2.1).2) }=>YI c q.1.2.1 q.1.2.2.1 q.1.1 q.1.2.2.2) (fun q=>q.1.1) ⟨(u,x1,3,[]),Nat.le_refl _,by show (3:Int)≤3;omega,by show (-10:Int)≤3;omega,by simp only [List.length_nil];omega,rfl⟩ ?_ fun ⟨(i,y,p,M),hi,hp3,hp10,hMl,hin⟩=>?_
  · simp only [YI]
    (refine Le.ok (fun i=>if i=2 then none else some i) [] ?_;constructor;all_goals (try simp only [vle,vkt,seval,jo,Qo,qO,wZ,mTk,qd,zy,qa,qb,qw,qj,YI,pUp,yG,List.length_map,List.map_append,List.map_cons,List.map_nil]))
    all_goals first|rfl|(simp;done)|(intro i hi;rw [if_neg (by omega)];done)
  simp only at hi hp3 hp10 hMl hin ⊢
  rw [hR] at hin
  simp only [YI]
  cases i with
  |zero =>
    have d1:decide ((0:Int) < ((0:Nat):Int))=false:=rfl
    simp only [akR,List.append_nil,Prod.mk.injEq] at hin
    obtain ⟨rfl,rfl⟩:=hin
    repeat' (first|(apply nx;with_reducible constructor)|refine uq (by decide) ?_|((first|refine vx env fun Q hQ=>?_|refine vz fun Q hQ=>?_);simp only [vkt,seval,jo,Qo,qO,wZ,mTk,qd,zy,qa,qb,qw,qj,YI,pUp,yG,List.length_map,List.map_append,List.map_cons,List.map_nil,d1];(try simp only [ite_and]);(repeat' (first|with_reducible assumption|refine And.intro ?_ ?_|intro hp));all_goals (first|(refine hQ _ ?_;clear hQ Q)|(refine hQ _ (fun h=>?_) (fun h=>?_) <;> clear hQ Q <;> (try simp only [vki,reduceCtorEq] at h))|(refine vq ?_;kernel_rfl)|omega|assumption|with_reducible rfl|skip)))
    (simp only [vrt,Try.results49,vkt,seval,jo,Qo,qO,wZ,mTk,qd,zy,qa,qb,qw,qj,YI,pUp,yG,List.length_map,List.map_append,List.map_cons,List.map_nil];refine Fin.ok (fun j=>[0,2][j]?) [] ?_ ?_ ?_ ?_ ?_ rfl;all_goals (try simp only [vle,vkt,seval,jo,Qo,qO,wZ,mTk,qd,zy,qa,qb,qw,qj,YI,pUp,yG,List.length_map,List.map_append,List.map_cons,List.map_nil]))
    all_goals first|rfl|(simp;done)|exact fun i hi=>(match i,hi with|0,_=>rfl)
  |succ i =>
    have d1:decide ((0:Int) < ((i+1:Nat):Int))=true:=decide_eq_true (by omega)
    by_cases hp:0 < p
    · have d2:decide (0 < p)=true:=decide_eq_true hp
      have hN1:1≤min 2 p∧min 2 p≤3:=by omega
      have hsx:=QjC (x:=y) (secs:=S) hN1
      rw [akR,if_pos hp] at hin
      obtain ⟨N,hN⟩:∃ N,min 2 p=N:=⟨_,rfl⟩
      rw [hN] at hN1 hsx hin
      obtain ⟨A,hA⟩:∃ A,aoA y S N=A:=⟨_,rfl⟩
      obtain ⟨y',hy'⟩:∃ z,aoX y S N=z:=⟨_,rfl⟩
      rw [hA] at hsx hin
      rw [hy'] at hin
      have w1:IntKind.wrap .i64 (((i+1:Nat):Int) - 1)=(i:Int):=by rw [wrap64 (by omega) (by omega)];omega
      have w2:IntKind.wrap .i64 (50+((i+1:Nat):Int))=50+((i+1:Nat):Int):=wrap64 (by omega) (by omega)
      have w3:IntKind.wrap .i64 (p - (A.sexes.length:Int))=p - (A.sexes.length:Int):=wrap64 (by omega) (by omega)
      have hm:M.length+1≤maxLen:=by omega
      have hMb:M.length≤10:=by omega
      obtain ⟨p',hp'⟩:∃ q,p - (A.sexes.length:Int)=q:=⟨_,rfl⟩
      rw [hp'] at w3 hin
      repeat' (first|(apply nx;with_reducible constructor)|refine uq (by decide) ?_|((first|refine vx env fun Q hQ=>?_|refine vz fun Q hQ=>?_);simp only [vkt,seval,jo,Qo,qO,wZ,mTk,qd,zy,qa,qb,qw,qj,YI,pUp,yG,List.length_map,List.map_append,List.map_cons,List.map_nil,d1,d2,hN,hN1,hgS,hS,eC,hA,hy',w1,w2,hp',w3,hm];(try simp only [ite_and]);(repeat' (first|with_reducible assumption|refine And.intro ?_ ?_|intro hp));all_goals (first|(refine hQ _ ?_;clear hQ Q)|(refine hQ _ (fun h=>?_) (fun h=>?_) <;> clear hQ Q <;> (try simp only [vki,reduceCtorEq] at h))|(refine vq ?_;kernel_rfl)|omega|assumption|with_reducible rfl|skip)))
      refine ⟨⟨(i,y',p',M++[renA A (50+((i+1:Nat):Int))]),by show i≤u;omega,by show p'≤3;omega,by show -10≤p';omega,by show (M++[_]).length+i≤4;rw [List.length_append,List.length_singleton];omega,by rw [hR,hin];simp⟩,Nat.lt_succ_self i, ?_⟩
      simp only [YI]
      (refine Le.ok (fun i=>if i=2 then some 5 else some i) [] ?_;constructor;all_goals (try simp only [vle,vkt,seval,jo,Qo,qO,wZ,mTk,qd,zy,qa,qb,qw,qj,YI,pUp,yG,List.length_map,List.map_append,List.map_cons,List.map_nil]))
      all_goals first|rfl|(rw [List.map_append];rfl)|(rw [hS];exact ⟨rfl,rfl⟩)|(simp [renA];done)|(intro i hi;rw [if_neg (by omega)];done)
    · have d2:decide (0 < p)=false:=decide_eq_false hp
      rw [akR,if_neg hp] at hin
      simp only [List.append_nil,Prod.mk.injEq] at hin
      obtain ⟨rfl,rfl⟩:=hin
      repeat' (first|(apply nx;with_reducible constructor)|refine uq (by decide) ?_|((first|refine vx env fun Q hQ=>?_|refine vz fun Q hQ=>?_);simp only [vkt,seval,jo,Qo,qO,wZ,mTk,qd,zy,qa,qb,qw,qj,YI,pUp,yG,List.length_map,List.map_append,List.map_cons,List.map_nil,d1,d2];(try simp only [ite_and]);(repeat' (first|with_reducible assumption|refine And.intro ?_ ?_|intro hp));all_goals (first|(refine hQ _ ?_;clear hQ Q)|(refine hQ _ (fun h=>?_) (fun h=>?_) <;> clear hQ Q <;> (try simp only [vki,reduceCtorEq] at h))|(refine vq ?_;kernel_rfl)|omega|assumption|with_reducible rfl|skip)))
      (simp only [vrt,Try.results49,vkt,seval,jo,Qo,qO,wZ,mTk,qd,zy,qa,qb,qw,qj,YI,pUp,yG,List.length_map,List.map_append,List.map_cons,List.map_nil];refine Fin.ok (fun j=>[0,2][j]?) [] ?_ ?_ ?_ ?_ ?_ rfl;all_goals (try simp only [vle,vkt,seval,jo,Qo,qO,wZ,mTk,qd,zy,qa,qb,qw,qj,YI,pUp,yG,List.length_map,List.map_append,List.map_cons,List.map_nil]))
      all_goals first|rfl|(simp;done)|exact fun i hi=>(match i,hi with|0,_=>rfl)
noncomputable def jG (S:St):List AV→Option Pk
  |[.ptr i 0,.agg [.sl cs,.v (.int .i64 s),.sl ts],.v (.int .i64 n),.v (.int .i64 m)]=>match S.h i with
    |some (.cells [.v (.int .u64 x)])=>some { pre:=cs=(cs.map qB).map qo∧ts=(ts.map dTk).map eTk∧(1≤s∧s≤5)∧n=4∧m=3,hs:=[i],ar:=[.ptr 0 0,.agg [.sl cs,.v (.int .i64 s),.sl ts],aI 4,aI 3],L0:=[.cells [.v (.int .u64 x)]],v:=.row 1,L1:=[some (.cells [.v (.int .u64 (akR s (upV x 4).toNat (upS x 4) 3).2)]),some (.row 31 5 ((akR s (upV x 4).toNat (upS x 4) 3).1.map qO))] }
    |_=>none
  |_=>none
theorem QhY {A:Frm→Prop}:qC A Try.prog 49 (fnE jG):=zx fun S bs q h hp=>by
  unfold jG at h
  split at h
  · rename_i cs s ts n m
    split at h
    · cases h
      obtain ⟨h1,h2,h3,_,_⟩:=hp
      have:=Qec (by assumption) ⟨cs.map qB,s,ts.map dTk⟩ h3
      simp only [qa,qb,← h1,← h2] at this
      exact this
    · cases h
  · cases h
end Go.Sym.B
namespace Go.Sym.B
open Go Go.Sym Go.Proofs Go.Sym.C
theorem Qjc {C:Chart} (hc:wB C=0) (hp:∀ t ∈ C.sold,t.party≤24):∀ (i:Nat) (x p:Int),i≤4→(∀ a ∈ (akR C.secs i x p).1,xh C a=0∧a.party≤50+i∧50 < a.party)∧(akR C.secs i x p).1.Pairwise fun a b=>b.party ≠ a.party
  |0,x,p,_=>by simp [akR]
  |i+1,x,p,hi=>by
    rw [akR]
    split
    · rename_i h
      obtain ⟨h1,h2⟩:=Qjc hc hp i (aoX x C.secs (min 2 p)) (p - ((aoA x C.secs (min 2 p)).sexes.length:Int)) (by omega)
      have ho:=(ao_ok (x:=x) (c:=C) (n:=min 2 p) hc hp (by omega)).1
      have hb:wy C (askP (aoA x C.secs (min 2 p)) (50+((i+1:Nat):Int)))=0:=Qir ho rfl hc (by omega) fun t ht=>by have:=hp t ht;omega
      have hb2:=(yS hb).2
      simp only
      refine ⟨fun a ha=>?_,List.pairwise_cons.2 ⟨fun b hb=>?_,h2⟩⟩
      · rcases List.mem_cons.1 ha with rfl|ha
        · exact ⟨hb2,by show 50+((i+1:Nat):Int)≤_;omega,by show 50 < 50+((i+1:Nat):Int);omega⟩
        · obtain ⟨g1,g2,g3⟩:=h1 a ha
          exact ⟨g1,by omega,g3⟩
      · have:=(h1 b hb).2.1
        show b.party ≠ 50+((i+1:Nat):Int)
        omega
    · simp
theorem Qhk {L:List Ask} (h:L.Pairwise fun a b=>b.party ≠ a.party):JZ L=false:=by
  refine Qa0 fun i hi=>?_
  refine QaC (d:=default) fun j hj=>?_
  rw [List.length_take] at hj
  have hji:j < i:=by omega
  have hjl:j < L.length:=by omega
  have:=List.pairwise_iff_getElem.1 h j i hjl hi hji
  rw [decide_eq_false]
  have e1:(L.take i).getD j default=L[j]:=by simp [List.getD_eq_getElem?_getD,hji,hjl]
  have e2:L.getD i default=L[i]:=by simp [List.getD_eq_getElem?_getD,hi]
  rw [e1,e2]
  exact fun h=>this h.symm
theorem VX {f:Int→Bool} {n:Nat}:∀ {k:Nat} {l:List Int},QC f n k=some l→l.length≤k
  |0,l,h=>by cases h
  |k+1,l,h=>by
    rw [QC] at h
    cases hq:(Qt n (k+1) [] 0).findSome? (Vz f) with
    |some t =>
      rw [hq] at h
      cases h
      obtain ⟨r,hr,hp⟩:=List.exists_of_findSome?_eq_some hq
      unfold Vz at hp
      split at hp
      · cases hp
        rw [XE] at hr
        obtain ⟨v,hv,rfl⟩:=List.mem_map.1 hr
        rw [List.nil_append,VP _ _ v hv]
        exact Nat.le_refl _
      · cases hp
    |none =>
      rw [hq] at h
      have:=VX h
      omega
theorem QeD (c:Chart) (L:List Ask):(ku c L).1.length≤4:=by
  unfold ku
  split
  · simp
  · rename_i h
    have h4:=(QjF (Decidable.not_not.1 h)).2.1
    show ((QC _ L.length L.length).getD []).length≤4
    cases hq:QC (fun b=>tkB c.cabins c.secs L b c.sold) L.length L.length with
    |none=>simp
    |some l =>
      have:=VX hq
      show l.length≤4
      omega
def ky:List AV→Prop × AV
  |[.agg [.sl cc,.v (.int .i64 s),.sl ts],.sl xs]=>(cc=(cc.map qB).map qo∧xs=(xs.map Zo).map qO∧ts=(ts.map dTk).map eTk∧AlOk (cc.map qB) s (xs.map Zo).reverse (ts.map dTk),aB (vK (cc.map qB) s (xs.map Zo).reverse (ts.map dTk)))
  |_=>(False,.junk)
theorem eTakV {A:Frm→Prop}:qC A Try.prog 52 (zk true ky):=zn fun vs hv h=>by
  clear hv
  unfold ky at h ⊢
  split at h
  · rename_i cc s ts xs
    obtain ⟨h1,h2,h3,h5⟩:=h
    refine ⟨by simp [AV.plain,aB],fun _=>by simp [AV.flat,aB], ?_⟩
    have:=K4 _ _ _ _ h5
    simp only [List.reverse_reverse,qa,qb,← h1,← h2,← h3] at this
    exact this
  · exact h.elim
def Qa (C:Chart) (B:List Ask) (T:List (Nat × AV)):St:={ t:=asg (T++[(4,.ptr 1 0),(5,qZ B)]),h:=qg [(1,.cells (qb C))],n:=2 }
def jD:=vj @ty3 (vj @Qf (vj @vg (vj @kX (vj @JH (vj @UH (vj @ty88 (vj @ti3.eq_1 (vj @kC.eq_1 (vj @yI.eq_1 (vj @xB.eq_1 (vj @Wq.eq_1 (vj @VH.eq_1 @Qg5.eq_1))))))))))))
def vX:=vj @aI.eq_1 (vj @aB.eq_1 (vj @qA.eq_1 (vj @Z0.eq_1 (vj @zC.eq_1 (vj @ZG.eq_1 (vj @Qji (vj @kW (@Qjf))))))))
set_option maxRecDepth 100000 in
set_option maxHeartbeats 40000000 in
theorem mostLaw_fn (nums:List Int) (hnums:nums.length≤maxLen):FnV Try.prog 12 [qA nums] (aB true):=by
  have env:Env (fun _=>True) Try.prog tyB (tab [(15,fnE ZM),(16,fnE wR),(49,fnE jG),(50,zk false kw),(51,zk false wQ),(53,zk false yH),(52,zk true ky),(54,zk true ZN),(25,zk true wT)]):=qM ⟨eBag,QfR,QhY,eMost,QhB,Qke,eTakV,eeqI,Qfm,trivial⟩
  refine Fn.of (A:=fun _=>True) (n0:=0) (D:=noD) (Fn0 Try.func12 rfl (fun vs w=>by kernel_rfl) (by kernel_rfl)) (by simp) (by simp [AV.ids,AV.idsL,qA]) (fun i o h=>by cases h) (fun _ _ _ _=>trivial) qH ?_
  obtain ⟨x0,hx0⟩:∃ x,nbS nums=x:=⟨_,rfl⟩
  obtain ⟨hC0,hCp,hCs,hCc,hCg⟩:=co_ok (x:=x0) (a:=2) (g:=3) (s:=5) (by decide) (by decide) (by decide)
  obtain ⟨C,hC⟩:∃ C,coC x0 2 3 5=C:=⟨_,rfl⟩
  obtain ⟨x1,hx1⟩:∃ x,coX x0 2 3 5=x:=⟨_,rfl⟩
  rw [hC] at hC0 hCp hCs hCc hCg
  have hV:=Q7 hC0
  have hsec:=hV.car.secs
  have hcb:=hV.car.cabs
  have h8:=hV.many
  have hu4:=up2 x1 (m:=4) (by omega) (by omega)
  obtain ⟨hB1,hB2⟩:=QjE C.secs (upV x1 4).toNat (upS x1 4) 3
  obtain ⟨hB3,hB4⟩:=Qjc hC0 hCp (upV x1 4).toNat (upS x1 4) 3 (by omega)
  obtain ⟨⟨B,x2⟩,hB⟩:∃ r,akR C.secs (upV x1 4).toNat (upS x1 4) 3=r:=⟨_,rfl⟩
  rw [hB] at hB1 hB2 hB3 hB4
  simp only at hB1 hB2 hB3 hB4
  have h4:B.length≤4:=by omega
  have hmx:(100000:Nat)≤maxLen:=by decide
  have eC:(⟨C.cabins,C.secs,C.sold⟩:Chart)=C:=rfl
  have hgn:∀ a ∈ B,GnOk C a:=fun a ha=>gn_of (show wy C a=0 by unfold wy;rw [hC0,if_neg (by decide)];exact (hB3 a ha).1)
  have hpw:=Qdz hC0
  have hsv:YF C B=0:=by
    unfold YF
    have hw:zD B.length 0 4=0:=by unfold zD;rw [if_neg (by omega),if_neg (by omega)]
    have hf:yK (B.map (xh C))=0:=vS fun j hj=>by
      rw [List.length_map] at hj
      rw [mapD hj]
      exact (hB3 _ (vL hj)).1
    rw [hC0,hw,hf,Qhk hB4];rfl
  have hst:=fun {m:Nat} (hm:m≤B.length)=>Qea (c:=C) h4 hm
  have hMo:ku C B=((QC (fun b=>tkB C.cabins C.secs B b C.sold) B.length B.length).getD [],0):=by unfold ku;rw [hsv,if_neg (by decide)]
  obtain ⟨F,hF⟩:∃ F:Int→Bool,(fun b=>tkB C.cabins C.secs B b C.sold)=F:=⟨_,rfl⟩
  rw [hF] at hst hMo
  have hMl:=QeD C B
  obtain ⟨M,hM⟩:∃ M,(ku C B).1=M:=⟨_,rfl⟩
  have hM0:(ku C B).2=0:=by rw [hMo]
  have hMd:(QC F B.length B.length).getD []=M:=by rw [← hM,hMo]
  rw [hM] at hMl
  have c1:C.cabins.length≤maxLen:=by omega
  have c2:B.length≤100000:=by omega
  have c3:∀ a ∈ B,a.sexes.length≤maxLen:=fun a ha=>by have:=hB2 a ha;omega
  have c4:B.length≤1000:=by omega
  have c5:B.length≤maxLen:=by omega
  have c6:M.length≤maxLen:=by omega
  repeat' (first|(apply nx;with_reducible constructor)|refine uq (by decide) ?_)
  ((first|refine vx env fun Q hQ=>?_|refine vz fun Q hQ=>?_);simp only [vkt,seval,jD,vX,qZ,qO,jQ,mTk,qd,qa,qb,Qa,ZM,wR,jG,kw,wQ,yH,ky,ZN,wT,List.length_map];(try simp only [ite_and]);(repeat' (first|with_reducible assumption|refine And.intro ?_ ?_|intro hp));all_goals (first|(refine hQ _ ?_;clear hQ Q)|(refine hQ _ (fun h=>?_) (fun h=>?_) <;> clear hQ Q <;> (try simp only [vki,reduceCtorEq] at h))|(refine vq ?_;kernel_rfl)|omega|assumption|with_reducible rfl|skip))
  repeat' (first|(apply nx;with_reducible constructor)|refine uq (by decide) ?_)
  ((first|refine vx env fun Q hQ=>?_|refine vz fun Q hQ=>?_);simp only [vkt,seval,jD,vX,qZ,qO,jQ,mTk,qd,qa,qb,Qa,ZM,wR,jG,kw,wQ,yH,ky,ZN,wT,List.length_map,hx0];(try simp only [ite_and]);(repeat' (first|with_reducible assumption|refine And.intro ?_ ?_|intro hp));all_goals (first|(refine hQ _ ?_;clear hQ Q)|(refine hQ _ (fun h=>?_) (fun h=>?_) <;> clear hQ Q <;> (try simp only [vki,reduceCtorEq] at h))|(refine vq ?_;kernel_rfl)|omega|assumption|with_reducible rfl|skip))
  repeat' (first|(apply nx;with_reducible constructor)|refine uq (by decide) ?_)
  ((first|refine vx env fun Q hQ=>?_|refine vz fun Q hQ=>?_);simp only [vkt,seval,jD,vX,qZ,qO,jQ,mTk,qd,qa,qb,Qa,ZM,wR,jG,kw,wQ,yH,ky,ZN,wT,List.length_map,hC,hx1];(try simp only [ite_and]);(repeat' (first|with_reducible assumption|refine And.intro ?_ ?_|intro hp));all_goals (first|(refine hQ _ ?_;clear hQ Q)|(refine hQ _ (fun h=>?_) (fun h=>?_) <;> clear hQ Q <;> (try simp only [vki,reduceCtorEq] at h))|(refine vq ?_;kernel_rfl)|omega|assumption|with_reducible rfl|skip))
  repeat' (first|(apply nx;with_reducible constructor)|refine uq (by decide) ?_)
  ((first|refine vx env fun Q hQ=>?_|refine vz fun Q hQ=>?_);simp only [vkt,seval,jD,vX,qZ,qO,jQ,mTk,qd,qa,qb,Qa,ZM,wR,jG,kw,wQ,yH,ky,ZN,wT,List.length_map,eC,hsec,hB];(try simp only [ite_and]);(repeat' (first|with_reducible assumption|refine And.intro ?_ ?_|intro hp));all_goals (first|(refine hQ _ ?_;clear hQ Q)|(refine hQ _ (fun h=>?_) (fun h=>?_) <;> clear hQ Q <;> (try simp only [vki,reduceCtorEq] at h))|(refine vq ?_;kernel_rfl)|omega|assumption|with_reducible rfl|skip))
  repeat' (first|(apply nx;with_reducible constructor)|refine uq (by decide) ?_)
  refine (xO (?_:Le _ (Qa C B [])) ?_:Sym _ _ _ _ _)
  · simp only [Qa,List.nil_append]
    (refine Le.ok (fun i=>if i=1 then some 1 else none) [2] ?_;constructor;all_goals (try simp only [vle,vkt,seval,jD,vX,qZ,qO,jQ,mTk,qd,qa,qb,Qa,ZM,wR,jG,kw,wQ,yH,ky,ZN,wT,List.length_map]))
    all_goals first|rfl|(simp;done)
  simp only [Qa,List.nil_append]
  repeat' (first|(apply nx;with_reducible constructor)|refine uq (by decide) ?_|((first|refine vx env fun Q hQ=>?_|refine vz fun Q hQ=>?_);simp only [vkt,seval,jD,vX,qZ,qO,jQ,mTk,qd,qa,qb,Qa,ZM,wR,jG,kw,wQ,yH,ky,ZN,wT,List.length_map,eC,c1,c2,c3,c5,hM,hM0,decide_true,Bool.not_true];(try simp only [ite_and]);(repeat' (first|with_reducible assumption|refine And.intro ?_ ?_|intro hp));all_goals (first|(refine hQ _ ?_;clear hQ Q)|(refine hQ _ (fun h=>?_) (fun h=>?_) <;> clear hQ Q <;> (try simp only [vki,reduceCtorEq] at h))|(refine vq ?_;kernel_rfl)|omega|assumption|with_reducible rfl|skip)))
  refine qU (fun m:{ m:Nat // m≤B.length∧QC F B.length B.length=QC F B.length m }=>Qa C B [(6,qA M),(8,aI m.1)]) (fun m=>m.1) ⟨B.length,Nat.le_refl _,rfl⟩ ?_ fun ⟨m,hm,hmo⟩=>?_
  · simp only [Qa,List.cons_append,List.nil_append]
    (refine Le.ok some [] ?_;constructor;all_goals (try simp only [vle,vkt,seval,jD,vX,qZ,qO,jQ,mTk,qd,qa,qb,Qa,ZM,wR,jG,kw,wQ,yH,ky,ZN,wT,List.length_map]))
    all_goals first|rfl|(simp;done)
  simp only at hm hmo ⊢
  simp only [Qa,List.cons_append,List.nil_append]
  rw [hmo] at hMd
  cases m with
  |zero =>
    have hM1:M=[]:=hMd.symm
    have d1:decide ((0:Int) < ((0:Nat):Int))=false:=rfl
    subst hM1
    have d2:decide ((((List.nil:List Int).length:Nat):Int)=0)=true:=rfl
    repeat' (first|(apply nx;with_reducible constructor)|refine uq (by decide) ?_|((first|refine vx env fun Q hQ=>?_|refine vz fun Q hQ=>?_);simp only [vkt,seval,jD,vX,qZ,qO,jQ,mTk,qd,qa,qb,Qa,ZM,wR,jG,kw,wQ,yH,ky,ZN,wT,List.length_map,d1,d2,List.length_nil,decide_true];(try simp only [ite_and]);(repeat' (first|with_reducible assumption|refine And.intro ?_ ?_|intro hp));all_goals (first|(refine hQ _ ?_;clear hQ Q)|(refine hQ _ (fun h=>?_) (fun h=>?_) <;> clear hQ Q <;> (try simp only [vki,reduceCtorEq] at h))|(refine vq ?_;kernel_rfl)|omega|assumption|with_reducible rfl|skip)))
    (simp only [vrt,Try.results12,vkt,seval,jD,vX,qZ,qO,jQ,mTk,qd,qa,qb,Qa,ZM,wR,jG,kw,wQ,yH,ky,ZN,wT,List.length_map];refine Fin.val rfl ?_;(try simp only [AV.le,AV.leL]))
    all_goals first|rfl|(simp;done)
  |succ m =>
    have d1:decide ((0:Int) < ((m+1:Nat):Int))=true:=decide_eq_true (by omega)
    have w1:IntKind.wrap .i64 (((m+1:Nat):Int) - 1)=(m:Int):=by rw [wrap64 (by omega) (by omega)];omega
    have hst:=hst hm
    have m0:(((m+1:Nat):Int)).toNat=m+1:=rfl
    have n0:((B.length:Int)).toNat=B.length:=rfl
    have z0:((0:Int)).toNat=0:=rfl
    have m1:(0:Int)≤((m+1:Nat):Int):=by omega
    have m2:((m+1:Nat):Int)≤4:=by omega
    have n1:(0:Int)≤(B.length:Int):=by omega
    have n2:(B.length:Int)≤8:=by omega
    have hch1:=VP (n:=B.length) (m+1) 0
    have hch2:=QhD (n:=B.length) (m+1) 0
    have hCHl:=Qc6 (n:=B.length) (by omega) (m+1) 0
    have h8m:8 ^ (m+1)≤4096:=Nat.le_trans (Nat.pow_le_pow_right (by decide) (show m+1≤4 by omega)) (by decide)
    have hmD:QC F B.length (m+1)=match (Qt B.length (m+1) [] 0).findSome? (Vz F) with|some l=>some l|none=>QC F B.length m:=rfl
    rw [hst] at hmD
    obtain ⟨CH,hCH⟩:∃ l,y7 B.length (m+1) 0=l:=⟨_,rfl⟩
    rw [hCH] at hmD hch1 hch2 hCHl
    have CHm:CH.length≤maxLen:=by omega
    repeat' (first|(apply nx;with_reducible constructor)|refine uq (by decide) ?_|((first|refine vx env fun Q hQ=>?_|refine vz fun Q hQ=>?_);simp only [vkt,seval,jD,vX,qZ,qO,jQ,mTk,qd,qa,qb,Qa,ZM,wR,jG,kw,wQ,yH,ky,ZN,wT,List.length_map,d1,m0,n0,z0,m1,m2,n1,n2,c5,hCH,Int.le_refl];(try simp only [ite_and]);(repeat' (first|with_reducible assumption|refine And.intro ?_ ?_|intro hp));all_goals (first|(refine hQ _ ?_;clear hQ Q)|(refine hQ _ (fun h=>?_) (fun h=>?_) <;> clear hQ Q <;> (try simp only [vki,reduceCtorEq] at h))|(refine vq ?_;kernel_rfl)|omega|assumption|with_reducible rfl|skip)))
    refine qU (fun i:{ i:Nat // i≤CH.length∧∀ j,j < i→vK C.cabins C.secs (vk B (CH.getD j [])) C.sold=false }=>Qa C B [(6,qA M),(8,aI ((m+1:Nat):Int)),(9,Z0 CH),(10,aI i.1)]) (fun i=>CH.length - i.1) ⟨0,Nat.zero_le _,fun j h=>absurd h (Nat.not_lt_zero _)⟩ ?_ fun ⟨i,hi,hno⟩=>?_
    · simp only [Qa,List.cons_append,List.nil_append]
      (refine Le.ok some [] ?_;constructor;all_goals (try simp only [vle,vkt,seval,jD,vX,qZ,qO,jQ,mTk,qd,qa,qb,Qa,ZM,wR,jG,kw,wQ,yH,ky,ZN,wT,List.length_map]))
      all_goals first|rfl|(simp;done)
    simp only at hi hno ⊢
    simp only [Qa,List.cons_append,List.nil_append]
    by_cases hil:i < CH.length
    · have d2:decide ((i:Int) < (CH.length:Int))=true:=decide_eq_true (by omega)
      have e2:IntKind.wrap .i64 ((i:Int)+1)=((i+1:Nat):Int):=by rw [wrap64 (by omega) (by omega)];rfl
      have i0:((i:Int)).toNat=i:=rfl
      have hgr:=Qju hil
      have hrl:=hch1 _ (vL (d:=[]) hil)
      have hrb:=hch2 _ (vL (d:=[]) hil)
      have hhit:=fun r (h:(fun l=>if vK C.cabins C.secs (vk B l) C.sold then some l else none) (CH.getD i [])=some r)=>Qgu (f:=fun l=>if vK C.cabins C.secs (vk B l) C.sold then some l else none) (d:=[]) hil (fun j hj=>by show (if vK C.cabins C.secs (vk B (CH.getD j [])) C.sold then some (CH.getD j []) else none)=none;rw [hno j hj,if_neg (by decide)]) h
      obtain ⟨r,hr⟩:∃ r,CH.getD i []=r:=⟨_,rfl⟩
      rw [hr] at hgr hrl hrb hhit
      have hr1:r.length≤1000:=by omega
      have hr2:r.length≤maxLen:=by omega
      have hmemQ:∀ a ∈ vk B r,GnOk C a:=fun a ha=>by
        obtain ⟨k,hk,rfl⟩:=List.mem_map.1 ha
        exact hgn _ (vL (hrb k hk).2)
      have hlQ:(vk B r).length=m+1:=by unfold vk;rw [List.length_map];exact hrl
      have hrv:vK C.cabins C.secs (vk B r).reverse C.sold=vK C.cabins C.secs (vk B r) C.sold:=QhM hmemQ hpw
      have hal:AlOk C.cabins C.secs (vk B r).reverse C.sold:=⟨fun a ha=>hmemQ a (List.mem_reverse.1 ha),by rw [List.length_reverse];omega,by rw [List.length_reverse];omega,by omega⟩
      cases q:vK C.cabins C.secs (vk B r) C.sold with
      |true =>
        have:=hhit r (by show (if vK C.cabins C.secs (vk B r) C.sold then some r else none)=some r;rw [q,if_pos rfl])
        rw [this] at hmD
        rw [hmD] at hMd
        have hMr:M=r:=hMd.symm
        subst hMr
        rw [q] at hrv
        repeat' (first|(apply nx;with_reducible constructor)|refine uq (by decide) ?_|((first|refine vx env fun Q hQ=>?_|refine vz fun Q hQ=>?_);simp only [vkt,seval,jD,vX,qZ,qO,jQ,mTk,qd,qa,qb,Qa,ZM,wR,jG,kw,wQ,yH,ky,ZN,wT,List.length_map,d2,i0,hil,hgr,hr,c4,hr1,hr2,hrb,hal,hrv,c5,c6,eC,decide_true];(try simp only [ite_and]);(repeat' (first|with_reducible assumption|refine And.intro ?_ ?_|intro hp));all_goals (first|(refine hQ _ ?_;clear hQ Q)|(refine hQ _ (fun h=>?_) (fun h=>?_) <;> clear hQ Q <;> (try simp only [vki,reduceCtorEq] at h))|(refine vq ?_;kernel_rfl)|omega|assumption|with_reducible rfl|skip)))
        (simp only [vrt,Try.results12,vkt,seval,jD,vX,qZ,qO,jQ,mTk,qd,qa,qb,Qa,ZM,wR,jG,kw,wQ,yH,ky,ZN,wT,List.length_map];refine Fin.val rfl ?_;(try simp only [AV.le,AV.leL]))
        all_goals first|rfl|(simp;done)
      |false =>
        rw [q] at hrv
        repeat' (first|(apply nx;with_reducible constructor)|refine uq (by decide) ?_|((first|refine vx env fun Q hQ=>?_|refine vz fun Q hQ=>?_);simp only [vkt,seval,jD,vX,qZ,qO,jQ,mTk,qd,qa,qb,Qa,ZM,wR,jG,kw,wQ,yH,ky,ZN,wT,List.length_map,d2,e2,i0,hil,hgr,hr,c4,hr1,hr2,hrb,hal,hrv,c5,eC];(try simp only [ite_and]);(repeat' (first|with_reducible assumption|refine And.intro ?_ ?_|intro hp));all_goals (first|(refine hQ _ ?_;clear hQ Q)|(refine hQ _ (fun h=>?_) (fun h=>?_) <;> clear hQ Q <;> (try simp only [vki,reduceCtorEq] at h))|(refine vq ?_;kernel_rfl)|omega|assumption|with_reducible rfl|skip)))
        refine ⟨⟨i+1,hil,fun j hj=>?_⟩,by show CH.length - (i+1) < CH.length - i;omega, ?_⟩
        · rcases Nat.lt_or_eq_of_le (Nat.le_of_lt_succ hj) with h|h
          · exact hno j h
          · rw [h,hr];exact q
        · simp only [Qa,List.cons_append,List.nil_append]
          (refine Le.ok some [] ?_;constructor;all_goals (try simp only [vle,vkt,seval,jD,vX,qZ,qO,jQ,mTk,qd,qa,qb,Qa,ZM,wR,jG,kw,wQ,yH,ky,ZN,wT,List.length_map]))
          all_goals first|rfl|(simp;done)
    · have d2:decide ((i:Int) < (CH.length:Int))=false:=decide_eq_false (by omega)
      obtain rfl:i=CH.length:=by omega
      have hmiss:=QcV (f:=fun l=>if vK C.cabins C.secs (vk B l) C.sold then some l else none) (d:=[]) (l:=CH) fun j hj=>by show (if vK C.cabins C.secs (vk B (CH.getD j [])) C.sold then some (CH.getD j []) else none)=none;rw [hno j hj,if_neg (by decide)]
      rw [hmiss] at hmD
      repeat' (first|(apply nx;with_reducible constructor)|refine uq (by decide) ?_|((first|refine vx env fun Q hQ=>?_|refine vz fun Q hQ=>?_);simp only [vkt,seval,jD,vX,qZ,qO,jQ,mTk,qd,qa,qb,Qa,ZM,wR,jG,kw,wQ,yH,ky,ZN,wT,List.length_map,d2,w1];(try simp only [ite_and]);(repeat' (first|with_reducible assumption|refine And.intro ?_ ?_|intro hp));all_goals (first|(refine hQ _ ?_;clear hQ Q)|(refine hQ _ (fun h=>?_) (fun h=>?_) <;> clear hQ Q <;> (try simp only [vki,reduceCtorEq] at h))|(refine vq ?_;kernel_rfl)|omega|assumption|with_reducible rfl|skip)))
      refine ⟨⟨m,by omega,by rw [hmo,hmD]⟩,Nat.lt_succ_self m, ?_⟩
      simp only [Qa,List.cons_append,List.nil_append]
      (refine Le.ok some [] ?_;constructor;all_goals (try simp only [vle,vkt,seval,jD,vX,qZ,qO,jQ,mTk,qd,qa,qb,Qa,ZM,wR,jG,kw,wQ,yH,ky,ZN,wT,List.length_map]))
      all_goals first|rfl|(simp;done)
end Go.Sym.B
