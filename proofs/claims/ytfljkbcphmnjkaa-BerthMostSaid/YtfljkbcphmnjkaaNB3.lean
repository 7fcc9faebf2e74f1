/- Walks and what they compute, joined: part 3. -/
import Derived.Test.YtfljkbcphmnjkaaNS3
import Derived.Test.YtfljkbcphmnjkaaProg
import Derived.KernelRfl
import Derived.Test.YtfljkbcphmnjkaaNB2
set_option linter.all false
namespace Go.Sym.B
open Go Go.Sym Go.Proofs Go.Sym.C
set_option maxHeartbeats 1000000 in
theorem Qj1 (c:Chart) (a:Ask) (o:List Tr) (l:List Int) (ok:MvOk c a l):Fn noB Try.prog 86 [qA l,.ptr 3 0,.ptr 2 0,.ptr 4 0,.ptr 5 0] (qg (qI 0 (mvL c a o))) (aB (mvW c a l).isSome) (qg (zT 0 ((mvL c a ((mvW c a l).getD o)).map some))) 0:=by
  have env:Env (fun _=>True) Try.prog tyB (tab [(87,fnE (xk c.cabins c.secs a l.length))]):=qM ⟨QiA,trivial⟩
  refine Fn.of (A:=fun _=>True) (n0:=6) (D:=noD) (Fn0 Try.func86 rfl (fun vs w=>by kernel_rfl) (by kernel_rfl)) (by simp) (by simp [AV.ids,AV.idsL,qA]) Qds (fun _ _ _ _=>trivial) qH ?_
  have hsh:=ok.sh
  have hlen:=ok.len
  have hmx:(100000:Nat)≤maxLen:=by decide
  have hsl:(QQ c l).length=l.length:=by simp [QQ]
  obtain ⟨W,hW⟩:∃ W,mvW c a l=W:=⟨_,rfl⟩
  rw [hW]
  unfold mvW at hW
  show Sym _ _ _ (zq [qA l,.ptr 3 0,.ptr 2 0,.ptr 4 0,.ptr 5 0] 6 (qg [(0,qf c.cabins c.secs 1),(1,qh c.sold),(2,.cells [.ptr 0 0]),(3,.cells [.sl ((j3 c.sold).map zC)]),(4,.cells (qj a)),(5,.cells [.sl (o.map eTr)])])) (yB tyB noD Try.f86 fun S rv=>Fin S rv _ 6 (qg [(0,qf c.cabins c.secs 1),(1,qh c.sold),(2,.cells [.ptr 0 0]),(3,.cells [.sl ((j3 c.sold).map zC)]),(4,.cells (qj a)),(5,.cells [.sl ((W.getD o).map eTr)])]) 0)
  repeat' (first|(apply nx;with_reducible constructor)|refine jq (by decide) ?_|((first|refine kz env fun Q hQ=>?_|refine kj fun Q hQ=>?_);simp only [vkt,seval,vF,Qm,zi,mTk,qf,qh,qm,mvL,mvS,qj,xk,List.length_map];(try simp only [ite_and]);(repeat' (first|with_reducible assumption|refine And.intro ?_ ?_|intro hp));all_goals (first|(refine hQ _ ?_;clear hQ Q)|(refine hQ _ (fun h=>?_) (fun h=>?_) <;> clear hQ Q <;> (try simp only [vki,reduceCtorEq] at h))|(refine kx ?_;kernel_rfl)|omega|assumption|with_reducible rfl|skip)))
  refine qU (fun k:{ k:Nat // k≤l.length }=>mvS c a o l k.1) (fun k=>l.length - k.1) ⟨0,Nat.zero_le _⟩ ?_ fun ⟨k,hk⟩=>?_
  · (refine Le.ok (fun i=>if i=6 then none else some i) [] ?_;constructor;all_goals (try simp only [vle,vkt,seval,vF,Qm,zi,mTk,qf,qh,qm,mvL,mvS,qj,xk,List.length_map]))
    all_goals first|rfl|(simp;done)|(intro i hi;rw [if_neg (by omega)];done)
  simp only at hk ⊢
  by_cases hkl:k < l.length
  · have d1:decide ((k:Int) < (l.length:Int))=true:=decide_eq_true (by omega)
    have e9:IntKind.wrap .i64 ((k:Int)+1)=((k+1:Nat):Int):=by rw [wrap64 (by omega) (by omega)];rfl
    obtain ⟨x,hx⟩:∃ x,l.getD k 0=x:=⟨_,rfl⟩
    obtain ⟨hx0,hxl⟩:=ok.mem x (by rw [← hx];exact vL hkl)
    obtain ⟨i,rfl⟩:∃ i:Nat,x=i:=⟨x.toNat,by omega⟩
    have i0:((i:Int)).toNat=i:=rfl
    rw [i0] at hxl
    obtain ⟨y,hy⟩:∃ y,(j3 c.sold).getD i 0=y:=⟨_,rfl⟩
    have hS:(QQ c l).take (k+1)=(QQ c l).take k++[y]:=by
      rw [List.take_succ_eq_append_getElem (by rw [hsl];exact hkl)]
      congr 2
      unfold QQ
      rw [List.getElem_map]
      rw [show l[k]=(i:Int) by rw [← hx];simp [List.getD_eq_getElem?_getD,hkl]]
      exact hy
    have hl1:((QQ c l).take k).length+1≤maxLen:=by rw [List.length_take];omega
    have hl2:((QQ c l).take k).length≤2:=by rw [List.length_take];omega
    repeat' (first|(apply nx;with_reducible constructor)|refine jq (by decide) ?_|((first|refine kz env fun Q hQ=>?_|refine kj fun Q hQ=>?_);simp only [vkt,seval,vF,Qm,zi,mTk,qf,qh,qm,mvL,mvS,qj,xk,List.length_map,d1,e9,hx,hy,i0,hxl,hl1];(try simp only [ite_and]);(repeat' (first|with_reducible assumption|refine And.intro ?_ ?_|intro hp));all_goals (first|(refine hQ _ ?_;clear hQ Q)|(refine hQ _ (fun h=>?_) (fun h=>?_) <;> clear hQ Q <;> (try simp only [vki,reduceCtorEq] at h))|(refine kx ?_;kernel_rfl)|omega|assumption|with_reducible rfl|skip)))
    refine ⟨⟨k+1,hkl⟩,by show l.length - (k+1) < l.length - k;omega, ?_⟩
    show Le _ (mvS c a o l (k+1))
    unfold mvS
    rw [hS]
    (refine Le.ok (fun i=>if i=6 then some 8 else some i) [] ?_;constructor;all_goals (try simp only [vle,vkt,seval,vF,Qm,zi,mTk,qf,qh,qm,mvL,mvS,qj,xk,List.length_map]))
    all_goals first|rfl|(rw [List.map_append];rfl)|(simp;done)|(intro i hi;rw [if_neg (by omega)];done)
  · have d1:decide ((k:Int) < (l.length:Int))=false:=decide_eq_false (by omega)
    obtain rfl:k=l.length:=by omega
    have htk:(QQ c l).take l.length=QQ c l:=List.take_of_length_le (by omega)
    cases W with
    |none =>
      repeat' (first|(apply nx;with_reducible constructor)|refine jq (by decide) ?_|((first|refine kz env fun Q hQ=>?_|refine kj fun Q hQ=>?_);simp only [vkt,seval,vF,Qm,zi,mTk,qf,qh,qm,mvL,mvS,qj,xk,List.length_map,d1,htk,hsl,hsh,hW,Option.getD_none,Option.isSome_none];(try simp only [ite_and]);(repeat' (first|with_reducible assumption|refine And.intro ?_ ?_|intro hp));all_goals (first|(refine hQ _ ?_;clear hQ Q)|(refine hQ _ (fun h=>?_) (fun h=>?_) <;> clear hQ Q <;> (try simp only [vki,reduceCtorEq] at h))|(refine kx ?_;kernel_rfl)|omega|assumption|with_reducible rfl|skip)))
      · exact ⟨_,_,rfl⟩
      (simp only [vrt,Try.results86,vkt,seval,vF,Qm,zi,mTk,qf,qh,qm,mvL,mvS,qj,xk,List.length_map];refine Fin.ok some [] ?_ ?_ ?_ ?_ ?_ rfl;all_goals (try simp only [vle,vkt,seval,vF,Qm,zi,mTk,qf,qh,qm,mvL,mvS,qj,xk,List.length_map]))
      all_goals first|rfl|(simp;done)|exact fun i hi=>(match i,hi with|0,_=>rfl|1,_=>rfl)
    |some t =>
      repeat' (first|(apply nx;with_reducible constructor)|refine jq (by decide) ?_|((first|refine kz env fun Q hQ=>?_|refine kj fun Q hQ=>?_);simp only [vkt,seval,vF,Qm,zi,mTk,qf,qh,qm,mvL,mvS,qj,xk,List.length_map,d1,htk,hsl,hsh,hW,Option.getD_some,Option.isSome_some];(try simp only [ite_and]);(repeat' (first|with_reducible assumption|refine And.intro ?_ ?_|intro hp));all_goals (first|(refine hQ _ ?_;clear hQ Q)|(refine hQ _ (fun h=>?_) (fun h=>?_) <;> clear hQ Q <;> (try simp only [vki,reduceCtorEq] at h))|(refine kx ?_;kernel_rfl)|omega|assumption|with_reducible rfl|skip)))
      · exact ⟨_,_,rfl⟩
      (simp only [vrt,Try.results86,vkt,seval,vF,Qm,zi,mTk,qf,qh,qm,mvL,mvS,qj,xk,List.length_map];refine Fin.ok some [] ?_ ?_ ?_ ?_ ?_ rfl;all_goals (try simp only [vle,vkt,seval,vF,Qm,zi,mTk,qf,qh,qm,mvL,mvS,qj,xk,List.length_map]))
      all_goals first|rfl|(simp;done)|exact fun i hi=>(match i,hi with|0,_=>rfl|1,_=>rfl)
end Go.Sym.B
namespace Go.Sym.B
open Go Go.Sym Go.Proofs Go.Sym.C
def yn:=kk @ty3 (kk @Qf (kk @ti3.eq_1 @kC.eq_1))
theorem Qfh (xs:List (List DV)) (h1:zI 1 xs) (h2:xs.length≤100000):Fn noB Try.prog 119 [.sl xs] noH (.row 0) (qg [(0,.row 3 1 xs)]) 0:=by
  have env:Env (fun _=>True) Try.prog tyB (tab []):=qM trivial
  obtain ⟨b1,b2,b3,b5,b4⟩:=b47 h2
  refine Fn.of (A:=fun _=>True) (n0:=0) (D:=noD) (Fn0 Try.func119 rfl (fun vs w=>by kernel_rfl) (by kernel_rfl)) (by simp) (by simp [AV.ids]) (fun i o h=>by cases h) (fun _ _ _ _=>trivial) qH ?_
  repeat' (first|(apply nx;with_reducible constructor)|refine jq (by decide) ?_)
  (refine kz env fun Q hQ=>?_;simp only [vkt,seval,yn,@true_and];(try simp only [ite_and]);(repeat' (first|with_reducible assumption|refine And.intro ?_ ?_|intro hp));all_goals (first|(refine hQ _ ?_;clear hQ Q)|(refine kx ?_;kernel_rfl)|omega|assumption|with_reducible rfl|skip))
  repeat' (first|(apply nx;with_reducible constructor)|refine jq (by decide) ?_)
  refine Zy (d1:=3) (d2:=4) (t:=22) (e:=3) (x:=.tmp 0) (xs:=xs) rfl rfl rfl rfl rfl rfl Try.underlying22 rfl fun b hb=>?_
  repeat' (first|(apply nx;with_reducible constructor)|refine jq (by decide) ?_)
  (refine yF (by simp only [vkt,seval,yn,@true_and];rfl) (fun h=>?_) (fun h=>?_) <;> (try simp only [vki,reduceCtorEq] at h))
  · have hx:=hb h
    subst hx
    repeat' (first|(apply nx;with_reducible constructor)|refine jq (by decide) ?_|((first|refine kz env fun Q hQ=>?_|refine kj fun Q hQ=>?_);simp only [vkt,seval,yn,@true_and];(try simp only [ite_and]);(repeat' (first|with_reducible assumption|refine And.intro ?_ ?_|intro hp));all_goals (first|(refine hQ _ ?_;clear hQ Q)|(refine hQ _ (fun h=>?_) (fun h=>?_) <;> clear hQ Q <;> (try simp only [vki,reduceCtorEq] at h))|(refine kx ?_;kernel_rfl)|omega|assumption|with_reducible rfl|skip)))
    (simp only [vrt,Try.results119,vkt,seval,yn,@true_and];refine Fin.ok (fun _=>none) [] ?_ ?_ ?_ ?_ ?_ rfl;all_goals (try simp only [vle,vkt,seval,yn,@true_and]))
    all_goals simp
  · repeat' (first|(apply nx;with_reducible constructor)|refine jq (by decide) ?_|((first|refine kz env fun Q hQ=>?_|refine kj fun Q hQ=>?_);simp only [vkt,seval,yn,@true_and];(try simp only [ite_and]);(repeat' (first|with_reducible assumption|refine And.intro ?_ ?_|intro hp));all_goals (first|(refine hQ _ ?_;clear hQ Q)|(refine hQ _ (fun h=>?_) (fun h=>?_) <;> clear hQ Q <;> (try simp only [vki,reduceCtorEq] at h))|(refine kx ?_;kernel_rfl)|omega|assumption|with_reducible rfl|skip)))
    (simp only [vrt,Try.results119,vkt,seval,yn,@true_and];refine Fin.ok some [] ?_ ?_ ?_ ?_ ?_ rfl;all_goals (try simp only [vle,vkt,seval,yn,@true_and]))
    all_goals simp
def zm (_:St):List AV→Option Pk
  |[.sl xs]=>some { pre:=zI 1 xs∧xs.length≤100000,ar:=[.sl xs],v:=.row 0,L1:=[some (.row 3 1 xs)] }
  |_=>none
theorem Qc9 {A:Frm→Prop}:qC A Try.prog 119 (fnE zm):=zx fun S bs q h hp=>by
  unfold zm at h
  split at h
  · cases h;exact Qfh _ hp.1 hp.2
  · cases h
theorem fsr {α:Type} {g:Nat→Option α} {k N:Nat} (h:∀ j,j < k→g j=none) (hk:k < N) {t:α} (ht:g k=some t):(List.range N).findSome? g=some t:=by
  rw [show N=k+(N - k) by omega,List.range_add,List.findSome?_append]
  rw [show (List.range k).findSome? g=none from List.findSome?_eq_none_iff.2 fun j hj=>h j (List.mem_range.1 hj)]
  rw [show N - k=(N - k - 1)+1 by omega,List.range_succ_eq_map]
  simp [ht]
theorem Qap {α:Type} {g:Nat→Option α} {N:Nat} (h:∀ j,j < N→g j=none):(List.range N).findSome? g=none:=List.findSome?_eq_none_iff.2 fun j hj=>h j (List.mem_range.1 hj)
def lsG (c:Chart) (a:Ask) (l:List Int):Option (List Int × List Tr):=(mvW c a l).map fun t=>(l,t)
def lsF (c:Chart) (a:Ask) (m:Nat) (l:List Int) (f:Nat):Option (List Int × List Tr):=(Qt (j3 c.sold).length m l f).findSome? (lsG c a)
theorem QgI (c:Chart) (a:Ask) (l:List Int) (f:Nat):lsF c a 0 l f=lsG c a l:=by
  unfold lsF
  rw [Qt]
  cases h:lsG c a l <;> simp [h]
theorem RV {α β γ:Type} (f:α→List β) (g:β→Option γ):∀ l:List α,(l.flatMap f).findSome? g=l.findSome? fun a=>(f a).findSome? g
  |[]=>rfl
  |a :: l=>by rw [List.flatMap_cons,List.findSome?_append,List.findSome?_cons,RV f g l];cases (f a).findSome? g <;> rfl
theorem Qhe (c:Chart) (a:Ask) (m:Nat) (l:List Int) (f:Nat):lsF c a (m+1) l f=(List.range ((j3 c.sold).length - f)).findSome? fun k=>lsF c a m (l++[((f+k:Nat):Int)]) (f+k+1):=by
  unfold lsF
  rw [Qt,RV]
structure LsOk (c:Chart) (a:Ask) (l:List Int) (f m:Nat):Prop where
  val:Val c
  sx:a.sexes.length≤3
  len:l.length+m≤2
  from':f≤(j3 c.sold).length∨m=0
  mem:∀ i ∈ l,0≤i∧i.toNat < (j3 c.sold).length
def lsL (c:Chart) (a:Ask) (many:Nat) (o:Option (List Int × List Tr)):List AObj:=[qf c.cabins c.secs 1,qh c.sold,.cells [.ptr 0 0],.cells [.sl ((j3 c.sold).map zC)],.cells (qj a),.cells [.sl (((o.map (·.2)).getD []).map eTr)],
  .cells [aI many],.cells [.clo 86 [.ptr 3 0,.ptr 2 0,.ptr 4 0,.ptr 5 0]],.cells [.sl (((o.map (·.1)).getD []).map zC)],.cells [aB o.isSome],.cells [aI (j3 c.sold).length],.cells [.clo 118 [.ptr 6 0,.ptr 7 0,.ptr 8 0,.ptr 9 0,.ptr 10 0,.ptr 11 0]]]
theorem QcA {c:Chart} {a:Ask} {many:Nat} {o:Option (List Int × List Tr)}:∀ i ob,qg (qI 0 (lsL c a many o)) i=some ob→i < 12∧∀ id ∈ ob.ids,id < 12:=by
  intro i ob hi
  have h:=qL hi
  simp [qI,lsL] at h
  rcases h with ⟨rfl,rfl⟩|⟨rfl,rfl⟩|⟨rfl,rfl⟩|⟨rfl,rfl⟩|⟨rfl,rfl⟩|⟨rfl,rfl⟩|⟨rfl,rfl⟩|⟨rfl,rfl⟩|⟨rfl,rfl⟩|⟨rfl,rfl⟩|⟨rfl,rfl⟩|⟨rfl,rfl⟩ <;> simp [AObj.ids,AV.ids,AV.idsL,qf,qh,qj,aI,aB]
def LsFn (c:Chart) (a:Ask) (many m:Nat):Prop:=∀ (l:List Int) (f:Nat),l.length+m=many→LsOk c a l f m →
  Fn noB Try.prog 118 [qA l,aI f,.ptr 6 0,.ptr 7 0,.ptr 8 0,.ptr 9 0,.ptr 10 0,.ptr 11 0] (qg (qI 0 (lsL c a many none))) (.tup []) (qg (zT 0 ((lsL c a many (lsF c a m l f)).map some))) 0
def Zp (c:Chart) (a:Ask) (S:St):List AV→Option Pk
  |[.sl xs,.ptr p3 0,.ptr p2 0,.ptr p4 0,.ptr p5 0]=>match S.h p2,S.h p5 with
    |some (.cells [.ptr p0 0]),some (.cells [.sl os])=>match S.h p0 with
      |some (.cells [_,_,.row p1])=>some { pre:=xs=(xs.map zl).map zC∧os=(os.map dTr).map eTr∧MvOk c a (xs.map zl),hs:=[p0,p1,p2,p3,p4,p5],ar:=[.sl xs,.ptr 3 0,.ptr 2 0,.ptr 4 0,.ptr 5 0],L0:=mvL c a (os.map dTr),v:=aB (mvW c a (xs.map zl)).isSome,L1:=(mvL c a ((mvW c a (xs.map zl)).getD (os.map dTr))).map some }
      |_=>none
    |_,_=>none
  |_=>none
theorem eMv1 {A:Frm→Prop} {c:Chart} {a:Ask}:qC A Try.prog 86 (fnE (Zp c a)):=zx fun S bs q h hp=>by
  unfold Zp at h
  split at h
  · split at h
    · split at h
      · cases h
        obtain ⟨h1,h2,h3⟩:=hp
        have:=Qj1 c a (List.map dTr (by assumption)) _ h3
        rw [qA,← h1] at this
        exact this
      · cases h
    · cases h
  · cases h
def Zj (c:Chart) (a:Ask) (many m:Nat) (S:St):List AV→Option Pk
  |[.row q,.v (.int .i64 f),.ptr p6 0,.ptr p7 0,.ptr p8 0,.ptr p9 0,.ptr p10 0,.ptr p11 0]=>match S.h q,S.h p7 with
    |some (.row _ _ xs),some (.cells [.clo _ [.ptr p3 0,.ptr p2 0,.ptr p4 0,.ptr p5 0]])=>match S.h p2 with
      |some (.cells [.ptr p0 0])=>match S.h p0 with
        |some (.cells [_,_,.row p1])=>some { pre:=xs=(xs.map zl).map zC∧f=(f.toNat:Int)∧(xs.map zl).length+m=many∧LsOk c a (xs.map zl) f.toNat m,hs:=[p0,p1,p2,p3,p4,p5,p6,p7,p8,p9,p10,p11],bo:=[q],ar:=[.sl xs,.v (.int .i64 f),.ptr 6 0,.ptr 7 0,.ptr 8 0,.ptr 9 0,.ptr 10 0,.ptr 11 0],L0:=lsL c a many none,v:=.tup [],L1:=(lsL c a many (lsF c a m (xs.map zl) f.toNat)).map some }
        |_=>none
      |_=>none
    |_,_=>none
  |_=>none
theorem eLs1 {A:Frm→Prop} {c:Chart} {a:Ask} {many m:Nat} (ih:LsFn c a many m):qC A Try.prog 118 (fnE (Zj c a many m)):=zx fun S bs q h hp=>by
  unfold Zj at h
  split at h
  · split at h
    · split at h
      · split at h
        · cases h
          obtain ⟨h1,h2,h3,h4⟩:=hp
          have:=ih _ _ h3 h4
          rw [qA,← h1,aI,← h2] at this
          exact this
        · cases h
      · cases h
    · cases h
  · cases h
def lsS (c:Chart) (a:Ask) (many:Nat) (l:List Int) (i:Nat) (o:Option (List Int × List Tr)):St:={ t:=asg [(0,qA l),(2,.ptr 6 0),(3,.ptr 7 0),(4,.ptr 8 0),(5,.ptr 9 0),(6,.ptr 10 0),(7,.ptr 11 0),(10,aI i)],h:=qg [(0,qf c.cabins c.secs 1),(1,qh c.sold),(2,.cells [.ptr 0 0]),(3,.cells [.sl ((j3 c.sold).map zC)]),(4,.cells (qj a)),(5,.cells [.sl (((o.map (·.2)).getD []).map eTr)]),
  (6,.cells [aI many]),(7,.cells [.clo 86 [.ptr 3 0,.ptr 2 0,.ptr 4 0,.ptr 5 0]]),(8,.cells [.sl (((o.map (·.1)).getD []).map zC)]),(9,.cells [aB o.isSome]),(10,.cells [aI (j3 c.sold).length]),(11,.cells [.clo 118 [.ptr 6 0,.ptr 7 0,.ptr 8 0,.ptr 9 0,.ptr 10 0,.ptr 11 0]])],n:=12,m:=12 }
def zt:=kk @ty3 (kk @ty4 (kk @Qf (kk @ty45 (kk @Qdo (kk @ti3.eq_1 (kk @ti4.eq_1 (kk @kC.eq_1 (kk @Qgk.eq_1 @V5.eq_1))))))))
def jV:=kk @aI.eq_1 (kk @aB.eq_1 (kk @qA.eq_1 (kk @zC.eq_1 (kk @Y4 (kk @UN (@kW))))))
set_option maxHeartbeats 2000000 in
theorem K7 (c:Chart) (a:Ask) (many m:Nat) (ih:∀ m',m=m'+1→LsFn c a many m'):LsFn c a many m:=by
  intro l f hlm ok
  have hlen:=ok.len
  have hlo:=Qgg c.sold
  have hv8:=ok.val.many
  have hmx:(100000:Nat)≤maxLen:=by decide
  have hmm:l.length≤100000:=by omega
  have hml1:l.length+1≤maxLen:=by omega
  obtain ⟨n,hn⟩:∃ n,(j3 c.sold).length=n:=⟨_,rfl⟩
  rw [hn] at hlo
  cases m with
  |zero =>
    have env:Env (fun _=>True) Try.prog tyB (tab [(86,fnE (Zp c a))]):=qM ⟨eMv1,trivial⟩
    refine Fn.of (A:=fun _=>True) (n0:=12) (D:=noD) (Fn0 Try.func118 rfl (fun vs w=>by kernel_rfl) (by kernel_rfl)) (by simp) (by simp [AV.ids,AV.idsL,qA,aI]) QcA (fun _ _ _ _=>trivial) qH ?_
    have hmv:MvOk c a l:=⟨ok.val,ok.sx,by omega,ok.mem⟩
    have d0:decide ((l.length:Int)=(many:Int))=true:=decide_eq_true (by omega)
    rw [QgI]
    show Sym _ _ _ (zq [qA l,aI f,.ptr 6 0,.ptr 7 0,.ptr 8 0,.ptr 9 0,.ptr 10 0,.ptr 11 0] 12 (lsS c a many l f none).h) (yB tyB noD Try.f118 fun S rv=>Fin S rv _ 12 (lsS c a many l f (lsG c a l)).h 0)
    unfold lsG
    cases hW:mvW c a l with
    |none =>
      repeat' (first|(apply nx;with_reducible constructor)|refine jq (by decide) ?_|((first|refine kz env fun Q hQ=>?_|refine kj fun Q hQ=>?_);simp only [vkt,seval,zt,jV,zi,eTr,mTr,mTk,qf,qh,mvL,lsL,lsS,qj,Zp,Zj,zm,List.length_map,d0,hmv,hW,Option.getD_none,Option.isSome_none,Option.map_none];(try simp only [ite_and]);(repeat' (first|with_reducible assumption|refine And.intro ?_ ?_|intro hp));all_goals (first|(refine hQ _ ?_;clear hQ Q)|(refine hQ _ (fun h=>?_) (fun h=>?_) <;> clear hQ Q <;> (try simp only [vki,reduceCtorEq] at h))|(refine kx ?_;kernel_rfl)|omega|assumption|with_reducible rfl|skip)))
      (simp only [vrt,Try.results118,vkt,seval,zt,jV,zi,eTr,mTr,mTk,qf,qh,mvL,lsL,lsS,qj,Zp,Zj,zm,List.length_map];refine Fin.ok some [] ?_ ?_ ?_ ?_ ?_ rfl;all_goals (try simp only [vle,vkt,seval,zt,jV,zi,eTr,mTr,mTk,qf,qh,mvL,lsL,lsS,qj,Zp,Zj,zm,List.length_map]))
      all_goals (try simp only [Option.getD_none,Option.isSome_none,Option.map_none])
      all_goals first|rfl|(simp;done)
    |some t =>
      repeat' (first|(apply nx;with_reducible constructor)|refine jq (by decide) ?_|((first|refine kz env fun Q hQ=>?_|refine kj fun Q hQ=>?_);simp only [vkt,seval,zt,jV,zi,eTr,mTr,mTk,qf,qh,mvL,lsL,lsS,qj,Zp,Zj,zm,List.length_map,d0,hmv,hW,Option.getD_some,Option.isSome_some,Option.map_some,Option.getD_none,Option.isSome_none,Option.map_none];(try simp only [ite_and]);(repeat' (first|with_reducible assumption|refine And.intro ?_ ?_|intro hp));all_goals (first|(refine hQ _ ?_;clear hQ Q)|(refine hQ _ (fun h=>?_) (fun h=>?_) <;> clear hQ Q <;> (try simp only [vki,reduceCtorEq] at h))|(refine kx ?_;kernel_rfl)|omega|assumption|with_reducible rfl|skip)))
      (simp only [vrt,Try.results118,vkt,seval,zt,jV,zi,eTr,mTr,mTk,qf,qh,mvL,lsL,lsS,qj,Zp,Zj,zm,List.length_map];refine Fin.ok some [] ?_ ?_ ?_ ?_ ?_ rfl;all_goals (try simp only [vle,vkt,seval,zt,jV,zi,eTr,mTr,mTk,qf,qh,mvL,lsL,lsS,qj,Zp,Zj,zm,List.length_map]))
      all_goals (try simp only [Option.getD_some,Option.isSome_some,Option.map_some])
      all_goals first|rfl|(simp;done)
  |succ m =>
    have env:Env (fun _=>True) Try.prog tyB (tab [(119,fnE zm),(118,fnE (Zj c a many m))]):=qM ⟨Qc9,eLs1 (ih m rfl),trivial⟩
    refine Fn.of (A:=fun _=>True) (n0:=12) (D:=noD) (Fn0 Try.func118 rfl (fun vs w=>by kernel_rfl) (by kernel_rfl)) (by simp) (by simp [AV.ids,AV.idsL,qA,aI]) QcA (fun _ _ _ _=>trivial) qH ?_
    have d0:decide ((l.length:Int)=(many:Int))=false:=decide_eq_false (by omega)
    have hfn:f≤n:=by have:=ok.from';omega
    rw [Qhe,hn]
    obtain ⟨g,hg⟩:∃ g:Nat→Option (List Int × List Tr),(fun k=>lsF c a m (l++[((f+k:Nat):Int)]) (f+k+1))=g:=⟨_,rfl⟩
    rw [hg]
    show Sym _ _ _ (zq [qA l,aI f,.ptr 6 0,.ptr 7 0,.ptr 8 0,.ptr 9 0,.ptr 10 0,.ptr 11 0] 12 (lsS c a many l f none).h) (yB tyB noD Try.f118 fun S rv=>Fin S rv _ 12 (lsS c a many l f ((List.range (n - f)).findSome? g)).h 0)
    repeat' (first|(apply nx;with_reducible constructor)|refine jq (by decide) ?_|((first|refine kz env fun Q hQ=>?_|refine kj fun Q hQ=>?_);simp only [vkt,seval,zt,jV,zi,eTr,mTr,mTk,qf,qh,mvL,lsL,lsS,qj,Zp,Zj,zm,List.length_map,d0,Option.getD_none,Option.isSome_none,Option.map_none];(try simp only [ite_and]);(repeat' (first|with_reducible assumption|refine And.intro ?_ ?_|intro hp));all_goals (first|(refine hQ _ ?_;clear hQ Q)|(refine hQ _ (fun h=>?_) (fun h=>?_) <;> clear hQ Q <;> (try simp only [vki,reduceCtorEq] at h))|(refine kx ?_;kernel_rfl)|omega|assumption|with_reducible rfl|skip)))
    refine qU (fun x:{ x:Nat × Option (List Int × List Tr) // x.1≤n - f∧((x.2=none∧∀ j,j < x.1→g j=none)∨∃ t,x.2=some t∧(List.range (n - f)).findSome? g=some t) }=>lsS c a many l (f+x.1.1) x.1.2) (fun x=>n - f - x.1.1) ⟨(0,none),Nat.zero_le _,.inl ⟨rfl,fun j h=>absurd h (Nat.not_lt_zero _)⟩⟩ ?_ fun ⟨(k,o),hk,ho⟩=>?_
    · show Le _ (lsS c a many l f none)
      unfold lsS
      (refine Le.ok some [] ?_;constructor;all_goals (try simp only [vle,vkt,seval,zt,jV,zi,eTr,mTr,mTk,qf,qh,mvL,lsL,lsS,qj,Zp,Zj,zm,List.length_map]))
      all_goals first|rfl|(simp;done)
    simp only at hk ho ⊢
    rcases ho with ⟨rfl,hno⟩|⟨t,rfl,ht⟩
    · by_cases hkl:k < n - f
      · have d1:decide (((f+k:Nat):Int) < (n:Int))=true:=decide_eq_true (by omega)
        have w1:IntKind.wrap .i64 (((f+k:Nat):Int)+1)=((f+k+1:Nat):Int):=by rw [wrap64 (by omega) (by omega)];rfl
        have hla:l.map zC++[[.v (.int .i64 ((f+k:Nat):Int))]]=(l++[((f+k:Nat):Int)]).map zC:=by rw [List.map_append];rfl
        have hll:(l++[((f+k:Nat):Int)]).length=l.length+1:=by simp
        have hnm:l.length+1+m=many:=by omega
        have i0:(((f+k+1:Nat):Int)).toNat=f+k+1:=rfl
        have hok:LsOk c a (l++[((f+k:Nat):Int)]) (f+k+1) m:=⟨ok.val,ok.sx,by rw [hll];omega,.inl (by omega),fun i hi=>by
          rcases List.mem_append.1 hi with hi|hi
          · exact ok.mem i hi
          · rw [List.mem_singleton.1 hi,hn];omega⟩
        obtain ⟨o',ho'⟩:∃ o',lsF c a m (l++[((f+k:Nat):Int)]) (f+k+1)=o':=⟨_,rfl⟩
        have hgk:g k=o':=by rw [← hg];exact ho'
        repeat' (first|(apply nx;with_reducible constructor)|refine jq (by decide) ?_|((first|refine kz env fun Q hQ=>?_|refine kj fun Q hQ=>?_);simp only [vkt,seval,zt,jV,zi,eTr,mTr,mTk,qf,qh,mvL,lsL,lsS,qj,Zp,Zj,zm,List.length_map,hn,d1,w1,hla,hll,hnm,i0,hok,ho',hmm,hml1,Option.getD_none,Option.isSome_none,Option.map_none];(try simp only [ite_and]);(repeat' (first|with_reducible assumption|refine And.intro ?_ ?_|intro hp));all_goals (first|(refine hQ _ ?_;clear hQ Q)|(refine hQ _ (fun h=>?_) (fun h=>?_) <;> clear hQ Q <;> (try simp only [vki,reduceCtorEq] at h))|(refine kx ?_;kernel_rfl)|omega|assumption|with_reducible rfl|skip)))
        · exact ⟨_,_,rfl⟩
        refine ⟨⟨(k+1,o'),by show k+1≤n - f;omega, ?_⟩,by show n - f - (k+1) < n - f - k;omega, ?_⟩
        · cases o' with
          |none =>
            refine .inl ⟨rfl,fun j hj=>?_⟩
            rcases Nat.lt_or_eq_of_le (Nat.le_of_lt_succ hj) with h1|h1
            · exact hno j h1
            · rw [h1];exact hgk
          |some t=>exact .inr ⟨t,rfl,fsr hno hkl hgk⟩
        · show Le _ (lsS c a many l (f+k+1) o')
          unfold lsS
          rw [hn]
          (refine Le.ok some [] ?_;constructor;all_goals (try simp only [vle,vkt,seval,zt,jV,zi,eTr,mTr,mTk,qf,qh,mvL,lsL,lsS,qj,Zp,Zj,zm,List.length_map]))
          all_goals first|rfl|(simp;done)
      · have d1:decide (((f+k:Nat):Int) < (n:Int))=false:=decide_eq_false (by omega)
        rw [Qap (fun j hj=>hno j (by omega))]
        repeat' (first|(apply nx;with_reducible constructor)|refine jq (by decide) ?_|((first|refine kz env fun Q hQ=>?_|refine kj fun Q hQ=>?_);simp only [vkt,seval,zt,jV,zi,eTr,mTr,mTk,qf,qh,mvL,lsL,lsS,qj,Zp,Zj,zm,List.length_map,hn,d1,Option.getD_none,Option.isSome_none,Option.map_none];(try simp only [ite_and]);(repeat' (first|with_reducible assumption|refine And.intro ?_ ?_|intro hp));all_goals (first|(refine hQ _ ?_;clear hQ Q)|(refine hQ _ (fun h=>?_) (fun h=>?_) <;> clear hQ Q <;> (try simp only [vki,reduceCtorEq] at h))|(refine kx ?_;kernel_rfl)|omega|assumption|with_reducible rfl|skip)))
        (simp only [vrt,Try.results118,vkt,seval,zt,jV,zi,eTr,mTr,mTk,qf,qh,mvL,lsL,lsS,qj,Zp,Zj,zm,List.length_map];refine Fin.ok some [] ?_ ?_ ?_ ?_ ?_ rfl;all_goals (try simp only [vle,vkt,seval,zt,jV,zi,eTr,mTr,mTk,qf,qh,mvL,lsL,lsS,qj,Zp,Zj,zm,List.length_map]))
        all_goals (try simp only [hn,Option.getD_none,Option.isSome_none,Option.map_none])
        all_goals first|rfl|(simp;done)
    · rw [ht]
      by_cases hkl:f+k < n
      · have d1:decide (((f+k:Nat):Int) < (n:Int))=true:=decide_eq_true (by omega)
        repeat' (first|(apply nx;with_reducible constructor)|refine jq (by decide) ?_|((first|refine kz env fun Q hQ=>?_|refine kj fun Q hQ=>?_);simp only [vkt,seval,zt,jV,zi,eTr,mTr,mTk,qf,qh,mvL,lsL,lsS,qj,Zp,Zj,zm,List.length_map,hn,d1,Option.getD_some,Option.isSome_some,Option.map_some];(try simp only [ite_and]);(repeat' (first|with_reducible assumption|refine And.intro ?_ ?_|intro hp));all_goals (first|(refine hQ _ ?_;clear hQ Q)|(refine hQ _ (fun h=>?_) (fun h=>?_) <;> clear hQ Q <;> (try simp only [vki,reduceCtorEq] at h))|(refine kx ?_;kernel_rfl)|omega|assumption|with_reducible rfl|skip)))
        (simp only [vrt,Try.results118,vkt,seval,zt,jV,zi,eTr,mTr,mTk,qf,qh,mvL,lsL,lsS,qj,Zp,Zj,zm,List.length_map];refine Fin.ok some [] ?_ ?_ ?_ ?_ ?_ rfl;all_goals (try simp only [vle,vkt,seval,zt,jV,zi,eTr,mTr,mTk,qf,qh,mvL,lsL,lsS,qj,Zp,Zj,zm,List.length_map]))
        all_goals (try simp only [hn,Option.getD_some,Option.isSome_some,Option.map_some])
        all_goals first|rfl|(simp;done)
      · have d1:decide (((f+k:Nat):Int) < (n:Int))=false:=decide_eq_false (by omega)
        repeat' (first|(apply nx;with_reducible constructor)|refine jq (by decide) ?_|((first|refine kz env fun Q hQ=>?_|refine kj fun Q hQ=>?_);simp only [vkt,seval,zt,jV,zi,eTr,mTr,mTk,qf,qh,mvL,lsL,lsS,qj,Zp,Zj,zm,List.length_map,hn,d1,Option.getD_some,Option.isSome_some,Option.map_some];(try simp only [ite_and]);(repeat' (first|with_reducible assumption|refine And.intro ?_ ?_|intro hp));all_goals (first|(refine hQ _ ?_;clear hQ Q)|(refine hQ _ (fun h=>?_) (fun h=>?_) <;> clear hQ Q <;> (try simp only [vki,reduceCtorEq] at h))|(refine kx ?_;kernel_rfl)|omega|assumption|with_reducible rfl|skip)))
        (simp only [vrt,Try.results118,vkt,seval,zt,jV,zi,eTr,mTr,mTk,qf,qh,mvL,lsL,lsS,qj,Zp,Zj,zm,List.length_map];refine Fin.ok some [] ?_ ?_ ?_ ?_ ?_ rfl;all_goals (try simp only [vle,vkt,seval,zt,jV,zi,eTr,mTr,mTk,qf,qh,mvL,lsL,lsS,qj,Zp,Zj,zm,List.length_map]))
        all_goals (try simp only [hn,Option.getD_some,Option.isSome_some,Option.map_some])
        all_goals first|rfl|(simp;done)
theorem XL (c:Chart) (a:Ask) (many:Nat):∀ m,LsFn c a many m
  |0=>K7 c a many 0 fun _ h=>by omega
  |m+1=>K7 c a many (m+1) fun m' h=>by
      obtain rfl:m=m':=by omega
      exact XL c a many m
end Go.Sym.B
namespace Go.Sym.B
open Go Go.Sym Go.Proofs Go.Sym.C
def Qeh (c:Chart) (a:Ask) (many:Nat) (S:St):List AV→Option Pk
  |[.nil,.v (.int .i64 f),.ptr p6 0,.ptr p7 0,.ptr p8 0,.ptr p9 0,.ptr p10 0,.ptr p11 0]=>match S.h p7 with
    |some (.cells [.clo _ [.ptr p3 0,.ptr p2 0,.ptr p4 0,.ptr p5 0]])=>match S.h p2 with
      |some (.cells [.ptr p0 0])=>match S.h p0 with
        |some (.cells [_,_,.row p1])=>some { pre:=f=0∧LsOk c a [] 0 many,hs:=[p0,p1,p2,p3,p4,p5,p6,p7,p8,p9,p10,p11],ar:=[.sl [],.v (.int .i64 0),.ptr 6 0,.ptr 7 0,.ptr 8 0,.ptr 9 0,.ptr 10 0,.ptr 11 0],L0:=lsL c a many none,v:=.tup [],L1:=(lsL c a many (lsF c a many [] 0)).map some }
        |_=>none
      |_=>none
    |_=>none
  |_=>none
theorem eLs0 {A:Frm→Prop} {c:Chart} {a:Ask} {many:Nat}:qC A Try.prog 118 (fnE (Qeh c a many)):=zx fun S bs q h hp=>by
  unfold Qeh at h
  split at h
  · split at h
    · split at h
      · split at h
        · cases h
          exact XL c a many many [] 0 (by simp) hp.2
        · cases h
      · cases h
    · cases h
  · cases h
def WP:=kk @ty3 (kk @ty4 (kk @Qf (kk @Qdo (kk @ti3.eq_1 (kk @ti4.eq_1 (kk @kC.eq_1 @V5.eq_1))))))
def UQ:=kk @aI.eq_1 (kk @aB.eq_1 (kk @qA.eq_1 (kk @zC.eq_1 (kk @UN (@kW)))))
set_option maxHeartbeats 1000000 in
theorem Qfx (c:Chart) (a:Ask) (many:Nat) (ok:LsOk c a [] 0 many):Fn noB Try.prog 85 [aI (j3 c.sold).length,aI many,.clo 86 [.ptr 3 0,.ptr 2 0,.ptr 4 0,.ptr 5 0]] (qg (qI 0 (mvL c a []))) (.tup [qA (((lsF c a many [] 0).map (·.1)).getD []),aB (lsF c a many [] 0).isSome]) (qg (zT 0 ((mvL c a (((lsF c a many [] 0).map (·.2)).getD [])).map some))) 0:=by
  have env:Env (fun _=>True) Try.prog tyB (tab [(118,fnE (Qeh c a many))]):=qM ⟨eLs0,trivial⟩
  refine Fn.of (A:=fun _=>True) (n0:=6) (D:=noD) (Fn0 Try.func85 rfl (fun vs w=>by kernel_rfl) (by kernel_rfl)) (by simp) (by simp [AV.ids,AV.idsL,aI]) Qds (fun _ _ _ _=>trivial) qH ?_
  obtain ⟨o,ho⟩:∃ o,lsF c a many [] 0=o:=⟨_,rfl⟩
  rw [ho]
  show Sym _ _ _ (zq [aI (j3 c.sold).length,aI many,.clo 86 [.ptr 3 0,.ptr 2 0,.ptr 4 0,.ptr 5 0]] 6 (qg [(0,qf c.cabins c.secs 1),(1,qh c.sold),(2,.cells [.ptr 0 0]),(3,.cells [.sl ((j3 c.sold).map zC)]),(4,.cells (qj a)),(5,.cells [.sl []])])) (yB tyB noD Try.f85 fun S rv=>Fin S rv _ 6 (qg [(0,qf c.cabins c.secs 1),(1,qh c.sold),(2,.cells [.ptr 0 0]),(3,.cells [.sl ((j3 c.sold).map zC)]),(4,.cells (qj a)),(5,.cells [.sl (((o.map (·.2)).getD []).map eTr)])]) 0)
  repeat' (first|(apply nx;with_reducible constructor)|refine jq (by decide) ?_|((first|refine kz env fun Q hQ=>?_|refine kj fun Q hQ=>?_);simp only [vkt,seval,WP,UQ,zi,eTr,mTr,mTk,qf,qh,mvL,lsL,qj,Qeh,List.length_map,List.map_nil,ho,ok,Option.getD_none,Option.isSome_none,Option.map_none];(try simp only [ite_and]);(repeat' (first|with_reducible assumption|refine And.intro ?_ ?_|intro hp));all_goals (first|(refine hQ _ ?_;clear hQ Q)|(refine hQ _ (fun h=>?_) (fun h=>?_) <;> clear hQ Q <;> (try simp only [vki,reduceCtorEq] at h))|(refine kx ?_;kernel_rfl)|omega|assumption|with_reducible rfl|skip)))
  (simp only [vrt,Try.results85,vkt,seval,WP,UQ,zi,eTr,mTr,mTk,qf,qh,mvL,lsL,qj,Qeh,List.length_map,List.map_nil];refine Fin.ok some [] ?_ ?_ ?_ ?_ ?_ rfl;all_goals (try simp only [vle,vkt,seval,WP,UQ,zi,eTr,mTr,mTk,qf,qh,mvL,lsL,qj,Qeh,List.length_map,List.map_nil]))
  all_goals first|rfl|(simp;done)|exact fun i hi=>(match i,hi with|0,_=>rfl|1,_=>rfl)
theorem QeF (c:Chart) (a:Ask) (m:Nat):Vj c a m=(lsF c a m [] 0).map (·.2):=by
  unfold Vj lsF
  generalize Qt (j3 c.sold).length m [] 0=L
  induction L with
  |nil=>rfl
  |cons l L ih =>
    rw [List.findSome?_cons,List.findSome?_cons]
    have hl:lsG c a l=(yQ c.cabins c.secs a (QQ c l) c.sold).map fun t=>(l,t):=rfl
    rw [hl]
    cases yQ c.cabins c.secs a (QQ c l) c.sold with
    |none=>exact ih
    |some t=>rfl
def Qe (c:Chart) (a:Ask) (many:Nat) (S:St):List AV→Option Pk
  |[.v (.int .i64 n),.v (.int .i64 m),.clo f [.ptr p3 0,.ptr p2 0,.ptr p4 0,.ptr p5 0]]=>match S.h p2 with
    |some (.cells [.ptr p0 0])=>match S.h p0 with
      |some (.cells [_,_,.row p1])=>some { pre:=n=(j3 c.sold).length∧m=(many:Int)∧f=86∧LsOk c a [] 0 many,hs:=[p0,p1,p2,p3,p4,p5],ar:=[aI (j3 c.sold).length,aI many,.clo 86 [.ptr 3 0,.ptr 2 0,.ptr 4 0,.ptr 5 0]],L0:=mvL c a [],v:=.tup [qA (((lsF c a many [] 0).map (·.1)).getD []),aB (lsF c a many [] 0).isSome],L1:=(mvL c a (((lsF c a many [] 0).map (·.2)).getD [])).map some }
      |_=>none
    |_=>none
  |_=>none
theorem Qj3 {A:Frm→Prop} {c:Chart} {a:Ask} {many:Nat}:qC A Try.prog 85 (fnE (Qe c a many)):=zx fun S bs q h hp=>by
  unfold Qe at h
  split at h
  · split at h
    · split at h
      · cases h
        exact Qfx c a many hp.2.2.2
      · cases h
    · cases h
  · cases h
theorem L6 {c:Chart} {a:Ask} (h:wy c a=0) {t:List Tr} (ht:(List.range 3).findSome? (Vj c a)=some t):Q9 c a=(t,0):=by
  unfold Q9
  rw [if_neg (by simpa using h),ht]
theorem Ld {c:Chart} {a:Ask} (h:wy c a=0) (ht:(List.range 3).findSome? (Vj c a)=none):Q9 c a=([],11):=by
  unfold Q9
  rw [if_neg (by simpa using h),ht]
def mdS (c:Chart) (a:Ask) (k:Nat):St:={ t:=asg [(3,.ptr 1 0),(4,.nil),(5,aI 0),(6,.ptr 4 0),(8,.ptr 5 0),(24,aI k)],h:=qg [(1,.cells (qj a)),(2,qf c.cabins c.secs 3),(3,qh c.sold),(4,.cells [.ptr 2 0]),(5,.cells [.sl ((j3 c.sold).map zC)])],n:=6 }
def jX:=kk @ty3 (kk @Qf (kk @vg (kk @kX (kk @JH (kk @QeZ (kk @Qd1 (kk @Qb (kk @ti3.eq_1 (kk @kC.eq_1 (kk @yI.eq_1 (kk @xB.eq_1 (kk @Wq.eq_1 (kk @R4.eq_1 (kk @Ul.eq_1 @xE.eq_1))))))))))))))
def Qs:=kk @aI.eq_1 (kk @aB.eq_1 (kk @qA.eq_1 (@kW)))
set_option maxHeartbeats 1000000 in
theorem Qg8 (c:Chart) (a:Ask) (hc:c.cabins.length≤maxLen) (ha:a.sexes.length≤maxLen):FnV Try.prog 32 [qa c,qw a] (.tup [zi (Q9 c a).1,aI (Q9 c a).2]):=by
  have ec:(⟨c.cabins,c.secs,c.sold⟩:Chart)=c:=rfl
  have ea:(⟨a.party,a.frm,a.to,a.sexes,a.dog⟩:Ask)=a:=rfl
  by_cases h0:wy c a=0
  · have hval:=(Wj h0).val
    have hsx:=(Wj h0).sx
    have h8:=hval.many
    have h100:c.sold.length≤100:=by omega
    have env0:Env (fun _=>True) Try.prog tyB (tab [(66,fnE zb),(84,zk false ZP)]):=qM ⟨V6,elone,trivial⟩
    have env1:∀ k,Env (fun _=>True) Try.prog tyB (tab [(85,fnE (Qe c a k))]):=fun k=>qM ⟨Qj3,trivial⟩
    have env:=env0
    refine Fn.of (A:=fun _=>True) (n0:=0) (D:=noD) (Fn0 Try.func32 rfl (fun vs w=>by kernel_rfl) (by kernel_rfl)) (by simp) (by simp [AV.ids,AV.idsL,qa,qb,qw,qj]) (fun i o h=>by cases h) (fun _ _ _ _=>trivial) qH ?_
    repeat' (first|(apply nx;with_reducible constructor)|refine jq (by decide) ?_|((first|refine kz env fun Q hQ=>?_|refine kj fun Q hQ=>?_);simp only [vkt,seval,jX,Qs,zi,qa,qb,qw,qj,mTk,qd,qf,qh,qm,mvL,mdS,zb,ZP,Qe,List.length_map,List.map_nil,ec,ea,h0,h100];(try simp only [ite_and]);(repeat' (first|with_reducible assumption|refine And.intro ?_ ?_|intro hp));all_goals (first|(refine hQ _ ?_;clear hQ Q)|(refine hQ _ (fun h=>?_) (fun h=>?_) <;> clear hQ Q <;> (try simp only [vki,reduceCtorEq] at h))|(refine kx ?_;kernel_rfl)|omega|assumption|with_reducible rfl|skip)))
    refine qU (fun k:{ k:Nat // k≤3∧∀ j,j < k→Vj c a j=none }=>mdS c a k.1) (fun k=>3 - k.1) ⟨0,Nat.zero_le _,fun j h=>absurd h (Nat.not_lt_zero _)⟩ ?_ fun ⟨k,hk,hno⟩=>?_
    · (refine Le.ok some [] ?_;constructor;all_goals (try simp only [vle,vkt,seval,jX,Qs,zi,qa,qb,qw,qj,mTk,qd,qf,qh,qm,mvL,mdS,zb,ZP,Qe,List.length_map,List.map_nil]))
      all_goals first|rfl|(simp;done)
    simp only at hk hno ⊢
    clear env
    have env:=env1 k
    by_cases hk3:k < 3
    · have d1:decide ((k:Int) < 3)=true:=decide_eq_true (by omega)
      have w1:IntKind.wrap .i64 ((k:Int)+1)=((k+1:Nat):Int):=by rw [wrap64 (by omega) (by omega)];rfl
      have hok:LsOk c a [] 0 k:=⟨hval,hsx,by simp;omega,.inl (Nat.zero_le _),by simp⟩
      have hN:=QeF c a k
      obtain ⟨o,ho⟩:∃ o,lsF c a k [] 0=o:=⟨_,rfl⟩
      rw [ho] at hN
      cases o with
      |none =>
        repeat' (first|(apply nx;with_reducible constructor)|refine jq (by decide) ?_|((first|refine kz env fun Q hQ=>?_|refine kj fun Q hQ=>?_);simp only [vkt,seval,jX,Qs,zi,qa,qb,qw,qj,mTk,qd,qf,qh,qm,mvL,mdS,zb,ZP,Qe,List.length_map,List.map_nil,d1,w1,hok,ho,Option.getD_none,Option.isSome_none,Option.map_none];(try simp only [ite_and]);(repeat' (first|with_reducible assumption|refine And.intro ?_ ?_|intro hp));all_goals (first|(refine hQ _ ?_;clear hQ Q)|(refine hQ _ (fun h=>?_) (fun h=>?_) <;> clear hQ Q <;> (try simp only [vki,reduceCtorEq] at h))|(refine kx ?_;kernel_rfl)|omega|assumption|with_reducible rfl|skip)))
        refine ⟨⟨k+1,hk3,fun j hj=>?_⟩,by show 3 - (k+1) < 3 - k;omega, ?_⟩
        · rcases Nat.lt_or_eq_of_le (Nat.le_of_lt_succ hj) with h1|h1
          · exact hno j h1
          · rw [h1];exact hN
        · (refine Le.ok some [] ?_;constructor;all_goals (try simp only [vle,vkt,seval,jX,Qs,zi,qa,qb,qw,qj,mTk,qd,qf,qh,qm,mvL,mdS,zb,ZP,Qe,List.length_map,List.map_nil]))
          all_goals first|rfl|(simp;done)
      |some t =>
        rw [L6 h0 (fsr hno hk3 hN)]
        repeat' (first|(apply nx;with_reducible constructor)|refine jq (by decide) ?_|((first|refine kz env fun Q hQ=>?_|refine kj fun Q hQ=>?_);simp only [vkt,seval,jX,Qs,zi,qa,qb,qw,qj,mTk,qd,qf,qh,qm,mvL,mdS,zb,ZP,Qe,List.length_map,List.map_nil,d1,w1,hok,ho,Option.getD_some,Option.isSome_some,Option.map_some];(try simp only [ite_and]);(repeat' (first|with_reducible assumption|refine And.intro ?_ ?_|intro hp));all_goals (first|(refine hQ _ ?_;clear hQ Q)|(refine hQ _ (fun h=>?_) (fun h=>?_) <;> clear hQ Q <;> (try simp only [vki,reduceCtorEq] at h))|(refine kx ?_;kernel_rfl)|omega|assumption|with_reducible rfl|skip)))
        (simp only [vrt,Try.results32,vkt,seval,jX,Qs,zi,qa,qb,qw,qj,mTk,qd,qf,qh,qm,mvL,mdS,zb,ZP,Qe,List.length_map,List.map_nil];refine Fin.val rfl ?_;(try simp only [AV.le,AV.leL]))
        all_goals first|rfl|(simp;done)
    · have d1:decide ((k:Int) < 3)=false:=decide_eq_false (by omega)
      rw [Ld h0 (Qap (fun j hj=>hno j (by omega)))]
      repeat' (first|(apply nx;with_reducible constructor)|refine jq (by decide) ?_|((first|refine kz env fun Q hQ=>?_|refine kj fun Q hQ=>?_);simp only [vkt,seval,jX,Qs,zi,qa,qb,qw,qj,mTk,qd,qf,qh,qm,mvL,mdS,zb,ZP,Qe,List.length_map,List.map_nil,d1];(try simp only [ite_and]);(repeat' (first|with_reducible assumption|refine And.intro ?_ ?_|intro hp));all_goals (first|(refine hQ _ ?_;clear hQ Q)|(refine hQ _ (fun h=>?_) (fun h=>?_) <;> clear hQ Q <;> (try simp only [vki,reduceCtorEq] at h))|(refine kx ?_;kernel_rfl)|omega|assumption|with_reducible rfl|skip)))
      (simp only [vrt,Try.results32,vkt,seval,jX,Qs,zi,qa,qb,qw,qj,mTk,qd,qf,qh,qm,mvL,mdS,zb,ZP,Qe,List.length_map,List.map_nil];refine Fin.val rfl ?_;(try simp only [AV.le,AV.leL]))
      all_goals first|rfl|(simp;done)
  · have env:Env (fun _=>True) Try.prog tyB (tab [(66,fnE zb)]):=qM ⟨V6,trivial⟩
    refine Fn.of (A:=fun _=>True) (n0:=0) (D:=noD) (Fn0 Try.func32 rfl (fun vs w=>by kernel_rfl) (by kernel_rfl)) (by simp) (by simp [AV.ids,AV.idsL,qa,qb,qw,qj]) (fun i o h=>by cases h) (fun _ _ _ _=>trivial) qH ?_
    rw [show Q9 c a=([],wy c a) by unfold Q9;rw [if_pos (by simpa using h0)]]
    repeat' (first|(apply nx;with_reducible constructor)|refine jq (by decide) ?_|((first|refine kz env fun Q hQ=>?_|refine kj fun Q hQ=>?_);simp only [vkt,seval,jX,Qs,zi,qa,qb,qw,qj,mTk,qd,qf,qh,qm,mvL,mdS,zb,ZP,Qe,List.length_map,List.map_nil,ec,ea,h0];(try simp only [ite_and]);(repeat' (first|with_reducible assumption|refine And.intro ?_ ?_|intro hp));all_goals (first|(refine hQ _ ?_;clear hQ Q)|(refine hQ _ (fun h=>?_) (fun h=>?_) <;> clear hQ Q <;> (try simp only [vki,reduceCtorEq] at h))|(refine kx ?_;kernel_rfl)|omega|assumption|with_reducible rfl|skip)))
    (simp only [vrt,Try.results32,vkt,seval,jX,Qs,zi,qa,qb,qw,qj,mTk,qd,qf,qh,qm,mvL,mdS,zb,ZP,Qe,List.length_map,List.map_nil];refine Fin.val rfl ?_;(try simp only [AV.le,AV.leL]))
    all_goals first|rfl|(simp;done)
end Go.Sym.B
namespace Go.Sym.B
open Go Go.Sym Go.Proofs Go.Sym.C
theorem Ri {cs:List Cabin} {a:Ask}:∀ (m:Nat) (sold:List Tk) (begun:List Bunk),∀ x ∈ ww cs a m sold begun,x.1.length=begun.length+m
  |0,sold,begun,x,hx=>by
    simp only [ww,List.mem_singleton] at hx
    subst hx;rfl
  |m+1,sold,begun,x,hx=>by
    rw [xR,List.mem_flatMap] at hx
    obtain ⟨b,hb,hx⟩:=hx
    unfold gbL at hx
    split at hx
    · rw [Ri m _ _ x hx];simp;omega
    · simp at hx
theorem QjW {c:Chart} {a:Ask} (h:a.sexes.length=1) {j:Nat} (hj:j < (plP c a).length):((plP c a).getD j default).1=[((plP c a).getD j default).1.getD 0 default]:=by
  have:=Ri a.sexes.length c.sold [] _ (vL (l:=plP c a) (d:=default) hj)
  rw [h] at this
  generalize ((plP c a).getD j default).1=l at this ⊢
  match l,this with
  |[b],_=>rfl
theorem Wp (c:Chart) (a:Ask) (s:Int):(xN c a s).length=(plP c (X9 a s)).length:=by simp [xN]
theorem Qbe {c:Chart} {a:Ask} {s:Int} {j:Nat} (hj:j < (plP c (X9 a s)).length):(xN c a s).getD j default=((plP c (X9 a s)).getD j default).1.getD 0 default:=by
  simp [xN,List.getD_eq_getElem?_getD,hj]
def opR (c:Chart) (a:Ask) (s:Int) (j:Nat):List (List DV):=((xN c a s).take j).map qp
theorem Qhz {c:Chart} {a:Ask} {s:Int} {j:Nat} (hj:j < (plP c (X9 a s)).length):opR c a s (j+1)=opR c a s j++[qp (((plP c (X9 a s)).getD j default).1.getD 0 default)]:=by
  unfold opR
  rw [← Qbe hj,List.take_succ_eq_append_getElem (by rw [Wp];exact hj),List.map_append]
  simp [List.getD_eq_getElem?_getD,show j < (xN c a s).length by rw [Wp];exact hj]
theorem wG (c:Chart) (a:Ask) (s:Int) (j:Nat):zI 2 (opR c a s j)=True:=by
  unfold opR
  exact qW _
theorem K3 (c:Chart) (a:Ask) (k:Nat):(Zu c a k).length=k:=by simp [Zu]
theorem QeW (c:Chart) (a:Ask):(Je c a).length=(a.to - a.frm).toNat:=K3 _ _ _
theorem QdG {c:Chart} {a:Ask} {i:Nat} (hi:i < (a.to - a.frm).toNat) (h:xN c a (a.frm+i)=[]):(Je c a).any (·.isEmpty)=true:=by
  rw [List.any_eq_true]
  refine ⟨_,List.mem_map.2 ⟨i,List.mem_range.2 hi,rfl⟩, ?_⟩
  show (xN c a (a.frm+i)).isEmpty=true
  rw [h];rfl
theorem Qfa {c:Chart} {a:Ask} (h:∀ i,i < (a.to - a.frm).toNat→xN c a (a.frm+i) ≠ []):(Je c a).any (·.isEmpty)=false:=by
  rw [List.any_eq_false]
  intro l hl
  obtain ⟨i,hi,rfl⟩:=List.mem_map.1 hl
  have:=h i (List.mem_range.1 hi)
  simpa using this
theorem QcK {c:Chart} {a:Ask} (h:wy c a=0):0≤a.frm∧a.frm < a.to∧a.to≤c.secs:=by
  have hk:=(yS h).2
  unfold xh at hk
  split at hk
  · exact absurd hk (by decide)
  split at hk
  · exact absurd hk (by decide)
  split at hk
  · exact absurd hk ‹_›
  rename_i h3
  exact R9 (Decidable.not_not.1 h3)
theorem Qaj {c:Chart} {a:Ask} (h:wy c a=0) (s:Int):PlOk c (X9 a s):=⟨(Wj h).val,(Wj h).sx⟩
theorem BhOk.mono {L:List (List Bunk)} {es:List (Value × Value)} {i j:Nat} (h:BhOk L es i) (hij:i≤j):BhOk L es j:=⟨h.ok,fun k h1 h2=>h.look k (by omega) h2⟩
theorem Qeq {c:Chart} {a:Ask} (h:wy c a=0):∀ l ∈ Je c a,l.length≤1000:=by
  intro l hl
  obtain ⟨i,hi,rfl⟩:=List.mem_map.1 hl
  rw [Wp]
  have:=Qcq (Qaj h (a.frm+i))
  omega
def chC (L:List (List Bunk)) (k:Nat):Int:=if k=0 then 0 else (yJ L ⟨-1,0⟩).2 - 1
end Go.Sym.B
namespace Go.Sym.B
open Go Go.Sym Go.Proofs Go.Sym.C
def mks:Nat→List (Nat × AObj)
  |0=>[]
  |k+1=>(20+k,.mark) :: mks k
def dks:Nat→List ADf
  |0=>[]
  |k+1=>.mark (20+k) :: dks k
def chT (s:Int):List (Nat × AV):=[(3,.ptr 1 0),(4,.nil),(5,aI 0),(6,aI 0),(7,.ptr 2 0),(8,.ptr 4 0),(9,aI s)]
def chS (c:Chart) (a:Ask) (i:Nat):St:={ t:=asg (chT (a.frm+i)),h:=qg ([(1,.cells (qj a)),(2,qf c.cabins c.secs 3),(3,qh c.sold),(4,.cells [.row 5]),(5,.row 37 1 ((Zu c a i).map qz))]++mks i),n:=25,d:=dks i }
def crL0 (s:Int):List (Nat × AV):=chT s++[(11,.ptr 26 0),(56,.clo 114 [.ptr 27 0,.ptr 28 0])]
def crL (s:Int):List (Nat × AV):=chT s++[(11,.ptr 26 0)]
def crH (c:Chart) (a:Ask) (T:List (Nat × AObj)) (i j:Nat):List (Nat × AObj):=[(1,.cells (qj a)),(4,.cells [.row 5]),(5,.row 37 1 ((Zu c a i).map qz)),(26,.cells [.row 29]),(29,.row 49 2 (opR c a (a.frm+i) j))]++T
theorem QaY (c:Chart) (a:Ask):za [2,3,27,28] 31 0 (plL c a)=[(2,qf c.cabins c.secs 3),(3,qh c.sold),(27,.cells [.ptr 2 0]),(28,.cells (qj a))]:=by
  simp [za,plL,qy,AObj.ren,AV.renL,AV.ren,qf,qh,qj]
theorem UE (c:Chart) (a:Ask) (j:Nat):za [2] 31 0 (plH c a j)=[(2,qf c.cabins c.secs 31),(31,qh ((plP c a).getD j default).2)]:=by
  simp [za,plH,qm,qy,AObj.ren,AV.renL,AV.ren,qf,qh]
def c2O (L:List (List Bunk)) (es:List (Value × Value)):List (Nat × AObj):=[(4,.cells [.row 5]),(5,.row 37 1 (L.map qz)),(25,.map es),(26,.cells [.mp 25])]
def c2T:List (Nat × AV):=[(4,.nil),(5,aI 0),(6,aI 0),(8,.ptr 4 0),(13,.ptr 26 0),(14,.clo 82 [.ptr 4 0,.ptr 26 0])]
def c2S (T:List (Nat × AObj)) (D:List ADf) (L:List (List Bunk)) (es:List (Value × Value)) (y:Nat):St:={ t:=asg (c2T++[(15,aI ((y:Int) - 1))]),h:=qg (c2O L es++T),n:=27,d:=D }
def c3S (T:List (Nat × AObj)) (D:List ADf) (L:List (List Bunk)) (es:List (Value × Value)) (A:Nat) (l:List Bunk) (k:Nat):St:={ t:=asg (c2T++[(15,aI (A:Nat)),(83,qc l),(84,aI l.length),(85,aI k)]),h:=qg (c2O L es++T),n:=27,d:=D }
def c4S (T:List (Nat × AObj)) (D:List ADf) (L:List (List Bunk)) (es:List (Value × Value)) (k:Nat):St:={ t:=asg [(4,.row 27),(5,aI (chC L k)),(6,aI 0),(8,.ptr 4 0),(13,.ptr 26 0),(14,.clo 82 [.ptr 4 0,.ptr 26 0]),(103,aI L.length),(104,aI k)],h:=qg (c2O L es++(27,.row 49 2 ((wkK L k).map qp)) :: T),n:=28,d:=D }
def qN:=kk @ty3 (kk @ty4 (kk @Qf (kk @vg (kk @kX (kk @QeA (kk @JH (kk @JI (kk @kZ (kk @Qjm (kk @Qjz (kk @ti3.eq_1 (kk @ti4.eq_1 (kk @kC.eq_1 (kk @yI.eq_1 (kk @xB.eq_1 (kk @UY.eq_1 (kk @Wq.eq_1 (kk @Wi.eq_1 (kk @xQ.eq_1 (kk @Lc.eq_1 @Qar.eq_1))))))))))))))))))))
def zO:=kk @aI.eq_1 (kk @aB.eq_1 (kk @fnQ.eq_1 (kk @Qf4.eq_1 (kk @Qf4.eq_2 (@kW)))))
set_option maxHeartbeats 40000000 in
theorem QeQ (c:Chart) (a:Ask) (hc:c.cabins.length≤maxLen) (ha:a.sexes.length≤maxLen):FnV Try.prog 29 [qa c,qw a] (.tup [qc (Zw c a).1,aI (Zw c a).2.1,aI (Zw c a).2.2]):=by
  have env:Env (fun F=>F.r=none) Try.prog tyB (tab [(66,fnE zb),(68,fnE qF),(82,fnQ vI)]):=qM ⟨V6,Yg,eNx1,trivial⟩
  refine Fn.of (A:=fun F=>F.r=none) (n0:=0) (D:=noD) (Fn0 Try.func29 rfl (fun vs w=>by kernel_rfl) (by kernel_rfl)) (by simp) (by simp [AV.ids,AV.idsL,qa,qb,qw,qj]) (fun i o h=>by cases h) (fun _ _ _ h=>h) qH ?_
  have ec:(⟨c.cabins,c.secs,c.sold⟩:Chart)=c:=rfl
  have ea:(⟨a.party,a.frm,a.to,a.sexes,a.dog⟩:Ask)=a:=rfl
  unfold Zw
  by_cases h0:wy c a=0
  · rw [if_neg (by simpa using h0)]
    by_cases h1:1 < a.sexes.length
    · rw [if_pos h1]
      have d1:decide ((1:Int) < (a.sexes.length:Int))=true:=decide_eq_true (by omega)
      repeat' (first|(apply nx;with_reducible constructor)|refine jq (by decide) ?_|((first|refine kz env fun Q hQ=>?_|refine kj fun Q hQ=>?_);simp only [vkt,seval,qN,zO,ql,qc,qp,qz,qE,qP,qW,qQ,qa,qb,qw,qj,mTk,qd,qf,qh,qm,plL,zb,qF,vI,nxL,wE,chT,chS,crL,c2O,c2T,c2S,c3S,c4S,wG,List.length_map,nth,hwL,Nat.zero_add,Nat.sub_zero,ec,ea,h0,d1];(try simp only [ite_and]);(repeat' (first|with_reducible assumption|refine And.intro ?_ ?_|intro hp));all_goals (first|(refine hQ _ ?_;clear hQ Q)|(refine hQ _ (fun h=>?_) (fun h=>?_) <;> clear hQ Q <;> (try simp only [vki,reduceCtorEq] at h))|(refine kx ?_;kernel_rfl)|omega|assumption|with_reducible rfl|skip)))
      (simp only [vrt,Try.results29,vkt,seval,qN,zO,ql,qc,qp,qz,qE,qP,qW,qQ,qa,qb,qw,qj,mTk,qd,qf,qh,qm,plL,zb,qF,vI,nxL,wE,chT,chS,crL,c2O,c2T,c2S,c3S,c4S,wG,List.length_map,nth,hwL,Nat.zero_add,Nat.sub_zero];refine Fin.val rfl ?_;(try simp only [AV.le,AV.leL]))
      all_goals first|rfl|(simp;done)
    rw [if_neg h1]
    have d1:decide ((1:Int) < (a.sexes.length:Int))=false:=decide_eq_false (by omega)
    cases hd:a.dog with
    |true =>
      rw [hd] at ea
      repeat' (first|(apply nx;with_reducible constructor)|refine jq (by decide) ?_|((first|refine kz env fun Q hQ=>?_|refine kj fun Q hQ=>?_);simp only [vkt,seval,qN,zO,ql,qc,qp,qz,qE,qP,qW,qQ,qa,qb,qw,qj,mTk,qd,qf,qh,qm,plL,zb,qF,vI,nxL,wE,chT,chS,crL,c2O,c2T,c2S,c3S,c4S,wG,List.length_map,nth,hwL,Nat.zero_add,Nat.sub_zero,ec,ea,h0,d1,hd];(try simp only [ite_and]);(repeat' (first|with_reducible assumption|refine And.intro ?_ ?_|intro hp));all_goals (first|(refine hQ _ ?_;clear hQ Q)|(refine hQ _ (fun h=>?_) (fun h=>?_) <;> clear hQ Q <;> (try simp only [vki,reduceCtorEq] at h))|(refine kx ?_;kernel_rfl)|omega|assumption|with_reducible rfl|skip)))
      (simp only [vrt,Try.results29,vkt,seval,qN,zO,ql,qc,qp,qz,qE,qP,qW,qQ,qa,qb,qw,qj,mTk,qd,qf,qh,qm,plL,zb,qF,vI,nxL,wE,chT,chS,crL,c2O,c2T,c2S,c3S,c4S,wG,List.length_map,nth,hwL,Nat.zero_add,Nat.sub_zero];refine Fin.val rfl ?_;(try simp only [AV.le,AV.leL]))
      all_goals first|rfl|(simp;done)
    |false =>
      rw [if_neg (by decide)]
      have hone:a.sexes.length=1:=by have:=(Kz (yS h0).2).2;omega
      have hway:=QcK h0
      have hsec:=(Wj h0).val.car.secs
      obtain ⟨M,hM⟩:∃ M,(a.to - a.frm).toNat=M:=⟨_,rfl⟩
      have ea':=ea
      rw [hd] at ea'
      repeat' (first|(apply nx;with_reducible constructor)|refine jq (by decide) ?_|((first|refine kz env fun Q hQ=>?_|refine kj fun Q hQ=>?_);simp only [vkt,seval,qN,zO,ql,qc,qp,qz,qE,qP,qW,qQ,qa,qb,qw,qj,mTk,qd,qf,qh,qm,plL,zb,qF,vI,nxL,wE,chT,chS,crL,c2O,c2T,c2S,c3S,c4S,wG,List.length_map,nth,hwL,Nat.zero_add,Nat.sub_zero,ec,ea',h0,d1,hd];(try simp only [ite_and]);(repeat' (first|with_reducible assumption|refine And.intro ?_ ?_|intro hp));all_goals (first|(refine hQ _ ?_;clear hQ Q)|(refine hQ _ (fun h=>?_) (fun h=>?_) <;> clear hQ Q <;> (try simp only [vki,reduceCtorEq] at h))|(refine kx ?_;kernel_rfl)|omega|assumption|with_reducible rfl|skip)))
      refine qU (fun i:{ i:Nat // i≤M∧∀ j,j < i→xN c a (a.frm+j) ≠ [] }=>chS c a i.1) (fun i=>M - i.1) ⟨0,Nat.zero_le _,fun j h=>absurd h (Nat.not_lt_zero _)⟩ ?_ fun ⟨i,hi,hno⟩=>?_
      · show Le _ { t:=asg (chT (a.frm+(0:Nat))),h:=qg [(1,.cells (qj a)),(2,qf c.cabins c.secs 3),(3,qh c.sold),(4,.cells [.row 5]),(5,.row 37 1 [])],n:=25 }
        (refine Le.ok (fun i=>if i=5 then none else some i) [] ?_;constructor;all_goals (try simp only [vle,vkt,seval,qN,zO,ql,qc,qp,qz,qE,qP,qW,qQ,qa,qb,qw,qj,mTk,qd,qf,qh,qm,plL,zb,qF,vI,nxL,wE,chT,chS,crL,c2O,c2T,c2S,c3S,c4S,wG,List.length_map,nth,hwL,Nat.zero_add,Nat.sub_zero]))
        all_goals first|rfl|(simp [hd,Zu,qj,AV.leL,AV.le,AV.idsL,AV.ids];done)|(intro i hi;rw [if_neg (by omega)];done)
      simp only at hi hno ⊢
      by_cases hlt:i < M
      · have hi5:i=0∨i=1∨i=2∨i=3∨i=4:=by omega
        rcases hi5 with hi5|hi5|hi5|hi5|hi5
        all_goals
          have hmk:=congrArg mks hi5
          have hdk:=congrArg dks hi5
          simp only [mks,dks,Nat.reduceAdd] at hmk hdk
          have w1:IntKind.wrap .i64 (a.frm+(i:Int)+1)=a.frm+(i:Int)+1:=wrap64 (by omega) (by omega)
          obtain ⟨s,hs⟩:∃ s,a.frm+(i:Int)=s:=⟨_,rfl⟩
          have hoa:(⟨a.party,s,s+1,a.sexes,a.dog⟩:Ask)=X9 a s:=rfl
          have dlt:decide (s < a.to)=true:=decide_eq_true (by omega)
          rw [hs] at w1
          have hpo:=Qaj h0 s
          unfold chS
          rw [hmk,hdk]
          repeat' (first|(apply nx;with_reducible constructor)|refine jq (by decide) ?_|((first|refine kz env fun Q hQ=>?_|refine kj fun Q hQ=>?_);simp only [vkt,seval,qN,zO,ql,qc,qp,qz,qE,qP,qW,qQ,qa,qb,qw,qj,mTk,qd,qf,qh,qm,plL,zb,qF,vI,nxL,wE,chT,chS,crL,c2O,c2T,c2S,c3S,c4S,wG,List.length_map,nth,hwL,Nat.zero_add,Nat.sub_zero,hs,w1,dlt,List.cons_append,List.nil_append];(try simp only [ite_and]);(repeat' (first|with_reducible assumption|refine And.intro ?_ ?_|intro hp));all_goals (first|(refine hQ _ ?_;clear hQ Q)|(refine hQ _ (fun h=>?_) (fun h=>?_) <;> clear hQ Q <;> (try simp only [vki,reduceCtorEq] at h))|(refine kx ?_;kernel_rfl)|omega|assumption|with_reducible rfl|skip)))
          obtain ⟨o,ho⟩:∃ o,X9 a s=o:=⟨_,rfl⟩
          rw [ho] at hpo hoa
          have hbd:=Qcq hpo
          have hm:(729:Nat)+1≤maxLen:=by decide
          obtain ⟨N,hN⟩:∃ N,(plP c o).length=N:=⟨_,rfl⟩
          rw [hN] at hbd
          have hoc:qj o=[.v (.int .i64 a.party),.v (.int .i64 s),.v (.int .i64 (s+1)),.sl (a.sexes.map zC),.v (.bool a.dog)]:=by rw [← ho];rfl
          refine xO (S':={ t:=asg (crL0 s),h:=qg (crH c a (mks i) i 0++[(2,qf c.cabins c.secs 3),(3,qh c.sold),(27,.cells [.ptr 2 0]),(28,.cells (qj o))]),n:=30,j:=0,d:=dks i,m:=0 }) ?_ ?_
          · show Le _ { t:=asg [(3,.ptr 1 0),(4,.nil),(5,aI 0),(6,aI 0),(7,.ptr 2 0),(8,.ptr 4 0),(9,aI s),(11,.ptr 26 0),(56,.clo 114 [.ptr 27 0,.ptr 28 0])],h:=qg (([(1,.cells (qj a)),(4,.cells [.row 5]),(5,.row 37 1 ((Zu c a i).map qz)),(26,.cells [.row 29]),(29,.row 49 2 [])]++mks i)++[(2,qf c.cabins c.secs 3),(3,qh c.sold),(27,.cells [.ptr 2 0]),(28,.cells (qj o))]),n:=30,j:=0,d:=dks i,m:=0 }
            rw [hoc,hmk,hdk]
            simp only [List.cons_append,List.nil_append]
            (refine Le.ok (fun i=>if i=29 then none else some i) [] ?_;constructor;all_goals (try simp only [vle,vkt,seval,qN,zO,ql,qc,qp,qz,qE,qP,qW,qQ,qa,qb,qw,qj,mTk,qd,qf,qh,qm,plL,zb,qF,vI,nxL,wE,chT,chS,crL,c2O,c2T,c2S,c3S,c4S,wG,List.length_map,nth,hwL,Nat.zero_add,Nat.sub_zero]))
            all_goals first|rfl|(simp [hd,AV.leL,AV.le,AV.idsL,AV.ids];done)|(intro i hi;rw [if_neg (by omega)];done)|(simp [ADf.le,ADf.ids];done)
          rw [← QaY c o]
          refine vV (fun F h=>h) 1 (L:=crL0 s) (L':=crL s) (xs:=[3,27,28]) (hs:=[2,3,27,28]) (n:=30) (nl:=1) (hc:=crH c a (mks i) i) (Lp:=plL c o) (jj:=fun _=>0) (d:=dks i) (ys:=plY c o) (hl:=plH c o) (ans:=fun _=>true) (ex:=.ret) (caps:=[.ptr 27 0,.ptr 28 0]) (caps0:=[.ptr 2 0,.ptr 3 0]) (N:=(plP c o).length) (R:=N) (A':=fun _ _=>True) rfl (Jq hpo) (by rw [hN];exact RA) (.inl rfl) ?_ ?_ ?_ rfl (by simp) ?_ (by simp) (fun _ _ _ _ _ _=>trivial) ?_ ?_ ?_ ?_ ?_ ?_ (fun j hj=>?_) ?_ (fun j hj=>?_) (fun _=>?_) (fun _ h=>by cases h)
          · simp [AV.leL,AV.le]
          · simp [AV.nocbL,AV.nocb]
          · simp [WW,plL,qf,qh,qj,AObj.nocb,AV.nocbL,AV.nocb,AObj.ids,AV.ids,AV.idsL,AObj.ren,AV.renL,AV.ren,AObj.le,AV.leL,AV.le,qy]
          · simp [crH,qg,hmk]
          · simp [crH,qg,hmk]
          · simp [crH,AObj.ids,AV.ids,AV.idsL,qj,hmk]
          · simp [RU,crL,crL0,chT,asg,upd]
          · simp [LD]
          · intro j hj
            simp [absent,crH,UE,hmk]
          · simp [YN,crL,chT,AV.ids,aI]
          · refine ⟨?_,rfl, ?_, ?_,rfl, ?_⟩
            · simp [QR,crH,AObj.ids,AV.ids,AV.idsL,qj,hmk]
            · simp [WA,plH,qm,qf,qh,AObj.nocb,AV.nocbL,AV.nocb,AObj.ids,AV.ids,AV.idsL]
            · simp [VG,plY,qc,AV.nocb,AV.ids]
            · simp [QG,WS,UE,crH,crL,chT,kG,AV.ids,ADf.ids,List.range_succ,aI,hmk,hdk]
          · simp [QR,crH,AObj.ids,AV.ids,AV.idsL,qj,hmk]
          · have env:Env (fun _:Frm=>True) Try.prog tyB (tab []):=qM trivial
            have hjl:j < (plP c (X9 a (a.frm+i))).length:=by rw [hs,ho];omega
            have h1x:((plP c o).getD j default).1=[((plP c o).getD j default).1.getD 0 default]:=QjW (by rw [← ho];exact hone) (by omega)
            have hS:=Qhz hjl
            rw [hs,ho] at hS
            obtain ⟨b,hb⟩:∃ b,((plP c o).getD j default).1.getD 0 default=b:=⟨_,rfl⟩
            rw [hb] at h1x hS
            have hl:(opR c a s j).length≤729:=by
              unfold opR
              rw [List.length_map,List.length_take]
              omega
            have hl1:(opR c a s j).length+1≤maxLen:=by omega
            obtain ⟨r,hr⟩:∃ r,((plP c o).getD j default).2=r:=⟨_,rfl⟩
            have hst:jA (crL s) [57] [2] 30 1 (plY c o j) (crH c a (mks i) i j) (plH c o j)={ t:=asg [(57,qc [b]),(3,.ptr 1 0),(4,.nil),(5,aI 0),(6,aI 0),(7,.ptr 2 0),(8,.ptr 4 0),(9,aI s),(11,.ptr 26 0)],h:=qg ((30,.mark) :: ([(1,.cells (qj a)),(4,.cells [.row 5]),(5,.row 37 1 ((Zu c a i).map qz)),(26,.cells [.row 29]),(29,.row 49 2 (opR c a s j))]++mks i++[(2,qf c.cabins c.secs 31),(31,qh r)])),n:=32,m:=32 }:=by
              simp only [jA,Nat.reduceAdd,UE,plY,h1x,hr,hs,qc,List.map_cons,List.map_nil,AV.ren,List.zip_cons_cons,List.zip_nil_right,crH,crL,chT,Zt,List.cons_append,List.nil_append,List.append_assoc]
              rfl
            show Sym _ _ _ (jA (crL s) [57] [2] 30 1 (plY c o j) (crH c a (mks i) i j) (plH c o j)) _
            rw [hst,hmk]
            simp only [List.cons_append,List.nil_append]
            repeat' (first|(apply nx;with_reducible constructor)|refine jq (by decide) ?_|((first|refine kz env fun Q hQ=>?_|refine kj fun Q hQ=>?_);simp only [vkt,seval,qN,zO,ql,qc,qp,qz,qE,qP,qW,qQ,qa,qb,qw,qj,mTk,qd,qf,qh,qm,plL,zb,qF,vI,nxL,wE,chT,chS,crL,c2O,c2T,c2S,c3S,c4S,wG,List.length_map,nth,hwL,Nat.zero_add,Nat.sub_zero,hl1,List.getD_cons_zero];(try simp only [ite_and]);(repeat' (first|with_reducible assumption|refine And.intro ?_ ?_|intro hp));all_goals (first|(refine hQ _ ?_;clear hQ Q)|(refine hQ _ (fun h=>?_) (fun h=>?_) <;> clear hQ Q <;> (try simp only [vki,reduceCtorEq] at h))|(refine kx ?_;kernel_rfl)|omega|assumption|with_reducible rfl|skip)))
            refine ⟨rfl,rfl,(fun i=>if i=29 then some 33 else some i),_,RFin.okQ (fun i=>if i=29 then some 33 else some i) [] ?_⟩
            constructor
            all_goals (try simp only [vle,xz,xw,qy,plH,crH,hr,hs,hS,hmk,hdk,List.cons_append,List.nil_append,vkt,seval,qN,zO,ql,qc,qp,qz,qE,qP,qW,qQ,qa,qb,qw,qj,mTk,qd,qf,qh,qm,plL,zb,qF,vI,nxL,wE,chT,chS,crL,c2O,c2T,c2S,c3S,c4S,wG,List.length_map,nth,hwL,Nat.zero_add,Nat.sub_zero])
            all_goals first|rfl|(simp;done)|(simp [crL,chT,kG,AV.ids,ADf.ids,List.range_succ,aI];done)|(simp [qj,AV.leL,AV.le];done)
          · have eh:qg ((30,AObj.mark) :: crH c a (mks i) i N++za [2,3,27,28] (30+1) 0 (plL c o))=qg ((30,.mark) :: ([(1,.cells (qj a)),(4,.cells [.row 5]),(5,.row 37 1 ((Zu c a i).map qz)),(26,.cells [.row 29]),(29,.row 49 2 (opR c a s N))]++mks i++[(2,qf c.cabins c.secs 3),(3,qh c.sold),(27,.cells [.ptr 2 0]),(28,.cells (qj o))])):=by
              rw [show za [2,3,27,28] (30+1) 0 (plL c o)=za [2,3,27,28] 31 0 (plL c o) from rfl,QaY,← hs];rfl
            rw [eh,hmk,hdk]
            simp only [List.cons_append,List.nil_append]
            have hNl:(xN c a s).length=N:=by rw [Wp,ho];exact hN
            have hoN:opR c a s N=(xN c a s).map qp:=by unfold opR;rw [← hNl,List.take_length]
            have hkl:(Zu c a i).length=i:=K3 c a i
            have hkm:i+1≤maxLen:=by omega
            have hkS:=QbV c a i
            rw [hoN]
            rw [hs] at hkS
            by_cases hN0:N=0
            · have hoe:xN c a s=[]:=List.eq_nil_of_length_eq_zero (by rw [hNl];exact hN0)
              rw [QdG (c:=c) (a:=a) (i:=i) (by omega) (by rw [hs];exact hoe)]
              rw [hoe]
              repeat' (first|(apply nx;with_reducible constructor)|refine jq (by decide) ?_|((first|refine kz env fun Q hQ=>?_|refine kj fun Q hQ=>?_);simp only [vkt,seval,qN,zO,ql,qc,qp,qz,qE,qP,qW,qQ,qa,qb,qw,qj,mTk,qd,qf,qh,qm,plL,zb,qF,vI,nxL,wE,chT,chS,crL,c2O,c2T,c2S,c3S,c4S,wG,List.length_map,nth,hwL,Nat.zero_add,Nat.sub_zero];(try simp only [ite_and]);(repeat' (first|with_reducible assumption|refine And.intro ?_ ?_|intro hp));all_goals (first|(refine hQ _ ?_;clear hQ Q)|(refine hQ _ (fun h=>?_) (fun h=>?_) <;> clear hQ Q <;> (try simp only [vki,reduceCtorEq] at h))|(refine kx ?_;kernel_rfl)|omega|assumption|with_reducible rfl|skip)))
              (simp only [vrt,Try.results29,vkt,seval,qN,zO,ql,qc,qp,qz,qE,qP,qW,qQ,qa,qb,qw,qj,mTk,qd,qf,qh,qm,plL,zb,qF,vI,nxL,wE,chT,chS,crL,c2O,c2T,c2S,c3S,c4S,wG,List.length_map,nth,hwL,Nat.zero_add,Nat.sub_zero];refine Fin.val rfl ?_;(try simp only [AV.le,AV.leL]))
              all_goals first|rfl|(simp;done)
            · have d2:decide ((N:Int)=0)=false:=decide_eq_false (by omega)
              repeat' (first|(apply nx;with_reducible constructor)|refine jq (by decide) ?_|((first|refine kz env fun Q hQ=>?_|refine kj fun Q hQ=>?_);simp only [vkt,seval,qN,zO,ql,qc,qp,qz,qE,qP,qW,qQ,qa,qb,qw,qj,mTk,qd,qf,qh,qm,plL,zb,qF,vI,nxL,wE,chT,chS,crL,c2O,c2T,c2S,c3S,c4S,wG,List.length_map,nth,hwL,Nat.zero_add,Nat.sub_zero,hNl,d2,hkl,hkm,w1];(try simp only [ite_and]);(repeat' (first|with_reducible assumption|refine And.intro ?_ ?_|intro hp));all_goals (first|(refine hQ _ ?_;clear hQ Q)|(refine hQ _ (fun h=>?_) (fun h=>?_) <;> clear hQ Q <;> (try simp only [vki,reduceCtorEq] at h))|(refine kx ?_;kernel_rfl)|omega|assumption|with_reducible rfl|skip)))
              refine ⟨⟨i+1,hlt,fun j hj=>?_⟩,by show M - (i+1) < M - i;omega, ?_⟩
              · rcases Nat.lt_or_eq_of_le (Nat.le_of_lt_succ hj) with h3|h3
                · exact hno j h3
                · subst h3;rw [hs];intro h4;rw [h4] at hNl;exact hN0 hNl.symm
              · have hs1:a.frm+((i+1:Nat):Int)=s+1:=by omega
                show Le _ (chS c a (i+1))
                unfold chS
                rw [hkS,hs1]
                simp only [mks,dks,hmk,hdk,hi5,Nat.reduceAdd,List.cons_append,List.nil_append]
                refine Le.ok (fun k=>if k=5 then some 32 else if k=20+i then some 30 else some k) [] ?_
                constructor
                all_goals (try simp only [hi5,Nat.reduceAdd,vle,vkt,seval,qN,zO,ql,qc,qp,qz,qE,qP,qW,qQ,qa,qb,qw,qj,mTk,qd,qf,qh,qm,plL,zb,qF,vI,nxL,wE,chT,chS,crL,c2O,c2T,c2S,c3S,c4S,wG,List.length_map,nth,hwL,Nat.zero_add,Nat.sub_zero])
                all_goals first|rfl|(simp;done)|(simp [ADf.le,ADf.ids];done)
      · have hie:i=M:=by omega
        subst hie
        have hns:(Je c a).any (·.isEmpty)=false:=Qfa (fun i hi=>hno i (by omega))
        rw [hns]
        have hLl:(Je c a).length=i:=by rw [QeW];exact hM
        have hLe:Zu c a i=Je c a:=by rw [← hM];rfl
        have hea:=Qeq h0
        obtain ⟨L,hL⟩:∃ L,Je c a=L:=⟨_,rfl⟩
        rw [hL] at hLl hLe hea ⊢
        have hmx:(100000:Nat)≤maxLen:=by decide
        have hi5:i=1∨i=2∨i=3∨i=4∨i=5:=by omega
        have dlt:decide (a.frm+(i:Int) < a.to)=false:=decide_eq_false (by omega)
        have w2:IntKind.wrap .i64 ((i:Int) - 2)=((i - 1:Nat):Int) - 1:=by rw [wrap64 (by omega) (by omega)];omega
        rcases hi5 with hi5|hi5|hi5|hi5|hi5
        all_goals
          have hmk:=congrArg mks hi5
          have hdk:=congrArg dks hi5
          simp only [mks,dks,Nat.reduceAdd] at hmk hdk
          unfold chS
          rw [hmk,hdk,hLe]
          simp only [List.cons_append,List.nil_append]
          repeat' (first|(apply nx;with_reducible constructor)|refine jq (by decide) ?_|((first|refine kz env fun Q hQ=>?_|refine kj fun Q hQ=>?_);simp only [vkt,seval,qN,zO,ql,qc,qp,qz,qE,qP,qW,qQ,qa,qb,qw,qj,mTk,qd,qf,qh,qm,plL,zb,qF,vI,nxL,wE,chT,chS,crL,c2O,c2T,c2S,c3S,c4S,wG,List.length_map,nth,hwL,Nat.zero_add,Nat.sub_zero,dlt,hLl,w2];(try simp only [ite_and]);(repeat' (first|with_reducible assumption|refine And.intro ?_ ?_|intro hp));all_goals (first|(refine hQ _ ?_;clear hQ Q)|(refine hQ _ (fun h=>?_) (fun h=>?_) <;> clear hQ Q <;> (try simp only [vki,reduceCtorEq] at h))|(refine kx ?_;kernel_rfl)|omega|assumption|with_reducible rfl|skip)))
          refine qU (fun y:{ y:Nat × List (Value × Value) // y.1 < i∧BhOk L y.2 y.1∧y.2.length≤1000 * (i - y.1) }=>c2S (mks i) (dks i) L y.1.2 y.1.1) (fun y=>y.1.1) ⟨(i - 1,[]),by omega,by rw [← hLl];exact QkE L,Nat.zero_le _⟩ ?_ fun ⟨(y,es),hy,hB,hel⟩=>?_
          · simp only [c2S,hmk,hdk,c2O,c2T,List.cons_append,List.nil_append]
            (refine Le.ok some [] ?_;constructor;all_goals (try simp only [vle,vkt,seval,qN,zO,ql,qc,qp,qz,qE,qP,qW,qQ,qa,qb,qw,qj,mTk,qd,qf,qh,qm,plL,zb,qF,vI,nxL,wE,chT,chS,crL,c2O,c2T,c2S,c3S,c4S,wG,List.length_map,nth,hwL,Nat.zero_add,Nat.sub_zero]))
            all_goals first|rfl|(simp [ADf.le,ADf.ids];done)
          simp only at hy hB hel ⊢
          simp only [c2S,hmk,hdk,c2O,c2T,List.cons_append,List.nil_append]
          cases y with
          |succ A =>
            have e1:((A+1:Nat):Int) - 1=(A:Int):=by omega
            have d3:decide ((0:Int)≤(A:Int))=true:=decide_eq_true (by omega)
            have hAl:A < L.length:=by omega
            have hg:=UZ hAl
            obtain ⟨l,hl⟩:∃ l,L.getD A []=l:=⟨_,rfl⟩
            rw [hl] at hg
            have hll:l.length≤1000:=hea l (by rw [← hl];exact vL hAl)
            have iA:((A:Int)).toNat=A:=rfl
            rw [e1]
            repeat' (first|(apply nx;with_reducible constructor)|refine jq (by decide) ?_|((first|refine kz env fun Q hQ=>?_|refine kj fun Q hQ=>?_);simp only [vkt,seval,qN,zO,ql,qc,qp,qz,qE,qP,qW,qQ,qa,qb,qw,qj,mTk,qd,qf,qh,qm,plL,zb,qF,vI,nxL,wE,chT,chS,crL,c2O,c2T,c2S,c3S,c4S,wG,List.length_map,nth,hwL,Nat.zero_add,Nat.sub_zero,d3,hg,iA,hAl];(try simp only [ite_and]);(repeat' (first|with_reducible assumption|refine And.intro ?_ ?_|intro hp));all_goals (first|(refine hQ _ ?_;clear hQ Q)|(refine hQ _ (fun h=>?_) (fun h=>?_) <;> clear hQ Q <;> (try simp only [vki,reduceCtorEq] at h))|(refine kx ?_;kernel_rfl)|omega|assumption|with_reducible rfl|skip)))
            refine qU (fun z:{ z:Nat × List (Value × Value) // z.1≤l.length∧BhIn L z.2 A z.1∧z.2.length≤1000 * (i - (A+1))+z.1 }=>c3S (mks i) (dks i) L z.1.2 A l z.1.1) (fun z=>l.length - z.1.1) ⟨(0,es),Nat.zero_le _,hB.inn,hel⟩ ?_ fun ⟨(k,es),hk,hI,hel⟩=>?_
            · simp only [c3S,hmk,hdk,c2O,c2T,List.cons_append,List.nil_append]
              (refine Le.ok some [] ?_;constructor;all_goals (try simp only [vle,vkt,seval,qN,zO,ql,qc,qp,qz,qE,qP,qW,qQ,qa,qb,qw,qj,mTk,qd,qf,qh,qm,plL,zb,qF,vI,nxL,wE,chT,chS,crL,c2O,c2T,c2S,c3S,c4S,wG,List.length_map,nth,hwL,Nat.zero_add,Nat.sub_zero]))
              all_goals first|rfl|(simp [ADf.le,ADf.ids];done)
            simp only at hk hI hel ⊢
            simp only [c3S,hmk,hdk,c2O,c2T,List.cons_append,List.nil_append]
            by_cases hkl:k < l.length
            · have d4:decide ((k:Int) < (l.length:Int))=true:=decide_eq_true (by omega)
              have e9:IntKind.wrap .i64 ((k:Int)+1)=((k+1:Nat):Int):=by rw [wrap64 (by omega) (by omega)];rfl
              have wA:IntKind.wrap .i64 ((A:Int)+1)=((A+1:Nat):Int):=by rw [wrap64 (by omega) (by omega)];rfl
              have iA1:(((A+1:Nat):Int)).toNat=A+1:=rfl
              obtain ⟨b,hb⟩:∃ b,l.getD k default=b:=⟨_,rfl⟩
              have eb:(⟨b.cab,b.bed⟩:Bunk)=b:=rfl
              obtain ⟨⟨q,v⟩,hv⟩:∃ p,yJ (L.drop (A+1)) b=p:=⟨_,rfl⟩
              have hNx:NxOk L es (A+1):=⟨by omega,by omega,hea,hI.bh⟩
              have hM1:MOK (KD.Q (.agg [some .i64,some .i64,some .i64])) es:=hI.bh.ok
              have hml:(yT es (.agg #[.int .i64 (A:Int),.int .i64 b.cab,.int .i64 b.bed]) (.int .i64 v)).length≤maxLen:=by
                have:=ZR (es:=es) (k:=.agg #[.int .i64 (A:Int),.int .i64 b.cab,.int .i64 b.bed]) (v:=.int .i64 v)
                omega
              repeat' (first|(apply nx;with_reducible constructor)|refine jq (by decide) ?_|((first|refine kz env fun Q hQ=>?_|refine kj fun Q hQ=>?_);simp only [vkt,seval,qN,zO,ql,qc,qp,qz,qE,qP,qW,qQ,qa,qb,qw,qj,mTk,qd,qf,qh,qm,plL,zb,qF,vI,nxL,wE,chT,chS,crL,c2O,c2T,c2S,c3S,c4S,wG,List.length_map,nth,hwL,Nat.zero_add,Nat.sub_zero,d4,e9,wA,iA1,hb,eb,hv,hNx,hM1,hml];(try simp only [ite_and]);(repeat' (first|with_reducible assumption|refine And.intro ?_ ?_|intro hp));all_goals (first|(refine hQ _ ?_;clear hQ Q)|(refine hQ _ (fun h=>?_) (fun h=>?_) <;> clear hQ Q <;> (try simp only [vki,reduceCtorEq] at h))|(refine kx ?_;kernel_rfl)|omega|assumption|with_reducible rfl|skip)))
              have hel':(yT es (ZH A b) (.int .i64 v)).length≤1000 * (i - (A+1))+(k+1):=by
                have h2:=ZR (es:=es) (k:=ZH A b) (v:=.int .i64 v)
                omega
              refine ⟨⟨(k+1,yT es (ZH A b) (.int .i64 v)),hkl,hI.step (by rw [hl];exact hb) (by rw [hv]),hel'⟩,by show l.length - (k+1) < l.length - k;omega, ?_⟩
              simp only [c3S,ZH,hmk,hdk,c2O,c2T,List.cons_append,List.nil_append]
              (refine Le.ok some [] ?_;constructor;all_goals (try simp only [vle,vkt,seval,qN,zO,ql,qc,qp,qz,qE,qP,qW,qQ,qa,qb,qw,qj,mTk,qd,qf,qh,qm,plL,zb,qF,vI,nxL,wE,chT,chS,crL,c2O,c2T,c2S,c3S,c4S,wG,List.length_map,nth,hwL,Nat.zero_add,Nat.sub_zero]))
              all_goals first|rfl|(simp [ADf.le,ADf.ids];done)
            · have d4:decide ((k:Int) < (l.length:Int))=false:=decide_eq_false (by omega)
              have hke:k=l.length:=by omega
              subst hke
              have wm:IntKind.wrap .i64 ((A:Int) - 1)=(A:Int) - 1:=wrap64 (by omega) (by omega)
              repeat' (first|(apply nx;with_reducible constructor)|refine jq (by decide) ?_|((first|refine kz env fun Q hQ=>?_|refine kj fun Q hQ=>?_);simp only [vkt,seval,qN,zO,ql,qc,qp,qz,qE,qP,qW,qQ,qa,qb,qw,qj,mTk,qd,qf,qh,qm,plL,zb,qF,vI,nxL,wE,chT,chS,crL,c2O,c2T,c2S,c3S,c4S,wG,List.length_map,nth,hwL,Nat.zero_add,Nat.sub_zero,d4,wm];(try simp only [ite_and]);(repeat' (first|with_reducible assumption|refine And.intro ?_ ?_|intro hp));all_goals (first|(refine hQ _ ?_;clear hQ Q)|(refine hQ _ (fun h=>?_) (fun h=>?_) <;> clear hQ Q <;> (try simp only [vki,reduceCtorEq] at h))|(refine kx ?_;kernel_rfl)|omega|assumption|with_reducible rfl|skip)))
              refine ⟨⟨(A,es),by omega,by rw [← hl] at hI;exact hI.out,by show es.length≤1000 * (i - A);omega⟩,Nat.lt_succ_self _, ?_⟩
              simp only [c2S,hmk,hdk,c2O,c2T,List.cons_append,List.nil_append]
              (refine Le.ok some [] ?_;constructor;all_goals (try simp only [vle,vkt,seval,qN,zO,ql,qc,qp,qz,qE,qP,qW,qQ,qa,qb,qw,qj,mTk,qd,qf,qh,qm,plL,zb,qF,vI,nxL,wE,chT,chS,crL,c2O,c2T,c2S,c3S,c4S,wG,List.length_map,nth,hwL,Nat.zero_add,Nat.sub_zero]))
              all_goals first|rfl|(simp [ADf.le,ADf.ids];done)
          |zero =>
            have d3:decide ((0:Int)≤((0:Nat):Int) - 1)=false:=by decide
            repeat' (first|(apply nx;with_reducible constructor)|refine jq (by decide) ?_|((first|refine kz env fun Q hQ=>?_|refine kj fun Q hQ=>?_);simp only [vkt,seval,qN,zO,ql,qc,qp,qz,qE,qP,qW,qQ,qa,qb,qw,qj,mTk,qd,qf,qh,qm,plL,zb,qF,vI,nxL,wE,chT,chS,crL,c2O,c2T,c2S,c3S,c4S,wG,List.length_map,nth,hwL,Nat.zero_add,Nat.sub_zero,d3,hLl];(try simp only [ite_and]);(repeat' (first|with_reducible assumption|refine And.intro ?_ ?_|intro hp));all_goals (first|(refine hQ _ ?_;clear hQ Q)|(refine hQ _ (fun h=>?_) (fun h=>?_) <;> clear hQ Q <;> (try simp only [vki,reduceCtorEq] at h))|(refine kx ?_;kernel_rfl)|omega|assumption|with_reducible rfl|skip)))
            refine qU (fun k:{ k:Nat // k≤i }=>c4S (mks i) (dks i) L es k.1) (fun k=>i - k.1) ⟨0,Nat.zero_le _⟩ ?_ fun ⟨k,hk⟩=>?_
            · simp only [c4S,hmk,hdk,c2O,chC,wkK,List.cons_append,List.nil_append]
              (refine Le.ok (fun i=>if i=27 then none else some i) [] ?_;constructor;all_goals (try simp only [vle,vkt,seval,qN,zO,ql,qc,qp,qz,qE,qP,qW,qQ,qa,qb,qw,qj,mTk,qd,qf,qh,qm,plL,zb,qF,vI,nxL,wE,chT,chS,crL,c2O,c2T,c2S,c3S,c4S,wG,List.length_map,nth,hwL,Nat.zero_add,Nat.sub_zero]))
              all_goals first|rfl|(simp [hLl];done)|(simp [ADf.le,ADf.ids];done)|(intro i hi;rw [if_neg (by omega)];done)
            simp only at hk ⊢
            simp only [c4S,hmk,hdk,c2O,List.cons_append,List.nil_append,hLl]
            have hwl:=U6 L k
            by_cases hkl:k < i
            · have d4:decide ((k:Int) < (i:Int))=true:=decide_eq_true (by omega)
              have e9:IntKind.wrap .i64 ((k:Int)+1)=((k+1:Nat):Int):=by rw [wrap64 (by omega) (by omega)];rfl
              have hNx:NxOk L es k:=⟨by omega,by omega,hea,hB.mono (Nat.zero_le _)⟩
              have ik:((k:Int)).toNat=k:=rfl
              have hkm:k+1≤maxLen:=by omega
              have hS:=Xw L k
              obtain ⟨⟨q,v⟩,hv⟩:∃ p,yJ (L.drop k) (wkB L k)=p:=⟨_,rfl⟩
              rw [hv] at hS
              have hvb:=XR (L.drop k) (wkB L k)
              rw [hv,List.length_drop] at hvb
              have hvb:0≤v∧v≤1000:=by simp only at hvb;omega
              by_cases hk0:k=0
              · have d5:decide ((0:Int) < (k:Int))=false:=decide_eq_false (by omega)
                have d6:decide ((k:Int)=0)=true:=decide_eq_true (by omega)
                have wv:IntKind.wrap .i64 (v - 1)=v - 1:=wrap64 (by omega) (by omega)
                have hwb:wkB L k=⟨-1,0⟩:=if_pos hk0
                rw [hwb] at hv
                have hc1:chC L (k+1)=v - 1:=by
                  unfold chC
                  rw [if_neg (by omega)]
                  rw [hk0,List.drop_zero] at hv
                  rw [hv]
                repeat' (first|(apply nx;with_reducible constructor)|refine jq (by decide) ?_|((first|refine kz env fun Q hQ=>?_|refine kj fun Q hQ=>?_);simp only [vkt,seval,qN,zO,ql,qc,qp,qz,qE,qP,qW,qQ,qa,qb,qw,qj,mTk,qd,qf,qh,qm,plL,zb,qF,vI,nxL,wE,chT,chS,crL,c2O,c2T,c2S,c3S,c4S,wG,List.length_map,nth,hwL,Nat.zero_add,Nat.sub_zero,d4,d5,d6,e9,ik,hv,hNx,wv,hwl,hkm];(try simp only [ite_and]);(repeat' (first|with_reducible assumption|refine And.intro ?_ ?_|intro hp));all_goals (first|(refine hQ _ ?_;clear hQ Q)|(refine hQ _ (fun h=>?_) (fun h=>?_) <;> clear hQ Q <;> (try simp only [vki,reduceCtorEq] at h))|(refine kx ?_;kernel_rfl)|omega|assumption|with_reducible rfl|skip)))
                refine ⟨⟨k+1,hkl⟩,by show i - (k+1) < i - k;omega, ?_⟩
                simp only [hS,hc1]
                (refine Le.ok (fun i=>if i=27 then some 31 else some i) [] ?_;constructor;all_goals (try simp only [vle,vkt,seval,qN,zO,ql,qc,qp,qz,qE,qP,qW,qQ,qa,qb,qw,qj,mTk,qd,qf,qh,qm,plL,zb,qF,vI,nxL,wE,chT,chS,crL,c2O,c2T,c2S,c3S,c4S,wG,List.length_map,nth,hwL,Nat.zero_add,Nat.sub_zero]))
                all_goals first|rfl|(rw [List.map_append];rfl)|(simp [ADf.le,ADf.ids];done)|(intro i hi;rw [if_neg (by omega)];done)
              · have d5:decide ((0:Int) < (k:Int))=true:=decide_eq_true (by omega)
                have d6:decide ((k:Int)=0)=false:=decide_eq_false (by omega)
                have wk:IntKind.wrap .i64 ((k:Int) - 1)=((k - 1:Nat):Int):=by rw [wrap64 (by omega) (by omega)];omega
                have ik1:(((k - 1:Nat):Int)).toNat=k - 1:=rfl
                have hk1:k - 1 < k:=by omega
                have hgb:=hBunk (l:=wkK L k) (n:=k - 1) (by omega)
                obtain ⟨b,hb⟩:∃ b,wkB L k=b:=⟨_,rfl⟩
                rw [show (wkK L k).getD (k - 1) default=b by rw [← hb];unfold wkB;rw [if_neg hk0]] at hgb
                rw [hb] at hv
                have eb:(⟨b.cab,b.bed⟩:Bunk)=b:=rfl
                have hc1:chC L (k+1)=chC L k:=by
                  unfold chC
                  rw [if_neg (by omega),if_neg hk0]
                repeat' (first|(apply nx;with_reducible constructor)|refine jq (by decide) ?_|((first|refine kz env fun Q hQ=>?_|refine kj fun Q hQ=>?_);simp only [vkt,seval,qN,zO,ql,qc,qp,qz,qE,qP,qW,qQ,qa,qb,qw,qj,mTk,qd,qf,qh,qm,plL,zb,qF,vI,nxL,wE,chT,chS,crL,c2O,c2T,c2S,c3S,c4S,wG,List.length_map,nth,hwL,Nat.zero_add,Nat.sub_zero,d4,d5,d6,e9,ik,wk,ik1,hk1,hgb,eb,hv,hNx,hwl,hkm];(try simp only [ite_and]);(repeat' (first|with_reducible assumption|refine And.intro ?_ ?_|intro hp));all_goals (first|(refine hQ _ ?_;clear hQ Q)|(refine hQ _ (fun h=>?_) (fun h=>?_) <;> clear hQ Q <;> (try simp only [vki,reduceCtorEq] at h))|(refine kx ?_;kernel_rfl)|omega|assumption|with_reducible rfl|skip)))
                refine ⟨⟨k+1,hkl⟩,by show i - (k+1) < i - k;omega, ?_⟩
                simp only [hS,hc1]
                (refine Le.ok (fun i=>if i=27 then some 31 else some i) [] ?_;constructor;all_goals (try simp only [vle,vkt,seval,qN,zO,ql,qc,qp,qz,qE,qP,qW,qQ,qa,qb,qw,qj,mTk,qd,qf,qh,qm,plL,zb,qF,vI,nxL,wE,chT,chS,crL,c2O,c2T,c2S,c3S,c4S,wG,List.length_map,nth,hwL,Nat.zero_add,Nat.sub_zero]))
                all_goals first|rfl|(rw [List.map_append];rfl)|(simp [ADf.le,ADf.ids];done)|(intro i hi;rw [if_neg (by omega)];done)
            · have d4:decide ((k:Int) < (i:Int))=false:=decide_eq_false (by omega)
              have hke:k=L.length:=by omega
              have hww:=QjQ L
              have hcc:chC L L.length=(yJ L ⟨-1,0⟩).2 - 1:=if_neg (by omega)
              rw [hke,hww,hcc]
              rw [hke] at d4
              repeat' (first|(apply nx;with_reducible constructor)|refine jq (by decide) ?_|((first|refine kz env fun Q hQ=>?_|refine kj fun Q hQ=>?_);simp only [vkt,seval,qN,zO,ql,qc,qp,qz,qE,qP,qW,qQ,qa,qb,qw,qj,mTk,qd,qf,qh,qm,plL,zb,qF,vI,nxL,wE,chT,chS,crL,c2O,c2T,c2S,c3S,c4S,wG,List.length_map,nth,hwL,Nat.zero_add,Nat.sub_zero,d4];(try simp only [ite_and]);(repeat' (first|with_reducible assumption|refine And.intro ?_ ?_|intro hp));all_goals (first|(refine hQ _ ?_;clear hQ Q)|(refine hQ _ (fun h=>?_) (fun h=>?_) <;> clear hQ Q <;> (try simp only [vki,reduceCtorEq] at h))|(refine kx ?_;kernel_rfl)|omega|assumption|with_reducible rfl|skip)))
              simp only [vrt,Try.results29,vkt,seval,qN,zO,ql,qc,qp,qz,qE,qP,qW,qQ,qa,qb,qw,qj,mTk,qd,qf,qh,qm,plL,zb,qF,vI,nxL,wE,chT,chS,crL,c2O,c2T,c2S,c3S,c4S,wG,List.length_map,nth,hwL,Nat.zero_add,Nat.sub_zero]
              show Fin _ _ _ 0 (qg []) 0
              refine Fin.ok some [27] ?_ ?_ ?_ ?_ ?_ rfl
              all_goals (try simp only [vle,vkt,seval,qN,zO,ql,qc,qp,qz,qE,qP,qW,qQ,qa,qb,qw,qj,mTk,qd,qf,qh,qm,plL,zb,qF,vI,nxL,wE,chT,chS,crL,c2O,c2T,c2S,c3S,c4S,wG,List.length_map,nth,hwL,Nat.zero_add,Nat.sub_zero])
              all_goals first|rfl|(simp;done)|(simp [ADf.le,ADf.ids];done)
  · rw [if_pos (by simpa using h0)]
    repeat' (first|(apply nx;with_reducible constructor)|refine jq (by decide) ?_|((first|refine kz env fun Q hQ=>?_|refine kj fun Q hQ=>?_);simp only [vkt,seval,qN,zO,ql,qc,qp,qz,qE,qP,qW,qQ,qa,qb,qw,qj,mTk,qd,qf,qh,qm,plL,zb,qF,vI,nxL,wE,chT,chS,crL,c2O,c2T,c2S,c3S,c4S,wG,List.length_map,nth,hwL,Nat.zero_add,Nat.sub_zero,ec,ea,h0];(try simp only [ite_and]);(repeat' (first|with_reducible assumption|refine And.intro ?_ ?_|intro hp));all_goals (first|(refine hQ _ ?_;clear hQ Q)|(refine hQ _ (fun h=>?_) (fun h=>?_) <;> clear hQ Q <;> (try simp only [vki,reduceCtorEq] at h))|(refine kx ?_;kernel_rfl)|omega|assumption|with_reducible rfl|skip)))
    (simp only [vrt,Try.results29,vkt,seval,qN,zO,ql,qc,qp,qz,qE,qP,qW,qQ,qa,qb,qw,qj,mTk,qd,qf,qh,qm,plL,zb,qF,vI,nxL,wE,chT,chS,crL,c2O,c2T,c2S,c3S,c4S,wG,List.length_map,nth,hwL,Nat.zero_add,Nat.sub_zero];refine Fin.val rfl ?_;(try simp only [AV.le,AV.leL]))
    all_goals first|rfl|(simp;done)
end Go.Sym.B
namespace Go.Sym.B
open Go Go.Sym Go.Proofs Go.Sym.C
def YQ (l m:List Tr) (k:Nat):St:={ t:=asg [(0,zi l),(1,zi m),(4,aB false),(5,aI k)],h:=qg [],n:=0 }
def ym:=kk @ty3 (kk @QeZ (kk @Qd1 (kk @ti3.eq_1 (kk @R4.eq_1 @Ul.eq_1))))
def xG:=kk @aI.eq_1 (@aB.eq_1)
theorem Qj8 (l m:List Tr) (hl:l.length≤1000) (hm:m.length≤1000):FnV Try.prog 80 [zi l,zi m] (aB (decide (l=m))):=by
  have env:Env (fun _=>True) Try.prog tyB (tab []):=qM trivial
  refine Fn.of (A:=fun _=>True) (n0:=0) (D:=noD) (Fn0 Try.func80 rfl (fun vs w=>by kernel_rfl) (by kernel_rfl)) (by simp) (by simp [AV.ids,zi]) (fun i o h=>by cases h) (fun _ _ _ _=>trivial) qH ?_
  by_cases h0:l.length=m.length
  · have d0:decide ((l.length:Int)=(m.length:Int))=true:=decide_eq_true (by omega)
    repeat' (first|(apply nx;with_reducible constructor)|refine jq (by decide) ?_|((first|refine kz env fun Q hQ=>?_|refine kj fun Q hQ=>?_);simp only [vkt,seval,ym,xG,zi,eTr,gTr,YQ,Bool.true_and,Bool.false_and,d0];(try simp only [ite_and]);(repeat' (first|with_reducible assumption|refine And.intro ?_ ?_|intro hp));all_goals (first|(refine hQ _ ?_;clear hQ Q)|(refine hQ _ (fun h=>?_) (fun h=>?_) <;> clear hQ Q <;> (try simp only [vki,reduceCtorEq] at h))|(refine kx ?_;kernel_rfl)|omega|assumption|with_reducible rfl|skip)))
    refine qU (fun k:{ k:Nat // k≤l.length∧∀ j,j < k→l.getD j default=m.getD j default }=>YQ l m k.1) (fun k=>l.length - k.1) ⟨0,Nat.zero_le _,fun j h=>absurd h (Nat.not_lt_zero _)⟩ ?_ fun ⟨k,hk,hno⟩=>?_
    · (refine Le.ok some [] ?_;constructor;all_goals (try simp only [vle,vkt,seval,ym,xG,zi,eTr,gTr,YQ,Bool.true_and,Bool.false_and]))
      all_goals first|rfl|(simp;done)
    · repeat' (first|(apply nx;with_reducible constructor)|refine jq (by decide) ?_)
      (refine kz env fun Q hQ=>?_;simp only [vkt,seval,ym,xG,zi,eTr,gTr,YQ,Bool.true_and,Bool.false_and];(try simp only [ite_and]);(repeat' (first|with_reducible assumption|refine And.intro ?_ ?_|intro hp));all_goals (first|(refine hQ _ ?_;clear hQ Q)|(refine kx ?_;kernel_rfl)|omega|assumption|with_reducible rfl|skip))
      repeat' (first|(apply nx;with_reducible constructor)|refine jq (by decide) ?_)
      (refine yF (by simp only [vkt,seval,ym,xG,zi,eTr,gTr,YQ,Bool.true_and,Bool.false_and];rfl) (fun h=>?_) (fun h=>?_) <;> (try simp only [vki,reduceCtorEq] at h))
      · have hlt:k < l.length:=by omega
        have hlm:k < m.length:=by omega
        have e9:IntKind.wrap .i64 ((k:Int)+1)=((k+1:Nat):Int):=by rw [wrap64 (by omega) (by omega)];rfl
        obtain ⟨x,hx⟩:∃ x,l.getD k default=x:=⟨_,rfl⟩
        obtain ⟨y,hy⟩:∃ x,m.getD k default=x:=⟨_,rfl⟩
        have hxy:(x=y)=(x.ticket=y.ticket∧x.cab=y.cab∧x.bed=y.bed):=by cases x;cases y;simp
        have hne:¬ x=y→decide (l=m)=false:=fun h=>decide_eq_false fun e=>h (by rw [← hx,← hy,e])
        by_cases hxe:x=y
        · rw [hxe] at hx
          repeat' (first|(apply nx;with_reducible constructor)|refine jq (by decide) ?_|((first|refine kz env fun Q hQ=>?_|refine kj fun Q hQ=>?_);simp only [vkt,seval,ym,xG,zi,eTr,gTr,YQ,Bool.true_and,Bool.false_and,hx,hy,hlm,e9,decide_true];(try simp only [ite_and]);(repeat' (first|with_reducible assumption|refine And.intro ?_ ?_|intro hp));all_goals (first|(refine hQ _ ?_;clear hQ Q)|(refine hQ _ (fun h=>?_) (fun h=>?_) <;> clear hQ Q <;> (try simp only [vki,reduceCtorEq] at h))|(refine kx ?_;kernel_rfl)|omega|assumption|with_reducible rfl|skip)))
          refine ⟨⟨k+1,hlt,fun j hj=>?_⟩,by show l.length - (k+1) < l.length - k;omega, ?_⟩
          · rcases Nat.lt_or_eq_of_le (Nat.le_of_lt_succ hj) with h1|h1
            · exact hno j h1
            · rw [h1,hx,hy]
          · (refine Le.ok some [] ?_;constructor;all_goals (try simp only [vle,vkt,seval,ym,xG,zi,eTr,gTr,YQ,Bool.true_and,Bool.false_and]))
            all_goals first|rfl|(simp;done)
        · rw [hne hxe]
          have q:(decide (x.ticket=y.ticket) && (decide (x.cab=y.cab) && decide (x.bed=y.bed)))=false:=by
            rw [hxy] at hxe
            simpa using hxe
          repeat' (first|(apply nx;with_reducible constructor)|refine jq (by decide) ?_|((first|refine kz env fun Q hQ=>?_|refine kj fun Q hQ=>?_);simp only [vkt,seval,ym,xG,zi,eTr,gTr,YQ,Bool.true_and,Bool.false_and,hx,hy,q,hlm,e9];(try simp only [ite_and]);(repeat' (first|with_reducible assumption|refine And.intro ?_ ?_|intro hp));all_goals (first|(refine hQ _ ?_;clear hQ Q)|(refine hQ _ (fun h=>?_) (fun h=>?_) <;> clear hQ Q <;> (try simp only [vki,reduceCtorEq] at h))|(refine kx ?_;kernel_rfl)|omega|assumption|with_reducible rfl|skip)))
          (simp only [vrt,Try.results80,vkt,seval,ym,xG,zi,eTr,gTr,YQ,Bool.true_and,Bool.false_and];refine Fin.val rfl ?_;(try simp only [AV.le,AV.leL]))
          all_goals first|rfl|(simp;done)
      · have hke:k=l.length:=by omega
        subst hke
        rw [decide_eq_true (Xr h0 hno)]
        repeat' (first|(apply nx;with_reducible constructor)|refine jq (by decide) ?_|((first|refine kz env fun Q hQ=>?_|refine kj fun Q hQ=>?_);simp only [vkt,seval,ym,xG,zi,eTr,gTr,YQ,Bool.true_and,Bool.false_and];(try simp only [ite_and]);(repeat' (first|with_reducible assumption|refine And.intro ?_ ?_|intro hp));all_goals (first|(refine hQ _ ?_;clear hQ Q)|(refine hQ _ (fun h=>?_) (fun h=>?_) <;> clear hQ Q <;> (try simp only [vki,reduceCtorEq] at h))|(refine kx ?_;kernel_rfl)|omega|assumption|with_reducible rfl|skip)))
        (simp only [vrt,Try.results80,vkt,seval,ym,xG,zi,eTr,gTr,YQ,Bool.true_and,Bool.false_and];refine Fin.val rfl ?_;(try simp only [AV.le,AV.leL]))
        all_goals first|rfl|(simp;done)
  · have d0:decide ((l.length:Int)=(m.length:Int))=false:=decide_eq_false (by omega)
    rw [decide_eq_false (fun e=>h0 (by rw [e]))]
    repeat' (first|(apply nx;with_reducible constructor)|refine jq (by decide) ?_|((first|refine kz env fun Q hQ=>?_|refine kj fun Q hQ=>?_);simp only [vkt,seval,ym,xG,zi,eTr,gTr,YQ,Bool.true_and,Bool.false_and,d0];(try simp only [ite_and]);(repeat' (first|with_reducible assumption|refine And.intro ?_ ?_|intro hp));all_goals (first|(refine hQ _ ?_;clear hQ Q)|(refine hQ _ (fun h=>?_) (fun h=>?_) <;> clear hQ Q <;> (try simp only [vki,reduceCtorEq] at h))|(refine kx ?_;kernel_rfl)|omega|assumption|with_reducible rfl|skip)))
    (simp only [vrt,Try.results80,vkt,seval,ym,xG,zi,eTr,gTr,YQ,Bool.true_and,Bool.false_and];refine Fin.val rfl ?_;(try simp only [AV.le,AV.leL]))
    all_goals first|rfl|(simp;done)
def VC:List AV→Prop × AV
  |[.sl l,.sl m]=>(l=(l.map dTr).map eTr∧m=(m.map dTr).map eTr∧(l.map dTr).length≤1000∧(m.map dTr).length≤1000,aB (decide ((l.map dTr)=(m.map dTr))))
  |_=>(False,.junk)
theorem eeqT {A:Frm→Prop}:qC A Try.prog 80 (zk true VC):=zn fun vs hv h=>by
  clear hv
  unfold VC at h ⊢
  split at h
  · rename_i l m;obtain ⟨q0,q1,k0,k1⟩:=h
    refine ⟨by first|trivial|(simp [AV.plain,AV.plainL,aI,aB,qA,qc,qx,ql,aTk,cTk];done)|(repeat' split) <;> simp [AV.plain,AV.plainL,aI,aB,qA,qc,qx,ql,aTk,cTk],fun _=>(by simp [AV.flat,AV.flatL,aI,aB]), ?_⟩
    have:=Qj8 (l.map dTr) (m.map dTr) k0 k1
    simp only [zi,← q0,← q1] at this
    first|exact this|(simp only [zi,← q0,← q1];exact this)
  · exact h.elim
def xX:List AV→Prop × AV
  |[.sl m]=>(m=(m.map dTk).map eTk∧(m.map dTk).length≤100,qa (yo (m.map dTk)))
  |_=>(False,.junk)
theorem Qgx {A:Frm→Prop}:qC A Try.prog 77 (zk false xX):=zn fun vs hv h=>by
  clear hv
  unfold xX at h ⊢
  split at h
  · rename_i m;obtain ⟨q0,k0⟩:=h
    refine ⟨by first|trivial|(simp [AV.plain,AV.plainL,aI,aB,qA,qc,qx,ql,aTk,cTk];done)|(repeat' split) <;> simp [AV.plain,AV.plainL,aI,aB,qA,qc,qx,ql,aTk,cTk],fun h=>absurd h (by decide), ?_⟩
    have:=QfQ (m.map dTk) k0
    simp only [qx,← q0] at this
    first|exact this|(simp only [qx,← q0];exact this)
  · exact h.elim
def Wz:List AV→Prop × AV
  |[.v (.int .i64 f),.v (.int .i64 t),.v (.bool d),.sl l]=>(l=(l.map zl).map zC,qw ⟨9,f,t,(l.map zl),d⟩)
  |_=>(False,.junk)
theorem elask {A:Frm→Prop}:qC A Try.prog 78 (zk false Wz):=zn fun vs hv h=>by
  clear hv
  unfold Wz at h ⊢
  split at h
  · rename_i f t d l;have q0:l=(l.map zl).map zC:=h;clear h
    refine ⟨by first|trivial|(simp [AV.plain,AV.plainL,aI,aB,qA,qc,qx,ql,aTk,cTk];done)|(repeat' split) <;> simp [AV.plain,AV.plainL,aI,aB,qA,qc,qx,ql,aTk,cTk],fun h=>absurd h (by decide), ?_⟩
    have:=Qh5 f t d (l.map zl)
    simp only [aB,aI,qA,← q0] at this
    first|exact this|(simp only [aB,aI,qA,← q0];exact this)
  · exact h.elim
end Go.Sym.B
namespace Go.Sym.B
open Go Go.Sym Go.Proofs Go.Sym.C
theorem QS (a b:Int):zG [.v (.int .i64 a),.v (.int .i64 b)]=⟨a,b⟩:=rfl
theorem YK (a b c:Int):dTr [.v (.int .i64 a),.v (.int .i64 b),.v (.int .i64 c)]=⟨a,b,c⟩:=rfl
theorem Wn (a:Int):zl [.v (.int .i64 a)]=a:=rfl
theorem Qjn (a b c d e f:Int) (g:Bool):dTk [.v (.int .i64 a),.v (.int .i64 b),.v (.int .i64 c),.v (.int .i64 d),.v (.int .i64 e),.v (.int .i64 f),.v (.bool g)]=⟨a,b,c,d,e,f,g⟩:=rfl
def Jt:List Tk:=[⟨3,1,2,0,0,4,false⟩,⟨4,2,1,1,2,4,false⟩]
def YB:=kk @Zb (kk @vg (kk @xy (kk @Qx.eq_1 (kk @yI.eq_1 @vW.eq_1))))
def Qc3:=kk @aI.eq_1 (@aB.eq_1)
theorem Qd3:FnV Try.prog 79 [] (qa (yo Jt)):=by
  have env:Env (fun _=>True) Try.prog tyB (tab [(117,zk false Yk),(77,zk false xX)]):=qM ⟨Qjk,Qgx,trivial⟩
  refine Fn.of (A:=fun _=>True) (n0:=0) (D:=noD) (Fn0 Try.func79 rfl (fun vs w=>by kernel_rfl) (by kernel_rfl)) (by simp) (by simp) (fun i o h=>by cases h) (fun _ _ _ _=>trivial) qH ?_
  have hlen:([⟨3,1,2,0,0,4,false⟩,⟨4,2,1,1,2,4,false⟩]:List Tk).length≤100:=by decide
  have hfl:([⟨3,1,2,0,0,4,false⟩,⟨4,2,1,1,2,4,false⟩]:List Tk)=Jt:=rfl
  repeat' (first|(apply nx;with_reducible constructor)|refine jq (by decide) ?_|((first|refine kz env fun Q hQ=>?_|refine kj fun Q hQ=>?_);simp only [vkt,seval,YB,Qc3,aTk,cTk,eTk,qx,qa,qb,Yk,xX,Qjn,List.length_map,List.map_cons,List.map_nil,hlen,hfl];(try simp only [ite_and]);(repeat' (first|with_reducible assumption|refine And.intro ?_ ?_|intro hp));all_goals (first|(refine hQ _ ?_;clear hQ Q)|(refine hQ _ (fun h=>?_) (fun h=>?_) <;> clear hQ Q <;> (try simp only [vki,reduceCtorEq] at h))|(refine kx ?_;kernel_rfl)|omega|assumption|with_reducible rfl|skip)))
  · rfl
  (simp only [vrt,Try.results79,vkt,seval,YB,Qc3,aTk,cTk,eTk,qx,qa,qb,Yk,xX,Qjn,List.length_map,List.map_cons,List.map_nil];refine Fin.val rfl ?_;(try simp only [AV.le,AV.leL]))
  all_goals first|rfl|(simp;done)
def xK:List AV→Prop × AV
  |[]=>(True,qa (yo Jt))
  |_=>(False,.junk)
theorem Qin {A:Frm→Prop}:qC A Try.prog 79 (zk false xK):=zn fun vs hv h=>by
  clear hv
  unfold xK at h ⊢
  split at h
  · clear h
    refine ⟨by first|trivial|(simp [AV.plain,AV.plainL,aI,aB,qA,qc,qx,ql,aTk,cTk];done)|(repeat' split) <;> simp [AV.plain,AV.plainL,aI,aB,qA,qc,qx,ql,aTk,cTk],fun h=>absurd h (by decide), ?_⟩
    have:=Qd3
    first|exact this|(simp only [];exact this)
  · exact h.elim
def QI:List AV→Prop × AV
  |[.agg [.sl c0,.v (.int .i64 c1),.sl c2]]=>(c0=(c0.map qB).map qo∧c2=(c2.map dTk).map eTk∧((⟨(c0.map qB),c1,(c2.map dTk)⟩:Chart)).cabins.length≤maxLen,.tup [aI (QcO ((⟨(c0.map qB),c1,(c2.map dTk)⟩:Chart))),aI (wB ((⟨(c0.map qB),c1,(c2.map dTk)⟩:Chart)))])
  |_=>(False,.junk)
theorem QjG {A:Frm→Prop}:qC A Try.prog 26 (zk true QI):=zn fun vs hv h=>by
  clear hv
  unfold QI at h ⊢
  split at h
  · rename_i c0 c1 c2;obtain ⟨q0,q1,k0⟩:=h
    refine ⟨by first|trivial|(simp [AV.plain,AV.plainL,aI,aB,qA,qc,qx,ql,aTk,cTk];done)|(repeat' split) <;> simp [AV.plain,AV.plainL,aI,aB,qA,qc,qx,ql,aTk,cTk],fun _=>(by simp [AV.flat,AV.flatL,aI,aB]), ?_⟩
    have:=QhZ ((⟨(c0.map qB),c1,(c2.map dTk)⟩:Chart)) k0
    simp only [zR,qa,aI,qx,qb,← q0,← q1] at this
    first|exact this|(simp only [zR,qa,aI,qx,qb,← q0,← q1];exact this)
  · exact h.elim
def QL:List AV→Prop × AV
  |[.agg [.sl c0,.v (.int .i64 c1),.sl c2],.agg [.v (.int .i64 a0),.v (.int .i64 a1),.v (.int .i64 a2),.sl a3,.v (.bool a4)]]=>(c0=(c0.map qB).map qo∧c2=(c2.map dTk).map eTk∧a3=(a3.map zl).map zC∧((⟨(c0.map qB),c1,(c2.map dTk)⟩:Chart)).cabins.length≤maxLen∧((⟨a0,a1,a2,(a3.map zl),a4⟩:Ask)).sexes.length≤maxLen,.tup [qc (Jk ((⟨(c0.map qB),c1,(c2.map dTk)⟩:Chart)) ((⟨a0,a1,a2,(a3.map zl),a4⟩:Ask))).1,aI (Jk ((⟨(c0.map qB),c1,(c2.map dTk)⟩:Chart)) ((⟨a0,a1,a2,(a3.map zl),a4⟩:Ask))).2])
  |_=>(False,.junk)
theorem Qku {A:Frm→Prop}:qC A Try.prog 19 (zk false QL):=zn fun vs hv h=>by
  clear hv
  unfold QL at h ⊢
  split at h
  · rename_i c0 c1 c2 a0 a1 a2 a3 a4;obtain ⟨q0,q1,q2,k0,k1⟩:=h
    refine ⟨by first|trivial|(simp [AV.plain,AV.plainL,aI,aB,qA,qc,qx,ql,aTk,cTk];done)|(repeat' split) <;> simp [AV.plain,AV.plainL,aI,aB,qA,qc,qx,ql,aTk,cTk],fun h=>absurd h (by decide), ?_⟩
    have:=Qi0 ((⟨(c0.map qB),c1,(c2.map dTk)⟩:Chart)) ((⟨a0,a1,a2,(a3.map zl),a4⟩:Ask)) k0 k1
    simp only [qw,aB,zR,qa,aI,qA,qx,qj,qb,← q0,← q1,← q2] at this
    first|exact this|(simp only [qw,aB,zR,qa,aI,qA,qx,qj,qb,← q0,← q1,← q2];exact this)
  · exact h.elim
def ve:List AV→Prop × AV
  |[.agg [.sl c0,.v (.int .i64 c1),.sl c2],.agg [.v (.int .i64 a0),.v (.int .i64 a1),.v (.int .i64 a2),.sl a3,.v (.bool a4)]]=>(c0=(c0.map qB).map qo∧c2=(c2.map dTk).map eTk∧a3=(a3.map zl).map zC∧((⟨(c0.map qB),c1,(c2.map dTk)⟩:Chart)).cabins.length≤maxLen∧((⟨a0,a1,a2,(a3.map zl),a4⟩:Ask)).sexes.length≤maxLen,.tup [qc (Zw ((⟨(c0.map qB),c1,(c2.map dTk)⟩:Chart)) ((⟨a0,a1,a2,(a3.map zl),a4⟩:Ask))).1,aI (Zw ((⟨(c0.map qB),c1,(c2.map dTk)⟩:Chart)) ((⟨a0,a1,a2,(a3.map zl),a4⟩:Ask))).2.1,aI (Zw ((⟨(c0.map qB),c1,(c2.map dTk)⟩:Chart)) ((⟨a0,a1,a2,(a3.map zl),a4⟩:Ask))).2.2])
  |_=>(False,.junk)
theorem Qg4 {A:Frm→Prop}:qC A Try.prog 29 (zk false ve):=zn fun vs hv h=>by
  clear hv
  unfold ve at h ⊢
  split at h
  · rename_i c0 c1 c2 a0 a1 a2 a3 a4;obtain ⟨q0,q1,q2,k0,k1⟩:=h
    refine ⟨by first|trivial|(simp [AV.plain,AV.plainL,aI,aB,qA,qc,qx,ql,aTk,cTk];done)|(repeat' split) <;> simp [AV.plain,AV.plainL,aI,aB,qA,qc,qx,ql,aTk,cTk],fun h=>absurd h (by decide), ?_⟩
    have:=QeQ ((⟨(c0.map qB),c1,(c2.map dTk)⟩:Chart)) ((⟨a0,a1,a2,(a3.map zl),a4⟩:Ask)) k0 k1
    simp only [qw,aB,zR,qa,aI,qA,qx,qj,qb,← q0,← q1,← q2] at this
    first|exact this|(simp only [qw,aB,zR,qa,aI,qA,qx,qj,qb,← q0,← q1,← q2];exact this)
  · exact h.elim
def xI:List AV→Prop × AV
  |[.agg [.sl c0,.v (.int .i64 c1),.sl c2],.agg [.v (.int .i64 a0),.v (.int .i64 a1),.v (.int .i64 a2),.sl a3,.v (.bool a4)]]=>(c0=(c0.map qB).map qo∧c2=(c2.map dTk).map eTk∧a3=(a3.map zl).map zC∧((⟨(c0.map qB),c1,(c2.map dTk)⟩:Chart)).cabins.length≤maxLen∧((⟨a0,a1,a2,(a3.map zl),a4⟩:Ask)).sexes.length≤maxLen,.tup [zi (Q9 ((⟨(c0.map qB),c1,(c2.map dTk)⟩:Chart)) ((⟨a0,a1,a2,(a3.map zl),a4⟩:Ask))).1,aI (Q9 ((⟨(c0.map qB),c1,(c2.map dTk)⟩:Chart)) ((⟨a0,a1,a2,(a3.map zl),a4⟩:Ask))).2])
  |_=>(False,.junk)
theorem QiX {A:Frm→Prop}:qC A Try.prog 32 (zk false xI):=zn fun vs hv h=>by
  clear hv
  unfold xI at h ⊢
  split at h
  · rename_i c0 c1 c2 a0 a1 a2 a3 a4;obtain ⟨q0,q1,q2,k0,k1⟩:=h
    refine ⟨by first|trivial|(simp [AV.plain,AV.plainL,aI,aB,qA,qc,qx,ql,aTk,cTk];done)|(repeat' split) <;> simp [AV.plain,AV.plainL,aI,aB,qA,qc,qx,ql,aTk,cTk],fun h=>absurd h (by decide), ?_⟩
    have:=Qg8 ((⟨(c0.map qB),c1,(c2.map dTk)⟩:Chart)) ((⟨a0,a1,a2,(a3.map zl),a4⟩:Ask)) k0 k1
    simp only [qw,aB,zR,qa,aI,qA,qx,qj,qb,← q0,← q1,← q2] at this
    first|exact this|(simp only [qw,aB,zR,qa,aI,qA,qx,qj,qb,← q0,← q1,← q2];exact this)
  · exact h.elim
def vC (_:St):List AV→Option Pk
  |[.agg [.sl cs,.v (.int .i64 s),.sl ts],.agg [.v (.int .i64 p),.v (.int .i64 f),.v (.int .i64 t),.sl xs,.v (.bool d)]]=>some { pre:=cs=(cs.map qB).map qo∧ts=(ts.map dTk).map eTk∧xs=(xs.map zl).map zC∧cs.length≤maxLen∧xs.length≤maxLen,ar:=[.agg [.sl cs,.v (.int .i64 s),.sl ts],.agg [.v (.int .i64 p),.v (.int .i64 f),.v (.int .i64 t),.sl xs,.v (.bool d)]],v:=.tup [.row 0,aI (wy ⟨cs.map qB,s,ts.map dTk⟩ ⟨p,f,t,xs.map zl,d⟩)],L1:=[some (.row 37 1 ((VT ⟨cs.map qB,s,ts.map dTk⟩ ⟨p,f,t,xs.map zl,d⟩).map qz))] }
  |_=>none
theorem QfK {A:Frm→Prop}:qC A Try.prog 18 (fnE vC):=zx fun S bs q h hp=>by
  unfold vC at h
  split at h
  · rename_i cs s ts p f t xs d
    cases h
    obtain ⟨h1,h2,h3,h4,h5⟩:=hp
    have:=Qei ⟨cs.map qB,s,ts.map dTk⟩ ⟨p,f,t,xs.map zl,d⟩ (by simpa using h4) (by simpa using h5)
    simp only [qa,qb,qw,qj,← h1,← h2,← h3] at this
    exact this
  · cases h
end Go.Sym.B
namespace Go.Sym.B
open Go Go.Sym Go.Proofs Go.Sym.C
theorem QiZ:QcO (yo [])=7∧wB (yo [])=0:=by decide +kernel
theorem QdH:wy (yo []) ⟨9,0,4,[1],false⟩=0∧VT (yo []) ⟨9,0,4,[1],false⟩=[[⟨0,1⟩],[⟨2,0⟩]]:=by decide +kernel
theorem Qiq:Jk (yo []) ⟨9,2,4,[2,1],false⟩=([⟨0,0⟩,⟨0,1⟩],0):=by decide +kernel
theorem Qex:Zw (yo Jt) ⟨9,0,4,[2],false⟩=([⟨1,1⟩,⟨1,1⟩,⟨0,0⟩,⟨0,0⟩],1,0):=by decide +kernel
theorem QgL:Q9 (yo Jt) ⟨9,0,4,[1],true⟩=([⟨2,0,1⟩],0):=by decide +kernel
end Go.Sym.B
namespace Go.Sym.B
open Go Go.Sym Go.Proofs Go.Sym.C
def jm:=kk @ty3 (kk @Qf (kk @QeA (kk @JH (kk @JI (kk @kZ (kk @QeZ (kk @Qd1 (kk @ti3.eq_1 (kk @kC.eq_1 (kk @UY.eq_1 (kk @Wq.eq_1 (kk @Wi.eq_1 (kk @xQ.eq_1 (kk @R4.eq_1 @Ul.eq_1))))))))))))))
def QU:=kk @aI.eq_1 (kk @aB.eq_1 (kk @qA.eq_1 (kk @zC.eq_1 (@kW))))
set_option maxRecDepth 100000 in
set_option maxHeartbeats 4000000 in
theorem Qb7:FnV Try.prog 25 [] (aB true):=by
  have env:Env (fun _=>True) Try.prog tyB (tab [(77,zk false xX),(79,zk false xK),(78,zk false Wz),(26,zk true QI),(18,fnE vC),(19,zk false QL),(29,zk false ve),(32,zk false xI),(28,zk false Q3),(24,zk true seqB),(80,zk true VC)]):=qM ⟨Qgx,Qin,elask,QjG,QfK,Qku,Qg4,QiX,Qjx,eeqB,eeqT,trivial⟩
  refine Fn.of (A:=fun _=>True) (n0:=0) (D:=noD) (Fn0 Try.func25 rfl (fun vs w=>by kernel_rfl) (by kernel_rfl)) (by simp) (by simp) (fun i o h=>by cases h) (fun _ _ _ _=>trivial) qH ?_
  have h1:=QiZ
  have h2:=QdH
  have h3:=Qiq
  have h4:=Qex
  have h5:=QgL
  obtain ⟨C,hC⟩:∃ C,yo []=C:=⟨_,rfl⟩
  obtain ⟨D,hD⟩:∃ D,yo Jt=D:=⟨_,rfl⟩
  have eC:(⟨C.cabins,C.secs,C.sold⟩:Chart)=C:=rfl
  have eD:(⟨D.cabins,D.secs,D.sold⟩:Chart)=D:=rfl
  have m1:(1:Nat)≤maxLen:=by decide
  have m2:(2:Nat)≤maxLen:=by decide
  have c1:C.cabins.length≤maxLen:=by rw [← hC];decide
  have c2:D.cabins.length≤maxLen:=by rw [← hD];decide
  rw [hC] at h1 h2 h3
  rw [hD] at h4 h5
  obtain ⟨h1a,h1b⟩:=h1
  obtain ⟨h2a,h2b⟩:=h2
  repeat' (first|(apply nx;with_reducible constructor)|refine jq (by decide) ?_)
  ((first|refine kz env fun Q hQ=>?_|refine kj fun Q hQ=>?_);simp only [vkt,seval,jm,QU,ql,qc,zi,qp,qz,eTr,qa,qb,qw,qj,qd,mTk,ze,mTr,QS,YK,Wn,QI,vC,QL,ve,xI,xK,xX,Wz,Q3,seqB,VC,List.length_map,List.map_cons,List.map_nil,List.getD_cons_zero,List.getD_cons_succ,List.length_cons,List.length_nil];(try simp only [ite_and]);(repeat' (first|with_reducible assumption|refine And.intro ?_ ?_|intro hp));all_goals (first|(refine hQ _ ?_;clear hQ Q)|(refine hQ _ (fun h=>?_) (fun h=>?_) <;> clear hQ Q <;> (try simp only [vki,reduceCtorEq] at h))|(refine kx ?_;kernel_rfl)|omega|assumption|with_reducible rfl|skip))
  repeat' (first|(apply nx;with_reducible constructor)|refine jq (by decide) ?_)
  ((first|refine kz env fun Q hQ=>?_|refine kj fun Q hQ=>?_);simp only [vkt,seval,jm,QU,ql,qc,zi,qp,qz,eTr,qa,qb,qw,qj,qd,mTk,ze,mTr,QS,YK,Wn,QI,vC,QL,ve,xI,xK,xX,Wz,Q3,seqB,VC,List.length_map,List.map_cons,List.map_nil,List.getD_cons_zero,List.getD_cons_succ,List.length_cons,List.length_nil,hC,eC,c1,h1a,h1b];(try simp only [ite_and]);(repeat' (first|with_reducible assumption|refine And.intro ?_ ?_|intro hp));all_goals (first|(refine hQ _ ?_;clear hQ Q)|(refine hQ _ (fun h=>?_) (fun h=>?_) <;> clear hQ Q <;> (try simp only [vki,reduceCtorEq] at h))|(refine kx ?_;kernel_rfl)|omega|assumption|with_reducible rfl|skip))
  repeat' (first|(apply nx;with_reducible constructor)|refine jq (by decide) ?_)
  ((first|refine kz env fun Q hQ=>?_|refine kj fun Q hQ=>?_);simp only [vkt,seval,jm,QU,ql,qc,zi,qp,qz,eTr,qa,qb,qw,qj,qd,mTk,ze,mTr,QS,YK,Wn,QI,vC,QL,ve,xI,xK,xX,Wz,Q3,seqB,VC,List.length_map,List.map_cons,List.map_nil,List.getD_cons_zero,List.getD_cons_succ,List.length_cons,List.length_nil,hC,eC,c1,h2a,h2b];(try simp only [ite_and]);(repeat' (first|with_reducible assumption|refine And.intro ?_ ?_|intro hp));all_goals (first|(refine hQ _ ?_;clear hQ Q)|(refine hQ _ (fun h=>?_) (fun h=>?_) <;> clear hQ Q <;> (try simp only [vki,reduceCtorEq] at h))|(refine kx ?_;kernel_rfl)|omega|assumption|with_reducible rfl|skip))
  repeat' (first|(apply nx;with_reducible constructor)|refine jq (by decide) ?_)
  ((first|refine kz env fun Q hQ=>?_|refine kj fun Q hQ=>?_);simp only [vkt,seval,jm,QU,ql,qc,zi,qp,qz,eTr,qa,qb,qw,qj,qd,mTk,ze,mTr,QS,YK,Wn,QI,vC,QL,ve,xI,xK,xX,Wz,Q3,seqB,VC,List.length_map,List.map_cons,List.map_nil,List.getD_cons_zero,List.getD_cons_succ,List.length_cons,List.length_nil,hC,eC,c1,h3];(try simp only [ite_and]);(repeat' (first|with_reducible assumption|refine And.intro ?_ ?_|intro hp));all_goals (first|(refine hQ _ ?_;clear hQ Q)|(refine hQ _ (fun h=>?_) (fun h=>?_) <;> clear hQ Q <;> (try simp only [vki,reduceCtorEq] at h))|(refine kx ?_;kernel_rfl)|omega|assumption|with_reducible rfl|skip))
  repeat' (first|(apply nx;with_reducible constructor)|refine jq (by decide) ?_)
  ((first|refine kz env fun Q hQ=>?_|refine kj fun Q hQ=>?_);simp only [vkt,seval,jm,QU,ql,qc,zi,qp,qz,eTr,qa,qb,qw,qj,qd,mTk,ze,mTr,QS,YK,Wn,QI,vC,QL,ve,xI,xK,xX,Wz,Q3,seqB,VC,List.length_map,List.map_cons,List.map_nil,List.getD_cons_zero,List.getD_cons_succ,List.length_cons,List.length_nil,hD,eD,c2,h4];(try simp only [ite_and]);(repeat' (first|with_reducible assumption|refine And.intro ?_ ?_|intro hp));all_goals (first|(refine hQ _ ?_;clear hQ Q)|(refine hQ _ (fun h=>?_) (fun h=>?_) <;> clear hQ Q <;> (try simp only [vki,reduceCtorEq] at h))|(refine kx ?_;kernel_rfl)|omega|assumption|with_reducible rfl|skip))
  repeat' (first|(apply nx;with_reducible constructor)|refine jq (by decide) ?_)
  ((first|refine kz env fun Q hQ=>?_|refine kj fun Q hQ=>?_);simp only [vkt,seval,jm,QU,ql,qc,zi,qp,qz,eTr,qa,qb,qw,qj,qd,mTk,ze,mTr,QS,YK,Wn,QI,vC,QL,ve,xI,xK,xX,Wz,Q3,seqB,VC,List.length_map,List.map_cons,List.map_nil,List.getD_cons_zero,List.getD_cons_succ,List.length_cons,List.length_nil,hD,eD,c2,h5];(try simp only [ite_and]);(repeat' (first|with_reducible assumption|refine And.intro ?_ ?_|intro hp));all_goals (first|(refine hQ _ ?_;clear hQ Q)|(refine hQ _ (fun h=>?_) (fun h=>?_) <;> clear hQ Q <;> (try simp only [vki,reduceCtorEq] at h))|(refine kx ?_;kernel_rfl)|omega|assumption|with_reducible rfl|skip))
  repeat' (first|(apply nx;with_reducible constructor)|refine jq (by decide) ?_)
  obtain ⟨p0,hp0⟩:∃ p:List Bunk,p=[⟨0,1⟩]:=⟨_,rfl⟩
  obtain ⟨p1,hp1⟩:∃ p:List Bunk,p=[⟨2,0⟩]:=⟨_,rfl⟩
  obtain ⟨p5,hp5⟩:∃ p:List Bunk,p=[⟨0,0⟩,⟨0,1⟩]:=⟨_,rfl⟩
  obtain ⟨p7,hp7⟩:∃ p:List Bunk,p=[⟨1,1⟩,⟨1,1⟩,⟨0,0⟩,⟨0,0⟩]:=⟨_,rfl⟩
  obtain ⟨p10,hp10⟩:∃ p:List Tr,p=[⟨2,0,1⟩]:=⟨_,rfl⟩
  refine xO (S':={ t:=asg [(0,aB false),(1,aI 7),(2,aI 0),(3,.row 1),(4,aI 0),(5,qc p5),(6,aI 0),(7,qc p7),(8,aI 1),(9,aI 0),(10,zi p10),(11,aI 0)],h:=qg [(1,.row 37 1 [qz p0,qz p1])],n:=2,j:=0,d:=[],m:=0 }) ?_ ?_
  · rw [hp0,hp1,hp5,hp7,hp10]
    (refine Le.ok some [] ?_;constructor;all_goals (try simp only [vle,vkt,seval,jm,QU,ql,qc,zi,qp,qz,eTr,qa,qb,qw,qj,qd,mTk,ze,mTr,QS,YK,Wn,QI,vC,QL,ve,xI,xK,xX,Wz,Q3,seqB,VC,List.length_map,List.map_cons,List.map_nil,List.getD_cons_zero,List.getD_cons_succ,List.length_cons,List.length_nil]))
    all_goals first|rfl|(simp;done)
  have q0:decide (p0=[⟨0,1⟩])=true:=decide_eq_true hp0
  have q1:decide (p1=[⟨2,0⟩])=true:=decide_eq_true hp1
  have q5:decide (p5=[⟨0,0⟩,⟨0,1⟩])=true:=decide_eq_true hp5
  have q7:decide (p7=[⟨1,1⟩,⟨1,1⟩,⟨0,0⟩,⟨0,0⟩])=true:=decide_eq_true hp7
  have q10:decide (p10=[⟨2,0,1⟩])=true:=decide_eq_true hp10
  have l0:p0.length≤1000:=by rw [hp0];decide
  have l1:p1.length≤1000:=by rw [hp1];decide
  have l5:p5.length≤1000:=by rw [hp5];decide
  have l7:p7.length≤1000:=by rw [hp7];decide
  have l10:p10.length≤1000:=by rw [hp10];decide
  clear hp0 hp1 hp5 hp7 hp10 h1a h1b h2a h2b h3 h4 h5
  refine kz env fun Q hQ=>?_
  simp only [vkt,seval,jm,QU,ql,qc,zi,qp,qz,eTr,qa,qb,qw,qj,qd,mTk,ze,mTr,QS,YK,Wn,QI,vC,QL,ve,xI,xK,xX,Wz,Q3,seqB,VC,List.length_map,List.map_cons,List.map_nil,List.getD_cons_zero,List.getD_cons_succ,List.length_cons,List.length_nil,q0,q1,q5,q7,q10,l0,l1,l5,l7,l10,List.append_eq,List.cons_append,List.nil_append]
  refine And.intro ?_ ?_
  · refine kx ?_
    kernel_rfl
  refine hQ _ ?_
  clear hQ Q
  repeat' (first|(apply nx;with_reducible constructor)|refine jq (by decide) ?_)
  (simp only [vrt,Try.results25,vkt,seval,jm,QU,ql,qc,zi,qp,qz,eTr,qa,qb,qw,qj,qd,mTk,ze,mTr,QS,YK,Wn,QI,vC,QL,ve,xI,xK,xX,Wz,Q3,seqB,VC,List.length_map,List.map_cons,List.map_nil,List.getD_cons_zero,List.getD_cons_succ,List.length_cons,List.length_nil];refine Fin.val rfl ?_;(try simp only [AV.le,AV.leL]))
  all_goals first|rfl|(simp;done)
end Go.Sym.B
namespace Go.Sym.B
open Go Go.Sym Go.Proofs Go.Sym.C
noncomputable def wR (S:St):List AV→Option Pk
  |[.ptr i 0,.v (.int .i64 a),.v (.int .i64 g),.v (.int .i64 s)]=>match S.h i with
    |some (.cells [.v (.int .u64 x)])=>some { pre:=(1≤a∧a≤3)∧(1≤g∧g≤5)∧(0≤s∧s≤8),hs:=[i],ar:=[.ptr 0 0,.v (.int .i64 a),.v (.int .i64 g),.v (.int .i64 s)],L0:=[.cells [.v (.int .u64 x)]],v:=qa (coC x a g s),L1:=[some (.cells [.v (.int .u64 (coX x a g s))])] }
    |_=>none
  |_=>none
theorem QfR {A:Frm→Prop}:qC A Try.prog 16 (fnE wR):=zx fun S bs q h hp=>by
  unfold wR at h
  split at h
  · split at h
    · cases h;exact Qbc _ _ _ _ hp.1 hp.2.1 hp.2.2
    · cases h
  · cases h
noncomputable def yG (S:St):List AV→Option Pk
  |[.ptr i 0,.agg [.sl cs,.v (.int .i64 s),.sl ts],.v (.int .i64 n)]=>match S.h i with
    |some (.cells [.v (.int .u64 x)])=>some { pre:=cs=(cs.map qB).map qo∧ts=(ts.map dTk).map eTk∧(1≤s∧s≤5)∧(1≤n∧n≤3),hs:=[i],ar:=[.ptr 0 0,.agg [.sl cs,.v (.int .i64 s),.sl ts],.v (.int .i64 n)],L0:=[.cells [.v (.int .u64 x)]],v:=qw (aoA x s n),L1:=[some (.cells [.v (.int .u64 (aoX x s n))])] }
    |_=>none
  |_=>none
theorem Qg6 {A:Frm→Prop}:qC A Try.prog 17 (fnE yG):=zx fun S bs q h hp=>by
  unfold yG at h
  split at h
  · rename_i cs s ts n
    split at h
    · cases h
      obtain ⟨h1,h2,h3,h4⟩:=hp
      have:=Qcn (by assumption) ⟨cs.map qB,s,ts.map dTk⟩ n h3 h4
      simp only [qa,qb,← h1,← h2] at this
      exact this
    · cases h
  · cases h
def wT:List AV→Prop × AV
  |[]=>(True,aB true)
  |_=>(False,.junk)
theorem Qfm {A:Frm→Prop}:qC A Try.prog 25 (zk true wT):=zn fun vs hv h=>by
  clear hv
  unfold wT at h ⊢
  split at h
  · clear h
    refine ⟨by first|trivial|(simp [AV.plain,AV.plainL,aI,aB,qA,qc,qx,ql,aTk,cTk];done)|(repeat' split) <;> simp [AV.plain,AV.plainL,aI,aB,qA,qc,qx,ql,aTk,cTk],fun _=>(by simp [AV.flat,AV.flatL,aI,aB]), ?_⟩
    have:=Qb7
    first|exact this|(simp only [];exact this)
  · exact h.elim
end Go.Sym.B
