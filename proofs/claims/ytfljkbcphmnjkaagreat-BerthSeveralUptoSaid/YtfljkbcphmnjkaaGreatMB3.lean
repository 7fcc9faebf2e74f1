/- Walks and what they compute, joined: part 3. -/
import Derived.Test.YtfljkbcphmnjkaaGreatMS3
import Derived.Test.YtfljkbcphmnjkaaGreatProg
import Derived.KernelRfl
import Derived.Test.YtfljkbcphmnjkaaGreatMB2
set_option linter.all false
namespace Go.Sym.B
open Go Go.Sym Go.Proofs Go.Sym.C
set_option maxHeartbeats 1000000 in
theorem Qgm (c:Chart) (a:Ask) (hc:c.cabins.length≤maxLen) (ha:a.sexes.length≤maxLen):FnV Tryz.prog 23 [qd c,qI a] (.tup [jP (ku c a).1,aI (ku c a).2]):=by
 have ec:(⟨c.cabins,c.secs,c.sold⟩:Chart)=c:=rfl
 have ea:(⟨a.party,a.frm,a.to,a.sexes,a.dog⟩:Ask)=a:=rfl
 by_cases h0:zJ c a=0
 ·have hval:=(QD h0).val
  have hsx:=(QD h0).sx
  have h8:=hval.many
  have h100:c.sold.length≤100:=by omega
  have env0:Env (fun _=>True) Tryz.prog tyB (tab [(50,fnE jD),(63,qG false Qcs)]):=qA ⟨Vi,elone,trivial⟩
  have env1:∀ k,Env (fun _=>True) Tryz.prog tyB (tab [(64,fnE (VL c a k))]):=fun k=>qA ⟨QlJ,trivial⟩
  have env:=env0
  refine Fn.of (A:=fun _=>True) (n0:=0) (D:=noD) (Fn0 Tryz.func23 rfl (fun vs w=>by kernel_rfl) (by kernel_rfl)) (by simp) (by simp [AV.ids,AV.idsL,qd,qa,qI,qg]) (fun i o h=>by cases h) (fun _ _ _ _=>trivial) qw ?_
  repeat' (first|(apply nx;with_reducible constructor)|refine jq (by decide) ?_|((first|refine kz env fun Q hQ=>?_|refine kj fun Q hQ=>?_);simp only [vkt,seval,vX,vL,qd,qa,qI,qg,mTk,qy,qf,qh,qJ,jD,Qcs,ec,ea,h0,h100,ite_and];(repeat' first|with_reducible assumption|apply kk|intro hp);all_goals (first|(refine hQ _ ?_;clear hQ Q)|(refine hQ _ (fun h=>?_) (fun h=>?_) <;> clear hQ Q <;> (try simp only [vki] at h))|(refine kx ?_;kernel_rfl)|omega|assumption|with_reducible rfl|skip)))
  refine qC (fun k:{ k:Nat // k≤3∧∀ j,j < k→JC c a j=none }=>mdS c a k.1) (fun k=>3 - k.1) ⟨0,Nat.zero_le _,fun j h=>absurd h (Nat.not_lt_zero _)⟩ ?_ fun ⟨k,hk,hno⟩=>?_
  ·(refine Le.ok some [] ?_;constructor;all_goals (try simp only [vle,vkt,seval,vL,qg,qf,qh]))
   all_goals first|rfl|simp
  simp only at hk hno ⊢
  clear env
  have env:=env1 k
  by_cases hk3:k < 3
  ·have d1:decide ((k:Int) < 3)=true:=decide_eq_true (by omega)
   have w1:=k9 k (by omega)
   have hok:LsOk c a [] 0 k:=⟨hval,hsx,by simp;omega,.inl (Nat.zero_le _),by simp⟩
   have hN:=QeY c a k
   obtain ⟨o,ho⟩:∃ o,lsF c a k [] 0=o:=⟨_,rfl⟩
   rw [ho] at hN
   cases o with
   |none =>
    repeat' (first|(apply nx;with_reducible constructor)|refine jq (by decide) ?_|((first|refine kz env fun Q hQ=>?_|refine kj fun Q hQ=>?_);simp only [vkt,seval,vX,vL,qg,qf,qh,mvL,mdS,VL,d1,w1,hok,ho,Option.getD_none,Option.isSome_none,ite_and];(repeat' first|with_reducible assumption|apply kk|intro hp);all_goals (first|(refine hQ _ ?_;clear hQ Q)|(refine hQ _ (fun h=>?_) (fun h=>?_) <;> clear hQ Q <;> (try simp only [reduceCtorEq] at h))|(refine kx ?_;kernel_rfl)|omega|assumption|with_reducible rfl|skip)))
    refine ⟨⟨k+1,hk3,fun j hj=>?_⟩,by show 3 - (k+1) < 3 - k;omega, ?_⟩
    ·rcases Nat.lt_or_eq_of_le (Nat.le_of_lt_succ hj) with h1|h1
     ·exact hno j h1
     ·rw [h1];exact hN
    ·(refine Le.ok some [] ?_;constructor;all_goals (try simp only [vle,vkt,seval,vL,qg,qf,qh]))
     all_goals first|rfl|simp
   |some t =>
    rw [UZ h0 (fsr hno hk3 hN)]
    repeat' (first|(apply nx;with_reducible constructor)|refine jq (by decide) ?_|((first|refine kz env fun Q hQ=>?_|refine kj fun Q hQ=>?_);simp only [vkt,seval,vX,vL,qg,qf,qh,mvL,mdS,VL,d1,hok,ho,ite_and];(repeat' first|with_reducible assumption|apply kk|intro hp);all_goals (first|(refine hQ _ ?_;clear hQ Q)|(refine hQ _ (fun h=>?_) (fun h=>?_) <;> clear hQ Q <;> (try simp only [reduceCtorEq] at h))|(refine kx ?_;kernel_rfl)|omega|assumption|with_reducible rfl|skip)))
    (simp only [vrt,Tryz.results23,vkt,seval,vL,jP];refine Fin.val rfl ?_;(try simp only [AV.le,AV.leL]))
    all_goals first|rfl|simp
  ·have d1:decide ((k:Int) < 3)=false:=decide_eq_false (by omega)
   rw [Qak h0 (QaI (fun j hj=>hno j (by omega)))]
   repeat' (first|(apply nx;with_reducible constructor)|refine jq (by decide) ?_|((first|refine kz env fun Q hQ=>?_|refine kj fun Q hQ=>?_);simp only [vkt,seval,vX,vL,qg,qf,qh,mdS,d1,ite_and];(repeat' first|with_reducible assumption|apply kk|intro hp);all_goals (first|(refine hQ _ ?_;clear hQ Q)|(refine hQ _ (fun h=>?_) (fun h=>?_) <;> clear hQ Q <;> (try simp only [reduceCtorEq] at h))|(refine kx ?_;kernel_rfl)|omega|assumption|with_reducible rfl|skip)))
   (simp only [vrt,Tryz.results23,vkt,seval,vL,jP];refine Fin.val rfl ?_;(try simp only [AV.le,AV.leL]))
   all_goals first|rfl|simp
 ·have env:Env (fun _=>True) Tryz.prog tyB (tab [(50,fnE jD)]):=qA ⟨Vi,trivial⟩
  refine Fn.of (A:=fun _=>True) (n0:=0) (D:=noD) (Fn0 Tryz.func23 rfl (fun vs w=>by kernel_rfl) (by kernel_rfl)) (by simp) (by simp [AV.ids,AV.idsL,qd,qa,qI,qg]) (fun i o h=>by cases h) (fun _ _ _ _=>trivial) qw ?_
  rw [show ku c a=([],zJ c a) by unfold ku;rw [if_pos (by simpa using h0)]]
  repeat' (first|(apply nx;with_reducible constructor)|refine jq (by decide) ?_|((first|refine kz env fun Q hQ=>?_|refine kj fun Q hQ=>?_);simp only [vkt,seval,vX,vL,qd,qa,qI,qg,mTk,qy,jD,ec,ea,h0,ite_and];(repeat' first|with_reducible assumption|apply kk|intro hp);all_goals (first|(refine hQ _ ?_;clear hQ Q)|(refine hQ _ (fun h=>?_) (fun h=>?_) <;> clear hQ Q <;> (try simp only [vki] at h))|(refine kx ?_;kernel_rfl)|omega|assumption|with_reducible rfl|skip)))
  (simp only [vrt,Tryz.results23,vkt,seval,vL,jP];refine Fin.val rfl ?_;(try simp only [AV.le,AV.leL]))
  all_goals first|rfl|simp
theorem KM {cs:List Cabin} {a:Ask}:∀ (m:Nat) (sold:List Tk) (begun:List Bunk),∀ x ∈ zz cs a m sold begun,x.1.length=begun.length+m
 |0,sold,begun,x,hx=>by
  simp only [zz,List.mem_singleton] at hx
  subst hx;rfl
 |m+1,sold,begun,x,hx=>by
  rw [yB,List.mem_flatMap] at hx
  obtain ⟨b,hb,hx⟩:=hx
  unfold gbL at hx
  split at hx
  ·rw [KM m _ _ x hx];simp;omega
  ·simp at hx
theorem QlF {c:Chart} {a:Ask} (h:a.sexes.length=1) {j:Nat} (hj:j < (plP c a).length):((plP c a).getD j default).1=[((plP c a).getD j default).1.getD 0 default]:=by
 have:=KM a.sexes.length c.sold [] _ (wC (l:=plP c a) (d:=default) hj)
 rw [h] at this
 generalize ((plP c a).getD j default).1=l at this ⊢
 match l,this with
 |[b],_=>rfl
theorem Qw (c:Chart) (a:Ask) (s:Int):(yG c a s).length=(plP c (XC a s)).length:=by simp [yG]
theorem Qbj {c:Chart} {a:Ask} {s:Int} {j:Nat} (hj:j < (plP c (XC a s)).length):(yG c a s).getD j default=((plP c (XC a s)).getD j default).1.getD 0 default:=by
 simp [yG,List.getD_eq_getElem?_getD,hj]
def opR (c:Chart) (a:Ask) (s:Int) (j:Nat):List (List DV):=((yG c a s).take j).map qO
theorem Qie {c:Chart} {a:Ask} {s:Int} {j:Nat} (hj:j < (plP c (XC a s)).length):opR c a s (j+1)=opR c a s j++[qO (((plP c (XC a s)).getD j default).1.getD 0 default)]:=by
 unfold opR
 rw [← Qbj hj,List.take_succ_eq_append_getElem (by rw [Qw];exact hj),List.map_append]
 simp [List.getD_eq_getElem?_getD,show j < (yG c a s).length by rw [Qw];exact hj]
theorem QlI (c:Chart) (a:Ask) (s:Int) (j:Nat):ze 2 (opR c a s j)=True:=by
 unfold opR
 exact V7 _
theorem Kq (c:Chart) (a:Ask) (k:Nat):(Qc c a k).length=k:=by simp [Qc]
theorem QeP (c:Chart) (a:Ask):(ZB c a).length=(a.to - a.frm).toNat:=Kq _ _ _
theorem Qew {c:Chart} {a:Ask} {i:Nat} (hi:i < (a.to - a.frm).toNat) (h:yG c a (a.frm+i)=[]):(ZB c a).any (·.isEmpty)=true:=by
 rw [List.any_eq_true]
 refine ⟨_,List.mem_map.2 ⟨i,List.mem_range.2 hi,rfl⟩, ?_⟩
 show (yG c a (a.frm+i)).isEmpty=true
 rw [h];rfl
theorem Qfq {c:Chart} {a:Ask} (h:∀ i,i < (a.to - a.frm).toNat→yG c a (a.frm+i) ≠ []):(ZB c a).any (·.isEmpty)=false:=by
 rw [List.any_eq_false]
 intro l hl
 obtain ⟨i,hi,rfl⟩:=List.mem_map.1 hl
 have:=h i (List.mem_range.1 hi)
 simpa using this
theorem Qc1 {c:Chart} {a:Ask} (h:zJ c a=0):0≤a.frm∧a.frm < a.to∧a.to≤c.secs:=by
 have hk:=(jZ h).2
 unfold wu at hk
 split at hk
 ·exact absurd hk (by decide)
 split at hk
 ·exact absurd hk (by decide)
 split at hk
 ·exact absurd hk ‹_›
 rename_i h3
 exact UA (Decidable.not_not.1 h3)
theorem Qam {c:Chart} {a:Ask} (h:zJ c a=0) (s:Int):PlOk c (XC a s):=⟨(QD h).val,(QD h).sx⟩
theorem BhOk.mono {L:List (List Bunk)} {es:List (Value × Value)} {i j:Nat} (h:BhOk L es i) (hij:i≤j):BhOk L es j:=⟨h.ok,fun k h1 h2=>h.look k (by omega) h2⟩
theorem QeZ {c:Chart} {a:Ask} (h:zJ c a=0):∀ l ∈ ZB c a,l.length≤1000:=by
 intro l hl
 obtain ⟨i,hi,rfl⟩:=List.mem_map.1 hl
 rw [Qw]
 have:=Qbp (Qam h (a.frm+i))
 omega
def chC (L:List (List Bunk)) (k:Nat):Int:=if k=0 then 0 else (wR L ⟨-1,0⟩).2 - 1
def mks:Nat→List (Nat × AObj)
 |0=>[]
 |k+1=>(20+k,.mark) :: mks k
def dks:Nat→List ADf
 |0=>[]
 |k+1=>.mark (20+k) :: dks k
def chT (s:Int):List (Nat × AV):=[(3,.ptr 1 0),(4,.nil),(5,aI 0),(6,aI 0),(7,.ptr 2 0),(8,.ptr 4 0),(9,aI s)]
def chS (c:Chart) (a:Ask) (i:Nat):St:={ t:=asg (chT (a.frm+i)),h:=qc ([(1,.cells (qg a)),(2,qf c.cabins c.secs 3),(3,qh c.sold),(4,.cells [.row 5]),(5,.row 44 1 ((Qc c a i).map qY))]++mks i),n:=25,d:=dks i }
def crL0 (s:Int):List (Nat × AV):=chT s++[(11,.ptr 26 0),(56,.clo 103 [.ptr 27 0,.ptr 28 0])]
def crL (s:Int):List (Nat × AV):=chT s++[(11,.ptr 26 0)]
def crH (c:Chart) (a:Ask) (T:List (Nat × AObj)) (i j:Nat):List (Nat × AObj):=[(1,.cells (qg a)),(4,.cells [.row 5]),(5,.row 44 1 ((Qc c a i).map qY)),(26,.cells [.row 29]),(29,.row 62 2 (opR c a (a.frm+i) j))]++T
theorem LX (c:Chart) (a:Ask):qN [2,3,27,28] 31 0 (plL c a)=[(2,qf c.cabins c.secs 3),(3,qh c.sold),(27,.cells [.ptr 2 0]),(28,.cells (qg a))]:=by
 simp [qN,plL,qo,AObj.ren,AV.renL,AV.ren,qf,qh,qg]
theorem RN (c:Chart) (a:Ask) (j:Nat):qN [2] 31 0 (plH c a j)=[(2,qf c.cabins c.secs 31),(31,qh ((plP c a).getD j default).2)]:=by
 simp [qN,plH,qJ,qo,AObj.ren,AV.renL,AV.ren,qf,qh]
def c2O (L:List (List Bunk)) (es:List (Value × Value)):List (Nat × AObj):=[(4,.cells [.row 5]),(5,.row 44 1 (L.map qY)),(25,.map es),(26,.cells [.mp 25])]
def c2T:List (Nat × AV):=[(4,.nil),(5,aI 0),(6,aI 0),(8,.ptr 4 0),(13,.ptr 26 0),(14,.clo 72 [.ptr 4 0,.ptr 26 0])]
def c2S (T:List (Nat × AObj)) (D:List ADf) (L:List (List Bunk)) (es:List (Value × Value)) (y:Nat):St:={ t:=asg (c2T++[(15,aI ((y:Int) - 1))]),h:=qc (c2O L es++T),n:=27,d:=D }
def c3S (T:List (Nat × AObj)) (D:List ADf) (L:List (List Bunk)) (es:List (Value × Value)) (A:Nat) (l:List Bunk) (k:Nat):St:={ t:=asg (c2T++[(15,aI (A:Nat)),(83,qb l),(84,aI l.length),(85,aI k)]),h:=qc (c2O L es++T),n:=27,d:=D }
def c4S (T:List (Nat × AObj)) (D:List ADf) (L:List (List Bunk)) (es:List (Value × Value)) (k:Nat):St:={ t:=asg [(4,.row 27),(5,aI (chC L k)),(6,aI 0),(8,.ptr 4 0),(13,.ptr 26 0),(14,.clo 72 [.ptr 4 0,.ptr 26 0]),(103,aI L.length),(104,aI k)],h:=qc (c2O L es++(27,.row 62 2 ((wkK L k).map qO)) :: T),n:=28,d:=D }
def zi:=kk @ty3 (kk @ty4 (kk @wh (kk @yf (kk @jL (kk @QbT (kk @x8 (kk @Q0 (kk @yu (kk @QkG (kk @QkQ (kk @ti3.eq_1 (kk @ti4.eq_1 (kk @zQ.eq_1 (kk @jK.eq_1 (kk @wY.eq_1 (kk @Xx.eq_1 (kk @vV.eq_1 (kk @kU.eq_1 (kk @jQ.eq_1 (kk @LK.eq_1 @LZ.eq_1))))))))))))))))))))
def zl:=kk @aI.eq_1 (kk @aB.eq_1 (kk @fnQ.eq_1 (kk @Qfw.eq_1 (kk @Qfw.eq_2 (@jJ)))))
set_option maxHeartbeats 40000000 in
theorem Qfo (c:Chart) (a:Ask) (hc:c.cabins.length≤maxLen) (ha:a.sexes.length≤maxLen):FnV Tryz.prog 27 [qd c,qI a] (.tup [qb (kJ c a).1,aI (kJ c a).2.1,aI (kJ c a).2.2]):=by
 have env:Env (fun F=>F.r=none) Tryz.prog tyB (tab [(50,fnE jD),(52,fnE wO),(72,fnQ Qa1)]):=qA ⟨Vi,WW,eNx1,trivial⟩
 refine Fn.of (A:=fun F=>F.r=none) (n0:=0) (D:=noD) (Fn0 Tryz.func27 rfl (fun vs w=>by kernel_rfl) (by kernel_rfl)) (by simp) (by simp [AV.ids,AV.idsL,qd,qa,qI,qg]) (fun i o h=>by cases h) (fun _ _ _ h=>h) qw ?_
 have ec:(⟨c.cabins,c.secs,c.sold⟩:Chart)=c:=rfl
 have ea:(⟨a.party,a.frm,a.to,a.sexes,a.dog⟩:Ask)=a:=rfl
 unfold kJ
 by_cases h0:zJ c a=0
 ·rw [if_neg (by simpa using h0)]
  by_cases h1:1 < a.sexes.length
  ·rw [if_pos h1]
   have d1:decide ((1:Int) < (a.sexes.length:Int))=true:=decide_eq_true (by omega)
   repeat' (first|(apply nx;with_reducible constructor)|refine jq (by decide) ?_|((first|refine kz env fun Q hQ=>?_|refine kj fun Q hQ=>?_);simp only [vkt,seval,zi,zl,qd,qa,qI,qg,mTk,qy,qf,qh,qJ,jD,hwL,Nat.sub_zero,ec,ea,h0,d1,ite_and];(repeat' first|with_reducible assumption|apply kk|intro hp);all_goals (first|(refine hQ _ ?_;clear hQ Q)|(refine hQ _ (fun h=>?_) (fun h=>?_) <;> clear hQ Q <;> (try simp only [vki,reduceCtorEq] at h))|(refine kx ?_;kernel_rfl)|omega|assumption|with_reducible rfl|skip)))
   (simp only [vrt,Tryz.results27,vkt,seval,zl,qb];refine Fin.val rfl ?_;(try simp only [AV.le,AV.leL]))
   all_goals first|rfl|simp
  rw [if_neg h1]
  have d1:decide ((1:Int) < (a.sexes.length:Int))=false:=decide_eq_false (by omega)
  cases hd:a.dog with
  |true =>
   rw [hd] at ea
   repeat' (first|(apply nx;with_reducible constructor)|refine jq (by decide) ?_|((first|refine kz env fun Q hQ=>?_|refine kj fun Q hQ=>?_);simp only [vkt,seval,zi,zl,qd,qa,qI,qg,mTk,qy,qf,qh,qJ,jD,hwL,Nat.sub_zero,ec,ea,h0,d1,hd,ite_and];(repeat' first|with_reducible assumption|apply kk|intro hp);all_goals (first|(refine hQ _ ?_;clear hQ Q)|(refine hQ _ (fun h=>?_) (fun h=>?_) <;> clear hQ Q <;> (try simp only [vki,reduceCtorEq] at h))|(refine kx ?_;kernel_rfl)|omega|assumption|with_reducible rfl|skip)))
   (simp only [vrt,Tryz.results27,vkt,seval,zl,qb];refine Fin.val rfl ?_;(try simp only [AV.le,AV.leL]))
   all_goals first|rfl|simp
  |false =>
   rw [if_neg (by decide)]
   have hone:a.sexes.length=1:=by have:=(KP (jZ h0).2).2;omega
   have hway:=Qc1 h0
   have hsec:=(QD h0).val.car.secs
   obtain ⟨M,hM⟩:∃ M,(a.to - a.frm).toNat=M:=⟨_,rfl⟩
   have ea':=ea
   rw [hd] at ea'
   repeat' (first|(apply nx;with_reducible constructor)|refine jq (by decide) ?_|((first|refine kz env fun Q hQ=>?_|refine kj fun Q hQ=>?_);simp only [vkt,seval,zi,zl,qd,qa,qI,qg,mTk,qy,qf,qh,qJ,jD,hwL,Nat.sub_zero,ec,ea',h0,d1,hd,ite_and];(repeat' first|with_reducible assumption|apply kk|intro hp);all_goals (first|(refine hQ _ ?_;clear hQ Q)|(refine hQ _ (fun h=>?_) (fun h=>?_) <;> clear hQ Q <;> (try simp only [vki,reduceCtorEq] at h))|(refine kx ?_;kernel_rfl)|omega|assumption|with_reducible rfl|skip)))
   refine qC (fun i:{ i:Nat // i≤M∧∀ j,j < i→yG c a (a.frm+j) ≠ [] }=>chS c a i.1) (fun i=>M - i.1) ⟨0,Nat.zero_le _,fun j h=>absurd h (Nat.not_lt_zero _)⟩ ?_ fun ⟨i,hi,hno⟩=>?_
   ·show Le _ { t:=asg (chT (a.frm+(0:Nat))),h:=qc [(1,.cells (qg a)),(2,qf c.cabins c.secs 3),(3,qh c.sold),(4,.cells [.row 5]),(5,.row 44 1 [])],n:=25 }
    (refine Le.ok (fun i=>if i=5 then none else some i) [] ?_;constructor;all_goals (try simp only [vle,vkt,seval,zl,qg,qf,qh,chT]))
    all_goals first|rfl|(simp [hd];done)|(intro i hi;rw [if_neg (by omega)];done)
   simp only at hi hno ⊢
   by_cases hlt:i < M
   ·have hi5:i=0∨i=1∨i=2∨i=3∨i=4:=by omega
    rcases hi5 with hi5|hi5|hi5|hi5|hi5
    all_goals
     have hmk:=congrArg mks hi5
     have hdk:=congrArg dks hi5
     simp only [mks,dks,Nat.reduceAdd] at hmk hdk
     have w1:IntKind.wrap .i64 (a.frm+(i:Int)+1)=a.frm+(i:Int)+1:=wrap64 (by omega) (by omega)
     obtain ⟨s,hs⟩:∃ s,a.frm+(i:Int)=s:=⟨_,rfl⟩
     have hoa:(⟨a.party,s,s+1,a.sexes,a.dog⟩:Ask)=XC a s:=rfl
     have dlt:decide (s < a.to)=true:=decide_eq_true (by omega)
     rw [hs] at w1
     have hpo:=Qam h0 s
     unfold chS
     rw [hmk,hdk]
     repeat' (first|(apply nx;with_reducible constructor)|refine jq (by decide) ?_|((first|refine kz env fun Q hQ=>?_|refine kj fun Q hQ=>?_);simp only [vkt,seval,zi,zl,qg,mTk,qy,qf,qh,qJ,plL,wO,chT,hwL,hs,w1,dlt,ite_and];(repeat' first|with_reducible assumption|apply kk|intro hp);all_goals (first|(refine hQ _ ?_;clear hQ Q)|(refine hQ _ (fun h=>?_) (fun h=>?_) <;> clear hQ Q <;> (try simp only [reduceCtorEq] at h))|(refine kx ?_;kernel_rfl)|omega|assumption|with_reducible rfl|skip)))
     obtain ⟨o,ho⟩:∃ o,XC a s=o:=⟨_,rfl⟩
     rw [ho] at hpo hoa
     have hbd:=Qbp hpo
     have hm:(729:Nat)+1≤maxLen:=by decide
     obtain ⟨N,hN⟩:∃ N,(plP c o).length=N:=⟨_,rfl⟩
     rw [hN] at hbd
     have hoc:qg o=[.v (.int .i64 a.party),.v (.int .i64 s),.v (.int .i64 (s+1)),.sl (a.sexes.map qU),.v (.bool a.dog)]:=by rw [← ho];rfl
     refine jT (S':={ t:=asg (crL0 s),h:=qc (crH c a (mks i) i 0++[(2,qf c.cabins c.secs 3),(3,qh c.sold),(27,.cells [.ptr 2 0]),(28,.cells (qg o))]),n:=30,j:=0,d:=dks i,m:=0 }) ?_ ?_
     ·show Le _ { t:=asg [(3,.ptr 1 0),(4,.nil),(5,aI 0),(6,aI 0),(7,.ptr 2 0),(8,.ptr 4 0),(9,aI s),(11,.ptr 26 0),(56,.clo 103 [.ptr 27 0,.ptr 28 0])],h:=qc (([(1,.cells (qg a)),(4,.cells [.row 5]),(5,.row 44 1 ((Qc c a i).map qY)),(26,.cells [.row 29]),(29,.row 62 2 [])]++mks i)++[(2,qf c.cabins c.secs 3),(3,qh c.sold),(27,.cells [.ptr 2 0]),(28,.cells (qg o))]),n:=30,j:=0,d:=dks i,m:=0 }
      rw [hoc,hmk,hdk]
      simp only [List.cons_append,List.nil_append]
      (refine Le.ok (fun i=>if i=29 then none else some i) [] ?_;constructor;all_goals (try simp only [vle,vkt,seval,zl,qg,qf,qh]))
      all_goals first|rfl|(simp [];done)|(intro i hi;rw [if_neg (by omega)];done)|(simp [ADf.le,ADf.ids];done)
     rw [← LX c o]
     refine jN (fun F h=>h) 1 (L:=crL0 s) (L':=crL s) (xs:=[3,27,28]) (hs:=[2,3,27,28]) (n:=30) (nl:=1) (hc:=crH c a (mks i) i) (Lp:=plL c o) (jj:=fun _=>0) (d:=dks i) (ys:=plY c o) (hl:=plH c o) (ans:=fun _=>true) (ex:=.ret) (caps:=[.ptr 27 0,.ptr 28 0]) (caps0:=[.ptr 2 0,.ptr 3 0]) (N:=(plP c o).length) (R:=N) (A':=fun _ _=>True) rfl (ZR hpo) (by rw [hN];exact Uz) (.inl rfl) ?_ ?_ ?_ rfl (by simp) ?_ (by simp) (fun _ _ _ _ _ _=>trivial) ?_ ?_ ?_ ?_ ?_ ?_ (fun j hj=>?_) ?_ (fun j hj=>?_) (fun _=>?_) (fun _ h=>by cases h)
     ·simp [AV.leL,AV.le]
     ·simp [AV.nocbL,AV.nocb]
     ·simp [Zn,plL,qf,qh,qg,AObj.nocb,AV.nocbL,AV.nocb,AObj.ids,AV.ids,AV.idsL,AObj.ren,AV.renL,AV.ren,AObj.le,AV.leL,AV.le,qo]
     ·simp [crH,qc,hmk]
     ·simp [crH,qc,hmk]
     ·simp [crH,AObj.ids,AV.ids,AV.idsL,qg,hmk]
     ·simp [KW,crL,crL0,chT,asg]
     ·simp [LY]
     ·intro j hj
      simp [absent,crH,RN,hmk]
     ·simp [WV,crL,chT,AV.ids,aI]
     ·refine ⟨?_,rfl, ?_, ?_,rfl, ?_⟩
      ·simp [xJ,crH,AObj.ids,AV.ids,AV.idsL,qg,hmk]
      ·simp [QW,plH,qJ,qf,qh,AObj.nocb,AV.nocbL,AV.nocb,AObj.ids,AV.ids,AV.idsL]
      ·simp [Yx,plY,qb,AV.nocb,AV.ids]
      ·simp [xy,Q7,RN,crH,crL,chT,yT,AV.ids,ADf.ids,aI,hmk,hdk]
     ·simp [xJ,crH,AObj.ids,AV.ids,AV.idsL,qg,hmk]
     ·have env:Env (fun _:Frm=>True) Tryz.prog tyB (tab []):=qA trivial
      have hjl:j < (plP c (XC a (a.frm+i))).length:=by rw [hs,ho];omega
      have h1x:((plP c o).getD j default).1=[((plP c o).getD j default).1.getD 0 default]:=QlF (by rw [← ho];exact hone) (by omega)
      have hS:=Qie hjl
      rw [hs,ho] at hS
      obtain ⟨b,hb⟩:∃ b,((plP c o).getD j default).1.getD 0 default=b:=⟨_,rfl⟩
      rw [hb] at h1x hS
      have hl:(opR c a s j).length≤729:=by
       unfold opR
       rw [List.length_map,List.length_take]
       omega
      have hl1:(opR c a s j).length+1≤maxLen:=by omega
      obtain ⟨r,hr⟩:∃ r,((plP c o).getD j default).2=r:=⟨_,rfl⟩
      have hst:zU (crL s) [57] [2] 30 1 (plY c o j) (crH c a (mks i) i j) (plH c o j)={ t:=asg [(57,qb [b]),(3,.ptr 1 0),(4,.nil),(5,aI 0),(6,aI 0),(7,.ptr 2 0),(8,.ptr 4 0),(9,aI s),(11,.ptr 26 0)],h:=qc ((30,.mark) :: ([(1,.cells (qg a)),(4,.cells [.row 5]),(5,.row 44 1 ((Qc c a i).map qY)),(26,.cells [.row 29]),(29,.row 62 2 (opR c a s j))]++mks i++[(2,qf c.cabins c.secs 31),(31,qh r)])),n:=32,m:=32 }:=by
       simp only [zU,Nat.reduceAdd,RN,plY,h1x,hr,hs,qb,List.map_cons,List.map_nil,AV.ren,List.zip_cons_cons,List.zip_nil_right,crH,crL,chT,kQ,List.cons_append,List.nil_append]
       rfl
      show Sym _ _ _ (zU (crL s) [57] [2] 30 1 (plY c o j) (crH c a (mks i) i j) (plH c o j)) _
      rw [hst,hmk]
      simp only [List.cons_append,List.nil_append]
      repeat' (first|(apply nx;with_reducible constructor)|refine jq (by decide) ?_|((first|refine kz env fun Q hQ=>?_|refine kj fun Q hQ=>?_);simp only [vkt,seval,zi,zl,qb,qO,qg,qf,qh,QlI,hl1,List.getD_cons_zero,ite_and];(repeat' first|with_reducible assumption|apply kk|intro hp);all_goals (first|(refine hQ _ ?_;clear hQ Q)|(refine hQ _ (fun h=>?_) (fun h=>?_) <;> clear hQ Q <;> (try simp only [vki,reduceCtorEq] at h))|(refine kx ?_;kernel_rfl)|omega|assumption|with_reducible rfl|skip)))
      refine ⟨rfl,rfl,(fun i=>if i=29 then some 33 else some i),_,RFin.okQ (fun i=>if i=29 then some 33 else some i) [] ?_⟩
      constructor
      all_goals (try simp only [vle,yw,j5,qo,plH,crH,hr,hs,hS,hdk,List.cons_append,List.nil_append,vkt,seval,zl,qO,qg,qf,qh,qJ,chT,crL])
      all_goals first|rfl|(simp;done)|(simp [yT,AV.ids,ADf.ids];done)|(simp [qg,AV.leL,AV.le];done)
     ·have eh:qc ((30,AObj.mark) :: crH c a (mks i) i N++qN [2,3,27,28] (30+1) 0 (plL c o))=qc ((30,.mark) :: ([(1,.cells (qg a)),(4,.cells [.row 5]),(5,.row 44 1 ((Qc c a i).map qY)),(26,.cells [.row 29]),(29,.row 62 2 (opR c a s N))]++mks i++[(2,qf c.cabins c.secs 3),(3,qh c.sold),(27,.cells [.ptr 2 0]),(28,.cells (qg o))])):=by
       rw [show qN [2,3,27,28] (30+1) 0 (plL c o)=qN [2,3,27,28] 31 0 (plL c o) from rfl,LX,← hs];rfl
      rw [eh,hmk,hdk]
      simp only [List.cons_append,List.nil_append]
      have hNl:(yG c a s).length=N:=by rw [Qw,ho];exact hN
      have hoN:opR c a s N=(yG c a s).map qO:=by unfold opR;rw [← hNl,List.take_length]
      have hkl:(Qc c a i).length=i:=Kq c a i
      have hkm:i+1≤maxLen:=by omega
      have hkS:=Qce c a i
      rw [hoN]
      rw [hs] at hkS
      by_cases hN0:N=0
      ·have hoe:yG c a s=[]:=List.eq_nil_of_length_eq_zero (by rw [hNl];exact hN0)
       rw [Qew (c:=c) (a:=a) (i:=i) (by omega) (by rw [hs];exact hoe)]
       rw [hoe]
       repeat' (first|(apply nx;with_reducible constructor)|refine jq (by decide) ?_|((first|refine kz env fun Q hQ=>?_|refine kj fun Q hQ=>?_);simp only [vkt,seval,zi,zl,qg,qf,qh,chT,crL,ite_and];(repeat' first|with_reducible assumption|apply kk|intro hp);all_goals (first|(refine hQ _ ?_;clear hQ Q)|(refine hQ _ (fun h=>?_) (fun h=>?_) <;> clear hQ Q <;> (try simp only [vki] at h))|(refine kx ?_;kernel_rfl)|omega|assumption|with_reducible rfl|skip)))
       (simp only [vrt,Tryz.results27,vkt,seval,zl,qb];refine Fin.val rfl ?_;(try simp only [AV.le,AV.leL]))
       all_goals first|rfl|simp
      ·have d2:decide ((N:Int)=0)=false:=decide_eq_false (by omega)
       repeat' (first|(apply nx;with_reducible constructor)|refine jq (by decide) ?_|((first|refine kz env fun Q hQ=>?_|refine kj fun Q hQ=>?_);simp only [vkt,seval,zi,zl,Qbu,qg,qf,qh,chT,crL,hNl,d2,hkl,hkm,w1,ite_and];(repeat' first|with_reducible assumption|apply kk|intro hp);all_goals (first|(refine hQ _ ?_;clear hQ Q)|(refine hQ _ (fun h=>?_) (fun h=>?_) <;> clear hQ Q <;> (try simp only [reduceCtorEq] at h))|(refine kx ?_;kernel_rfl)|omega|assumption|with_reducible rfl|skip)))
       refine ⟨⟨i+1,hlt,fun j hj=>?_⟩,by show M - (i+1) < M - i;omega, ?_⟩
       ·rcases Nat.lt_or_eq_of_le (Nat.le_of_lt_succ hj) with h3|h3
        ·exact hno j h3
        ·subst h3;rw [hs];intro h4;rw [h4] at hNl;exact hN0 hNl.symm
       ·have hs1:a.frm+((i+1:Nat):Int)=s+1:=by omega
        show Le _ (chS c a (i+1))
        unfold chS
        rw [hkS,hs1]
        simp only [mks,dks,hi5,Nat.reduceAdd,List.cons_append,List.nil_append]
        refine Le.ok (fun k=>if k=5 then some 32 else if k=20+i then some 30 else some k) [] ?_
        constructor
        all_goals (try simp only [hi5,Nat.reduceAdd,vle,vkt,seval,zl,qg,qf,qh,chT])
        all_goals first|rfl|(simp;done)|(simp [ADf.le,ADf.ids];done)
   ·have hie:i=M:=by omega
    subst hie
    have hns:(ZB c a).any (·.isEmpty)=false:=Qfq (fun i hi=>hno i (by omega))
    rw [hns]
    have hLl:(ZB c a).length=i:=by rw [QeP];exact hM
    have hLe:Qc c a i=ZB c a:=by rw [← hM];rfl
    have hea:=QeZ h0
    obtain ⟨L,hL⟩:∃ L,ZB c a=L:=⟨_,rfl⟩
    rw [hL] at hLl hLe hea ⊢
    have hmx:(100000:Nat)≤maxLen:=by decide
    have hi5:i=1∨i=2∨i=3∨i=4∨i=5:=by omega
    have dlt:decide (a.frm+(i:Int) < a.to)=false:=decide_eq_false (by omega)
    have w2:IntKind.wrap .i64 ((i:Int) - 2)=((i - 1:Nat):Int) - 1:=by rw [wrap64 (by omega) (by omega)];omega
    rcases hi5 with hi5|hi5|hi5|hi5|hi5
    all_goals
     have hmk:=congrArg mks hi5
     have hdk:=congrArg dks hi5
     simp only [mks,dks,Nat.reduceAdd] at hmk hdk
     unfold chS
     rw [hmk,hdk,hLe]
     simp only [List.cons_append,List.nil_append]
     repeat' (first|(apply nx;with_reducible constructor)|refine jq (by decide) ?_|((first|refine kz env fun Q hQ=>?_|refine kj fun Q hQ=>?_);simp only [vkt,seval,zi,zl,qg,qf,qh,chT,dlt,hLl,w2,ite_and];(repeat' first|with_reducible assumption|apply kk|intro hp);all_goals (first|(refine hQ _ ?_;clear hQ Q)|(refine hQ _ (fun h=>?_) (fun h=>?_) <;> clear hQ Q <;> (try simp only [reduceCtorEq] at h))|(refine kx ?_;kernel_rfl)|omega|assumption|with_reducible rfl|skip)))
     refine qC (fun y:{ y:Nat × List (Value × Value) // y.1 < i∧BhOk L y.2 y.1∧y.2.length≤1000 * (i - y.1) }=>c2S (mks i) (dks i) L y.1.2 y.1.1) (fun y=>y.1.1) ⟨(i - 1,[]),by omega,by rw [← hLl];exact Ql2 L,Nat.zero_le _⟩ ?_ fun ⟨(y,es),hy,hB,hel⟩=>?_
     ·simp only [c2S,hmk,hdk,c2O,c2T,List.cons_append,List.nil_append]
      (refine Le.ok some [] ?_;constructor;all_goals (try simp only [vle,vkt,seval,zl]))
      all_goals first|rfl|(simp [ADf.le,ADf.ids];done)
     simp only at hy hB hel ⊢
     simp only [c2S,hmk,hdk,c2O,c2T,List.cons_append,List.nil_append]
     cases y with
     |succ A =>
      have e1:((A+1:Nat):Int) - 1=(A:Int):=by omega
      have d3:decide ((0:Int)≤(A:Int))=true:=decide_eq_true (by omega)
      have hAl:A < L.length:=by omega
      have hg:=Xb hAl
      obtain ⟨l,hl⟩:∃ l,L.getD A []=l:=⟨_,rfl⟩
      rw [hl] at hg
      have hll:l.length≤1000:=hea l (by rw [← hl];exact wC hAl)
      have iA:((A:Int)).toNat=A:=rfl
      rw [e1]
      repeat' (first|(apply nx;with_reducible constructor)|refine jq (by decide) ?_|((first|refine kz env fun Q hQ=>?_|refine kj fun Q hQ=>?_);simp only [vkt,seval,zi,zl,qY,hg,iA,hAl,ite_and];(repeat' first|with_reducible assumption|apply kk|intro hp);all_goals (first|(refine hQ _ ?_;clear hQ Q)|(refine hQ _ (fun h=>?_) (fun h=>?_) <;> clear hQ Q <;> (try simp only [vki] at h))|(refine kx ?_;kernel_rfl)|omega|assumption|with_reducible rfl|skip)))
      refine qC (fun z:{ z:Nat × List (Value × Value) // z.1≤l.length∧BhIn L z.2 A z.1∧z.2.length≤1000 * (i - (A+1))+z.1 }=>c3S (mks i) (dks i) L z.1.2 A l z.1.1) (fun z=>l.length - z.1.1) ⟨(0,es),Nat.zero_le _,hB.inn,hel⟩ ?_ fun ⟨(k,es),hk,hI,hel⟩=>?_
      ·simp only [c3S,hmk,hdk,c2O,c2T,List.cons_append,List.nil_append]
       (refine Le.ok some [] ?_;constructor;all_goals (try simp only [vle,vkt,seval,zl,qb]))
       all_goals first|rfl|(simp [ADf.le,ADf.ids];done)
      simp only at hk hI hel ⊢
      simp only [c3S,hmk,hdk,c2O,c2T,List.cons_append,List.nil_append]
      by_cases hkl:k < l.length
      ·have d4:decide ((k:Int) < (l.length:Int))=true:=decide_eq_true (by omega)
       have e9:=k9 k (by omega)
       have wA:=k9 A (by omega)
       have iA1:(((A+1:Nat):Int)).toNat=A+1:=rfl
       obtain ⟨b,hb⟩:∃ b,l.getD k default=b:=⟨_,rfl⟩
       have eb:(⟨b.cab,b.bed⟩:Bunk)=b:=rfl
       obtain ⟨⟨q,v⟩,hv⟩:∃ p,wR (L.drop (A+1)) b=p:=⟨_,rfl⟩
       have hNx:NxOk L es (A+1):=⟨by omega,by omega,hea,hI.bh⟩
       have hM1:MOK (KD.Q (.agg [some .i64,some .i64,some .i64])) es:=hI.bh.ok
       have hml:(jd es (.agg #[.int .i64 (A:Int),.int .i64 b.cab,.int .i64 b.bed]) (.int .i64 v)).length≤maxLen:=by
        have:=Qb (es:=es) (k:=.agg #[.int .i64 (A:Int),.int .i64 b.cab,.int .i64 b.bed]) (v:=.int .i64 v)
        omega
       repeat' (first|(apply nx;with_reducible constructor)|refine jq (by decide) ?_|((first|refine kz env fun Q hQ=>?_|refine kj fun Q hQ=>?_);simp only [vkt,seval,zi,zl,qx,qb,qO,yt,Qa1,nxL,QbB,d4,e9,wA,iA1,hb,eb,hv,hNx,hM1,hml,ite_and];(repeat' first|with_reducible assumption|apply kk|intro hp);all_goals (first|(refine hQ _ ?_;clear hQ Q)|(refine hQ _ (fun h=>?_) (fun h=>?_) <;> clear hQ Q <;> (try simp only [reduceCtorEq] at h))|(refine kx ?_;kernel_rfl)|omega|assumption|with_reducible rfl|skip)))
       have hel':(jd es (Qj A b) (.int .i64 v)).length≤1000 * (i - (A+1))+(k+1):=by
        have h2:=Qb (es:=es) (k:=Qj A b) (v:=.int .i64 v)
        omega
       refine ⟨⟨(k+1,jd es (Qj A b) (.int .i64 v)),hkl,hI.step (by rw [hl];exact hb) (by rw [hv]),hel'⟩,by show l.length - (k+1) < l.length - k;omega, ?_⟩
       simp only [Qj]
       (refine Le.ok some [] ?_;constructor;all_goals (try simp only [vle,vkt,seval,zl,qb]))
       all_goals first|rfl|(simp [ADf.le,ADf.ids];done)
      ·have d4:decide ((k:Int) < (l.length:Int))=false:=decide_eq_false (by omega)
       have hke:k=l.length:=by omega
       subst hke
       have wm:IntKind.wrap .i64 ((A:Int) - 1)=(A:Int) - 1:=wrap64 (by omega) (by omega)
       repeat' (first|(apply nx;with_reducible constructor)|refine jq (by decide) ?_|((first|refine kz env fun Q hQ=>?_|refine kj fun Q hQ=>?_);simp only [vkt,seval,zi,zl,qb,d4,wm,ite_and];(repeat' first|with_reducible assumption|apply kk|intro hp);all_goals (first|(refine hQ _ ?_;clear hQ Q)|(refine hQ _ (fun h=>?_) (fun h=>?_) <;> clear hQ Q <;> (try simp only [reduceCtorEq] at h))|(refine kx ?_;kernel_rfl)|omega|assumption|with_reducible rfl|skip)))
       refine ⟨⟨(A,es),by omega,by rw [← hl] at hI;exact hI.out,by show es.length≤1000 * (i - A);omega⟩,Nat.lt_succ_self _, ?_⟩
       simp only []
       (refine Le.ok some [] ?_;constructor;all_goals (try simp only [vle,vkt,seval,zl]))
       all_goals first|rfl|(simp [ADf.le,ADf.ids];done)
     |zero =>
      have d3:decide ((0:Int)≤((0:Nat):Int) - 1)=false:=by decide
      repeat' (first|(apply nx;with_reducible constructor)|refine jq (by decide) ?_|((first|refine kz env fun Q hQ=>?_|refine kj fun Q hQ=>?_);simp only [vkt,seval,zi,zl,hLl,ite_and];(repeat' first|with_reducible assumption|apply kk|intro hp);all_goals (first|(refine hQ _ ?_;clear hQ Q)|(refine hQ _ (fun h=>?_) (fun h=>?_) <;> clear hQ Q <;> (try simp only [vki] at h))|(refine kx ?_;kernel_rfl)|omega|assumption|with_reducible rfl|skip)))
      refine qC (fun k:{ k:Nat // k≤i }=>c4S (mks i) (dks i) L es k.1) (fun k=>i - k.1) ⟨0,Nat.zero_le _⟩ ?_ fun ⟨k,hk⟩=>?_
      ·simp only [c4S,hmk,hdk,c2O,chC,wkK,List.cons_append,List.nil_append]
       (refine Le.ok (fun i=>if i=27 then none else some i) [] ?_;constructor;all_goals (try simp only [vle,vkt,seval,zl]))
       all_goals first|rfl|(simp [hLl];done)|(simp [ADf.le,ADf.ids];done)|(intro i hi;rw [if_neg (by omega)];done)
      simp only at hk ⊢
      simp only [c4S,hmk,hdk,c2O,List.cons_append,List.nil_append,hLl]
      have hwl:=R4 L k
      by_cases hkl:k < i
      ·have d4:decide ((k:Int) < (i:Int))=true:=decide_eq_true (by omega)
       have e9:=k9 k (by omega)
       have hNx:NxOk L es k:=⟨by omega,by omega,hea,hB.mono (Nat.zero_le _)⟩
       have ik:((k:Int)).toNat=k:=rfl
       have hkm:k+1≤maxLen:=by omega
       have hS:=Vs L k
       obtain ⟨⟨q,v⟩,hv⟩:∃ p,wR (L.drop k) (wkB L k)=p:=⟨_,rfl⟩
       rw [hv] at hS
       have hvb:=Vo (L.drop k) (wkB L k)
       rw [hv,List.length_drop] at hvb
       have hvb:0≤v∧v≤1000:=by simp only at hvb;omega
       by_cases hk0:k=0
       ·have d5:decide ((0:Int) < (k:Int))=false:=decide_eq_false (by omega)
        have d6:decide ((k:Int)=0)=true:=decide_eq_true (by omega)
        have wv:IntKind.wrap .i64 (v - 1)=v - 1:=wrap64 (by omega) (by omega)
        have hwb:wkB L k=⟨-1,0⟩:=if_pos hk0
        rw [hwb] at hv
        have hc1:chC L (k+1)=v - 1:=by
         unfold chC
         rw [if_neg (by omega)]
         rw [hk0,List.drop_zero] at hv
         rw [hv]
        repeat' (first|(apply nx;with_reducible constructor)|refine jq (by decide) ?_|((first|refine kz env fun Q hQ=>?_|refine kj fun Q hQ=>?_);simp only [vkt,seval,zi,zl,qx,V7,Qa1,nxL,QbB,d4,d5,d6,e9,ik,hv,hNx,wv,hwl,hkm,ite_and];(repeat' first|with_reducible assumption|apply kk|intro hp);all_goals (first|(refine hQ _ ?_;clear hQ Q)|(refine hQ _ (fun h=>?_) (fun h=>?_) <;> clear hQ Q <;> (try simp only [reduceCtorEq] at h))|(refine kx ?_;kernel_rfl)|omega|assumption|with_reducible rfl|skip)))
        refine ⟨⟨k+1,hkl⟩,by show i - (k+1) < i - k;omega, ?_⟩
        simp only [hS,hc1]
        (refine Le.ok (fun i=>if i=27 then some 31 else some i) [] ?_;constructor;all_goals (try simp only [vle,vkt,seval,zl]))
        all_goals first|rfl|(rw [List.map_append];rfl)|(simp [ADf.le,ADf.ids];done)|(intro i hi;rw [if_neg (by omega)];done)
       ·have d5:decide ((0:Int) < (k:Int))=true:=decide_eq_true (by omega)
        have d6:decide ((k:Int)=0)=false:=decide_eq_false (by omega)
        have wk:IntKind.wrap .i64 ((k:Int) - 1)=((k - 1:Nat):Int):=by rw [wrap64 (by omega) (by omega)];omega
        have ik1:(((k - 1:Nat):Int)).toNat=k - 1:=rfl
        have hk1:k - 1 < k:=by omega
        have hgb:=hBunk (l:=wkK L k) (n:=k - 1) (by omega)
        obtain ⟨b,hb⟩:∃ b,wkB L k=b:=⟨_,rfl⟩
        rw [show (wkK L k).getD (k - 1) default=b by rw [← hb];unfold wkB;rw [if_neg hk0]] at hgb
        rw [hb] at hv
        have eb:(⟨b.cab,b.bed⟩:Bunk)=b:=rfl
        have hc1:chC L (k+1)=chC L k:=by
         unfold chC
         rw [if_neg (by omega),if_neg hk0]
        repeat' (first|(apply nx;with_reducible constructor)|refine jq (by decide) ?_|((first|refine kz env fun Q hQ=>?_|refine kj fun Q hQ=>?_);simp only [vkt,seval,zi,zl,qx,qO,V7,Qa1,nxL,QbB,d4,d5,d6,e9,ik,wk,ik1,hk1,hgb,eb,hv,hNx,hwl,hkm,ite_and];(repeat' first|with_reducible assumption|apply kk|intro hp);all_goals (first|(refine hQ _ ?_;clear hQ Q)|(refine hQ _ (fun h=>?_) (fun h=>?_) <;> clear hQ Q <;> (try simp only [reduceCtorEq] at h))|(refine kx ?_;kernel_rfl)|omega|assumption|with_reducible rfl|skip)))
        refine ⟨⟨k+1,hkl⟩,by show i - (k+1) < i - k;omega, ?_⟩
        simp only [hS,hc1]
        (refine Le.ok (fun i=>if i=27 then some 31 else some i) [] ?_;constructor;all_goals (try simp only [vle,vkt,seval,zl]))
        all_goals first|rfl|(rw [List.map_append];rfl)|(simp [ADf.le,ADf.ids];done)|(intro i hi;rw [if_neg (by omega)];done)
      ·have d4:decide ((k:Int) < (i:Int))=false:=decide_eq_false (by omega)
       have hke:k=L.length:=by omega
       have hww:=Qmm L
       have hcc:chC L L.length=(wR L ⟨-1,0⟩).2 - 1:=if_neg (by omega)
       rw [hke,hww,hcc]
       rw [hke] at d4
       repeat' (first|(apply nx;with_reducible constructor)|refine jq (by decide) ?_|((first|refine kz env fun Q hQ=>?_|refine kj fun Q hQ=>?_);simp only [vkt,seval,zi,zl,d4,ite_and];(repeat' first|with_reducible assumption|apply kk|intro hp);all_goals (first|(refine hQ _ ?_;clear hQ Q)|(refine hQ _ (fun h=>?_) (fun h=>?_) <;> clear hQ Q <;> (try simp only [reduceCtorEq] at h))|(refine kx ?_;kernel_rfl)|omega|assumption|with_reducible rfl|skip)))
       simp only [vrt,Tryz.results27,vkt,seval,zl,qb]
       show Fin _ _ _ 0 (qc []) 0
       refine Fin.ok some [27] ?_ ?_ ?_ ?_ ?_ rfl
       all_goals (try simp only [vle,vkt,seval])
       all_goals first|rfl|(simp;done)|(simp [ADf.le,ADf.ids];done)
 ·rw [if_pos (by simpa using h0)]
  repeat' (first|(apply nx;with_reducible constructor)|refine jq (by decide) ?_|((first|refine kz env fun Q hQ=>?_|refine kj fun Q hQ=>?_);simp only [vkt,seval,zi,zl,qd,qa,qI,qg,mTk,qy,jD,hwL,Nat.sub_zero,ec,ea,h0,ite_and];(repeat' first|with_reducible assumption|apply kk|intro hp);all_goals (first|(refine hQ _ ?_;clear hQ Q)|(refine hQ _ (fun h=>?_) (fun h=>?_) <;> clear hQ Q <;> (try simp only [vki] at h))|(refine kx ?_;kernel_rfl)|omega|assumption|with_reducible rfl|skip)))
  (simp only [vrt,Tryz.results27,vkt,seval,zl,qb];refine Fin.val rfl ?_;(try simp only [AV.le,AV.leL]))
  all_goals first|rfl|simp
def eqTS (l m:List Tr) (k:Nat):St:={ t:=asg [(0,jP l),(1,jP m),(4,aB false),(5,aI k)],h:=qc [],n:=0 }
def Qq:=kk @ty3 (kk @Qfm (kk @Qfa (kk @ti3.eq_1 (kk @RL.eq_1 @K7.eq_1))))
def ZJ:=kk @aI.eq_1 (@aB.eq_1)
theorem Qlk (l m:List Tr) (hl:l.length≤1000) (hm:m.length≤1000):FnV Tryz.prog 25 [jP l,jP m] (aB (decide (l=m))):=by
 have env:Env (fun _=>True) Tryz.prog tyB (tab []):=qA trivial
 refine Fn.of (A:=fun _=>True) (n0:=0) (D:=noD) (Fn0 Tryz.func25 rfl (fun vs w=>by kernel_rfl) (by kernel_rfl)) (by simp) (by simp [AV.ids,jP]) (fun i o h=>by cases h) (fun _ _ _ _=>trivial) qw ?_
 by_cases h0:l.length=m.length
 ·have d0:decide ((l.length:Int)=(m.length:Int))=true:=decide_eq_true (by omega)
  repeat' (first|(apply nx;with_reducible constructor)|refine jq (by decide) ?_|((first|refine kz env fun Q hQ=>?_|refine kj fun Q hQ=>?_);simp only [vkt,seval,Qq,jP,d0,ite_and];(repeat' first|with_reducible assumption|apply kk|intro hp);all_goals (first|(refine hQ _ ?_;clear hQ Q)|(refine hQ _ (fun h=>?_) (fun h=>?_) <;> clear hQ Q <;> (try simp only [reduceCtorEq] at h))|(refine kx ?_;kernel_rfl)|omega|assumption|with_reducible rfl|skip)))
  refine qC (fun k:{ k:Nat // k≤l.length∧∀ j,j < k→l.getD j default=m.getD j default }=>eqTS l m k.1) (fun k=>l.length - k.1) ⟨0,Nat.zero_le _,fun j h=>absurd h (Nat.not_lt_zero _)⟩ ?_ fun ⟨k,hk,hno⟩=>?_
  ·(refine Le.ok some [] ?_;constructor;all_goals (try simp only [vle,vkt,seval,ZJ,jP]))
   all_goals first|rfl|simp
  ·repeat' (first|(apply nx;with_reducible constructor)|refine jq (by decide) ?_)
   (refine kz env fun Q hQ=>?_;simp only [vkt,seval,Qq,ZJ,jP,eqTS,ite_and];(repeat' first|with_reducible assumption|apply kk|intro hp);all_goals (first|(refine hQ _ ?_;clear hQ Q)|(refine kx ?_;kernel_rfl)|omega|assumption|with_reducible rfl|skip))
   repeat' (first|(apply nx;with_reducible constructor)|refine jq (by decide) ?_)
   (refine wQ (by simp only [vkt,seval];rfl) (fun h=>?_) (fun h=>?_) <;> (try simp only [vki] at h))
   ·have hlt:k < l.length:=by omega
    have hlm:k < m.length:=by omega
    have e9:=k9 k (by omega)
    obtain ⟨x,hx⟩:∃ x,l.getD k default=x:=⟨_,rfl⟩
    obtain ⟨y,hy⟩:∃ x,m.getD k default=x:=⟨_,rfl⟩
    have hxy:(x=y)=(x.ticket=y.ticket∧x.cab=y.cab∧x.bed=y.bed):=by cases x;cases y;simp
    have hne:¬ x=y→decide (l=m)=false:=fun h=>decide_eq_false fun e=>h (by rw [← hx,← hy,e])
    by_cases hxe:x=y
    ·rw [hxe] at hx
     repeat' (first|(apply nx;with_reducible constructor)|refine jq (by decide) ?_|((first|refine kz env fun Q hQ=>?_|refine kj fun Q hQ=>?_);simp only [vkt,seval,Qq,eTr,gTr,hx,hy,hlm,e9,decide_true,ite_and];(repeat' first|with_reducible assumption|apply kk|intro hp);all_goals (first|(refine hQ _ ?_;clear hQ Q)|(refine hQ _ (fun h=>?_) (fun h=>?_) <;> clear hQ Q <;> (try simp only [reduceCtorEq] at h))|(refine kx ?_;kernel_rfl)|omega|assumption|with_reducible rfl|skip)))
     refine ⟨⟨k+1,hlt,fun j hj=>?_⟩,by show l.length - (k+1) < l.length - k;omega, ?_⟩
     ·rcases Nat.lt_or_eq_of_le (Nat.le_of_lt_succ hj) with h1|h1
      ·exact hno j h1
      ·rw [h1,hx,hy]
     ·(refine Le.ok some [] ?_;constructor;all_goals (try simp only [vle,vkt,seval,ZJ,jP]))
      all_goals first|rfl|simp
    ·rw [hne hxe]
     have q:(decide (x.ticket=y.ticket) && (decide (x.cab=y.cab) && decide (x.bed=y.bed)))=false:=by
      rw [hxy] at hxe
      simpa using hxe
     repeat' (first|(apply nx;with_reducible constructor)|refine jq (by decide) ?_|((first|refine kz env fun Q hQ=>?_|refine kj fun Q hQ=>?_);simp only [vkt,seval,Qq,eTr,gTr,hx,hy,q,hlm,ite_and];(repeat' first|with_reducible assumption|apply kk|intro hp);all_goals (first|(refine hQ _ ?_;clear hQ Q)|(refine hQ _ (fun h=>?_) (fun h=>?_) <;> clear hQ Q <;> (try simp only [reduceCtorEq] at h))|(refine kx ?_;kernel_rfl)|omega|assumption|with_reducible rfl|skip)))
     (simp only [vrt,Tryz.results25,vkt,seval,ZJ];refine Fin.val rfl ?_;(try simp only [AV.le]))
     all_goals first|rfl|simp
   ·have hke:k=l.length:=by omega
    subst hke
    rw [decide_eq_true (ZF h0 hno)]
    repeat' (first|(apply nx;with_reducible constructor)|refine jq (by decide) ?_|((first|refine kz env fun Q hQ=>?_|refine kj fun Q hQ=>?_);simp only [vkt,seval,ite_and];(repeat' first|with_reducible assumption|apply kk|intro hp);all_goals (first|(refine hQ _ ?_;clear hQ Q)|(refine hQ _ (fun h=>?_) (fun h=>?_) <;> clear hQ Q <;> (try simp only [vki,reduceCtorEq] at h))|(refine kx ?_;kernel_rfl)|omega|assumption|with_reducible rfl|skip)))
    (simp only [vrt,Tryz.results25,vkt,seval,ZJ];refine Fin.val rfl ?_;(try simp only [AV.le]))
    all_goals first|rfl|simp
 ·have d0:decide ((l.length:Int)=(m.length:Int))=false:=decide_eq_false (by omega)
  rw [decide_eq_false (fun e=>h0 (by rw [e]))]
  repeat' (first|(apply nx;with_reducible constructor)|refine jq (by decide) ?_|((first|refine kz env fun Q hQ=>?_|refine kj fun Q hQ=>?_);simp only [vkt,seval,Qq,jP,d0,ite_and];(repeat' first|with_reducible assumption|apply kk|intro hp);all_goals (first|(refine hQ _ ?_;clear hQ Q)|(refine hQ _ (fun h=>?_) (fun h=>?_) <;> clear hQ Q <;> (try simp only [reduceCtorEq] at h))|(refine kx ?_;kernel_rfl)|omega|assumption|with_reducible rfl|skip)))
  (simp only [vrt,Tryz.results25,vkt,seval,ZJ];refine Fin.val rfl ?_;(try simp only [AV.le]))
  all_goals first|rfl|simp
def seqT:List AV→Prop × AV
 |[.sl l,.sl m]=>(l=(l.map dTr).map eTr∧m=(m.map dTr).map eTr∧(l.map dTr).length≤1000∧(m.map dTr).length≤1000,aB (decide ((l.map dTr)=(m.map dTr))))
 |_=>(False,.junk)
theorem eeqT {A:Frm→Prop}:qm A Tryz.prog 25 (qG true seqT):=qH fun vs hv h=>by
 clear hv
 unfold seqT at h ⊢
 split at h
 ·rename_i l m;obtain ⟨q0,q1,k0,k1⟩:=h
  refine ⟨by first|trivial|(repeat' split) <;> simp [AV.plain,AV.plainL,aI,aB,ql,qb,qp,qx,aTk,cTk],fun _=>(by simp [AV.flat,aB]), ?_⟩
  have:=Qlk (l.map dTr) (m.map dTr) k0 k1
  simp only [jP,← q0,← q1] at this
  first|exact this|(simp only [jP,← q0,← q1];exact this)
 ·exact h.elim
def Zj:List AV→Prop × AV
 |[.sl m]=>(m=(m.map dTk).map eTk∧(m.map dTk).length≤100,qd (jG (m.map dTk)))
 |_=>(False,.junk)
theorem Qhv {A:Frm→Prop}:qm A Tryz.prog 43 (qG false Zj):=qH fun vs hv h=>by
 clear hv
 unfold Zj at h ⊢
 split at h
 ·rename_i m;obtain ⟨q0,k0⟩:=h
  refine ⟨by first|trivial|(repeat' split) <;> simp [AV.plain,AV.plainL,aI,aB,ql,qb,qp,qx,aTk,cTk],fun h=>absurd h (by decide), ?_⟩
  have:=Qgr (m.map dTk) k0
  simp only [qp,← q0] at this
  first|exact this|(simp only [qp,← q0];exact this)
 ·exact h.elim
def Y8:List AV→Prop × AV
 |[.v (.int .i64 f),.v (.int .i64 t),.v (.bool d),.sl l]=>(l=(l.map qM).map qU,qI ⟨9,f,t,(l.map qM),d⟩)
 |_=>(False,.junk)
theorem elask {A:Frm→Prop}:qm A Tryz.prog 44 (qG false Y8):=qH fun vs hv h=>by
 clear hv
 unfold Y8 at h ⊢
 split at h
 ·rename_i f t d l;have q0:l=(l.map qM).map qU:=h;clear h
  refine ⟨by first|trivial|(repeat' split) <;> simp [AV.plain,AV.plainL,aI,aB,ql,qb,qp,qx,aTk,cTk],fun h=>absurd h (by decide), ?_⟩
  have:=QjR f t d (l.map qM)
  simp only [aB,aI,ql,← q0] at this
  first|exact this|(simp only [aB,aI,ql,← q0];exact this)
 ·exact h.elim
theorem Qjh (a b:Int):zg [.v (.int .i64 a),.v (.int .i64 b)]=⟨a,b⟩:=rfl
theorem dTr_v (a b c:Int):dTr [.v (.int .i64 a),.v (.int .i64 b),.v (.int .i64 c)]=⟨a,b,c⟩:=rfl
theorem Uo (a:Int):qM [.v (.int .i64 a)]=a:=rfl
theorem dTk_v (a b c d e f:Int) (g:Bool):dTk [.v (.int .i64 a),.v (.int .i64 b),.v (.int .i64 c),.v (.int .i64 d),.v (.int .i64 e),.v (.int .i64 f),.v (.bool g)]=⟨a,b,c,d,e,f,g⟩:=rfl
def ZX:List Tk:=[⟨3,1,2,0,0,4,false⟩,⟨4,2,1,1,2,4,false⟩]
def Jj:=kk @yP (kk @wh (kk @wP (kk @yh.eq_1 (kk @zQ.eq_1 @wI.eq_1))))
theorem QeG:FnV Tryz.prog 45 [] (qd (jG ZX)):=by
 have env:Env (fun _=>True) Tryz.prog tyB (tab [(101,qG false KQ),(43,qG false Zj)]):=qA ⟨QkW,Qhv,trivial⟩
 refine Fn.of (A:=fun _=>True) (n0:=0) (D:=noD) (Fn0 Tryz.func45 rfl (fun vs w=>by kernel_rfl) (by kernel_rfl)) (by simp) (by simp) (fun i o h=>by cases h) (fun _ _ _ _=>trivial) qw ?_
 have hlen:([⟨3,1,2,0,0,4,false⟩,⟨4,2,1,1,2,4,false⟩]:List Tk).length≤100:=by decide
 have hfl:([⟨3,1,2,0,0,4,false⟩,⟨4,2,1,1,2,4,false⟩]:List Tk)=ZX:=rfl
 repeat' (first|(apply nx;with_reducible constructor)|refine jq (by decide) ?_|((first|refine kz env fun Q hQ=>?_|refine kj fun Q hQ=>?_);simp only [vkt,seval,Jj,aTk,cTk,qd,qa,KQ,Zj,dTk_v,hfl,ite_and];(repeat' first|with_reducible assumption|apply kk|intro hp);all_goals (first|(refine hQ _ ?_;clear hQ Q)|(refine hQ _ (fun h=>?_) (fun h=>?_) <;> clear hQ Q <;> (try simp only [vki,reduceCtorEq] at h))|(refine kx ?_;kernel_rfl)|omega|assumption|with_reducible rfl|skip)))
 ·rfl
 (simp only [vrt,Tryz.results45,vkt,seval,Jj,qd,qa];refine Fin.val rfl ?_;(try simp only [AV.le,AV.leL]))
 all_goals first|rfl|simp
def Jv:List AV→Prop × AV
 |[]=>(True,qd (jG ZX))
 |_=>(False,.junk)
theorem Qj6 {A:Frm→Prop}:qm A Tryz.prog 45 (qG false Jv):=qH fun vs hv h=>by
 clear hv
 unfold Jv at h ⊢
 split at h
 ·clear h
  refine ⟨by first|trivial|(repeat' split) <;> simp [AV.plain,AV.plainL,aI,aB,ql,qb,qp,qx,aTk,cTk],fun h=>absurd h (by decide), ?_⟩
  have:=QeG
  first|exact this|(simp only [];exact this)
 ·exact h.elim
def Ru:List AV→Prop × AV
 |[.agg [.sl c0,.v (.int .i64 c1),.sl c2]]=>(c0=(c0.map qj).map qz∧c2=(c2.map dTk).map eTk∧((⟨(c0.map qj),c1,(c2.map dTk)⟩:Chart)).cabins.length≤maxLen,.tup [aI (QcD ((⟨(c0.map qj),c1,(c2.map dTk)⟩:Chart))),aI (zw ((⟨(c0.map qj),c1,(c2.map dTk)⟩:Chart)))])
 |_=>(False,.junk)
theorem Qmt {A:Frm→Prop}:qm A Tryz.prog 42 (qG true Ru):=qH fun vs hv h=>by
 clear hv
 unfold Ru at h ⊢
 split at h
 ·rename_i c0 c1 c2;obtain ⟨q0,q1,k0⟩:=h
  refine ⟨by first|trivial|(repeat' split) <;> simp [AV.plain,AV.plainL,aI,aB,ql,qb,qp,qx,aTk,cTk],fun _=>(by simp [AV.flat,AV.flatL,aI]), ?_⟩
  have:=Qj2 ((⟨(c0.map qj),c1,(c2.map dTk)⟩:Chart)) k0
  simp only [qd,aI,qa,← q0,← q1] at this
  first|exact this|(simp only [zB,qd,aI,qp,qa,← q0,← q1];exact this)
 ·exact h.elim
def KV:List AV→Prop × AV
 |[.agg [.sl c0,.v (.int .i64 c1),.sl c2],.agg [.v (.int .i64 a0),.v (.int .i64 a1),.v (.int .i64 a2),.sl a3,.v (.bool a4)]]=>(c0=(c0.map qj).map qz∧c2=(c2.map dTk).map eTk∧a3=(a3.map qM).map qU∧((⟨(c0.map qj),c1,(c2.map dTk)⟩:Chart)).cabins.length≤maxLen∧((⟨a0,a1,a2,(a3.map qM),a4⟩:Ask)).sexes.length≤maxLen,.tup [qb (Zc ((⟨(c0.map qj),c1,(c2.map dTk)⟩:Chart)) ((⟨a0,a1,a2,(a3.map qM),a4⟩:Ask))).1,aI (Zc ((⟨(c0.map qj),c1,(c2.map dTk)⟩:Chart)) ((⟨a0,a1,a2,(a3.map qM),a4⟩:Ask))).2])
 |_=>(False,.junk)
theorem QlR {A:Frm→Prop}:qm A Tryz.prog 18 (qG false KV):=qH fun vs hv h=>by
 clear hv
 unfold KV at h ⊢
 split at h
 ·rename_i c0 c1 c2 a0 a1 a2 a3 a4;obtain ⟨q0,q1,q2,k0,k1⟩:=h
  refine ⟨by first|trivial|(repeat' split) <;> simp [AV.plain,AV.plainL,aI,aB,ql,qb,qp,qx,aTk,cTk],fun h=>absurd h (by decide), ?_⟩
  have:=Qiy ((⟨(c0.map qj),c1,(c2.map dTk)⟩:Chart)) ((⟨a0,a1,a2,(a3.map qM),a4⟩:Ask)) k0 k1
  simp only [qI,qd,aI,qg,qa,← q0,← q1,← q2] at this
  first|exact this|(simp only [qI,aB,zB,qd,aI,ql,qp,qg,qa,← q0,← q1,← q2];exact this)
 ·exact h.elim
def WZ:List AV→Prop × AV
 |[.agg [.sl c0,.v (.int .i64 c1),.sl c2],.agg [.v (.int .i64 a0),.v (.int .i64 a1),.v (.int .i64 a2),.sl a3,.v (.bool a4)]]=>(c0=(c0.map qj).map qz∧c2=(c2.map dTk).map eTk∧a3=(a3.map qM).map qU∧((⟨(c0.map qj),c1,(c2.map dTk)⟩:Chart)).cabins.length≤maxLen∧((⟨a0,a1,a2,(a3.map qM),a4⟩:Ask)).sexes.length≤maxLen,.tup [qb (kJ ((⟨(c0.map qj),c1,(c2.map dTk)⟩:Chart)) ((⟨a0,a1,a2,(a3.map qM),a4⟩:Ask))).1,aI (kJ ((⟨(c0.map qj),c1,(c2.map dTk)⟩:Chart)) ((⟨a0,a1,a2,(a3.map qM),a4⟩:Ask))).2.1,aI (kJ ((⟨(c0.map qj),c1,(c2.map dTk)⟩:Chart)) ((⟨a0,a1,a2,(a3.map qM),a4⟩:Ask))).2.2])
 |_=>(False,.junk)
theorem Qhs {A:Frm→Prop}:qm A Tryz.prog 27 (qG false WZ):=qH fun vs hv h=>by
 clear hv
 unfold WZ at h ⊢
 split at h
 ·rename_i c0 c1 c2 a0 a1 a2 a3 a4;obtain ⟨q0,q1,q2,k0,k1⟩:=h
  refine ⟨by first|trivial|(repeat' split) <;> simp [AV.plain,AV.plainL,aI,aB,ql,qb,qp,qx,aTk,cTk],fun h=>absurd h (by decide), ?_⟩
  have:=Qfo ((⟨(c0.map qj),c1,(c2.map dTk)⟩:Chart)) ((⟨a0,a1,a2,(a3.map qM),a4⟩:Ask)) k0 k1
  simp only [qI,qd,aI,qg,qa,← q0,← q1,← q2] at this
  first|exact this|(simp only [qI,aB,zB,qd,aI,ql,qp,qg,qa,← q0,← q1,← q2];exact this)
 ·exact h.elim
def YD:List AV→Prop × AV
 |[.agg [.sl c0,.v (.int .i64 c1),.sl c2],.agg [.v (.int .i64 a0),.v (.int .i64 a1),.v (.int .i64 a2),.sl a3,.v (.bool a4)]]=>(c0=(c0.map qj).map qz∧c2=(c2.map dTk).map eTk∧a3=(a3.map qM).map qU∧((⟨(c0.map qj),c1,(c2.map dTk)⟩:Chart)).cabins.length≤maxLen∧((⟨a0,a1,a2,(a3.map qM),a4⟩:Ask)).sexes.length≤maxLen,.tup [jP (ku ((⟨(c0.map qj),c1,(c2.map dTk)⟩:Chart)) ((⟨a0,a1,a2,(a3.map qM),a4⟩:Ask))).1,aI (ku ((⟨(c0.map qj),c1,(c2.map dTk)⟩:Chart)) ((⟨a0,a1,a2,(a3.map qM),a4⟩:Ask))).2])
 |_=>(False,.junk)
theorem Qi4 {A:Frm→Prop}:qm A Tryz.prog 23 (qG false YD):=qH fun vs hv h=>by
 clear hv
 unfold YD at h ⊢
 split at h
 ·rename_i c0 c1 c2 a0 a1 a2 a3 a4;obtain ⟨q0,q1,q2,k0,k1⟩:=h
  refine ⟨by first|trivial|(repeat' split) <;> simp [AV.plain,AV.plainL,aI,aB,ql,qb,qp,qx,aTk,cTk],fun h=>absurd h (by decide), ?_⟩
  have:=Qgm ((⟨(c0.map qj),c1,(c2.map dTk)⟩:Chart)) ((⟨a0,a1,a2,(a3.map qM),a4⟩:Ask)) k0 k1
  simp only [qI,qd,aI,qg,qa,← q0,← q1,← q2] at this
  first|exact this|(simp only [qI,aB,zB,qd,aI,ql,qp,qg,qa,← q0,← q1,← q2];exact this)
 ·exact h.elim
def WP (_:St):List AV→Option Pk
 |[.agg [.sl cs,.v (.int .i64 s),.sl ts],.agg [.v (.int .i64 p),.v (.int .i64 f),.v (.int .i64 t),.sl xs,.v (.bool d)]]=>some { pre:=cs=(cs.map qj).map qz∧ts=(ts.map dTk).map eTk∧xs=(xs.map qM).map qU∧cs.length≤maxLen∧xs.length≤maxLen,ar:=[.agg [.sl cs,.v (.int .i64 s),.sl ts],.agg [.v (.int .i64 p),.v (.int .i64 f),.v (.int .i64 t),.sl xs,.v (.bool d)]],v:=.tup [.row 0,aI (zJ ⟨cs.map qj,s,ts.map dTk⟩ ⟨p,f,t,xs.map qM,d⟩)],L1:=[some (.row 44 1 ((YE ⟨cs.map qj,s,ts.map dTk⟩ ⟨p,f,t,xs.map qM,d⟩).map qY))] }
 |_=>none
theorem QgC {A:Frm→Prop}:qm A Tryz.prog 16 (fnE WP):=qZ fun S bs q h hp=>by
 unfold WP at h
 split at h
 ·rename_i cs s ts p f t xs d
  cases h
  obtain ⟨h1,h2,h3,h4,h5⟩:=hp
  have:=Qe4 ⟨cs.map qj,s,ts.map dTk⟩ ⟨p,f,t,xs.map qM,d⟩ (by simpa using h4) (by simpa using h5)
  simp only [qd,qa,qI,qg,← h1,← h2,← h3] at this
  exact this
 ·cases h
theorem QiV:QcD (jG [])=7∧zw (jG [])=0:=by decide +kernel
theorem Qfp:zJ (jG []) ⟨9,0,4,[1],false⟩=0∧YE (jG []) ⟨9,0,4,[1],false⟩=[[⟨0,1⟩],[⟨2,0⟩]]:=by decide +kernel
theorem Qi9:Zc (jG []) ⟨9,2,4,[2,1],false⟩=([⟨0,0⟩,⟨0,1⟩],0):=by decide +kernel
theorem Qd6:kJ (jG ZX) ⟨9,0,4,[2],false⟩=([⟨1,1⟩,⟨1,1⟩,⟨0,0⟩,⟨0,0⟩],1,0):=by decide +kernel
theorem Qia:ku (jG ZX) ⟨9,0,4,[1],true⟩=([⟨2,0,1⟩],0):=by decide +kernel
def yj:=kk @ty3 (kk @yf (kk @QbT (kk @x8 (kk @Q0 (kk @Qfm (kk @yu (kk @Qfa (kk @ti3.eq_1 (kk @jK.eq_1 (kk @Xx.eq_1 (kk @vV.eq_1 (kk @kU.eq_1 (kk @RL.eq_1 (kk @jQ.eq_1 @K7.eq_1))))))))))))))
def kP:=kk @aI.eq_1 (kk @aB.eq_1 (kk @ql.eq_1 (kk @qU.eq_1 (@jJ))))
set_option maxRecDepth 100000 in
set_option maxHeartbeats 4000000 in
theorem Qbr:FnV Tryz.prog 9 [] (aB true):=by
 have env:Env (fun _=>True) Tryz.prog tyB (tab [(43,qG false Zj),(45,qG false Jv),(44,qG false Y8),(42,qG true Ru),(16,fnE WP),(18,qG false KV),(27,qG false WZ),(23,qG false YD),(46,qG false XN),(20,qG true seqB),(25,qG true seqT)]):=qA ⟨Qhv,Qj6,elask,Qmt,QgC,QlR,Qhs,Qi4,Qk0,eeqB,eeqT,trivial⟩
 refine Fn.of (A:=fun _=>True) (n0:=0) (D:=noD) (Fn0 Tryz.func9 rfl (fun vs w=>by kernel_rfl) (by kernel_rfl)) (by simp) (by simp) (fun i o h=>by cases h) (fun _ _ _ _=>trivial) qw ?_
 have h1:=QiV
 have h2:=Qfp
 have h3:=Qi9
 have h4:=Qd6
 have h5:=Qia
 obtain ⟨C,hC⟩:∃ C,jG []=C:=⟨_,rfl⟩
 obtain ⟨D,hD⟩:∃ D,jG ZX=D:=⟨_,rfl⟩
 have eC:(⟨C.cabins,C.secs,C.sold⟩:Chart)=C:=rfl
 have eD:(⟨D.cabins,D.secs,D.sold⟩:Chart)=D:=rfl
 have m1:(1:Nat)≤maxLen:=by decide
 have m2:(2:Nat)≤maxLen:=by decide
 have c1:C.cabins.length≤maxLen:=by rw [← hC];decide
 have c2:D.cabins.length≤maxLen:=by rw [← hD];decide
 rw [hC] at h1 h2 h3
 rw [hD] at h4 h5
 obtain ⟨h1a,h1b⟩:=h1
 obtain ⟨h2a,h2b⟩:=h2
 repeat' (first|(apply nx;with_reducible constructor)|refine jq (by decide) ?_)
 ((first|refine kz env fun Q hQ=>?_|refine kj fun Q hQ=>?_);simp only [vkt,seval,ite_and];(repeat' first|with_reducible assumption|apply kk|intro hp);all_goals (first|(refine hQ _ ?_;clear hQ Q)|(refine hQ _ (fun h=>?_) (fun h=>?_) <;> clear hQ Q <;> (try simp only [vki,reduceCtorEq] at h))|(refine kx ?_;kernel_rfl)|omega|assumption|with_reducible rfl|skip))
 repeat' (first|(apply nx;with_reducible constructor)|refine jq (by decide) ?_)
 ((first|refine kz env fun Q hQ=>?_|refine kj fun Q hQ=>?_);simp only [vkt,seval,kP,qd,qa,qy,mTk,Ru,Zj,hC,eC,c1,h1a,h1b,ite_and];(repeat' first|with_reducible assumption|apply kk|intro hp);all_goals (first|(refine hQ _ ?_;clear hQ Q)|(refine hQ _ (fun h=>?_) (fun h=>?_) <;> clear hQ Q <;> (try simp only [vki,reduceCtorEq] at h))|(refine kx ?_;kernel_rfl)|omega|assumption|with_reducible rfl|skip))
 repeat' (first|(apply nx;with_reducible constructor)|refine jq (by decide) ?_)
 ((first|refine kz env fun Q hQ=>?_|refine kj fun Q hQ=>?_);simp only [vkt,seval,yj,kP,qO,qY,qd,qa,qI,qg,qy,mTk,Uo,WP,Zj,Y8,hC,eC,c1,h2a,h2b,ite_and];(repeat' first|with_reducible assumption|apply kk|intro hp);all_goals (first|(refine hQ _ ?_;clear hQ Q)|(refine hQ _ (fun h=>?_) (fun h=>?_) <;> clear hQ Q <;> (try simp only [vki,reduceCtorEq] at h))|(refine kx ?_;kernel_rfl)|omega|assumption|with_reducible rfl|skip))
 repeat' (first|(apply nx;with_reducible constructor)|refine jq (by decide) ?_)
 ((first|refine kz env fun Q hQ=>?_|refine kj fun Q hQ=>?_);simp only [vkt,seval,yj,kP,qb,qO,qd,qa,qI,qg,qy,mTk,Uo,KV,Zj,Y8,hC,eC,c1,h3,ite_and];(repeat' first|with_reducible assumption|apply kk|intro hp);all_goals (first|(refine hQ _ ?_;clear hQ Q)|(refine hQ _ (fun h=>?_) (fun h=>?_) <;> clear hQ Q <;> (try simp only [vki,reduceCtorEq] at h))|(refine kx ?_;kernel_rfl)|omega|assumption|with_reducible rfl|skip))
 repeat' (first|(apply nx;with_reducible constructor)|refine jq (by decide) ?_)
 ((first|refine kz env fun Q hQ=>?_|refine kj fun Q hQ=>?_);simp only [vkt,seval,yj,kP,qb,qO,qd,qa,qI,qg,qy,mTk,Uo,WZ,Jv,Y8,hD,eD,c2,h4,ite_and];(repeat' first|with_reducible assumption|apply kk|intro hp);all_goals (first|(refine hQ _ ?_;clear hQ Q)|(refine hQ _ (fun h=>?_) (fun h=>?_) <;> clear hQ Q <;> (try simp only [vki,reduceCtorEq] at h))|(refine kx ?_;kernel_rfl)|omega|assumption|with_reducible rfl|skip))
 repeat' (first|(apply nx;with_reducible constructor)|refine jq (by decide) ?_)
 ((first|refine kz env fun Q hQ=>?_|refine kj fun Q hQ=>?_);simp only [vkt,seval,yj,kP,jP,eTr,qd,qa,qI,qg,qy,mTk,Uo,YD,Jv,Y8,hD,eD,c2,h5,ite_and];(repeat' first|with_reducible assumption|apply kk|intro hp);all_goals (first|(refine hQ _ ?_;clear hQ Q)|(refine hQ _ (fun h=>?_) (fun h=>?_) <;> clear hQ Q <;> (try simp only [vki,reduceCtorEq] at h))|(refine kx ?_;kernel_rfl)|omega|assumption|with_reducible rfl|skip))
 repeat' (first|(apply nx;with_reducible constructor)|refine jq (by decide) ?_)
 obtain ⟨p0,hp0⟩:∃ p:List Bunk,p=[⟨0,1⟩]:=⟨_,rfl⟩
 obtain ⟨p1,hp1⟩:∃ p:List Bunk,p=[⟨2,0⟩]:=⟨_,rfl⟩
 obtain ⟨p5,hp5⟩:∃ p:List Bunk,p=[⟨0,0⟩,⟨0,1⟩]:=⟨_,rfl⟩
 obtain ⟨p7,hp7⟩:∃ p:List Bunk,p=[⟨1,1⟩,⟨1,1⟩,⟨0,0⟩,⟨0,0⟩]:=⟨_,rfl⟩
 obtain ⟨p10,hp10⟩:∃ p:List Tr,p=[⟨2,0,1⟩]:=⟨_,rfl⟩
 refine jT (S':={ t:=asg [(0,aB false),(1,aI 7),(2,aI 0),(3,.row 1),(4,aI 0),(5,qb p5),(6,aI 0),(7,qb p7),(8,aI 1),(9,aI 0),(10,jP p10),(11,aI 0)],h:=qc [(1,.row 44 1 [qY p0,qY p1])],n:=2,j:=0,d:=[],m:=0 }) ?_ ?_
 ·rw [hp0,hp1,hp5,hp7,hp10]
  (refine Le.ok some [] ?_;constructor;all_goals (try simp only [vle,vkt,seval,kP,qb,jP,qO,qY,eTr]))
  all_goals first|rfl|simp
 have q0:decide (p0=[⟨0,1⟩])=true:=decide_eq_true hp0
 have q1:decide (p1=[⟨2,0⟩])=true:=decide_eq_true hp1
 have q5:decide (p5=[⟨0,0⟩,⟨0,1⟩])=true:=decide_eq_true hp5
 have q7:decide (p7=[⟨1,1⟩,⟨1,1⟩,⟨0,0⟩,⟨0,0⟩])=true:=decide_eq_true hp7
 have q10:decide (p10=[⟨2,0,1⟩])=true:=decide_eq_true hp10
 have l0:p0.length≤1000:=by rw [hp0];decide
 have l1:p1.length≤1000:=by rw [hp1];decide
 have l5:p5.length≤1000:=by rw [hp5];decide
 have l7:p7.length≤1000:=by rw [hp7];decide
 have l10:p10.length≤1000:=by rw [hp10];decide
 clear hp0 hp1 hp5 hp7 hp10 h1a h1b h2a h2b h3 h4 h5
 refine kz env fun Q hQ=>?_
 simp only [vkt,seval,yj,kP,qx,qb,jP,qO,qY,eTr,yX,mTr,Qjh,dTr_v,XN,seqB,seqT,List.getD_cons_zero,List.getD_cons_succ,q0,q1,q5,q7,q10,l0,l1,l5,l7,l10,List.append_eq]
 apply kk
 ·refine kx ?_
  kernel_rfl
 refine hQ _ ?_
 clear hQ Q
 repeat' (first|(apply nx;with_reducible constructor)|refine jq (by decide) ?_)
 (simp only [vrt,Tryz.results9,vkt,seval,kP];refine Fin.val rfl ?_;(try simp only [AV.le]))
 all_goals first|rfl|simp
noncomputable def Ji (S:St):List AV→Option Pk
 |[.ptr i 0,.v (.int .i64 a),.v (.int .i64 g),.v (.int .i64 s)]=>match S.h i with
  |some (.cells [.v (.int .u64 x)])=>some { pre:=(1≤a∧a≤3)∧(1≤g∧g≤5)∧(0≤s∧s≤8),hs:=[i],ar:=[.ptr 0 0,.v (.int .i64 a),.v (.int .i64 g),.v (.int .i64 s)],L0:=[.cells [.v (.int .u64 x)]],v:=qd (coC x a g s),L1:=[some (.cells [.v (.int .u64 (coX x a g s))])] }
  |_=>none
 |_=>none
theorem Qhd {A:Frm→Prop}:qm A Tryz.prog 11 (fnE Ji):=qZ fun S bs q h hp=>by
 unfold Ji at h
 split at h
 ·split at h
  ·cases h;exact Qb1 _ _ _ _ hp.1 hp.2.1 hp.2.2
  ·cases h
 ·cases h
noncomputable def Jd (S:St):List AV→Option Pk
 |[.ptr i 0,.agg [.sl cs,.v (.int .i64 s),.sl ts],.v (.int .i64 n)]=>match S.h i with
  |some (.cells [.v (.int .u64 x)])=>some { pre:=cs=(cs.map qj).map qz∧ts=(ts.map dTk).map eTk∧(1≤s∧s≤5)∧(1≤n∧n≤3),hs:=[i],ar:=[.ptr 0 0,.agg [.sl cs,.v (.int .i64 s),.sl ts],.v (.int .i64 n)],L0:=[.cells [.v (.int .u64 x)]],v:=qI (aoA x s n),L1:=[some (.cells [.v (.int .u64 (aoX x s n))])] }
  |_=>none
 |_=>none
theorem Qfy {A:Frm→Prop}:qm A Tryz.prog 12 (fnE Jd):=qZ fun S bs q h hp=>by
 unfold Jd at h
 split at h
 ·rename_i cs s ts n
  split at h
  ·cases h
   obtain ⟨h1,h2,h3,h4⟩:=hp
   have:=Qb2 (by assumption) ⟨cs.map qj,s,ts.map dTk⟩ n h3 h4
   simp only [qd,qa,← h1,← h2] at this
   exact this
  ·cases h
 ·cases h
def yn:List AV→Prop × AV
 |[]=>(True,aB true)
 |_=>(False,.junk)
theorem Qhz {A:Frm→Prop}:qm A Tryz.prog 9 (qG true yn):=qH fun vs hv h=>by
 clear hv
 unfold yn at h ⊢
 split at h
 ·clear h
  refine ⟨by first|trivial|(repeat' split) <;> simp [AV.plain,AV.plainL,aI,aB,ql,qb,qp,qx,aTk,cTk],fun _=>(by simp [AV.flat,aB]), ?_⟩
  have:=Qbr
  first|exact this|(simp only [];exact this)
 ·exact h.elim
end Go.Sym.B
