/- Walks and what they compute, joined: part 3. -/
import Derived.Test.YtcmfagpdahhfpaaGreatDoorYS3
import Derived.Test.YtcmfagpdahhfpaaGreatDoorProg
import Derived.KernelRfl
import Derived.Shelf.Strings.OnBuilder
import Derived.Shelf.Strconv.Itoa3
import Derived.Shelf.Strconv.AtoiAll
import Derived.Shelf.Strings.Split
import Derived.Shelf.Strings.Cut
import Derived.Test.YtcmfagpdahhfpaaGreatDoorYB2
set_option linter.all false
set_option maxHeartbeats 40000000
namespace Go.Sym.B
open Go Go.Sym Go.Proofs Go.Sym.C
theorem QdO (c:Chart) (a:Ask) (m:Nat):JX c a m=(lsF c a m [] 0).map (·.2):=by
 unfold JX lsF
 generalize Xn (wM c.sold).length m [] 0=L
 induction L with
 |nil=>rfl
 |cons l L ih =>
  rw [cW,cW]
  have hl:lsG c a l=(jy c.cabins c.secs a (xf c l) c.sold).map fun t=>(l,t):=rfl
  rw [hl]
  cases jy c.cabins c.secs a (xf c l) c.sold with
  |none=>exact ih
  |some t=>rfl
def YZ (c:Chart) (a:Ask) (many:Nat) (S:St):List AV->Option Pk
 |[.v (.int .i64 n),.v (.int .i64 m),.clo f [.ptr p3 0,.ptr p2 0,.ptr p4 0,.ptr p5 0]]=>match S.h p2 with
  |some (.cells [.ptr p0 0])=>match S.h p0 with
   |some (.cells [_,_,.row p1])=>some { pre:=n=(wM c.sold).length/\m=(many:Int)/\f=85/\LsOk c a [] 0 many,hs:=[p0,p1,p2,p3,p4,p5],ar:=[aI (wM c.sold).length,aI many,.clo 85 [.ptr 3 0,.ptr 2 0,.ptr 4 0,.ptr 5 0]],L0:=mvL c a [],v:=.tup [qx (((lsF c a many [] 0).map (·.1)).getD []),aB (lsF c a many [] 0).isSome],L1:=(mvL c a (((lsF c a many [] 0).map (·.2)).getD [])).map some }
   |_=>none
  |_=>none
 |_=>none
theorem Qlu {A:Frm->Prop} {c:Chart} {a:Ask} {many:Nat}:qm A Tryz.prog 84 (fnE (YZ c a many)):=zB fun S bs q h hp=>by
 unfold YZ at h
 split at h
 ·split at h
  ·split at h
   ·cases h
    exact Qfm c a many hp.2.2.2
   ·cases h
  ·cases h
 ·cases h
theorem R7 {c:Chart} {a:Ask} (h:wo c a=0) {t:List Tr} (ht:(List.range 3).findSome? (JX c a)=some t):xI c a=(t,0):=by
 unfold xI
 rw [if_neg (by simpa using h),ht]
theorem LW {c:Chart} {a:Ask} (h:wo c a=0) (ht:(List.range 3).findSome? (JX c a)=none):xI c a=([],11):=by
 unfold xI
 rw [if_neg (by simpa using h),ht]
def mdS (c:Chart) (a:Ask) (k:Nat):St:={ t:=asg [(3,.ptr 1 0),(4,.nil),(5,aI 0),(6,.ptr 4 0),(8,.ptr 5 0),(24,aI k)],h:=qa [(1,.cells (qj a)),(2,qf c.cabins c.secs 3),(3,qc c.sold),(4,.cells [.ptr 2 0]),(5,.cells [.sl ((wM c.sold).map zG)])],n:=6 }
def vN:=jv @ty3 (jv @jW (jv @WG (jv @Zq (jv @WB (jv @QdS (jv @QdF (jv @Qn (jv @ti3.eq_1 (jv @jE.eq_1 (jv @QV.eq_1 (jv @kY.eq_1 (jv @QT.eq_1 (jv @KO.eq_1 (jv @X7.eq_1 @xh.eq_1))))))))))))))
def vJ:=jv @aI.eq_1 (jv @aB.eq_1 (jv @qx.eq_1 (@WK)))
theorem Qhe (c:Chart) (a:Ask) (hc:c.cabins.length<=maxLen) (ha:a.sexes.length<=maxLen):FnV Tryz.prog 32 [qh c,zh a] (.tup [jU (xI c a).1,aI (xI c a).2]):=by
 have ec:(⟨c.cabins,c.secs,c.sold⟩:Chart)=c:=rfl
 have ea:(⟨a.party,a.frm,a.to,a.sexes,a.dog⟩:Ask)=a:=rfl
 by_cases h0:wo c a=0
 ·have hval:=(Qs h0).val
  have hsx:=(Qs h0).sx
  have h8:=hval.many
  have h100:c.sold.length<=100:=by omega
  have env0:Env (fun _=>True) Tryz.prog tyB (tab [(76,fnE jS),(83,zU false Qcb)]):=qB ⟨Vj,elone,trivial⟩
  have env1:∀ k,Env (fun _=>True) Tryz.prog tyB (tab [(84,fnE (YZ c a k))]):=fun k=>qB ⟨Qlu,trivial⟩
  have env:=env0
  refine kV (Fn0 Tryz.func32 rfl (fun vs w=>by kernel_rfl) (by kernel_rfl)) (by simp) (by simp [AV.ids,AV.idsL,qh,qd,zh,qj]) ?_
  repeat' first|(apply nx;with_reducible constructor)|apply jq (by decide)|((first|apply jz env|apply jw);intro Q hQ;simp only [vkt,seval,vN,vJ,qh,qd,zh,qj,mTk,qD,qf,qc,qH,jS,Qcb,ec,ea,h0,h100,ite_and];(repeat' first|with_reducible assumption|apply jv|intro hp);all_goals first|(apply hQ;clear hQ Q)|(apply jx;kernel_rfl)|omega|assumption|with_reducible rfl|skip)
  refine qY (fun k:{ k:Nat // k<=3/\∀ j,j < k->JX c a j=none }=>mdS c a k.1) (fun k=>3 - k.1) ⟨0,ap _,fun j h=>absurd h (bu _)⟩ ?_ fun ⟨k,hk,hno⟩=>?_
  ·(refine Le.ok some [] ?_;constructor;all_goals (try simp only [vle,vkt,seval,vJ,qj,qf,qc]))
   all_goals first|rfl|simp
  simp only at hk hno ⊢
  clear env
  have env:=env1 k
  by_cases hk3:k < 3
  ·have d1:decide ((k:Int) < 3)=true:=decide_eq_true (by omega)
   have w1:=k9 k (by omega)
   have hok:LsOk c a [] 0 k:=⟨hval,hsx,by simp;omega,.inl (ap _),by simp⟩
   have hN:=QdO c a k
   obtain ⟨o,ho⟩:∃ o,lsF c a k [] 0=o:=⟨_,rfl⟩
   rw [ho] at hN
   cases o with
   |none =>
    repeat' first|(apply nx;with_reducible constructor)|apply jq (by decide)|((first|apply jz env|apply jw);intro Q hQ;simp only [vkt,seval,vN,vJ,qj,qf,qc,mvL,mdS,YZ,d1,w1,hok,ho,bG,bD,ite_and];(repeat' first|with_reducible assumption|apply jv|intro hp);all_goals first|(apply hQ;clear hQ Q)|(apply jx;kernel_rfl)|omega|assumption|with_reducible rfl|skip)
    refine ⟨⟨k+1,hk3,fun j hj=>?_⟩,by show 3 - (k+1) < 3 - k;omega, ?_⟩
    ·rcases bw (bx hj) with h1|h1
     ·exact hno j h1
     ·rw [h1];exact hN
    ·(refine Le.ok some [] ?_;constructor;all_goals (try simp only [vle,vkt,seval,vJ,qj,qf,qc]))
     all_goals first|rfl|simp
   |some t =>
    rw [R7 h0 (fsr hno hk3 hN)]
    repeat' first|(apply nx;with_reducible constructor)|apply jq (by decide)|((first|apply jz env|apply jw);intro Q hQ;simp only [vkt,seval,vN,vJ,qj,qf,qc,mvL,mdS,YZ,d1,hok,ho,ite_and];(repeat' first|with_reducible assumption|apply jv|intro hp);all_goals first|(apply hQ;clear hQ Q)|(apply jx;kernel_rfl)|omega|assumption|with_reducible rfl|skip)
    (simp only [vrt,Tryz.results32,vkt,seval,vJ,jU];refine Fin.val rfl ?_;(try simp only [AV.le,AV.leL]))
    all_goals first|rfl|simp
  ·have d1:decide ((k:Int) < 3)=false:=decide_eq_false (by omega)
   rw [LW h0 (La (fun j hj=>hno j (by omega)))]
   repeat' first|(apply nx;with_reducible constructor)|apply jq (by decide)|((first|apply jz env|apply jw);intro Q hQ;simp only [vkt,seval,vN,vJ,qj,qf,qc,mdS,d1,ite_and];(repeat' first|with_reducible assumption|apply jv|intro hp);all_goals first|(apply hQ;clear hQ Q)|(apply jx;kernel_rfl)|omega|assumption|with_reducible rfl|skip)
   (simp only [vrt,Tryz.results32,vkt,seval,vJ,jU];refine Fin.val rfl ?_;(try simp only [AV.le,AV.leL]))
   all_goals first|rfl|simp
 ·have env:=qB (A:=fun _=>True) (kC Vj kN)
  refine kV (Fn0 Tryz.func32 rfl (fun vs w=>by kernel_rfl) (by kernel_rfl)) (by simp) (by simp [AV.ids,AV.idsL,qh,qd,zh,qj]) ?_
  rw [show xI c a=([],wo c a) by unfold xI;rw [if_pos (by simpa using h0)]]
  repeat' first|(apply nx;with_reducible constructor)|apply jq (by decide)|((first|apply jz env|apply jw);intro Q hQ;simp only [vkt,seval,vN,vJ,qh,qd,zh,qj,mTk,qD,jS,ec,ea,h0,ite_and];(repeat' first|with_reducible assumption|apply jv|intro hp);all_goals first|(apply hQ;clear hQ Q)|(apply jx;kernel_rfl)|omega|assumption|with_reducible rfl|skip)
  (simp only [vrt,Tryz.results32,vkt,seval,vJ,jU];refine Fin.val rfl ?_;(try simp only [AV.le,AV.leL]))
  all_goals first|rfl|simp
theorem Xx {cs:List Cabin} {a:Ask}:∀ (m:Nat) (sold:List Tk) (begun:List Bunk),∀ x ∈ zO cs a m sold begun,x.1.length=begun.length+m
 |0,sold,begun,x,hx=>by
  simp only [zO,aO] at hx
  subst hx;rfl
 |m+1,sold,begun,x,hx=>by
  rw [Qw,cZ] at hx
  obtain ⟨b,hb,hx⟩:=hx
  unfold gbL at hx
  split at hx
  ·rw [Xx m _ _ x hx];simp;omega
  ·simp at hx
theorem QkY {c:Chart} {a:Ask} (h:a.sexes.length=1) {j:Nat} (hj:j < (plP c a).length):((plP c a).getD j default).1=[((plP c a).getD j default).1.getD 0 default]:=by
 have:=Xx a.sexes.length c.sold [] _ (yX (l:=plP c a) (d:=default) hj)
 rw [h] at this
 generalize ((plP c a).getD j default).1=l at this ⊢
 match l,this with
 |[b],_=>rfl
theorem Qy (c:Chart) (a:Ask) (s:Int):(yC c a s).length=(plP c (V4 a s)).length:=by simp [yC]
theorem Qap {c:Chart} {a:Ask} {s:Int} {j:Nat} (hj:j < (plP c (V4 a s)).length):(yC c a s).getD j default=((plP c (V4 a s)).getD j default).1.getD 0 default:=by
 simp [yC,ah,hj]
def opR (c:Chart) (a:Ask) (s:Int) (j:Nat):List (List DV):=((yC c a s).take j).map qI
theorem Qfg {c:Chart} {a:Ask} {s:Int} {j:Nat} (hj:j < (plP c (V4 a s)).length):opR c a s (j+1)=opR c a s j++[qI (((plP c (V4 a s)).getD j default).1.getD 0 default)]:=by
 unfold opR
 rw [<- Qap hj,bP (by rw [Qy];exact hj),aq]
 simp [ah,show j < (yC c a s).length by rw [Qy];exact hj]
theorem QlM (c:Chart) (a:Ask) (s:Int) (j:Nat):zn 2 (opR c a s j)=True:=by
 unfold opR
 exact Ul _
theorem Xj (c:Chart) (a:Ask) (k:Nat):(Qe c a k).length=k:=by simp [Qe]
theorem Qc7 (c:Chart) (a:Ask):(Zj c a).length=(a.to - a.frm).toNat:=Xj _ _ _
theorem QdH {c:Chart} {a:Ask} {i:Nat} (hi:i < (a.to - a.frm).toNat) (h:yC c a (a.frm+i)=[]):(Zj c a).any (·.isEmpty)=true:=by
 rw [cm]
 refine ⟨_,am.2 ⟨i,aX.2 hi,rfl⟩, ?_⟩
 show (yC c a (a.frm+i)).isEmpty=true
 rw [h];rfl
theorem Qeg {c:Chart} {a:Ask} (h:∀ i,i < (a.to - a.frm).toNat->yC c a (a.frm+i) ≠ []):(Zj c a).any (·.isEmpty)=false:=by
 rw [dN]
 intro l hl
 obtain ⟨i,hi,rfl⟩:=am.1 hl
 have:=h i (aX.1 hi)
 simpa using this
theorem QiJ {c:Chart} {a:Ask} (h:wo c a=0):0<=a.frm/\a.frm < a.to/\a.to<=c.secs:=by
 have hk:=(kz h).2
 unfold Qq at hk
 split at hk
 ·exact absurd hk (by decide)
 split at hk
 ·exact absurd hk (by decide)
 split at hk
 ·exact absurd hk ‹_›
 rename_i h3
 exact Ry (Decidable.not_not.1 h3)
theorem U8 {c:Chart} {a:Ask} (h:wo c a=0) (s:Int):PlOk c (V4 a s):=⟨(Qs h).val,(Qs h).sx⟩
theorem BhOk.mono {L:List (List Bunk)} {es:List (Value × Value)} {i j:Nat} (h:BhOk L es i) (hij:i<=j):BhOk L es j:=⟨h.ok,fun k h1 h2=>h.look k (by omega) h2⟩
theorem Qdx {c:Chart} {a:Ask} (h:wo c a=0):∀ l ∈ Zj c a,l.length<=1000:=by
 intro l hl
 obtain ⟨i,hi,rfl⟩:=am.1 hl
 rw [Qy]
 have:=QaH (U8 h (a.frm+i))
 omega
def chC (L:List (List Bunk)) (k:Nat):Int:=if k=0 then 0 else (jb L ⟨-1,0⟩).2 - 1
def mks:Nat->List (Nat × AObj)
 |0=>[]
 |k+1=>(20+k,.mark) :: mks k
def dks:Nat->List ADf
 |0=>[]
 |k+1=>.mark (20+k) :: dks k
def chT (s:Int):List (Nat × AV):=[(3,.ptr 1 0),(4,.nil),(5,aI 0),(6,aI 0),(7,.ptr 2 0),(8,.ptr 4 0),(9,aI s)]
def chS (c:Chart) (a:Ask) (i:Nat):St:={ t:=asg (chT (a.frm+i)),h:=qa ([(1,.cells (qj a)),(2,qf c.cabins c.secs 3),(3,qc c.sold),(4,.cells [.row 5]),(5,.row 65 1 ((Qe c a i).map zI))]++mks i),n:=25,d:=dks i }
def crL0 (s:Int):List (Nat × AV):=chT s++[(11,.ptr 26 0),(56,.clo 140 [.ptr 27 0,.ptr 28 0])]
def crL (s:Int):List (Nat × AV):=chT s++[(11,.ptr 26 0)]
def crH (c:Chart) (a:Ask) (T:List (Nat × AObj)) (i j:Nat):List (Nat × AObj):=[(1,.cells (qj a)),(4,.cells [.row 5]),(5,.row 65 1 ((Qe c a i).map zI)),(26,.cells [.row 29]),(29,.row 76 2 (opR c a (a.frm+i) j))]++T
theorem Ug (c:Chart) (a:Ask):qO [2,3,27,28] 31 0 (plL c a)=[(2,qf c.cabins c.secs 3),(3,qc c.sold),(27,.cells [.ptr 2 0]),(28,.cells (qj a))]:=by
 simp [qO,plL,qg,AObj.ren,AV.renL,AV.ren,qf,qc,qj]
theorem K6 (c:Chart) (a:Ask) (j:Nat):qO [2] 31 0 (plH c a j)=[(2,qf c.cabins c.secs 31),(31,qc ((plP c a).getD j default).2)]:=by
 simp [qO,plH,qH,qg,AObj.ren,AV.renL,AV.ren,qf,qc]
def c2O (L:List (List Bunk)) (es:List (Value × Value)):List (Nat × AObj):=[(4,.cells [.row 5]),(5,.row 65 1 (L.map zI)),(25,.map es),(26,.cells [.mp 25])]
def c2T:List (Nat × AV):=[(4,.nil),(5,aI 0),(6,aI 0),(8,.ptr 4 0),(13,.ptr 26 0),(14,.clo 82 [.ptr 4 0,.ptr 26 0])]
def c2S (T:List (Nat × AObj)) (D:List ADf) (L:List (List Bunk)) (es:List (Value × Value)) (y:Nat):St:={ t:=asg (c2T++[(15,aI ((y:Int) - 1))]),h:=qa (c2O L es++T),n:=27,d:=D }
def c3S (T:List (Nat × AObj)) (D:List ADf) (L:List (List Bunk)) (es:List (Value × Value)) (A:Nat) (l:List Bunk) (k:Nat):St:={ t:=asg (c2T++[(15,aI (A:Nat)),(83,qb l),(84,aI l.length),(85,aI k)]),h:=qa (c2O L es++T),n:=27,d:=D }
def c4S (T:List (Nat × AObj)) (D:List ADf) (L:List (List Bunk)) (es:List (Value × Value)) (k:Nat):St:={ t:=asg [(4,.row 27),(5,aI (chC L k)),(6,aI 0),(8,.ptr 4 0),(13,.ptr 26 0),(14,.clo 82 [.ptr 4 0,.ptr 26 0]),(103,aI L.length),(104,aI k)],h:=qa (c2O L es++(27,.row 76 2 ((wkK L k).map qI)) :: T),n:=28,d:=D }
def zf:=jv @ty3 (jv @ty4 (jv @jW (jv @WG (jv @Zq (jv @ty59 (jv @WB (jv @VH (jv @xy (jv @Qkn (jv @QjZ (jv @ti3.eq_1 (jv @ti4.eq_1 (jv @jE.eq_1 (jv @QV.eq_1 (jv @kY.eq_1 (jv @Qbp.eq_1 (jv @QT.eq_1 (jv @WP.eq_1 (jv @yY.eq_1 (jv @U0.eq_1 @UJ.eq_1))))))))))))))))))))
def zk:=jv @aI.eq_1 (jv @aB.eq_1 (jv @fnQ.eq_1 (jv @Qfn.eq_1 (jv @Qfn.eq_2 (@WK)))))
theorem QeB (c:Chart) (a:Ask) (hc:c.cabins.length<=maxLen) (ha:a.sexes.length<=maxLen):FnV Tryz.prog 30 [qh c,zh a] (.tup [qb (kI c a).1,aI (kI c a).2.1,aI (kI c a).2.2]):=by
 have env:Env (fun F=>F.r=none) Tryz.prog tyB (tab [(76,fnE jS),(78,fnE jZ),(82,fnQ QbS)]):=qB ⟨Vj,Yz,eNx1,trivial⟩
 refine Fn.of (A:=fun F=>F.r=none) (n0:=0) (D:=noD) (Fn0 Tryz.func30 rfl (fun vs w=>by kernel_rfl) (by kernel_rfl)) (by simp) (by simp [AV.ids,AV.idsL,qh,qd,zh,qj]) (fun i o h=>by cases h) (fun _ _ _ h=>h) q9 ?_
 have ec:(⟨c.cabins,c.secs,c.sold⟩:Chart)=c:=rfl
 have ea:(⟨a.party,a.frm,a.to,a.sexes,a.dog⟩:Ask)=a:=rfl
 unfold kI
 by_cases h0:wo c a=0
 ·rw [if_neg (by simpa using h0)]
  by_cases h1:1 < a.sexes.length
  ·rw [if_pos h1]
   have d1:decide ((1:Int) < (a.sexes.length:Int))=true:=decide_eq_true (by omega)
   repeat' first|(apply nx;with_reducible constructor)|apply jq (by decide)|((first|apply jz env|apply jw);intro Q hQ;simp only [vkt,seval,zf,zk,qh,qd,zh,qj,mTk,qD,qf,qc,qH,jS,hwL,aP,ec,ea,h0,d1,ite_and];(repeat' first|with_reducible assumption|apply jv|intro hp);all_goals first|(apply hQ;clear hQ Q)|(apply jx;kernel_rfl)|omega|assumption|with_reducible rfl|skip)
   (simp only [vrt,Tryz.results30,vkt,seval,zk,qb];refine Fin.val rfl ?_;(try simp only [AV.le,AV.leL]))
   all_goals first|rfl|simp
  rw [if_neg h1]
  have d1:decide ((1:Int) < (a.sexes.length:Int))=false:=decide_eq_false (by omega)
  cases hd:a.dog with
  |true =>
   rw [hd] at ea
   repeat' first|(apply nx;with_reducible constructor)|apply jq (by decide)|((first|apply jz env|apply jw);intro Q hQ;simp only [vkt,seval,zf,zk,qh,qd,zh,qj,mTk,qD,qf,qc,qH,jS,hwL,aP,ec,ea,h0,d1,hd,ite_and];(repeat' first|with_reducible assumption|apply jv|intro hp);all_goals first|(apply hQ;clear hQ Q)|(apply jx;kernel_rfl)|omega|assumption|with_reducible rfl|skip)
   (simp only [vrt,Tryz.results30,vkt,seval,zk,qb];refine Fin.val rfl ?_;(try simp only [AV.le,AV.leL]))
   all_goals first|rfl|simp
  |false =>
   rw [if_neg (by decide)]
   have hone:a.sexes.length=1:=by have:=(QfY (kz h0).2).2;omega
   have hway:=QiJ h0
   have hsec:=(Qs h0).val.car.secs
   obtain ⟨M,hM⟩:∃ M,(a.to - a.frm).toNat=M:=⟨_,rfl⟩
   have ea':=ea
   rw [hd] at ea'
   repeat' first|(apply nx;with_reducible constructor)|apply jq (by decide)|((first|apply jz env|apply jw);intro Q hQ;simp only [vkt,seval,zf,zk,qh,qd,zh,qj,mTk,qD,qf,qc,qH,jS,hwL,aP,ec,ea',h0,d1,hd,ite_and];(repeat' first|with_reducible assumption|apply jv|intro hp);all_goals first|(apply hQ;clear hQ Q)|(apply jx;kernel_rfl)|omega|assumption|with_reducible rfl|skip)
   refine qY (fun i:{ i:Nat // i<=M/\∀ j,j < i->yC c a (a.frm+j) ≠ [] }=>chS c a i.1) (fun i=>M - i.1) ⟨0,ap _,fun j h=>absurd h (bu _)⟩ ?_ fun ⟨i,hi,hno⟩=>?_
   ·show Le _ { t:=asg (chT (a.frm+(0:Nat))),h:=qa [(1,.cells (qj a)),(2,qf c.cabins c.secs 3),(3,qc c.sold),(4,.cells [.row 5]),(5,.row 65 1 [])],n:=25 }
    (refine Le.ok (fun i=>if i=5 then none else some i) [] ?_;constructor;all_goals (try simp only [vle,vkt,seval,zk,qj,qf,qc,chT]))
    all_goals first|rfl|(simp [hd];done)|(intro i hi;rw [if_neg (by omega)];done)
   simp only at hi hno ⊢
   by_cases hlt:i < M
   ·have hi5:i=0\/i=1\/i=2\/i=3\/i=4:=by omega
    rcases hi5 with hi5|hi5|hi5|hi5|hi5
    all_goals
     have hmk:=congrArg mks hi5
     have hdk:=congrArg dks hi5
     simp only [mks,dks,Nat.reduceAdd] at hmk hdk
     have w1:IntKind.wrap .i64 (a.frm+(i:Int)+1)=a.frm+(i:Int)+1:=wrap64 (by omega) (by omega)
     obtain ⟨s,hs⟩:∃ s,a.frm+(i:Int)=s:=⟨_,rfl⟩
     have hoa:(⟨a.party,s,s+1,a.sexes,a.dog⟩:Ask)=V4 a s:=rfl
     have dlt:decide (s < a.to)=true:=decide_eq_true (by omega)
     rw [hs] at w1
     have hpo:=U8 h0 s
     unfold chS
     rw [hmk,hdk]
     repeat' first|(apply nx;with_reducible constructor)|apply jq (by decide)|((first|apply jz env|apply jw);intro Q hQ;simp only [vkt,seval,zf,zk,qj,mTk,qD,qf,qc,qH,plL,jZ,chT,hwL,hs,w1,dlt,ite_and];(repeat' first|with_reducible assumption|apply jv|intro hp);all_goals first|(apply hQ;clear hQ Q)|(apply jx;kernel_rfl)|omega|assumption|with_reducible rfl|skip)
     obtain ⟨o,ho⟩:∃ o,V4 a s=o:=⟨_,rfl⟩
     rw [ho] at hpo hoa
     have hbd:=QaH hpo
     have hm:(729:Nat)+1<=maxLen:=by decide
     obtain ⟨N,hN⟩:∃ N,(plP c o).length=N:=⟨_,rfl⟩
     rw [hN] at hbd
     have hoc:qj o=[.v (.int .i64 a.party),.v (.int .i64 s),.v (.int .i64 (s+1)),.sl (a.sexes.map zG),.v (.bool a.dog)]:=by rw [<- ho];rfl
     refine ve (S':={ t:=asg (crL0 s),h:=qa (crH c a (mks i) i 0++[(2,qf c.cabins c.secs 3),(3,qc c.sold),(27,.cells [.ptr 2 0]),(28,.cells (qj o))]),n:=30,j:=0,d:=dks i,m:=0 }) ?_ ?_
     ·show Le _ { t:=asg [(3,.ptr 1 0),(4,.nil),(5,aI 0),(6,aI 0),(7,.ptr 2 0),(8,.ptr 4 0),(9,aI s),(11,.ptr 26 0),(56,.clo 140 [.ptr 27 0,.ptr 28 0])],h:=qa (([(1,.cells (qj a)),(4,.cells [.row 5]),(5,.row 65 1 ((Qe c a i).map zI)),(26,.cells [.row 29]),(29,.row 76 2 [])]++mks i)++[(2,qf c.cabins c.secs 3),(3,qc c.sold),(27,.cells [.ptr 2 0]),(28,.cells (qj o))]),n:=30,j:=0,d:=dks i,m:=0 }
      rw [hoc,hmk,hdk]
      simp only [aT,aG]
      (refine Le.ok (fun i=>if i=29 then none else some i) [] ?_;constructor;all_goals (try simp only [vle,vkt,seval,zk,qj,qf,qc]))
      all_goals first|rfl|(simp [];done)|(intro i hi;rw [if_neg (by omega)];done)|(simp [ADf.le,ADf.ids];done)
     rw [<- Ug c o]
     refine yw (fun F h=>h) 1 (L:=crL0 s) (L':=crL s) (xs:=[3,27,28]) (hs:=[2,3,27,28]) (n:=30) (nl:=1) (hc:=crH c a (mks i) i) (Lp:=plL c o) (jj:=fun _=>0) (d:=dks i) (ys:=plY c o) (hl:=plH c o) (ans:=fun _=>true) (ex:=.ret) (caps:=[.ptr 27 0,.ptr 28 0]) (caps0:=[.ptr 2 0,.ptr 3 0]) (N:=(plP c o).length) (R:=N) (A':=fun _ _=>True) rfl (ZB hpo) (by rw [hN];exact KS) (.inl rfl) ?_ ?_ ?_ rfl (by simp) ?_ (by simp) (fun _ _ _ _ _ _=>trivial) ?_ ?_ ?_ ?_ ?_ ?_ (fun j hj=>?_) ?_ (fun j hj=>?_) (fun _=>?_) (fun _ h=>by cases h)
     ·simp [AV.leL,AV.le]
     ·simp [AV.nocbL,AV.nocb]
     ·simp [Z9,plL,qf,qc,qj,AObj.nocb,AV.nocbL,AV.nocb,AObj.ids,AV.ids,AV.idsL,AObj.ren,AV.renL,AV.ren,AObj.le,AV.leL,AV.le,qg]
     ·simp [crH,qa,hmk]
     ·simp [crH,qa,hmk]
     ·simp [crH,AObj.ids,AV.ids,AV.idsL,qj,hmk]
     ·simp [LZ,crL,crL0,chT,asg]
     ·simp [Qa9]
     ·intro j hj
      simp [absent,crH,K6,hmk]
     ·simp [JR,crL,chT,AV.ids,aI]
     ·refine ⟨?_,rfl, ?_, ?_,rfl, ?_⟩
      ·simp [ku,crH,AObj.ids,AV.ids,AV.idsL,qj,hmk]
      ·simp [Za,plH,qH,qf,qc,AObj.nocb,AV.nocbL,AV.nocb,AObj.ids,AV.ids,AV.idsL]
      ·simp [Vx,plY,qb,AV.nocb,AV.ids]
      ·simp [xV,Wh,K6,crH,crL,chT,yU,AV.ids,ADf.ids,aI,hmk,hdk]
     ·simp [ku,crH,AObj.ids,AV.ids,AV.idsL,qj,hmk]
     ·have env:Env (fun _:Frm=>True) Tryz.prog tyB (tab []):=qB trivial
      have hjl:j < (plP c (V4 a (a.frm+i))).length:=by rw [hs,ho];omega
      have h1x:((plP c o).getD j default).1=[((plP c o).getD j default).1.getD 0 default]:=QkY (by rw [<- ho];exact hone) (by omega)
      have hS:=Qfg hjl
      rw [hs,ho] at hS
      obtain ⟨b,hb⟩:∃ b,((plP c o).getD j default).1.getD 0 default=b:=⟨_,rfl⟩
      rw [hb] at h1x hS
      have hl:(opR c a s j).length<=729:=by
       unfold opR
       rw [aj,be]
       omega
      have hl1:(opR c a s j).length+1<=maxLen:=by omega
      obtain ⟨r,hr⟩:∃ r,((plP c o).getD j default).2=r:=⟨_,rfl⟩
      have hst:wL (crL s) [57] [2] 30 1 (plY c o j) (crH c a (mks i) i j) (plH c o j)={ t:=asg [(57,qb [b]),(3,.ptr 1 0),(4,.nil),(5,aI 0),(6,aI 0),(7,.ptr 2 0),(8,.ptr 4 0),(9,aI s),(11,.ptr 26 0)],h:=qa ((30,.mark) :: ([(1,.cells (qj a)),(4,.cells [.row 5]),(5,.row 65 1 ((Qe c a i).map zI)),(26,.cells [.row 29]),(29,.row 76 2 (opR c a s j))]++mks i++[(2,qf c.cabins c.secs 31),(31,qc r)])),n:=32,m:=32 }:=by
       simp only [wL,Nat.reduceAdd,K6,plY,h1x,hr,hs,qb,af,au,AV.ren,ck,cw,crH,crL,chT,Qh,aT,aG]
       rfl
      show Sym _ _ _ (wL (crL s) [57] [2] 30 1 (plY c o j) (crH c a (mks i) i j) (plH c o j)) _
      rw [hst,hmk]
      simp only [aT,aG]
      repeat' first|(apply nx;with_reducible constructor)|apply jq (by decide)|((first|apply jz env|apply jw);intro Q hQ;simp only [vkt,seval,zf,zk,qb,qI,qj,qf,qc,QlM,hl1,ak,ite_and];(repeat' first|with_reducible assumption|apply jv|intro hp);all_goals first|(apply hQ;clear hQ Q)|(apply jx;kernel_rfl)|omega|assumption|with_reducible rfl|skip)
      refine ⟨rfl,rfl,(fun i=>if i=29 then some 33 else some i),_,RFin.okQ (fun i=>if i=29 then some 33 else some i) [] ?_⟩
      constructor
      all_goals (try simp only [vle,yS,yH,qg,plH,crH,hr,hs,hS,hdk,aT,aG,vkt,seval,zk,qI,qj,qf,qc,qH,chT,crL])
      all_goals first|rfl|(simp;done)|(simp [yU,AV.ids,ADf.ids];done)|(simp [qj,AV.leL,AV.le];done)
     ·have eh:qa ((30,AObj.mark) :: crH c a (mks i) i N++qO [2,3,27,28] (30+1) 0 (plL c o))=qa ((30,.mark) :: ([(1,.cells (qj a)),(4,.cells [.row 5]),(5,.row 65 1 ((Qe c a i).map zI)),(26,.cells [.row 29]),(29,.row 76 2 (opR c a s N))]++mks i++[(2,qf c.cabins c.secs 3),(3,qc c.sold),(27,.cells [.ptr 2 0]),(28,.cells (qj o))])):=by
       rw [show qO [2,3,27,28] (30+1) 0 (plL c o)=qO [2,3,27,28] 31 0 (plL c o) from rfl,Ug,<- hs];rfl
      rw [eh,hmk,hdk]
      simp only [aT,aG]
      have hNl:(yC c a s).length=N:=by rw [Qy,ho];exact hN
      have hoN:opR c a s N=(yC c a s).map qI:=by unfold opR;rw [<- hNl,bF]
      have hkl:(Qe c a i).length=i:=Xj c a i
      have hkm:i+1<=maxLen:=by omega
      have hkS:=QbC c a i
      rw [hoN]
      rw [hs] at hkS
      by_cases hN0:N=0
      ·have hoe:yC c a s=[]:=bl (by rw [hNl];exact hN0)
       rw [QdH (c:=c) (a:=a) (i:=i) (by omega) (by rw [hs];exact hoe)]
       rw [hoe]
       repeat' first|(apply nx;with_reducible constructor)|apply jq (by decide)|((first|apply jz env|apply jw);intro Q hQ;simp only [vkt,seval,zf,zk,qj,qf,qc,chT,crL,ite_and];(repeat' first|with_reducible assumption|apply jv|intro hp);all_goals first|(apply hQ;clear hQ Q)|(apply jx;kernel_rfl)|omega|assumption|with_reducible rfl|skip)
       (simp only [vrt,Tryz.results30,vkt,seval,zk,qb];refine Fin.val rfl ?_;(try simp only [AV.le,AV.leL]))
       all_goals first|rfl|simp
      ·have d2:decide ((N:Int)=0)=false:=decide_eq_false (by omega)
       repeat' first|(apply nx;with_reducible constructor)|apply jq (by decide)|((first|apply jz env|apply jw);intro Q hQ;simp only [vkt,seval,zf,zk,QkJ,qj,qf,qc,chT,crL,hNl,d2,hkl,hkm,w1,ite_and];(repeat' first|with_reducible assumption|apply jv|intro hp);all_goals first|(apply hQ;clear hQ Q)|(apply jx;kernel_rfl)|omega|assumption|with_reducible rfl|skip)
       refine ⟨⟨i+1,hlt,fun j hj=>?_⟩,by show M - (i+1) < M - i;omega, ?_⟩
       ·rcases bw (bx hj) with h3|h3
        ·exact hno j h3
        ·subst h3;rw [hs];intro h4;rw [h4] at hNl;exact hN0 hNl.symm
       ·have hs1:a.frm+((i+1:Nat):Int)=s+1:=by omega
        show Le _ (chS c a (i+1))
        unfold chS
        rw [hkS,hs1]
        simp only [mks,dks,hi5,Nat.reduceAdd,aT,aG]
        refine Le.ok (fun k=>if k=5 then some 32 else if k=20+i then some 30 else some k) [] ?_
        constructor
        all_goals (try simp only [hi5,Nat.reduceAdd,vle,vkt,seval,zk,qj,qf,qc,chT])
        all_goals first|rfl|(simp;done)|(simp [ADf.le,ADf.ids];done)
   ·have hie:i=M:=by omega
    subst hie
    have hns:(Zj c a).any (·.isEmpty)=false:=Qeg (fun i hi=>hno i (by omega))
    rw [hns]
    have hLl:(Zj c a).length=i:=by rw [Qc7];exact hM
    have hLe:Qe c a i=Zj c a:=by rw [<- hM];rfl
    have hea:=Qdx h0
    obtain ⟨L,hL⟩:∃ L,Zj c a=L:=⟨_,rfl⟩
    rw [hL] at hLl hLe hea ⊢
    have hmx:(100000:Nat)<=maxLen:=by decide
    have hi5:i=1\/i=2\/i=3\/i=4\/i=5:=by omega
    have dlt:decide (a.frm+(i:Int) < a.to)=false:=decide_eq_false (by omega)
    have w2:IntKind.wrap .i64 ((i:Int) - 2)=((i - 1:Nat):Int) - 1:=by rw [wrap64 (by omega) (by omega)];omega
    rcases hi5 with hi5|hi5|hi5|hi5|hi5
    all_goals
     have hmk:=congrArg mks hi5
     have hdk:=congrArg dks hi5
     simp only [mks,dks,Nat.reduceAdd] at hmk hdk
     unfold chS
     rw [hmk,hdk,hLe]
     simp only [aT,aG]
     repeat' first|(apply nx;with_reducible constructor)|apply jq (by decide)|((first|apply jz env|apply jw);intro Q hQ;simp only [vkt,seval,zf,zk,qj,qf,qc,chT,dlt,hLl,w2,ite_and];(repeat' first|with_reducible assumption|apply jv|intro hp);all_goals first|(apply hQ;clear hQ Q)|(apply jx;kernel_rfl)|omega|assumption|with_reducible rfl|skip)
     refine qY (fun y:{ y:Nat × List (Value × Value) // y.1 < i/\BhOk L y.2 y.1/\y.2.length<=1000 * (i - y.1) }=>c2S (mks i) (dks i) L y.1.2 y.1.1) (fun y=>y.1.1) ⟨(i - 1,[]),by omega,by rw [<- hLl];exact QkZ L,ap _⟩ ?_ fun ⟨(y,es),hy,hB,hel⟩=>?_
     ·simp only [c2S,hmk,hdk,c2O,c2T,aT,aG]
      (refine Le.ok some [] ?_;constructor;all_goals (try simp only [vle,vkt,seval,zk]))
      all_goals first|rfl|(simp [ADf.le,ADf.ids];done)
     simp only at hy hB hel ⊢
     simp only [c2S,hmk,hdk,c2O,c2T,aT,aG]
     cases y with
     |succ A =>
      have e1:((A+1:Nat):Int) - 1=(A:Int):=by omega
      have d3:decide ((0:Int)<=(A:Int))=true:=decide_eq_true (by omega)
      have hAl:A < L.length:=by omega
      have hg:=Qg6 hAl
      obtain ⟨l,hl⟩:∃ l,L.getD A []=l:=⟨_,rfl⟩
      rw [hl] at hg
      have hll:l.length<=1000:=hea l (by rw [<- hl];exact yX hAl)
      have iA:((A:Int)).toNat=A:=rfl
      rw [e1]
      repeat' first|(apply nx;with_reducible constructor)|apply jq (by decide)|((first|apply jz env|apply jw);intro Q hQ;simp only [vkt,seval,zf,zk,zI,hg,iA,hAl,ite_and];(repeat' first|with_reducible assumption|apply jv|intro hp);all_goals first|(apply hQ;clear hQ Q)|(apply jx;kernel_rfl)|omega|assumption|with_reducible rfl|skip)
      refine qY (fun z:{ z:Nat × List (Value × Value) // z.1<=l.length/\BhIn L z.2 A z.1/\z.2.length<=1000 * (i - (A+1))+z.1 }=>c3S (mks i) (dks i) L z.1.2 A l z.1.1) (fun z=>l.length - z.1.1) ⟨(0,es),ap _,hB.inn,hel⟩ ?_ fun ⟨(k,es),hk,hI,hel⟩=>?_
      ·simp only [c3S,hmk,hdk,c2O,c2T,aT,aG]
       (refine Le.ok some [] ?_;constructor;all_goals (try simp only [vle,vkt,seval,zk,qb]))
       all_goals first|rfl|(simp [ADf.le,ADf.ids];done)
      simp only at hk hI hel ⊢
      simp only [c3S,hmk,hdk,c2O,c2T,aT,aG]
      by_cases hkl:k < l.length
      ·have d4:decide ((k:Int) < (l.length:Int))=true:=decide_eq_true (by omega)
       have e9:=k9 k (by omega)
       have wA:=k9 A (by omega)
       have iA1:(((A+1:Nat):Int)).toNat=A+1:=rfl
       obtain ⟨b,hb⟩:∃ b,l.getD k default=b:=⟨_,rfl⟩
       have eb:(⟨b.cab,b.bed⟩:Bunk)=b:=rfl
       obtain ⟨⟨q,v⟩,hv⟩:∃ p,jb (L.drop (A+1)) b=p:=⟨_,rfl⟩
       have hNx:NxOk L es (A+1):=⟨by omega,by omega,hea,hI.bh⟩
       have hM1:MOK (KD.Q (.agg [some .i64,some .i64,some .i64])) es:=hI.bh.ok
       have hml:(jT es (.agg #[.int .i64 (A:Int),.int .i64 b.cab,.int .i64 b.bed]) (.int .i64 v)).length<=maxLen:=by
        have:=Jn (es:=es) (k:=.agg #[.int .i64 (A:Int),.int .i64 b.cab,.int .i64 b.bed]) (v:=.int .i64 v)
        omega
       repeat' first|(apply nx;with_reducible constructor)|apply jq (by decide)|((first|apply jz env|apply jw);intro Q hQ;simp only [vkt,seval,zf,zk,qw,qb,qI,wh,QbS,nxL,Qao,d4,e9,wA,iA1,hb,eb,hv,hNx,hM1,hml,ite_and];(repeat' first|with_reducible assumption|apply jv|intro hp);all_goals first|(apply hQ;clear hQ Q)|(apply jx;kernel_rfl)|omega|assumption|with_reducible rfl|skip)
       have hel':(jT es (Qd A b) (.int .i64 v)).length<=1000 * (i - (A+1))+(k+1):=by
        have h2:=Jn (es:=es) (k:=Qd A b) (v:=.int .i64 v)
        omega
       refine ⟨⟨(k+1,jT es (Qd A b) (.int .i64 v)),hkl,hI.step (by rw [hl];exact hb) (by rw [hv]),hel'⟩,by show l.length - (k+1) < l.length - k;omega, ?_⟩
       simp only [Qd]
       (refine Le.ok some [] ?_;constructor;all_goals (try simp only [vle,vkt,seval,zk,qb]))
       all_goals first|rfl|(simp [ADf.le,ADf.ids];done)
      ·have d4:decide ((k:Int) < (l.length:Int))=false:=decide_eq_false (by omega)
       have hke:k=l.length:=by omega
       subst hke
       have wm:IntKind.wrap .i64 ((A:Int) - 1)=(A:Int) - 1:=wrap64 (by omega) (by omega)
       repeat' first|(apply nx;with_reducible constructor)|apply jq (by decide)|((first|apply jz env|apply jw);intro Q hQ;simp only [vkt,seval,zf,zk,qb,d4,wm,ite_and];(repeat' first|with_reducible assumption|apply jv|intro hp);all_goals first|(apply hQ;clear hQ Q)|(apply jx;kernel_rfl)|omega|assumption|with_reducible rfl|skip)
       refine ⟨⟨(A,es),by omega,by rw [<- hl] at hI;exact hI.out,by show es.length<=1000 * (i - A);omega⟩,Nat.lt_succ_self _, ?_⟩
       simp only []
       (refine Le.ok some [] ?_;constructor;all_goals (try simp only [vle,vkt,seval,zk]))
       all_goals first|rfl|(simp [ADf.le,ADf.ids];done)
     |zero =>
      have d3:decide ((0:Int)<=((0:Nat):Int) - 1)=false:=by decide
      repeat' first|(apply nx;with_reducible constructor)|apply jq (by decide)|((first|apply jz env|apply jw);intro Q hQ;simp only [vkt,seval,zf,zk,hLl,ite_and];(repeat' first|with_reducible assumption|apply jv|intro hp);all_goals first|(apply hQ;clear hQ Q)|(apply jx;kernel_rfl)|omega|assumption|with_reducible rfl|skip)
      refine qY (fun k:{ k:Nat // k<=i }=>c4S (mks i) (dks i) L es k.1) (fun k=>i - k.1) ⟨0,ap _⟩ ?_ fun ⟨k,hk⟩=>?_
      ·simp only [c4S,hmk,hdk,c2O,chC,wkK,aT,aG]
       (refine Le.ok (fun i=>if i=27 then none else some i) [] ?_;constructor;all_goals (try simp only [vle,vkt,seval,zk]))
       all_goals first|rfl|(simp [hLl];done)|(simp [ADf.le,ADf.ids];done)|(intro i hi;rw [if_neg (by omega)];done)
      simp only at hk ⊢
      simp only [c4S,hmk,hdk,c2O,aT,aG,hLl]
      have hwl:=KL L k
      by_cases hkl:k < i
      ·have d4:decide ((k:Int) < (i:Int))=true:=decide_eq_true (by omega)
       have e9:=k9 k (by omega)
       have hNx:NxOk L es k:=⟨by omega,by omega,hea,hB.mono (ap _)⟩
       have ik:((k:Int)).toNat=k:=rfl
       have hkm:k+1<=maxLen:=by omega
       have hS:=VQ L k
       obtain ⟨⟨q,v⟩,hv⟩:∃ p,jb (L.drop k) (wkB L k)=p:=⟨_,rfl⟩
       rw [hv] at hS
       have hvb:=Vw (L.drop k) (wkB L k)
       rw [hv,List.length_drop] at hvb
       have hvb:0<=v/\v<=1000:=by simp only at hvb;omega
       by_cases hk0:k=0
       ·have d5:decide ((0:Int) < (k:Int))=false:=decide_eq_false (by omega)
        have d6:decide ((k:Int)=0)=true:=decide_eq_true (by omega)
        have wv:IntKind.wrap .i64 (v - 1)=v - 1:=wrap64 (by omega) (by omega)
        have hwb:wkB L k=⟨-1,0⟩:=if_pos hk0
        rw [hwb] at hv
        have hc1:chC L (k+1)=v - 1:=by
         unfold chC
         rw [if_neg (by omega)]
         rw [hk0,List.drop_zero] at hv
         rw [hv]
        repeat' first|(apply nx;with_reducible constructor)|apply jq (by decide)|((first|apply jz env|apply jw);intro Q hQ;simp only [vkt,seval,zf,zk,qw,Ul,QbS,nxL,Qao,d4,d5,d6,e9,ik,hv,hNx,wv,hwl,hkm,ite_and];(repeat' first|with_reducible assumption|apply jv|intro hp);all_goals first|(apply hQ;clear hQ Q)|(apply jx;kernel_rfl)|omega|assumption|with_reducible rfl|skip)
        refine ⟨⟨k+1,hkl⟩,by show i - (k+1) < i - k;omega, ?_⟩
        simp only [hS,hc1]
        (refine Le.ok (fun i=>if i=27 then some 31 else some i) [] ?_;constructor;all_goals (try simp only [vle,vkt,seval,zk]))
        all_goals first|rfl|(rw [aq];rfl)|(simp [ADf.le,ADf.ids];done)|(intro i hi;rw [if_neg (by omega)];done)
       ·have d5:decide ((0:Int) < (k:Int))=true:=decide_eq_true (by omega)
        have d6:decide ((k:Int)=0)=false:=decide_eq_false (by omega)
        have wk:IntKind.wrap .i64 ((k:Int) - 1)=((k - 1:Nat):Int):=by rw [wrap64 (by omega) (by omega)];omega
        have ik1:(((k - 1:Nat):Int)).toNat=k - 1:=rfl
        have hk1:k - 1 < k:=by omega
        have hgb:=hBunk (l:=wkK L k) (n:=k - 1) (by omega)
        obtain ⟨b,hb⟩:∃ b,wkB L k=b:=⟨_,rfl⟩
        rw [show (wkK L k).getD (k - 1) default=b by rw [<- hb];unfold wkB;rw [if_neg hk0]] at hgb
        rw [hb] at hv
        have eb:(⟨b.cab,b.bed⟩:Bunk)=b:=rfl
        have hc1:chC L (k+1)=chC L k:=by
         unfold chC
         rw [if_neg (by omega),if_neg hk0]
        repeat' first|(apply nx;with_reducible constructor)|apply jq (by decide)|((first|apply jz env|apply jw);intro Q hQ;simp only [vkt,seval,zf,zk,qw,qI,Ul,QbS,nxL,Qao,d4,d5,d6,e9,ik,wk,ik1,hk1,hgb,eb,hv,hNx,hwl,hkm,ite_and];(repeat' first|with_reducible assumption|apply jv|intro hp);all_goals first|(apply hQ;clear hQ Q)|(apply jx;kernel_rfl)|omega|assumption|with_reducible rfl|skip)
        refine ⟨⟨k+1,hkl⟩,by show i - (k+1) < i - k;omega, ?_⟩
        simp only [hS,hc1]
        (refine Le.ok (fun i=>if i=27 then some 31 else some i) [] ?_;constructor;all_goals (try simp only [vle,vkt,seval,zk]))
        all_goals first|rfl|(rw [aq];rfl)|(simp [ADf.le,ADf.ids];done)|(intro i hi;rw [if_neg (by omega)];done)
      ·have d4:decide ((k:Int) < (i:Int))=false:=decide_eq_false (by omega)
       have hke:k=L.length:=by omega
       have hww:=Qk9 L
       have hcc:chC L L.length=(jb L ⟨-1,0⟩).2 - 1:=if_neg (by omega)
       rw [hke,hww,hcc]
       rw [hke] at d4
       repeat' first|(apply nx;with_reducible constructor)|apply jq (by decide)|((first|apply jz env|apply jw);intro Q hQ;simp only [vkt,seval,zf,zk,d4,ite_and];(repeat' first|with_reducible assumption|apply jv|intro hp);all_goals first|(apply hQ;clear hQ Q)|(apply jx;kernel_rfl)|omega|assumption|with_reducible rfl|skip)
       simp only [vrt,Tryz.results30,vkt,seval,zk,qb]
       show Fin _ _ _ 0 (qa []) 0
       refine Fin.ok some [27] ?_ ?_ ?_ ?_ ?_ rfl
       all_goals (try simp only [vle,vkt,seval])
       all_goals first|rfl|(simp;done)|(simp [ADf.le,ADf.ids];done)
 ·rw [if_pos (by simpa using h0)]
  repeat' first|(apply nx;with_reducible constructor)|apply jq (by decide)|((first|apply jz env|apply jw);intro Q hQ;simp only [vkt,seval,zf,zk,qh,qd,zh,qj,mTk,qD,jS,hwL,aP,ec,ea,h0,ite_and];(repeat' first|with_reducible assumption|apply jv|intro hp);all_goals first|(apply hQ;clear hQ Q)|(apply jx;kernel_rfl)|omega|assumption|with_reducible rfl|skip)
  (simp only [vrt,Tryz.results30,vkt,seval,zk,qb];refine Fin.val rfl ?_;(try simp only [AV.le,AV.leL]))
  all_goals first|rfl|simp
def eqTS (l m:List Tr) (k:Nat):St:={ t:=asg [(0,jU l),(1,jU m),(4,aB false),(5,aI k)],h:=qa [],n:=0 }
def Qo:=jv @ty3 (jv @QdS (jv @QdF (jv @ti3.eq_1 (jv @KO.eq_1 @X7.eq_1))))
def ZM:=jv @aI.eq_1 (@aB.eq_1)
theorem Qla (l m:List Tr) (hl:l.length<=1000) (hm:m.length<=1000):FnV Tryz.prog 35 [jU l,jU m] (aB (decide (l=m))):=by
 have env:=qB (A:=fun _=>True) kN
 refine kV (Fn0 Tryz.func35 rfl (fun vs w=>by kernel_rfl) (by kernel_rfl)) (by simp) (by simp [AV.ids,jU]) ?_
 by_cases h0:l.length=m.length
 ·have d0:decide ((l.length:Int)=(m.length:Int))=true:=decide_eq_true (by omega)
  repeat' first|(apply nx;with_reducible constructor)|apply jq (by decide)|((first|apply jz env|apply jw);intro Q hQ;simp only [vkt,seval,Qo,jU,d0,ite_and];(repeat' first|with_reducible assumption|apply jv|intro hp);all_goals first|(apply hQ;clear hQ Q)|(apply jx;kernel_rfl)|omega|assumption|with_reducible rfl|skip)
  refine qY (fun k:{ k:Nat // k<=l.length/\∀ j,j < k->l.getD j default=m.getD j default }=>eqTS l m k.1) (fun k=>l.length - k.1) ⟨0,ap _,fun j h=>absurd h (bu _)⟩ ?_ fun ⟨k,hk,hno⟩=>?_
  ·(refine Le.ok some [] ?_;constructor;all_goals (try simp only [vle,vkt,seval,ZM,jU]))
   all_goals first|rfl|simp
  ·repeat' first|(apply nx;with_reducible constructor)|apply jq (by decide)
   (apply jz env;intro Q hQ;simp only [vkt,seval,Qo,ZM,jU,eqTS,ite_and];(repeat' first|with_reducible assumption|apply jv|intro hp);all_goals first|(apply hQ;clear hQ Q)|(apply jx;kernel_rfl)|omega|assumption|with_reducible rfl|skip)
   repeat' first|(apply nx;with_reducible constructor)|apply jq (by decide)
   (refine jc (by simp only [vkt,seval];rfl) (fun h=>?_) (fun h=>?_) <;> (try simp only [vki] at h))
   ·have hlt:k < l.length:=by omega
    have hlm:k < m.length:=by omega
    have e9:=k9 k (by omega)
    obtain ⟨x,hx⟩:∃ x,l.getD k default=x:=⟨_,rfl⟩
    obtain ⟨y,hy⟩:∃ x,m.getD k default=x:=⟨_,rfl⟩
    have hxy:(x=y)=(x.ticket=y.ticket/\x.cab=y.cab/\x.bed=y.bed):=by cases x;cases y;simp
    have hne:¬ x=y->decide (l=m)=false:=fun h=>decide_eq_false fun e=>h (by rw [<- hx,<- hy,e])
    by_cases hxe:x=y
    ·rw [hxe] at hx
     repeat' first|(apply nx;with_reducible constructor)|apply jq (by decide)|((first|apply jz env|apply jw);intro Q hQ;simp only [vkt,seval,Qo,eTr,gTr,hx,hy,hlm,e9,decide_true,ite_and];(repeat' first|with_reducible assumption|apply jv|intro hp);all_goals first|(apply hQ;clear hQ Q)|(apply jx;kernel_rfl)|omega|assumption|with_reducible rfl|skip)
     refine ⟨⟨k+1,hlt,fun j hj=>?_⟩,by show l.length - (k+1) < l.length - k;omega, ?_⟩
     ·rcases bw (bx hj) with h1|h1
      ·exact hno j h1
      ·rw [h1,hx,hy]
     ·(refine Le.ok some [] ?_;constructor;all_goals (try simp only [vle,vkt,seval,ZM,jU]))
      all_goals first|rfl|simp
    ·rw [hne hxe]
     have q:(decide (x.ticket=y.ticket) && (decide (x.cab=y.cab) && decide (x.bed=y.bed)))=false:=by
      rw [hxy] at hxe
      simpa using hxe
     repeat' first|(apply nx;with_reducible constructor)|apply jq (by decide)|((first|apply jz env|apply jw);intro Q hQ;simp only [vkt,seval,Qo,eTr,gTr,hx,hy,q,hlm,ite_and];(repeat' first|with_reducible assumption|apply jv|intro hp);all_goals first|(apply hQ;clear hQ Q)|(apply jx;kernel_rfl)|omega|assumption|with_reducible rfl|skip)
     (simp only [vrt,Tryz.results35,vkt,seval,ZM];refine Fin.val rfl ?_;(try simp only [AV.le]))
     all_goals first|rfl|simp
   ·have hke:k=l.length:=by omega
    subst hke
    rw [decide_eq_true (Jd h0 hno)]
    repeat' first|(apply nx;with_reducible constructor)|apply jq (by decide)|((first|apply jz env|apply jw);intro Q hQ;simp only [vkt,seval,ite_and];(repeat' first|with_reducible assumption|apply jv|intro hp);all_goals first|(apply hQ;clear hQ Q)|(apply jx;kernel_rfl)|omega|assumption|with_reducible rfl|skip)
    (simp only [vrt,Tryz.results35,vkt,seval,ZM];refine Fin.val rfl ?_;(try simp only [AV.le]))
    all_goals first|rfl|simp
 ·have d0:decide ((l.length:Int)=(m.length:Int))=false:=decide_eq_false (by omega)
  rw [decide_eq_false (fun e=>h0 (by rw [e]))]
  repeat' first|(apply nx;with_reducible constructor)|apply jq (by decide)|((first|apply jz env|apply jw);intro Q hQ;simp only [vkt,seval,Qo,jU,d0,ite_and];(repeat' first|with_reducible assumption|apply jv|intro hp);all_goals first|(apply hQ;clear hQ Q)|(apply jx;kernel_rfl)|omega|assumption|with_reducible rfl|skip)
  (simp only [vrt,Tryz.results35,vkt,seval,ZM];refine Fin.val rfl ?_;(try simp only [AV.le]))
  all_goals first|rfl|simp
def seqT:List AV->Prop × AV
 |[.sl l,.sl m]=>(l=(l.map dTr).map eTr/\m=(m.map dTr).map eTr/\(l.map dTr).length<=1000/\(m.map dTr).length<=1000,aB (decide ((l.map dTr)=(m.map dTr))))
 |_=>(False,.junk)
theorem eeqT {A:Frm->Prop}:qm A Tryz.prog 35 (zU true seqT):=ze fun vs hv h=>by
 clear hv
 unfold seqT at h ⊢
 split at h
 ·rename_i l m;obtain ⟨q0,q1,k0,k1⟩:=h
  refine ⟨by first|trivial|(repeat' split) <;> simp [AV.plain,AV.plainL,aI,aB,qx,qb,qy,qw,aTk,cTk],fun _=>(by simp [AV.flat,aB]), ?_⟩
  have:=Qla (l.map dTr) (m.map dTr) k0 k1
  simp only [jU,<- q0,<- q1] at this
  first|exact this|(simp only [jU,<- q0,<- q1];exact this)
 ·exact h.elim
def J9:List AV->Prop × AV
 |[.sl m]=>(m=(m.map dTk).map eTk/\(m.map dTk).length<=100,qh (jK (m.map dTk)))
 |_=>(False,.junk)
theorem Qgp {A:Frm->Prop}:qm A Tryz.prog 26 (zU false J9):=ze fun vs hv h=>by
 clear hv
 unfold J9 at h ⊢
 split at h
 ·rename_i m;obtain ⟨q0,k0⟩:=h
  refine ⟨by first|trivial|(repeat' split) <;> simp [AV.plain,AV.plainL,aI,aB,qx,qb,qy,qw,aTk,cTk],fun h=>absurd h (by decide), ?_⟩
  have:=Qe1 (m.map dTk) k0
  simp only [qy,<- q0] at this
  first|exact this|(simp only [qy,<- q0];exact this)
 ·exact h.elim
def XV:List AV->Prop × AV
 |[.v (.int .i64 f),.v (.int .i64 t),.v (.bool d),.sl l]=>(l=(l.map zD).map zG,zh ⟨9,f,t,(l.map zD),d⟩)
 |_=>(False,.junk)
theorem elask {A:Frm->Prop}:qm A Tryz.prog 28 (zU false XV):=ze fun vs hv h=>by
 clear hv
 unfold XV at h ⊢
 split at h
 ·rename_i f t d l;have q0:l=(l.map zD).map zG:=h;clear h
  refine ⟨by first|trivial|(repeat' split) <;> simp [AV.plain,AV.plainL,aI,aB,qx,qb,qy,qw,aTk,cTk],fun h=>absurd h (by decide), ?_⟩
  have:=QiN f t d (l.map zD)
  simp only [aB,aI,qx,<- q0] at this
  first|exact this|(simp only [aB,aI,qx,<- q0];exact this)
 ·exact h.elim
theorem QiL (a b:Int):zK [.v (.int .i64 a),.v (.int .i64 b)]=⟨a,b⟩:=rfl
theorem dTr_v (a b c:Int):dTr [.v (.int .i64 a),.v (.int .i64 b),.v (.int .i64 c)]=⟨a,b,c⟩:=rfl
theorem Rf (a:Int):zD [.v (.int .i64 a)]=a:=rfl
theorem dTk_v (a b c d e f:Int) (g:Bool):dTk [.v (.int .i64 a),.v (.int .i64 b),.v (.int .i64 c),.v (.int .i64 d),.v (.int .i64 e),.v (.int .i64 f),.v (.bool g)]=⟨a,b,c,d,e,f,g⟩:=rfl
def ZE:List Tk:=[⟨3,1,2,0,0,4,false⟩,⟨4,2,1,1,2,4,false⟩]
def WQ:=jv @xW (jv @jW (jv @yc (jv @vW.eq_1 (jv @jE.eq_1 @jM.eq_1))))
theorem Qes:FnV Tryz.prog 31 [] (qh (jK ZE)):=by
 have env:=qB (A:=fun _=>True) (kC Qko (kC Qgp kN))
 refine kV (Fn0 Tryz.func31 rfl (fun vs w=>by kernel_rfl) (by kernel_rfl)) (by simp) (by simp) ?_
 have hlen:([⟨3,1,2,0,0,4,false⟩,⟨4,2,1,1,2,4,false⟩]:List Tk).length<=100:=by decide
 have hfl:([⟨3,1,2,0,0,4,false⟩,⟨4,2,1,1,2,4,false⟩]:List Tk)=ZE:=rfl
 repeat' first|(apply nx;with_reducible constructor)|apply jq (by decide)|((first|apply jz env|apply jw);intro Q hQ;simp only [vkt,seval,WQ,aTk,cTk,qh,qd,Qca,J9,dTk_v,hfl,ite_and];(repeat' first|with_reducible assumption|apply jv|intro hp);all_goals first|(apply hQ;clear hQ Q)|(apply jx;kernel_rfl)|omega|assumption|with_reducible rfl|skip)
 ·rfl
 (simp only [vrt,Tryz.results31,vkt,seval,WQ,qh,qd];refine Fin.val rfl ?_;(try simp only [AV.le,AV.leL]))
 all_goals first|rfl|simp
def Yy:List AV->Prop × AV
 |[]=>(True,qh (jK ZE))
 |_=>(False,.junk)
theorem QiS {A:Frm->Prop}:qm A Tryz.prog 31 (zU false Yy):=ze fun vs hv h=>by
 clear hv
 unfold Yy at h ⊢
 split at h
 ·clear h
  refine ⟨by first|trivial|(repeat' split) <;> simp [AV.plain,AV.plainL,aI,aB,qx,qb,qy,qw,aTk,cTk],fun h=>absurd h (by decide), ?_⟩
  have:=Qes
  first|exact this|(simp only [];exact this)
 ·exact h.elim
def Qbh:List AV->Prop × AV
 |[.agg [.sl c0,.v (.int .i64 c1),.sl c2]]=>(c0=(c0.map qp).map qo/\c2=(c2.map dTk).map eTk/\((⟨(c0.map qp),c1,(c2.map dTk)⟩:Chart)).cabins.length<=maxLen,.tup [aI (QcY ((⟨(c0.map qp),c1,(c2.map dTk)⟩:Chart))),aI (zo ((⟨(c0.map qp),c1,(c2.map dTk)⟩:Chart)))])
 |_=>(False,.junk)
theorem Qlo {A:Frm->Prop}:qm A Tryz.prog 25 (zU true Qbh):=ze fun vs hv h=>by
 clear hv
 unfold Qbh at h ⊢
 split at h
 ·rename_i c0 c1 c2;obtain ⟨q0,q1,k0⟩:=h
  refine ⟨by first|trivial|(repeat' split) <;> simp [AV.plain,AV.plainL,aI,aB,qx,qb,qy,qw,aTk,cTk],fun _=>(by simp [AV.flat,AV.flatL,aI]), ?_⟩
  have:=Qjc ((⟨(c0.map qp),c1,(c2.map dTk)⟩:Chart)) k0
  simp only [qh,aI,qd,<- q0,<- q1] at this
  first|exact this|(simp only [wH,qh,aI,qy,qd,<- q0,<- q1];exact this)
 ·exact h.elim
def QaR:List AV->Prop × AV
 |[.agg [.sl c0,.v (.int .i64 c1),.sl c2],.agg [.v (.int .i64 a0),.v (.int .i64 a1),.v (.int .i64 a2),.sl a3,.v (.bool a4)]]=>(c0=(c0.map qp).map qo/\c2=(c2.map dTk).map eTk/\a3=(a3.map zD).map zG/\((⟨(c0.map qp),c1,(c2.map dTk)⟩:Chart)).cabins.length<=maxLen/\((⟨a0,a1,a2,(a3.map zD),a4⟩:Ask)).sexes.length<=maxLen,.tup [qb (Zf ((⟨(c0.map qp),c1,(c2.map dTk)⟩:Chart)) ((⟨a0,a1,a2,(a3.map zD),a4⟩:Ask))).1,aI (Zf ((⟨(c0.map qp),c1,(c2.map dTk)⟩:Chart)) ((⟨a0,a1,a2,(a3.map zD),a4⟩:Ask))).2])
 |_=>(False,.junk)
theorem Qly {A:Frm->Prop}:qm A Tryz.prog 29 (zU false QaR):=ze fun vs hv h=>by
 clear hv
 unfold QaR at h ⊢
 split at h
 ·rename_i c0 c1 c2 a0 a1 a2 a3 a4;obtain ⟨q0,q1,q2,k0,k1⟩:=h
  refine ⟨by first|trivial|(repeat' split) <;> simp [AV.plain,AV.plainL,aI,aB,qx,qb,qy,qw,aTk,cTk],fun h=>absurd h (by decide), ?_⟩
  have:=Qim ((⟨(c0.map qp),c1,(c2.map dTk)⟩:Chart)) ((⟨a0,a1,a2,(a3.map zD),a4⟩:Ask)) k0 k1
  simp only [zh,qh,aI,qj,qd,<- q0,<- q1,<- q2] at this
  first|exact this|(simp only [zh,aB,wH,qh,aI,qx,qy,qj,qd,<- q0,<- q1,<- q2];exact this)
 ·exact h.elim
def YM:List AV->Prop × AV
 |[.agg [.sl c0,.v (.int .i64 c1),.sl c2],.agg [.v (.int .i64 a0),.v (.int .i64 a1),.v (.int .i64 a2),.sl a3,.v (.bool a4)]]=>(c0=(c0.map qp).map qo/\c2=(c2.map dTk).map eTk/\a3=(a3.map zD).map zG/\((⟨(c0.map qp),c1,(c2.map dTk)⟩:Chart)).cabins.length<=maxLen/\((⟨a0,a1,a2,(a3.map zD),a4⟩:Ask)).sexes.length<=maxLen,.tup [qb (kI ((⟨(c0.map qp),c1,(c2.map dTk)⟩:Chart)) ((⟨a0,a1,a2,(a3.map zD),a4⟩:Ask))).1,aI (kI ((⟨(c0.map qp),c1,(c2.map dTk)⟩:Chart)) ((⟨a0,a1,a2,(a3.map zD),a4⟩:Ask))).2.1,aI (kI ((⟨(c0.map qp),c1,(c2.map dTk)⟩:Chart)) ((⟨a0,a1,a2,(a3.map zD),a4⟩:Ask))).2.2])
 |_=>(False,.junk)
theorem Qe3 {A:Frm->Prop}:qm A Tryz.prog 30 (zU false YM):=ze fun vs hv h=>by
 clear hv
 unfold YM at h ⊢
 split at h
 ·rename_i c0 c1 c2 a0 a1 a2 a3 a4;obtain ⟨q0,q1,q2,k0,k1⟩:=h
  refine ⟨by first|trivial|(repeat' split) <;> simp [AV.plain,AV.plainL,aI,aB,qx,qb,qy,qw,aTk,cTk],fun h=>absurd h (by decide), ?_⟩
  have:=QeB ((⟨(c0.map qp),c1,(c2.map dTk)⟩:Chart)) ((⟨a0,a1,a2,(a3.map zD),a4⟩:Ask)) k0 k1
  simp only [zh,qh,aI,qj,qd,<- q0,<- q1,<- q2] at this
  first|exact this|(simp only [zh,aB,wH,qh,aI,qx,qy,qj,qd,<- q0,<- q1,<- q2];exact this)
 ·exact h.elim
def RO:List AV->Prop × AV
 |[.agg [.sl c0,.v (.int .i64 c1),.sl c2],.agg [.v (.int .i64 a0),.v (.int .i64 a1),.v (.int .i64 a2),.sl a3,.v (.bool a4)]]=>(c0=(c0.map qp).map qo/\c2=(c2.map dTk).map eTk/\a3=(a3.map zD).map zG/\((⟨(c0.map qp),c1,(c2.map dTk)⟩:Chart)).cabins.length<=maxLen/\((⟨a0,a1,a2,(a3.map zD),a4⟩:Ask)).sexes.length<=maxLen,.tup [jU (xI ((⟨(c0.map qp),c1,(c2.map dTk)⟩:Chart)) ((⟨a0,a1,a2,(a3.map zD),a4⟩:Ask))).1,aI (xI ((⟨(c0.map qp),c1,(c2.map dTk)⟩:Chart)) ((⟨a0,a1,a2,(a3.map zD),a4⟩:Ask))).2])
 |_=>(False,.junk)
theorem QjH {A:Frm->Prop}:qm A Tryz.prog 32 (zU false RO):=ze fun vs hv h=>by
 clear hv
 unfold RO at h ⊢
 split at h
 ·rename_i c0 c1 c2 a0 a1 a2 a3 a4;obtain ⟨q0,q1,q2,k0,k1⟩:=h
  refine ⟨by first|trivial|(repeat' split) <;> simp [AV.plain,AV.plainL,aI,aB,qx,qb,qy,qw,aTk,cTk],fun h=>absurd h (by decide), ?_⟩
  have:=Qhe ((⟨(c0.map qp),c1,(c2.map dTk)⟩:Chart)) ((⟨a0,a1,a2,(a3.map zD),a4⟩:Ask)) k0 k1
  simp only [zh,qh,aI,qj,qd,<- q0,<- q1,<- q2] at this
  first|exact this|(simp only [zh,aB,wH,qh,aI,qx,qy,qj,qd,<- q0,<- q1,<- q2];exact this)
 ·exact h.elim
def VI (_:St):List AV->Option Pk
 |[.agg [.sl cs,.v (.int .i64 s),.sl ts],.agg [.v (.int .i64 p),.v (.int .i64 f),.v (.int .i64 t),.sl xs,.v (.bool d)]]=>some { pre:=cs=(cs.map qp).map qo/\ts=(ts.map dTk).map eTk/\xs=(xs.map zD).map zG/\cs.length<=maxLen/\xs.length<=maxLen,ar:=[.agg [.sl cs,.v (.int .i64 s),.sl ts],.agg [.v (.int .i64 p),.v (.int .i64 f),.v (.int .i64 t),.sl xs,.v (.bool d)]],v:=.tup [.row 0,aI (wo ⟨cs.map qp,s,ts.map dTk⟩ ⟨p,f,t,xs.map zD,d⟩)],L1:=[some (.row 65 1 ((Yw ⟨cs.map qp,s,ts.map dTk⟩ ⟨p,f,t,xs.map zD,d⟩).map zI))] }
 |_=>none
theorem QhW {A:Frm->Prop}:qm A Tryz.prog 27 (fnE VI):=zB fun S bs q h hp=>by
 unfold VI at h
 split at h
 ·rename_i cs s ts p f t xs d
  cases h
  obtain ⟨h1,h2,h3,h4,h5⟩:=hp
  have:=QeA ⟨cs.map qp,s,ts.map dTk⟩ ⟨p,f,t,xs.map zD,d⟩ (by simpa using h4) (by simpa using h5)
  simp only [qh,qd,zh,qj,<- h1,<- h2,<- h3] at this
  exact this
 ·cases h
theorem QjG:QcY (jK [])=7/\zo (jK [])=0:=by decide +kernel
theorem Qc6:wo (jK []) ⟨9,0,4,[1],false⟩=0/\Yw (jK []) ⟨9,0,4,[1],false⟩=[[⟨0,1⟩],[⟨2,0⟩]]:=by decide +kernel
theorem QjF:Zf (jK []) ⟨9,2,4,[2,1],false⟩=([⟨0,0⟩,⟨0,1⟩],0):=by decide +kernel
theorem QdP:kI (jK ZE) ⟨9,0,4,[2],false⟩=([⟨1,1⟩,⟨1,1⟩,⟨0,0⟩,⟨0,0⟩],1,0):=by decide +kernel
theorem QhY:xI (jK ZE) ⟨9,0,4,[1],true⟩=([⟨2,0,1⟩],0):=by decide +kernel
def yh:=jv @ty3 (jv @WG (jv @Zq (jv @ty59 (jv @VH (jv @QdS (jv @xy (jv @QdF (jv @ti3.eq_1 (jv @QV.eq_1 (jv @kY.eq_1 (jv @Qbp.eq_1 (jv @WP.eq_1 (jv @KO.eq_1 (jv @yY.eq_1 @X7.eq_1))))))))))))))
def kJ:=jv @aI.eq_1 (jv @aB.eq_1 (jv @qx.eq_1 (jv @zG.eq_1 (@WK))))
set_option maxRecDepth 100000 in
theorem Qa0:FnV Tryz.prog 8 [] (aB true):=by
 have env:=qB (A:=fun _=>True) (kC Qgp (kC QiS (kC elask (kC Qlo (kC QhW (kC Qly (kC Qe3 (kC QjH (kC QjV (kC eeqB (kC eeqT kN)))))))))))
 refine kV (Fn0 Tryz.func8 rfl (fun vs w=>by kernel_rfl) (by kernel_rfl)) (by simp) (by simp) ?_
 have h1:=QjG
 have h2:=Qc6
 have h3:=QjF
 have h4:=QdP
 have h5:=QhY
 obtain ⟨C,hC⟩:∃ C,jK []=C:=⟨_,rfl⟩
 obtain ⟨D,hD⟩:∃ D,jK ZE=D:=⟨_,rfl⟩
 have eC:(⟨C.cabins,C.secs,C.sold⟩:Chart)=C:=rfl
 have eD:(⟨D.cabins,D.secs,D.sold⟩:Chart)=D:=rfl
 have m1:(1:Nat)<=maxLen:=by decide
 have m2:(2:Nat)<=maxLen:=by decide
 have c1:C.cabins.length<=maxLen:=by rw [<- hC];decide
 have c2:D.cabins.length<=maxLen:=by rw [<- hD];decide
 rw [hC] at h1 h2 h3
 rw [hD] at h4 h5
 obtain ⟨h1a,h1b⟩:=h1
 obtain ⟨h2a,h2b⟩:=h2
 repeat' first|(apply nx;with_reducible constructor)|apply jq (by decide)
 ((first|apply jz env|apply jw);intro Q hQ;simp only [vkt,seval,ite_and];(repeat' first|with_reducible assumption|apply jv|intro hp);all_goals first|(apply hQ;clear hQ Q)|(apply jx;kernel_rfl)|omega|assumption|with_reducible rfl|skip)
 repeat' first|(apply nx;with_reducible constructor)|apply jq (by decide)
 ((first|apply jz env|apply jw);intro Q hQ;simp only [vkt,seval,kJ,qh,qd,qD,mTk,Qbh,J9,hC,eC,c1,h1a,h1b,ite_and];(repeat' first|with_reducible assumption|apply jv|intro hp);all_goals first|(apply hQ;clear hQ Q)|(apply jx;kernel_rfl)|omega|assumption|with_reducible rfl|skip)
 repeat' first|(apply nx;with_reducible constructor)|apply jq (by decide)
 ((first|apply jz env|apply jw);intro Q hQ;simp only [vkt,seval,yh,kJ,qI,zI,qh,qd,zh,qj,qD,mTk,Rf,VI,J9,XV,hC,eC,c1,h2a,h2b,ite_and];(repeat' first|with_reducible assumption|apply jv|intro hp);all_goals first|(apply hQ;clear hQ Q)|(apply jx;kernel_rfl)|omega|assumption|with_reducible rfl|skip)
 repeat' first|(apply nx;with_reducible constructor)|apply jq (by decide)
 ((first|apply jz env|apply jw);intro Q hQ;simp only [vkt,seval,yh,kJ,qb,qI,qh,qd,zh,qj,qD,mTk,Rf,QaR,J9,XV,hC,eC,c1,h3,ite_and];(repeat' first|with_reducible assumption|apply jv|intro hp);all_goals first|(apply hQ;clear hQ Q)|(apply jx;kernel_rfl)|omega|assumption|with_reducible rfl|skip)
 repeat' first|(apply nx;with_reducible constructor)|apply jq (by decide)
 ((first|apply jz env|apply jw);intro Q hQ;simp only [vkt,seval,yh,kJ,qb,qI,qh,qd,zh,qj,qD,mTk,Rf,YM,Yy,XV,hD,eD,c2,h4,ite_and];(repeat' first|with_reducible assumption|apply jv|intro hp);all_goals first|(apply hQ;clear hQ Q)|(apply jx;kernel_rfl)|omega|assumption|with_reducible rfl|skip)
 repeat' first|(apply nx;with_reducible constructor)|apply jq (by decide)
 ((first|apply jz env|apply jw);intro Q hQ;simp only [vkt,seval,yh,kJ,jU,eTr,qh,qd,zh,qj,qD,mTk,Rf,RO,Yy,XV,hD,eD,c2,h5,ite_and];(repeat' first|with_reducible assumption|apply jv|intro hp);all_goals first|(apply hQ;clear hQ Q)|(apply jx;kernel_rfl)|omega|assumption|with_reducible rfl|skip)
 repeat' first|(apply nx;with_reducible constructor)|apply jq (by decide)
 obtain ⟨p0,hp0⟩:∃ p:List Bunk,p=[⟨0,1⟩]:=⟨_,rfl⟩
 obtain ⟨p1,hp1⟩:∃ p:List Bunk,p=[⟨2,0⟩]:=⟨_,rfl⟩
 obtain ⟨p5,hp5⟩:∃ p:List Bunk,p=[⟨0,0⟩,⟨0,1⟩]:=⟨_,rfl⟩
 obtain ⟨p7,hp7⟩:∃ p:List Bunk,p=[⟨1,1⟩,⟨1,1⟩,⟨0,0⟩,⟨0,0⟩]:=⟨_,rfl⟩
 obtain ⟨p10,hp10⟩:∃ p:List Tr,p=[⟨2,0,1⟩]:=⟨_,rfl⟩
 refine ve (S':={ t:=asg [(0,aB false),(1,aI 7),(2,aI 0),(3,.row 1),(4,aI 0),(5,qb p5),(6,aI 0),(7,qb p7),(8,aI 1),(9,aI 0),(10,jU p10),(11,aI 0)],h:=qa [(1,.row 65 1 [zI p0,zI p1])],n:=2,j:=0,d:=[],m:=0 }) ?_ ?_
 ·rw [hp0,hp1,hp5,hp7,hp10]
  (refine Le.ok some [] ?_;constructor;all_goals (try simp only [vle,vkt,seval,kJ,qb,jU,qI,zI,eTr]))
  all_goals first|rfl|simp
 have q0:decide (p0=[⟨0,1⟩])=true:=decide_eq_true hp0
 have q1:decide (p1=[⟨2,0⟩])=true:=decide_eq_true hp1
 have q5:decide (p5=[⟨0,0⟩,⟨0,1⟩])=true:=decide_eq_true hp5
 have q7:decide (p7=[⟨1,1⟩,⟨1,1⟩,⟨0,0⟩,⟨0,0⟩])=true:=decide_eq_true hp7
 have q10:decide (p10=[⟨2,0,1⟩])=true:=decide_eq_true hp10
 have l0:p0.length<=1000:=by rw [hp0];decide
 have l1:p1.length<=1000:=by rw [hp1];decide
 have l5:p5.length<=1000:=by rw [hp5];decide
 have l7:p7.length<=1000:=by rw [hp7];decide
 have l10:p10.length<=1000:=by rw [hp10];decide
 clear hp0 hp1 hp5 hp7 hp10 h1a h1b h2a h2b h3 h4 h5
 refine jz env fun Q hQ=>?_
 simp only [vkt,seval,yh,kJ,qw,qb,jU,qI,zI,eTr,QN,mTr,QiL,dTr_v,QcF,seqB,seqT,ak,ao,q0,q1,q5,q7,q10,l0,l1,l5,l7,l10,List.append_eq]
 refine dR ?_ ?_
 ·refine jx ?_
  kernel_rfl
 refine hQ _ ?_
 clear hQ Q
 repeat' first|(apply nx;with_reducible constructor)|apply jq (by decide)
 (simp only [vrt,Tryz.results8,vkt,seval,kJ];refine Fin.val rfl ?_;(try simp only [AV.le]))
 all_goals first|rfl|simp
noncomputable def Jo (S:St):List AV->Option Pk
 |[.ptr i 0,.v (.int .i64 a),.v (.int .i64 g),.v (.int .i64 s)]=>match S.h i with
  |some (.cells [.v (.int .u64 x)])=>some { pre:=(1<=a/\a<=3)/\(1<=g/\g<=5)/\(0<=s/\s<=8),hs:=[i],ar:=[.ptr 0 0,.v (.int .i64 a),.v (.int .i64 g),.v (.int .i64 s)],L0:=[.cells [.v (.int .u64 x)]],v:=qh (coC x a g s),L1:=[some (.cells [.v (.int .u64 (coX x a g s))])] }
  |_=>none
 |_=>none
theorem QfO {A:Frm->Prop}:qm A Tryz.prog 9 (fnE Jo):=zB fun S bs q h hp=>by
 unfold Jo at h
 split at h
 ·split at h
  ·cases h;exact QbA _ _ _ _ hp.1 hp.2.1 hp.2.2
  ·cases h
 ·cases h
def Zo:List AV->Prop × AV
 |[]=>(True,aB true)
 |_=>(False,.junk)
theorem Qgr {A:Frm->Prop}:qm A Tryz.prog 8 (zU true Zo):=ze fun vs hv h=>by
 clear hv
 unfold Zo at h ⊢
 split at h
 ·clear h
  refine ⟨by first|trivial|(repeat' split) <;> simp [AV.plain,AV.plainL,aI,aB,qx,qb,qy,qw,aTk,cTk],fun _=>(by simp [AV.flat,aB]), ?_⟩
  have:=Qa0
  first|exact this|(simp only [];exact this)
 ·exact h.elim
structure RmInv (C:Chart) (a:Ask) (i:Nat) (c:Chart):Prop where
 chk:zo c=0
 cabs:c.cabins=C.cabins
 secs:c.secs=C.secs
 len:c.sold.length=C.sold.length+i
 lt:∀ t ∈ c.sold,t.party < 60+(i:Int)
theorem QiH {a b c d e f:Int} {g:Bool} {a' b' c' d' e' f':Int} {g':Bool}:decide ((⟨a,b,c,d,e,f,g⟩:Tk)=⟨a',b',c',d',e',f',g'⟩)=(decide (a=a') && (decide (b=b') && (decide (c=c') && (decide (d=d') && (decide (e=e') && (decide (f=f') && (g == g'))))))):=by
 rw [dm];simp
theorem Qik {a:Int} {g:Bool} {a':Int} {g':Bool}:decide ((⟨a,g⟩:Cabin)=⟨a',g'⟩)=(decide (a=a') && (g == g')):=by
 rw [dm];simp
def eqKS (l m:List Tk) (k:Nat):St:={ t:=asg [(0,qy l),(1,qy m),(4,aB false),(5,aI k)],h:=qa [],n:=0 }
def Ql:=jv @ty3 (jv @xW (jv @yc (jv @ti3.eq_1 (jv @vW.eq_1 @jM.eq_1))))
def kF:=jv @aI.eq_1 (@aB.eq_1)
theorem QlX (l m:List Tk) (hl:l.length<=maxLen) (hm:m.length<=maxLen):FnV Tryz.prog 52 [qy l,qy m] (aB (decide (l=m))):=by
 have env:=qB (A:=fun _=>True) kN
 refine kV (Fn0 Tryz.func52 rfl (fun vs w=>by kernel_rfl) (by kernel_rfl)) (by simp) (by simp [AV.ids,qy]) ?_
 have hmx:maxLen=9223372036854775807:=by decide
 by_cases h0:l.length=m.length
 ·have d0:decide ((l.length:Int)=(m.length:Int))=true:=decide_eq_true (by omega)
  repeat' first|(apply nx;with_reducible constructor)|apply jq (by decide)|((first|apply jz env|apply jw);intro Q hQ;simp only [vkt,seval,Ql,qy,d0,ite_and];(repeat' first|with_reducible assumption|apply jv|intro hp);all_goals first|(apply hQ;clear hQ Q)|(apply jx;kernel_rfl)|omega|assumption|with_reducible rfl|skip)
  refine qY (fun k:{ k:Nat // k<=l.length/\∀ j,j < k->l.getD j default=m.getD j default }=>eqKS l m k.1) (fun k=>l.length - k.1) ⟨0,ap _,fun j h=>absurd h (bu _)⟩ ?_ fun ⟨k,hk,hno⟩=>?_
  ·(refine Le.ok some [] ?_;constructor;all_goals (try simp only [vle,vkt,seval,kF,qy]))
   all_goals first|rfl|simp
  simp only at hk hno ⊢
  simp only [eqKS]
  by_cases hlt:k < l.length
  ·have d1:decide ((k:Int) < (l.length:Int))=true:=decide_eq_true (by omega)
   have hlm:k < m.length:=by omega
   have k0:((k:Int)).toNat=k:=rfl
   have e9:=k9 k (by omega)
   obtain ⟨x,hx⟩:∃ x,l.getD k default=x:=⟨_,rfl⟩
   obtain ⟨y,hy⟩:∃ x,m.getD k default=x:=⟨_,rfl⟩
   have hxy:(decide (x.party=y.party) && (decide (x.sex=y.sex) && (decide (x.cab=y.cab) && (decide (x.bed=y.bed) && (decide (x.frm=y.frm) && (decide (x.to=y.to) && ((x.dog == y.dog))))))))=decide (x=y):=by cases x;cases y;rw [QiH]
   have hne:¬ x=y->decide (l=m)=false:=fun h=>decide_eq_false fun e=>h (by rw [<- hx,<- hy,e])
   cases q:decide (x=y) with
   |false =>
    rw [hne (of_decide_eq_false q)]
    repeat' first|(apply nx;with_reducible constructor)|apply jq (by decide)|((first|apply jz env|apply jw);intro Q hQ;simp only [vkt,seval,Ql,kF,qy,eTk,gTk,d1,k0,hlt,hlm,hx,hy,hxy,q,ite_and];(repeat' first|with_reducible assumption|apply jv|intro hp);all_goals first|(apply hQ;clear hQ Q)|(apply jx;kernel_rfl)|omega|assumption|with_reducible rfl|skip)
    (simp only [vrt,Tryz.results52,vkt,seval,kF];refine Fin.val rfl ?_;(try simp only [AV.le]))
    all_goals first|rfl|simp
   |true =>
    repeat' first|(apply nx;with_reducible constructor)|apply jq (by decide)|((first|apply jz env|apply jw);intro Q hQ;simp only [vkt,seval,Ql,kF,qy,eTk,gTk,d1,k0,hlt,hlm,hx,hy,hxy,q,e9,ite_and];(repeat' first|with_reducible assumption|apply jv|intro hp);all_goals first|(apply hQ;clear hQ Q)|(apply jx;kernel_rfl)|omega|assumption|with_reducible rfl|skip)
    refine ⟨⟨k+1,hlt,fun j hj=>?_⟩,by show l.length - (k+1) < l.length - k;omega, ?_⟩
    ·rcases bw (bx hj) with h1|h1
     ·exact hno j h1
     ·rw [h1,hx,hy];exact of_decide_eq_true q
    ·(refine Le.ok some [] ?_;constructor;all_goals (try simp only [vle,vkt,seval,kF,qy]))
     all_goals first|rfl|simp
  ·have d1:decide ((k:Int) < (l.length:Int))=false:=decide_eq_false (by omega)
   obtain rfl:k=l.length:=by omega
   rw [decide_eq_true (Jd h0 hno)]
   repeat' first|(apply nx;with_reducible constructor)|apply jq (by decide)|((first|apply jz env|apply jw);intro Q hQ;simp only [vkt,seval,Ql,kF,qy,d1,ite_and];(repeat' first|with_reducible assumption|apply jv|intro hp);all_goals first|(apply hQ;clear hQ Q)|(apply jx;kernel_rfl)|omega|assumption|with_reducible rfl|skip)
   (simp only [vrt,Tryz.results52,vkt,seval,kF];refine Fin.val rfl ?_;(try simp only [AV.le]))
   all_goals first|rfl|simp
 ·have d0:decide ((l.length:Int)=(m.length:Int))=false:=decide_eq_false (by omega)
  rw [decide_eq_false (fun e=>h0 (by rw [e]))]
  repeat' first|(apply nx;with_reducible constructor)|apply jq (by decide)|((first|apply jz env|apply jw);intro Q hQ;simp only [vkt,seval,Ql,qy,d0,ite_and];(repeat' first|with_reducible assumption|apply jv|intro hp);all_goals first|(apply hQ;clear hQ Q)|(apply jx;kernel_rfl)|omega|assumption|with_reducible rfl|skip)
  (simp only [vrt,Tryz.results52,vkt,seval,kF];refine Fin.val rfl ?_;(try simp only [AV.le]))
  all_goals first|rfl|simp
def seqK:List AV->Prop × AV
 |[.sl l,.sl m]=>(l=(l.map dTk).map eTk/\m=(m.map dTk).map eTk/\(l.map dTk).length<=maxLen/\(m.map dTk).length<=maxLen,aB (decide ((l.map dTk)=(m.map dTk))))
 |_=>(False,.junk)
theorem eeqK {A:Frm->Prop}:qm A Tryz.prog 52 (zU true seqK):=ze fun vs hv h=>by
 clear hv
 unfold seqK at h ⊢
 split at h
 ·rename_i l m;obtain ⟨q0,q1,k0,k1⟩:=h
  refine ⟨by first|trivial|(repeat' split) <;> simp [AV.plain,AV.plainL,aI,aB,qx,qb,qy,qw,aTk,cTk],fun _=>(by simp [AV.flat,aB]), ?_⟩
  have:=QlX (l.map dTk) (m.map dTk) k0 k1
  simp only [qy,<- q0,<- q1] at this
  first|exact this|(simp only [qy,<- q0,<- q1];exact this)
 ·exact h.elim
def ecS (c d:Chart) (k:Nat):St:={ t:=asg [(2,.ptr 0 0),(3,.ptr 1 0),(4,aB false),(5,aI k)],h:=qa [(0,.cells (qd c)),(1,.cells (qd d))],n:=2 }
def xE:=jv @ty3 (jv @JH (jv @xW (jv @jW (jv @JI (jv @yc (jv @ti3.eq_1 (jv @ZW.eq_1 (jv @vW.eq_1 (jv @jE.eq_1 (jv @Z5.eq_1 @jM.eq_1))))))))))
def xq:=jv @aI.eq_1 (@aB.eq_1)
theorem Qlv (c d:Chart) (h1:c.cabins.length<=maxLen) (h2:c.sold.length<=maxLen) (h4:d.sold.length<=maxLen):FnV Tryz.prog 16 [qh c,qh d] (aB (decide (c=d))):=by
 have env:=qB (A:=fun _=>True) (kC eeqK kN)
 refine kV (Fn0 Tryz.func16 rfl (fun vs w=>by kernel_rfl) (by kernel_rfl)) (by simp) (by simp [AV.ids,AV.idsL,qh,qd]) ?_
 have hmx:maxLen=9223372036854775807:=by decide
 have hE:decide (c=d)=(decide (c.cabins=d.cabins) && (decide (c.secs=d.secs) && decide (c.sold=d.sold))):=by
  cases c;cases d;rw [dm];simp
 rw [hE]
 by_cases h0:c.cabins.length=d.cabins.length
 ·have d0:decide ((c.cabins.length:Int)=(d.cabins.length:Int))=true:=decide_eq_true (by omega)
  cases q0:decide (c.secs=d.secs) with
  |false =>
   rw [bz,Bool.and_false]
   repeat' first|(apply nx;with_reducible constructor)|apply jq (by decide)|((first|apply jz env|apply jw);intro Q hQ;simp only [vkt,seval,xE,qh,qd,d0,q0,ite_and];(repeat' first|with_reducible assumption|apply jv|intro hp);all_goals first|(apply hQ;clear hQ Q)|(apply jx;kernel_rfl)|omega|assumption|with_reducible rfl|skip)
   (simp only [vrt,Tryz.results16,vkt,seval,xq];refine Fin.val rfl ?_;(try simp only [AV.le]))
   all_goals first|rfl|simp
  |true =>
   rw [bE]
   repeat' first|(apply nx;with_reducible constructor)|apply jq (by decide)|((first|apply jz env|apply jw);intro Q hQ;simp only [vkt,seval,xE,qh,qd,d0,q0,ite_and];(repeat' first|with_reducible assumption|apply jv|intro hp);all_goals first|(apply hQ;clear hQ Q)|(apply jx;kernel_rfl)|omega|assumption|with_reducible rfl|skip)
   refine qY (fun k:{ k:Nat // k<=c.cabins.length/\∀ j,j < k->c.cabins.getD j default=d.cabins.getD j default }=>ecS c d k.1) (fun k=>c.cabins.length - k.1) ⟨0,ap _,fun j h=>absurd h (bu _)⟩ ?_ fun ⟨k,hk,hno⟩=>?_
   ·simp only [ecS]
    (refine Le.ok some [] ?_;constructor;all_goals (try simp only [vle,vkt,seval,xq,qd]))
    all_goals first|rfl|simp
   simp only at hk hno ⊢
   simp only [ecS]
   by_cases hlt:k < c.cabins.length
   ·have d1:decide ((k:Int) < (c.cabins.length:Int))=true:=decide_eq_true (by omega)
    have hlm:k < d.cabins.length:=by omega
    have k0:((k:Int)).toNat=k:=rfl
    have e9:=k9 k (by omega)
    obtain ⟨x,hx⟩:∃ x,c.cabins.getD k default=x:=⟨_,rfl⟩
    obtain ⟨y,hy⟩:∃ x,d.cabins.getD k default=x:=⟨_,rfl⟩
    have hxy:(decide (x.beds=y.beds) && (x.door == y.door))=decide (x=y):=by cases x;cases y;rw [Qik]
    have hne:¬ x=y->decide (c.cabins=d.cabins)=false:=fun h=>decide_eq_false fun e=>h (by rw [<- hx,<- hy,e])
    cases q:decide (x=y) with
    |false =>
     rw [hne (of_decide_eq_false q),bz]
     repeat' first|(apply nx;with_reducible constructor)|apply jq (by decide)|((first|apply jz env|apply jw);intro Q hQ;simp only [vkt,seval,xE,xq,qd,qo,wF,d1,k0,hlt,hlm,hx,hy,hxy,q,ite_and];(repeat' first|with_reducible assumption|apply jv|intro hp);all_goals first|(apply hQ;clear hQ Q)|(apply jx;kernel_rfl)|omega|assumption|with_reducible rfl|skip)
     (simp only [vrt,Tryz.results16,vkt,seval,xq];refine Fin.val rfl ?_;(try simp only [AV.le]))
     all_goals first|rfl|simp
    |true =>
     repeat' first|(apply nx;with_reducible constructor)|apply jq (by decide)|((first|apply jz env|apply jw);intro Q hQ;simp only [vkt,seval,xE,xq,qd,qo,wF,d1,k0,hlt,hlm,hx,hy,hxy,q,e9,ite_and];(repeat' first|with_reducible assumption|apply jv|intro hp);all_goals first|(apply hQ;clear hQ Q)|(apply jx;kernel_rfl)|omega|assumption|with_reducible rfl|skip)
     refine ⟨⟨k+1,hlt,fun j hj=>?_⟩,by show c.cabins.length - (k+1) < c.cabins.length - k;omega, ?_⟩
     ·rcases bw (bx hj) with h1|h1
      ·exact hno j h1
      ·rw [h1,hx,hy];exact of_decide_eq_true q
     ·simp only []
      (refine Le.ok some [] ?_;constructor;all_goals (try simp only [vle,vkt,seval,xq,qd]))
      all_goals first|rfl|simp
   ·have d1:decide ((k:Int) < (c.cabins.length:Int))=false:=decide_eq_false (by omega)
    obtain rfl:k=c.cabins.length:=by omega
    rw [decide_eq_true (Jd h0 hno),bE]
    repeat' first|(apply nx;with_reducible constructor)|apply jq (by decide)|((first|apply jz env|apply jw);intro Q hQ;simp only [vkt,seval,xE,xq,qd,mTk,seqK,d1,h2,h4,ite_and];(repeat' first|with_reducible assumption|apply jv|intro hp);all_goals first|(apply hQ;clear hQ Q)|(apply jx;kernel_rfl)|omega|assumption|with_reducible rfl|skip)
    (simp only [vrt,Tryz.results16,vkt,seval,xq];refine Fin.val rfl ?_;(try simp only [AV.le]))
    all_goals first|rfl|simp
 ·have d0:decide ((c.cabins.length:Int)=(d.cabins.length:Int))=false:=decide_eq_false (by omega)
  rw [decide_eq_false (fun e:c.cabins=d.cabins=>h0 (by rw [e])),bz]
  repeat' first|(apply nx;with_reducible constructor)|apply jq (by decide)|((first|apply jz env|apply jw);intro Q hQ;simp only [vkt,seval,xE,qh,qd,d0,ite_and];(repeat' first|with_reducible assumption|apply jv|intro hp);all_goals first|(apply hQ;clear hQ Q)|(apply jx;kernel_rfl)|omega|assumption|with_reducible rfl|skip)
  (simp only [vrt,Tryz.results16,vkt,seval,xq];refine Fin.val rfl ?_;(try simp only [AV.le]))
  all_goals first|rfl|simp
def seqC:List AV->Prop × AV
 |[.agg [.sl c0,.v (.int .i64 c1),.sl c2],.agg [.sl d0,.v (.int .i64 d1),.sl d2]]=>(c0=(c0.map qp).map qo/\c2=(c2.map dTk).map eTk/\d0=(d0.map qp).map qo/\d2=(d2.map dTk).map eTk/\((⟨(c0.map qp),c1,(c2.map dTk)⟩:Chart)).cabins.length<=maxLen/\((⟨(c0.map qp),c1,(c2.map dTk)⟩:Chart)).sold.length<=maxLen/\((⟨(d0.map qp),d1,(d2.map dTk)⟩:Chart)).sold.length<=maxLen,aB (decide (((⟨(c0.map qp),c1,(c2.map dTk)⟩:Chart))=((⟨(d0.map qp),d1,(d2.map dTk)⟩:Chart)))))
 |_=>(False,.junk)
theorem eeqC {A:Frm->Prop}:qm A Tryz.prog 16 (zU true seqC):=ze fun vs hv h=>by
 clear hv
 unfold seqC at h ⊢
 split at h
 ·rename_i c0 c1 c2 d0 d1 d2;obtain ⟨q0,q1,q2,q3,k0,k1,k2⟩:=h
  refine ⟨by first|trivial|(repeat' split) <;> simp [AV.plain,AV.plainL,aI,aB,qx,qb,qy,qw,aTk,cTk],fun _=>(by simp [AV.flat,aB]), ?_⟩
  have:=Qlv ((⟨(c0.map qp),c1,(c2.map dTk)⟩:Chart)) ((⟨(d0.map qp),d1,(d2.map dTk)⟩:Chart)) k0 k1 k2
  simp only [qh,qd,<- q0,<- q1,<- q2,<- q3] at this
  first|exact this|(simp only [wH,qh,aI,qy,qd,<- q0,<- q1,<- q2,<- q3];exact this)
 ·exact h.elim
end Go.Sym.B
