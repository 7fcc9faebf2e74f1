/- Walks and what they compute, joined: part 3. -/
import Derived.Test.YtcmfagpdahhfpaaGreatDoorZS3
import Derived.Test.YtcmfagpdahhfpaaGreatDoorProg
import Derived.KernelRfl
import Derived.Shelf.Strings.OnBuilder
import Derived.Shelf.Strconv.Itoa3
import Derived.Shelf.Strconv.AtoiAll
import Derived.Shelf.Strings.Split
import Derived.Shelf.Strings.Cut
import Derived.Test.YtcmfagpdahhfpaaGreatDoorZB2
set_option linter.all false
set_option maxHeartbeats 40000000
namespace Go.Sym.B
open Go Go.Sym Go.Proofs Go.Proofs.Tryz Go.Sym.C
def pLs0 (c:Chart) (a:Ask) (many:Nat) (S:St):List AV->Option Pk
 |[.nil,.v (.int .i64 f),.ptr p6 0,.ptr p7 0,.ptr p8 0,.ptr p9 0,.ptr p10 0,.ptr p11 0]=>match S.h p7 with
  |some (.cells [.clo _ [.ptr p3 0,.ptr p2 0,.ptr p4 0,.ptr p5 0]])=>match S.h p2 with
   |some (.cells [.ptr p0 0])=>match S.h p0 with
    |some (.cells [_,_,.row p1])=>some { pre:=f=0/\LsOk c a [] 0 many,hs:=[p0,p1,p2,p3,p4,p5,p6,p7,p8,p9,p10,p11],ar:=[.sl [],.v (.int .i64 0),.ptr 6 0,.ptr 7 0,.ptr 8 0,.ptr 9 0,.ptr 10 0,.ptr 11 0],L0:=lsL c a many none,v:=.tup [],L1:=(lsL c a many (lsF c a many [] 0)).map some }
    |_=>none
   |_=>none
  |_=>none
 |_=>none
def eLs0 {A:Frm->Prop} {c:Chart} {a:Ask} {many:Nat}:qm A prog 142 (fnE (pLs0 c a many)):=zJ fun S bs q h hp=>by
 unfold pLs0 at h
 split at h
 ·split at h
  ·split at h
   ·split at h
    ·cases h
     exact V9 c a many many [] 0 (by simp) hp.2
    ·cases h
   ·cases h
  ·cases h
 ·cases h
def LP:=jv @ty3 (jv @ty4 (jv @Jj (jv @Qk3 (jv @ti3.eq_1 (jv @ti4.eq_1 (jv @ZE.eq_1 @U7.eq_1))))))
def Qdh:=jv @aI.eq_1 (jv @aB.eq_1 (jv @qz.eq_1 (jv @zL.eq_1 (jv @QiJ (@Ju)))))
def QhP (c:Chart) (a:Ask) (many:Nat) (ok:LsOk c a [] 0 many):Fn noB prog 84 [aI (wX c.sold).length,aI many,.clo 85 [.ptr 3 0,.ptr 2 0,.ptr 4 0,.ptr 5 0]] (qb (qB 0 (mvL c a []))) (.tup [qz (((lsF c a many [] 0).map (·.1)).getD []),aB (lsF c a many [] 0).isSome]) (qb (ze 0 ((mvL c a (((lsF c a many [] 0).map (·.2)).getD [])).map some))) 0:=by
 have env:Env (fun _=>True) prog tyB (tab [(142,fnE (pLs0 c a many))]):=qA ⟨eLs0,trivial⟩
 refine Fn.of (A:=fun _=>True) (n0:=6) (D:=noD) (Fn0 func84 rfl (fun vs w=>by kernel_rfl) (by kernel_rfl)) (by simp) (by simp [AV.ids,AV.idsL,aI]) QcF (fun _ _ _ _=>trivial) qX ?_
 obtain ⟨o,ho⟩:∃ o,lsF c a many [] 0=o:=⟨_,rfl⟩
 rw [ho]
 show Sym _ _ _ (qV [aI (wX c.sold).length,aI many,.clo 85 [.ptr 3 0,.ptr 2 0,.ptr 4 0,.ptr 5 0]] 6 (qb [(0,qg c.cabins c.secs 1),(1,qf c.sold),(2,.cells [.ptr 0 0]),(3,.cells [.sl ((wX c.sold).map zL)]),(4,.cells (qo a)),(5,.cells [.sl []])])) (yc tyB noD Tryz.f84 fun S rv=>Fin S rv _ 6 (qb [(0,qg c.cabins c.secs 1),(1,qf c.sold),(2,.cells [.ptr 0 0]),(3,.cells [.sl ((wX c.sold).map zL)]),(4,.cells (qo a)),(5,.cells [.sl (((o.map (·.2)).getD []).map eTr)])]) 0)
 repeat' first|(apply nx;with_reducible constructor)|apply jq (by decide)|((first|apply jz env|apply jw);intro Q hQ;simp only [vkt,seval,LP,Qdh,qg,qf,lsL,qo,pLs0,ho,ok,bG,bD,ite_and];(repeat' first|with_reducible assumption|apply jv|intro hp);all_goals first|(apply hQ;clear hQ Q)|(apply jx;kernel_rfl)|omega|assumption|rfl|skip)
 (simp only [vrt,results84,vkt,seval,Qdh,qg,qf,qo];refine Fin.ok some [] ?_ ?_ ?_ ?_ ?_ rfl;all_goals (try simp only [vle,vkt,seval]))
 all_goals first|rfl|(simp;done)|exact fun i hi=>(match i,hi with|0,_=>rfl|1,_=>rfl)
def QeA (c:Chart) (a:Ask) (m:Nat):Yp c a m=(lsF c a m [] 0).map (·.2):=by
 unfold Yp lsF
 generalize KU (wX c.sold).length m [] 0=L
 induction L with
 |nil=>rfl
 |cons l L ih =>
  rw [c6,c6]
  have hl:lsG c a l=(jU c.cabins c.secs a (xU c l) c.sold).map fun t=>(l,t):=rfl
  rw [hl]
  cases jU c.cabins c.secs a (xU c l) c.sold with
  |none=>exact ih
  |some t=>rfl
def Vl (c:Chart) (a:Ask) (many:Nat) (S:St):List AV->Option Pk
 |[.v (.int .i64 n),.v (.int .i64 m),.clo f [.ptr p3 0,.ptr p2 0,.ptr p4 0,.ptr p5 0]]=>match S.h p2 with
  |some (.cells [.ptr p0 0])=>match S.h p0 with
   |some (.cells [_,_,.row p1])=>some { pre:=n=(wX c.sold).length/\m=(many:Int)/\f=85/\LsOk c a [] 0 many,hs:=[p0,p1,p2,p3,p4,p5],ar:=[aI (wX c.sold).length,aI many,.clo 85 [.ptr 3 0,.ptr 2 0,.ptr 4 0,.ptr 5 0]],L0:=mvL c a [],v:=.tup [qz (((lsF c a many [] 0).map (·.1)).getD []),aB (lsF c a many [] 0).isSome],L1:=(mvL c a (((lsF c a many [] 0).map (·.2)).getD [])).map some }
   |_=>none
  |_=>none
 |_=>none
def QmJ {A:Frm->Prop} {c:Chart} {a:Ask} {many:Nat}:qm A prog 84 (fnE (Vl c a many)):=zJ fun S bs q h hp=>by
 unfold Vl at h
 split at h
 ·split at h
  ·split at h
   ·cases h
    exact QhP c a many hp.2.2.2
   ·cases h
  ·cases h
 ·cases h
def Qaq {c:Chart} {a:Ask} (h:wz c a=0) {t:List Tr} (ht:(List.range 3).findSome? (Yp c a)=some t):kE c a=(t,0):=by
 unfold kE
 rw [if_neg (by simpa using h),ht]
def UW {c:Chart} {a:Ask} (h:wz c a=0) (ht:(List.range 3).findSome? (Yp c a)=none):kE c a=([],11):=by
 unfold kE
 rw [if_neg (by simpa using h),ht]
def mdS (c:Chart) (a:Ask) (k:Nat):St:={ t:=asg [(3,.ptr 1 0),(4,.nil),(5,aI 0),(6,.ptr 4 0),(8,.ptr 5 0),(24,aI k)],h:=qb [(1,.cells (qo a)),(2,qg c.cabins c.secs 3),(3,qf c.sold),(4,.cells [.ptr 2 0]),(5,.cells [.sl ((wX c.sold).map zL)])],n:=6 }
def xB:=jv @ty3 (jv @jm (jv @Jj (jv @Qa (jv @Jp (jv @QfO (jv @QfJ (jv @QM (jv @ti3.eq_1 (jv @wY.eq_1 (jv @ZE.eq_1 (jv @xQ.eq_1 (jv @ZG.eq_1 (jv @RV.eq_1 (jv @K4.eq_1 @xW.eq_1))))))))))))))
def xw:=jv @aI.eq_1 (jv @aB.eq_1 (jv @qz.eq_1 (@Ju)))
def QiK (c:Chart) (a:Ask) (hc:c.cabins.length<=maxLen) (ha:a.sexes.length<=maxLen):FnV prog 32 [qd c,zl a] (.tup [yn (kE c a).1,aI (kE c a).2]):=by
 have ec:(⟨c.cabins,c.secs,c.sold⟩:Chart)=c:=rfl
 have ea:(⟨a.party,a.frm,a.to,a.sexes,a.dog⟩:Ask)=a:=rfl
 by_cases h0:wz c a=0
 ·have hval:=(Zq h0).val
  have hsx:=(Zq h0).sx
  have h8:=hval.many
  have h100:c.sold.length<=100:=by omega
  have env0:Env (fun _=>True) prog tyB (tab [(76,fnE yg),(83,zw false Qdm)]):=qA ⟨Vv,elone,trivial⟩
  have env1:∀ k,Env (fun _=>True) prog tyB (tab [(84,fnE (Vl c a k))]):=fun k=>qA ⟨QmJ,trivial⟩
  have env:=env0
  refine kV (Fn0 func32 rfl (fun vs w=>by kernel_rfl) (by kernel_rfl)) (by simp) (by simp [AV.ids,AV.idsL,qd,qa,zl,qo]) ?_
  repeat' first|(apply nx;with_reducible constructor)|apply jq (by decide)|((first|apply jz env|apply jw);intro Q hQ;simp only [vkt,seval,xB,xw,qd,qa,zl,qo,mTk,qC,qg,qf,qJ,yg,Qdm,ec,ea,h0,h100,ite_and];(repeat' first|with_reducible assumption|apply jv|intro hp);all_goals first|(apply hQ;clear hQ Q)|(apply jx;kernel_rfl)|omega|assumption|rfl|skip)
  refine qN (fun k:{ k:Nat // k<=3/\∀ j,j < k->Yp c a j=none }=>mdS c a k.1) (fun k=>3 - k.1) ⟨0,ag _,fun j h=>absurd h (bp _)⟩ ?_ fun ⟨k,hk,hno⟩=>?_
  ·(refine Le.ok some [] ?_;constructor;all_goals (try simp only [vle,vkt,seval,xw,qo,qg,qf]))
   all_goals first|rfl|simp
  simp only at hk hno ⊢
  clear env
  have env:=env1 k
  by_cases hk3:k < 3
  ·have d1:decide ((k:Int) < 3)=true:=decide_eq_true (by omega)
   have w1:=k9 k (by omega)
   have hok:LsOk c a [] 0 k:=⟨hval,hsx,by simp;omega,.inl (ag _),by simp⟩
   have hN:=QeA c a k
   obtain ⟨o,ho⟩:∃ o,lsF c a k [] 0=o:=⟨_,rfl⟩
   rw [ho] at hN
   cases o with
   |none =>
    repeat' first|(apply nx;with_reducible constructor)|apply jq (by decide)|((first|apply jz env|apply jw);intro Q hQ;simp only [vkt,seval,xB,xw,qo,qg,qf,mvL,mdS,Vl,d1,w1,hok,ho,bG,bD,ite_and];(repeat' first|with_reducible assumption|apply jv|intro hp);all_goals first|(apply hQ;clear hQ Q)|(apply jx;kernel_rfl)|omega|assumption|rfl|skip)
    refine ⟨⟨k+1,hk3,fun j hj=>?_⟩,by show 3 - (k+1) < 3 - k;omega, ?_⟩
    ·rcases bq (bt hj) with h1|h1
     ·exact hno j h1
     ·rw [h1];exact hN
    ·(refine Le.ok some [] ?_;constructor;all_goals (try simp only [vle,vkt,seval,xw,qo,qg,qf]))
     all_goals first|rfl|simp
   |some t =>
    rw [Qaq h0 (fsr hno hk3 hN)]
    repeat' first|(apply nx;with_reducible constructor)|apply jq (by decide)|((first|apply jz env|apply jw);intro Q hQ;simp only [vkt,seval,xB,xw,qo,qg,qf,mvL,mdS,Vl,d1,hok,ho,ite_and];(repeat' first|with_reducible assumption|apply jv|intro hp);all_goals first|(apply hQ;clear hQ Q)|(apply jx;kernel_rfl)|omega|assumption|rfl|skip)
    (simp only [vrt,results32,vkt,seval,xw,yn];refine Fin.val rfl ?_;(try simp only [AV.le,AV.leL]))
    all_goals first|rfl|simp
  ·have d1:decide ((k:Int) < 3)=false:=decide_eq_false (by omega)
   rw [UW h0 (UX (fun j hj=>hno j (by omega)))]
   repeat' first|(apply nx;with_reducible constructor)|apply jq (by decide)|((first|apply jz env|apply jw);intro Q hQ;simp only [vkt,seval,xB,xw,qo,qg,qf,mdS,d1,ite_and];(repeat' first|with_reducible assumption|apply jv|intro hp);all_goals first|(apply hQ;clear hQ Q)|(apply jx;kernel_rfl)|omega|assumption|rfl|skip)
   (simp only [vrt,results32,vkt,seval,xw,yn];refine Fin.val rfl ?_;(try simp only [AV.le,AV.leL]))
   all_goals first|rfl|simp
 ·have env:=qA (A:=fun _=>True) (kC Vv kN)
  refine kV (Fn0 func32 rfl (fun vs w=>by kernel_rfl) (by kernel_rfl)) (by simp) (by simp [AV.ids,AV.idsL,qd,qa,zl,qo]) ?_
  rw [show kE c a=([],wz c a) by unfold kE;rw [if_pos (by simpa using h0)]]
  repeat' first|(apply nx;with_reducible constructor)|apply jq (by decide)|((first|apply jz env|apply jw);intro Q hQ;simp only [vkt,seval,xB,xw,qd,qa,zl,qo,mTk,qC,yg,ec,ea,h0,ite_and];(repeat' first|with_reducible assumption|apply jv|intro hp);all_goals first|(apply hQ;clear hQ Q)|(apply jx;kernel_rfl)|omega|assumption|rfl|skip)
  (simp only [vrt,results32,vkt,seval,xw,yn];refine Fin.val rfl ?_;(try simp only [AV.le,AV.leL]))
  all_goals first|rfl|simp
def X3 {cs:List Cabin} {a:Ask}:∀ (m:Nat) (sold:List Tk) (begun:List Bunk),∀ x ∈ zS cs a m sold begun,x.1.length=begun.length+m
 |0,sold,begun,x,hx=>by
  simp only [zS,aW] at hx
  subst hx;rfl
 |m+1,sold,begun,x,hx=>by
  rw [QV,db] at hx
  obtain ⟨b,hb,hx⟩:=hx
  unfold gbL at hx
  split at hx
  ·rw [X3 m _ _ x hx];simp;omega
  ·simp at hx
def Qmg {c:Chart} {a:Ask} (h:a.sexes.length=1) {j:Nat} (hj:j < (plP c a).length):((plP c a).getD j default).1=[((plP c a).getD j default).1.getD 0 default]:=by
 have:=X3 a.sexes.length c.sold [] _ (vG (l:=plP c a) (d:=default) hj)
 rw [h] at this
 generalize ((plP c a).getD j default).1=l at this ⊢
 match l,this with
 |[b],_=>rfl
def Q3 (c:Chart) (a:Ask) (s:Int):(yV c a s).length=(plP c (XJ a s)).length:=by simp [yV]
def Qcp {c:Chart} {a:Ask} {s:Int} {j:Nat} (hj:j < (plP c (XJ a s)).length):(yV c a s).getD j default=((plP c (XJ a s)).getD j default).1.getD 0 default:=by
 simp [yV,ai,hj]
def opR (c:Chart) (a:Ask) (s:Int) (j:Nat):List (List DV):=((yV c a s).take j).map qK
def QgK {c:Chart} {a:Ask} {s:Int} {j:Nat} (hj:j < (plP c (XJ a s)).length):opR c a s (j+1)=opR c a s j++[qK (((plP c (XJ a s)).getD j default).1.getD 0 default)]:=by
 unfold opR
 rw [<- Qcp hj,bQ (by rw [Q3];exact hj),aq]
 simp [ai,show j < (yV c a s).length by rw [Q3];exact hj]
def QmE (c:Chart) (a:Ask) (s:Int) (j:Nat):zu 2 (opR c a s j)=True:=by
 unfold opR
 exact UY _
def Kv (c:Chart) (a:Ask) (k:Nat):(QS c a k).length=k:=by simp [QS]
def QeC (c:Chart) (a:Ask):(Z9 c a).length=(a.to - a.frm).toNat:=Kv _ _ _
def Qed {c:Chart} {a:Ask} {i:Nat} (hi:i < (a.to - a.frm).toNat) (h:yV c a (a.frm+i)=[]):(Z9 c a).any (·.isEmpty)=true:=by
 rw [bY]
 refine ⟨_,ap.2 ⟨i,aY.2 hi,rfl⟩, ?_⟩
 show (yV c a (a.frm+i)).isEmpty=true
 rw [h];rfl
def QdS {c:Chart} {a:Ask} (h:∀ i,i < (a.to - a.frm).toNat->yV c a (a.frm+i) ≠ []):(Z9 c a).any (·.isEmpty)=false:=by
 rw [dz]
 intro l hl
 obtain ⟨i,hi,rfl⟩:=ap.1 hl
 have:=h i (aY.1 hi)
 simpa using this
def QjI {c:Chart} {a:Ask} (h:wz c a=0):0<=a.frm/\a.frm < a.to/\a.to<=c.secs:=by
 have hk:=(Qe h).2
 unfold Q9 at hk
 split at hk
 ·exact absurd hk (by decide)
 split at hk
 ·exact absurd hk (by decide)
 split at hk
 ·exact absurd hk ‹_›
 rename_i h3
 exact R9 (Decidable.not_not.1 h3)
def QaF {c:Chart} {a:Ask} (h:wz c a=0) (s:Int):PlOk c (XJ a s):=⟨(Zq h).val,(Zq h).sx⟩
def BhOk.mono {L:List (List Bunk)} {es:List (Value × Value)} {i j:Nat} (h:BhOk L es i) (hij:i<=j):BhOk L es j:=⟨h.ok,fun k h1 h2=>h.look k (by omega) h2⟩
def QfP {c:Chart} {a:Ask} (h:wz c a=0):∀ l ∈ Z9 c a,l.length<=1000:=by
 intro l hl
 obtain ⟨i,hi,rfl⟩:=ap.1 hl
 rw [Q3]
 have:=Qbj (QaF h (a.frm+i))
 omega
def chC (L:List (List Bunk)) (k:Nat):Int:=if k=0 then 0 else (jI L ⟨-1,0⟩).2 - 1
def mks:Nat->List (Nat × AObj)
 |0=>[]
 |k+1=>(20+k,.mark) :: mks k
def dks:Nat->List ADf
 |0=>[]
 |k+1=>.mark (20+k) :: dks k
def chT (s:Int):List (Nat × AV):=[(3,.ptr 1 0),(4,.nil),(5,aI 0),(6,aI 0),(7,.ptr 2 0),(8,.ptr 4 0),(9,aI s)]
def chS (c:Chart) (a:Ask) (i:Nat):St:={ t:=asg (chT (a.frm+i)),h:=qb ([(1,.cells (qo a)),(2,qg c.cabins c.secs 3),(3,qf c.sold),(4,.cells [.row 5]),(5,.row 65 1 ((QS c a i).map zM))]++mks i),n:=25,d:=dks i }
def crL0 (s:Int):List (Nat × AV):=chT s++[(11,.ptr 26 0),(56,.clo 140 [.ptr 27 0,.ptr 28 0])]
def crL (s:Int):List (Nat × AV):=chT s++[(11,.ptr 26 0)]
def crH (c:Chart) (a:Ask) (T:List (Nat × AObj)) (i j:Nat):List (Nat × AObj):=[(1,.cells (qo a)),(4,.cells [.row 5]),(5,.row 65 1 ((QS c a i).map zM)),(26,.cells [.row 29]),(29,.row 76 2 (opR c a (a.frm+i) j))]++T
def U8 (c:Chart) (a:Ask):qU [2,3,27,28] 31 0 (plL c a)=[(2,qg c.cabins c.secs 3),(3,qf c.sold),(27,.cells [.ptr 2 0]),(28,.cells (qo a))]:=by
 simp [qU,plL,qj,AObj.ren,AV.renL,AV.ren,qg,qf,qo]
def R8 (c:Chart) (a:Ask) (j:Nat):qU [2] 31 0 (plH c a j)=[(2,qg c.cabins c.secs 31),(31,qf ((plP c a).getD j default).2)]:=by
 simp [qU,plH,qJ,qj,AObj.ren,AV.renL,AV.ren,qg,qf]
def c2O (L:List (List Bunk)) (es:List (Value × Value)):List (Nat × AObj):=[(4,.cells [.row 5]),(5,.row 65 1 (L.map zM)),(25,.map es),(26,.cells [.mp 25])]
def c2T:List (Nat × AV):=[(4,.nil),(5,aI 0),(6,aI 0),(8,.ptr 4 0),(13,.ptr 26 0),(14,.clo 82 [.ptr 4 0,.ptr 26 0])]
def c2S (T:List (Nat × AObj)) (D:List ADf) (L:List (List Bunk)) (es:List (Value × Value)) (y:Nat):St:={ t:=asg (c2T++[(15,aI ((y:Int) - 1))]),h:=qb (c2O L es++T),n:=27,d:=D }
def c3S (T:List (Nat × AObj)) (D:List ADf) (L:List (List Bunk)) (es:List (Value × Value)) (A:Nat) (l:List Bunk) (k:Nat):St:={ t:=asg (c2T++[(15,aI (A:Nat)),(83,qc l),(84,aI l.length),(85,aI k)]),h:=qb (c2O L es++T),n:=27,d:=D }
def c4S (T:List (Nat × AObj)) (D:List ADf) (L:List (List Bunk)) (es:List (Value × Value)) (k:Nat):St:={ t:=asg [(4,.row 27),(5,aI (chC L k)),(6,aI 0),(8,.ptr 4 0),(13,.ptr 26 0),(14,.clo 82 [.ptr 4 0,.ptr 26 0]),(103,aI L.length),(104,aI k)],h:=qb (c2O L es++(27,.row 76 2 ((wkK L k).map qK)) :: T),n:=28,d:=D }
def zi:=jv @ty3 (jv @ty4 (jv @jm (jv @Jj (jv @Qa (jv @ty59 (jv @Jp (jv @Vy (jv @vS (jv @Qlo (jv @Qk6 (jv @ti3.eq_1 (jv @ti4.eq_1 (jv @wY.eq_1 (jv @ZE.eq_1 (jv @xQ.eq_1 (jv @QaZ.eq_1 (jv @ZG.eq_1 (jv @JY.eq_1 (jv @yG.eq_1 (jv @LB.eq_1 @LF.eq_1))))))))))))))))))))
def zn:=jv @aI.eq_1 (jv @aB.eq_1 (jv @fnQ.eq_1 (jv @Qf4.eq_1 (jv @Qf4.eq_2 (@Ju)))))
def QfE (c:Chart) (a:Ask) (hc:c.cabins.length<=maxLen) (ha:a.sexes.length<=maxLen):FnV prog 30 [qd c,zl a] (.tup [qc (Qf c a).1,aI (Qf c a).2.1,aI (Qf c a).2.2]):=by
 have env:Env (fun F=>F.r=none) prog tyB (tab [(76,fnE yg),(78,fnE yB),(82,fnQ Qbt)]):=qA ⟨Vv,Vf,eNx1,trivial⟩
 refine Fn.of (A:=fun F=>F.r=none) (n0:=0) (D:=noD) (Fn0 func30 rfl (fun vs w=>by kernel_rfl) (by kernel_rfl)) (by simp) (by simp [AV.ids,AV.idsL,qd,qa,zl,qo]) (fun i o h=>by cases h) (fun _ _ _ h=>h) qX ?_
 have ec:(⟨c.cabins,c.secs,c.sold⟩:Chart)=c:=rfl
 have ea:(⟨a.party,a.frm,a.to,a.sexes,a.dog⟩:Ask)=a:=rfl
 unfold Qf
 by_cases h0:wz c a=0
 ·rw [if_neg (by simpa using h0)]
  by_cases h1:1 < a.sexes.length
  ·rw [if_pos h1]
   have d1:decide ((1:Int) < (a.sexes.length:Int))=true:=decide_eq_true (by omega)
   repeat' first|(apply nx;with_reducible constructor)|apply jq (by decide)|((first|apply jz env|apply jw);intro Q hQ;simp only [vkt,seval,zi,zn,qd,qa,zl,qo,mTk,qC,qg,qf,qJ,yg,hwL,aO,ec,ea,h0,d1,ite_and];(repeat' first|with_reducible assumption|apply jv|intro hp);all_goals first|(apply hQ;clear hQ Q)|(apply jx;kernel_rfl)|omega|assumption|rfl|skip)
   (simp only [vrt,results30,vkt,seval,zn,qc];refine Fin.val rfl ?_;(try simp only [AV.le,AV.leL]))
   all_goals first|rfl|simp
  rw [if_neg h1]
  have d1:decide ((1:Int) < (a.sexes.length:Int))=false:=decide_eq_false (by omega)
  cases hd:a.dog with
  |true =>
   rw [hd] at ea
   repeat' first|(apply nx;with_reducible constructor)|apply jq (by decide)|((first|apply jz env|apply jw);intro Q hQ;simp only [vkt,seval,zi,zn,qd,qa,zl,qo,mTk,qC,qg,qf,qJ,yg,hwL,aO,ec,ea,h0,d1,hd,ite_and];(repeat' first|with_reducible assumption|apply jv|intro hp);all_goals first|(apply hQ;clear hQ Q)|(apply jx;kernel_rfl)|omega|assumption|rfl|skip)
   (simp only [vrt,results30,vkt,seval,zn,qc];refine Fin.val rfl ?_;(try simp only [AV.le,AV.leL]))
   all_goals first|rfl|simp
  |false =>
   rw [if_neg (by decide)]
   have hone:a.sexes.length=1:=by have:=(QgB (Qe h0).2).2;omega
   have hway:=QjI h0
   have hsec:=(Zq h0).val.car.secs
   obtain ⟨M,hM⟩:∃ M,(a.to - a.frm).toNat=M:=⟨_,rfl⟩
   have ea':=ea
   rw [hd] at ea'
   repeat' first|(apply nx;with_reducible constructor)|apply jq (by decide)|((first|apply jz env|apply jw);intro Q hQ;simp only [vkt,seval,zi,zn,qd,qa,zl,qo,mTk,qC,qg,qf,qJ,yg,hwL,aO,ec,ea',h0,d1,hd,ite_and];(repeat' first|with_reducible assumption|apply jv|intro hp);all_goals first|(apply hQ;clear hQ Q)|(apply jx;kernel_rfl)|omega|assumption|rfl|skip)
   refine qN (fun i:{ i:Nat // i<=M/\∀ j,j < i->yV c a (a.frm+j) ≠ [] }=>chS c a i.1) (fun i=>M - i.1) ⟨0,ag _,fun j h=>absurd h (bp _)⟩ ?_ fun ⟨i,hi,hno⟩=>?_
   ·show Le _ { t:=asg (chT (a.frm+(0:Nat))),h:=qb [(1,.cells (qo a)),(2,qg c.cabins c.secs 3),(3,qf c.sold),(4,.cells [.row 5]),(5,.row 65 1 [])],n:=25 }
    (refine Le.ok (fun i=>if i=5 then none else some i) [] ?_;constructor;all_goals (try simp only [vle,vkt,seval,zn,qo,qg,qf,chT]))
    all_goals first|rfl|(simp [hd];done)|(intro i hi;rw [if_neg (by omega)];done)
   simp only at hi hno ⊢
   by_cases hlt:i < M
   ·have hi5:i=0\/i=1\/i=2\/i=3\/i=4:=by omega
    rcases hi5 with hi5|hi5|hi5|hi5|hi5
    all_goals
     have hmk:=congrArg mks hi5
     have hdk:=congrArg dks hi5
     simp only [mks,dks,Nat.reduceAdd] at hmk hdk
     have w1:IntKind.wrap .i64 (a.frm+(i:Int)+1)=a.frm+(i:Int)+1:=wrap64 (by omega) (by omega)
     obtain ⟨s,hs⟩:∃ s,a.frm+(i:Int)=s:=⟨_,rfl⟩
     have hoa:(⟨a.party,s,s+1,a.sexes,a.dog⟩:Ask)=XJ a s:=rfl
     have dlt:decide (s < a.to)=true:=decide_eq_true (by omega)
     rw [hs] at w1
     have hpo:=QaF h0 s
     unfold chS
     rw [hmk,hdk]
     repeat' first|(apply nx;with_reducible constructor)|apply jq (by decide)|((first|apply jz env|apply jw);intro Q hQ;simp only [vkt,seval,zi,zn,qo,mTk,qC,qg,qf,qJ,plL,yB,chT,hwL,hs,w1,dlt,ite_and];(repeat' first|with_reducible assumption|apply jv|intro hp);all_goals first|(apply hQ;clear hQ Q)|(apply jx;kernel_rfl)|omega|assumption|rfl|skip)
     obtain ⟨o,ho⟩:∃ o,XJ a s=o:=⟨_,rfl⟩
     rw [ho] at hpo hoa
     have hbd:=Qbj hpo
     have hm:(729:Nat)+1<=maxLen:=by decide
     obtain ⟨N,hN⟩:∃ N,(plP c o).length=N:=⟨_,rfl⟩
     rw [hN] at hbd
     have hoc:qo o=[.v (.int .i64 a.party),.v (.int .i64 s),.v (.int .i64 (s+1)),.sl (a.sexes.map zL),.v (.bool a.dog)]:=by rw [<- ho];rfl
     refine ve (S':={ t:=asg (crL0 s),h:=qb (crH c a (mks i) i 0++[(2,qg c.cabins c.secs 3),(3,qf c.sold),(27,.cells [.ptr 2 0]),(28,.cells (qo o))]),n:=30,j:=0,d:=dks i,m:=0 }) ?_ ?_
     ·show Le _ { t:=asg [(3,.ptr 1 0),(4,.nil),(5,aI 0),(6,aI 0),(7,.ptr 2 0),(8,.ptr 4 0),(9,aI s),(11,.ptr 26 0),(56,.clo 140 [.ptr 27 0,.ptr 28 0])],h:=qb (([(1,.cells (qo a)),(4,.cells [.row 5]),(5,.row 65 1 ((QS c a i).map zM)),(26,.cells [.row 29]),(29,.row 76 2 [])]++mks i)++[(2,qg c.cabins c.secs 3),(3,qf c.sold),(27,.cells [.ptr 2 0]),(28,.cells (qo o))]),n:=30,j:=0,d:=dks i,m:=0 }
      rw [hoc,hmk,hdk]
      simp only [aQ,aF]
      (refine Le.ok (fun i=>if i=29 then none else some i) [] ?_;constructor;all_goals (try simp only [vle,vkt,seval,zn,qo,qg,qf]))
      all_goals first|rfl|(simp [];done)|(intro i hi;rw [if_neg (by omega)];done)|(simp [ADf.le,ADf.ids];done)
     rw [<- U8 c o]
     refine vw (fun F h=>h) 1 (L:=crL0 s) (L':=crL s) (xs:=[3,27,28]) (hs:=[2,3,27,28]) (n:=30) (nl:=1) (hc:=crH c a (mks i) i) (Lp:=plL c o) (jj:=fun _=>0) (d:=dks i) (ys:=plY c o) (hl:=plH c o) (ans:=fun _=>true) (ex:=.ret) (caps:=[.ptr 27 0,.ptr 28 0]) (caps0:=[.ptr 2 0,.ptr 3 0]) (N:=(plP c o).length) (R:=N) (A':=fun _ _=>True) rfl (Wz hpo) (by rw [hN];exact UI) (.inl rfl) ?_ ?_ ?_ rfl (by simp) ?_ (by simp) (fun _ _ _ _ _ _=>trivial) ?_ ?_ ?_ ?_ ?_ ?_ (fun j hj=>?_) ?_ (fun j hj=>?_) (fun _=>?_) (fun _ h=>by cases h)
     ·simp [AV.leL,AV.le]
     ·simp [AV.nocbL,AV.nocb]
     ·simp [WS,plL,qg,qf,qo,AObj.nocb,AV.nocbL,AV.nocb,AObj.ids,AV.ids,AV.idsL,AObj.ren,AV.renL,AV.ren,AObj.le,AV.leL,AV.le,qj]
     ·simp [crH,qb,hmk]
     ·simp [crH,qb,hmk]
     ·simp [crH,AObj.ids,AV.ids,AV.idsL,qo,hmk]
     ·simp [QaA,crL,crL0,chT,asg]
     ·simp [QbF]
     ·intro j hj
      simp [absent,crH,R8,hmk]
     ·simp [Yw,crL,chT,AV.ids,aI]
     ·refine ⟨?_,rfl, ?_, ?_,rfl, ?_⟩
      ·simp [kZ,crH,AObj.ids,AV.ids,AV.idsL,qo,hmk]
      ·simp [ZZ,plH,qJ,qg,qf,AObj.nocb,AV.nocbL,AV.nocb,AObj.ids,AV.ids,AV.idsL]
      ·simp [V8,plY,qc,AV.nocb,AV.ids]
      ·simp [kX,WT,R8,crH,crL,chT,vW,AV.ids,ADf.ids,aI,hmk,hdk]
     ·simp [kZ,crH,AObj.ids,AV.ids,AV.idsL,qo,hmk]
     ·have env:Env (fun _:Frm=>True) prog tyB (tab []):=qA trivial
      have hjl:j < (plP c (XJ a (a.frm+i))).length:=by rw [hs,ho];omega
      have h1x:((plP c o).getD j default).1=[((plP c o).getD j default).1.getD 0 default]:=Qmg (by rw [<- ho];exact hone) (by omega)
      have hS:=QgK hjl
      rw [hs,ho] at hS
      obtain ⟨b,hb⟩:∃ b,((plP c o).getD j default).1.getD 0 default=b:=⟨_,rfl⟩
      rw [hb] at h1x hS
      have hl:(opR c a s j).length<=729:=by
       unfold opR
       rw [ao,aR]
       omega
      have hl1:(opR c a s j).length+1<=maxLen:=by omega
      obtain ⟨r,hr⟩:∃ r,((plP c o).getD j default).2=r:=⟨_,rfl⟩
      have hst:wV (crL s) [57] [2] 30 1 (plY c o j) (crH c a (mks i) i j) (plH c o j)={ t:=asg [(57,qc [b]),(3,.ptr 1 0),(4,.nil),(5,aI 0),(6,aI 0),(7,.ptr 2 0),(8,.ptr 4 0),(9,aI s),(11,.ptr 26 0)],h:=qb ((30,.mark) :: ([(1,.cells (qo a)),(4,.cells [.row 5]),(5,.row 65 1 ((QS c a i).map zM)),(26,.cells [.row 29]),(29,.row 76 2 (opR c a s j))]++mks i++[(2,qg c.cabins c.secs 31),(31,qf r)])),n:=32,m:=32 }:=by
       simp only [wV,Nat.reduceAdd,R8,plY,h1x,hr,hs,qc,aj,au,AV.ren,cn,cz,crH,crL,chT,QE,aQ,aF]
       rfl
      show Sym _ _ _ (wV (crL s) [57] [2] 30 1 (plY c o j) (crH c a (mks i) i j) (plH c o j)) _
      rw [hst,hmk]
      simp only [aQ,aF]
      repeat' first|(apply nx;with_reducible constructor)|apply jq (by decide)|((first|apply jz env|apply jw);intro Q hQ;simp only [vkt,seval,zi,zn,qc,qK,qo,qg,qf,QmE,hl1,ab,ite_and];(repeat' first|with_reducible assumption|apply jv|intro hp);all_goals first|(apply hQ;clear hQ Q)|(apply jx;kernel_rfl)|omega|assumption|rfl|skip)
      refine ⟨rfl,rfl,(fun i=>if i=29 then some 33 else some i),_,RFin.okQ (fun i=>if i=29 then some 33 else some i) [] ?_⟩
      constructor
      all_goals (try simp only [vle,vO,vC,qj,plH,crH,hr,hs,hS,hdk,aQ,aF,vkt,seval,zn,qK,qo,qg,qf,qJ,chT,crL])
      all_goals first|rfl|(simp;done)|(simp [vW,AV.ids,ADf.ids];done)|(simp [qo,AV.leL,AV.le];done)
     ·have eh:qb ((30,AObj.mark) :: crH c a (mks i) i N++qU [2,3,27,28] (30+1) 0 (plL c o))=qb ((30,.mark) :: ([(1,.cells (qo a)),(4,.cells [.row 5]),(5,.row 65 1 ((QS c a i).map zM)),(26,.cells [.row 29]),(29,.row 76 2 (opR c a s N))]++mks i++[(2,qg c.cabins c.secs 3),(3,qf c.sold),(27,.cells [.ptr 2 0]),(28,.cells (qo o))])):=by
       rw [show qU [2,3,27,28] (30+1) 0 (plL c o)=qU [2,3,27,28] 31 0 (plL c o) from rfl,U8,<- hs];rfl
      rw [eh,hmk,hdk]
      simp only [aQ,aF]
      have hNl:(yV c a s).length=N:=by rw [Q3,ho];exact hN
      have hoN:opR c a s N=(yV c a s).map qK:=by unfold opR;rw [<- hNl,bO]
      have hkl:(QS c a i).length=i:=Kv c a i
      have hkm:i+1<=maxLen:=by omega
      have hkS:=Qa4 c a i
      rw [hoN]
      rw [hs] at hkS
      by_cases hN0:N=0
      ·have hoe:yV c a s=[]:=bu (by rw [hNl];exact hN0)
       rw [Qed (c:=c) (a:=a) (i:=i) (by omega) (by rw [hs];exact hoe)]
       rw [hoe]
       repeat' first|(apply nx;with_reducible constructor)|apply jq (by decide)|((first|apply jz env|apply jw);intro Q hQ;simp only [vkt,seval,zi,zn,qo,qg,qf,chT,crL,ite_and];(repeat' first|with_reducible assumption|apply jv|intro hp);all_goals first|(apply hQ;clear hQ Q)|(apply jx;kernel_rfl)|omega|assumption|rfl|skip)
       (simp only [vrt,results30,vkt,seval,zn,qc];refine Fin.val rfl ?_;(try simp only [AV.le,AV.leL]))
       all_goals first|rfl|simp
      ·have d2:decide ((N:Int)=0)=false:=decide_eq_false (by omega)
       repeat' first|(apply nx;with_reducible constructor)|apply jq (by decide)|((first|apply jz env|apply jw);intro Q hQ;simp only [vkt,seval,zi,zn,Qm0,qo,qg,qf,chT,crL,hNl,d2,hkl,hkm,w1,ite_and];(repeat' first|with_reducible assumption|apply jv|intro hp);all_goals first|(apply hQ;clear hQ Q)|(apply jx;kernel_rfl)|omega|assumption|rfl|skip)
       refine ⟨⟨i+1,hlt,fun j hj=>?_⟩,by show M - (i+1) < M - i;omega, ?_⟩
       ·rcases bq (bt hj) with h3|h3
        ·exact hno j h3
        ·subst h3;rw [hs];intro h4;rw [h4] at hNl;exact hN0 hNl.symm
       ·have hs1:a.frm+((i+1:Nat):Int)=s+1:=by omega
        show Le _ (chS c a (i+1))
        unfold chS
        rw [hkS,hs1]
        simp only [mks,dks,hi5,Nat.reduceAdd,aQ,aF]
        refine Le.ok (fun k=>if k=5 then some 32 else if k=20+i then some 30 else some k) [] ?_
        constructor
        all_goals (try simp only [hi5,Nat.reduceAdd,vle,vkt,seval,zn,qo,qg,qf,chT])
        all_goals first|rfl|(simp;done)|(simp [ADf.le,ADf.ids];done)
   ·have hie:i=M:=by omega
    subst hie
    have hns:(Z9 c a).any (·.isEmpty)=false:=QdS (fun i hi=>hno i (by omega))
    rw [hns]
    have hLl:(Z9 c a).length=i:=by rw [QeC];exact hM
    have hLe:QS c a i=Z9 c a:=by rw [<- hM];rfl
    have hea:=QfP h0
    obtain ⟨L,hL⟩:∃ L,Z9 c a=L:=⟨_,rfl⟩
    rw [hL] at hLl hLe hea ⊢
    have hmx:(100000:Nat)<=maxLen:=by decide
    have hi5:i=1\/i=2\/i=3\/i=4\/i=5:=by omega
    have dlt:decide (a.frm+(i:Int) < a.to)=false:=decide_eq_false (by omega)
    have w2:IntKind.wrap .i64 ((i:Int) - 2)=((i - 1:Nat):Int) - 1:=by rw [wrap64 (by omega) (by omega)];omega
    rcases hi5 with hi5|hi5|hi5|hi5|hi5
    all_goals
     have hmk:=congrArg mks hi5
     have hdk:=congrArg dks hi5
     simp only [mks,dks,Nat.reduceAdd] at hmk hdk
     unfold chS
     rw [hmk,hdk,hLe]
     simp only [aQ,aF]
     repeat' first|(apply nx;with_reducible constructor)|apply jq (by decide)|((first|apply jz env|apply jw);intro Q hQ;simp only [vkt,seval,zi,zn,qo,qg,qf,chT,dlt,hLl,w2,ite_and];(repeat' first|with_reducible assumption|apply jv|intro hp);all_goals first|(apply hQ;clear hQ Q)|(apply jx;kernel_rfl)|omega|assumption|rfl|skip)
     refine qN (fun y:{ y:Nat × List (Value × Value) // y.1 < i/\BhOk L y.2 y.1/\y.2.length<=1000 * (i - y.1) }=>c2S (mks i) (dks i) L y.1.2 y.1.1) (fun y=>y.1.1) ⟨(i - 1,[]),by omega,by rw [<- hLl];exact QmB L,ag _⟩ ?_ fun ⟨(y,es),hy,hB,hel⟩=>?_
     ·simp only [c2S,hmk,hdk,c2O,c2T,aQ,aF]
      (refine Le.ok some [] ?_;constructor;all_goals (try simp only [vle,vkt,seval,zn]))
      all_goals first|rfl|(simp [ADf.le,ADf.ids];done)
     simp only at hy hB hel ⊢
     simp only [c2S,hmk,hdk,c2O,c2T,aQ,aF]
     cases y with
     |succ A =>
      have e1:((A+1:Nat):Int) - 1=(A:Int):=by omega
      have d3:decide ((0:Int)<=(A:Int))=true:=decide_eq_true (by omega)
      have hAl:A < L.length:=by omega
      have hg:=Qgu hAl
      obtain ⟨l,hl⟩:∃ l,L.getD A []=l:=⟨_,rfl⟩
      rw [hl] at hg
      have hll:l.length<=1000:=hea l (by rw [<- hl];exact vG hAl)
      have iA:((A:Int)).toNat=A:=rfl
      rw [e1]
      repeat' first|(apply nx;with_reducible constructor)|apply jq (by decide)|((first|apply jz env|apply jw);intro Q hQ;simp only [vkt,seval,zi,zn,zM,hg,iA,hAl,ite_and];(repeat' first|with_reducible assumption|apply jv|intro hp);all_goals first|(apply hQ;clear hQ Q)|(apply jx;kernel_rfl)|omega|assumption|rfl|skip)
      refine qN (fun z:{ z:Nat × List (Value × Value) // z.1<=l.length/\BhIn L z.2 A z.1/\z.2.length<=1000 * (i - (A+1))+z.1 }=>c3S (mks i) (dks i) L z.1.2 A l z.1.1) (fun z=>l.length - z.1.1) ⟨(0,es),ag _,hB.inn,hel⟩ ?_ fun ⟨(k,es),hk,hI,hel⟩=>?_
      ·simp only [c3S,hmk,hdk,c2O,c2T,aQ,aF]
       (refine Le.ok some [] ?_;constructor;all_goals (try simp only [vle,vkt,seval,zn,qc]))
       all_goals first|rfl|(simp [ADf.le,ADf.ids];done)
      simp only at hk hI hel ⊢
      simp only [c3S,hmk,hdk,c2O,c2T,aQ,aF]
      by_cases hkl:k < l.length
      ·have d4:decide ((k:Int) < (l.length:Int))=true:=decide_eq_true (by omega)
       have e9:=k9 k (by omega)
       have wA:=k9 A (by omega)
       have iA1:(((A+1:Nat):Int)).toNat=A+1:=rfl
       obtain ⟨b,hb⟩:∃ b,l.getD k default=b:=⟨_,rfl⟩
       have eb:(⟨b.cab,b.bed⟩:Bunk)=b:=rfl
       obtain ⟨⟨q,v⟩,hv⟩:∃ p,jI (L.drop (A+1)) b=p:=⟨_,rfl⟩
       have hNx:NxOk L es (A+1):=⟨by omega,by omega,hea,hI.bh⟩
       have hM1:MOK (KD.Q (.agg [some .i64,some .i64,some .i64])) es:=hI.bh.ok
       have hml:(ym es (.agg #[.int .i64 (A:Int),.int .i64 b.cab,.int .i64 b.bed]) (.int .i64 v)).length<=maxLen:=by
        have:=JD (es:=es) (k:=.agg #[.int .i64 (A:Int),.int .i64 b.cab,.int .i64 b.bed]) (v:=.int .i64 v)
        omega
       repeat' first|(apply nx;with_reducible constructor)|apply jq (by decide)|((first|apply jz env|apply jw);intro Q hQ;simp only [vkt,seval,zi,zn,qw,qc,qK,wy,Qbt,nxL,Qb9,d4,e9,wA,iA1,hb,eb,hv,hNx,hM1,hml,ite_and];(repeat' first|with_reducible assumption|apply jv|intro hp);all_goals first|(apply hQ;clear hQ Q)|(apply jx;kernel_rfl)|omega|assumption|rfl|skip)
       have hel':(ym es (QP A b) (.int .i64 v)).length<=1000 * (i - (A+1))+(k+1):=by
        have h2:=JD (es:=es) (k:=QP A b) (v:=.int .i64 v)
        omega
       refine ⟨⟨(k+1,ym es (QP A b) (.int .i64 v)),hkl,hI.step (by rw [hl];exact hb) (by rw [hv]),hel'⟩,by show l.length - (k+1) < l.length - k;omega, ?_⟩
       simp only [QP]
       (refine Le.ok some [] ?_;constructor;all_goals (try simp only [vle,vkt,seval,zn,qc]))
       all_goals first|rfl|(simp [ADf.le,ADf.ids];done)
      ·have d4:decide ((k:Int) < (l.length:Int))=false:=decide_eq_false (by omega)
       have hke:k=l.length:=by omega
       subst hke
       have wm:IntKind.wrap .i64 ((A:Int) - 1)=(A:Int) - 1:=wrap64 (by omega) (by omega)
       repeat' first|(apply nx;with_reducible constructor)|apply jq (by decide)|((first|apply jz env|apply jw);intro Q hQ;simp only [vkt,seval,zi,zn,qc,d4,wm,ite_and];(repeat' first|with_reducible assumption|apply jv|intro hp);all_goals first|(apply hQ;clear hQ Q)|(apply jx;kernel_rfl)|omega|assumption|rfl|skip)
       refine ⟨⟨(A,es),by omega,by rw [<- hl] at hI;exact hI.out,by show es.length<=1000 * (i - A);omega⟩,Nat.lt_succ_self _, ?_⟩
       simp only []
       (refine Le.ok some [] ?_;constructor;all_goals (try simp only [vle,vkt,seval,zn]))
       all_goals first|rfl|(simp [ADf.le,ADf.ids];done)
     |zero =>
      have d3:decide ((0:Int)<=((0:Nat):Int) - 1)=false:=by decide
      repeat' first|(apply nx;with_reducible constructor)|apply jq (by decide)|((first|apply jz env|apply jw);intro Q hQ;simp only [vkt,seval,zi,zn,hLl,ite_and];(repeat' first|with_reducible assumption|apply jv|intro hp);all_goals first|(apply hQ;clear hQ Q)|(apply jx;kernel_rfl)|omega|assumption|rfl|skip)
      refine qN (fun k:{ k:Nat // k<=i }=>c4S (mks i) (dks i) L es k.1) (fun k=>i - k.1) ⟨0,ag _⟩ ?_ fun ⟨k,hk⟩=>?_
      ·simp only [c4S,hmk,hdk,c2O,chC,wkK,aQ,aF]
       (refine Le.ok (fun i=>if i=27 then none else some i) [] ?_;constructor;all_goals (try simp only [vle,vkt,seval,zn]))
       all_goals first|rfl|(simp [hLl];done)|(simp [ADf.le,ADf.ids];done)|(intro i hi;rw [if_neg (by omega)];done)
      simp only at hk ⊢
      simp only [c4S,hmk,hdk,c2O,aQ,aF,hLl]
      have hwl:=Uy L k
      by_cases hkl:k < i
      ·have d4:decide ((k:Int) < (i:Int))=true:=decide_eq_true (by omega)
       have e9:=k9 k (by omega)
       have hNx:NxOk L es k:=⟨by omega,by omega,hea,hB.mono (ag _)⟩
       have ik:((k:Int)).toNat=k:=rfl
       have hkm:k+1<=maxLen:=by omega
       have hS:=V3 L k
       obtain ⟨⟨q,v⟩,hv⟩:∃ p,jI (L.drop k) (wkB L k)=p:=⟨_,rfl⟩
       rw [hv] at hS
       have hvb:=Xu (L.drop k) (wkB L k)
       rw [hv,cZ] at hvb
       have hvb:0<=v/\v<=1000:=by simp only at hvb;omega
       by_cases hk0:k=0
       ·have d5:decide ((0:Int) < (k:Int))=false:=decide_eq_false (by omega)
        have d6:decide ((k:Int)=0)=true:=decide_eq_true (by omega)
        have wv:IntKind.wrap .i64 (v - 1)=v - 1:=wrap64 (by omega) (by omega)
        have hwb:wkB L k=⟨-1,0⟩:=if_pos hk0
        rw [hwb] at hv
        have hc1:chC L (k+1)=v - 1:=by
         unfold chC
         rw [if_neg (by omega)]
         rw [hk0,List.drop_zero] at hv
         rw [hv]
        repeat' first|(apply nx;with_reducible constructor)|apply jq (by decide)|((first|apply jz env|apply jw);intro Q hQ;simp only [vkt,seval,zi,zn,qw,UY,Qbt,nxL,Qb9,d4,d5,d6,e9,ik,hv,hNx,wv,hwl,hkm,ite_and];(repeat' first|with_reducible assumption|apply jv|intro hp);all_goals first|(apply hQ;clear hQ Q)|(apply jx;kernel_rfl)|omega|assumption|rfl|skip)
        refine ⟨⟨k+1,hkl⟩,by show i - (k+1) < i - k;omega, ?_⟩
        simp only [hS,hc1]
        (refine Le.ok (fun i=>if i=27 then some 31 else some i) [] ?_;constructor;all_goals (try simp only [vle,vkt,seval,zn]))
        all_goals first|rfl|(rw [aq];rfl)|(simp [ADf.le,ADf.ids];done)|(intro i hi;rw [if_neg (by omega)];done)
       ·have d5:decide ((0:Int) < (k:Int))=true:=decide_eq_true (by omega)
        have d6:decide ((k:Int)=0)=false:=decide_eq_false (by omega)
        have wk:IntKind.wrap .i64 ((k:Int) - 1)=((k - 1:Nat):Int):=by rw [wrap64 (by omega) (by omega)];omega
        have ik1:(((k - 1:Nat):Int)).toNat=k - 1:=rfl
        have hk1:k - 1 < k:=by omega
        have hgb:=hBunk (l:=wkK L k) (n:=k - 1) (by omega)
        obtain ⟨b,hb⟩:∃ b,wkB L k=b:=⟨_,rfl⟩
        rw [show (wkK L k).getD (k - 1) default=b by rw [<- hb];unfold wkB;rw [if_neg hk0]] at hgb
        rw [hb] at hv
        have eb:(⟨b.cab,b.bed⟩:Bunk)=b:=rfl
        have hc1:chC L (k+1)=chC L k:=by
         unfold chC
         rw [if_neg (by omega),if_neg hk0]
        repeat' first|(apply nx;with_reducible constructor)|apply jq (by decide)|((first|apply jz env|apply jw);intro Q hQ;simp only [vkt,seval,zi,zn,qw,qK,UY,Qbt,nxL,Qb9,d4,d5,d6,e9,ik,wk,ik1,hk1,hgb,eb,hv,hNx,hwl,hkm,ite_and];(repeat' first|with_reducible assumption|apply jv|intro hp);all_goals first|(apply hQ;clear hQ Q)|(apply jx;kernel_rfl)|omega|assumption|rfl|skip)
        refine ⟨⟨k+1,hkl⟩,by show i - (k+1) < i - k;omega, ?_⟩
        simp only [hS,hc1]
        (refine Le.ok (fun i=>if i=27 then some 31 else some i) [] ?_;constructor;all_goals (try simp only [vle,vkt,seval,zn]))
        all_goals first|rfl|(rw [aq];rfl)|(simp [ADf.le,ADf.ids];done)|(intro i hi;rw [if_neg (by omega)];done)
      ·have d4:decide ((k:Int) < (i:Int))=false:=decide_eq_false (by omega)
       have hke:k=L.length:=by omega
       have hww:=Qml L
       have hcc:chC L L.length=(jI L ⟨-1,0⟩).2 - 1:=if_neg (by omega)
       rw [hke,hww,hcc]
       rw [hke] at d4
       repeat' first|(apply nx;with_reducible constructor)|apply jq (by decide)|((first|apply jz env|apply jw);intro Q hQ;simp only [vkt,seval,zi,zn,d4,ite_and];(repeat' first|with_reducible assumption|apply jv|intro hp);all_goals first|(apply hQ;clear hQ Q)|(apply jx;kernel_rfl)|omega|assumption|rfl|skip)
       simp only [vrt,results30,vkt,seval,zn,qc]
       show Fin _ _ _ 0 (qb []) 0
       refine Fin.ok some [27] ?_ ?_ ?_ ?_ ?_ rfl
       all_goals (try simp only [vle,vkt,seval])
       all_goals first|rfl|(simp;done)|(simp [ADf.le,ADf.ids];done)
 ·rw [if_pos (by simpa using h0)]
  repeat' first|(apply nx;with_reducible constructor)|apply jq (by decide)|((first|apply jz env|apply jw);intro Q hQ;simp only [vkt,seval,zi,zn,qd,qa,zl,qo,mTk,qC,yg,hwL,aO,ec,ea,h0,ite_and];(repeat' first|with_reducible assumption|apply jv|intro hp);all_goals first|(apply hQ;clear hQ Q)|(apply jx;kernel_rfl)|omega|assumption|rfl|skip)
  (simp only [vrt,results30,vkt,seval,zn,qc];refine Fin.val rfl ?_;(try simp only [AV.le,AV.leL]))
  all_goals first|rfl|simp
def eqTS (l m:List Tr) (k:Nat):St:={ t:=asg [(0,yn l),(1,yn m),(4,aB false),(5,aI k)],h:=qb [],n:=0 }
def QT:=jv @ty3 (jv @QfO (jv @QfJ (jv @ti3.eq_1 (jv @RV.eq_1 @K4.eq_1))))
def WG:=jv @aI.eq_1 (@aB.eq_1)
def Qnc (l m:List Tr) (hl:l.length<=1000) (hm:m.length<=1000):FnV prog 35 [yn l,yn m] (aB (decide (l=m))):=by
 have env:=qA (A:=fun _=>True) kN
 refine kV (Fn0 func35 rfl (fun vs w=>by kernel_rfl) (by kernel_rfl)) (by simp) (by simp [AV.ids,yn]) ?_
 by_cases h0:l.length=m.length
 ·have d0:decide ((l.length:Int)=(m.length:Int))=true:=decide_eq_true (by omega)
  repeat' first|(apply nx;with_reducible constructor)|apply jq (by decide)|((first|apply jz env|apply jw);intro Q hQ;simp only [vkt,seval,QT,yn,d0,ite_and];(repeat' first|with_reducible assumption|apply jv|intro hp);all_goals first|(apply hQ;clear hQ Q)|(apply jx;kernel_rfl)|omega|assumption|rfl|skip)
  refine qN (fun k:{ k:Nat // k<=l.length/\∀ j,j < k->l.getD j default=m.getD j default }=>eqTS l m k.1) (fun k=>l.length - k.1) ⟨0,ag _,fun j h=>absurd h (bp _)⟩ ?_ fun ⟨k,hk,hno⟩=>?_
  ·(refine Le.ok some [] ?_;constructor;all_goals (try simp only [vle,vkt,seval,WG,yn]))
   all_goals first|rfl|simp
  ·repeat' first|(apply nx;with_reducible constructor)|apply jq (by decide)
   (apply jz env;intro Q hQ;simp only [vkt,seval,QT,WG,yn,eqTS,ite_and];(repeat' first|with_reducible assumption|apply jv|intro hp);all_goals first|(apply hQ;clear hQ Q)|(apply jx;kernel_rfl)|omega|assumption|rfl|skip)
   repeat' first|(apply nx;with_reducible constructor)|apply jq (by decide)
   (refine jE (by simp only [vkt,seval];rfl) (fun h=>?_) (fun h=>?_) <;> (try simp only [vki] at h))
   ·have hlt:k < l.length:=by omega
    have hlm:k < m.length:=by omega
    have e9:=k9 k (by omega)
    obtain ⟨x,hx⟩:∃ x,l.getD k default=x:=⟨_,rfl⟩
    obtain ⟨y,hy⟩:∃ x,m.getD k default=x:=⟨_,rfl⟩
    have hxy:(x=y)=(x.ticket=y.ticket/\x.cab=y.cab/\x.bed=y.bed):=by cases x;cases y;simp
    have hne:¬ x=y->decide (l=m)=false:=fun h=>decide_eq_false fun e=>h (by rw [<- hx,<- hy,e])
    by_cases hxe:x=y
    ·rw [hxe] at hx
     repeat' first|(apply nx;with_reducible constructor)|apply jq (by decide)|((first|apply jz env|apply jw);intro Q hQ;simp only [vkt,seval,QT,eTr,gTr,hx,hy,hlm,e9,decide_true,ite_and];(repeat' first|with_reducible assumption|apply jv|intro hp);all_goals first|(apply hQ;clear hQ Q)|(apply jx;kernel_rfl)|omega|assumption|rfl|skip)
     refine ⟨⟨k+1,hlt,fun j hj=>?_⟩,by show l.length - (k+1) < l.length - k;omega, ?_⟩
     ·rcases bq (bt hj) with h1|h1
      ·exact hno j h1
      ·rw [h1,hx,hy]
     ·(refine Le.ok some [] ?_;constructor;all_goals (try simp only [vle,vkt,seval,WG,yn]))
      all_goals first|rfl|simp
    ·rw [hne hxe]
     have q:(decide (x.ticket=y.ticket) && (decide (x.cab=y.cab) && decide (x.bed=y.bed)))=false:=by
      rw [hxy] at hxe
      simpa using hxe
     repeat' first|(apply nx;with_reducible constructor)|apply jq (by decide)|((first|apply jz env|apply jw);intro Q hQ;simp only [vkt,seval,QT,eTr,gTr,hx,hy,q,hlm,ite_and];(repeat' first|with_reducible assumption|apply jv|intro hp);all_goals first|(apply hQ;clear hQ Q)|(apply jx;kernel_rfl)|omega|assumption|rfl|skip)
     (simp only [vrt,results35,vkt,seval,WG];refine Fin.val rfl ?_;(try simp only [AV.le]))
     all_goals first|rfl|simp
   ·have hke:k=l.length:=by omega
    subst hke
    rw [decide_eq_true (Jv h0 hno)]
    repeat' first|(apply nx;with_reducible constructor)|apply jq (by decide)|((first|apply jz env|apply jw);intro Q hQ;simp only [vkt,seval,ite_and];(repeat' first|with_reducible assumption|apply jv|intro hp);all_goals first|(apply hQ;clear hQ Q)|(apply jx;kernel_rfl)|omega|assumption|rfl|skip)
    (simp only [vrt,results35,vkt,seval,WG];refine Fin.val rfl ?_;(try simp only [AV.le]))
    all_goals first|rfl|simp
 ·have d0:decide ((l.length:Int)=(m.length:Int))=false:=decide_eq_false (by omega)
  rw [decide_eq_false (fun e=>h0 (by rw [e]))]
  repeat' first|(apply nx;with_reducible constructor)|apply jq (by decide)|((first|apply jz env|apply jw);intro Q hQ;simp only [vkt,seval,QT,yn,d0,ite_and];(repeat' first|with_reducible assumption|apply jv|intro hp);all_goals first|(apply hQ;clear hQ Q)|(apply jx;kernel_rfl)|omega|assumption|rfl|skip)
  (simp only [vrt,results35,vkt,seval,WG];refine Fin.val rfl ?_;(try simp only [AV.le]))
  all_goals first|rfl|simp
def seqT:List AV->Prop × AV
 |[.sl l,.sl m]=>(l=(l.map dTr).map eTr/\m=(m.map dTr).map eTr/\(l.map dTr).length<=1000/\(m.map dTr).length<=1000,aB (decide ((l.map dTr)=(m.map dTr))))
 |_=>(False,.junk)
def eeqT {A:Frm->Prop}:qm A prog 35 (zw true seqT):=qL fun vs hv h=>by
 clear hv
 unfold seqT at h ⊢
 split at h
 ·rename_i l m;obtain ⟨q0,q1,k0,k1⟩:=h
  refine ⟨by first|trivial|(repeat' split) <;> simp [AV.plain,AV.plainL,aI,aB,qz,qc,qy,qw,aTk,cTk],fun _=>(by simp [AV.flat,aB]), ?_⟩
  have:=Qnc (l.map dTr) (m.map dTr) k0 k1
  simp only [yn,<- q0,<- q1] at this
  first|exact this|(simp only [yn,<- q0,<- q1];exact this)
 ·exact h.elim
def YK:List AV->Prop × AV
 |[.sl m]=>(m=(m.map dTk).map eTk/\(m.map dTk).length<=100,qd (j5 (m.map dTk)))
 |_=>(False,.junk)
def QhM {A:Frm->Prop}:qm A prog 26 (zw false YK):=qL fun vs hv h=>by
 clear hv
 unfold YK at h ⊢
 split at h
 ·rename_i m;obtain ⟨q0,k0⟩:=h
  refine ⟨by first|trivial|(repeat' split) <;> simp [AV.plain,AV.plainL,aI,aB,qz,qc,qy,qw,aTk,cTk],fun h=>absurd h (by decide), ?_⟩
  have:=Qid (m.map dTk) k0
  simp only [qy,<- q0] at this
  first|exact this|(simp only [qy,<- q0];exact this)
 ·exact h.elim
def KW:List AV->Prop × AV
 |[.v (.int .i64 f),.v (.int .i64 t),.v (.bool d),.sl l]=>(l=(l.map zI).map zL,zl ⟨9,f,t,(l.map zI),d⟩)
 |_=>(False,.junk)
def elask {A:Frm->Prop}:qm A prog 28 (zw false KW):=qL fun vs hv h=>by
 clear hv
 unfold KW at h ⊢
 split at h
 ·rename_i f t d l;have q0:l=(l.map zI).map zL:=h;clear h
  refine ⟨by first|trivial|(repeat' split) <;> simp [AV.plain,AV.plainL,aI,aB,qz,qc,qy,qw,aTk,cTk],fun h=>absurd h (by decide), ?_⟩
  have:=Qkr f t d (l.map zI)
  simp only [aB,aI,qz,<- q0] at this
  first|exact this|(simp only [aB,aI,qz,<- q0];exact this)
 ·exact h.elim
def QjU (a b:Int):zO [.v (.int .i64 a),.v (.int .i64 b)]=⟨a,b⟩:=rfl
def dTr_v (a b c:Int):dTr [.v (.int .i64 a),.v (.int .i64 b),.v (.int .i64 c)]=⟨a,b,c⟩:=rfl
def UD (a:Int):zI [.v (.int .i64 a)]=a:=rfl
def dTk_v (a b c d e f:Int) (g:Bool):dTk [.v (.int .i64 a),.v (.int .i64 b),.v (.int .i64 c),.v (.int .i64 d),.v (.int .i64 e),.v (.int .i64 f),.v (.bool g)]=⟨a,b,c,d,e,f,g⟩:=rfl
def Wy:List Tk:=[⟨3,1,2,0,0,4,false⟩,⟨4,2,1,1,2,4,false⟩]
def JP:=jv @vJ (jv @jm (jv @jC (jv @yI.eq_1 (jv @wY.eq_1 @je.eq_1))))
def Qfl:FnV prog 31 [] (qd (j5 Wy)):=by
 have env:=qA (A:=fun _=>True) (kC QlQ (kC QhM kN))
 refine kV (Fn0 func31 rfl (fun vs w=>by kernel_rfl) (by kernel_rfl)) (by simp) (by simp) ?_
 have hlen:([⟨3,1,2,0,0,4,false⟩,⟨4,2,1,1,2,4,false⟩]:List Tk).length<=100:=by decide
 have hfl:([⟨3,1,2,0,0,4,false⟩,⟨4,2,1,1,2,4,false⟩]:List Tk)=Wy:=rfl
 repeat' first|(apply nx;with_reducible constructor)|apply jq (by decide)|((first|apply jz env|apply jw);intro Q hQ;simp only [vkt,seval,JP,aTk,cTk,qd,qa,Qc7,YK,dTk_v,hfl,ite_and];(repeat' first|with_reducible assumption|apply jv|intro hp);all_goals first|(apply hQ;clear hQ Q)|(apply jx;kernel_rfl)|omega|assumption|rfl|skip)
 (simp only [vrt,results31,vkt,seval,JP,qd,qa];refine Fin.val rfl ?_;(try simp only [AV.le,AV.leL]))
 all_goals first|rfl|simp
def Va:List AV->Prop × AV
 |[]=>(True,qd (j5 Wy))
 |_=>(False,.junk)
def QkO {A:Frm->Prop}:qm A prog 31 (zw false Va):=qL fun vs hv h=>by
 clear hv
 unfold Va at h ⊢
 split at h
 ·clear h
  refine ⟨by first|trivial|(repeat' split) <;> simp [AV.plain,AV.plainL,aI,aB,qz,qc,qy,qw,aTk,cTk],fun h=>absurd h (by decide), ?_⟩
  have:=Qfl
  first|exact this|(simp only [];exact this)
 ·exact h.elim
def Qa9:List AV->Prop × AV
 |[.agg [.sl c0,.v (.int .i64 c1),.sl c2]]=>(c0=(c0.map qh).map qx/\c2=(c2.map dTk).map eTk/\((⟨(c0.map qh),c1,(c2.map dTk)⟩:Chart)).cabins.length<=maxLen,.tup [aI (Qc2 ((⟨(c0.map qh),c1,(c2.map dTk)⟩:Chart))),aI (zt ((⟨(c0.map qh),c1,(c2.map dTk)⟩:Chart)))])
 |_=>(False,.junk)
def Qni {A:Frm->Prop}:qm A prog 25 (zw true Qa9):=qL fun vs hv h=>by
 clear hv
 unfold Qa9 at h ⊢
 split at h
 ·rename_i c0 c1 c2;obtain ⟨q0,q1,k0⟩:=h
  refine ⟨by first|trivial|(repeat' split) <;> simp [AV.plain,AV.plainL,aI,aB,qz,qc,qy,qw,aTk,cTk],fun _=>(by simp [AV.flat,AV.flatL,aI]), ?_⟩
  have:=Qku ((⟨(c0.map qh),c1,(c2.map dTk)⟩:Chart)) k0
  simp only [qd,aI,qa,<- q0,<- q1] at this
  first|exact this|(simp only [zF,qd,aI,qy,qa,<- q0,<- q1];exact this)
 ·exact h.elim
def QbW:List AV->Prop × AV
 |[.agg [.sl c0,.v (.int .i64 c1),.sl c2],.agg [.v (.int .i64 a0),.v (.int .i64 a1),.v (.int .i64 a2),.sl a3,.v (.bool a4)]]=>(c0=(c0.map qh).map qx/\c2=(c2.map dTk).map eTk/\a3=(a3.map zI).map zL/\((⟨(c0.map qh),c1,(c2.map dTk)⟩:Chart)).cabins.length<=maxLen/\((⟨a0,a1,a2,(a3.map zI),a4⟩:Ask)).sexes.length<=maxLen,.tup [qc (ZO ((⟨(c0.map qh),c1,(c2.map dTk)⟩:Chart)) ((⟨a0,a1,a2,(a3.map zI),a4⟩:Ask))).1,aI (ZO ((⟨(c0.map qh),c1,(c2.map dTk)⟩:Chart)) ((⟨a0,a1,a2,(a3.map zI),a4⟩:Ask))).2])
 |_=>(False,.junk)
def Qmj {A:Frm->Prop}:qm A prog 29 (zw false QbW):=qL fun vs hv h=>by
 clear hv
 unfold QbW at h ⊢
 split at h
 ·rename_i c0 c1 c2 a0 a1 a2 a3 a4;obtain ⟨q0,q1,q2,k0,k1⟩:=h
  refine ⟨by first|trivial|(repeat' split) <;> simp [AV.plain,AV.plainL,aI,aB,qz,qc,qy,qw,aTk,cTk],fun h=>absurd h (by decide), ?_⟩
  have:=Qj5 ((⟨(c0.map qh),c1,(c2.map dTk)⟩:Chart)) ((⟨a0,a1,a2,(a3.map zI),a4⟩:Ask)) k0 k1
  simp only [zl,qd,aI,qo,qa,<- q0,<- q1,<- q2] at this
  first|exact this|(simp only [zl,aB,zF,qd,aI,qz,qy,qo,qa,<- q0,<- q1,<- q2];exact this)
 ·exact h.elim
def Xg:List AV->Prop × AV
 |[.agg [.sl c0,.v (.int .i64 c1),.sl c2],.agg [.v (.int .i64 a0),.v (.int .i64 a1),.v (.int .i64 a2),.sl a3,.v (.bool a4)]]=>(c0=(c0.map qh).map qx/\c2=(c2.map dTk).map eTk/\a3=(a3.map zI).map zL/\((⟨(c0.map qh),c1,(c2.map dTk)⟩:Chart)).cabins.length<=maxLen/\((⟨a0,a1,a2,(a3.map zI),a4⟩:Ask)).sexes.length<=maxLen,.tup [qc (Qf ((⟨(c0.map qh),c1,(c2.map dTk)⟩:Chart)) ((⟨a0,a1,a2,(a3.map zI),a4⟩:Ask))).1,aI (Qf ((⟨(c0.map qh),c1,(c2.map dTk)⟩:Chart)) ((⟨a0,a1,a2,(a3.map zI),a4⟩:Ask))).2.1,aI (Qf ((⟨(c0.map qh),c1,(c2.map dTk)⟩:Chart)) ((⟨a0,a1,a2,(a3.map zI),a4⟩:Ask))).2.2])
 |_=>(False,.junk)
def QgQ {A:Frm->Prop}:qm A prog 30 (zw false Xg):=qL fun vs hv h=>by
 clear hv
 unfold Xg at h ⊢
 split at h
 ·rename_i c0 c1 c2 a0 a1 a2 a3 a4;obtain ⟨q0,q1,q2,k0,k1⟩:=h
  refine ⟨by first|trivial|(repeat' split) <;> simp [AV.plain,AV.plainL,aI,aB,qz,qc,qy,qw,aTk,cTk],fun h=>absurd h (by decide), ?_⟩
  have:=QfE ((⟨(c0.map qh),c1,(c2.map dTk)⟩:Chart)) ((⟨a0,a1,a2,(a3.map zI),a4⟩:Ask)) k0 k1
  simp only [zl,qd,aI,qo,qa,<- q0,<- q1,<- q2] at this
  first|exact this|(simp only [zl,aB,zF,qd,aI,qz,qy,qo,qa,<- q0,<- q1,<- q2];exact this)
 ·exact h.elim
def Rz:List AV->Prop × AV
 |[.agg [.sl c0,.v (.int .i64 c1),.sl c2],.agg [.v (.int .i64 a0),.v (.int .i64 a1),.v (.int .i64 a2),.sl a3,.v (.bool a4)]]=>(c0=(c0.map qh).map qx/\c2=(c2.map dTk).map eTk/\a3=(a3.map zI).map zL/\((⟨(c0.map qh),c1,(c2.map dTk)⟩:Chart)).cabins.length<=maxLen/\((⟨a0,a1,a2,(a3.map zI),a4⟩:Ask)).sexes.length<=maxLen,.tup [yn (kE ((⟨(c0.map qh),c1,(c2.map dTk)⟩:Chart)) ((⟨a0,a1,a2,(a3.map zI),a4⟩:Ask))).1,aI (kE ((⟨(c0.map qh),c1,(c2.map dTk)⟩:Chart)) ((⟨a0,a1,a2,(a3.map zI),a4⟩:Ask))).2])
 |_=>(False,.junk)
def QkU {A:Frm->Prop}:qm A prog 32 (zw false Rz):=qL fun vs hv h=>by
 clear hv
 unfold Rz at h ⊢
 split at h
 ·rename_i c0 c1 c2 a0 a1 a2 a3 a4;obtain ⟨q0,q1,q2,k0,k1⟩:=h
  refine ⟨by first|trivial|(repeat' split) <;> simp [AV.plain,AV.plainL,aI,aB,qz,qc,qy,qw,aTk,cTk],fun h=>absurd h (by decide), ?_⟩
  have:=QiK ((⟨(c0.map qh),c1,(c2.map dTk)⟩:Chart)) ((⟨a0,a1,a2,(a3.map zI),a4⟩:Ask)) k0 k1
  simp only [zl,qd,aI,qo,qa,<- q0,<- q1,<- q2] at this
  first|exact this|(simp only [zl,aB,zF,qd,aI,qz,qy,qo,qa,<- q0,<- q1,<- q2];exact this)
 ·exact h.elim
def Vq (_:St):List AV->Option Pk
 |[.agg [.sl cs,.v (.int .i64 s),.sl ts],.agg [.v (.int .i64 p),.v (.int .i64 f),.v (.int .i64 t),.sl xs,.v (.bool d)]]=>some { pre:=cs=(cs.map qh).map qx/\ts=(ts.map dTk).map eTk/\xs=(xs.map zI).map zL/\cs.length<=maxLen/\xs.length<=maxLen,ar:=[.agg [.sl cs,.v (.int .i64 s),.sl ts],.agg [.v (.int .i64 p),.v (.int .i64 f),.v (.int .i64 t),.sl xs,.v (.bool d)]],v:=.tup [.row 0,aI (wz ⟨cs.map qh,s,ts.map dTk⟩ ⟨p,f,t,xs.map zI,d⟩)],L1:=[some (.row 65 1 ((Vi ⟨cs.map qh,s,ts.map dTk⟩ ⟨p,f,t,xs.map zI,d⟩).map zM))] }
 |_=>none
def QiL {A:Frm->Prop}:qm A prog 27 (fnE Vq):=zJ fun S bs q h hp=>by
 unfold Vq at h
 split at h
 ·rename_i cs s ts p f t xs d
  cases h
  obtain ⟨h1,h2,h3,h4,h5⟩:=hp
  have:=Qfs ⟨cs.map qh,s,ts.map dTk⟩ ⟨p,f,t,xs.map zI,d⟩ (by simpa using h4) (by simpa using h5)
  simp only [qd,qa,zl,qo,<- h1,<- h2,<- h3] at this
  exact this
 ·cases h
def QkH:Qc2 (j5 [])=7/\zt (j5 [])=0:=by decide +kernel
def QfK:wz (j5 []) ⟨9,0,4,[1],false⟩=0/\Vi (j5 []) ⟨9,0,4,[1],false⟩=[[⟨0,1⟩],[⟨2,0⟩]]:=by decide +kernel
def Qkq:ZO (j5 []) ⟨9,2,4,[2,1],false⟩=([⟨0,0⟩,⟨0,1⟩],0):=by decide +kernel
def Qe5:Qf (j5 Wy) ⟨9,0,4,[2],false⟩=([⟨1,1⟩,⟨1,1⟩,⟨0,0⟩,⟨0,0⟩],1,0):=by decide +kernel
def Qiq:kE (j5 Wy) ⟨9,0,4,[1],true⟩=([⟨2,0,1⟩],0):=by decide +kernel
def yK:=jv @ty3 (jv @Jj (jv @Qa (jv @ty59 (jv @Vy (jv @QfO (jv @vS (jv @QfJ (jv @ti3.eq_1 (jv @ZE.eq_1 (jv @xQ.eq_1 (jv @QaZ.eq_1 (jv @JY.eq_1 (jv @RV.eq_1 (jv @yG.eq_1 @K4.eq_1))))))))))))))
def Qn:=jv @aI.eq_1 (jv @aB.eq_1 (jv @qz.eq_1 (jv @zL.eq_1 (@Ju))))
set_option maxRecDepth 100000 in
def Qa1:FnV prog 8 [] (aB true):=by
 have env:=qA (A:=fun _=>True) (kC QhM (kC QkO (kC elask (kC Qni (kC QiL (kC Qmj (kC QgQ (kC QkU (kC Qld (kC eeqB (kC eeqT kN)))))))))))
 refine kV (Fn0 func8 rfl (fun vs w=>by kernel_rfl) (by kernel_rfl)) (by simp) (by simp) ?_
 have h1:=QkH
 have h2:=QfK
 have h3:=Qkq
 have h4:=Qe5
 have h5:=Qiq
 obtain ⟨C,hC⟩:∃ C,j5 []=C:=⟨_,rfl⟩
 obtain ⟨D,hD⟩:∃ D,j5 Wy=D:=⟨_,rfl⟩
 have eC:(⟨C.cabins,C.secs,C.sold⟩:Chart)=C:=rfl
 have eD:(⟨D.cabins,D.secs,D.sold⟩:Chart)=D:=rfl
 have m1:(1:Nat)<=maxLen:=by decide
 have m2:(2:Nat)<=maxLen:=by decide
 have c1:C.cabins.length<=maxLen:=by rw [<- hC];decide
 have c2:D.cabins.length<=maxLen:=by rw [<- hD];decide
 rw [hC] at h1 h2 h3
 rw [hD] at h4 h5
 obtain ⟨h1a,h1b⟩:=h1
 obtain ⟨h2a,h2b⟩:=h2
 repeat' first|(apply nx;with_reducible constructor)|apply jq (by decide)
 ((first|apply jz env|apply jw);intro Q hQ;simp only [vkt,seval,ite_and];(repeat' first|with_reducible assumption|apply jv|intro hp);all_goals first|(apply hQ;clear hQ Q)|(apply jx;kernel_rfl)|omega|assumption|rfl|skip)
 repeat' first|(apply nx;with_reducible constructor)|apply jq (by decide)
 ((first|apply jz env|apply jw);intro Q hQ;simp only [vkt,seval,Qn,qd,qa,qC,mTk,Qa9,YK,hC,eC,c1,h1a,h1b,ite_and];(repeat' first|with_reducible assumption|apply jv|intro hp);all_goals first|(apply hQ;clear hQ Q)|(apply jx;kernel_rfl)|omega|assumption|rfl|skip)
 repeat' first|(apply nx;with_reducible constructor)|apply jq (by decide)
 ((first|apply jz env|apply jw);intro Q hQ;simp only [vkt,seval,yK,Qn,qK,zM,qd,qa,zl,qo,qC,mTk,UD,Vq,YK,KW,hC,eC,c1,h2a,h2b,ite_and];(repeat' first|with_reducible assumption|apply jv|intro hp);all_goals first|(apply hQ;clear hQ Q)|(apply jx;kernel_rfl)|omega|assumption|rfl|skip)
 repeat' first|(apply nx;with_reducible constructor)|apply jq (by decide)
 ((first|apply jz env|apply jw);intro Q hQ;simp only [vkt,seval,yK,Qn,qc,qK,qd,qa,zl,qo,qC,mTk,UD,QbW,YK,KW,hC,eC,c1,h3,ite_and];(repeat' first|with_reducible assumption|apply jv|intro hp);all_goals first|(apply hQ;clear hQ Q)|(apply jx;kernel_rfl)|omega|assumption|rfl|skip)
 repeat' first|(apply nx;with_reducible constructor)|apply jq (by decide)
 ((first|apply jz env|apply jw);intro Q hQ;simp only [vkt,seval,yK,Qn,qc,qK,qd,qa,zl,qo,qC,mTk,UD,Xg,Va,KW,hD,eD,c2,h4,ite_and];(repeat' first|with_reducible assumption|apply jv|intro hp);all_goals first|(apply hQ;clear hQ Q)|(apply jx;kernel_rfl)|omega|assumption|rfl|skip)
 repeat' first|(apply nx;with_reducible constructor)|apply jq (by decide)
 ((first|apply jz env|apply jw);intro Q hQ;simp only [vkt,seval,yK,Qn,yn,eTr,qd,qa,zl,qo,qC,mTk,UD,Rz,Va,KW,hD,eD,c2,h5,ite_and];(repeat' first|with_reducible assumption|apply jv|intro hp);all_goals first|(apply hQ;clear hQ Q)|(apply jx;kernel_rfl)|omega|assumption|rfl|skip)
 repeat' first|(apply nx;with_reducible constructor)|apply jq (by decide)
 obtain ⟨p0,hp0⟩:∃ p:List Bunk,p=[⟨0,1⟩]:=⟨_,rfl⟩
 obtain ⟨p1,hp1⟩:∃ p:List Bunk,p=[⟨2,0⟩]:=⟨_,rfl⟩
 obtain ⟨p5,hp5⟩:∃ p:List Bunk,p=[⟨0,0⟩,⟨0,1⟩]:=⟨_,rfl⟩
 obtain ⟨p7,hp7⟩:∃ p:List Bunk,p=[⟨1,1⟩,⟨1,1⟩,⟨0,0⟩,⟨0,0⟩]:=⟨_,rfl⟩
 obtain ⟨p10,hp10⟩:∃ p:List Tr,p=[⟨2,0,1⟩]:=⟨_,rfl⟩
 refine ve (S':={ t:=asg [(0,aB false),(1,aI 7),(2,aI 0),(3,.row 1),(4,aI 0),(5,qc p5),(6,aI 0),(7,qc p7),(8,aI 1),(9,aI 0),(10,yn p10),(11,aI 0)],h:=qb [(1,.row 65 1 [zM p0,zM p1])],n:=2,j:=0,d:=[],m:=0 }) ?_ ?_
 ·rw [hp0,hp1,hp5,hp7,hp10]
  (refine Le.ok some [] ?_;constructor;all_goals (try simp only [vle,vkt,seval,Qn,qc,yn,qK,zM,eTr]))
  all_goals first|rfl|simp
 have q0:decide (p0=[⟨0,1⟩])=true:=decide_eq_true hp0
 have q1:decide (p1=[⟨2,0⟩])=true:=decide_eq_true hp1
 have q5:decide (p5=[⟨0,0⟩,⟨0,1⟩])=true:=decide_eq_true hp5
 have q7:decide (p7=[⟨1,1⟩,⟨1,1⟩,⟨0,0⟩,⟨0,0⟩])=true:=decide_eq_true hp7
 have q10:decide (p10=[⟨2,0,1⟩])=true:=decide_eq_true hp10
 have l0:p0.length<=1000:=by rw [hp0];decide
 have l1:p1.length<=1000:=by rw [hp1];decide
 have l5:p5.length<=1000:=by rw [hp5];decide
 have l7:p7.length<=1000:=by rw [hp7];decide
 have l10:p10.length<=1000:=by rw [hp10];decide
 clear hp0 hp1 hp5 hp7 hp10 h1a h1b h2a h2b h3 h4 h5
 refine jz env fun Q hQ=>?_
 simp only [vkt,seval,yK,Qn,qw,qc,yn,qK,zM,eTr,Zz,mTr,QjU,dTr_v,Qdq,seqB,seqT,ab,ae,q0,q1,q5,q7,q10,l0,l1,l5,l7,l10,List.append_eq]
 refine dT ?_ ?_
 ·refine jx ?_
  kernel_rfl
 refine hQ _ ?_
 clear hQ Q
 repeat' first|(apply nx;with_reducible constructor)|apply jq (by decide)
 (simp only [vrt,results8,vkt,seval,Qn];refine Fin.val rfl ?_;(try simp only [AV.le]))
 all_goals first|rfl|simp
noncomputable def Xm (S:St):List AV->Option Pk
 |[.ptr i 0,.v (.int .i64 a),.v (.int .i64 g),.v (.int .i64 s)]=>match S.h i with
  |some (.cells [.v (.int .u64 x)])=>some { pre:=(1<=a/\a<=3)/\(1<=g/\g<=5)/\(0<=s/\s<=8),hs:=[i],ar:=[.ptr 0 0,.v (.int .i64 a),.v (.int .i64 g),.v (.int .i64 s)],L0:=[.cells [.v (.int .u64 x)]],v:=qd (coC x a g s),L1:=[some (.cells [.v (.int .u64 (coX x a g s))])] }
  |_=>none
 |_=>none
def Qip {A:Frm->Prop}:qm A prog 9 (fnE Xm):=zJ fun S bs q h hp=>by
 unfold Xm at h
 split at h
 ·split at h
  ·cases h;exact QbL _ _ _ _ hp.1 hp.2.1 hp.2.2
  ·cases h
 ·cases h
def QU:List AV->Prop × AV
 |[]=>(True,aB true)
 |_=>(False,.junk)
def QiZ {A:Frm->Prop}:qm A prog 8 (zw true QU):=qL fun vs hv h=>by
 clear hv
 unfold QU at h ⊢
 split at h
 ·clear h
  refine ⟨by first|trivial|(repeat' split) <;> simp [AV.plain,AV.plainL,aI,aB,qz,qc,qy,qw,aTk,cTk],fun _=>(by simp [AV.flat,aB]), ?_⟩
  have:=Qa1
  first|exact this|(simp only [];exact this)
 ·exact h.elim
structure RmInv (C:Chart) (a:Ask) (i:Nat) (c:Chart):Prop where
 chk:zt c=0
 cabs:c.cabins=C.cabins
 secs:c.secs=C.secs
 len:c.sold.length=C.sold.length+i
 lt:∀ t ∈ c.sold,t.party < 60+(i:Int)
def JB:=jv @ty3 (jv @ZF (jv @jm (jv @vS (jv @ZC (jv @ti3.eq_1 (jv @Qv.eq_1 (jv @wY.eq_1 (jv @yG.eq_1 @Qz.eq_1))))))))
def Vk:=jv @aI.eq_1 (@aB.eq_1)
def QfH (c:Chart) (b:Bunk) (hc:CarOk c):FnV prog 192 [qd c,qw b] (aB (yx c.cabins b.cab b.bed)):=by
 have env:=qA (A:=fun _=>True) (kC QiX kN)
 refine kV (Fn0 func192 rfl (fun vs w=>by kernel_rfl) (by kernel_rfl)) (by simp) (by simp [AV.ids,AV.idsL,qd,qa,qw]) ?_
 have hcl:=hc.cabs
 have w1:IntKind.wrap .i64 ((c.cabins.length:Int) - 1)=(c.cabins.length:Int) - 1:=wrap64 (by omega) (by omega)
 have hE:yx c.cabins b.cab b.bed=(inB b.cab 0 ((c.cabins.length:Int) - 1) && inB b.bed 0 ((c.cabins.getD b.cab.toNat default).beds - 1)):=rfl
 cases h3:inB b.cab 0 ((c.cabins.length:Int) - 1) with
 |false =>
  rw [hE,h3]
  repeat' first|(apply nx;with_reducible constructor)|apply jq (by decide)|((first|apply jz env|apply jw);intro Q hQ;simp only [vkt,seval,JB,Vk,qw,qd,qa,QL,h3,w1,ite_and];(repeat' first|with_reducible assumption|apply jv|intro hp);all_goals first|(apply hQ;clear hQ Q)|(apply jx;kernel_rfl)|omega|assumption|rfl|skip)
  (simp only [vrt,results192,vkt,seval,Vk];refine Fin.val rfl ?_;(try simp only [AV.le]))
  all_goals first|rfl|simp
 |true =>
  have b3:=jc.1 h3
  have g1:0<=b.cab:=b3.1
  have g2:b.cab.toNat < c.cabins.length:=by omega
  obtain ⟨x,hx⟩:∃ x,c.cabins.getD b.cab.toNat default=x:=⟨_,rfl⟩
  have hxb:=hc.beds _ (vG (d:=default) g2)
  rw [hx] at hxb
  have w2:IntKind.wrap .i64 (x.beds - 1)=x.beds - 1:=wrap64 (by omega) (by omega)
  rw [hE,h3,hx,bm]
  repeat' first|(apply nx;with_reducible constructor)|apply jq (by decide)|((first|apply jz env|apply jw);intro Q hQ;simp only [vkt,seval,JB,Vk,qw,qd,qa,qx,zX,QL,h3,w1,w2,hx,g1,g2,ite_and];(repeat' first|with_reducible assumption|apply jv|intro hp);all_goals first|(apply hQ;clear hQ Q)|(apply jx;kernel_rfl)|omega|assumption|rfl|skip)
  (simp only [vrt,results192,vkt,seval,Vk];refine Fin.val rfl ?_;(try simp only [AV.le]))
  all_goals first|rfl|simp
def JK:List AV->Prop × AV
 |[.agg [.sl c0,.v (.int .i64 c1),.sl c2],.agg [.v (.int .i64 b0),.v (.int .i64 b1)]]=>(c0=(c0.map qh).map qx/\c2=(c2.map dTk).map eTk/\CarOk ((⟨(c0.map qh),c1,(c2.map dTk)⟩:Chart)),aB (yx ((⟨(c0.map qh),c1,(c2.map dTk)⟩:Chart)).cabins ((⟨b0,b1⟩:Bunk)).cab ((⟨b0,b1⟩:Bunk)).bed))
 |_=>(False,.junk)
def Qkd {A:Frm->Prop}:qm A prog 192 (zw true JK):=qL fun vs hv h=>by
 clear hv
 unfold JK at h ⊢
 split at h
 ·rename_i c0 c1 c2 b0 b1;obtain ⟨q0,q1,k0⟩:=h
  refine ⟨by first|trivial|(repeat' split) <;> simp [AV.plain,AV.plainL,aI,aB,qz,qc,qy,qw,aTk,cTk],fun _=>(by simp [AV.flat,aB]), ?_⟩
  have:=QfH ((⟨(c0.map qh),c1,(c2.map dTk)⟩:Chart)) ((⟨b0,b1⟩:Bunk)) k0
  simp only [qw,qd,qa,<- q0,<- q1] at this
  first|exact this|(simp only [qw,zF,qd,aI,qy,qa,<- q0,<- q1];exact this)
 ·exact h.elim
def Qk4 {Z:Type} [Inhabited Z] {l:List Z} {p:Z->Bool} (h:∀ j,j < l.length->p (l.getD j default)=false):l.any p=false:=dz.2 fun x hx=>by
 obtain ⟨j,hj,rfl⟩:=cu.1 hx
 have:=h j hj
 rw [show l.getD j default=l[j] by simp [ai,hj]] at this
 rw [this];simp
def Qio {Z:Type} [Inhabited Z] {l:List Z} {p:Z->Bool} {k:Nat} (hk:k < l.length) (h:p (l.getD k default)=true):l.any p=true:=bY.2 ⟨_,vG hk,h⟩
def rsA (c:Chart) (t:Tk) (l:List Tk) (T:List (Nat × AV)):St:={ t:=asg (T++[(2,qy l),(4,.ptr 1 0),(6,aI 0)]),h:=qb [(0,.cells (qa c)),(1,.cells (cTk t))],n:=2 }
def wo:=jv @ty3 (jv @vJ (jv @jm (jv @Qa (jv @vS (jv @jC (jv @ti3.eq_1 (jv @yI.eq_1 (jv @wY.eq_1 (jv @xQ.eq_1 (jv @yG.eq_1 @je.eq_1))))))))))
def zU:=jv @aI.eq_1 (@aB.eq_1)
def Qgt (c:Chart) (t:Tk) (l:List Tk) (hc:CarOk c) (hl:l.length<=100):FnV prog 153 [qd c,aTk t,qy l] (aI (zg c t l)):=by
 have env:=qA (A:=fun _=>True) (kC QiX (kC Qkd (kC erway (kC QhH (kC ertog kN)))))
 refine kV (Fn0 func153 rfl (fun vs w=>by kernel_rfl) (by kernel_rfl)) (by simp) (by simp [AV.ids,AV.idsL,qd,qa,aTk,cTk,qy]) ?_
 have et:(⟨t.party,t.sex,t.cab,t.bed,t.frm,t.to,t.dog⟩:Tk)=t:=rfl
 have ec:(⟨c.cabins,c.secs,c.sold⟩:Chart)=c:=rfl
 have eb:(⟨t.cab,t.bed⟩:Bunk)=⟨t.cab,t.bed⟩:=rfl
 have hc':=hc
 cases h1:inB t.party 1 99
 ·rw [show zg c t l=1 by simp [zg,h1]]
  repeat' first|(apply nx;with_reducible constructor)|apply jq (by decide)|((first|apply jz env|apply jw);intro Q hQ;simp only [vkt,seval,wo,zU,aTk,cTk,qy,qd,qa,QL,h1,ite_and];(repeat' first|with_reducible assumption|apply jv|intro hp);all_goals first|(apply hQ;clear hQ Q)|(apply jx;kernel_rfl)|omega|assumption|rfl|skip)
  (simp only [vrt,results153,vkt,seval,zU];refine Fin.val rfl ?_;(try simp only [AV.le]))
  all_goals first|rfl|simp
 cases h2:inB t.sex 1 2
 ·rw [show zg c t l=8 by simp [zg,h1,h2]]
  repeat' first|(apply nx;with_reducible constructor)|apply jq (by decide)|((first|apply jz env|apply jw);intro Q hQ;simp only [vkt,seval,wo,zU,aTk,cTk,qy,qd,qa,QL,h1,h2,ite_and];(repeat' first|with_reducible assumption|apply jv|intro hp);all_goals first|(apply hQ;clear hQ Q)|(apply jx;kernel_rfl)|omega|assumption|rfl|skip)
  (simp only [vrt,results153,vkt,seval,zU];refine Fin.val rfl ?_;(try simp only [AV.le]))
  all_goals first|rfl|simp
 cases h3:yx c.cabins t.cab t.bed
 ·rw [show zg c t l=3 by simp [zg,h1,h2,h3]]
  repeat' first|(apply nx;with_reducible constructor)|apply jq (by decide)|((first|apply jz env|apply jw);intro Q hQ;simp only [vkt,seval,wo,zU,aTk,cTk,qy,mTk,qC,qd,qa,QL,JK,h1,h2,h3,ec,ite_and];(repeat' first|with_reducible assumption|apply jv|intro hp);all_goals first|(apply hQ;clear hQ Q)|(apply jx;kernel_rfl)|omega|assumption|rfl|skip)
  (simp only [vrt,results153,vkt,seval,zU];refine Fin.val rfl ?_;(try simp only [AV.le]))
  all_goals first|rfl|simp
 have hr:zg c t l=if Qc c.secs t.frm t.to ≠ 0 then Qc c.secs t.frm t.to else wE t l:=by unfold zg;simp [h1,h2,h3]
 rw [hr]
 obtain ⟨w,hw⟩:∃ w,Qc c.secs t.frm t.to=w:=⟨_,rfl⟩
 rw [hw]
 by_cases h5:w=0
 ·rw [if_neg (fun h=>h h5)]
  rw [h5] at hw
  unfold wE
  repeat' first|(apply nx;with_reducible constructor)|apply jq (by decide)|((first|apply jz env|apply jw);intro Q hQ;simp only [vkt,seval,wo,zU,aTk,cTk,qy,mTk,qC,qd,qa,QL,JK,Qda,h1,h2,h3,hw,ec,decide_true,ite_and];(repeat' first|with_reducible assumption|apply jv|intro hp);all_goals first|(apply hQ;clear hQ Q)|(apply jx;kernel_rfl)|omega|assumption|rfl|skip)
  refine qN (fun k:{ k:Nat // k<=l.length/\∀ j,j < k->Qw t (l.getD j default)=false }=>rsA c t l [(8,aI k.1)]) (fun k=>l.length - k.1) ⟨0,ag _,fun j h=>absurd h (bp _)⟩ ?_ fun ⟨k,hk,hno⟩=>?_
  ·simp only [rsA,aQ,aF]
   (refine Le.ok some [] ?_;constructor;all_goals (try simp only [vle,vkt,seval,zU,cTk,qy,qa]))
   all_goals first|rfl|simp
  simp only at hk hno ⊢
  simp only [rsA,aQ,aF]
  by_cases hkl:k < l.length
  ·have d1:decide ((k:Int) < (l.length:Int))=true:=decide_eq_true (by omega)
   have e9:=k9 k (by omega)
   have k0:((k:Int)).toNat=k:=rfl
   obtain ⟨x,hx⟩:∃ x,l.getD k default=x:=⟨_,rfl⟩
   have ex:(⟨x.party,x.sex,x.cab,x.bed,x.frm,x.to,x.dog⟩:Tk)=x:=rfl
   have hT:Qw t x=(decide (x.cab=t.cab) && decide (x.bed=t.bed) && xL x t):=rfl
   cases q1:(decide (x.cab=t.cab) && decide (x.bed=t.bed)) with
   |false =>
    rw [q1,aT] at hT
    repeat' first|(apply nx;with_reducible constructor)|apply jq (by decide)|((first|apply jz env|apply jw);intro Q hQ;simp only [vkt,seval,wo,zU,cTk,qy,eTk,gTk,qa,d1,e9,k0,hkl,hx,q1,ite_and];(repeat' first|with_reducible assumption|apply jv|intro hp);all_goals first|(apply hQ;clear hQ Q)|(apply jx;kernel_rfl)|omega|assumption|rfl|skip)
    refine ⟨⟨k+1,hkl,fun j hj=>?_⟩,by show l.length - (k+1) < l.length - k;omega, ?_⟩
    ·rcases bq (bt hj) with h|h
     ·exact hno j h
     ·rw [h,hx];exact hT
    simp only []
    (refine Le.ok some [] ?_;constructor;all_goals (try simp only [vle,vkt,seval,zU,cTk,qy,qa]))
    all_goals first|rfl|simp
   |true =>
    cases q2:xL x t with
    |false =>
     rw [q1,q2,bm] at hT
     repeat' first|(apply nx;with_reducible constructor)|apply jq (by decide)|((first|apply jz env|apply jw);intro Q hQ;simp only [vkt,seval,wo,zU,cTk,qy,eTk,gTk,qa,Yr,d1,e9,k0,hkl,hx,q1,q2,et,ex,ite_and];(repeat' first|with_reducible assumption|apply jv|intro hp);all_goals first|(apply hQ;clear hQ Q)|(apply jx;kernel_rfl)|omega|assumption|rfl|skip)
     refine ⟨⟨k+1,hkl,fun j hj=>?_⟩,by show l.length - (k+1) < l.length - k;omega, ?_⟩
     ·rcases bq (bt hj) with h|h
      ·exact hno j h
      ·rw [h,hx];exact hT
     simp only []
     (refine Le.ok some [] ?_;constructor;all_goals (try simp only [vle,vkt,seval,zU,cTk,qy,qa]))
     all_goals first|rfl|simp
    |true =>
     rw [q1,q2,bm] at hT
     rw [if_pos (Qio hkl (by rw [hx];exact hT))]
     repeat' first|(apply nx;with_reducible constructor)|apply jq (by decide)|((first|apply jz env|apply jw);intro Q hQ;simp only [vkt,seval,wo,zU,cTk,qy,eTk,gTk,qa,Yr,d1,k0,hkl,hx,q1,q2,et,ex,ite_and];(repeat' first|with_reducible assumption|apply jv|intro hp);all_goals first|(apply hQ;clear hQ Q)|(apply jx;kernel_rfl)|omega|assumption|rfl|skip)
     (simp only [vrt,results153,vkt,seval,zU];refine Fin.val rfl ?_;(try simp only [AV.le]))
     all_goals first|rfl|simp
  ·have d1:decide ((k:Int) < (l.length:Int))=false:=decide_eq_false (by omega)
   obtain rfl:k=l.length:=by omega
   rw [if_neg (by rw [Qk4 hno];decide)]
   repeat' first|(apply nx;with_reducible constructor)|apply jq (by decide)|((first|apply jz env|apply jw);intro Q hQ;simp only [vkt,seval,wo,zU,cTk,qy,qa,d1,ite_and];(repeat' first|with_reducible assumption|apply jv|intro hp);all_goals first|(apply hQ;clear hQ Q)|(apply jx;kernel_rfl)|omega|assumption|rfl|skip)
   refine qN (fun k:{ k:Nat // k<=l.length/\∀ j,j < k->(!QQ (l.getD j default) t)=false }=>rsA c t l [(9,aI k.1)]) (fun k=>l.length - k.1) ⟨0,ag _,fun j h=>absurd h (bp _)⟩ ?_ fun ⟨k,hk,hno⟩=>?_
   ·simp only [rsA,aQ,aF]
    (refine Le.ok some [] ?_;constructor;all_goals (try simp only [vle,vkt,seval,zU,cTk,qy,qa]))
    all_goals first|rfl|simp
   simp only at hk hno ⊢
   simp only [rsA,aQ,aF]
   by_cases hkl:k < l.length
   ·have d1:decide ((k:Int) < (l.length:Int))=true:=decide_eq_true (by omega)
    have e9:=k9 k (by omega)
    have k0:((k:Int)).toNat=k:=rfl
    obtain ⟨x,hx⟩:∃ x,l.getD k default=x:=⟨_,rfl⟩
    have ex:(⟨x.party,x.sex,x.cab,x.bed,x.frm,x.to,x.dog⟩:Tk)=x:=rfl
    cases q2:QQ x t with
    |true =>
     repeat' first|(apply nx;with_reducible constructor)|apply jq (by decide)|((first|apply jz env|apply jw);intro Q hQ;simp only [vkt,seval,wo,zU,cTk,qy,eTk,gTk,qa,Qdo,d1,e9,k0,hkl,hx,q2,et,ex,ite_and];(repeat' first|with_reducible assumption|apply jv|intro hp);all_goals first|(apply hQ;clear hQ Q)|(apply jx;kernel_rfl)|omega|assumption|rfl|skip)
     refine ⟨⟨k+1,hkl,fun j hj=>?_⟩,by show l.length - (k+1) < l.length - k;omega, ?_⟩
     ·rcases bq (bt hj) with h|h
      ·exact hno j h
      ·rw [h,hx,q2];rfl
     simp only []
     (refine Le.ok some [] ?_;constructor;all_goals (try simp only [vle,vkt,seval,zU,cTk,qy,qa]))
     all_goals first|rfl|simp
    |false =>
     rw [if_pos (Qio (p:=fun x=>!QQ x t) hkl (by rw [hx,q2];rfl))]
     repeat' first|(apply nx;with_reducible constructor)|apply jq (by decide)|((first|apply jz env|apply jw);intro Q hQ;simp only [vkt,seval,wo,zU,cTk,qy,eTk,gTk,qa,Qdo,d1,k0,hkl,hx,q2,et,ex,ite_and];(repeat' first|with_reducible assumption|apply jv|intro hp);all_goals first|(apply hQ;clear hQ Q)|(apply jx;kernel_rfl)|omega|assumption|rfl|skip)
     (simp only [vrt,results153,vkt,seval,zU];refine Fin.val rfl ?_;(try simp only [AV.le]))
     all_goals first|rfl|simp
   ·have d1:decide ((k:Int) < (l.length:Int))=false:=decide_eq_false (by omega)
    obtain rfl:k=l.length:=by omega
    rw [if_neg (by rw [Qk4 (p:=fun x=>!QQ x t) hno];decide)]
    repeat' first|(apply nx;with_reducible constructor)|apply jq (by decide)|((first|apply jz env|apply jw);intro Q hQ;simp only [vkt,seval,wo,zU,cTk,qy,qa,d1,ite_and];(repeat' first|with_reducible assumption|apply jv|intro hp);all_goals first|(apply hQ;clear hQ Q)|(apply jx;kernel_rfl)|omega|assumption|rfl|skip)
    (simp only [vrt,results153,vkt,seval,zU];refine Fin.val rfl ?_;(try simp only [AV.le]))
    all_goals first|rfl|simp
 ·rw [if_pos h5]
  have d5:decide (w=0)=false:=decide_eq_false h5
  repeat' first|(apply nx;with_reducible constructor)|apply jq (by decide)|((first|apply jz env|apply jw);intro Q hQ;simp only [vkt,seval,wo,zU,aTk,cTk,qy,mTk,qC,qd,qa,QL,JK,Qda,h1,h2,h3,hw,d5,ec,ite_and];(repeat' first|with_reducible assumption|apply jv|intro hp);all_goals first|(apply hQ;clear hQ Q)|(apply jx;kernel_rfl)|omega|assumption|rfl|skip)
  (simp only [vrt,results153,vkt,seval,zU];refine Fin.val rfl ?_;(try simp only [AV.le]))
  all_goals first|rfl|simp
def Ug:List AV->Prop × AV
 |[.agg [.sl c0,.v (.int .i64 c1),.sl c2],.agg [.v (.int .i64 t0),.v (.int .i64 t1),.v (.int .i64 t2),.v (.int .i64 t3),.v (.int .i64 t4),.v (.int .i64 t5),.v (.bool t6)],.sl l]=>(c0=(c0.map qh).map qx/\c2=(c2.map dTk).map eTk/\l=(l.map dTk).map eTk/\CarOk ((⟨(c0.map qh),c1,(c2.map dTk)⟩:Chart))/\(l.map dTk).length<=100,aI (zg ((⟨(c0.map qh),c1,(c2.map dTk)⟩:Chart)) (⟨t0,t1,t2,t3,t4,t5,t6⟩:Tk) (l.map dTk)))
 |_=>(False,.junk)
def QlV {A:Frm->Prop}:qm A prog 153 (zw true Ug):=qL fun vs hv h=>by
 clear hv
 unfold Ug at h ⊢
 split at h
 ·rename_i c0 c1 c2 t0 t1 t2 t3 t4 t5 t6 l;obtain ⟨q0,q1,q2,k0,k1⟩:=h
  refine ⟨by first|trivial|(repeat' split) <;> simp [AV.plain,AV.plainL,aI,aB,qz,qc,qy,qw,aTk,cTk],fun _=>(by simp [AV.flat,aI]), ?_⟩
  have:=Qgt ((⟨(c0.map qh),c1,(c2.map dTk)⟩:Chart)) (⟨t0,t1,t2,t3,t4,t5,t6⟩:Tk) (l.map dTk) k0 k1
  simp only [qd,aI,aTk,qy,qa,cTk,<- q0,<- q1,<- q2] at this
  first|exact this|(simp only [aB,zF,qd,aI,aTk,qy,qa,cTk,<- q0,<- q1,<- q2];exact this)
 ·exact h.elim
def rkS (c:Chart) (l:List Tk) (k:Nat):St:={ t:=asg [(1,qy l),(2,.ptr 0 0),(4,aI 0),(5,aI k)],h:=qb [(0,.cells (qa c))],n:=1 }
def Jt:=jv @ty3 (jv @vJ (jv @jm (jv @Qa (jv @jC (jv @ti3.eq_1 (jv @yI.eq_1 (jv @wY.eq_1 (jv @xQ.eq_1 @je.eq_1))))))))
def Zl:=jv @aI.eq_1 (@aB.eq_1)
def Qjc (c:Chart) (l:List Tk) (hc:CarOk c) (hl:l.length<=100):FnV prog 95 [qd c,qy l] (aI (jD c l)):=by
 have env:=qA (A:=fun _=>True) (kC QlV kN)
 refine kV (Fn0 func95 rfl (fun vs w=>by kernel_rfl) (by kernel_rfl)) (by simp) (by simp [AV.ids,AV.idsL,qd,qa,qy]) ?_
 have ec:(⟨c.cabins,c.secs,c.sold⟩:Chart)=c:=rfl
 repeat' first|(apply nx;with_reducible constructor)|apply jq (by decide)|((first|apply jz env|apply jw);intro Q hQ;simp only [vkt,seval,qy,qd,qa,ite_and];(repeat' first|with_reducible assumption|apply jv|intro hp);all_goals first|(apply hQ;clear hQ Q)|(apply jx;kernel_rfl)|omega|assumption|rfl|skip)
 refine qN (fun k:{ k:Nat // k<=l.length/\∀ j,j < k->zg c (l.getD j default) (l.take j)=0 }=>rkS c l k.1) (fun k=>l.length - k.1) ⟨0,ag _,fun j h=>absurd h (bp _)⟩ ?_ fun ⟨k,hk,hno⟩=>?_
 ·(refine Le.ok some [] ?_;constructor;all_goals (try simp only [vle,vkt,seval,Zl,qy,qa]))
  all_goals first|rfl|simp
 simp only at hk hno ⊢
 simp only [rkS]
 by_cases hlt:k < l.length
 ·have d1:decide ((k:Int) < (l.length:Int))=true:=decide_eq_true (by omega)
  have e9:=k9 k (by omega)
  have k0:((k:Int)).toNat=k:=rfl
  obtain ⟨x,hx⟩:∃ x,l.getD k default=x:=⟨_,rfl⟩
  have ex:(⟨x.party,x.sex,x.cab,x.bed,x.frm,x.to,x.dog⟩:Tk)=x:=rfl
  have tk:List.take k (l.map eTk)=(l.take k).map eTk:=List.map_take.symm
  have t100:(l.take k).length<=100:=by rw [aR];omega
  have hkl:k<=l.length:=hk
  have hg:=Qex (f:=fun i=>zg c (l.getD i default) (l.take i)) hlt
  obtain ⟨e,he⟩:∃ e,zg c x (l.take k)=e:=⟨_,rfl⟩
  by_cases h2:e=0
  ·rw [h2] at he
   repeat' first|(apply nx;with_reducible constructor)|apply jq (by decide)|((first|apply jz env|apply jw);intro Q hQ;simp only [vkt,seval,Jt,Zl,qy,eTk,gTk,rTk,mTk,qC,qa,Ug,d1,k0,hlt,hx,ex,ec,tk,he,e9,decide_true,ite_and];(repeat' first|with_reducible assumption|apply jv|intro hp);all_goals first|(apply hQ;clear hQ Q)|(apply jx;kernel_rfl)|omega|assumption|rfl|skip)
   refine ⟨⟨k+1,hlt,fun j hj=>?_⟩,by show l.length - (k+1) < l.length - k;omega, ?_⟩
   ·rcases bq (bt hj) with h3|h3
    ·exact hno j h3
    ·rw [h3,hx];exact he
   ·(refine Le.ok some [] ?_;constructor;all_goals (try simp only [vle,vkt,seval,Zl,qy,qa]))
    all_goals first|rfl|simp
  ·have hf:jD c l=e:=by
    unfold jD
    rw [xC (k:=k) (fun j hj=>by rw [Qex (by omega)];exact hno j hj) (by simpa using hlt) (by rw [hg,hx,he];exact h2),hg,hx,he]
   rw [hf]
   have d2:decide (e=0)=false:=decide_eq_false h2
   repeat' first|(apply nx;with_reducible constructor)|apply jq (by decide)|((first|apply jz env|apply jw);intro Q hQ;simp only [vkt,seval,Jt,Zl,qy,eTk,gTk,rTk,mTk,qC,qa,Ug,d1,k0,hlt,hx,ex,ec,tk,he,d2,ite_and];(repeat' first|with_reducible assumption|apply jv|intro hp);all_goals first|(apply hQ;clear hQ Q)|(apply jx;kernel_rfl)|omega|assumption|rfl|skip)
   (simp only [vrt,results95,vkt,seval,Zl];refine Fin.val rfl ?_;(try simp only [AV.le]))
   all_goals first|rfl|simp
 ·have d1:decide ((k:Int) < (l.length:Int))=false:=decide_eq_false (by omega)
  have hke:k=l.length:=by omega
  subst hke
  rw [show jD c l=0 from yU fun j hj=>by
   have hj':j < l.length:=by simpa using hj
   rw [Qex hj'];exact hno j hj']
  repeat' first|(apply nx;with_reducible constructor)|apply jq (by decide)|((first|apply jz env|apply jw);intro Q hQ;simp only [vkt,seval,Jt,Zl,qy,qa,d1,ite_and];(repeat' first|with_reducible assumption|apply jv|intro hp);all_goals first|(apply hQ;clear hQ Q)|(apply jx;kernel_rfl)|omega|assumption|rfl|skip)
  (simp only [vrt,results95,vkt,seval,Zl];refine Fin.val rfl ?_;(try simp only [AV.le]))
  all_goals first|rfl|simp
def Qif:List AV->Prop × AV
 |[.agg [.sl c0,.v (.int .i64 c1),.sl c2],.sl l]=>(c0=(c0.map qh).map qx/\c2=(c2.map dTk).map eTk/\l=(l.map dTk).map eTk/\CarOk ((⟨(c0.map qh),c1,(c2.map dTk)⟩:Chart))/\(l.map dTk).length<=100,aI (jD ((⟨(c0.map qh),c1,(c2.map dTk)⟩:Chart)) (l.map dTk)))
 |_=>(False,.junk)
def ertks {A:Frm->Prop}:qm A prog 95 (zw true Qif):=qL fun vs hv h=>by
 clear hv
 unfold Qif at h ⊢
 split at h
 ·rename_i c0 c1 c2 l;obtain ⟨q0,q1,q2,k0,k1⟩:=h
  refine ⟨by first|trivial|(repeat' split) <;> simp [AV.plain,AV.plainL,aI,aB,qz,qc,qy,qw,aTk,cTk],fun _=>(by simp [AV.flat,aI]), ?_⟩
  have:=Qjc ((⟨(c0.map qh),c1,(c2.map dTk)⟩:Chart)) (l.map dTk) k0 k1
  simp only [qd,aI,qy,qa,<- q0,<- q1,<- q2] at this
  first|exact this|(simp only [zF,qd,aI,qy,qa,<- q0,<- q1,<- q2];exact this)
 ·exact h.elim
def Qkf {a b c d e f:Int} {g:Bool} {a' b' c' d' e' f':Int} {g':Bool}:decide ((⟨a,b,c,d,e,f,g⟩:Tk)=⟨a',b',c',d',e',f',g'⟩)=(decide (a=a') && (decide (b=b') && (decide (c=c') && (decide (d=d') && (decide (e=e') && (decide (f=f') && (g == g'))))))):=by
 rw [cv];simp
def Qjp {a:Int} {g:Bool} {a':Int} {g':Bool}:decide ((⟨a,g⟩:Cabin)=⟨a',g'⟩)=(decide (a=a') && (g == g')):=by
 rw [cv];simp
def eqKS (l m:List Tk) (k:Nat):St:={ t:=asg [(0,qy l),(1,qy m),(4,aB false),(5,aI k)],h:=qb [],n:=0 }
def QO:=jv @ty3 (jv @vJ (jv @jC (jv @ti3.eq_1 (jv @yI.eq_1 @je.eq_1))))
def Ql:=jv @aI.eq_1 (@aB.eq_1)
def Qmm (l m:List Tk) (hl:l.length<=maxLen) (hm:m.length<=maxLen):FnV prog 52 [qy l,qy m] (aB (decide (l=m))):=by
 have env:=qA (A:=fun _=>True) kN
 refine kV (Fn0 func52 rfl (fun vs w=>by kernel_rfl) (by kernel_rfl)) (by simp) (by simp [AV.ids,qy]) ?_
 have hmx:maxLen=9223372036854775807:=by decide
 by_cases h0:l.length=m.length
 ·have d0:decide ((l.length:Int)=(m.length:Int))=true:=decide_eq_true (by omega)
  repeat' first|(apply nx;with_reducible constructor)|apply jq (by decide)|((first|apply jz env|apply jw);intro Q hQ;simp only [vkt,seval,QO,qy,d0,ite_and];(repeat' first|with_reducible assumption|apply jv|intro hp);all_goals first|(apply hQ;clear hQ Q)|(apply jx;kernel_rfl)|omega|assumption|rfl|skip)
  refine qN (fun k:{ k:Nat // k<=l.length/\∀ j,j < k->l.getD j default=m.getD j default }=>eqKS l m k.1) (fun k=>l.length - k.1) ⟨0,ag _,fun j h=>absurd h (bp _)⟩ ?_ fun ⟨k,hk,hno⟩=>?_
  ·(refine Le.ok some [] ?_;constructor;all_goals (try simp only [vle,vkt,seval,Ql,qy]))
   all_goals first|rfl|simp
  simp only at hk hno ⊢
  simp only [eqKS]
  by_cases hlt:k < l.length
  ·have d1:decide ((k:Int) < (l.length:Int))=true:=decide_eq_true (by omega)
   have hlm:k < m.length:=by omega
   have k0:((k:Int)).toNat=k:=rfl
   have e9:=k9 k (by omega)
   obtain ⟨x,hx⟩:∃ x,l.getD k default=x:=⟨_,rfl⟩
   obtain ⟨y,hy⟩:∃ x,m.getD k default=x:=⟨_,rfl⟩
   have hxy:(decide (x.party=y.party) && (decide (x.sex=y.sex) && (decide (x.cab=y.cab) && (decide (x.bed=y.bed) && (decide (x.frm=y.frm) && (decide (x.to=y.to) && ((x.dog == y.dog))))))))=decide (x=y):=by cases x;cases y;rw [Qkf]
   have hne:¬ x=y->decide (l=m)=false:=fun h=>decide_eq_false fun e=>h (by rw [<- hx,<- hy,e])
   cases q:decide (x=y) with
   |false =>
    rw [hne (of_decide_eq_false q)]
    repeat' first|(apply nx;with_reducible constructor)|apply jq (by decide)|((first|apply jz env|apply jw);intro Q hQ;simp only [vkt,seval,QO,Ql,qy,eTk,gTk,d1,k0,hlt,hlm,hx,hy,hxy,q,ite_and];(repeat' first|with_reducible assumption|apply jv|intro hp);all_goals first|(apply hQ;clear hQ Q)|(apply jx;kernel_rfl)|omega|assumption|rfl|skip)
    (simp only [vrt,results52,vkt,seval,Ql];refine Fin.val rfl ?_;(try simp only [AV.le]))
    all_goals first|rfl|simp
   |true =>
    repeat' first|(apply nx;with_reducible constructor)|apply jq (by decide)|((first|apply jz env|apply jw);intro Q hQ;simp only [vkt,seval,QO,Ql,qy,eTk,gTk,d1,k0,hlt,hlm,hx,hy,hxy,q,e9,ite_and];(repeat' first|with_reducible assumption|apply jv|intro hp);all_goals first|(apply hQ;clear hQ Q)|(apply jx;kernel_rfl)|omega|assumption|rfl|skip)
    refine ⟨⟨k+1,hlt,fun j hj=>?_⟩,by show l.length - (k+1) < l.length - k;omega, ?_⟩
    ·rcases bq (bt hj) with h1|h1
     ·exact hno j h1
     ·rw [h1,hx,hy];exact of_decide_eq_true q
    ·(refine Le.ok some [] ?_;constructor;all_goals (try simp only [vle,vkt,seval,Ql,qy]))
     all_goals first|rfl|simp
  ·have d1:decide ((k:Int) < (l.length:Int))=false:=decide_eq_false (by omega)
   obtain rfl:k=l.length:=by omega
   rw [decide_eq_true (Jv h0 hno)]
   repeat' first|(apply nx;with_reducible constructor)|apply jq (by decide)|((first|apply jz env|apply jw);intro Q hQ;simp only [vkt,seval,QO,Ql,qy,d1,ite_and];(repeat' first|with_reducible assumption|apply jv|intro hp);all_goals first|(apply hQ;clear hQ Q)|(apply jx;kernel_rfl)|omega|assumption|rfl|skip)
   (simp only [vrt,results52,vkt,seval,Ql];refine Fin.val rfl ?_;(try simp only [AV.le]))
   all_goals first|rfl|simp
 ·have d0:decide ((l.length:Int)=(m.length:Int))=false:=decide_eq_false (by omega)
  rw [decide_eq_false (fun e=>h0 (by rw [e]))]
  repeat' first|(apply nx;with_reducible constructor)|apply jq (by decide)|((first|apply jz env|apply jw);intro Q hQ;simp only [vkt,seval,QO,qy,d0,ite_and];(repeat' first|with_reducible assumption|apply jv|intro hp);all_goals first|(apply hQ;clear hQ Q)|(apply jx;kernel_rfl)|omega|assumption|rfl|skip)
  (simp only [vrt,results52,vkt,seval,Ql];refine Fin.val rfl ?_;(try simp only [AV.le]))
  all_goals first|rfl|simp
def seqK:List AV->Prop × AV
 |[.sl l,.sl m]=>(l=(l.map dTk).map eTk/\m=(m.map dTk).map eTk/\(l.map dTk).length<=maxLen/\(m.map dTk).length<=maxLen,aB (decide ((l.map dTk)=(m.map dTk))))
 |_=>(False,.junk)
def eeqK {A:Frm->Prop}:qm A prog 52 (zw true seqK):=qL fun vs hv h=>by
 clear hv
 unfold seqK at h ⊢
 split at h
 ·rename_i l m;obtain ⟨q0,q1,k0,k1⟩:=h
  refine ⟨by first|trivial|(repeat' split) <;> simp [AV.plain,AV.plainL,aI,aB,qz,qc,qy,qw,aTk,cTk],fun _=>(by simp [AV.flat,aB]), ?_⟩
  have:=Qmm (l.map dTk) (m.map dTk) k0 k1
  simp only [qy,<- q0,<- q1] at this
  first|exact this|(simp only [qy,<- q0,<- q1];exact this)
 ·exact h.elim
def ecS (c d:Chart) (k:Nat):St:={ t:=asg [(2,.ptr 0 0),(3,.ptr 1 0),(4,aB false),(5,aI k)],h:=qb [(0,.cells (qa c)),(1,.cells (qa d))],n:=2 }
def kD:=jv @ty3 (jv @ZF (jv @vJ (jv @jm (jv @ZC (jv @jC (jv @ti3.eq_1 (jv @Qv.eq_1 (jv @yI.eq_1 (jv @wY.eq_1 (jv @Qz.eq_1 @je.eq_1))))))))))
def xX:=jv @aI.eq_1 (@aB.eq_1)
def QmW (c d:Chart) (h1:c.cabins.length<=maxLen) (h2:c.sold.length<=maxLen) (h4:d.sold.length<=maxLen):FnV prog 16 [qd c,qd d] (aB (decide (c=d))):=by
 have env:=qA (A:=fun _=>True) (kC eeqK kN)
 refine kV (Fn0 func16 rfl (fun vs w=>by kernel_rfl) (by kernel_rfl)) (by simp) (by simp [AV.ids,AV.idsL,qd,qa]) ?_
 have hmx:maxLen=9223372036854775807:=by decide
 have hE:decide (c=d)=(decide (c.cabins=d.cabins) && (decide (c.secs=d.secs) && decide (c.sold=d.sold))):=by
  cases c;cases d;rw [cv];simp
 rw [hE]
 by_cases h0:c.cabins.length=d.cabins.length
 ·have d0:decide ((c.cabins.length:Int)=(d.cabins.length:Int))=true:=decide_eq_true (by omega)
  cases q0:decide (c.secs=d.secs) with
  |false =>
   rw [aT,cw]
   repeat' first|(apply nx;with_reducible constructor)|apply jq (by decide)|((first|apply jz env|apply jw);intro Q hQ;simp only [vkt,seval,kD,qd,qa,d0,q0,ite_and];(repeat' first|with_reducible assumption|apply jv|intro hp);all_goals first|(apply hQ;clear hQ Q)|(apply jx;kernel_rfl)|omega|assumption|rfl|skip)
   (simp only [vrt,results16,vkt,seval,xX];refine Fin.val rfl ?_;(try simp only [AV.le]))
   all_goals first|rfl|simp
  |true =>
   rw [bm]
   repeat' first|(apply nx;with_reducible constructor)|apply jq (by decide)|((first|apply jz env|apply jw);intro Q hQ;simp only [vkt,seval,kD,qd,qa,d0,q0,ite_and];(repeat' first|with_reducible assumption|apply jv|intro hp);all_goals first|(apply hQ;clear hQ Q)|(apply jx;kernel_rfl)|omega|assumption|rfl|skip)
   refine qN (fun k:{ k:Nat // k<=c.cabins.length/\∀ j,j < k->c.cabins.getD j default=d.cabins.getD j default }=>ecS c d k.1) (fun k=>c.cabins.length - k.1) ⟨0,ag _,fun j h=>absurd h (bp _)⟩ ?_ fun ⟨k,hk,hno⟩=>?_
   ·simp only [ecS]
    (refine Le.ok some [] ?_;constructor;all_goals (try simp only [vle,vkt,seval,xX,qa]))
    all_goals first|rfl|simp
   simp only at hk hno ⊢
   simp only [ecS]
   by_cases hlt:k < c.cabins.length
   ·have d1:decide ((k:Int) < (c.cabins.length:Int))=true:=decide_eq_true (by omega)
    have hlm:k < d.cabins.length:=by omega
    have k0:((k:Int)).toNat=k:=rfl
    have e9:=k9 k (by omega)
    obtain ⟨x,hx⟩:∃ x,c.cabins.getD k default=x:=⟨_,rfl⟩
    obtain ⟨y,hy⟩:∃ x,d.cabins.getD k default=x:=⟨_,rfl⟩
    have hxy:(decide (x.beds=y.beds) && (x.door == y.door))=decide (x=y):=by cases x;cases y;rw [Qjp]
    have hne:¬ x=y->decide (c.cabins=d.cabins)=false:=fun h=>decide_eq_false fun e=>h (by rw [<- hx,<- hy,e])
    cases q:decide (x=y) with
    |false =>
     rw [hne (of_decide_eq_false q),aT]
     repeat' first|(apply nx;with_reducible constructor)|apply jq (by decide)|((first|apply jz env|apply jw);intro Q hQ;simp only [vkt,seval,kD,xX,qa,qx,zX,d1,k0,hlt,hlm,hx,hy,hxy,q,ite_and];(repeat' first|with_reducible assumption|apply jv|intro hp);all_goals first|(apply hQ;clear hQ Q)|(apply jx;kernel_rfl)|omega|assumption|rfl|skip)
     (simp only [vrt,results16,vkt,seval,xX];refine Fin.val rfl ?_;(try simp only [AV.le]))
     all_goals first|rfl|simp
    |true =>
     repeat' first|(apply nx;with_reducible constructor)|apply jq (by decide)|((first|apply jz env|apply jw);intro Q hQ;simp only [vkt,seval,kD,xX,qa,qx,zX,d1,k0,hlt,hlm,hx,hy,hxy,q,e9,ite_and];(repeat' first|with_reducible assumption|apply jv|intro hp);all_goals first|(apply hQ;clear hQ Q)|(apply jx;kernel_rfl)|omega|assumption|rfl|skip)
     refine ⟨⟨k+1,hlt,fun j hj=>?_⟩,by show c.cabins.length - (k+1) < c.cabins.length - k;omega, ?_⟩
     ·rcases bq (bt hj) with h1|h1
      ·exact hno j h1
      ·rw [h1,hx,hy];exact of_decide_eq_true q
     ·simp only []
      (refine Le.ok some [] ?_;constructor;all_goals (try simp only [vle,vkt,seval,xX,qa]))
      all_goals first|rfl|simp
   ·have d1:decide ((k:Int) < (c.cabins.length:Int))=false:=decide_eq_false (by omega)
    obtain rfl:k=c.cabins.length:=by omega
    rw [decide_eq_true (Jv h0 hno),bm]
    repeat' first|(apply nx;with_reducible constructor)|apply jq (by decide)|((first|apply jz env|apply jw);intro Q hQ;simp only [vkt,seval,kD,xX,qa,mTk,seqK,d1,h2,h4,ite_and];(repeat' first|with_reducible assumption|apply jv|intro hp);all_goals first|(apply hQ;clear hQ Q)|(apply jx;kernel_rfl)|omega|assumption|rfl|skip)
    (simp only [vrt,results16,vkt,seval,xX];refine Fin.val rfl ?_;(try simp only [AV.le]))
    all_goals first|rfl|simp
 ·have d0:decide ((c.cabins.length:Int)=(d.cabins.length:Int))=false:=decide_eq_false (by omega)
  rw [decide_eq_false (fun e:c.cabins=d.cabins=>h0 (by rw [e])),aT]
  repeat' first|(apply nx;with_reducible constructor)|apply jq (by decide)|((first|apply jz env|apply jw);intro Q hQ;simp only [vkt,seval,kD,qd,qa,d0,ite_and];(repeat' first|with_reducible assumption|apply jv|intro hp);all_goals first|(apply hQ;clear hQ Q)|(apply jx;kernel_rfl)|omega|assumption|rfl|skip)
  (simp only [vrt,results16,vkt,seval,xX];refine Fin.val rfl ?_;(try simp only [AV.le]))
  all_goals first|rfl|simp
def seqC:List AV->Prop × AV
 |[.agg [.sl c0,.v (.int .i64 c1),.sl c2],.agg [.sl d0,.v (.int .i64 d1),.sl d2]]=>(c0=(c0.map qh).map qx/\c2=(c2.map dTk).map eTk/\d0=(d0.map qh).map qx/\d2=(d2.map dTk).map eTk/\((⟨(c0.map qh),c1,(c2.map dTk)⟩:Chart)).cabins.length<=maxLen/\((⟨(c0.map qh),c1,(c2.map dTk)⟩:Chart)).sold.length<=maxLen/\((⟨(d0.map qh),d1,(d2.map dTk)⟩:Chart)).sold.length<=maxLen,aB (decide (((⟨(c0.map qh),c1,(c2.map dTk)⟩:Chart))=((⟨(d0.map qh),d1,(d2.map dTk)⟩:Chart)))))
 |_=>(False,.junk)
def eeqC {A:Frm->Prop}:qm A prog 16 (zw true seqC):=qL fun vs hv h=>by
 clear hv
 unfold seqC at h ⊢
 split at h
 ·rename_i c0 c1 c2 d0 d1 d2;obtain ⟨q0,q1,q2,q3,k0,k1,k2⟩:=h
  refine ⟨by first|trivial|(repeat' split) <;> simp [AV.plain,AV.plainL,aI,aB,qz,qc,qy,qw,aTk,cTk],fun _=>(by simp [AV.flat,aB]), ?_⟩
  have:=QmW ((⟨(c0.map qh),c1,(c2.map dTk)⟩:Chart)) ((⟨(d0.map qh),d1,(d2.map dTk)⟩:Chart)) k0 k1 k2
  simp only [qd,qa,<- q0,<- q1,<- q2,<- q3] at this
  first|exact this|(simp only [zF,qd,aI,qy,qa,<- q0,<- q1,<- q2,<- q3];exact this)
 ·exact h.elim
def rcS (c:Chart) (k:Nat):St:={ t:=asg [(1,.ptr 0 0),(2,aI 0),(3,aI k)],h:=qb [(0,.cells (qa c))],n:=1 }
def Qm (c:Chart):Int:=if c.cabins.length=0 then 7 else if 3 < c.cabins.length then 6 else if jy (c.cabins.map vT) ≠ 0 then jy (c.cabins.map vT) else if !inB c.secs 1 5 then 1 else 0
def QbO (c:Chart):zt c=if Qm c ≠ 0 then Qm c else if 8 < c.sold.length then 6 else jD c c.sold:=by
 unfold zt QY Qm zG
 by_cases h1:c.cabins.length=0
 ·rw [if_pos (show (c.cabins.length:Int) < 1 by omega),if_pos h1];simp
 rw [if_neg (show ¬ (c.cabins.length:Int) < 1 by omega),if_neg h1]
 by_cases h2:3 < c.cabins.length
 ·rw [if_pos (show (3:Int) < (c.cabins.length:Int) by omega),if_pos h2];simp
 rw [if_neg (show ¬ (3:Int) < (c.cabins.length:Int) by omega),if_neg h2]
 simp only [ne_eq,not_true_eq_false,if_false]
 by_cases h3:jy (c.cabins.map vT)=0
 ·rw [h3]
  simp only [not_true_eq_false,if_false]
  cases inB c.secs 1 5 with
  |false=>simp
  |true =>
   simp only [cY,bM,if_false,not_true_eq_false]
   by_cases h4:8 < c.sold.length
   ·rw [if_neg (show ¬ (c.sold.length:Int) < 0 by omega),if_pos (show (8:Int) < (c.sold.length:Int) by omega),if_pos h4];simp
   ·rw [if_neg (show ¬ (c.sold.length:Int) < 0 by omega),if_neg (show ¬ (8:Int) < (c.sold.length:Int) by omega),if_neg h4];simp
 ·simp [h3]
def Qj1 {c:Chart} (h:Qm c=0):CarOk c:=by
 unfold Qm at h
 split at h
 ·exact absurd h (by decide)
 split at h
 ·exact absurd h (by decide)
 split at h
 ·exact absurd h ‹_›
 rename_i h3
 split at h
 ·exact absurd h (by decide)
 rename_i h4
 refine ⟨by omega,fun x hx=>?_,jc.1 (by simpa using h4)⟩
 have:=Qh (Decidable.not_not.1 h3) _ (ap.2 ⟨x,hx,rfl⟩)
 unfold vT at this
 split at this
 ·exact absurd this (by decide)
 ·rename_i h5;exact jc.1 (by simpa using h5)
def vB:=jv @ty3 (jv @ZF (jv @jm (jv @ZC (jv @ti3.eq_1 (jv @Qv.eq_1 (jv @wY.eq_1 @Qz.eq_1))))))
def vL:=jv @aI.eq_1 (@aB.eq_1)
def Qky (c:Chart) (hc:c.cabins.length<=maxLen):FnV prog 94 [qd c] (aI (Qm c)):=by
 have env:=qA (A:=fun _=>True) (kC QiX kN)
 refine kV (Fn0 func94 rfl (fun vs w=>by kernel_rfl) (by kernel_rfl)) (by simp) (by simp [AV.ids,AV.idsL,qd,qa]) ?_
 by_cases h1:c.cabins.length=0
 ·rw [show Qm c=7 by unfold Qm;rw [if_pos h1]]
  have d1:decide ((c.cabins.length:Int)=0)=true:=decide_eq_true (by omega)
  repeat' first|(apply nx;with_reducible constructor)|apply jq (by decide)|((first|apply jz env|apply jw);intro Q hQ;simp only [vkt,seval,vB,qd,qa,d1,ite_and];(repeat' first|with_reducible assumption|apply jv|intro hp);all_goals first|(apply hQ;clear hQ Q)|(apply jx;kernel_rfl)|omega|assumption|rfl|skip)
  (simp only [vrt,results94,vkt,seval,vL];refine Fin.val rfl ?_;(try simp only [AV.le]))
  all_goals first|rfl|simp
 have d1:decide ((c.cabins.length:Int)=0)=false:=decide_eq_false (by omega)
 by_cases h2:3 < c.cabins.length
 ·rw [show Qm c=6 by unfold Qm;rw [if_neg h1,if_pos h2]]
  have d2:decide ((3:Int) < (c.cabins.length:Int))=true:=decide_eq_true (by omega)
  repeat' first|(apply nx;with_reducible constructor)|apply jq (by decide)|((first|apply jz env|apply jw);intro Q hQ;simp only [vkt,seval,vB,qd,qa,d1,d2,ite_and];(repeat' first|with_reducible assumption|apply jv|intro hp);all_goals first|(apply hQ;clear hQ Q)|(apply jx;kernel_rfl)|omega|assumption|rfl|skip)
  (simp only [vrt,results94,vkt,seval,vL];refine Fin.val rfl ?_;(try simp only [AV.le]))
  all_goals first|rfl|simp
 have d2:decide ((3:Int) < (c.cabins.length:Int))=false:=decide_eq_false (by omega)
 have hE:Qm c=if jy (c.cabins.map vT) ≠ 0 then jy (c.cabins.map vT) else if !inB c.secs 1 5 then 1 else 0:=by unfold Qm;rw [if_neg h1,if_neg h2]
 rw [hE]
 repeat' first|(apply nx;with_reducible constructor)|apply jq (by decide)|((first|apply jz env|apply jw);intro Q hQ;simp only [vkt,seval,vB,qd,qa,d1,d2,ite_and];(repeat' first|with_reducible assumption|apply jv|intro hp);all_goals first|(apply hQ;clear hQ Q)|(apply jx;kernel_rfl)|omega|assumption|rfl|skip)
 refine qN (fun k:{ k:Nat // k<=c.cabins.length/\∀ j,j < k->(c.cabins.map vT).getD j 0=0 }=>rcS c k.1) (fun k=>c.cabins.length - k.1) ⟨0,ag _,fun j h=>absurd h (bp _)⟩ ?_ fun ⟨k,hk,hno⟩=>?_
 ·simp only [rcS]
  (refine Le.ok some [] ?_;constructor;all_goals (try simp only [vle,vkt,seval,vL,qa]))
  all_goals first|rfl|simp
 simp only at hk hno ⊢
 simp only [rcS]
 by_cases hlt:k < c.cabins.length
 ·have d3:decide ((k:Int) < (c.cabins.length:Int))=true:=decide_eq_true (by omega)
  have k0:((k:Int)).toNat=k:=rfl
  have e9:=k9 k (by omega)
  obtain ⟨x,hx⟩:∃ x,c.cabins.getD k default=x:=⟨_,rfl⟩
  have hm:(c.cabins.map vT).getD k 0=vT x:=by rw [mapD hlt,hx]
  cases hb:inB x.beds 1 3 with
  |false =>
   have hE:vT x=1:=by simp [vT,hb]
   have hf:=xC hno (by simpa using hlt) (by rw [hm,hE];decide)
   rw [hm,hE] at hf
   rw [hf,if_pos (by decide)]
   repeat' first|(apply nx;with_reducible constructor)|apply jq (by decide)|((first|apply jz env|apply jw);intro Q hQ;simp only [vkt,seval,vB,vL,qa,qx,zX,QL,d3,k0,hlt,hx,hb,ite_and];(repeat' first|with_reducible assumption|apply jv|intro hp);all_goals first|(apply hQ;clear hQ Q)|(apply jx;kernel_rfl)|omega|assumption|rfl|skip)
   (simp only [vrt,results94,vkt,seval,vL];refine Fin.val rfl ?_;(try simp only [AV.le]))
   all_goals first|rfl|simp
  |true =>
   have hE:vT x=0:=by simp [vT,hb]
   repeat' first|(apply nx;with_reducible constructor)|apply jq (by decide)|((first|apply jz env|apply jw);intro Q hQ;simp only [vkt,seval,vB,vL,qa,qx,zX,QL,d3,k0,hlt,hx,hb,e9,ite_and];(repeat' first|with_reducible assumption|apply jv|intro hp);all_goals first|(apply hQ;clear hQ Q)|(apply jx;kernel_rfl)|omega|assumption|rfl|skip)
   refine ⟨⟨k+1,hlt,fun j hj=>?_⟩,by show c.cabins.length - (k+1) < c.cabins.length - k;omega, ?_⟩
   ·rcases bq (bt hj) with h2|h2
    ·exact hno j h2
    ·rw [h2,hm,hE]
   ·simp only []
    (refine Le.ok some [] ?_;constructor;all_goals (try simp only [vle,vkt,seval,vL,qa]))
    all_goals first|rfl|simp
 ·have d3:decide ((k:Int) < (c.cabins.length:Int))=false:=decide_eq_false (by omega)
  obtain rfl:k=c.cabins.length:=by omega
  have hf:jy (c.cabins.map vT)=0:=yU (by simpa using hno)
  rw [hf,if_neg (by decide)]
  cases hs:inB c.secs 1 5 with
  |false =>
   repeat' first|(apply nx;with_reducible constructor)|apply jq (by decide)|((first|apply jz env|apply jw);intro Q hQ;simp only [vkt,seval,vB,vL,qa,QL,d3,hs,ite_and];(repeat' first|with_reducible assumption|apply jv|intro hp);all_goals first|(apply hQ;clear hQ Q)|(apply jx;kernel_rfl)|omega|assumption|rfl|skip)
   (simp only [vrt,results94,vkt,seval,vL];refine Fin.val rfl ?_;(try simp only [AV.le]))
   all_goals first|rfl|simp
  |true =>
   repeat' first|(apply nx;with_reducible constructor)|apply jq (by decide)|((first|apply jz env|apply jw);intro Q hQ;simp only [vkt,seval,vB,vL,qa,QL,d3,hs,ite_and];(repeat' first|with_reducible assumption|apply jv|intro hp);all_goals first|(apply hQ;clear hQ Q)|(apply jx;kernel_rfl)|omega|assumption|rfl|skip)
   (simp only [vrt,results94,vkt,seval,vL];refine Fin.val rfl ?_;(try simp only [AV.le]))
   all_goals first|rfl|simp
def U9:List AV->Prop × AV
 |[.agg [.sl c0,.v (.int .i64 c1),.sl c2]]=>(c0=(c0.map qh).map qx/\c2=(c2.map dTk).map eTk/\((⟨(c0.map qh),c1,(c2.map dTk)⟩:Chart)).cabins.length<=maxLen,aI (Qm ((⟨(c0.map qh),c1,(c2.map dTk)⟩:Chart))))
 |_=>(False,.junk)
def ercar {A:Frm->Prop}:qm A prog 94 (zw true U9):=qL fun vs hv h=>by
 clear hv
 unfold U9 at h ⊢
 split at h
 ·rename_i c0 c1 c2;obtain ⟨q0,q1,k0⟩:=h
  refine ⟨by first|trivial|(repeat' split) <;> simp [AV.plain,AV.plainL,aI,aB,qz,qc,qy,qw,aTk,cTk],fun _=>(by simp [AV.flat,aI]), ?_⟩
  have:=Qky ((⟨(c0.map qh),c1,(c2.map dTk)⟩:Chart)) k0
  simp only [qd,aI,qa,<- q0,<- q1] at this
  first|exact this|(simp only [zF,qd,aI,qy,qa,<- q0,<- q1];exact this)
 ·exact h.elim
def Q4:=jv @ty3 (jv @vJ (jv @jm (jv @Qa (jv @jC (jv @ti3.eq_1 (jv @yI.eq_1 (jv @wY.eq_1 (jv @xQ.eq_1 @je.eq_1))))))))
def WF:=jv @aI.eq_1 (@aB.eq_1)
def Qd8 (c:Chart) (hc:c.cabins.length<=maxLen) (hs:c.sold.length<=100000):FnV prog 46 [qd c] (aI (zt c)):=by
 have env:=qA (A:=fun _=>True) (kC ercar (kC ertks kN))
 refine kV (Fn0 func46 rfl (fun vs w=>by kernel_rfl) (by kernel_rfl)) (by simp) (by simp [AV.ids,AV.idsL,qd,qa]) ?_
 have ec:(⟨c.cabins,c.secs,c.sold⟩:Chart)=c:=rfl
 rw [QbO]
 obtain ⟨e,he⟩:∃ e,Qm c=e:=⟨_,rfl⟩
 by_cases h0:e=0
 ·have hok:=Qj1 (he.trans h0)
  rw [h0] at he
  rw [he,if_neg (by decide)]
  by_cases h8:8 < c.sold.length
  ·rw [if_pos h8]
   have d1:decide ((8:Int) < (c.sold.length:Int))=true:=decide_eq_true (by omega)
   repeat' first|(apply nx;with_reducible constructor)|apply jq (by decide)|((first|apply jz env|apply jw);intro Q hQ;simp only [vkt,seval,Q4,WF,qd,qa,mTk,qC,U9,hc,ec,he,d1,decide_true,ite_and];(repeat' first|with_reducible assumption|apply jv|intro hp);all_goals first|(apply hQ;clear hQ Q)|(apply jx;kernel_rfl)|omega|assumption|rfl|skip)
   (simp only [vrt,results46,vkt,seval,WF];refine Fin.val rfl ?_;(try simp only [AV.le]))
   all_goals first|rfl|simp
  ·rw [if_neg h8]
   have d1:decide ((8:Int) < (c.sold.length:Int))=false:=decide_eq_false (by omega)
   have h100:c.sold.length<=100:=by omega
   repeat' first|(apply nx;with_reducible constructor)|apply jq (by decide)|((first|apply jz env|apply jw);intro Q hQ;simp only [vkt,seval,Q4,WF,qd,qa,mTk,qC,U9,Qif,hc,ec,he,d1,hok,h100,decide_true,ite_and];(repeat' first|with_reducible assumption|apply jv|intro hp);all_goals first|(apply hQ;clear hQ Q)|(apply jx;kernel_rfl)|omega|assumption|rfl|skip)
   (simp only [vrt,results46,vkt,seval,WF];refine Fin.val rfl ?_;(try simp only [AV.le]))
   all_goals first|rfl|simp
 ·rw [he,if_pos h0]
  have d0:decide (e=0)=false:=decide_eq_false h0
  repeat' first|(apply nx;with_reducible constructor)|apply jq (by decide)|((first|apply jz env|apply jw);intro Q hQ;simp only [vkt,seval,Q4,WF,qd,qa,mTk,qC,U9,hc,ec,he,d0,ite_and];(repeat' first|with_reducible assumption|apply jv|intro hp);all_goals first|(apply hQ;clear hQ Q)|(apply jx;kernel_rfl)|omega|assumption|rfl|skip)
  (simp only [vrt,results46,vkt,seval,WF];refine Fin.val rfl ?_;(try simp only [AV.le]))
  all_goals first|rfl|simp
def Wq:List AV->Prop × AV
 |[.agg [.sl c0,.v (.int .i64 c1),.sl c2]]=>(c0=(c0.map qh).map qx/\c2=(c2.map dTk).map eTk/\((⟨(c0.map qh),c1,(c2.map dTk)⟩:Chart)).cabins.length<=maxLen/\((⟨(c0.map qh),c1,(c2.map dTk)⟩:Chart)).sold.length<=100000,aI (zt ((⟨(c0.map qh),c1,(c2.map dTk)⟩:Chart))))
 |_=>(False,.junk)
def Qc1 {A:Frm->Prop}:qm A prog 46 (zw true Wq):=qL fun vs hv h=>by
 clear hv
 unfold Wq at h ⊢
 split at h
 ·rename_i c0 c1 c2;obtain ⟨q0,q1,k0,k1⟩:=h
  refine ⟨by first|trivial|(repeat' split) <;> simp [AV.plain,AV.plainL,aI,aB,qz,qc,qy,qw,aTk,cTk],fun _=>(by simp [AV.flat,aI]), ?_⟩
  have:=Qd8 ((⟨(c0.map qh),c1,(c2.map dTk)⟩:Chart)) k0 k1
  simp only [qd,aI,qa,<- q0,<- q1] at this
  first|exact this|(simp only [zF,qd,aI,qy,qa,<- q0,<- q1];exact this)
 ·exact h.elim
def YP:=jv @ty3 (jv @ZF (jv @vJ (jv @jm (jv @ZC (jv @jC (jv @ti3.eq_1 (jv @Qv.eq_1 (jv @yI.eq_1 (jv @wY.eq_1 (jv @Qz.eq_1 @je.eq_1))))))))))
def QcK:=jv @aI.eq_1 (@aB.eq_1)
def QhA (c:Chart):FnV prog 7 [qd c] (aB (decide (20 < (c.cabins.length:Int)) || decide (20 < (c.sold.length:Int)))):=by
 have env:=qA (A:=fun _=>True) kN
 refine kV (Fn0 func7 rfl (fun vs w=>by kernel_rfl) (by kernel_rfl)) (by simp) (by simp [AV.ids,AV.idsL,qd,qa]) ?_
 cases q:decide (20 < (c.cabins.length:Int)) with
 |true =>
  repeat' first|(apply nx;with_reducible constructor)|apply jq (by decide)|((first|apply jz env|apply jw);intro Q hQ;simp only [vkt,seval,YP,qd,qa,q,ite_and];(repeat' first|with_reducible assumption|apply jv|intro hp);all_goals first|(apply hQ;clear hQ Q)|(apply jx;kernel_rfl)|omega|assumption|rfl|skip)
  (simp only [vrt,results7,vkt,seval,QcK];refine Fin.val rfl ?_;(try simp only [AV.le]))
  all_goals first|rfl|simp
 |false =>
  repeat' first|(apply nx;with_reducible constructor)|apply jq (by decide)|((first|apply jz env|apply jw);intro Q hQ;simp only [vkt,seval,YP,qd,qa,q,ite_and];(repeat' first|with_reducible assumption|apply jv|intro hp);all_goals first|(apply hQ;clear hQ Q)|(apply jx;kernel_rfl)|omega|assumption|rfl|skip)
  (simp only [vrt,results7,vkt,seval,QcK];refine Fin.val rfl ?_;(try simp only [AV.le]))
  all_goals first|rfl|simp
def YM:List AV->Prop × AV
 |[.agg [.sl c0,.v (.int .i64 c1),.sl c2]]=>(c0=(c0.map qh).map qx/\c2=(c2.map dTk).map eTk,aB (decide (20 < ((((⟨(c0.map qh),c1,(c2.map dTk)⟩:Chart)).cabins.length:Nat):Int)) || decide (20 < ((((⟨(c0.map qh),c1,(c2.map dTk)⟩:Chart)).sold.length:Nat):Int))))
 |_=>(False,.junk)
def Qmr {A:Frm->Prop}:qm A prog 7 (zw true YM):=qL fun vs hv h=>by
 clear hv
 unfold YM at h ⊢
 split at h
 ·rename_i c0 c1 c2;obtain ⟨q0,q1⟩:=h
  refine ⟨by first|trivial|(repeat' split) <;> simp [AV.plain,AV.plainL,aI,aB,qz,qc,qy,qw,aTk,cTk],fun _=>(by simp [AV.flat,aB]), ?_⟩
  have:=QhA ((⟨(c0.map qh),c1,(c2.map dTk)⟩:Chart))
  simp only [qd,qa,<- q0,<- q1] at this
  first|exact this|(simp only [zF,qd,aI,qy,qa,<- q0,<- q1];exact this)
 ·exact h.elim
end Go.Sym.B
