/- Walks and what they compute, joined: part 2. -/
import Derived.Test.YtcmfagpdahhfpaaGreatDoorWS3
import Derived.Test.YtcmfagpdahhfpaaGreatDoorProg
import Derived.KernelRfl
import Derived.Shelf.Strings.OnBuilder
import Derived.Shelf.Strconv.Itoa3
import Derived.Shelf.Strconv.AtoiAll
import Derived.Shelf.Strings.Split
import Derived.Shelf.Strings.Cut
import Derived.Test.YtcmfagpdahhfpaaGreatDoorWB1
set_option linter.all false
set_option maxRecDepth 100000
set_option maxHeartbeats 40000000
namespace Go.Sym.B
open Go Go.Sym Go.Proofs Go.Proofs.Tryz Go.Sym.C
def Qj7 (r:List DV) (n:Nat) (hr:r.length=2) (h1:1<=n) (h2:n<=2000):Fn noB prog 159 [.sl [r],aI n] noH (.row 0) (qf [(0,.row 191 2 (List.replicate n r))]) 0:=by
 have env:=qz (A:=fun _=>True) (kC e134 kN)
 refine kV (Fn0 func159 rfl (fun vs w=>by kernel_rfl) (by kernel_rfl)) (by simp) (by simp [AV.ids,aI]) ?_
 obtain ⟨w1,w2⟩:=Qg4 (n:=(n:Int)) (by omega) (by omega)
 have w3:IntKind.wrap .u64 1=1:=by decide
 have c1:¬ ((n:Int) < 0):=by omega
 have c2:¬ ((9223372036854775807:Int) < n):=by omega
 have b1:((16:Nat):Int) * n<=140737488355328:=by omega
 have b2:(n:Int)<=maxLen:=by
   have:(2000:Nat)<=maxLen:=by decide
   omega
 repeat' first|(apply nx;with_reducible constructor)|apply jq (by decide)|((first|apply jz env|apply jk);intro Q hQ;simp only [vkt,seval,wL,JE,bJ,Option.getD_none,w1,w2,w3,c1,c2,hr,ite_and];(repeat' first|with_reducible assumption|apply jw|intro hp);all_goals first|(apply hQ;clear hQ Q)|omega|assumption|rfl|(apply jx;kernel_rfl)|skip)
 refine qi (fun m:{ m:Nat // 1<=m/\m<=n }=>repS 191 2 r [.v (.int .i64 0),.v (.int .i64 0)] n m.1 (.sl [r])) (fun m=>n - m.1) ⟨1,ag _,h1⟩ ?_ fun ⟨m,hm1,hm2⟩=>?_
 ·(refine Le.ok some [] ?_;constructor;all_goals (try simp only [vle,vkt,seval,JE]))
  all_goals (first|(simp;omega)|(have:=VI (r:=r) (z:=[.v (.int .i64 0),.v (.int .i64 0)]) h1;simp at this ⊢;first|exact this|(rw [<- this];simp)|omega))
 ·have f1:(Qp r [.v (.int .i64 0),.v (.int .i64 0)] m n).length=n:=LM hm2
  have f2:List.take m (Qp r [.v (.int .i64 0),.v (.int .i64 0)] m n)=List.replicate m r:=QI;have f3:zu 2 (List.replicate m r)=True:=QcO hr
  have f4:=XJ (r:=r) (z:=[.v (.int .i64 0),.v (.int .i64 0)]) hm2 (c:=min m (n - m)) rfl;have f5:List.take m (List.drop 0 (Qp r [.v (.int .i64 0),.v (.int .i64 0)] m n))=List.replicate m r:=QI
  rw [f2] at f4
  repeat' first|(apply nx;with_reducible constructor)|apply jq (by decide)
  (apply jz env;intro Q hQ;simp only [vkt,seval,wL,JE,f1,ite_and];(repeat' first|with_reducible assumption|apply jw|intro hp);all_goals first|(apply hQ;clear hQ Q)|omega|assumption|rfl|(apply jx;kernel_rfl)|skip)
  repeat' first|(apply nx;with_reducible constructor)|apply jq (by decide)
  (refine zg (by simp only [vkt,seval];rfl) (fun h=>?_) (fun h=>?_) <;> (try simp only [vki] at h))
  ·have hlt:m < n:=by omega
   have hmi:(m:Int) < (n:Int):=by omega
   have e9:IntKind.wrap .i64 ((m:Int)+((min m (n - m):Nat):Int))=((m+min m (n - m):Nat):Int):=by rw [wrap64 (by omega) (by omega)];omega
   repeat' first|(apply nx;with_reducible constructor)|apply jq (by decide)|((first|apply jz env|apply jk);intro Q hQ;simp only [vkt,seval,wL,bJ,bw,f1,f2,f3,hmi,ite_and];(repeat' first|with_reducible assumption|apply jw|intro hp);all_goals first|(apply hQ;clear hQ Q)|omega|assumption|rfl|(apply jx;kernel_rfl)|skip)
   refine ⟨⟨m+min m (n - m),by omega,by omega⟩,by show n - (m+min m (n - m)) < n - m;omega, ?_⟩
   (refine Le.ok some [] ?_;constructor;all_goals (try simp only [vle,vkt,seval,JE]))
   all_goals (first|(simp [e9];done)|(simp only [f4];done)|(rw [<- f4];simp))
  ·have hmn:m=n:=by omega
   subst hmn;have f6:Qp r [.v (.int .i64 0),.v (.int .i64 0)] m m=List.replicate m r:=by simp [Qp]
   repeat' first|(apply nx;with_reducible constructor)|apply jq (by decide)|((first|apply jz env|apply jk);intro Q hQ;simp only [vkt,seval,ite_and];(repeat' first|with_reducible assumption|apply jw|intro hp);all_goals first|(apply hQ;clear hQ Q)|omega|assumption|rfl|(apply jx;kernel_rfl)|skip)
   (simp only [vrt,results159,vkt,seval];refine Fin.ok some [] ?_ ?_ ?_ ?_ ?_ rfl;all_goals (try simp only [vle,vkt,seval]))
   all_goals simp [f6]
def p87 (S:St):List AV->Option Pk
 |[.row i,.v (.int .i64 n)]=>match S.h i with
  |some (.row _ _ [r])=>some { pre:=r.length=1/\1<=n/\n<=2000,bo:=[i],ar:=[.sl [r],.v (.int .i64 n)],v:=.row 0,L1:=[some (.row 3 1 (List.replicate n.toNat r))] }
  |_=>none
 |_=>none
def e87 {A:Frm->Prop}:qc A prog 113 (fnE p87):=wB fun S bs q h hp=>by
 unfold p87 at h;split at h
 ·split at h
  ·rename_i i n _ _ _ r _
   cases h;have:=rep87 r n.toNat hp.1 (by have:=hp.2;omega) (by have:=hp.2;omega)
   rw [bZ (by have:=hp.2;omega)] at this
   exact this
  ·cases h
 ·cases h
def p137 (S:St):List AV->Option Pk
 |[.row i,.v (.int .i64 n)]=>match S.h i with
  |some (.row _ _ [r])=>some { pre:=r.length=2/\1<=n/\n<=2000,bo:=[i],ar:=[.sl [r],.v (.int .i64 n)],v:=.row 0,L1:=[some (.row 191 2 (List.replicate n.toNat r))] }
  |_=>none
 |_=>none
def e137 {A:Frm->Prop}:qc A prog 159 (fnE p137):=wB fun S bs q h hp=>by
 unfold p137 at h;split at h
 ·split at h
  ·rename_i i n _ _ _ r _
   cases h;have:=Qj7 r n.toNat hp.1 (by have:=hp.2;omega) (by have:=hp.2;omega)
   rw [bZ (by have:=hp.2;omega)] at this
   exact this
  ·cases h
 ·cases h
def QkN {a:Nat} {c:TypeId} {xs ys:List (List DV)}:(∃ e k,AObj.row c a xs=AObj.row e k ys)=(xs=ys):=by
 refine propext ⟨fun ⟨e,k,h⟩=>?_,fun h=>⟨c,a,by rw [h]⟩⟩
 cases h;rfl
def kd (l:Led) (d:Int):Nat:=(l.entries.takeWhile fun x=>decide (x.day<=d)).length
def WN {α:Type} (p:α->Bool):∀ (l:List α) (k:Nat) (d:α),k < (l.takeWhile p).length->p (l.getD k d)=true
 |[],k,d,h=>by simp at h
 |a :: l,k,d,h=>by
  rw [dH] at h;split at h
  ·cases k with
   |zero=>simpa
   |succ k=>simpa using WN p l k d (by simpa using h)
  ·simp at h
def WR {α:Type} (p:α->Bool):∀ (l:List α) (d:α),(l.takeWhile p).length < l.length->p (l.getD (l.takeWhile p).length d)=false
 |[],d,h=>by simp at h
 |a :: l,d,h=>by
  rw [dH] at h ⊢;split
  ·rename_i hp
   rw [if_pos hp] at h
   simpa using WR p l d (by simpa using h)
  ·rename_i hp;simpa using hp
def JK {α:Type} (p q:α->Bool) (h:∀ a,p a=true->q a=true):∀ l:List α,(l.takeWhile p).length<=(l.takeWhile q).length
 |[]=>by simp
 |a :: l=>by
  rw [dH,dH];split
  ·rename_i hp;rw [if_pos (h a hp)];simpa using JK p q h l
  ·simp
def QeH (l:Led) (d:Int):kd l d<=l.entries.length:=List.Sublist.length_le (List.takeWhile_sublist _)
def kd_lt {l:Led} {d:Int} {k:Nat} (h:k < kd l d):(l.entries.getD k default).day<=d:=by simpa using WN _ l.entries k default h
def Qkx {l:Led} {d:Int} (h:kd l d < l.entries.length):¬ (l.entries.getD (kd l d) default).day<=d:=by
 have:=WR (fun x:Ent=>decide (x.day<=d)) l.entries default h
 change decide ((l.entries.getD (kd l d) default).day<=d)=false at this
 simpa only [decide_eq_false_iff_not] using this
def QiI (l:Led) {d e:Int} (h:d<=e):kd l d<=kd l e:=JK _ _ (fun a ha=>by simp at ha ⊢;omega) _
def evH (l:Led) (d:Int):List Int:=(stK l (kd l d)).2
def gT (l:Led) (c d:Nat):Rat:=(rq l ((d:Int)+1) c - rq l d c) * ((evH l d).getD c 0:Int)
def gQ1 (l:Led) (D c:Nat):Rat:=xf ((List.range D).map fun d=>gT l c d)
def QeT (l:Led) (D c:Nat):gQ1 l (D+1) c=gQ1 l D c+gT l c D:=by
 unfold gQ1;rw [bL,ai,aw,aX,Yz]
def kH (l:Led) (D c:Nat):List Rat:=(List.range l.coins.length).map fun i=>if i < c then gQ1 l (D+1) i else gQ1 l D i
def ZI (l:Led):List Rat:=(List.range l.coins.length).map fun i=>gQ1 l (l.rates.length - 1) i
def U2 (l:Led) (D c:Nat):(kH l D c).length=l.coins.length:=by simp [kH]
def QfN {l:Led} {D c:Nat} (h:c < l.coins.length):(kH l D c).getD c 0=gQ1 l D c:=by simp [kH,ah,h]
def QeF {l:Led} {D c:Nat} (h:c < l.coins.length):(kH l D c).set c (gQ1 l D c+gT l c D)=kH l D (c+1):=by
 rw [<- QeT];apply List.ext_getElem
 ·simp [kH]
 ·intro i h1 h2
  simp only [kH,dp,ab,d7] at h1;rw [List.getElem_set]
  split
  ·rename_i e;subst e;simp [kH]
  ·simp only [kH,List.getElem_map,List.getElem_range]
   by_cases hi:i < c
   ·rw [if_pos hi,if_pos (by omega)]
   ·rw [if_neg hi,if_neg (by omega)]
def Qd0 (l:Led) (D:Nat):kH l D l.coins.length=kH l (D+1) 0:=by
 unfold kH;refine bP fun i hi=>?_
 have:=aF.1 hi;rw [if_pos this,if_neg (by omega)]
def QbA (l:Led):(kH l 0 0).map eQ=List.replicate l.coins.length (eQ 0):=by
 unfold kH;rw [bO]
 refine List.eq_replicate_iff.2 ⟨by simp,fun b hb=>?_⟩
 obtain ⟨i,hi,rfl⟩:=aj.1 hb
 simp [gQ1,xf]
def QfW (l:Led) (h:1<=l.rates.length):kH l (l.rates.length - 1) 0=ZI l:=by
 unfold kH ZI;refine bP fun i hi=>?_
 rw [if_neg (by omega)]
def J7 {l:Led} (h:Val l) (k:Nat) (hk:k<=l.entries.length):HasOk l k (stK l k).2:=Yd h.sl h.s k hk fun j hj=>h.es j (by omega)
def QN {l:Led} (h:Val l) {k:Nat} (hk:k < l.entries.length):EntryOk l (l.entries.getD k default) (stK l k).1:=by
 have h0:=h.es k hk;rw [U7] at h0
 unfold eV at h0;split at h0
 ·exact absurd h0 ‹_›
 ·exact QE (Decidable.not_not.1 ‹_›)
def Ui {l:Led} (h:Val l) (k:Nat) (hk:k<=l.entries.length) (c:Nat):0<=(stK l k).2.getD c 0/\(stK l k).2.getD c 0<=6993:=by
 have h1:=J7 h k hk;have:=h.e
 by_cases hc:c < (stK l k).2.length
 ·have:=h1.b _ (jb (d:=0) hc);omega
 ·rw [ah,cr (by omega)];simp
def QjL {l:Led} (h:Val l) {c d:Nat} (hc:c < l.coins.length) (hd:d+1 < l.rates.length):Bd 300000 (gT l c d):=by
 have r1:=kP (xe h (d:=(d:Int)+1) (c:=c) (by omega) (by omega) (by omega) (by omega))
 have r2:=kP (xe h (d:=(d:Int)) (c:=c) (by omega) (by omega) (by omega) (by omega))
 have hb:=Ui h (kd l d) (QeH _ _) c;exact ((r1.sub r2).muli (C:=7000) (n:=(evH l d).getD c 0) (by unfold evH;omega) (by unfold evH;omega)).mono (by decide)
def Qgy {l:Led} (h:Val l) {c D:Nat} (hc:c < l.coins.length) (hd:D < l.rates.length):Bd 900000 (gQ1 l D c):=by
 have:=RD ((List.range D).map fun d=>gT l c d) (B:=300000) fun q hq=>by
  obtain ⟨d,hd',rfl⟩:=aj.1 hq;exact QjL h hc (by have:=aF.1 hd';omega)
 refine this.mono ?_
 have:=h.r
 simp;omega
def gS1 (l:Led) (D k:Nat):St:={ t:=asg [(1,.ptr 0 0),(3,.row 3),(4,.ptr 1 0),(5,aI k),(20,aI ((l.rates.length:Int) - 1)),(21,aI D)],h:=qf [(0,.cells (qY l)),(1,yD l 2),(2,Qb (stK l k).2),(3,.row 191 2 ((kH l D 0).map eQ))],n:=4 }
def gS2 (l:Led) (D k:Nat):St:={ t:=asg [(1,.ptr 0 0),(3,.row 3),(4,.ptr 1 0),(5,aI k),(6,aI D),(20,aI ((l.rates.length:Int) - 1)),(21,aI D)],h:=qf [(0,.cells (qY l)),(1,yD l 2),(2,Qb (stK l k).2),(3,.row 191 2 ((kH l D 0).map eQ))],n:=4 }
def gS3 (l:Led) (D c:Nat):St:={ t:=asg [(1,.ptr 0 0),(3,.row 3),(4,.ptr 1 0),(5,aI (kd l D)),(6,aI D),(20,aI ((l.rates.length:Int) - 1)),(21,aI D),(60,.row 2),(61,aI l.coins.length),(62,aI c)],h:=qf [(0,.cells (qY l)),(1,yD l 2),(2,Qb (evH l D)),(3,.row 191 2 ((kH l D c).map eQ))],n:=4 }
def setQ (l:List Rat) (n:Nat) (q:Rat):(l.map eQ).set n [.v (.int .i64 q.num),.v (.int .i64 q.den)]=(l.set n q).map eQ:=by rw [dD];rfl
def Ql:=jw @xI (jw @xP (jw @vO.eq_1 @vC.eq_1))
def Qaw:=jw @aI.eq_1 (jw @aB.eq_1 (jw @zo.eq_1 (jw @qY.eq_1 (jw @aSh.eq_1 (jw @shQ.eq_1 (jw @c98.eq_1 (jw @c98.eq_2 (jw @s99.eq_1 (jw @s99.eq_2 (jw @Qeo.eq_1 (jw @Qeo.eq_2 (jw @xR (jw @yF (jw @J9 (@Xr)))))))))))))))
def Qgw (l:Led) (d a b n:Int) (h1:Rt l d a) (h2:Rt l d b) (hn:0<=n) (hn':n<=300000):FnV prog 109 [zo l,aI d,aI a,aI b,aI n] (aSh (shQ (rq l d a * n / rq l d b))):=by
 have env:=qz (A:=fun _=>True) (kC d98 (kC e99 (kC e135 kN)))
 refine kV (Fn0 func109 rfl (fun vs w=>by kernel_rfl) (by kernel_rfl)) (by simp) (by simp [AV.ids,AV.idsL,zo,qY,aI]) ?_
 have g1:=kP h1;have g2:=Qk0 g1 (show -300000<=n by omega) (by omega)
 have g3:=(g1.muli (C:=300000) (n:=n) (by omega) (by omega)).sm (by decide)
 have g4:=(kP h2).sm (by decide)
 have g5:0 < (rq l d b).num:=by have:=h2.n0;omega
 have g6:(rq l d b).num<=1048576:=by have:=h2.n1;omega
 repeat' first|(apply nx;with_reducible constructor)|apply jq (by decide)|((first|apply jz env|apply jk);intro Q hQ;simp only [vkt,seval,Ql,Qaw,ite_and];(repeat' first|with_reducible assumption|apply jw|intro hp);all_goals first|(apply hQ;clear hQ Q)|omega|assumption|rfl|(apply jx;kernel_rfl)|skip)
 (simp only [vrt,results109,vkt,seval,Ql,Qaw];refine Fin.val rfl ?_;(try simp only [AV.le,AV.leL]))
 all_goals simp
def c89:List AV->Prop × AV
 |[.agg [.sl cs,.sl rs,.sl ss,.sl es],.v (.int .i64 d),.v (.int .i64 a),.v (.int .i64 b),.v (.int .i64 n)]=>(isL cs rs ss es/\Rt (wJ cs rs ss es) d a/\Rt (wJ cs rs ss es) d b/\0<=n/\n<=300000,aSh (shQ (rq (wJ cs rs ss es) d a * n / rq (wJ cs rs ss es) d b)))
 |_=>(False,.junk)
def d89 {A:Frm->Prop}:qc A prog 109 (zD true c89):=qL fun vs hv h=>by
 clear hv;unfold c89 at h ⊢
 split at h
 ·refine ⟨by simp [AV.plain,AV.plainL,aSh],fun _=>by simp [AV.flat,AV.flatL,aSh], ?_⟩
  rw [<- yC h.1];exact Qgw _ _ _ _ _ h.2.1 h.2.2.1 h.2.2.2.1 h.2.2.2.2
 ·exact h.elim
def jU (l:Led) (d a b n:Int):Int:=if qO l ≠ 0 then qO l else if !inB d 0 ((l.rates.length:Int) - 1) then 3 else if !inB a 0 ((l.coins.length:Int) - 1) then 3 else if !inB b 0 ((l.coins.length:Int) - 1) then 3 else if a=b then 4 else if !inB n 0 999 then 1 else 0
def zY:=jw @ty3 (jw @jK (jw @WU (jw @Zv (jw @Yj (jw @xI (jw @xW (jw @ti3.eq_1 (jw @jr.eq_1 (jw @Zy.eq_1 (jw @Qo.eq_1 (jw @WG.eq_1 (jw @vO.eq_1 @vD.eq_1))))))))))))
def yO:=jw @aI.eq_1 (jw @aB.eq_1 (jw @zo.eq_1 (jw @qY.eq_1 (jw @c50.eq_1 (jw @c50.eq_2 (jw @s79.eq_1 (jw @s79.eq_2 (jw @xR (@yF)))))))))
def Qbn (l:Led) (d a b n:Int) (hl:Fit l):FnV prog 108 [zo l,aI d,aI a,aI b,aI n] (aI (jU l d a b n)):=by
 have env:Env (fun _=>True) prog tyB (tab [(64,zD true c50),(122,zD true s79)]):=qz ⟨d50,e79,trivial⟩
 refine Fn.of (A:=fun _=>True) (n0:=0) (D:=noD) (Fn0 func108 rfl (fun vs w=>by kernel_rfl) (by kernel_rfl)) (by simp) (by simp [AV.ids,AV.idsL,zo,qY,aI]) (fun i o h=>by cases h) (fun _ _ _ _=>trivial) zt ?_
 have q1:=hl.c;have q2:=hl.r
 have w1:IntKind.wrap .i64 ((l.rates.length:Int) - 1)=(l.rates.length:Int) - 1:=wrap64 (by omega) (by omega)
 have w2:IntKind.wrap .i64 ((l.coins.length:Int) - 1)=(l.coins.length:Int) - 1:=wrap64 (by omega) (by omega)
 by_cases c0:qO l=0
 ·cases c1:inB d 0 ((l.rates.length:Int) - 1)
  ·repeat' first|(apply nx;with_reducible constructor)|refine jq (by decide) ?_|((first|refine jz env fun Q hQ=>?_|refine jj fun Q hQ=>?_);simp only [vkt,seval,zY,yO,w1,c0,c1];(try simp only [ite_and]);(repeat' (first|with_reducible assumption|refine ea ?_ ?_|intro hp));all_goals (first|(refine hQ _ ?_;clear hQ Q)|(refine hQ _ (fun h=>?_) (fun h=>?_) <;> clear hQ Q <;> (try simp only [reduceCtorEq] at h))|omega|assumption|rfl|(refine jx ?_;kernel_rfl)|skip))
   (simp only [vrt,results108,vkt,seval,yO];refine Fin.val rfl ?_;(try simp only [AV.le]))
   all_goals simp [jU, *]
  cases c2:inB a 0 ((l.coins.length:Int) - 1)
  ·repeat' first|(apply nx;with_reducible constructor)|refine jq (by decide) ?_|((first|refine jz env fun Q hQ=>?_|refine jj fun Q hQ=>?_);simp only [vkt,seval,zY,yO,w1,w2,c0,c1,c2];(try simp only [ite_and]);(repeat' (first|with_reducible assumption|refine ea ?_ ?_|intro hp));all_goals (first|(refine hQ _ ?_;clear hQ Q)|(refine hQ _ (fun h=>?_) (fun h=>?_) <;> clear hQ Q <;> (try simp only [reduceCtorEq] at h))|omega|assumption|rfl|(refine jx ?_;kernel_rfl)|skip))
   (simp only [vrt,results108,vkt,seval,yO];refine Fin.val rfl ?_;(try simp only [AV.le]))
   all_goals simp [jU, *]
  cases c3:inB b 0 ((l.coins.length:Int) - 1)
  ·repeat' first|(apply nx;with_reducible constructor)|refine jq (by decide) ?_|((first|refine jz env fun Q hQ=>?_|refine jj fun Q hQ=>?_);simp only [vkt,seval,zY,yO,w1,w2,c0,c1,c2,c3];(try simp only [ite_and]);(repeat' (first|with_reducible assumption|refine ea ?_ ?_|intro hp));all_goals (first|(refine hQ _ ?_;clear hQ Q)|(refine hQ _ (fun h=>?_) (fun h=>?_) <;> clear hQ Q <;> (try simp only [reduceCtorEq] at h))|omega|assumption|rfl|(refine jx ?_;kernel_rfl)|skip))
   (simp only [vrt,results108,vkt,seval,yO];refine Fin.val rfl ?_;(try simp only [AV.le]))
   all_goals simp [jU, *]
  repeat' first|(apply nx;with_reducible constructor)|refine jq (by decide) ?_|((first|refine jz env fun Q hQ=>?_|refine jj fun Q hQ=>?_);simp only [vkt,seval,zY,yO,w1,w2,c0,c1,c2,c3];(try simp only [ite_and]);(repeat' (first|with_reducible assumption|refine ea ?_ ?_|intro hp));all_goals (first|(refine hQ _ ?_;clear hQ Q)|(refine hQ _ (fun h=>?_) (fun h=>?_) <;> clear hQ Q <;> (try simp only [vki,reduceCtorEq] at h))|omega|assumption|rfl|(refine jx ?_;kernel_rfl)|skip))
  all_goals (simp only [vrt,results108,vkt,seval,yO];refine Fin.val rfl ?_;(try simp only [AV.le]))
  all_goals simp [jU, *]
 ·repeat' first|(apply nx;with_reducible constructor)|refine jq (by decide) ?_|((first|refine jz env fun Q hQ=>?_|refine jj fun Q hQ=>?_);simp only [vkt,seval,zY,yO,c0];(try simp only [ite_and]);(repeat' (first|with_reducible assumption|refine ea ?_ ?_|intro hp));all_goals (first|(refine hQ _ ?_;clear hQ Q)|(refine hQ _ (fun h=>?_) (fun h=>?_) <;> clear hQ Q <;> (try simp only [reduceCtorEq] at h))|omega|assumption|rfl|(refine jx ?_;kernel_rfl)|skip))
  (simp only [vrt,results108,vkt,seval,yO];refine Fin.val rfl ?_;(try simp only [AV.le]))
  all_goals simp [jU,c0]
def c106:List AV->Prop × AV
 |[.agg [.sl cs,.sl rs,.sl ss,.sl es],.v (.int .i64 d),.v (.int .i64 a),.v (.int .i64 b),.v (.int .i64 n)]=>(isL cs rs ss es/\Fit (wJ cs rs ss es),aI (jU (wJ cs rs ss es) d a b n))
 |_=>(False,.junk)
def d106 {A:Frm->Prop}:qc A prog 108 (zD true c106):=qL fun vs hv h=>by
 clear hv;unfold c106 at h ⊢
 split at h
 ·refine ⟨trivial,fun _=>trivial, ?_⟩
  rw [<- yC h.1];exact Qbn _ _ _ _ _ h.2
 ·exact h.elim
def QaX {l:Led} {d a b n:Int} (h:jU l d a b n=0):Val l/\Rt l d a/\Rt l d b/\0<=n/\n<=999/\a ≠ b:=by
 unfold jU at h;split at h
 ·exact absurd h ‹_›
 rename_i a1;split at h
 ·exact absurd h (by decide)
 rename_i a2;split at h
 ·exact absurd h (by decide)
 rename_i a3;split at h
 ·exact absurd h (by decide)
 rename_i a4;split at h
 ·exact absurd h (by decide)
 rename_i a5;split at h
 ·exact absurd h (by decide)
 rename_i a6;have nf:∀ {p:Bool},¬ (!p)=true->p=true:=fun h=>by simpa using h
 have hv:=Qv (Decidable.not_not.1 a1);have b2:=zy.1 (nf a2)
 have b3:=zy.1 (nf a3);have b4:=zy.1 (nf a4)
 have b6:=zy.1 (nf a6);exact ⟨hv,xe hv b2.1 b2.2 b3.1 b3.2,xe hv b2.1 b2.2 b4.1 b4.2,b6.1,b6.2,a5⟩
def YO (l:Led) (d a b n:Int):Rat:=rq l d a * n / rq l d b
def YH (l:Led) (d a b n:Int):AV:=if jU l d a b n ≠ 0 then .tup [aI 0,aSh ⟨0,0⟩,aI (jU l d a b n)] else .tup [aI (YO l d a b n).floor,aSh (shQ (YO l d a b n - ((YO l d a b n).floor:Rat))),aI 0]
def QjA {q:Rat} (h:Sm q):FlOk q:=by
 obtain ⟨h1,h2,h3⟩:=h;exact ⟨by omega,by omega,by omega⟩
def yx:=jw @WU (jw @xI (jw @QL (jw @xP (jw @Zy.eq_1 (jw @vO.eq_1 (jw @xS.eq_1 @vC.eq_1))))))
def JM:=jw @aI.eq_1 (jw @aB.eq_1 (jw @zo.eq_1 (jw @qY.eq_1 (jw @aSh.eq_1 (jw @shQ.eq_1 (jw @c106.eq_1 (jw @c106.eq_2 (jw @c89.eq_1 (jw @c89.eq_2 (jw @s90.eq_1 (jw @s90.eq_2 (jw @Ym.eq_1 (jw @Ym.eq_2 (jw @Xj.eq_1 (jw @Xj.eq_2 (jw @xR (jw @yF (jw @J9 (@Xr)))))))))))))))))))
def QiT (l:Led) (d a b n:Int) (hl:Fit l):FnV prog 55 [zo l,aI d,aI a,aI b,aI n] (YH l d a b n):=by
 have env:=qz (A:=fun _=>True) (kC d106 (kC d89 (kC e90 (kC Qe8 (kC e100 kN)))))
 refine kV (Fn0 func55 rfl (fun vs w=>by kernel_rfl) (by kernel_rfl)) (by simp) (by simp [AV.ids,AV.idsL,zo,qY,aI]) ?_
 by_cases c0:jU l d a b n=0
 ·obtain ⟨v1,v2,v3,v4,v5,v6⟩:=QaX c0
  have v5':n<=300000:=by omega
  have hb:=(kP v2).muli (C:=50000) (n:=n) (by omega) (by omega)
  have hq:=Qgn hb (by decide) (by have:=v3.n0;omega) v3.n1 v3.e1
  have hq2:=QeO hq;have hq3:=QjA hq
  rw [show YH l d a b n=_ from if_neg (by rw [c0];simp)]
  repeat' first|(apply nx;with_reducible constructor)|apply jq (by decide)|((first|apply jz env|apply jk);intro Q hQ;simp only [vkt,seval,yx,JM,c0,ite_and];(repeat' first|with_reducible assumption|apply jw|intro hp);all_goals first|(apply hQ;clear hQ Q)|omega|assumption|rfl|(apply jx;kernel_rfl)|skip)
  (simp only [vrt,results55,vkt,seval,yx,JM];refine Fin.val rfl ?_;(try simp only [AV.le,AV.leL]))
  all_goals simp [YO]
 ·rw [show YH l d a b n=_ from if_pos c0]
  repeat' first|(apply nx;with_reducible constructor)|apply jq (by decide)|((first|apply jz env|apply jk);intro Q hQ;simp only [vkt,seval,yx,JM,c0,ite_and];(repeat' first|with_reducible assumption|apply jw|intro hp);all_goals first|(apply hQ;clear hQ Q)|omega|assumption|rfl|(apply jx;kernel_rfl)|skip)
  (simp only [vrt,results55,vkt,seval,yx,JM];refine Fin.val rfl ?_;(try simp only [AV.le,AV.leL]))
  all_goals simp
def c48:List AV->Prop × AV
 |[.agg [.sl cs,.sl rs,.sl ss,.sl es],.v (.int .i64 d),.v (.int .i64 a),.v (.int .i64 b),.v (.int .i64 n)]=>(isL cs rs ss es/\Fit (wJ cs rs ss es),YH (wJ cs rs ss es) d a b n)
 |_=>(False,.junk)
def YL (l:Led) (d a b n:Int):(YH l d a b n).plain/\(YH l d a b n).flat:=by
 unfold YH;split <;> simp [AV.plain,AV.plainL,AV.flat,AV.flatL,aI,aSh]
def d48 {A:Frm->Prop}:qc A prog 55 (zD true c48):=qL fun vs hv h=>by
 clear hv;unfold c48 at h ⊢
 split at h
 ·refine ⟨(YL _ _ _ _ _).1,fun _=>(YL _ _ _ _ _).2, ?_⟩
  rw [<- yC h.1];exact QiT _ _ _ _ _ h.2
 ·exact h.elim
def kM (a:Int) (ps:List Int) (s:Int) (i:Int):Int:=(a * ps.getD i.toNat 0).tmod s
def xM (a:Int) (ps:List Int) (s:Int) (x y:Int):Int:=kM a ps s y - kM a ps s x
structure DvOk (a:Int) (ps:List Int) (s:Int):Prop where
 a:0<=a/\a<=999
 p:∀ p ∈ ps,0<=p/\p<=9
 s:0 < s/\s<=1000
def dvH (a:Int) (ps:List Int) (s:Int):List (Nat × AObj):=[(0,.cells [aI a]),(1,.cells [.sl (ps.map ql)]),(2,.cells [aI s])]
def Lm {a:Int} {ps:List Int} {s:Int} (h:DvOk a ps s) {i:Int} (hi:i.toNat < ps.length):0<=a * ps.getD i.toNat 0/\a * ps.getD i.toNat 0<=8991/\0<=kM a ps s i/\kM a ps s i < s:=by
 have hp:=h.p _ (jb (d:=0) hi);have ha:=h.a
 have hs:=h.s;have h0:0<=a * ps.getD i.toNat 0:=dq ha.1 hp.1
 have h1:a * ps.getD i.toNat 0<=999 * 9:=cF ha.2 hp.2 hp.1 (by decide)
 refine ⟨h0,by omega, ?_⟩
 unfold kM;rw [bX h0]
 exact ⟨cG _ (by omega),cV _ hs.1⟩
def WF:=jw @ty3 (jw @jK (jw @ti3.eq_1 @jr.eq_1))
def UX:=jw @aI.eq_1 (jw @aB.eq_1 (jw @ql.eq_1 (jw @ZG (@dvH.eq_1))))
def QjU (a:Int) (ps:List Int) (s:Int) (h:DvOk a ps s) (x y:Int) (hx:0<=x/\x.toNat < ps.length) (hy:0<=y/\y.toNat < ps.length):Fn noB prog 124 [aI x,aI y,.ptr 0 0,.ptr 1 0,.ptr 2 0] (qf (dvH a ps s)) (aI (xM a ps s x y)) (qf (dvH a ps s)) 0:=by
 have env:=qz (A:=fun _=>True) kN
 refine Fn.of (A:=fun _=>True) (n0:=3) (D:=noD) (Fn0 func124 rfl (fun vs w=>by kernel_rfl) (by kernel_rfl)) (by simp) (by simp [AV.ids,aI]) ?_ (fun _ _ _ _=>trivial) zt ?_
 ·intro i o hi
  have h:=qB hi
  simp [dvH,aI] at h
  rcases h with ⟨rfl,rfl⟩|⟨rfl,rfl⟩|⟨rfl,rfl⟩ <;> simp [AObj.ids,AV.ids,AV.idsL]
 obtain ⟨b1,b2,b3,b4⟩:=Lm h hx.2;obtain ⟨c1,c2,c3,c4⟩:=Lm h hy.2
 have hs:=h.s;have w1:IntKind.wrap .i64 (a * ps.getD x.toNat 0)=a * ps.getD x.toNat 0:=wrap64 (by omega) (by omega)
 have w2:IntKind.wrap .i64 (a * ps.getD y.toNat 0)=a * ps.getD y.toNat 0:=wrap64 (by omega) (by omega)
 have w3:(a * ps.getD y.toNat 0).tmod s=kM a ps s y:=rfl;have w4:(a * ps.getD x.toNat 0).tmod s=kM a ps s x:=rfl
 have w5:IntKind.wrap .i64 (kM a ps s y - kM a ps s x)=xM a ps s x y:=wrap64 (by omega) (by omega)
 have s0:¬ s=0:=by omega
 repeat' first|(apply nx;with_reducible constructor)|apply jq (by decide)|((first|apply jz env|apply jk);intro Q hQ;simp only [vkt,seval,WF,UX,w1,w2,w3,w4,w5,s0,ite_and];(repeat' first|with_reducible assumption|apply jw|intro hp);all_goals first|(apply hQ;clear hQ Q)|omega|assumption|rfl|(apply jx;kernel_rfl)|skip)
 (simp only [vrt,results124,vkt,seval,UX];refine Fin.ok some [] ?_ ?_ ?_ ?_ ?_ rfl;all_goals (try simp only [vle,vkt,seval]))
 all_goals simp
def p81 (S:St):List AV->Option Pk
 |[.v (.int .i64 x),.v (.int .i64 y),.ptr i 0,.ptr j 0,.ptr k 0]=>match S.h i,S.h j,S.h k with
  |some (.cells [.v (.int .i64 a)]),some (.cells [.sl ps]),some (.cells [.v (.int .i64 s)])=>some { pre:=ps=(ps.map qE).map ql/\DvOk a (ps.map qE) s/\(0<=x/\x.toNat < ps.length)/\(0<=y/\y.toNat < ps.length),hs:=[i,j,k],ar:=[.v (.int .i64 x),.v (.int .i64 y),.ptr 0 0,.ptr 1 0,.ptr 2 0],L0:=[.cells [.v (.int .i64 a)],.cells [.sl ps],.cells [.v (.int .i64 s)]],v:=aI (xM a (ps.map qE) s x y),L1:=[some (.cells [.v (.int .i64 a)]),some (.cells [.sl ps]),some (.cells [.v (.int .i64 s)])] }
  |_,_,_=>none
 |_=>none
def e81 {A:Frm->Prop}:qc A prog 124 (fnE p81):=wB fun S bs q h hp=>by
 unfold p81 at h;split at h
 ·split at h
  ·rename_i x y i j k _ _ _ a ps s _ _ _
   cases h;have:=QjU a (ps.map qE) s hp.2.1 x y (by simpa using hp.2.2.1) (by simpa using hp.2.2.2)
   simp only [dvH,aI,<- hp.1] at this;exact this
  ·cases h
 ·cases h
def JI (l:List Int) (j:Nat):List Int:=(l.set (j+1) (l.getD j 0)).set j (l.getD (j+1) 0)
def bub (c:Int->Int->Int):List Int->Nat->List Int
 |l,0=>l
 |l,j+1=>if c (l.getD (j+1) 0) (l.getD j 0) < 0 then bub c (JI l j) j else l
def xJ (c:Int->Int->Int) (l:List Int):Nat->List Int
 |0=>l
 |k+1=>bub c (xJ c l k) (k+1)
def ZA (c:Int->Int->Int) (l:List Int):List Int:=xJ c l (l.length - 1)
def Yr (l:List Int) (j:Nat):(JI l j).length=l.length:=by simp [JI]
def XF {l:List Int} {j:Nat} (h:j+1 < l.length) {P:Int->Prop} (hp:∀ x ∈ l,P x):∀ x ∈ JI l j,P x:=fun x hx=>by
 unfold JI at hx
 rcases bV hx with hx|rfl
 ·rcases bV hx with hx|rfl
  ·exact hp x hx
  ·exact hp _ (jb (by omega))
 ·exact hp _ (jb h)
def QcG {c:Int->Int->Int} {P:Int->Prop}:∀ (j:Nat) (l:List Int),j < l.length->(∀ x ∈ l,P x)->(bub c l j).length=l.length/\∀ x ∈ bub c l j,P x
 |0,l,_,h=>⟨rfl,h⟩
 |j+1,l,hj,h=>by
  rw [bub];split
  ·obtain ⟨h1,h2⟩:=QcG (c:=c) j (JI l j) (by rw [Yr];omega) (XF hj h)
   exact ⟨by rw [h1,Yr],h2⟩
  ·exact ⟨rfl,h⟩
def Jg {c:Int->Int->Int} {P:Int->Prop} {l:List Int} (h:∀ x ∈ l,P x):∀ (k:Nat),k < l.length->(xJ c l k).length=l.length/\∀ x ∈ xJ c l k,P x
 |0,_=>⟨rfl,h⟩
 |k+1,hk=>by
  obtain ⟨h1,h2⟩:=Jg h k (by omega)
  obtain ⟨h3,h4⟩:=QcG (c:=c) (k+1) _ (by rw [h1];omega) h2
  exact ⟨by rw [xJ,h3,h1],h4⟩
def soH (a:Int) (ps:List Int) (s:Int) (l:List Int):List (Nat × AObj):=dvH a ps s++[(3,.row 3 1 (l.map ql))]
def soS1 (a:Int) (ps:List Int) (s:Int) (n i:Nat) (l:List Int):St:={ t:=asg [(0,.row 3),(1,aI 0),(2,aI n),(3,.clo 124 [.ptr 0 0,.ptr 1 0,.ptr 2 0]),(8,aI i)],h:=qf (soH a ps s l),n:=4,m:=4 }
def soS2 (a:Int) (ps:List Int) (s:Int) (n i j:Nat) (l:List Int):St:={ t:=asg [(0,.row 3),(1,aI 0),(2,aI n),(3,.clo 124 [.ptr 0 0,.ptr 1 0,.ptr 2 0]),(8,aI i),(9,aI j)],h:=qf (soH a ps s l),n:=4,m:=4 }
def InI (n:Nat) (x:Int):Prop:=0<=x/\x.toNat < n
def qy:=jw @ty3 (jw @jK (jw @ti3.eq_1 @jr.eq_1))
def jV:=jw @aI.eq_1 (jw @aB.eq_1 (jw @ql.eq_1 (jw @ZG (jw @kE (jw @dvH.eq_1 (jw @soH.eq_1 (jw @soS1.eq_1 (jw @soS2.eq_1 (jw @p81.eq_1 (jw @p81.eq_2 (@Rl)))))))))))
def Qgv (a:Int) (ps:List Int) (s:Int) (h:DvOk a ps s) (l:List Int) (hn:1<=l.length/\l.length<=20) (hl:∀ x ∈ l,InI ps.length x):Fn noB prog 203 [.row 3,aI 0,aI l.length,.clo 124 [.ptr 0 0,.ptr 1 0,.ptr 2 0]] (qf (soH a ps s l)) (.tup []) (qf (soH a ps s (ZA (xM a ps s) l))) 0:=by
 have env:=qz (A:=fun _=>True) (kC e81 kN)
 refine Fn.of (A:=fun _=>True) (n0:=4) (D:=noD) (Fn0 func203 rfl (fun vs w=>by kernel_rfl) (by kernel_rfl)) (by simp) (by simp [AV.ids,AV.idsL,aI]) ?_ (fun _ _ _ _=>trivial) zt ?_
 ·intro i o hi
  have h:=qB hi
  simp [soH,dvH,aI] at h
  rcases h with ⟨rfl,rfl⟩|⟨rfl,rfl⟩|⟨rfl,rfl⟩|⟨rfl,rfl⟩ <;> simp [AObj.ids,AV.ids,AV.idsL]
 generalize hN:l.length=n at *
 repeat' first|(apply nx;with_reducible constructor)|apply jq (by decide)|((first|apply jz env|apply jk);intro Q hQ;simp only [vkt,seval,qy,jV,ite_and];(repeat' first|with_reducible assumption|apply jw|intro hp);all_goals first|(apply hQ;clear hQ Q)|omega|assumption|rfl|(apply jx;kernel_rfl)|skip)
 refine qi (fun i:{ i:Nat // 1<=i/\i<=n }=>soS1 a ps s n i.1 (xJ (xM a ps s) l (i.1 - 1))) (fun i=>n - i.1) ⟨1,ag _,hn.1⟩ ?_ fun ⟨i,hi1,hi2⟩=>?_
 ·(refine Le.ok some [] ?_;constructor;all_goals (try simp only [vle,vkt,seval,jV]))
  all_goals first|rfl|(simp [xJ];done)
 ·obtain ⟨g1,g2⟩:=Jg (c:=xM a ps s) hl (i - 1) (by omega)
  rw [hN] at g1;generalize hQ0:xJ (xM a ps s) l (i - 1)=q at *
  repeat' first|(apply nx;with_reducible constructor)|apply jq (by decide)
  (apply jz env;intro Q hQ;simp only [vkt,seval,qy,jV,ite_and];(repeat' first|with_reducible assumption|apply jw|intro hp);all_goals first|(apply hQ;clear hQ Q)|omega|assumption|rfl|(apply jx;kernel_rfl)|skip)
  repeat' first|(apply nx;with_reducible constructor)|apply jq (by decide)
  (refine zg (by simp only [vkt,seval];rfl) (fun h=>?_) (fun h=>?_) <;> (try simp only [vki] at h))
  ·have hlt:i < n:=by omega
   have hnext:bub (xM a ps s) q i=xJ (xM a ps s) l (i+1 - 1):=by
    rw [<- hQ0,show i+1 - 1=(i - 1)+1 by omega,xJ,show i - 1+1=i by omega]
   have e9:=k9 i (by omega)
   repeat' first|(apply nx;with_reducible constructor)|apply jq (by decide)|((first|apply jz env|apply jk);intro Q hQ;simp only [vkt,seval,ite_and];(repeat' first|with_reducible assumption|apply jw|intro hp);all_goals first|(apply hQ;clear hQ Q)|omega|assumption|rfl|(apply jx;kernel_rfl)|skip)
   refine qi (fun p:{ p:Nat × List Int // p.1<=i/\p.2.length=n/\(∀ x ∈ p.2,InI ps.length x)/\bub (xM a ps s) p.2 p.1=bub (xM a ps s) q i }=>soS2 a ps s n i p.1.1 p.1.2) (fun p=>p.1.1) ⟨(i,q),ag _,g1,g2,rfl⟩ ?_ fun ⟨⟨j,m⟩,hj,hm,hr,hb⟩=>?_
   ·(refine Le.ok some [] ?_;constructor;all_goals (try simp only [vle,vkt,seval,jV]))
    all_goals first|rfl|simp
   ·simp only at hj hm hr hb
    cases j with
    |zero =>
     have c0:¬ ((0:Nat):Int) > 0:=by omega
     have hm':xJ (xM a ps s) l (i+1 - 1)=m:=by rw [<- hnext,<- hb];rfl
     repeat' first|(apply nx;with_reducible constructor)|apply jq (by decide)|((first|apply jz env|apply jk);intro Q hQ;simp only [vkt,seval,qy,jV,e9,ite_and];(repeat' first|with_reducible assumption|apply jw|intro hp);all_goals first|(apply hQ;clear hQ Q)|omega|assumption|rfl|(apply jx;kernel_rfl)|skip)
     refine ⟨⟨i+1,by omega,hlt⟩,by show n - (i+1) < n - i;omega, ?_⟩
     (refine Le.ok some [] ?_;constructor;all_goals (try simp only [vle,vkt,seval,jV]))
     all_goals first|rfl|(rw [hm'];done)|exact congrArg (List.map ql) hm'.symm|(simp [hm',e9];done)
    |succ j =>
     have c0:(0:Int) < ((j+1:Nat):Int):=by omega
     have e8:IntKind.wrap .i64 (((j+1:Nat):Int) - 1)=(j:Int):=by rw [wrap64 (by omega) (by omega)];omega
     have r1:=hr _ (jb (d:=0) (show j+1 < m.length by omega))
     have r2:=hr _ (jb (d:=0) (show j < m.length by omega))
     have r3:=r1.1;have r4:=r1.2
     have r5:=r2.1;have r6:=r2.2
     have k1:=gI0 (show j+1 < m.length by omega)
     have k2:=gI0 (show j < m.length by omega)
     have k4:=gI0 (l:=m.set (j+1) (m.getD j 0)) (n:=j) (by rw [dp];omega)
     by_cases c1:xM a ps s (m.getD (j+1) 0) (m.getD j 0) < 0
     ·have hb2:bub (xM a ps s) m (j+1)=bub (xM a ps s) (JI m j) j:=by rw [bub,if_pos c1]
      repeat' first|(apply nx;with_reducible constructor)|apply jq (by decide)|((first|apply jz env|apply jk);intro Q hQ;simp only [vkt,seval,qy,jV,c0,e8,c1,k1,k2,k4,dp,ite_and];(repeat' first|with_reducible assumption|apply jw|intro hp);all_goals first|(apply hQ;clear hQ Q)|omega|assumption|rfl|(apply jx;kernel_rfl)|skip)
      refine ⟨⟨(j,JI m j),by show j<=i;omega,by rw [Yr];exact hm,XF (by omega) hr,by rw [<- hb2];exact hb⟩,by show j < j+1;omega, ?_⟩
      (refine Le.ok some [] ?_;constructor;all_goals (try simp only [vle,vkt,seval,jV]))
      all_goals first|rfl|(simp [JI,e8,ql];done)
     ·have hm':xJ (xM a ps s) l (i+1 - 1)=m:=by rw [<- hnext,<- hb,bub,if_neg c1]
      repeat' first|(apply nx;with_reducible constructor)|apply jq (by decide)|((first|apply jz env|apply jk);intro Q hQ;simp only [vkt,seval,qy,jV,c0,e8,c1,e9,k1,k2,ite_and];(repeat' first|with_reducible assumption|apply jw|intro hp);all_goals first|(apply hQ;clear hQ Q)|omega|assumption|rfl|(apply jx;kernel_rfl)|skip)
      refine ⟨⟨i+1,by omega,hlt⟩,by show n - (i+1) < n - i;omega, ?_⟩
      (refine Le.ok some [] ?_;constructor;all_goals (try simp only [vle,vkt,seval,jV]))
      all_goals first|rfl|(rw [hm'];done)|exact congrArg (List.map ql) hm'.symm|(simp [hm',e9];done)
  ·have hin:i=n:=by omega
   subst hin
   repeat' first|(apply nx;with_reducible constructor)|apply jq (by decide)|((first|apply jz env|apply jk);intro Q hQ;simp only [vkt,seval,qy,jV,ite_and];(repeat' first|with_reducible assumption|apply jw|intro hp);all_goals first|(apply hQ;clear hQ Q)|omega|assumption|rfl|(apply jx;kernel_rfl)|skip)
   (simp only [vrt,results203,vkt,seval,jV];refine Fin.ok some [] ?_ ?_ ?_ ?_ ?_ rfl;all_goals (try simp only [vle,vkt,seval]))
   all_goals simp [ZA,hN,hQ0]
def p147 (S:St):List AV->Option Pk
 |[.row r,.v (.int .i64 z),.v (.int .i64 n),.clo 124 [.ptr i 0,.ptr j 0,.ptr k 0]]=>match S.h i,S.h j,S.h k,S.h r with
  |some (.cells [.v (.int .i64 a)]),some (.cells [.sl ps]),some (.cells [.v (.int .i64 s)]),some (.row 3 1 l)=>some { pre:=ps=(ps.map qE).map ql/\DvOk a (ps.map qE) s/\l=(l.map qE).map ql/\(1<=l.length/\l.length<=20)/\(∀ x ∈ l.map qE,InI ps.length x)/\z=0/\n=l.length,hs:=[i,j,k,r],ar:=[.row 3,.v (.int .i64 z),.v (.int .i64 n),.clo 124 [.ptr 0 0,.ptr 1 0,.ptr 2 0]],L0:=[.cells [.v (.int .i64 a)],.cells [.sl ps],.cells [.v (.int .i64 s)],.row 3 1 l],v:=.tup [],L1:=[some (.cells [.v (.int .i64 a)]),some (.cells [.sl ps]),some (.cells [.v (.int .i64 s)]),some (.row 3 1 ((ZA (xM a (ps.map qE) s) (l.map qE)).map ql))] }
  |_,_,_,_=>none
 |_=>none
def e147 {A:Frm->Prop}:qc A prog 203 (fnE p147):=wB fun S bs q h hp=>by
 unfold p147 at h;split at h
 ·split at h
  ·rename_i r z n i j k _ _ _ _ a ps s l _ _ _ _
   cases h;obtain ⟨h1,h2,h3,h4,h5,h6,h7⟩:=hp
   subst h6 h7;have:=Qgv a (ps.map qE) s h2 (l.map qE) (by simpa using h4) (by simpa using h5)
   simp only [soH,dvH,aI,<- h1,<- h3,ab] at this;exact this
  ·cases h
 ·cases h
def jl:=jw @ty3 @ti3.eq_1
def QQ:=jw @aI.eq_1 (jw @aB.eq_1 (jw @dvH.eq_1 (jw @soH.eq_1 (jw @p147.eq_1 (jw @p147.eq_2 (jw @kE (@InI.eq_1)))))))
def Qek (a:Int) (ps:List Int) (s:Int) (h:DvOk a ps s) (l:List Int) (hn:1<=l.length/\l.length<=19) (hl:∀ x ∈ l,InI ps.length x):Fn noB prog 163 [.row 3,aI l.length,.clo 124 [.ptr 0 0,.ptr 1 0,.ptr 2 0]] (qf (soH a ps s l)) (.tup []) (qf (soH a ps s (ZA (xM a ps s) l))) 0:=by
 have env:=qz (A:=fun _=>True) (kC e147 kN)
 refine Fn.of (A:=fun _=>True) (n0:=4) (D:=noD) (Fn0 func163 rfl (fun vs w=>by kernel_rfl) (by kernel_rfl)) (by simp) (by simp [AV.ids,AV.idsL,aI]) ?_ (fun _ _ _ _=>trivial) zt ?_
 ·intro i o hi
  have h:=qB hi
  simp [soH,dvH,aI] at h
  rcases h with ⟨rfl,rfl⟩|⟨rfl,rfl⟩|⟨rfl,rfl⟩|⟨rfl,rfl⟩ <;> simp [AObj.ids,AV.ids,AV.idsL]
 have hl':∀ x ∈ l,0<=x/\x.toNat < ps.length:=hl;have c1:¬ (20:Int)<=(l.length:Int):=by omega
 have c2:¬ (20:Int) < (l.length:Int):=by omega
 have hn1:=hn.1;have hn2:l.length<=20:=by omega
 repeat' first|(apply nx;with_reducible constructor)|apply jq (by decide)|((first|apply jz env|apply jk);intro Q hQ;simp only [vkt,seval,QQ,ite_and];(repeat' first|with_reducible assumption|apply jw|intro hp);all_goals first|(apply hQ;clear hQ Q)|omega|assumption|rfl|(apply jx;kernel_rfl)|skip)
 refine qi (fun _:Unit=>{ t:=asg [(0,.row 3),(1,aI l.length),(2,.clo 124 [.ptr 0 0,.ptr 1 0,.ptr 2 0]),(6,aI 20),(7,aI 0),(8,aI 20)],h:=qf (soH a ps s l),n:=4,m:=4 }) (fun _=>0) () ?_ fun _=>?_
 ·(refine Le.ok some [] ?_;constructor;all_goals (try simp only [vle,vkt,seval,QQ]))
  all_goals first|rfl|simp
 ·repeat' first|(apply nx;with_reducible constructor)|apply jq (by decide)|((first|apply jz env|apply jk);intro Q hQ;simp only [vkt,seval,jl,QQ,c1,ite_and];(repeat' first|with_reducible assumption|apply jw|intro hp);all_goals first|(apply hQ;clear hQ Q)|omega|assumption|rfl|(apply jx;kernel_rfl)|skip)
  refine qi (fun _:Unit=>{ t:=asg [(0,.row 3),(1,aI l.length),(2,.clo 124 [.ptr 0 0,.ptr 1 0,.ptr 2 0]),(6,aI 20)],h:=qf (soH a ps s (ZA (xM a ps s) l)),n:=4,m:=4 }) (fun _=>0) () ?_ fun _=>?_
  ·(refine Le.ok some [] ?_;constructor;all_goals (try simp only [vle,vkt,seval,QQ]))
   all_goals first|rfl|simp
  ·repeat' first|(apply nx;with_reducible constructor)|apply jq (by decide)|((first|apply jz env|apply jk);intro Q hQ;simp only [vkt,seval,jl,QQ,c2,ite_and];(repeat' first|with_reducible assumption|apply jw|intro hp);all_goals first|(apply hQ;clear hQ Q)|omega|assumption|rfl|(apply jx;kernel_rfl)|skip)
   (simp only [vrt,results163,vkt,seval,QQ];refine Fin.ok some [] ?_ ?_ ?_ ?_ ?_ rfl;all_goals (try simp only [vle,vkt,seval]))
   all_goals simp
def p133 (S:St):List AV->Option Pk
 |[.row r,.v (.int .i64 n),.clo 124 [.ptr i 0,.ptr j 0,.ptr k 0]]=>match S.h i,S.h j,S.h k,S.h r with
  |some (.cells [.v (.int .i64 a)]),some (.cells [.sl ps]),some (.cells [.v (.int .i64 s)]),some (.row 3 1 l)=>some { pre:=ps=(ps.map qE).map ql/\DvOk a (ps.map qE) s/\l=(l.map qE).map ql/\(1<=l.length/\l.length<=19)/\(∀ x ∈ l.map qE,InI ps.length x)/\n=l.length,hs:=[i,j,k,r],ar:=[.row 3,.v (.int .i64 n),.clo 124 [.ptr 0 0,.ptr 1 0,.ptr 2 0]],L0:=[.cells [.v (.int .i64 a)],.cells [.sl ps],.cells [.v (.int .i64 s)],.row 3 1 l],v:=.tup [],L1:=[some (.cells [.v (.int .i64 a)]),some (.cells [.sl ps]),some (.cells [.v (.int .i64 s)]),some (.row 3 1 ((ZA (xM a (ps.map qE) s) (l.map qE)).map ql))] }
  |_,_,_,_=>none
 |_=>none
def e133 {A:Frm->Prop}:qc A prog 163 (fnE p133):=wB fun S bs q h hp=>by
 unfold p133 at h;split at h
 ·split at h
  ·rename_i r n i j k _ _ _ _ a ps s l _ _ _ _
   cases h;obtain ⟨h1,h2,h3,h4,h5,h7⟩:=hp
   subst h7;have:=Qek a (ps.map qE) s h2 (l.map qE) (by simpa using h4) (by simpa using h5)
   simp only [soH,dvH,aI,<- h1,<- h3,ab] at this;exact this
  ·cases h
 ·cases h
def yA (f:Nat->Int):Nat->Int
 |0=>0
 |k+1=>yA f k+f k
def YY {f:Nat->Int} {c:Int}:∀ {k:Nat},(∀ i,i < k->0<=f i/\f i<=c)->0<=yA f k/\yA f k<=k * c
 |0,_=>by simp [yA]
 |k+1,h=>by
  obtain ⟨h1,h2⟩:=YY (f:=f) (k:=k) fun i hi=>h i (by omega)
  have h3:=h k (by omega)
  rw [yA,Int.natCast_succ,Int.add_mul];omega
def Xh (f:Nat->Int) (c:Int):∀ k,yA (fun i=>c * f i) k=c * yA f k
 |0=>by simp [yA]
 |k+1=>by rw [yA,yA,Xh f c k,Int.mul_add]
def LV (f g:Nat->Int):∀ k,yA (fun i=>f i+g i) k=yA f k+yA g k
 |0=>by simp [yA]
 |k+1=>by rw [yA,yA,yA,LV f g k];omega
def VF {f g:Nat->Int}:∀ {k:Nat},(∀ i,i < k->f i=g i)->yA f k=yA g k
 |0,_=>rfl
 |k+1,h=>by rw [yA,yA,VF fun i hi=>h i (by omega),h k (by omega)]
def vN (ps:List Int):Int:=yA (fun i=>ps.getD i 0) ps.length
def QB (ps:List Int) (k:Nat):Int:=if !inB (ps.getD k 0) 0 9 then 1 else 0
def xL (a:Int) (ps:List Int):Int:=if qR ps.length 1 6 ≠ 0 then qR ps.length 1 6 else if zS (errs ps.length (QB ps)) ≠ 0 then zS (errs ps.length (QB ps)) else if !inB a 0 999 then 1 else if vN ps=0 then 11 else 0
def xE (a:Int) (ps:List Int) (i:Nat):Int:=(a * ps.getD i 0).tdiv (vN ps)
def vQ (a:Int) (ps:List Int) (k:Nat):List Int:=(List.range k).map (xE a ps)
def Jv (k:Nat):List Int:=(List.range k).map fun i:Nat=>(i:Int)
def VH (a:Int) (ps:List Int) (k:Nat):vQ a ps (k+1)=vQ a ps k++[xE a ps k]:=by unfold vQ;rw [bL,ai];rfl
def Qd8 (k:Nat):Jv (k+1)=Jv k++[(k:Int)]:=by unfold Jv;rw [bL,ai];rfl
def kg (a:Int) (ps:List Int) (k:Nat):(vQ a ps k).length=k:=by simp [vQ]
def Jy (k:Nat):(Jv k).length=k:=by simp [Jv]
def jy (a:Int) (ps:List Int) (k:Nat):Int:=a - yA (xE a ps) k
def WT (out ord:List Int):Nat->List Int
 |0=>out
 |k+1=>(WT out ord k).set (ord.getD k 0).toNat ((WT out ord k).getD (ord.getD k 0).toNat 0+1)
def V7 (out ord:List Int):∀ k,(WT out ord k).length=out.length
 |0=>rfl
 |k+1=>by rw [WT,dp,V7 out ord k]
def wX (a:Int) (ps:List Int):List Int:=ZA (xM a ps (vN ps)) (Jv ps.length)
def Qbk (a:Int) (ps:List Int):List Int:=WT (vQ a ps ps.length) (wX a ps) (jy a ps ps.length).toNat
def vH (a:Int) (ps:List Int):AV:=if xL a ps ≠ 0 then .tup [.sl [],aI (xL a ps)] else .tup [qj (Qbk a ps),aI 0]
structure SpOk (a:Int) (ps:List Int):Prop where
 l:1<=ps.length/\ps.length<=6
 d:DvOk a ps (vN ps)
def JB {a:Int} {ps:List Int} (h:SpOk a ps) {i:Nat} (hi:i < ps.length):a * ps.getD i 0=vN ps * xE a ps i+kM a ps (vN ps) i/\0<=xE a ps i/\xE a ps i<=8991:=by
 obtain ⟨h1,h2,h3,h4⟩:=Lm h.d (i:=(i:Int)) (by rw [aR];exact hi)
 rw [aR] at h1 h2;have hs:=h.d.s
 unfold xE kM;rw [aR,dx h1,bX h1]
 refine ⟨(dn _ _).symm,Int.ediv_nonneg h1 (by omega), ?_⟩
 exact bQ (dA _ h1) h2
def QhX {a:Int} {ps:List Int} (h:SpOk a ps):0<=jy a ps ps.length/\jy a ps ps.length < ps.length:=by
 have h1:a * vN ps=vN ps * yA (xE a ps) ps.length+yA (fun i=>kM a ps (vN ps) i) ps.length:=by
  rw [<- Xh (xE a ps),<- LV,show a * vN ps=yA (fun i=>a * ps.getD i 0) ps.length from (Xh _ _ _).symm]
  exact VF fun i hi=>(JB h hi).1
 have hr:∀ i,i < ps.length->0<=kM a ps (vN ps) i/\kM a ps (vN ps) i<=vN ps - 1:=fun i hi=>by
  obtain ⟨_,_,h3,h4⟩:=Lm h.d (i:=(i:Int)) (by rw [aR];exact hi)
  exact ⟨h3,by omega⟩
 obtain ⟨h2,h3⟩:=YY hr;have hs:=h.d.s.1
 have hl:=h.l.1;have e1:vN ps * jy a ps ps.length=yA (fun i=>kM a ps (vN ps) i) ps.length:=by
  unfold jy;rw [cH,Int.mul_comm (vN ps) a];omega
 refine ⟨?_, ?_⟩
 ·rcases Int.lt_or_le (jy a ps ps.length) 0 with hc|hc
  ·have:=Int.mul_neg_of_pos_of_neg hs hc;omega
  ·exact hc
 ·rcases Int.lt_or_le (jy a ps ps.length) ps.length with hc|hc
  ·exact hc
  ·have h4:vN ps * (ps.length:Int)<=vN ps * jy a ps ps.length:=dB hc (by omega)
   rw [cH,Int.mul_comm (ps.length:Int) (vN ps)] at h3;omega
def QbI (n:Nat):∀ x ∈ Jv n,InI n x:=fun x hx=>by
 obtain ⟨j,hj,rfl⟩:=aj.1 hx;have:=aF.1 hj
 exact ⟨by omega,by rw [aR];exact this⟩
def sorted_in {a:Int} {ps:List Int} (h:SpOk a ps):(wX a ps).length=ps.length/\∀ x ∈ wX a ps,InI ps.length x:=by
 have h1:=h.l.1;obtain ⟨h2,h3⟩:=Jg (c:=xM a ps (vN ps)) (QbI ps.length) ((Jv ps.length).length - 1) (by rw [Jy];omega)
 exact ⟨by rw [wX,ZA,h2,Jy],h3⟩
def Uw {a:Int} {ps:List Int} (h:SpOk a ps) {k:Nat} (hk:k<=ps.length):-100000<=jy a ps k/\jy a ps k<=999:=by
 obtain ⟨h1,h2⟩:=YY (f:=xE a ps) (k:=k) fun i hi=>⟨(JB h (by omega)).2.1,(JB h (by omega)).2.2⟩
 have:=h.d.a;have:=h.l.2
 unfold jy;omega
def vv:=jw @ty3 (jw @jK (jw @ti3.eq_1 @jr.eq_1))
def Qap:=jw @aI.eq_1 (jw @aB.eq_1 (jw @dvH.eq_1 (jw @soH.eq_1 (jw @p133.eq_1 (jw @p133.eq_2 (jw @kE (@InI.eq_1)))))))
def QhB (a:Int) (ps:List Int) (s:Int) (h:DvOk a ps s) (l:List Int) (hn:1<=l.length/\l.length<=19) (hl:∀ x ∈ l,InI ps.length x):Fn noB prog 123 [.row 3,.clo 124 [.ptr 0 0,.ptr 1 0,.ptr 2 0]] (qf (soH a ps s l)) (.tup []) (qf (soH a ps s (ZA (xM a ps s) l))) 0:=by
 have env:=qz (A:=fun _=>True) (kC e133 kN)
 refine Fn.of (A:=fun _=>True) (n0:=4) (D:=noD) (Fn0 func123 rfl (fun vs w=>by kernel_rfl) (by kernel_rfl)) (by simp) (by simp [AV.ids,AV.idsL]) ?_ (fun _ _ _ _=>trivial) zt ?_
 ·intro i o hi
  have h:=qB hi
  simp [soH,dvH,aI] at h
  rcases h with ⟨rfl,rfl⟩|⟨rfl,rfl⟩|⟨rfl,rfl⟩|⟨rfl,rfl⟩ <;> simp [AObj.ids,AV.ids,AV.idsL]
 have hl':∀ x ∈ l,0<=x/\x.toNat < ps.length:=hl;have hn1:=hn.1
 have hn2:=hn.2
 repeat' first|(apply nx;with_reducible constructor)|apply jq (by decide)|((first|apply jz env|apply jk);intro Q hQ;simp only [vkt,seval,vv,Qap,ite_and];(repeat' first|with_reducible assumption|apply jw|intro hp);all_goals first|(apply hQ;clear hQ Q)|omega|assumption|rfl|(apply jx;kernel_rfl)|skip)
 (simp only [vrt,results123,vkt,seval,Qap];refine Fin.ok some [] ?_ ?_ ?_ ?_ ?_ rfl;all_goals (try simp only [vle,vkt,seval]))
 all_goals simp
def p80 (S:St):List AV->Option Pk
 |[.row r,.clo 124 [.ptr i 0,.ptr j 0,.ptr k 0]]=>match S.h i,S.h j,S.h k,S.h r with
  |some (.cells [.v (.int .i64 a)]),some (.cells [.sl ps]),some (.cells [.v (.int .i64 s)]),some (.row 3 1 l)=>some { pre:=ps=(ps.map qE).map ql/\DvOk a (ps.map qE) s/\l=(l.map qE).map ql/\(1<=l.length/\l.length<=19)/\(∀ x ∈ l.map qE,InI ps.length x),hs:=[i,j,k,r],ar:=[.row 3,.clo 124 [.ptr 0 0,.ptr 1 0,.ptr 2 0]],L0:=[.cells [.v (.int .i64 a)],.cells [.sl ps],.cells [.v (.int .i64 s)],.row 3 1 l],v:=.tup [],L1:=[some (.cells [.v (.int .i64 a)]),some (.cells [.sl ps]),some (.cells [.v (.int .i64 s)]),some (.row 3 1 ((ZA (xM a (ps.map qE) s) (l.map qE)).map ql))] }
  |_,_,_,_=>none
 |_=>none
def e80 {A:Frm->Prop}:qc A prog 123 (fnE p80):=wB fun S bs q h hp=>by
 unfold p80 at h;split at h
 ·split at h
  ·rename_i r i j k _ _ _ _ a ps s l _ _ _ _
   cases h;obtain ⟨h1,h2,h3,h4,h5⟩:=hp
   have:=QhB a (ps.map qE) s h2 (l.map qE) (by simpa using h4) (by simpa using h5)
   simp only [soH,dvH,aI,<- h1,<- h3] at this;exact this
  ·cases h
 ·cases h
def VP (l:Led) (i:Nat):Bool:=decide ((l.entries.getD i default).kind=3) && !decide ((YO l (l.entries.getD i default).day (l.entries.getD i default).coin (l.entries.getD i default).to (l.entries.getD i default).amount).floor=(l.entries.getD i default).got)
def QeS (l:Led) (i:Nat):VP l i=(decide ((l.entries.getD i default).kind=3) && !decide ((YO l (l.entries.getD i default).day (l.entries.getD i default).coin (l.entries.getD i default).to (l.entries.getD i default).amount).floor=(l.entries.getD i default).got)):=rfl
def Ve (l:Led) (k:Nat):List Int:=((List.range k).filter (VP l)).map fun i:Nat=>(i:Int)
def Uc (l:Led):List Int:=Ve l l.entries.length
def QdP (l:Led) (k:Nat):Ve l (k+1)=if VP l k=true then Ve l k++[(k:Int)] else Ve l k:=by
 unfold Ve;rw [bL,List.filter_append]
 split
 ·rename_i h;simp [h]
 ·rename_i h;simp [h]
def LK (l:Led) (k:Nat):(Ve l k).length<=k:=by
 unfold Ve;rw [ab]
 exact bj (dY _ _) (by simp)
def QbR {l:Led} (h:Val l) {k:Nat} (hk:k < l.entries.length):EntryOk l (l.entries.getD k default) (stK l k).1:=by
 have h0:=h.es k hk;rw [U7] at h0
 unfold eV at h0;split at h0
 ·exact absurd h0 ‹_›
 ·exact QE (Decidable.not_not.1 ‹_›)
def QaU (l:Led):AV:=if qO l ≠ 0 then .tup [.sl [],aI (qO l)] else .tup [qj (Uc l),aI 0]
def bdS (l:Led) (k:Nat):St:={ t:=asg [(1,.ptr 0 0),(2,.nil),(3,aI 0),(5,.row 1),(14,.sl (l.entries.map wz)),(15,aI l.entries.length),(16,aI k)],h:=qf [(0,.cells (qY l)),(1,.row 3 1 ((Ve l k).map ql))],n:=2 }
def jg:=jw @ty3 (jw @jK (jw @WU (jw @Y9 (jw @xI (jw @kD (jw @ti3.eq_1 (jw @jr.eq_1 (jw @Zy.eq_1 (jw @JZ.eq_1 (jw @vO.eq_1 @vR.eq_1))))))))))
def jW:=jw @aI.eq_1 (jw @aB.eq_1 (jw @zo.eq_1 (jw @qY.eq_1 (jw @aSh.eq_1 (jw @shQ.eq_1 (jw @qj.eq_1 (jw @bdS.eq_1 (jw @c50.eq_1 (jw @c50.eq_2 (jw @c89.eq_1 (jw @c89.eq_2 (jw @s90.eq_1 (jw @s90.eq_2 (jw @xR (jw @yF (jw @J9 (jw @Xr (jw @wz.eq_1 (jw @Qbs (jw @ql.eq_1 (@JA)))))))))))))))))))))
def QkE (l:Led) (hl:Fit l):FnV prog 115 [zo l] (QaU l):=by
 have env:=qz (A:=fun _=>True) (kC d50 (kC d89 (kC e90 kN)))
 refine kV (Fn0 func115 rfl (fun vs w=>by kernel_rfl) (by kernel_rfl)) (by simp) (by simp [AV.ids,AV.idsL,zo,qY]) ?_
 by_cases c0:qO l=0
 ·rw [show QaU l=_ from if_neg (by rw [c0];simp)]
  have hV:=Qv c0;have q4:=hV.e
  have q5:=Vh
  repeat' first|(apply nx;with_reducible constructor)|apply jq (by decide)|((first|apply jz env|apply jk);intro Q hQ;simp only [vkt,seval,jg,jW,c0,ite_and];(repeat' first|with_reducible assumption|apply jw|intro hp);all_goals first|(apply hQ;clear hQ Q)|omega|assumption|rfl|(apply jx;kernel_rfl)|skip)
  refine qi (fun k:{ k:Nat // k<=l.entries.length }=>bdS l k.1) (fun k=>l.entries.length - k.1) ⟨0,af _⟩ ?_ fun ⟨k,hk⟩=>?_
  ·(refine Le.ok (fun j=>if j=0 then some 0 else none) [] ?_;constructor;all_goals (try simp only [vle,vkt,seval,jW]))
   all_goals first|rfl|trivial|(simp [Ve];done)
  ·repeat' first|(apply nx;with_reducible constructor)|apply jq (by decide)
   (apply jz env;intro Q hQ;simp only [vkt,seval,jg,jW,ite_and];(repeat' first|with_reducible assumption|apply jw|intro hp);all_goals first|(apply hQ;clear hQ Q)|omega|assumption|rfl|(apply jx;kernel_rfl)|skip)
   repeat' first|(apply nx;with_reducible constructor)|apply jq (by decide)
   (refine zg (by simp only [vkt,seval];rfl) (fun h=>?_) (fun h=>?_) <;> (try simp only [vki] at h))
   ·have hlt:k < l.entries.length:=by omega
    have hentry:=QbR hV hlt;have hS:=QdP l k
    have hbl:=LK l k;have hle:((Ve l k).length+1) * 8<=140737488355328:=by omega
    have hlm:(Ve l k).length+1<=maxLen:=by omega
    have hB:=QeS l k;generalize hx:l.entries.getD k default=x at *
    have e9:=qP hlt (show l.entries.length<=maxLen by omega)
    by_cases k3:x.kind=3
    ·have r1:=xe hV hentry.day.1 hentry.day.2 hentry.coin.1 hentry.coin.2
     have r2:=xe hV hentry.day.1 hentry.day.2 (hentry.to k3).1 (hentry.to k3).2;have am:=hentry.am
     have am1:0<=x.amount:=am.1;have am2:x.amount<=50000:=by omega
     have hb:=(kP r1).muli (C:=50000) (n:=x.amount) (by omega) (by omega)
     have hq:=QjA (Qgn hb (by decide) (by have:=r2.n0;omega) r2.n1 r2.e1)
     by_cases k4:(rq l x.day x.coin * x.amount / rq l x.day x.to).floor=x.got
     ·have hB':VP l k=false:=by rw [hB,k3];simp [YO,k4]
      repeat' first|(apply nx;with_reducible constructor)|apply jq (by decide)|((first|apply jz env|apply jk);intro Q hQ;simp only [vkt,seval,jg,jW,hx,k3,k4,ite_and];(repeat' first|with_reducible assumption|apply jw|intro hp);all_goals first|(apply hQ;clear hQ Q)|omega|assumption|rfl|(apply jx;kernel_rfl)|skip)
      refine ⟨⟨k+1,hlt⟩,by show l.entries.length - (k+1) < l.entries.length - k;omega, ?_⟩
      (refine Le.ok some [] ?_;constructor;all_goals (try simp only [vle,vkt,seval,jW]))
      all_goals first|rfl|trivial|(simp [hS,hB',e9];done)
     ·have hB':VP l k=true:=by rw [hB,k3];simp [YO,k4]
      repeat' first|(apply nx;with_reducible constructor)|apply jq (by decide)|((first|apply jz env|apply jk);intro Q hQ;simp only [vkt,seval,jg,jW,hx,k3,k4,ite_and];(repeat' first|with_reducible assumption|apply jw|intro hp);all_goals first|(apply hQ;clear hQ Q)|omega|assumption|rfl|(apply jx;kernel_rfl)|skip)
      refine ⟨⟨k+1,hlt⟩,by show l.entries.length - (k+1) < l.entries.length - k;omega, ?_⟩
      (refine Le.ok (fun j=>if j=1 then some 4 else some j) [] ?_;constructor;all_goals (try simp only [vle,vkt,seval,jW]))
      all_goals first|rfl|trivial|(rw [hS,if_pos hB'];simp [ql];done)|(simp [e9];done)
    ·have hB':VP l k=false:=by rw [hB];simp [k3]
     repeat' first|(apply nx;with_reducible constructor)|apply jq (by decide)|((first|apply jz env|apply jk);intro Q hQ;simp only [vkt,seval,jg,jW,hx,k3,ite_and];(repeat' first|with_reducible assumption|apply jw|intro hp);all_goals first|(apply hQ;clear hQ Q)|omega|assumption|rfl|(apply jx;kernel_rfl)|skip)
     refine ⟨⟨k+1,hlt⟩,by show l.entries.length - (k+1) < l.entries.length - k;omega, ?_⟩
     (refine Le.ok some [] ?_;constructor;all_goals (try simp only [vle,vkt,seval,jW]))
     all_goals first|rfl|trivial|(simp [hS,hB',e9];done)
   ·have hkn:k=l.entries.length:=by omega
    subst hkn
    repeat' first|(apply nx;with_reducible constructor)|apply jq (by decide)|((first|apply jz env|apply jk);intro Q hQ;simp only [vkt,seval,ite_and];(repeat' first|with_reducible assumption|apply jw|intro hp);all_goals first|(apply hQ;clear hQ Q)|omega|assumption|rfl|(apply jx;kernel_rfl)|skip)
    (simp only [vrt,results115,vkt,seval,jW];refine Fin.val rfl ?_;(try simp only [AV.le,AV.leL]))
    all_goals exact ⟨⟨_,_,rfl⟩,trivial,trivial⟩
 ·rw [show QaU l=_ from if_pos c0]
  repeat' first|(apply nx;with_reducible constructor)|apply jq (by decide)|((first|apply jz env|apply jk);intro Q hQ;simp only [vkt,seval,jg,jW,c0,ite_and];(repeat' first|with_reducible assumption|apply jw|intro hp);all_goals first|(apply hQ;clear hQ Q)|omega|assumption|rfl|(apply jx;kernel_rfl)|skip)
  (simp only [vrt,results115,vkt,seval,jW];refine Fin.val rfl ?_;(try simp only [AV.le,AV.leL]))
  all_goals simp
def c31:List AV->Prop × AV
 |[.agg [.sl cs,.sl rs,.sl ss,.sl es]]=>(isL cs rs ss es/\Fit (wJ cs rs ss es),QaU (wJ cs rs ss es))
 |_=>(False,.junk)
def d31 {A:Frm->Prop}:qc A prog 115 (zD false c31):=qL fun vs hv h=>by
 clear hv;unfold c31 at h ⊢
 split at h
 ·refine ⟨by unfold QaU;split <;> simp [AV.plain,AV.plainL,aI,qj],fun h=>absurd h (by decide), ?_⟩
  rw [<- yC h.1];exact QkE _ h.2
 ·exact h.elim
def QU (x:Ent):List AV:=[.v (.int .i64 x.day),.v (.int .i64 x.kind),.v (.int .i64 x.coin),.v (.int .i64 x.to),.v (.int .i64 x.amount),.v (.int .i64 x.got)]
def Zw (x:Ent) (p:List Int):Bool:=decide (p.getD 0 0=x.day) && (decide (p.getD 1 0=x.coin) || decide (p.getD 1 0=x.to))
def ja:=jw @ty3 (jw @jK (jw @kD (jw @ti3.eq_1 (jw @jr.eq_1 @vR.eq_1))))
def xA:=jw @aI.eq_1 (jw @aB.eq_1 (jw @qj.eq_1 (jw @QU.eq_1 (jw @ql.eq_1 (@ZG)))))
def QkQ (x:Ent) (p:List Int) (hp:2<=p.length):Fn noB prog 118 [qj p,.ptr 0 0] (qf [(0,.cells (QU x))]) (aB (Zw x p)) (qf [(0,.cells (QU x))]) 0:=by
 have env:=qz (A:=fun _=>True) kN
 refine Fn.of (A:=fun _=>True) (n0:=1) (D:=noD) (Fn0 func118 rfl (fun vs w=>by kernel_rfl) (by kernel_rfl)) (by simp) (by simp [AV.ids,qj]) ?_ (fun _ _ _ _=>trivial) zt ?_
 ·intro i o hi
  have h:=qB hi
  simp at h;obtain ⟨rfl,rfl⟩:=h;simp [QU,AObj.ids,AV.ids,AV.idsL]
 by_cases c1:p.getD 0 0=x.day
 ·by_cases c2:p.getD 1 0=x.coin
  ·repeat' first|(apply nx;with_reducible constructor)|apply jq (by decide)|((first|apply jz env|apply jk);intro Q hQ;simp only [vkt,seval,ja,xA,c1,c2,ite_and];(repeat' first|with_reducible assumption|apply jw|intro hp);all_goals first|(apply hQ;clear hQ Q)|omega|assumption|rfl|(apply jx;kernel_rfl)|skip)
   (simp only [vrt,results118,vkt,seval,xA];refine Fin.ok some [] ?_ ?_ ?_ ?_ ?_ rfl;all_goals (try simp only [vle,vkt,seval]))
   all_goals simp [-List.getD_eq_getElem?_getD,Zw,c1,c2]
  ·by_cases c3:p.getD 1 0=x.to
   ·have c4:¬ x.to=x.coin:=by rw [<- c3];exact c2
    repeat' first|(apply nx;with_reducible constructor)|apply jq (by decide)|((first|apply jz env|apply jk);intro Q hQ;simp only [vkt,seval,ja,xA,c1,c3,c4,ite_and];(repeat' first|with_reducible assumption|apply jw|intro hp);all_goals first|(apply hQ;clear hQ Q)|omega|assumption|rfl|(apply jx;kernel_rfl)|skip)
    (simp only [vrt,results118,vkt,seval,xA];refine Fin.ok some [] ?_ ?_ ?_ ?_ ?_ rfl;all_goals (try simp only [vle,vkt,seval]))
    all_goals simp [-List.getD_eq_getElem?_getD,Zw,c1,c3,c4]
   ·repeat' first|(apply nx;with_reducible constructor)|apply jq (by decide)|((first|apply jz env|apply jk);intro Q hQ;simp only [vkt,seval,ja,xA,c1,c2,c3,ite_and];(repeat' first|with_reducible assumption|apply jw|intro hp);all_goals first|(apply hQ;clear hQ Q)|omega|assumption|rfl|(apply jx;kernel_rfl)|skip)
    (simp only [vrt,results118,vkt,seval,xA];refine Fin.ok some [] ?_ ?_ ?_ ?_ ?_ rfl;all_goals (try simp only [vle,vkt,seval]))
    all_goals simp [-List.getD_eq_getElem?_getD,Zw,c1,c2,c3]
 ·repeat' first|(apply nx;with_reducible constructor)|apply jq (by decide)|((first|apply jz env|apply jk);intro Q hQ;simp only [vkt,seval,ja,xA,c1,ite_and];(repeat' first|with_reducible assumption|apply jw|intro hp);all_goals first|(apply hQ;clear hQ Q)|omega|assumption|rfl|(apply jx;kernel_rfl)|skip)
  (simp only [vrt,results118,vkt,seval,xA];refine Fin.ok some [] ?_ ?_ ?_ ?_ ?_ rfl;all_goals (try simp only [vle,vkt,seval]))
  all_goals simp [-List.getD_eq_getElem?_getD,Zw,c1]
def p93 (S:St):List AV->Option Pk
 |[.sl ps,.ptr t 0]=>match S.h t with
  |some (.cells [.v (.int .i64 a),.v (.int .i64 b),.v (.int .i64 c),.v (.int .i64 d),.v (.int .i64 e),.v (.int .i64 f)])=>some { pre:=ps=(ps.map qE).map ql/\2<=ps.length,hs:=[t],ar:=[.sl ps,.ptr 0 0],L0:=[.cells (QU ⟨a,b,c,d,e,f⟩)],v:=aB (Zw ⟨a,b,c,d,e,f⟩ (ps.map qE)),L1:=[some (.cells (QU ⟨a,b,c,d,e,f⟩))],fl:=true }
  |_=>none
 |_=>none
def e93 {A:Frm->Prop}:qc A prog 118 (fnE p93):=wB fun S bs q h hp=>by
 unfold p93 at h;split at h
 ·split at h
  ·rename_i ps t _ a b c d e f _
   cases h;have:=QkQ ⟨a,b,c,d,e,f⟩ (ps.map qE) (by simpa using hp.2)
   rw [qj,<- hp.1] at this;exact this
  ·cases h
 ·cases h
def Qau (f:List Int->Bool) (l:List (List Int)):Int:=match (List.range l.length).find? fun i=>f (l.getD i []) with
 |some i=>i
 |none=>-1
def QfO {f:List Int->Bool} {l:List (List Int)} {k:Nat} (hk:k < l.length) (h:f (l.getD k [])=true) (hb:∀ j,j < k->f (l.getD j [])=false):Qau f l=k:=by
 unfold Qau;have:(List.range l.length).find? (fun i=>f (l.getD i []))=some k:=by
  rw [dF];exact ⟨h,aF.2 hk,fun j hj=>by simpa using hb j hj⟩
 rw [this]
def XR {f:List Int->Bool} {l:List (List Int)} (hb:∀ j,j < l.length->f (l.getD j [])=false):Qau f l=-1:=by
 unfold Qau;have:(List.range l.length).find? (fun i=>f (l.getD i []))=none:=by
  rw [dG];intro j hj;simpa using hb j (aF.1 hj)
 rw [this]
def Qfp (f:List Int->Bool) (l:List (List Int)):decide (0<=Qau f l)=l.any f:=by
 by_cases h:∃ j,j < l.length/\f (l.getD j [])=true
 ·have h2:l.any f=true:=by
   obtain ⟨j,hj,hf⟩:=h;exact dk.2 ⟨_,jb hj,hf⟩
  rw [h2];unfold Qau
  cases hq:(List.range l.length).find? (fun i=>f (l.getD i [])) with
  |some i=>simp
  |none =>
   obtain ⟨j,hj,hf⟩:=h;have:=dG.1 hq j (aF.2 hj)
   rw [hf] at this;simp at this
 ·have h1:∀ j,j < l.length->f (l.getD j [])=false:=fun j hj=>by
   cases hf:f (l.getD j []) with
   |false=>rfl
   |true=>exact absurd ⟨j,hj,hf⟩ h
  rw [XR h1];have:l.any f=false:=by
   rw [List.any_eq_false];intro x hx
   obtain ⟨j,hj,rfl⟩:=bB hx;have:=h1 j hj
   simpa [ah,hj] using this
  rw [this];rfl
def ixS (ps:List (List Int)) (x:Ent) (k:Nat):St:={ t:=asg [(0,qU ps),(1,.clo 118 [.ptr 0 0]),(4,aI 0),(6,qU ps),(7,aI ps.length),(8,aI k)],h:=qf [(0,.cells (QU x))],n:=1,m:=1 }
def zB:=jw @ty3 (jw @jK (jw @Zv (jw @ti3.eq_1 (jw @jr.eq_1 @Qo.eq_1))))
def xG:=jw @aI.eq_1 (jw @aB.eq_1 (jw @qj.eq_1 (jw @qU.eq_1 (jw @QU.eq_1 (jw @ql.eq_1 (jw @Xi (jw @qG.eq_1 (jw @kE (jw @p93.eq_1 (jw @p93.eq_2 (@ixS.eq_1)))))))))))
def QjY (x:Ent) (ps:List (List Int)) (hl:ps.length<=100) (hp:∀ p ∈ ps,2<=p.length):Fn noB prog 162 [qU ps,.clo 118 [.ptr 0 0]] (qf [(0,.cells (QU x))]) (aI (Qau (Zw x) ps)) (qf [(0,.cells (QU x))]) 0:=by
 have env:=qz (A:=fun _=>True) (kC e93 kN)
 refine Fn.of (A:=fun _=>True) (n0:=1) (D:=noD) (Fn0 func162 rfl (fun vs w=>by kernel_rfl) (by kernel_rfl)) (by simp) (by simp [AV.ids,AV.idsL,qU]) ?_ (fun _ _ _ _=>trivial) zt ?_
 ·intro i o hi
  have h:=qB hi
  simp at h;obtain ⟨rfl,rfl⟩:=h;simp [QU,AObj.ids,AV.ids,AV.idsL]
 have hm:ps.length<=maxLen:=by
   have:(100:Nat)<=maxLen:=by decide
   omega
 repeat' first|(apply nx;with_reducible constructor)|apply jq (by decide)|((first|apply jz env|apply jk);intro Q hQ;simp only [vkt,seval,zB,xG,ite_and];(repeat' first|with_reducible assumption|apply jw|intro hp);all_goals first|(apply hQ;clear hQ Q)|omega|assumption|rfl|(apply jx;kernel_rfl)|skip)
 refine qi (fun k:{ k:Nat // k<=ps.length/\∀ j,j < k->Zw x (ps.getD j [])=false }=>ixS ps x k.1) (fun k=>ps.length - k.1) ⟨0,af _,fun j h=>absurd h (cR _)⟩ ?_ fun ⟨k,hk,hall⟩=>?_
 ·(refine Le.ok some [] ?_;constructor;all_goals (try simp only [vle,vkt,seval,xG]))
  all_goals simp
 ·repeat' first|(apply nx;with_reducible constructor)|apply jq (by decide)
  (apply jz env;intro Q hQ;simp only [vkt,seval,zB,xG,ite_and];(repeat' first|with_reducible assumption|apply jw|intro hp);all_goals first|(apply hQ;clear hQ Q)|omega|assumption|rfl|(apply jx;kernel_rfl)|skip)
  repeat' first|(apply nx;with_reducible constructor)|apply jq (by decide)
  (refine zg (by simp only [vkt,seval];rfl) (fun h=>?_) (fun h=>?_) <;> (try simp only [vki] at h))
  ·have hlt:k < ps.length:=by omega
   have h2:=hp _ (jb (d:=[]) hlt);have e9:=qP hlt hm
   have ex:(⟨x.day,x.kind,x.coin,x.to,x.amount,x.got⟩:Ent)=x:=rfl;cases c1:Zw x (ps.getD k [])
   ·repeat' first|(apply nx;with_reducible constructor)|apply jq (by decide)|((first|apply jz env|apply jk);intro Q hQ;simp only [vkt,seval,zB,xG,ex,c1,ite_and];(repeat' first|with_reducible assumption|apply jw|intro hp);all_goals first|(apply hQ;clear hQ Q)|omega|assumption|rfl|(apply jx;kernel_rfl)|skip)
    refine ⟨⟨k+1,hlt,fun j hj=>?_⟩,by show ps.length - (k+1) < ps.length - k;omega, ?_⟩
    ·rcases bz (bY hj) with h1|h1
     ·exact hall j h1
     ·rw [h1];exact c1
    ·(refine Le.ok some [] ?_;constructor;all_goals (try simp only [vle,vkt,seval,xG]))
     all_goals simp [e9]
   ·have hi:=QfO hlt c1 hall
    repeat' first|(apply nx;with_reducible constructor)|apply jq (by decide)|((first|apply jz env|apply jk);intro Q hQ;simp only [vkt,seval,zB,xG,ex,c1,ite_and];(repeat' first|with_reducible assumption|apply jw|intro hp);all_goals first|(apply hQ;clear hQ Q)|omega|assumption|rfl|(apply jx;kernel_rfl)|skip)
    (simp only [vrt,results162,vkt,seval,xG];refine Fin.ok some [] ?_ ?_ ?_ ?_ ?_ rfl;all_goals (try simp only [vle,vkt,seval]))
    all_goals simp [hi]
  ·have hi:=XR (f:=Zw x) (l:=ps) fun j hj=>hall j (by omega)
   repeat' first|(apply nx;with_reducible constructor)|apply jq (by decide)|((first|apply jz env|apply jk);intro Q hQ;simp only [vkt,seval,ite_and];(repeat' first|with_reducible assumption|apply jw|intro hp);all_goals first|(apply hQ;clear hQ Q)|omega|assumption|rfl|(apply jx;kernel_rfl)|skip)
   (simp only [vrt,results162,vkt,seval,xG];refine Fin.ok some [] ?_ ?_ ?_ ?_ ?_ rfl;all_goals (try simp only [vle,vkt,seval]))
   all_goals simp [hi]
def spH (a:Int) (ps:List Int) (s:Int):List (Nat × AObj):=[(0,.cells [aI a]),(1,.cells [.sl (ps.map ql)]),(2,.cells [aI s])]
def spS1 (a:Int) (ps:List Int) (k:Nat):St:={ t:=asg [(2,.ptr 0 0),(3,.ptr 1 0),(4,.nil),(5,aI 0),(7,.ptr 2 0),(23,.sl (ps.map ql)),(24,aI ps.length),(25,aI k)],h:=qf (spH a ps (yA (fun i=>ps.getD i 0) k)),n:=3 }
def spS2 (a:Int) (ps:List Int) (k:Nat):St:={ t:=asg [(2,.ptr 0 0),(3,.ptr 1 0),(4,.nil),(5,aI 0),(7,.ptr 2 0),(10,.row 3),(11,.row 4),(12,aI (jy a ps k)),(44,.sl (ps.map ql)),(45,aI ps.length),(46,aI k)],h:=qf (spH a ps (vN ps)++[(3,.row 3 1 ((vQ a ps k).map ql)),(4,.row 3 1 ((Jv k).map ql))]),n:=5 }
def spS3 (a:Int) (ps:List Int) (k:Nat):St:={ t:=asg [(2,.ptr 0 0),(3,.ptr 1 0),(4,.nil),(5,aI 0),(7,.ptr 2 0),(10,.row 3),(11,.row 4),(75,.rsl 4 1 0 (jy a ps ps.length).toNat),(76,aI ((jy a ps ps.length).toNat:Nat)),(77,aI k)],h:=qf (spH a ps (vN ps)++[(3,.row 3 1 ((WT (vQ a ps ps.length) (wX a ps) k).map ql)),(4,.row 3 1 ((wX a ps).map ql))]),n:=5 }
def qH:=jw @ty3 (jw @jK (jw @WU (jw @ti3.eq_1 (jw @jr.eq_1 @Zy.eq_1))))
def QcE {out:List Int} {c:Int} (h:∀ x ∈ out,0<=x/\x<=c) (ord:List Int) (ho:∀ x ∈ ord,x.toNat < out.length):∀ k,k<=ord.length->∀ x ∈ WT out ord k,0<=x/\x<=c+k
 |0,_,x,hx=>by have:=h x hx;simp;omega
 |k+1,hk,x,hx=>by
  rw [WT] at hx;have ih:=QcE h ord ho k (by omega)
  rcases bV hx with hx|rfl
  ·have:=ih x hx;omega
  ·have h1:=ho _ (jb (d:=0) (show k < ord.length by omega))
   have:=ih _ (jb (d:=0) (show (ord.getD k 0).toNat < (WT out ord k).length by rw [V7];exact h1))
   omega
def Qft {a:Int} {ps:List Int} (h:SpOk a ps):∀ x ∈ vQ a ps ps.length,0<=x/\x<=8991:=fun x hx=>by
 obtain ⟨j,hj,rfl⟩:=aj.1 hx;have:=JB h (aF.1 hj)
 exact this.2
def zq:=jw @aI.eq_1 (jw @aB.eq_1 (jw @qj.eq_1 (jw @spH.eq_1 (jw @spS1.eq_1 (jw @spS2.eq_1 (jw @spS3.eq_1 (jw @s78.eq_1 (jw @s78.eq_2 (jw @s79.eq_1 (jw @s79.eq_2 (jw @p80.eq_1 (jw @p80.eq_2 (jw @ql.eq_1 (jw @ZG (jw @JA (jw @kE (jw @Rl (@InI.eq_1))))))))))))))))))
def Qgx (a:Int) (ps:List Int) (hm:ps.length<=maxLen):FnV prog 58 [aI a,qj ps] (vH a ps):=by
 have env:=qz (A:=fun _=>True) (kC e78 (kC e79 (kC e80 kN)))
 refine kV (Fn0 func58 rfl (fun vs w=>by kernel_rfl) (by kernel_rfl)) (by simp) (by simp [AV.ids,aI,qj]) ?_
 by_cases h0:qR ps.length 1 6=0
 ·have hl:1<=ps.length/\ps.length<=6:=by unfold qR at h0;split at h0 <;> simp at h0;omega
  repeat' first|(apply nx;with_reducible constructor)|apply jq (by decide)|((first|apply jz env|apply jk);intro Q hQ;simp only [vkt,seval,qH,zq,h0,ite_and];(repeat' first|with_reducible assumption|apply jw|intro hp);all_goals first|(apply hQ;clear hQ Q)|omega|assumption|rfl|(apply jx;kernel_rfl)|skip)
  refine qi (ι:=FI (errs ps.length (QB ps))) (fun i=>spS1 a ps i.k) (fun i=>ps.length - i.k) (FI.zero _) ?_ fun i=>?_
  ·(refine Le.ok some [] ?_;constructor;all_goals (try simp only [vle,vkt,seval,zq]))
   all_goals first|rfl|(simp [FI.zero,yA];done)
  ·have hk:=i.le
   rw [jD] at hk;have hin:∀ j,j < i.k->0<=ps.getD j 0/\ps.getD j 0<=9:=fun j hj=>by
    have:=i.all j hj;rw [QF _ (by omega)] at this
    unfold QB at this;cases hb:inB (ps.getD j 0) 0 9 with
    |true=>exact zy.1 hb
    |false=>rw [hb] at this;simp at this
   have hsb:=YY hin
   repeat' first|(apply nx;with_reducible constructor)|apply jq (by decide)
   (apply jz env;intro Q hQ;simp only [vkt,seval,qH,zq,ite_and];(repeat' first|with_reducible assumption|apply jw|intro hp);all_goals first|(apply hQ;clear hQ Q)|omega|assumption|rfl|(apply jx;kernel_rfl)|skip)
   repeat' first|(apply nx;with_reducible constructor)|apply jq (by decide)
   (refine zg (by simp only [vkt,seval];rfl) (fun h=>?_) (fun h=>?_) <;> (try simp only [vki] at h))
   ·have hlt:i.k < ps.length:=by omega
    have e9:=qP hlt hm
    by_cases c1:inB (ps.getD i.k 0) 0 9=true
    ·have hb:=zy.1 c1
     have e8:IntKind.wrap .i64 (yA (fun i=>ps.getD i 0) i.k+ps.getD i.k 0)=yA (fun i=>ps.getD i 0) (i.k+1):=wrap64 (by omega) (by omega)
     repeat' first|(apply nx;with_reducible constructor)|apply jq (by decide)|((first|apply jz env|apply jk);intro Q hQ;simp only [vkt,seval,qH,zq,c1,e8,ite_and];(repeat' first|with_reducible assumption|apply jw|intro hp);all_goals first|(apply hQ;clear hQ Q)|omega|assumption|rfl|(apply jx;kernel_rfl)|skip)
     refine ⟨i.next hlt (by unfold QB;rw [c1];rfl),by show ps.length - (i.k+1) < _;omega, ?_⟩
     (refine Le.ok some [] ?_;constructor;all_goals (try simp only [vle,vkt,seval,zq]))
     all_goals first|rfl|(simp [FI.next,e9];done)
    ·have c1:inB (ps.getD i.k 0) 0 9=false:=by simpa using c1
     have h1:QB ps i.k=1:=by unfold QB;rw [c1];rfl
     have h2:=i.hit hlt (by rw [h1];decide)
     have h3:xL a ps=1:=by unfold xL;rw [if_neg (by rw [h0];simp),if_pos (by rw [h2,h1];decide),h2,h1]
     rw [show vH a ps=.tup [.sl [],aI 1] by unfold vH;rw [if_pos (by rw [h3];decide),h3]]
     repeat' first|(apply nx;with_reducible constructor)|apply jq (by decide)|((first|apply jz env|apply jk);intro Q hQ;simp only [vkt,seval,qH,zq,c1,ite_and];(repeat' first|with_reducible assumption|apply jw|intro hp);all_goals first|(apply hQ;clear hQ Q)|omega|assumption|rfl|(apply jx;kernel_rfl)|skip)
     (simp only [vrt,results58,vkt,seval,zq];refine Fin.val rfl ?_;(try simp only [AV.le,AV.leL]))
     all_goals simp
   ·have hkn:i.k=ps.length:=by omega
    have hf:=i.last (by omega)
    rw [hkn] at hin hsb;have hps:yA (fun i=>ps.getD i 0) i.k=vN ps:=by rw [hkn];rfl
    by_cases c1:inB a 0 999=true
    ·by_cases c2:vN ps=0
     ·have h3:xL a ps=11:=by unfold xL;rw [if_neg (by rw [h0];simp),if_neg (by rw [hf];simp),if_neg (by rw [c1];simp),if_pos c2]
      rw [show vH a ps=.tup [.sl [],aI 11] by unfold vH;rw [if_pos (by rw [h3];decide),h3]]
      repeat' first|(apply nx;with_reducible constructor)|apply jq (by decide)|((first|apply jz env|apply jk);intro Q hQ;simp only [vkt,seval,qH,zq,hps,c1,c2,ite_and];(repeat' first|with_reducible assumption|apply jw|intro hp);all_goals first|(apply hQ;clear hQ Q)|omega|assumption|rfl|(apply jx;kernel_rfl)|skip)
      (simp only [vrt,results58,vkt,seval,zq];refine Fin.val rfl ?_;(try simp only [AV.le,AV.leL]))
      all_goals simp
     ·have h3:xL a ps=0:=by unfold xL;rw [if_neg (by rw [h0];simp),if_neg (by rw [hf];simp),if_neg (by rw [c1];simp),if_neg c2]
      rw [show vH a ps=.tup [qj (Qbk a ps),aI 0] by unfold vH;rw [if_neg (by rw [h3];decide)]]
      have hok:SpOk a ps:=⟨hl,zy.1 c1,fun p hp=>by
       obtain ⟨j,hj,rfl⟩:=bB hp;have:=hin j hj
       simpa [ah,hj] using this,by
       have:(0:Int)<=vN ps:=hsb.1;have:vN ps<=ps.length * 9:=hsb.2
       omega⟩
      repeat' first|(apply nx;with_reducible constructor)|apply jq (by decide)|((first|apply jz env|apply jk);intro Q hQ;simp only [vkt,seval,qH,zq,hps,c1,c2,ite_and];(repeat' first|with_reducible assumption|apply jw|intro hp);all_goals first|(apply hQ;clear hQ Q)|omega|assumption|rfl|(apply jx;kernel_rfl)|skip)
      refine qi (fun k:{ k:Nat // k<=ps.length }=>spS2 a ps k.1) (fun k=>ps.length - k.1) ⟨0,af _⟩ ?_ fun ⟨k,hk⟩=>?_
      ·(refine Le.ok (fun j=>if j=3 then none else if j=4 then none else some j) [] ?_;constructor;all_goals (try simp only [vle,vkt,seval,zq]))
       all_goals first|rfl|(rw [hps];done)|(simp [vQ,Jv,jy,yA];done)
      ·repeat' first|(apply nx;with_reducible constructor)|apply jq (by decide)
       (apply jz env;intro Q hQ;simp only [vkt,seval,qH,zq,ite_and];(repeat' first|with_reducible assumption|apply jw|intro hp);all_goals first|(apply hQ;clear hQ Q)|omega|assumption|rfl|(apply jx;kernel_rfl)|skip)
       repeat' first|(apply nx;with_reducible constructor)|apply jq (by decide)
       (refine zg (by simp only [vkt,seval];rfl) (fun h=>?_) (fun h=>?_) <;> (try simp only [vki] at h))
       ·have hlt:k < ps.length:=by omega
        have e9:=qP hlt hm;obtain ⟨b1,b2,b3⟩:=JB hok hlt
        obtain ⟨d1,d2,d3,d4⟩:=Lm hok.d (i:=(k:Int)) (by rw [aR];exact hlt)
        rw [aR] at d1 d2;have l1:=Uw hok (k:=k) (by omega)
        have l2:=Uw hok (k:=k+1) hlt;have w1:IntKind.wrap .i64 (a * ps.getD k 0)=a * ps.getD k 0:=wrap64 (by omega) (by omega)
        have w2:(a * ps.getD k 0).tdiv (vN ps)=xE a ps k:=rfl;have w3:IntKind.wrap .i64 (xE a ps k)=xE a ps k:=wrap64 (by omega) (by omega)
        have w4:IntKind.wrap .i64 (jy a ps k - xE a ps k)=jy a ps (k+1):=by
         have:jy a ps (k+1)=jy a ps k - xE a ps k:=by unfold jy;rw [yA];omega
         rw [this];exact wrap64 (by omega) (by omega)
        have r1:(vQ a ps k).map ql++[[.v (.int .i64 (xE a ps k))]]=(vQ a ps (k+1)).map ql:=by rw [VH,ai];rfl
        have r2:(Jv k).map ql++[[.v (.int .i64 (k:Int))]]=(Jv (k+1)).map ql:=by rw [Qd8,ai];rfl
        have r3:=kg a ps k;have r4:=Jy k
        have r5:((vQ a ps (k+1)).map ql).getD k []=[.v (.int .i64 (xE a ps k))]:=by
         rw [gI0 (by rw [kg];omega),VH];simp [ah,kg,ql]
        have r6:=kg a ps (k+1);have m1:(k+1) * 8<=140737488355328/\k+1<=maxLen:=by omega
        repeat' first|(apply nx;with_reducible constructor)|apply jq (by decide)|((first|apply jz env|apply jk);intro Q hQ;simp only [vkt,seval,qH,zq,w1,w2,w3,w4,r1,r2,r3,r4,r5,r6,c2,e9,ite_and];(repeat' first|with_reducible assumption|apply jw|intro hp);all_goals first|(apply hQ;clear hQ Q)|omega|assumption|rfl|(apply jx;kernel_rfl)|skip)
        refine ⟨⟨k+1,hlt⟩,by show ps.length - (k+1) < ps.length - k;omega, ?_⟩
        (refine Le.ok (fun j=>if j=3 then some 6 else if j=4 then some 8 else some j) [] ?_;constructor;all_goals (try simp only [vle,vkt,seval,zq]))
        all_goals first|rfl|(simp [e9];done)
       ·have hke:k=ps.length:=by omega
        subst hke;obtain ⟨l1,l2⟩:=QhX hok
        have l3:((jy a ps ps.length).toNat:Int)=jy a ps ps.length:=bZ l1;have o1:=Jy ps.length
        have o2:=QbI ps.length;have o3:∀ x ∈ Jv ps.length,0<=x/\x.toNat < ps.length:=QbI ps.length
        have hd:=hok.d;have n1:ps.length<=19:=by omega
        have n2:1<=ps.length:=hl.1;have so:ZA (xM a ps (vN ps)) (Jv ps.length)=wX a ps:=rfl
        obtain ⟨s1,s2⟩:=sorted_in hok
        repeat' first|(apply nx;with_reducible constructor)|apply jq (by decide)|((first|apply jz env|apply jk);intro Q hQ;simp only [vkt,seval,qH,zq,o1,so,s1,ite_and];(repeat' first|with_reducible assumption|apply jw|intro hp);all_goals first|(apply hQ;clear hQ Q)|omega|assumption|rfl|(apply jx;kernel_rfl)|skip)
        refine qi (fun k:{ k:Nat // k<=(jy a ps ps.length).toNat }=>spS3 a ps k.1) (fun k=>(jy a ps ps.length).toNat - k.1) ⟨0,af _⟩ ?_ fun ⟨k,hk⟩=>?_
        ·(refine Le.ok some [] ?_;constructor;all_goals (try simp only [vle,vkt,seval,zq]))
         all_goals first|rfl|(simp [];done)
        ·repeat' first|(apply nx;with_reducible constructor)|apply jq (by decide)
         (apply jz env;intro Q hQ;simp only [vkt,seval,qH,zq,ite_and];(repeat' first|with_reducible assumption|apply jw|intro hp);all_goals first|(apply hQ;clear hQ Q)|omega|assumption|rfl|(apply jx;kernel_rfl)|skip)
         repeat' first|(apply nx;with_reducible constructor)|apply jq (by decide)
         (refine zg (by simp only [vkt,seval];rfl) (fun h=>?_) (fun h=>?_) <;> (try simp only [vki] at h))
         ·have hlt:k < (jy a ps ps.length).toNat:=by omega
          have hlt2:k < (wX a ps).length:=by omega
          have hlt3:k < ps.length:=by omega
          have e9:=qP hlt3 hm;obtain ⟨t1,t2⟩:=s2 _ (jb (d:=0) hlt2)
          have x1:(WT (vQ a ps ps.length) (wX a ps) k).length=ps.length:=by rw [V7,kg]
          have k1:=gI0 hlt2;have k2:=gI0 (l:=WT (vQ a ps ps.length) (wX a ps) k) (n:=((wX a ps).getD k 0).toNat) (by omega)
          have vb:=QcE (Qft hok) (wX a ps) (fun x hx=>by rw [kg];exact (s2 x hx).2) k (by omega) _ (jb (d:=0) (show ((wX a ps).getD k 0).toNat < (WT (vQ a ps ps.length) (wX a ps) k).length by omega))
          have e8:IntKind.wrap .i64 ((WT (vQ a ps ps.length) (wX a ps) k).getD ((wX a ps).getD k 0).toNat 0+1)=(WT (vQ a ps ps.length) (wX a ps) k).getD ((wX a ps).getD k 0).toNat 0+1:=wrap64 (by omega) (by omega)
          repeat' first|(apply nx;with_reducible constructor)|apply jq (by decide)|((first|apply jz env|apply jk);intro Q hQ;simp only [vkt,seval,qH,zq,k1,k2,x1,s1,e8,e9,ite_and];(repeat' first|with_reducible assumption|apply jw|intro hp);all_goals first|(apply hQ;clear hQ Q)|omega|assumption|rfl|(apply jx;kernel_rfl)|skip)
          refine ⟨⟨k+1,hlt⟩,by show (jy a ps ps.length).toNat - (k+1) < (jy a ps ps.length).toNat - k;omega, ?_⟩
          (refine Le.ok some [] ?_;constructor;all_goals (try simp only [vle,vkt,seval,zq]))
          all_goals first|rfl|(simp [WT,ql,e9];done)
         ·have hkl:k=(jy a ps ps.length).toNat:=by omega
          subst hkl
          repeat' first|(apply nx;with_reducible constructor)|apply jq (by decide)|((first|apply jz env|apply jk);intro Q hQ;simp only [vkt,seval,ite_and];(repeat' first|with_reducible assumption|apply jw|intro hp);all_goals first|(apply hQ;clear hQ Q)|omega|assumption|rfl|(apply jx;kernel_rfl)|skip)
          (simp only [vrt,results58,vkt,seval,zq];refine Fin.val rfl ?_;(try simp only [AV.le,AV.leL]))
          all_goals first|exact ⟨⟨_,_,rfl⟩,trivial,trivial⟩|(simp [Qbk,qj];done)
    ·have c1:inB a 0 999=false:=by simpa using c1
     have h3:xL a ps=1:=by unfold xL;rw [if_neg (by rw [h0];simp),if_neg (by rw [hf];simp),if_pos (by rw [c1];rfl)]
     rw [show vH a ps=.tup [.sl [],aI 1] by unfold vH;rw [if_pos (by rw [h3];decide),h3]]
     repeat' first|(apply nx;with_reducible constructor)|apply jq (by decide)|((first|apply jz env|apply jk);intro Q hQ;simp only [vkt,seval,qH,zq,c1,ite_and];(repeat' first|with_reducible assumption|apply jw|intro hp);all_goals first|(apply hQ;clear hQ Q)|omega|assumption|rfl|(apply jx;kernel_rfl)|skip)
     (simp only [vrt,results58,vkt,seval,zq];refine Fin.val rfl ?_;(try simp only [AV.le,AV.leL]))
     all_goals simp
 ·have h3:xL a ps=qR ps.length 1 6:=by unfold xL;rw [if_pos h0]
  rw [show vH a ps=.tup [.sl [],aI (qR ps.length 1 6)] by unfold vH;rw [if_pos (by rw [h3];exact h0),h3]]
  repeat' first|(apply nx;with_reducible constructor)|apply jq (by decide)|((first|apply jz env|apply jk);intro Q hQ;simp only [vkt,seval,qH,zq,h0,ite_and];(repeat' first|with_reducible assumption|apply jw|intro hp);all_goals first|(apply hQ;clear hQ Q)|omega|assumption|rfl|(apply jx;kernel_rfl)|skip)
  (simp only [vrt,results58,vkt,seval,zq];refine Fin.val rfl ?_;(try simp only [AV.le,AV.leL]))
  all_goals simp
def c24:List AV->Prop × AV
 |[.v (.int .i64 a),.sl ps]=>(ps=(ps.map qE).map ql/\ps.length<=maxLen,vH a (ps.map qE))
 |_=>(False,.junk)
def d24 {A:Frm->Prop}:qc A prog 58 (zD false c24):=qL fun vs hv h=>by
 clear hv;unfold c24 at h ⊢
 split at h
 ·refine ⟨by unfold vH;split <;> simp [AV.plain,AV.plainL,aI,qj],fun h=>absurd h (by decide), ?_⟩
  have:=Qgx ‹_› _ (show (List.map qE _).length<=maxLen by rw [ab];exact h.2)
  simp only [qj,<- h.1] at this;exact this
 ·exact h.elim
def Zt:=jw @QL @xS.eq_1
def Qaq:=jw @aI.eq_1 (jw @aB.eq_1 (@aSh.eq_1))
def QhP (a b:Int):FnV prog 59 [aI a,aI b] (aSh ⟨a,b⟩):=by
 have env:=qz (A:=fun _=>True) kN
 refine kV (Fn0 func59 rfl (fun vs w=>by kernel_rfl) (by kernel_rfl)) (by simp) (by simp [AV.ids,aI]) ?_
 repeat' first|(apply nx;with_reducible constructor)|apply jq (by decide)|((first|apply jz env|apply jk);intro Q hQ;simp only [vkt,seval,Zt,Qaq,ite_and];(repeat' first|with_reducible assumption|apply jw|intro hp);all_goals first|(apply hQ;clear hQ Q)|omega|assumption|rfl|(apply jx;kernel_rfl)|skip)
 (simp only [vrt,results59,vkt,seval,Zt,Qaq];refine Fin.val rfl ?_;(try simp only [AV.le,AV.leL]))
 all_goals simp
def s40:List AV->Prop × AV
 |[.v (.int .i64 a),.v (.int .i64 b)]=>(True,.agg [.v (.int .i64 a),.v (.int .i64 b)])
 |_=>(False,.junk)
def e40 {A:Frm->Prop}:qc A prog 59 (zD true s40):=qL fun vs _ h=>by
 unfold s40 at h ⊢;split at h
 ·exact ⟨by simp [AV.plain,AV.plainL],fun _=>by simp [AV.flat,AV.flatL],QhP _ _⟩
 ·exact h.elim
def J6 (got:Int):Led:={ coins:=[[1,5,10],[1,2]],rates:=[[⟨1,1⟩,⟨3,2⟩],[⟨1,1⟩,⟨2,1⟩]],start:=[100,10],entries:=[⟨0,1,1,0,20,0⟩,⟨0,3,1,0,15,got⟩,⟨1,2,0,0,30,0⟩,⟨1,4,1,0,14,0⟩] }
def Qg:=jw @ty3 (jw @jK (jw @Zv (jw @Yj (jw @Y9 (jw @xI (jw @xW (jw @QL (jw @kD (jw @ti3.eq_1 (jw @jr.eq_1 (jw @Qo.eq_1 (jw @WG.eq_1 (jw @JZ.eq_1 (jw @vO.eq_1 (jw @vD.eq_1 (jw @xS.eq_1 @vR.eq_1))))))))))))))))
def Lh:=jw @aI.eq_1 (jw @aB.eq_1 (jw @aSh.eq_1 (jw @zo.eq_1 (jw @qY.eq_1 (jw @J6.eq_1 (jw @s40.eq_1 (jw @s40.eq_2 (jw @qG.eq_1 (jw @wM.eq_1 (jw @ql.eq_1 (jw @eSh.eq_1 (@wz.eq_1))))))))))))
def Qdv (g:Int):FnV prog 54 [aI g] (zo (J6 g)):=by
 have env:=qz (A:=fun _=>True) (kC e40 kN)
 refine kV (Fn0 func54 rfl (fun vs w=>by kernel_rfl) (by kernel_rfl)) (by simp) (by simp [AV.ids,aI]) ?_
 have q1:(4:Nat)<=maxLen:=by decide
 repeat' first|(apply nx;with_reducible constructor)|apply jq (by decide)|((first|apply jz env|apply jk);intro Q hQ;simp only [vkt,seval,Qg,Lh,ite_and];(repeat' first|with_reducible assumption|apply jw|intro hp);all_goals first|(apply hQ;clear hQ Q)|omega|assumption|rfl|(apply jx;kernel_rfl)|skip)
 (simp only [vrt,results54,vkt,seval,Qg,Lh];refine Fin.val rfl ?_;(try simp only [AV.le,AV.leL]))
 all_goals first|rfl|exact ⟨⟨_,_,rfl⟩,⟨_,_,rfl⟩,⟨_,_,rfl⟩,⟨_,_,rfl⟩,trivial⟩|exact ⟨⟨_,_,rfl⟩,⟨_,_,rfl⟩,⟨_,_,rfl⟩,⟨_,_,rfl⟩⟩
def c76:List AV->Prop × AV
 |[.v (.int .i64 g)]=>(True,zo (J6 g))
 |_=>(False,.junk)
def d76 {A:Frm->Prop}:qc A prog 54 (zD false c76):=qL fun vs _ h=>by
 unfold c76 at h ⊢;split at h
 ·exact ⟨by simp [AV.plain,AV.plainL,zo,qY],fun h=>absurd h (by decide),Qdv _⟩
 ·exact h.elim
def piL (ps:List Int) (A:Nat):List Int:=pcL ps A ps.length
def Wn (l:Led) (c n:Int):AV:=if xg l c n [] ≠ 0 then .tup [.sl [],aI (xg l c n [])] else .tup [qj (piL (l.coins.getD c.toNat []) n.toNat),aI 0]
def tbG (ps:List Int) (A i:Nat):Nat->AV:=fun j=>if j < i then .nil else .sl ((jM (wu (ps.drop j)) A).map ql)
def tbH (ps:List Int) (A i id:Nat):Nat->AV:=fun j=>if j=i then .row id else tbG ps A (i+1) j
def QcR {g:Nat->AV} {n k:Nat} {v:AV} (h:k < n):List.take (k * 1) (jJ g n)++[v]++List.drop (k * 1+1) (jJ g n)=jJ (fun j=>if j=k then v else g j) n:=by
 rw [bI,bU,db,QaH h]
def Js {g:Nat->AV} {n k:Nat} (h:k < n):List.take 1 (List.drop (k * 1) (jJ g n))=[g k]:=by
 rw [bI,Qeh h]
def yz {ps:List Int} {A i n N:Nat}:∀ id ∈ AV.idsL (jJ (tbG ps A i) n),id < N:=Qaa fun j _ id hid=>by
 unfold tbG at hid;split at hid <;> simp [AV.ids] at hid
def JL {ps:List Int} {A i n r N:Nat} (h:r < N):∀ id ∈ AV.idsL (jJ (tbH ps A i r) n),id < N:=Qaa fun j _ id hid=>by
 unfold tbH tbG at hid;split at hid
 ·simp [AV.ids] at hid;omega
 ·split at hid <;> simp [AV.ids] at hid
def Qu {h:Nat->Option AObj} {Z:Nat->Option Nat} {ps:List Int} {A i n:Nat}:AV.leL h Z (jJ (tbG ps A i) n) (jJ (tbG ps A i) n):=Y7 fun j _=>by
 unfold tbG;split
 ·trivial
 ·exact rfl
def Zd {h:Nat->Option AObj} {Z:Nat->Option Nat} {ps:List Int} {A i n r r':Nat} (hr:Z r'=some r):AV.leL h Z (jJ (tbH ps A i r) n) (jJ (tbH ps A i r') n):=Y7 fun j _=>by
 unfold tbH;split
 ·exact hr
 ·unfold tbG;split
  ·trivial
  ·exact rfl
def Qj8 {h:Nat->Option AObj} {Z:Nat->Option Nat} {ps:List Int} {A n r:Nat} (hr:h r=some (.row 3 1 ((jM (wu []) A).map ql))) (hn:ps.length=n):AV.leL h Z (jJ (fun j=>if j=n then .row r else .nil) (n+1)) (jJ (tbG ps A n) (n+1)):=Y7 fun j hj=>by
 by_cases hjn:j=n
 ·subst hjn;subst hn;simp only [if_true,tbG,Nat.lt_irrefl,if_false,List.drop_length];exact ⟨_,_,by unfold rowAt;rw [hr]⟩
 ·rw [if_neg hjn,tbG,if_pos (by omega)];trivial
def Qkj {h:Nat->Option AObj} {Z:Nat->Option Nat} {ps:List Int} {A i n r:Nat} (hr:h r=some (.row 3 1 ((jM (wu (ps.drop i)) A).map ql))):AV.leL h Z (jJ (tbH ps A i r) n) (jJ (tbG ps A i) n):=Y7 fun j hj=>by
 unfold tbH tbG
 by_cases hji:j=i
 ·subst hji;simp only [if_true,Nat.lt_irrefl,if_false];exact ⟨_,_,by unfold rowAt;rw [hr]⟩
 ·rw [if_neg hji]
  by_cases h1:j < i
  ·rw [if_pos (by omega),if_pos h1];trivial
  ·rw [if_neg (by omega),if_neg h1];exact rfl
def row0 (A:Nat):(List.replicate (A+1) (ql (-1))).set 0 (ql 0)=(jM (wu []) A).map ql:=by
 rw [show List.replicate (A+1) (ql (-1))=(jM (fun _=>-1) A).map ql by
  apply bS
  intro i;simp only [jM,da,aC]
  by_cases h:i < A+1 <;> simp [h]]
 rw [<- dD,Un]
 congr 1
def peH (l:Led) (cs:List AV):List (Nat × AObj):=[(0,.cells (qY l)),(1,.cells cs)]
def peS1 (l:Led) (c:Int) (ps:List Int) (A i:Nat):St:={ t:=asg [(1,aI c),(2,aI A),(3,.ptr 0 0),(9,qj ps),(10,.csl 1 (ps.length+1)),(11,aI ((i:Int) - 1))],h:=qf (peH l (jJ (tbG ps A i) (ps.length+1))),n:=2 }
def peS2 (l:Led) (c:Int) (ps:List Int) (A p i n:Nat):St:={ t:=asg [(1,aI c),(2,aI A),(3,.ptr 0 0),(9,qj ps),(10,.csl 1 (ps.length+1)),(11,aI i),(12,aI n)],h:=qf (peH l (jJ (tbH ps A i 2) (ps.length+1))++[(2,.row 3 1 ((jM (Qq p (wu (ps.drop (i+1))) n) A).map ql))]),n:=3 }
def peS3 (l:Led) (c:Int) (ps:List Int) (A i:Nat):St:={ t:=asg [(1,aI c),(2,aI (pcA ps A i)),(3,.ptr 0 0),(9,qj ps),(10,.csl 1 (ps.length+1)),(14,.row 2),(118,qj ps),(119,aI ps.length),(120,aI i)],h:=qf (peH l (jJ (tbG ps A 0) (ps.length+1))++[(2,.row 3 1 ((pcL ps A i).map ql))]),n:=3 }
def peS4 (l:Led) (c:Int) (ps:List Int) (A i m:Nat):St:={ t:=asg [(1,aI c),(2,aI (pcA ps A i)),(3,.ptr 0 0),(9,qj ps),(10,.csl 1 (ps.length+1)),(14,.row 2),(15,aI i),(16,aI (ps.getD i 0)),(17,aI m),(118,qj ps),(119,aI ps.length),(120,aI i)],h:=qf (peH l (jJ (tbG ps A 0) (ps.length+1))++[(2,.row 3 1 ((pcL ps A i).map ql))]),n:=3 }
def qw:=jw @ty3 (jw @jK (jw @WU (jw @Zv (jw @xI (jw @ti3.eq_1 (jw @jr.eq_1 (jw @Zy.eq_1 (jw @Qo.eq_1 @vO.eq_1))))))))
def qW:=jw @aI.eq_1 (jw @aB.eq_1 (jw @zo.eq_1 (jw @qY.eq_1 (jw @qj.eq_1 (jw @peH.eq_1 (jw @peS1.eq_1 (jw @peS2.eq_1 (jw @peS3.eq_1 (jw @peS4.eq_1 (jw @c86.eq_1 (jw @c86.eq_2 (jw @p87.eq_1 (jw @p87.eq_2 (jw @p88.eq_1 (jw @p88.eq_2 (jw @p88.eq_3 (jw @xR (jw @yF (jw @ql.eq_1 (jw @ZG (jw @JA (jw @kw (jw @kE (jw @xV (jw @qG.eq_1 (jw @Xi (jw @Rl (@Qeu))))))))))))))))))))))))))))
def Qdz (l:Led) (c n:Int) (hl:Fit l):FnV prog 56 [zo l,aI c,aI n] (Wn l c n):=by
 have env:=qz (A:=fun _=>True) (kC d86 (kC e87 (kC e88 kN)))
 refine kV (Fn0 func56 rfl (fun vs w=>by kernel_rfl) (by kernel_rfl)) (by simp) (by simp [AV.ids,AV.idsL,aI,zo,qY]) ?_
 have q0:∀ p ∈ ([]:List (List Int)),p.length<=maxLen:=fun p hp=>by simp at hp
 have q1:(0:Nat)<=maxLen:=af _
 by_cases h0:xg l c n []=0
 ·rw [show Wn l c n=_ from if_neg (by rw [h0];simp)]
  obtain ⟨hV,⟨g1,g2⟩,_,hn0,hn1⟩:=Qe3 h0;obtain ⟨A,rfl⟩:=Int.eq_ofNat_of_zero_le hn0
  rw [aR];generalize hP:l.coins.getD c.toNat []=ps at *
  have hps:PsOk ps:=hP ▸ Qcx (hV.cs _ g2);have hl1:=hps.l
  have w1:IntKind.wrap .i64 ((ps.length:Int)+1)=((ps.length+1:Nat):Int):=by rw [wrap64 (by omega) (by omega)];rfl
  have w2:=k9 A (by omega)
  have w3:List.replicate (ps.length+1) AV.nil=jJ (fun _=>.nil) (ps.length+1):=Qf6 _
  have w4:=QcR (g:=fun _=>.nil) (n:=ps.length+1) (k:=ps.length) (v:=.row 3) (by omega)
  have w5:=Js (g:=fun j=>if j=ps.length then .row 3 else .nil) (n:=ps.length+1) (k:=ps.length) (by omega)
  rw [if_pos rfl] at w5;have w6:(List.replicate (A+1) [.v (.int .i64 (-1))]).set 0 [.v (.int .i64 0)]=(jM (wu []) A).map ql:=row0 A
  have w8:(List.replicate (A+1) [.v (.int .i64 (-1))]).getD 0 []=[DV.v (.int .i64 (-1))]:=by simp [ah]
  have w7:IntKind.wrap .i64 ((ps.length:Int) - 1)=(ps.length:Int) - 1:=wrap64 (by omega) (by omega)
  have big:(100000:Nat)<=maxLen:=by decide
  have b1:((24:Nat):Int) * ((ps.length+1:Nat):Int)<=140737488355328:=by omega
  have b2:((ps.length+1:Nat):Int)<=maxLen:=by
    have:(20:Nat)<=maxLen:=Vh;omega
  repeat' first|(apply nx;with_reducible constructor)|apply jq (by decide)|refine zw ?_|refine zK ?_|refine zJ ?_|refine zL ?_|((first|apply jz env|apply jk);intro Q hQ;simp only [vkt,Nat.reduceEqDiff,Nat.reduceAdd,Nat.reduceMul,Nat.reduceSub,Nat.reduceLeDiff,reduceCtorEq,↓reduceIte,Int.reduceNeg,qw,qW,h0,hP,w1,w2,w3,w4,w5,w6,w7,w8,ite_and];(repeat' first|with_reducible assumption|apply jw|intro hp);all_goals first|(apply hQ;clear hQ Q)|omega|assumption|rfl|(apply jx;kernel_rfl)|skip)
  ·exact ⟨_,_,rfl⟩
  ·rw [bJ];omega
  ·rw [bJ];omega
  have hge:∀ q ∈ ps,1<=q:=fun q hq=>(hps.b q hq).1
  have b3:∀ k:Nat,k < ps.length->ps.getD k 0=(((ps.getD k 0).toNat:Nat):Int)/\1<=(ps.getD k 0).toNat/\(ps.getD k 0).toNat<=50:=fun k hk=>by
   have:=hps.b _ (jb (d:=0) hk);omega
  have nd:∀ k a:Nat,-1<=wu (ps.drop k) a/\wu (ps.drop k) a<=a:=fun k a=>Vw (fun q hq=>hge q (aW hq)) a
  refine qi (fun i:{ i:Nat // i<=ps.length }=>peS1 l c ps A i.1) (fun i=>i.1) ⟨ps.length,ag _⟩ ?_ fun ⟨i,hi⟩=>?_
  ·(refine Le.ok some [3] ?_;constructor;all_goals (try simp only [vle,vkt,Nat.reduceEqDiff,reduceCtorEq,Int.reduceNeg,qW]))
   all_goals first|rfl|(simp [upd];done)|exact yz|exact Qj8 rfl rfl
  ·repeat' first|(apply nx;with_reducible constructor)|apply jq (by decide)|refine zw ?_|refine zK ?_|refine zJ ?_|refine zL ?_
   (apply jz env;intro Q hQ;simp only [vkt,Nat.reduceEqDiff,qw,qW,ite_and];(repeat' first|with_reducible assumption|apply jw|intro hp);all_goals first|(apply hQ;clear hQ Q)|omega|assumption|rfl|(apply jx;kernel_rfl)|skip)
   repeat' first|(apply nx;with_reducible constructor)|apply jq (by decide)|refine zw ?_|refine zK ?_|refine zJ ?_|refine zL ?_
   (refine zg (by simp only [vkt];rfl) (fun h=>?_) (fun h=>?_) <;> (try simp only [vki] at h))
   ·obtain ⟨m,rfl⟩:∃ m,i=m+1:=⟨i - 1,by omega⟩
    have e1:((m+1:Nat):Int) - 1=(m:Int):=by omega
    have e2:=k9 m (by omega)
    have v1:List.take 1 (List.drop ((m+1) * 1) (jJ (tbG ps A (m+1)) (ps.length+1)))=[.sl ((jM (wu (ps.drop (m+1))) A).map ql)]:=by rw [Js (by omega),tbG,if_neg (by omega)]
    have v2:List.take (m * 1) (jJ (tbG ps A (m+1)) (ps.length+1))++[.row 2]++List.drop (m * 1+1) (jJ (tbG ps A (m+1)) (ps.length+1))=jJ (tbH ps A m 2) (ps.length+1):=QcR (by omega)
    obtain ⟨p1,p2,p3⟩:=b3 m (by omega)
    obtain ⟨p,hp⟩:∃ p:Nat,ps.getD m 0=(p:Int):=⟨_,p1⟩;rw [hp,aR] at p2 p3
    have r1:=JY (wu (ps.drop (m+1))) A;have m2:(A+1) * 8<=140737488355328/\A+1<=maxLen:=by omega
    have lt1:m < ps.length:=by omega
    have fl:=nd (m+1);have nm:∀ a,wu (ps.drop m) a=gN p (wu (ps.drop (m+1))) a:=fun a=>by rw [Yh lt1,hp,aR]
    repeat' first|(apply nx;with_reducible constructor)|apply jq (by decide)|refine zw ?_|refine zK ?_|refine zJ ?_|refine zL ?_|((first|apply jz env|apply jk);intro Q hQ;simp only [vkt,Nat.reduceEqDiff,Nat.reduceAdd,Nat.reduceSub,Nat.reduceLeDiff,reduceCtorEq,↓reduceIte,qw,qW,e1,e2,v1,v2,hp,ite_and];(repeat' first|with_reducible assumption|apply jw|intro hp);all_goals first|(apply hQ;clear hQ Q)|omega|assumption|rfl|(apply jx;kernel_rfl)|skip)
    generalize hf:wu (ps.drop (m+1))=f at *;refine qi (fun n:{ n:Nat // p<=n }=>peS2 l c ps A p m n.1) (fun n=>A+1 - n.1) ⟨p,ag _⟩ ?_ fun ⟨n,hn⟩=>?_
    ·(refine Le.ok some [] ?_;constructor;all_goals (try simp only [vle,vkt,Nat.reduceEqDiff,reduceCtorEq,↓reduceIte,qW]))
     all_goals first|rfl|(simp [];done)|exact ⟨Zd rfl,by rw [hf,Qeg]⟩|exact ⟨by decide,JL (by decide)⟩|skip
    ·unfold peS2
     rw [hf]
     repeat' first|(apply nx;with_reducible constructor)|apply jq (by decide)|refine zw ?_|refine zK ?_|refine zJ ?_|refine zL ?_
     (apply jz env;intro Q hQ;simp only [vkt,Nat.reduceEqDiff,qw,qW,ite_and];(repeat' first|with_reducible assumption|apply jw|intro hp);all_goals first|(apply hQ;clear hQ Q)|omega|assumption|rfl|(apply jx;kernel_rfl)|skip)
     repeat' first|(apply nx;with_reducible constructor)|apply jq (by decide)|refine zw ?_|refine zK ?_|refine zJ ?_|refine zL ?_
     (refine zg (by simp only [vkt];rfl) (fun h=>?_) (fun h=>?_) <;> (try simp only [vki] at h))
     ·have hna:n<=A:=by omega
      have hgl:=Qg6 p2 (fun a=>(fl a).1)
      have hgu:=Qje p2 (fun a=>(fl a).2)
      have u1:IntKind.wrap .i64 ((n:Int) - (p:Int))=((n - p:Nat):Int):=by rw [wrap64 (by omega) (by omega)];omega
      have v3:List.take 1 (List.drop (m * 1) (jJ (tbH ps A m 2) (ps.length+1)))=[.row 2]:=by rw [Js (by omega),tbH,if_pos rfl]
      have r2:=JY (Qq p f n) A;have k1:((jM (Qq p f n) A).map ql).getD (n - p) []=[.v (.int .i64 (gN p f (n - p)))]:=by rw [gI0 (by omega),JS (by omega),Qq,if_pos (by omega)];rfl
      have k2:((jM (Qq p f n) A).map ql).getD n []=[.v (.int .i64 (f n))]:=by rw [gI0 (by omega),JS (by omega),Qq,if_neg (by omega)];rfl
      have g1:=hgl (n - p);have g2:=hgu (n - p)
      have u2:IntKind.wrap .i64 (gN p f (n - p)+1)=gN p f (n - p)+1:=wrap64 (by omega) (by omega)
      have u3:=k9 n (by omega)
      have gn:=YK (f:=f) p2 hn;unfold KR at gn
      have stay:¬ (0<=gN p f (n - p)/\(f n < 0\/gN p f (n - p)+1 < f n))->jM (Qq p f n) A=jM (Qq p f (n+1)) A:=fun h=>Qfs (by rw [gn,if_neg h])
      have move:(0<=gN p f (n - p)/\(f n < 0\/gN p f (n - p)+1 < f n))->(jM (Qq p f n) A).set n (gN p f (n - p)+1)=jM (Qq p f (n+1)) A:=fun h=>QiF (by rw [gn,if_pos h])
      by_cases c1:0<=gN p f (n - p)
      ·by_cases c2:f n < 0
       ·have mv:=move ⟨c1,.inl c2⟩
        repeat' first|(apply nx;with_reducible constructor)|apply jq (by decide)|refine zw ?_|refine zK ?_|refine zJ ?_|refine zL ?_|((first|apply jz env|apply jk);intro Q hQ;simp only [vkt,Nat.reduceEqDiff,Nat.reduceLeDiff,reduceCtorEq,↓reduceIte,qw,qW,u1,u2,u3,v3,k1,k2,r2,c1,c2,hp,mv,ite_and];(repeat' first|with_reducible assumption|apply jw|intro hp);all_goals first|(apply hQ;clear hQ Q)|omega|assumption|rfl|(apply jx;kernel_rfl)|skip)
        refine ⟨⟨n+1,by omega⟩,by show A+1 - (n+1) < A+1 - n;omega, ?_⟩
        (refine Le.ok some [] ?_;constructor;all_goals (try simp only [vle,vkt,Nat.reduceEqDiff,reduceCtorEq,↓reduceIte,qW]))
        all_goals first|rfl|(simp [];done)|exact Zd rfl|exact ⟨Zd rfl,by rw [hf]⟩|exact ⟨by decide,JL (by decide)⟩
       ·by_cases c3:gN p f (n - p)+1 < f n
        ·have mv:=move ⟨c1,.inr c3⟩
         repeat' first|(apply nx;with_reducible constructor)|apply jq (by decide)|refine zw ?_|refine zK ?_|refine zJ ?_|refine zL ?_|((first|apply jz env|apply jk);intro Q hQ;simp only [vkt,Nat.reduceEqDiff,Nat.reduceLeDiff,reduceCtorEq,↓reduceIte,qw,qW,u1,u2,u3,v3,k1,k2,r2,c1,c2,c3,hp,mv,ite_and];(repeat' first|with_reducible assumption|apply jw|intro hp);all_goals first|(apply hQ;clear hQ Q)|omega|assumption|rfl|(apply jx;kernel_rfl)|skip)
         refine ⟨⟨n+1,by omega⟩,by show A+1 - (n+1) < A+1 - n;omega, ?_⟩
         (refine Le.ok some [] ?_;constructor;all_goals (try simp only [vle,vkt,Nat.reduceEqDiff,reduceCtorEq,↓reduceIte,qW]))
         all_goals first|rfl|(simp [];done)|exact Zd rfl|exact ⟨Zd rfl,by rw [hf]⟩|exact ⟨by decide,JL (by decide)⟩
        ·have st:=stay fun h=>by omega
         repeat' first|(apply nx;with_reducible constructor)|apply jq (by decide)|refine zw ?_|refine zK ?_|refine zJ ?_|refine zL ?_|((first|apply jz env|apply jk);intro Q hQ;simp only [vkt,Nat.reduceEqDiff,Nat.reduceLeDiff,reduceCtorEq,↓reduceIte,qw,qW,u1,u2,u3,v3,k1,k2,r2,c1,c2,c3,hp,ite_and];(repeat' first|with_reducible assumption|apply jw|intro hp);all_goals first|(apply hQ;clear hQ Q)|omega|assumption|rfl|(apply jx;kernel_rfl)|skip)
         refine ⟨⟨n+1,by omega⟩,by show A+1 - (n+1) < A+1 - n;omega, ?_⟩
         (refine Le.ok some [] ?_;constructor;all_goals (try simp only [vle,vkt,Nat.reduceEqDiff,reduceCtorEq,↓reduceIte,qW]))
         all_goals first|rfl|(simp [];done)|exact ⟨Zd rfl,by rw [st]⟩|exact ⟨Zd rfl,by rw [hf,st]⟩|exact ⟨by decide,JL (by decide)⟩
      ·have st:=stay fun h=>by omega
       repeat' first|(apply nx;with_reducible constructor)|apply jq (by decide)|refine zw ?_|refine zK ?_|refine zJ ?_|refine zL ?_|((first|apply jz env|apply jk);intro Q hQ;simp only [vkt,Nat.reduceEqDiff,Nat.reduceLeDiff,reduceCtorEq,↓reduceIte,qw,qW,u1,u3,v3,k1,r2,c1,hp,ite_and];(repeat' first|with_reducible assumption|apply jw|intro hp);all_goals first|(apply hQ;clear hQ Q)|omega|assumption|rfl|(apply jx;kernel_rfl)|skip)
       refine ⟨⟨n+1,by omega⟩,by show A+1 - (n+1) < A+1 - n;omega, ?_⟩
       (refine Le.ok some [] ?_;constructor;all_goals (try simp only [vle,vkt,Nat.reduceEqDiff,reduceCtorEq,↓reduceIte,qW]))
       all_goals first|rfl|(simp [];done)|exact ⟨Zd rfl,by rw [st]⟩|exact ⟨Zd rfl,by rw [hf,st]⟩|exact ⟨by decide,JL (by decide)⟩
     ·have he:jM (Qq p f n) A=jM (wu (ps.drop m)) A:=by rw [QhF (by omega)];exact kU fun a _=>(nm a).symm
      have u1:IntKind.wrap .i64 ((m:Int) - 1)=(m:Int) - 1:=wrap64 (by omega) (by omega)
      repeat' first|(apply nx;with_reducible constructor)|apply jq (by decide)|refine zw ?_|refine zK ?_|refine zJ ?_|refine zL ?_|((first|apply jz env|apply jk);intro Q hQ;simp only [vkt,Nat.reduceEqDiff,qw,he,u1,ite_and];(repeat' first|with_reducible assumption|apply jw|intro hp);all_goals first|(apply hQ;clear hQ Q)|omega|assumption|rfl|(apply jx;kernel_rfl)|skip)
      refine ⟨⟨m,by omega⟩,by show m < m+1;omega, ?_⟩
      (refine Le.ok some [2] ?_;constructor;all_goals (try simp only [vle,vkt,Nat.reduceEqDiff,reduceCtorEq,qW]))
      all_goals first|rfl|(simp [upd];done)|exact Qkj rfl|exact yz|exact ⟨by decide,yz⟩
   ·have:i=0:=by omega
    subst this;have h00:0<=wu ps A:=QeM hge hps.one hps.l.1 A
    repeat' first|(apply nx;with_reducible constructor)|apply jq (by decide)|refine zw ?_|refine zK ?_|refine zJ ?_|refine zL ?_|((first|apply jz env|apply jk);intro Q hQ;simp only [vkt,Nat.reduceEqDiff,qw,ite_and];(repeat' first|with_reducible assumption|apply jw|intro hp);all_goals first|(apply hQ;clear hQ Q)|omega|assumption|rfl|(apply jx;kernel_rfl)|skip)
    refine qi (fun i:{ i:Nat // i<=ps.length }=>peS3 l c ps A i.1) (fun i=>ps.length - i.1) ⟨0,af _⟩ ?_ fun ⟨i,hi⟩=>?_
    ·(refine Le.ok (fun j=>if j=2 then none else some j) [] ?_;constructor;all_goals (try simp only [vle,vkt,Nat.reduceEqDiff,reduceCtorEq,↓reduceIte,qW]))
     all_goals first|rfl|(simp [];done)|exact Qu|exact ⟨Qu,rfl⟩|exact yz|exact ⟨by decide,yz⟩|exact ⟨rfl,rfl⟩
    ·repeat' first|(apply nx;with_reducible constructor)|apply jq (by decide)|refine zw ?_|refine zK ?_|refine zJ ?_|refine zL ?_
     (apply jz env;intro Q hQ;simp only [vkt,Nat.reduceEqDiff,qw,qW,ite_and];(repeat' first|with_reducible assumption|apply jw|intro hp);all_goals first|(apply hQ;clear hQ Q)|omega|assumption|rfl|(apply jx;kernel_rfl)|skip)
     repeat' first|(apply nx;with_reducible constructor)|apply jq (by decide)|refine zw ?_|refine zK ?_|refine zJ ?_|refine zL ?_
     (refine zg (by simp only [vkt];rfl) (fun h=>?_) (fun h=>?_) <;> (try simp only [vki] at h))
     ·have lt1:i < ps.length:=by omega
      obtain ⟨p1,p2,p3⟩:=b3 i lt1;obtain ⟨p,hp⟩:∃ p:Nat,ps.getD i 0=(p:Int):=⟨_,p1⟩
      rw [hp,aR] at p2 p3;generalize hf:wu (ps.drop (i+1))=f at *
      obtain ⟨q1,q2⟩:=Qfa hge h00 i hi;have nm:=Yh lt1 (pcA ps A i)
      rw [hp,aR,hf] at nm;have fl:=nd (i+1)
      rw [hf] at fl;have hM:pcM ps A i=yH p f (pcA ps A i):=by unfold pcM;rw [hp,aR,hf]
      have hN:pcA ps A (i+1)=pcA ps A i - yH p f (pcA ps A i) * p:=by rw [pcA,hp,aR,hf]
      have hS:=QgJ ps A i;rw [hM] at hS
      have hLn:=Qiu ps A i;generalize hq:pcA ps A i=a at *
      rw [nm] at q1;have hsp:=Z5 p2 q1
      unfold Q5 at hsp;simp only [aZ,decide_eq_true_eq] at hsp
      repeat' first|(apply nx;with_reducible constructor)|apply jq (by decide)|refine zw ?_|refine zK ?_|refine zJ ?_|refine zL ?_|((first|apply jz env|apply jk);intro Q hQ;simp only [vkt,Nat.reduceEqDiff,qw,qW,ite_and];(repeat' first|with_reducible assumption|apply jw|intro hp);all_goals first|(apply hQ;clear hQ Q)|omega|assumption|rfl|(apply jx;kernel_rfl)|skip)
      refine qi (fun m:{ m:Nat // m<=yH p f a/\∀ j,j < m->Q5 p f a j=false }=>peS4 l c ps A i m.1) (fun m=>yH p f a - m.1) ⟨0,af _,fun j h=>absurd h (cR _)⟩ ?_ fun ⟨m,hm,hno⟩=>?_
      ·(refine Le.ok some [] ?_;constructor;all_goals (try simp only [vle,vkt,Nat.reduceEqDiff,reduceCtorEq,↓reduceIte,qW]))
       all_goals first|rfl|(simp [hq];done)|exact Qu|exact ⟨Qu,rfl⟩|exact yz|exact ⟨by decide,yz⟩|exact ⟨rfl,rfl⟩
      ·have hmp:m * p<=yH p f a * p:=aG p hm
       have hmm:m<=m * p:=Nat.le_mul_of_pos_right m p2;have u1:IntKind.wrap .i64 ((m:Int) * (p:Int))=((m * p:Nat):Int):=by rw [<- Int.natCast_mul,wrap64 (by omega) (by omega)]
       have u2:IntKind.wrap .i64 ((a:Int) - ((m * p:Nat):Int))=((a - m * p:Nat):Int):=by rw [wrap64 (by omega) (by omega)];omega
       have u3:=k9 i (by omega)
       have v1:List.take 1 (List.drop ((i+1) * 1) (jJ (tbG ps A 0) (ps.length+1)))=[.sl ((jM f A).map ql)]:=by rw [Js (by omega),tbG,if_neg (by omega),hf]
       have v2:List.take 1 (List.drop (i * 1) (jJ (tbG ps A 0) (ps.length+1)))=[.sl ((jM (wu (ps.drop i)) A).map ql)]:=by rw [Js (by omega),tbG,if_neg (by omega)]
       have r1:=JY f A;have r2:=JY (wu (ps.drop i)) A
       have k1:(jM f A).getD (a - m * p) 0=f (a - m * p):=JS (by omega)
       have k2:(jM (wu (ps.drop i)) A).getD a 0=gN p f a:=by rw [JS (by omega),nm]
       have g1:=fl (a - m * p);have u4:IntKind.wrap .i64 (f (a - m * p)+(m:Int))=f (a - m * p)+(m:Int):=wrap64 (by omega) (by omega)
       have u5:=k9 m (by omega)
       have cap:(i+1) * 8<=140737488355328/\i+1<=maxLen:=by omega
       have la:a<=A:=q2;unfold peS4
       rw [hq,hp];cases hh:Q5 p f a m
       ·have hlt:m < yH p f a:=by
         rcases bz hm with h|h
         ·exact h
         ·have:=Z5 p2 q1;rw [<- h,hh] at this;cases this
        have hn:¬ (0<=f (a - m * p)/\f (a - m * p)+(m:Int)=gN p f a):=fun h=>by
         have:Q5 p f a m=true:=by unfold Q5;simp only [aZ,decide_eq_true_eq];exact ⟨⟨by omega,h.1⟩,h.2⟩
         rw [hh] at this;cases this
        by_cases c1:0<=f (a - m * p)
        ·have c2:¬ f (a - m * p)+(m:Int)=gN p f a:=fun h=>hn ⟨c1,h⟩
         repeat' first|(apply nx;with_reducible constructor)|apply jq (by decide)|refine zw ?_|refine zK ?_|refine zJ ?_|refine zL ?_|((first|apply jz env|apply jk);intro Q hQ;simp only [vkt,Nat.reduceEqDiff,Nat.reduceLeDiff,reduceCtorEq,↓reduceIte,qw,qW,u1,u2,u3,u4,u5,v1,v2,k1,k2,r1,r2,c1,c2,ite_and];(repeat' first|with_reducible assumption|apply jw|intro hp);all_goals first|(apply hQ;clear hQ Q)|omega|assumption|rfl|(apply jx;kernel_rfl)|skip)
         refine ⟨⟨m+1,hlt,fun j hj=>?_⟩,by show yH p f a - (m+1) < yH p f a - m;omega, ?_⟩
         ·rcases bz (bY hj) with h1|h1
          ·exact hno j h1
          ·rw [h1];exact hh
         ·(refine Le.ok some [] ?_;constructor;all_goals (try simp only [vle,vkt,Nat.reduceEqDiff,reduceCtorEq,↓reduceIte,qW]))
          all_goals first|rfl|(simp [];done)|exact Qu|exact ⟨Qu,rfl⟩|exact yz|exact ⟨by decide,yz⟩|exact ⟨hq.symm ▸ rfl,hp.symm ▸ rfl⟩|(simp [upd,hq,hp];done)
        ·repeat' first|(apply nx;with_reducible constructor)|apply jq (by decide)|refine zw ?_|refine zK ?_|refine zJ ?_|refine zL ?_|((first|apply jz env|apply jk);intro Q hQ;simp only [vkt,Nat.reduceEqDiff,Nat.reduceLeDiff,reduceCtorEq,↓reduceIte,qw,qW,u1,u2,u3,u5,v1,k1,r1,c1,ite_and];(repeat' first|with_reducible assumption|apply jw|intro hp);all_goals first|(apply hQ;clear hQ Q)|omega|assumption|rfl|(apply jx;kernel_rfl)|skip)
         refine ⟨⟨m+1,hlt,fun j hj=>?_⟩,by show yH p f a - (m+1) < yH p f a - m;omega, ?_⟩
         ·rcases bz (bY hj) with h1|h1
          ·exact hno j h1
          ·rw [h1];exact hh
         ·(refine Le.ok some [] ?_;constructor;all_goals (try simp only [vle,vkt,Nat.reduceEqDiff,reduceCtorEq,↓reduceIte,qW]))
          all_goals first|rfl|(simp [];done)|exact Qu|exact ⟨Qu,rfl⟩|exact yz|exact ⟨by decide,yz⟩|exact ⟨hq.symm ▸ rfl,hp.symm ▸ rfl⟩|(simp [upd,hq,hp];done)
       ·have hc:=Qbu p2 hh hno
        have hh':=hh;unfold Q5 at hh'
        simp only [aZ,decide_eq_true_eq] at hh';have c1:=hh'.1.2
        have c2:=hh'.2;have ap:(pcL ps A i).map ql++[[.v (.int .i64 (m:Int))]]=(pcL ps A (i+1)).map ql:=by rw [hS,hc,ai];rfl
        rw [hc] at hN;have u6:IntKind.wrap .i64 (gN p f a)=gN p f a:=by rw [<- c2];exact u4
        repeat' first|(apply nx;with_reducible constructor)|apply jq (by decide)|refine zw ?_|refine zK ?_|refine zJ ?_|refine zL ?_|((first|apply jz env|apply jk);intro Q hQ;simp only [vkt,Nat.reduceEqDiff,Nat.reduceAdd,Nat.reduceMul,Nat.reduceLeDiff,reduceCtorEq,↓reduceIte,qw,qW,u1,u2,u3,u6,v1,v2,k1,k2,r1,r2,c1,c2,ap,hLn,ite_and];(repeat' first|with_reducible assumption|apply jw|intro hp);all_goals first|(apply hQ;clear hQ Q)|omega|assumption|rfl|(apply jx;kernel_rfl)|skip)
        refine ⟨⟨i+1,lt1⟩,by show ps.length - (i+1) < ps.length - i;omega, ?_⟩
        (refine Le.ok (fun j=>if j=2 then some 4 else some j) [] ?_;constructor;all_goals (try simp only [vle,vkt,Nat.reduceEqDiff,reduceCtorEq,↓reduceIte,qW]))
        all_goals first|rfl|(simp [hN];done)|exact Qu|exact ⟨Qu,rfl⟩|exact yz|exact ⟨by decide,yz⟩|exact ⟨rfl,rfl⟩|(simp [upd,hN,u3];done)
     ·have:i=ps.length:=by omega
      subst this
      repeat' first|(apply nx;with_reducible constructor)|apply jq (by decide)|refine zw ?_|refine zK ?_|refine zJ ?_|refine zL ?_|((first|apply jz env|apply jk);intro Q hQ;simp only [vkt,Nat.reduceEqDiff,ite_and];(repeat' first|with_reducible assumption|apply jw|intro hp);all_goals first|(apply hQ;clear hQ Q)|omega|assumption|rfl|(apply jx;kernel_rfl)|skip)
      (simp only [vrt,results56,vkt,Nat.reduceEqDiff,qW];refine Fin.val rfl ?_;(try simp only [AV.le,AV.leL]))
      all_goals first|exact ⟨⟨_,_,rfl⟩,trivial,trivial⟩|(simp [piL,qj];done)
 ·rw [show Wn l c n=_ from if_pos h0]
  repeat' first|(apply nx;with_reducible constructor)|apply jq (by decide)|refine zw ?_|refine zK ?_|refine zJ ?_|refine zL ?_|((first|apply jz env|apply jk);intro Q hQ;simp only [vkt,Nat.reduceEqDiff,Nat.reduceAdd,reduceCtorEq,↓reduceIte,qw,qW,h0,ite_and];(repeat' first|with_reducible assumption|apply jw|intro hp);all_goals first|(apply hQ;clear hQ Q)|omega|assumption|rfl|(apply jx;kernel_rfl)|skip)
  (simp only [vrt,results56,vkt,Nat.reduceEqDiff,qW];refine Fin.val rfl ?_;(try simp only [AV.le,AV.leL]))
  all_goals simp
def c28:List AV->Prop × AV
 |[.agg [.sl cs,.sl rs,.sl ss,.sl es],.v (.int .i64 c),.v (.int .i64 n)]=>(isL cs rs ss es/\Fit (wJ cs rs ss es),Wn (wJ cs rs ss es) c n)
 |_=>(False,.junk)
def d28 {A:Frm->Prop}:qc A prog 56 (zD false c28):=qL fun vs hv h=>by
 clear hv;unfold c28 at h ⊢
 split at h
 ·refine ⟨by unfold Wn;split <;> simp [AV.plain,AV.plainL,aI,qj],fun h=>absurd h (by decide), ?_⟩
  rw [<- yC h.1];exact Qdz _ _ _ h.2
 ·exact h.elim
def p136 (S:St):List AV->Option Pk
 |[.sl ps,.clo 118 [.ptr t 0]]=>match S.h t with
  |some (.cells [.v (.int .i64 a),.v (.int .i64 b),.v (.int .i64 c),.v (.int .i64 d),.v (.int .i64 e),.v (.int .i64 f)])=>some { pre:=ps=(ps.map qM).map qG/\ps.length<=100/\∀ p ∈ ps.map qM,2<=p.length,hs:=[t],ar:=[.sl ps,.clo 118 [.ptr 0 0]],L0:=[.cells (QU ⟨a,b,c,d,e,f⟩)],v:=aI (Qau (Zw ⟨a,b,c,d,e,f⟩) (ps.map qM)),L1:=[some (.cells (QU ⟨a,b,c,d,e,f⟩))],fl:=true }
  |_=>none
 |_=>none
def e136 {A:Frm->Prop}:qc A prog 162 (fnE p136):=wB fun S bs q h hp=>by
 unfold p136 at h;split at h
 ·split at h
  ·rename_i ps t _ a b c d e f _
   cases h;have:=QjY ⟨a,b,c,d,e,f⟩ (ps.map qM) (by simpa using hp.2.1) hp.2.2
   rw [qU,<- hp.1] at this;exact this
  ·cases h
 ·cases h
def vo:=jw @ty3 @ti3.eq_1
def UW:=jw @aI.eq_1 (jw @aB.eq_1 (jw @qj.eq_1 (jw @qU.eq_1 (jw @QU.eq_1 (jw @ql.eq_1 (jw @qG.eq_1 (jw @xV (jw @p136.eq_1 (@p136.eq_2)))))))))
def Uz (x:Ent) (ps:List (List Int)) (hl:ps.length<=100) (hp:∀ p ∈ ps,2<=p.length):Fn noB prog 117 [qU ps,.clo 118 [.ptr 0 0]] (qf [(0,.cells (QU x))]) (aB (ps.any (Zw x))) (qf [(0,.cells (QU x))]) 0:=by
 have env:=qz (A:=fun _=>True) (kC e136 kN)
 refine Fn.of (A:=fun _=>True) (n0:=1) (D:=noD) (Fn0 func117 rfl (fun vs w=>by kernel_rfl) (by kernel_rfl)) (by simp) (by simp [AV.ids,AV.idsL,qU]) ?_ (fun _ _ _ _=>trivial) zt ?_
 ·intro i o hi
  have h:=qB hi
  simp at h;obtain ⟨rfl,rfl⟩:=h;simp [QU,AObj.ids,AV.ids,AV.idsL]
 have ex:(⟨x.day,x.kind,x.coin,x.to,x.amount,x.got⟩:Ent)=x:=rfl
 repeat' first|(apply nx;with_reducible constructor)|apply jq (by decide)|((first|apply jz env|apply jk);intro Q hQ;simp only [vkt,seval,vo,UW,ex,ite_and];(repeat' first|with_reducible assumption|apply jw|intro hp);all_goals first|(apply hQ;clear hQ Q)|omega|assumption|rfl|(apply jx;kernel_rfl)|skip)
 (simp only [vrt,results117,Qfp,vkt,seval,UW];refine Fin.ok some [] ?_ ?_ ?_ ?_ ?_ rfl;all_goals (try simp only [vle,vkt,seval]))
 all_goals simp
def p92 (S:St):List AV->Option Pk
 |[.sl ps,.clo 118 [.ptr t 0]]=>match S.h t with
  |some (.cells [.v (.int .i64 a),.v (.int .i64 b),.v (.int .i64 c),.v (.int .i64 d),.v (.int .i64 e),.v (.int .i64 f)])=>some { pre:=ps=(ps.map qM).map qG/\ps.length<=100/\∀ p ∈ ps.map qM,2<=p.length,hs:=[t],ar:=[.sl ps,.clo 118 [.ptr 0 0]],L0:=[.cells (QU ⟨a,b,c,d,e,f⟩)],v:=aB ((ps.map qM).any (Zw ⟨a,b,c,d,e,f⟩)),L1:=[some (.cells (QU ⟨a,b,c,d,e,f⟩))],fl:=true }
  |_=>none
 |_=>none
def e92 {A:Frm->Prop}:qc A prog 117 (fnE p92):=wB fun S bs q h hp=>by
 unfold p92 at h;split at h
 ·split at h
  ·rename_i ps t _ a b c d e f _
   cases h;have:=Uz ⟨a,b,c,d,e,f⟩ (ps.map qM) (by simpa using hp.2.1) hp.2.2
   rw [qU,<- hp.1] at this;exact this
  ·cases h
 ·cases h
def Q9 (l:Led) (bds:List Int) (own:List (List Int)):Bool:=bds.all fun i=>own.any (Zw (l.entries.getD i.toNat default))
structure BadOk (l:Led) (bds:List Int):Prop where
 len:bds.length<=100
 b:∀ i ∈ bds,0<=i/\i.toNat < l.entries.length
def htS (l:Led) (bds:List Int) (own:List (List Int)) (k:Nat):St:={ t:=asg [(0,qU own),(1,.ptr 0 0),(2,.ptr 1 0),(4,aB false),(8,qj bds),(9,aI bds.length),(10,aI k)],h:=qf [(0,.cells [.sl (bds.map ql)]),(1,.cells (qY l))],n:=2,m:=2 }
def jC:=jw @ty3 (jw @jK (jw @Y9 (jw @xI (jw @kD (jw @ti3.eq_1 (jw @jr.eq_1 (jw @JZ.eq_1 (jw @vO.eq_1 @vR.eq_1))))))))
def xF:=jw @aI.eq_1 (jw @aB.eq_1 (jw @qj.eq_1 (jw @qU.eq_1 (jw @QU.eq_1 (jw @qY.eq_1 (jw @ql.eq_1 (jw @ZG (jw @qG.eq_1 (jw @xV (jw @p92.eq_1 (jw @p92.eq_2 (jw @htS.eq_1 (jw @wz.eq_1 (@Qbs))))))))))))))
def QjV (l:Led) (bds:List Int) (own:List (List Int)) (hb:BadOk l bds) (hl:own.length<=100) (hp:∀ p ∈ own,2<=p.length):Fn noB prog 116 [qU own,.ptr 0 0,.ptr 1 0] (qf [(0,.cells [.sl (bds.map ql)]),(1,.cells (qY l))]) (aB (Q9 l bds own)) (qf [(0,.cells [.sl (bds.map ql)]),(1,.cells (qY l))]) 0:=by
 have env:=qz (A:=fun _=>True) (kC e92 kN)
 refine Fn.of (A:=fun _=>True) (n0:=2) (D:=noD) (Fn0 func116 rfl (fun vs w=>by kernel_rfl) (by kernel_rfl)) (by simp) (by simp [AV.ids,qU]) ?_ (fun _ _ _ _=>trivial) zt ?_
 ·intro i o hi
  have h:=qB hi
  simp at h
  rcases h with ⟨rfl,rfl⟩|⟨rfl,rfl⟩ <;> simp [qY,AObj.ids,AV.ids,AV.idsL]
 have hm:bds.length<=maxLen:=by
   have:=hb.len;have:(100:Nat)<=maxLen:=by decide
   omega
 repeat' first|(apply nx;with_reducible constructor)|apply jq (by decide)|((first|apply jz env|apply jk);intro Q hQ;simp only [vkt,seval,jC,xF,ite_and];(repeat' first|with_reducible assumption|apply jw|intro hp);all_goals first|(apply hQ;clear hQ Q)|omega|assumption|rfl|(apply jx;kernel_rfl)|skip)
 refine qi (fun k:{ k:Nat // k<=bds.length/\∀ j,j < k->own.any (Zw (l.entries.getD (bds.getD j 0).toNat default))=true }=>htS l bds own k.1) (fun k=>bds.length - k.1) ⟨0,af _,fun j h=>absurd h (cR _)⟩ ?_ fun ⟨k,hk,hall⟩=>?_
 ·(refine Le.ok some [] ?_;constructor;all_goals (try simp only [vle,vkt,seval,xF]))
  all_goals simp
 ·repeat' first|(apply nx;with_reducible constructor)|apply jq (by decide)
  (apply jz env;intro Q hQ;simp only [vkt,seval,jC,xF,ite_and];(repeat' first|with_reducible assumption|apply jw|intro hp);all_goals first|(apply hQ;clear hQ Q)|omega|assumption|rfl|(apply jx;kernel_rfl)|skip)
  repeat' first|(apply nx;with_reducible constructor)|apply jq (by decide)
  (refine zg (by simp only [vkt,seval];rfl) (fun h=>?_) (fun h=>?_) <;> (try simp only [vki] at h))
  ·have hlt:k < bds.length:=by omega
   obtain ⟨h2,h3⟩:=hb.b _ (jb (d:=0) hlt);have e9:=qP hlt hm
   generalize hx:l.entries.getD (bds.getD k 0).toNat default=x at *;have ex:(⟨x.day,x.kind,x.coin,x.to,x.amount,x.got⟩:Ent)=x:=rfl
   cases c1:own.any (Zw x)
   ·have hi:Q9 l bds own=false:=by
     unfold Q9;rw [List.all_eq_false]
     exact ⟨_,jb (d:=0) hlt,by rw [hx,c1];simp⟩
    repeat' first|(apply nx;with_reducible constructor)|apply jq (by decide)|((first|apply jz env|apply jk);intro Q hQ;simp only [vkt,seval,jC,xF,hx,ex,c1,ite_and];(repeat' first|with_reducible assumption|apply jw|intro hp);all_goals first|(apply hQ;clear hQ Q)|omega|assumption|rfl|(apply jx;kernel_rfl)|skip)
    (simp only [vrt,results116,vkt,seval,xF];refine Fin.ok some [] ?_ ?_ ?_ ?_ ?_ rfl;all_goals (try simp only [vle,vkt,seval]))
    all_goals simp [hi]
   ·repeat' first|(apply nx;with_reducible constructor)|apply jq (by decide)|((first|apply jz env|apply jk);intro Q hQ;simp only [vkt,seval,jC,xF,hx,ex,c1,ite_and];(repeat' first|with_reducible assumption|apply jw|intro hp);all_goals first|(apply hQ;clear hQ Q)|omega|assumption|rfl|(apply jx;kernel_rfl)|skip)
    refine ⟨⟨k+1,hlt,fun j hj=>?_⟩,by show bds.length - (k+1) < bds.length - k;omega, ?_⟩
    ·rcases bz (bY hj) with h1|h1
     ·exact hall j h1
     ·rw [h1,hx];exact c1
    ·(refine Le.ok some [] ?_;constructor;all_goals (try simp only [vle,vkt,seval,xF]))
     all_goals simp [e9]
  ·have hi:Q9 l bds own=true:=by
    unfold Q9;rw [bq]
    intro y hy;obtain ⟨j,hj,rfl⟩:=bB hy
    have:=hall j (by omega)
    simpa [ah,hj] using this
   repeat' first|(apply nx;with_reducible constructor)|apply jq (by decide)|((first|apply jz env|apply jk);intro Q hQ;simp only [vkt,seval,ite_and];(repeat' first|with_reducible assumption|apply jw|intro hp);all_goals first|(apply hQ;clear hQ Q)|omega|assumption|rfl|(apply jx;kernel_rfl)|skip)
   (simp only [vrt,results116,vkt,seval,xF];refine Fin.ok some [] ?_ ?_ ?_ ?_ ?_ rfl;all_goals (try simp only [vle,vkt,seval]))
   all_goals simp [hi]
def jL (hit:List (List Int)->Bool) (ps:List (List Int)):Nat->List (List Int)->Nat->List (List Int) × Bool
 |0,b,_=>(b,hit b)
 |m+1,b,f=>match (List.range (ps.length - f)).find? (fun i=>(jL hit ps m (b++[ps.getD (f+i) []]) (f+i+1)).2) with
  |some i=>((jL hit ps m (b++[ps.getD (f+i) []]) (f+i+1)).1,true)
  |none=>([],false)
def Kz {hit:List (List Int)->Bool} {ps:List (List Int)} {m:Nat} {b:List (List Int)} {f i:Nat} (h0:f<=i) (h1:i < ps.length) (h2:(jL hit ps m (b++[ps.getD i []]) (i+1)).2=true) (h3:∀ j,f<=j->j < i->(jL hit ps m (b++[ps.getD j []]) (j+1)).2=false) :
  jL hit ps (m+1) b f=((jL hit ps m (b++[ps.getD i []]) (i+1)).1,true):=by
 have:(List.range (ps.length - f)).find? (fun i=>(jL hit ps m (b++[ps.getD (f+i) []]) (f+i+1)).2)=some (i - f):=by
  rw [dF];refine ⟨?_,aF.2 (by omega),fun j hj=>?_⟩
  ·rw [show f+(i - f)=i by omega];exact h2
  ·rw [h3 (f+j) (by omega) (by omega)];rfl
 rw [jL,this];simp only
 rw [show f+(i - f)=i by omega]
def QbL {hit:List (List Int)->Bool} {ps:List (List Int)} {m:Nat} {b:List (List Int)} {f:Nat} (h3:∀ j,f<=j->j < ps.length->(jL hit ps m (b++[ps.getD j []]) (j+1)).2=false):jL hit ps (m+1) b f=([],false):=by
 have:(List.range (ps.length - f)).find? (fun i=>(jL hit ps m (b++[ps.getD (f+i) []]) (f+i+1)).2)=none:=by
  rw [dG];intro j hj
  have:=aF.1 hj;rw [h3 (f+j) (by omega) (by omega)];simp
 rw [jL,this]
def Xz {hit:List (List Int)->Bool} {ps:List (List Int)}:∀ (m:Nat) (b:List (List Int)) (f:Nat),f+m=ps.length->hit (b++ps.drop f)=true->(jL hit ps m b f).2=true
 |0,b,f,h,hh=>by
  rw [jL];rw [dR (by omega),bf] at hh
  exact hh
 |m+1,b,f,h,hh=>by
  have h1:(jL hit ps m (b++[ps.getD f []]) (f+1)).2=true:=Xz m _ _ (by omega) (by
   rw [dh (show f < ps.length by omega)] at hh
   rw [bU]
   simpa [ah,show f < ps.length by omega] using hh)
  rw [Kz (ag f) (by omega) h1 (fun j h1 h2=>by omega)]
def grH (l:Led) (bds:List Int) (ps:List (List Int)):List (Nat × AObj):=[(0,.cells [.clo 116 [.ptr 3 0,.ptr 4 0]]),(1,.cells [.row 5]),(2,.cells [.clo 119 [.ptr 0 0,.ptr 1 0,.ptr 2 0]]),(3,.cells [.sl (bds.map ql)]),(4,.cells (qY l)),(5,.row 26 1 (ps.map qG))]
def grS (l:Led) (bds:List Int) (ps b:List (List Int)) (f m i:Nat):St:={ t:=asg [(0,qU b),(1,aI f),(2,aI m),(3,.ptr 0 0),(4,.ptr 1 0),(5,.ptr 2 0),(9,.nil),(10,aB false),(11,aI i)],h:=qf (grH l bds ps),n:=6,m:=6 }
structure GrOk (l:Led) (bds:List Int) (ps:List (List Int)):Prop where
 b:BadOk l bds
 len:ps.length<=20
 two:∀ p ∈ ps,2<=p.length
structure BgOk (b:List (List Int)) (f m:Nat):Prop where
 len:b.length+m<=50
 two:∀ p ∈ b,2<=p.length
 f:f<=100
def p91 (S:St):List AV->Option Pk
 |[.sl own,.ptr s 0,.ptr t 0]=>match S.h s,S.h t with
  |some (.cells [.sl bd]),some (.cells [.sl cs,.sl rs,.sl ss,.sl es])=>some { pre:=own=(own.map qM).map qG/\bd=(bd.map qE).map ql/\isL cs rs ss es/\BadOk (wJ cs rs ss es) (bd.map qE)/\own.length<=100/\(∀ p ∈ own.map qM,2<=p.length),hs:=[s,t],ar:=[.sl own,.ptr 0 0,.ptr 1 0],L0:=[.cells [.sl bd],.cells [.sl cs,.sl rs,.sl ss,.sl es]],v:=aB (Q9 (wJ cs rs ss es) (bd.map qE) (own.map qM)),L1:=[some (.cells [.sl bd]),some (.cells [.sl cs,.sl rs,.sl ss,.sl es])],fl:=false }
  |_,_=>none
 |_=>none
def V8 {cs rs ss es:List (List DV)} (h:isL cs rs ss es):qY (wJ cs rs ss es)=[.sl cs,.sl rs,.sl ss,.sl es]:=by
 simp only [qY,wJ,<- h.1,<- h.2.1,<- h.2.2.1,<- h.2.2.2]
def e91 {A:Frm->Prop}:qc A prog 116 (fnE p91):=wB fun S bs q h hp=>by
 unfold p91 at h;split at h
 ·split at h
  ·rename_i own s t _ _ bd cs rs ss es _ _
   cases h;have:=QjV (wJ cs rs ss es) (bd.map qE) (own.map qM) hp.2.2.2.1 (by simpa using hp.2.2.2.2.1) hp.2.2.2.2.2
   simp only [qU,<- hp.1,<- hp.2.1,V8 hp.2.2.1] at this;exact this
  ·cases h
 ·cases h
def p94 (M:Nat) (S:St):List AV->Option Pk
 |[.row r,.v (.int .i64 f),.v (.int .i64 m),.ptr a 0,.ptr b 0,.ptr c 0]=>match S.h r,S.h a,S.h b,S.h c with
  |some (.row 26 1 bg),some (.cells [.clo 116 [.ptr x 0,.ptr y 0]]),some (.cells [.row z]),some (.cells [.clo 119 [.ptr a' 0,.ptr b' 0,.ptr c' 0]])=>match S.h x,S.h y,S.h z with
   |some (.cells [.sl bd]),some (.cells [.sl cs,.sl rs,.sl ss,.sl es]),some (.row 26 1 ps) =>
    some { pre:=a'=a/\b'=b/\c'=c/\bg=(bg.map qM).map qG/\bd=(bd.map qE).map ql/\isL cs rs ss es/\ps=(ps.map qM).map qG/\GrOk (wJ cs rs ss es) (bd.map qE) (ps.map qM)/\BgOk (bg.map qM) f.toNat m.toNat/\0<=f/\0<=m/\m.toNat < M,hs:=[a,b,c,x,y,z],bo:=[r],ar:=[.sl bg,.v (.int .i64 f),.v (.int .i64 m),.ptr 0 0,.ptr 1 0,.ptr 2 0],L0:=[.cells [.clo 116 [.ptr 3 0,.ptr 4 0]],.cells [.row 5],.cells [.clo 119 [.ptr 0 0,.ptr 1 0,.ptr 2 0]],.cells [.sl bd],.cells [.sl cs,.sl rs,.sl ss,.sl es],.row 26 1 ps],v:=.tup [qU (jL (Q9 (wJ cs rs ss es) (bd.map qE)) (ps.map qM) m.toNat (bg.map qM) f.toNat).1,aB (jL (Q9 (wJ cs rs ss es) (bd.map qE)) (ps.map qM) m.toNat (bg.map qM) f.toNat).2],L1:=[some (.cells [.clo 116 [.ptr 3 0,.ptr 4 0]]),some (.cells [.row 5]),some (.cells [.clo 119 [.ptr 0 0,.ptr 1 0,.ptr 2 0]]),some (.cells [.sl bd]),some (.cells [.sl cs,.sl rs,.sl ss,.sl es]),some (.row 26 1 ps)] }
   |_,_,_=>none
  |_,_,_,_=>none
 |_=>none
def GrFn (m:Nat):Prop:=∀ (l:Led) (bds:List Int) (ps b:List (List Int)) (f:Nat),GrOk l bds ps->BgOk b f m->Fn noB prog 119 [qU b,aI f,aI m,.ptr 0 0,.ptr 1 0,.ptr 2 0] (qf (grH l bds ps)) (.tup [qU (jL (Q9 l bds) ps m b f).1,aB (jL (Q9 l bds) ps m b f).2]) (qf (grH l bds ps)) 0
def e94 {A:Frm->Prop} {M:Nat} (ih:∀ m,m < M->GrFn m):qc A prog 119 (fnE (p94 M)):=wB fun S bs q h hp=>by
 unfold p94 at h;split at h
 ·split at h
  ·split at h
   ·rename_i r f m a b c _ _ _ _ bg x y z a' b' c' _ _ _ _ _ _ _ bd cs rs ss es ps _ _ _
    cases h;obtain ⟨_,_,_,h1,h2,h3,h4,h5,h6,h7,h8,h9⟩:=hp
    have:=ih m.toNat h9 (wJ cs rs ss es) (bd.map qE) (ps.map qM) (bg.map qM) f.toNat h5 h6;simp only [grH,qU,aI,<- h1,<- h2,<- h4,V8 h3,bZ h7,bZ h8] at this
    exact this
   ·cases h
  ·cases h
 ·cases h
def gIn0 {l:List (List Int)} {n:Nat} (h:n < l.length):(l.map qG).getD n []=qG (l.getD n []):=by simp [ah,h]
def wK:=jw @ty3 (jw @jK (jw @Zv (jw @Qjt (jw @Qjl (jw @ti3.eq_1 (jw @jr.eq_1 (jw @Qo.eq_1 (jw @Uj.eq_1 @Qai.eq_1))))))))
def yI:=jw @aI.eq_1 (jw @aB.eq_1 (jw @zo.eq_1 (jw @qY.eq_1 (jw @qG.eq_1 (jw @qU.eq_1 (jw @grH.eq_1 (jw @grS.eq_1 (jw @p91.eq_1 (jw @p91.eq_2 (jw @p95.eq_1 (jw @p95.eq_2 (jw @p95.eq_3 (jw @p94.eq_1 (jw @p94.eq_2 (jw @xR (jw @yF (jw @xV (jw @kE (@kw)))))))))))))))))))
def QeV (m:Nat):GrFn m:=by
 induction m using Nat.strongRecOn with
 |_ m ih =>
  intro l bds ps b f hg hb;have env:=qz (A:=fun _=>True) (kC e91 (kC e95 (kC (e94 ih) kN)))
  refine Fn.of (A:=fun _=>True) (n0:=6) (D:=noD) (Fn0 func119 rfl (fun vs w=>by kernel_rfl) (by kernel_rfl)) (by simp) (by simp [AV.ids,qU,aI]) ?_ (fun _ _ _ _=>trivial) zt ?_
  ·intro i o hi
   have h:=qB hi
   simp [grH] at h
   rcases h with ⟨rfl,rfl⟩|⟨rfl,rfl⟩|⟨rfl,rfl⟩|⟨rfl,rfl⟩|⟨rfl,rfl⟩|⟨rfl,rfl⟩ <;> simp [qY,AObj.ids,AV.ids,AV.idsL]
  have hB:=hg.b;have hlen:b.length<=100:=by have:=hb.len;omega
  have htwo:=hb.two;cases m with
  |zero =>
   have c0:(((0:Nat):Int)=0)=True:=by simp
   repeat' first|(apply nx;with_reducible constructor)|apply jq (by decide)|((first|apply jz env|apply jk);intro Q hQ;simp only [vkt,seval,wK,yI,ite_and];(repeat' first|with_reducible assumption|apply jw|intro hp);all_goals first|(apply hQ;clear hQ Q)|omega|assumption|rfl|(apply jx;kernel_rfl)|skip)
   (simp only [vrt,results119,vkt,seval,yI];refine Fin.ok some [] ?_ ?_ ?_ ?_ ?_ rfl;all_goals (try simp only [vle,vkt,seval]))
   all_goals simp [jL]
  |succ m =>
   have c0:(((m+1:Nat):Int)=0)=False:=by simp;omega
   repeat' first|(apply nx;with_reducible constructor)|apply jq (by decide)|((first|apply jz env|apply jk);intro Q hQ;simp only [vkt,seval,wK,yI,c0,ite_and];(repeat' first|with_reducible assumption|apply jw|intro hp);all_goals first|(apply hQ;clear hQ Q)|omega|assumption|rfl|(apply jx;kernel_rfl)|skip)
   refine qi (fun i:{ i:Nat // f<=i/\i<=100/\∀ j,f<=j->j < i->(jL (Q9 l bds) ps m (b++[ps.getD j []]) (j+1)).2=false }=>grS l bds ps b f (m+1) i.1) (fun i=>ps.length - i.1) ⟨f,ag _,hb.f,fun j h1 h2=>by omega⟩ ?_ fun ⟨i,hi,hi1,hno⟩=>?_
   ·(refine Le.ok some [] ?_;constructor;all_goals (try simp only [vle,vkt,seval,yI]))
    all_goals simp
   ·repeat' first|(apply nx;with_reducible constructor)|apply jq (by decide)
    (apply jz env;intro Q hQ;simp only [vkt,seval,wK,yI,ite_and];(repeat' first|with_reducible assumption|apply jw|intro hp);all_goals first|(apply hQ;clear hQ Q)|omega|assumption|rfl|(apply jx;kernel_rfl)|skip)
    repeat' first|(apply nx;with_reducible constructor)|apply jq (by decide)
    (refine zg (by simp only [vkt,seval];rfl) (fun h=>?_) (fun h=>?_) <;> (try simp only [vki] at h))
    ·have hlt:i < ps.length:=by omega
     have hpl:=hg.len;have e9:=qP hlt (show ps.length<=maxLen by have:=Vh;omega)
     have e8:IntKind.wrap .i64 (((m+1:Nat):Int) - 1)=(m:Int):=by have:=hb.len;rw [wrap64 (by omega) (by omega)];omega
     have g1:=gIn0 hlt;have hbg:b.map qG++[[.sl ((ps.getD i []).map ql)]]=(b++[ps.getD i []]).map qG:=by rw [ai];rfl
     have hB2:BgOk (b++[ps.getD i []]) (i+1) m:=⟨by have:=hb.len;simp;omega,fun p hp=>by
      rcases au.1 hp with h|h
      ·exact hb.two p h
      ·rw [aM.1 h];exact hg.two _ (jb (d:=[]) hlt),by omega⟩
     have cap:(b.length+1) * 16<=140737488355328/\b.length+1<=maxLen:=by
      have:(100000:Nat)<=maxLen:=by decide
      omega
     have t1:((i+1:Nat):Int).toNat=i+1:=aR _;have t2:(m:Int).toNat=m:=aR _
     cases cc:(jL (Q9 l bds) ps m (b++[ps.getD i []]) (i+1)).2
     ·repeat' first|(apply nx;with_reducible constructor)|apply jq (by decide)|((first|apply jz env|apply jk);intro Q hQ;simp only [vkt,seval,wK,yI,e9,e8,g1,hbg,t1,t2,cc,ite_and];(repeat' first|with_reducible assumption|apply jw|intro hp);all_goals first|(apply hQ;clear hQ Q)|omega|assumption|rfl|(apply jx;kernel_rfl)|skip)
      ·exact ⟨_,_,rfl⟩
      ·refine ⟨⟨i+1,by omega,by omega,fun j h1 h2=>?_⟩,by show ps.length - (i+1) < ps.length - i;omega, ?_⟩
       ·rcases bz (bY h2) with h3|h3
        ·exact hno j h1 h3
        ·rw [h3];exact cc
       ·(refine Le.ok some [] ?_;constructor;all_goals (try simp only [vle,vkt,seval,yI]))
        all_goals first|rfl|(simp [e9];done)
     ·repeat' first|(apply nx;with_reducible constructor)|apply jq (by decide)|((first|apply jz env|apply jk);intro Q hQ;simp only [vkt,seval,wK,yI,e9,e8,g1,hbg,t1,t2,cc,ite_and];(repeat' first|with_reducible assumption|apply jw|intro hp);all_goals first|(apply hQ;clear hQ Q)|omega|assumption|rfl|(apply jx;kernel_rfl)|skip)
      ·exact ⟨_,_,rfl⟩
      ·have hh:=Kz hi hlt cc hno
       (simp only [vrt,results119,vkt,seval,yI];refine Fin.ok some [] ?_ ?_ ?_ ?_ ?_ rfl;all_goals (try simp only [vle,vkt,seval]))
       all_goals first|rfl|(simp [hh];done)
    ·have hn:=QbL (hit:=Q9 l bds) (ps:=ps) (m:=m) (b:=b) (f:=f) fun j h1 h2=>hno j h1 (by omega)
     repeat' first|(apply nx;with_reducible constructor)|apply jq (by decide)|((first|apply jz env|apply jk);intro Q hQ;simp only [vkt,seval,ite_and];(repeat' first|with_reducible assumption|apply jw|intro hp);all_goals first|(apply hQ;clear hQ Q)|omega|assumption|rfl|(apply jx;kernel_rfl)|skip)
     (simp only [vrt,results119,vkt,seval,yI];refine Fin.ok some [] ?_ ?_ ?_ ?_ ?_ rfl;all_goals (try simp only [vle,vkt,seval]))
     all_goals simp [hn]
def YC (n:Nat) (d:Nat):List (List Int):=(List.range (n - 1)).map fun c:Nat=>[(d:Int),(c:Int)+1]
def yR (n:Nat) (k:Nat):List (List Int):=(List.range k).flatMap (YC n)
def YN (n k:Nat):yR n (k+1)=yR n k++YC n k:=by
 unfold yR;rw [bL,cX];simp
def QaR (n d:Nat):(YC n d).length=n - 1:=by simp [YC]
def Vi (n k:Nat):(yR n k).length=k * (n - 1):=by
 induction k with
 |zero=>simp [yR]
 |succ k ih=>rw [YN,aD,ih,QaR,cA]
def ww (l:Led):List (List Int):=yR l.coins.length l.rates.length
def WQ (l:Led) (m:Nat):List (List Int) × Bool:=jL (Q9 l (Uc l)) (ww l) m [] 0
def XX {l:Led} {d c:Int} (hd:0<=d) (hd':d<=(l.rates.length:Int) - 1) (hc:1<=c) (hc':c<=(l.coins.length:Int) - 1):[d,c] ∈ ww l:=by
 unfold ww yR YC;refine List.mem_flatMap.2 ⟨d.toNat,aF.2 (by omega),aj.2 ⟨(c - 1).toNat,aF.2 (by omega), ?_⟩⟩
 rw [show ((d.toNat:Nat):Int)=d by omega,show (((c - 1).toNat:Nat):Int)+1=c by omega]
def Qie {l:Led} (hV:Val l):Q9 l (Uc l) (ww l)=true:=by
 unfold Q9;rw [bq]
 intro y hy;obtain ⟨i,hi,rfl⟩:=aj.1 hy
 obtain ⟨h1,h2⟩:=List.mem_filter.1 hi;have h1:=aF.1 h1
 have hx:=QN hV h1;unfold VP at h2
 rw [aZ,decide_eq_true_eq] at h2;rw [aR]
 generalize l.entries.getD i default=x at *;have k3:=h2.1
 have t1:=hx.to k3;have t2:=hx.ne k3
 rw [dk]
 by_cases hc:1<=x.coin
 ·exact ⟨_,XX hx.day.1 hx.day.2 hc hx.coin.2,by simp [Zw]⟩
 ·exact ⟨_,XX hx.day.1 hx.day.2 (show 1<=x.to by have:=hx.coin.1;omega) t1.2,by simp [Zw]⟩
def Qen {l:Led} (hV:Val l):(WQ l (ww l).length).2=true :=
 Xz _ _ _ (by omega) (by rw [bc,List.drop_zero];exact Qie hV)
def QaC (l:Led):Nat:=((List.range ((ww l).length+1)).find? fun m=>(WQ l m).2).getD 0
def QbP (l:Led):List (List Int):=(WQ l (QaC l)).1
def Qbw {l:Led} {m:Nat} (hm:m<=(ww l).length) (h:(WQ l m).2=true) (hb:∀ j,j < m->(WQ l j).2=false):QaC l=m:=by
 unfold QaC;have:(List.range ((ww l).length+1)).find? (fun m=>(WQ l m).2)=some m:=by
  rw [dF];exact ⟨h,aF.2 (by omega),fun j hj=>by simpa using hb j hj⟩
 rw [this];rfl
def Yl (l:Led):AV:=if qO l ≠ 0 then .tup [.sl [],aI (qO l)] else .tup [qU (QbP l),aI 0]
def Qn (d:Nat) (c:Nat):List (List Int):=(List.range c).map fun c:Nat=>[(d:Int),(c:Int)+1]
def UL (d c:Nat):Qn d (c+1)=Qn d c++[[(d:Int),(c:Int)+1]]:=by
 unfold Qn;rw [bL,ai];rfl
def Qbm (d c:Nat):(Qn d c).length=c:=by simp [Qn]
def p94n (S:St):List AV->Option Pk
 |[.nil,.v (.int .i64 f),.v (.int .i64 m),.ptr a 0,.ptr b 0,.ptr c 0]=>match S.h a,S.h b,S.h c with
  |some (.cells [.clo 116 [.ptr x 0,.ptr y 0]]),some (.cells [.row z]),some (.cells [.clo 119 [.ptr a' 0,.ptr b' 0,.ptr c' 0]])=>match S.h x,S.h y,S.h z with
   |some (.cells [.sl bd]),some (.cells [.sl cs,.sl rs,.sl ss,.sl es]),some (.row 26 1 ps) =>
    some { pre:=a'=a/\b'=b/\c'=c/\bd=(bd.map qE).map ql/\isL cs rs ss es/\ps=(ps.map qM).map qG/\GrOk (wJ cs rs ss es) (bd.map qE) (ps.map qM)/\BgOk [] f.toNat m.toNat/\0<=f/\0<=m,hs:=[a,b,c,x,y,z],ar:=[.sl [],.v (.int .i64 f),.v (.int .i64 m),.ptr 0 0,.ptr 1 0,.ptr 2 0],L0:=[.cells [.clo 116 [.ptr 3 0,.ptr 4 0]],.cells [.row 5],.cells [.clo 119 [.ptr 0 0,.ptr 1 0,.ptr 2 0]],.cells [.sl bd],.cells [.sl cs,.sl rs,.sl ss,.sl es],.row 26 1 ps],v:=.tup [qU (jL (Q9 (wJ cs rs ss es) (bd.map qE)) (ps.map qM) m.toNat [] f.toNat).1,aB (jL (Q9 (wJ cs rs ss es) (bd.map qE)) (ps.map qM) m.toNat [] f.toNat).2],L1:=[some (.cells [.clo 116 [.ptr 3 0,.ptr 4 0]]),some (.cells [.row 5]),some (.cells [.clo 119 [.ptr 0 0,.ptr 1 0,.ptr 2 0]]),some (.cells [.sl bd]),some (.cells [.sl cs,.sl rs,.sl ss,.sl es]),some (.row 26 1 ps)] }
   |_,_,_=>none
  |_,_,_=>none
 |_=>none
def e94n {A:Frm->Prop}:qc A prog 119 (fnE p94n):=wB fun S bs q h hp=>by
 unfold p94n at h;split at h
 ·split at h
  ·split at h
   ·rename_i f m a b c _ _ _ x y z a' b' c' _ _ _ _ _ _ bd cs rs ss es ps _ _ _
    cases h;obtain ⟨_,_,_,h2,h3,h4,h5,h6,h7,h8⟩:=hp
    have:=QeV m.toNat (wJ cs rs ss es) (bd.map qE) (ps.map qM) [] f.toNat h5 h6;simp only [grH,qU,aI,<- h2,<- h4,V8 h3,bZ h7,bZ h8,aX] at this
    exact this
   ·cases h
  ·cases h
 ·cases h
def wrH (l:Led) (ps:List (List Int)):List (Nat × AObj):=[(0,.cells (qY l)),(1,.cells [.sl ((Uc l).map ql)]),(2,.cells [.row 3]),(3,.row 26 1 (ps.map qG))]
def wrS1 (l:Led) (k:Nat):St:={ t:=asg [(1,.ptr 0 0),(2,.nil),(3,aI 0),(4,.ptr 1 0),(6,.ptr 2 0),(24,aI l.rates.length),(25,aI k)],h:=qf (wrH l (yR l.coins.length k)),n:=4 }
def wrS2 (l:Led) (k c:Nat):St:={ t:=asg [(1,.ptr 0 0),(2,.nil),(3,aI 0),(4,.ptr 1 0),(6,.ptr 2 0),(7,aI k),(8,aI ((c:Int)+1)),(24,aI l.rates.length),(25,aI k)],h:=qf (wrH l (yR l.coins.length k++Qn k c)),n:=4 }
def wrS3 (l:Led) (m:Nat):St:={ t:=asg [(1,.ptr 0 0),(2,.nil),(3,aI 0),(4,.ptr 1 0),(6,.ptr 2 0),(9,.ptr 4 0),(10,.ptr 5 0),(11,aI m)],h:=qf ([(4,.cells [.clo 116 [.ptr 1 0,.ptr 0 0]]),(5,.cells [.clo 119 [.ptr 4 0,.ptr 2 0,.ptr 5 0]])]++wrH l (ww l)),n:=6 }
def badOk {l:Led} (h:Val l):BadOk l (Uc l):=⟨by have:=LK l l.entries.length;have:=h.e;unfold Uc;omega,fun i hi=>by
 obtain ⟨j,hj,rfl⟩:=aj.1 hi;have:=aF.1 (List.mem_filter.1 hj).1
 omega⟩
def QdG (l:Led):∀ p ∈ ww l,2<=p.length:=fun p hp=>by
 unfold ww yR YC at hp;obtain ⟨d,_,hp⟩:=List.mem_flatMap.1 hp
 obtain ⟨c,_,rfl⟩:=aj.1 hp
 simp
def Ky {l:Led} (h:Val l):(ww l).length<=12:=by
 unfold ww;rw [Vi]
 have h1:=h.c;have h2:=h.r
 calc l.rates.length * (l.coins.length - 1)<=4 * 3:=cT h2.2 (by omega)
  _=12:=rfl
def zk:=jw @ty3 (jw @jK (jw @WU (jw @Zv (jw @Yj (jw @xI (jw @xW (jw @Qjt (jw @Qjl (jw @ti3.eq_1 (jw @jr.eq_1 (jw @Zy.eq_1 (jw @Qo.eq_1 (jw @WG.eq_1 (jw @vO.eq_1 (jw @vD.eq_1 (jw @Uj.eq_1 @Qai.eq_1))))))))))))))))
def wV:=jw @aI.eq_1 (jw @aB.eq_1 (jw @zo.eq_1 (jw @qY.eq_1 (jw @qj.eq_1 (jw @qU.eq_1 (jw @wrH.eq_1 (jw @wrS1.eq_1 (jw @wrS2.eq_1 (jw @wrS3.eq_1 (jw @c31.eq_1 (jw @c31.eq_2 (jw @p94n.eq_1 (jw @p94n.eq_2 (jw @xR (jw @yF (jw @ql.eq_1 (jw @JA (jw @kw (jw @kE (jw @xV (@qG.eq_1)))))))))))))))))))))
def QgR (l:Led) (hl:Fit l):FnV prog 57 [zo l] (Yl l):=by
 have env:=qz (A:=fun _=>True) (kC d31 (kC e94n kN))
 refine kV (Fn0 func57 rfl (fun vs w=>by kernel_rfl) (by kernel_rfl)) (by simp) (by simp [AV.ids,AV.idsL,zo,qY]) ?_
 by_cases c0:qO l=0
 ·rw [show Yl l=_ from if_neg (by rw [c0];simp)]
  have hb0:QaU l=.tup [.sl ((Uc l).map ql),.v (.int .i64 0)]:=if_neg (by rw [c0];simp)
  have hV:=Qv c0;have q1:=hV.c
  have q2:=hV.r;have q5:=Vh
  repeat' first|(apply nx;with_reducible constructor)|apply jq (by decide)|((first|apply jz env|apply jk);intro Q hQ;simp only [vkt,seval,zk,wV,hb0,ite_and];(repeat' first|with_reducible assumption|apply jw|intro hp);all_goals first|(apply hQ;clear hQ Q)|omega|assumption|rfl|(apply jx;kernel_rfl)|skip)
  refine qi (fun k:{ k:Nat // k<=l.rates.length }=>wrS1 l k.1) (fun k=>l.rates.length - k.1) ⟨0,af _⟩ ?_ fun ⟨k,hk⟩=>?_
  ·(refine Le.ok (fun j=>if j=3 then none else some j) [] ?_;constructor;all_goals (try simp only [vle,vkt,seval,wV]))
   all_goals first|rfl|trivial|(simp [yR];done)
  ·repeat' first|(apply nx;with_reducible constructor)|apply jq (by decide)
   (apply jz env;intro Q hQ;simp only [vkt,seval,zk,wV,ite_and];(repeat' first|with_reducible assumption|apply jw|intro hp);all_goals first|(apply hQ;clear hQ Q)|omega|assumption|rfl|(apply jx;kernel_rfl)|skip)
   repeat' first|(apply nx;with_reducible constructor)|apply jq (by decide)
   (refine zg (by simp only [vkt,seval];rfl) (fun h=>?_) (fun h=>?_) <;> (try simp only [vki] at h))
   ·have hlt:k < l.rates.length:=by omega
    have e9:=qP hlt (show l.rates.length<=maxLen by omega)
    repeat' first|(apply nx;with_reducible constructor)|apply jq (by decide)|((first|apply jz env|apply jk);intro Q hQ;simp only [vkt,seval,ite_and];(repeat' first|with_reducible assumption|apply jw|intro hp);all_goals first|(apply hQ;clear hQ Q)|omega|assumption|rfl|(apply jx;kernel_rfl)|skip)
    refine qi (fun c:{ c:Nat // c<=l.coins.length - 1 }=>wrS2 l k c.1) (fun c=>l.coins.length - 1 - c.1) ⟨0,af _⟩ ?_ fun ⟨c,hc⟩=>?_
    ·(refine Le.ok some [] ?_;constructor;all_goals (try simp only [vle,vkt,seval,wV]))
     all_goals first|rfl|trivial|(simp [Qn];done)
    ·repeat' first|(apply nx;with_reducible constructor)|apply jq (by decide)
     (apply jz env;intro Q hQ;simp only [vkt,seval,zk,wV,ite_and];(repeat' first|with_reducible assumption|apply jw|intro hp);all_goals first|(apply hQ;clear hQ Q)|omega|assumption|rfl|(apply jx;kernel_rfl)|skip)
     repeat' first|(apply nx;with_reducible constructor)|apply jq (by decide)
     (refine zg (by simp only [vkt,seval];rfl) (fun h=>?_) (fun h=>?_) <;> (try simp only [vki] at h))
     ·have hlc:c < l.coins.length - 1:=by omega
      have e8:IntKind.wrap .i64 ((c:Int)+1+1)=(c:Int)+1+1:=wrap64 (by omega) (by omega)
      have pl:=Vi l.coins.length k;have pl2:k * (l.coins.length - 1)<=3 * 3:=cT (by omega) (by omega)
      have cap:((yR l.coins.length k++Qn k c).length+1) * 24<=140737488355328/\(yR l.coins.length k++Qn k c).length+1<=maxLen:=by
       rw [aD,pl,Qbm];omega
      repeat' first|(apply nx;with_reducible constructor)|apply jq (by decide)|((first|apply jz env|apply jk);intro Q hQ;simp only [vkt,seval,zk,wV,e8,ite_and];(repeat' first|with_reducible assumption|apply jw|intro hp);all_goals first|(apply hQ;clear hQ Q)|omega|assumption|rfl|(apply jx;kernel_rfl)|skip)
      refine ⟨⟨c+1,by omega⟩,by show l.coins.length - 1 - (c+1) < l.coins.length - 1 - c;omega, ?_⟩
      (refine Le.ok (fun j=>if j=3 then some 6 else some j) [] ?_;constructor;all_goals (try simp only [vle,vkt,seval,wV]))
      all_goals first|rfl|trivial|(simp [UL,qG,ql];done)|(simp;done)
     ·have hce:c=l.coins.length - 1:=by omega
      subst hce
      repeat' first|(apply nx;with_reducible constructor)|apply jq (by decide)|((first|apply jz env|apply jk);intro Q hQ;simp only [vkt,seval,zk,e9,ite_and];(repeat' first|with_reducible assumption|apply jw|intro hp);all_goals first|(apply hQ;clear hQ Q)|omega|assumption|rfl|(apply jx;kernel_rfl)|skip)
      refine ⟨⟨k+1,hlt⟩,by show l.rates.length - (k+1) < l.rates.length - k;omega, ?_⟩
      have hps:yR l.coins.length k++Qn k (l.coins.length - 1)=yR l.coins.length (k+1):=(YN _ _).symm
      (refine Le.ok some [] ?_;constructor;all_goals (try simp only [vle,vkt,seval,wV]))
      all_goals first|rfl|trivial|(rw [hps];done)|(simp [hps,e9];done)
   ·have hkn:k=l.rates.length:=by omega
    subst hkn;have hgo:GrOk l (Uc l) (ww l):=⟨badOk hV,by have:=Ky hV;omega,QdG l⟩
    have hpl:=Ky hV
    repeat' first|(apply nx;with_reducible constructor)|apply jq (by decide)|((first|apply jz env|apply jk);intro Q hQ;simp only [vkt,seval,zk,ite_and];(repeat' first|with_reducible assumption|apply jw|intro hp);all_goals first|(apply hQ;clear hQ Q)|omega|assumption|rfl|(apply jx;kernel_rfl)|skip)
    refine qi (fun m:{ m:Nat // m<=(ww l).length/\∀ j,j < m->(WQ l j).2=false }=>wrS3 l m.1) (fun m=>(ww l).length - m.1) ⟨0,af _,fun j h=>absurd h (cR _)⟩ ?_ fun ⟨m,hm,hno⟩=>?_
    ·(refine Le.ok some [] ?_;constructor;all_goals (try simp only [vle,vkt,seval,wV]))
     all_goals first|rfl|trivial|(simp [ww];done)
    ·have hbg:BgOk [] 0 m:=⟨by simp;omega,fun p hp=>by simp at hp,af _⟩
     have e9:=k9 m (by omega)
     have t1:(m:Int).toNat=m:=aR _;have hgr:jL (Q9 l (Uc l)) (ww l) m [] 0=WQ l m:=rfl
     cases cc:(WQ l m).2
     ·have hlt:m < (ww l).length:=by
       rcases bz hm with h|h
       ·exact h
       ·rw [h,Qen hV] at cc;cases cc
      repeat' first|(apply nx;with_reducible constructor)|apply jq (by decide)|((first|apply jz env|apply jk);intro Q hQ;simp only [vkt,seval,zk,wV,e9,t1,hgr,cc,ite_and];(repeat' first|with_reducible assumption|apply jw|intro hp);all_goals first|(apply hQ;clear hQ Q)|omega|assumption|rfl|(apply jx;kernel_rfl)|skip)
      refine ⟨⟨m+1,hlt,fun j hj=>?_⟩,by show (ww l).length - (m+1) < (ww l).length - m;omega, ?_⟩
      ·rcases bz (bY hj) with h1|h1
       ·exact hno j h1
       ·rw [h1];exact cc
      ·(refine Le.ok some [] ?_;constructor;all_goals (try simp only [vle,vkt,seval,wV]))
       all_goals first|rfl|trivial|(simp [e9];done)
     ·have hw:=Qbw hm cc hno
      have hwl:QbP l=(WQ l m).1:=by unfold QbP;rw [hw]
      repeat' first|(apply nx;with_reducible constructor)|apply jq (by decide)|((first|apply jz env|apply jk);intro Q hQ;simp only [vkt,seval,zk,wV,t1,hgr,cc,ite_and];(repeat' first|with_reducible assumption|apply jw|intro hp);all_goals first|(apply hQ;clear hQ Q)|omega|assumption|rfl|(apply jx;kernel_rfl)|skip)
      (simp only [vrt,results57,vkt,seval,wV];refine Fin.val rfl ?_;(try simp only [AV.le,AV.leL]))
      all_goals simp [hwl]
 ·rw [show Yl l=_ from if_pos c0]
  have hb0:QaU l=.tup [.sl [],aI (qO l)]:=if_pos c0
  repeat' first|(apply nx;with_reducible constructor)|apply jq (by decide)|((first|apply jz env|apply jk);intro Q hQ;simp only [vkt,seval,zk,wV,hb0,c0,ite_and];(repeat' first|with_reducible assumption|apply jw|intro hp);all_goals first|(apply hQ;clear hQ Q)|omega|assumption|rfl|(apply jx;kernel_rfl)|skip)
  (simp only [vrt,results57,vkt,seval,wV];refine Fin.val rfl ?_;(try simp only [AV.le,AV.leL]))
  all_goals simp
def c32:List AV->Prop × AV
 |[.agg [.sl cs,.sl rs,.sl ss,.sl es]]=>(isL cs rs ss es/\Fit (wJ cs rs ss es),Yl (wJ cs rs ss es))
 |_=>(False,.junk)
def d32 {A:Frm->Prop}:qc A prog 57 (zD false c32):=qL fun vs hv h=>by
 clear hv;unfold c32 at h ⊢
 split at h
 ·refine ⟨by unfold Yl;split <;> simp [AV.plain,AV.plainL,aI,qU],fun h=>absurd h (by decide), ?_⟩
  rw [<- yC h.1];exact QgR _ h.2
 ·exact h.elim
def zT:=jw @ty3 (jw @jK (jw @Zv (jw @Yj (jw @Y9 (jw @xI (jw @xW (jw @kD (jw @QcQ (jw @xP (jw @KI (jw @ti3.eq_1 (jw @jr.eq_1 (jw @Qo.eq_1 (jw @WG.eq_1 (jw @JZ.eq_1 (jw @vO.eq_1 (jw @vD.eq_1 (jw @vR.eq_1 (jw @Vj.eq_1 (jw @vC.eq_1 @Jz.eq_1))))))))))))))))))))
def jZ:=jw @aI.eq_1 (jw @aB.eq_1 (jw @zo.eq_1 (jw @qY.eq_1 (jw @aSh.eq_1 (jw @shQ.eq_1 (jw @eQ.eq_1 (jw @eSh.eq_1 (jw @yD.eq_1 (jw @Qb.eq_1 (jw @gS1.eq_1 (jw @gS2.eq_1 (jw @gS3.eq_1 (jw @Ym.eq_1 (jw @Ym.eq_2 (jw @p137.eq_1 (jw @p137.eq_2 (jw @p97.eq_1 (jw @p97.eq_2 (jw @RN.eq_1 (jw @RN.eq_2 (jw @c98.eq_1 (jw @c98.eq_2 (jw @Xj.eq_1 (jw @Xj.eq_2 (jw @s99.eq_1 (jw @s99.eq_2 (jw @Xx.eq_1 (jw @Xx.eq_2 (jw @xR (jw @yF (jw @J9 (jw @Xr (jw @xV (jw @Rn (jw @kE (jw @W9 (jw @wz.eq_1 (jw @Qbs (jw @ql.eq_1 (@QkN))))))))))))))))))))))))))))))))))))))))
def Qgd (l:Led) (hV:Val l):FnV prog 106 [zo l] (.sl ((ZI l).map eQ)):=by
 have env:=qz (A:=fun _=>True) (kC Qe8 (kC e137 (kC e97 (kC e101 (kC d98 (kC e100 (kC e99 (kC e138 kN))))))))
 refine kV (Fn0 func106 rfl (fun vs w=>by kernel_rfl) (by kernel_rfl)) (by simp) (by simp [AV.ids,AV.idsL,zo,qY]) ?_
 have q1:=hV.c;have q2:=hV.r
 have q3:=hV.sl;have q4:=hV.e
 have q5:l.start.length<=100000:=by omega
 have w1:IntKind.wrap .i64 ((l.rates.length:Int) - 1)=(l.rates.length:Int) - 1:=wrap64 (by omega) (by omega)
 repeat' first|(apply nx;with_reducible constructor)|apply jq (by decide)|((first|apply jz env|apply jk);intro Q hQ;simp only [vkt,Nat.reduceEqDiff,Nat.reduceAdd,Nat.reduceMul,Nat.reduceSub,Nat.reduceLeDiff,reduceCtorEq,↓reduceIte,zT,jZ,w1,ite_and];(repeat' first|with_reducible assumption|apply jw|intro hp);all_goals first|(apply hQ;clear hQ Q)|omega|assumption|rfl|(apply jx;kernel_rfl)|skip)
 have hst:=QbA l;refine qi (fun D:{ D:Nat // D<=l.rates.length - 1 }=>gS1 l D.1 (if D.1=0 then 0 else kd l ((D.1:Int) - 1))) (fun D=>l.rates.length - 1 - D.1) ⟨0,af _⟩ ?_ fun ⟨D,hD⟩=>?_
 ·(refine Le.ok (fun j=>if j=0 then some 0 else if j=1 then some 3 else if j=2 then some 4 else if j=3 then some 2 else none) [] ?_;constructor;all_goals (try simp only [vle,vkt,Nat.reduceEqDiff,reduceCtorEq,↓reduceIte,jZ]))
  all_goals (first|(decide;done)|skip)
  ·exact ⟨rfl,rfl⟩
  ·exact ⟨rfl,hst.symm⟩
 ·generalize hk0:(if D=0 then 0 else kd l ((D:Int) - 1))=k0
  have hk0':k0<=kd l D:=by
   rw [<- hk0];split
   ·exact af _
   ·exact QiI l (by omega)
  repeat' first|(apply nx;with_reducible constructor)|apply jq (by decide)
  (apply jz env;intro Q hQ;simp only [vkt,Nat.reduceEqDiff,zT,jZ,ite_and];(repeat' first|with_reducible assumption|apply jw|intro hp);all_goals first|(apply hQ;clear hQ Q)|omega|assumption|rfl|(apply jx;kernel_rfl)|skip)
  repeat' first|(apply nx;with_reducible constructor)|apply jq (by decide)
  (refine zg (by simp only [vkt];rfl) (fun h=>?_) (fun h=>?_) <;> (try simp only [vki] at h))
  ·have hDlt:D+1 < l.rates.length:=by omega
   repeat' first|(apply nx;with_reducible constructor)|apply jq (by decide)|((first|apply jz env|apply jk);intro Q hQ;simp only [vkt,Nat.reduceEqDiff,ite_and];(repeat' first|with_reducible assumption|apply jw|intro hp);all_goals first|(apply hQ;clear hQ Q)|omega|assumption|rfl|(apply jx;kernel_rfl)|skip)
   refine qi (fun k:{ k:Nat // k<=kd l D }=>gS2 l D k.1) (fun k=>kd l D - k.1) ⟨k0,hk0'⟩ ?_ fun ⟨k,hk⟩=>?_
   ·(refine Le.ok some [] ?_;constructor;all_goals (try simp only [vle,vkt,Nat.reduceEqDiff,reduceCtorEq,↓reduceIte,jZ]))
    all_goals simp
   ·have hkl:=QeH l D
    have ho:=J7 hV k (by omega)
    by_cases hlt:k < kd l D
    ·have hkd:=kd_lt hlt
     have hentry:=QN hV (show k < l.entries.length by omega)
     have hen:=RX ho (by omega) hentry
     have hS:=J4 (show k < l.entries.length by omega)
     generalize hx:l.entries.getD k default=x at *;have hen':EnOk (stK l k).2 ⟨x.day,x.kind,x.coin,x.to,x.amount,x.got⟩:=hen
     have c1:((k:Int) < l.entries.length):=by omega
     have e9:=qP hlt (show kd l D<=maxLen by have:=Vh;omega)
     repeat' first|(apply nx;with_reducible constructor)|apply jq (by decide)|((first|apply jz env|apply jk);intro Q hQ;simp only [vkt,Nat.reduceEqDiff,Nat.reduceAdd,Nat.reduceSub,Nat.reduceLeDiff,reduceCtorEq,↓reduceIte,zT,jZ,hx,c1,hkd,ite_and];(repeat' first|with_reducible assumption|apply jw|intro hp);all_goals first|(apply hQ;clear hQ Q)|omega|assumption|rfl|(apply jx;kernel_rfl)|skip)
     refine ⟨⟨k+1,hlt⟩,by show kd l D - (k+1) < kd l D - k;omega, ?_⟩
     (refine Le.ok some [] ?_;constructor;all_goals (try simp only [vle,vkt,Nat.reduceEqDiff,reduceCtorEq,↓reduceIte,jZ]))
     all_goals simp [hS,e9]
    ·have hkk:k=kd l D:=by omega
     subst hkk;have hcase:(((kd l D:Int) < l.entries.length)/\¬ (l.entries.getD (kd l D) default).day<=D)\/(¬ ((kd l D:Int) < l.entries.length)/\True):=by
      by_cases hend:kd l D < l.entries.length
      ·exact .inl ⟨by omega,Qkx hend⟩
      ·exact .inr ⟨by omega,trivial⟩
     have hlen:(stK l (kd l D)).2.length=l.coins.length:=ho.len;have hlen':((stK l (kd l D)).2.length:Int)=l.coins.length:=by omega
     have e8:IntKind.wrap .i64 ((D:Int)+1)=(D:Int)+1:=wrap64 (by omega) (by omega)
     have e7:IntKind.wrap .i64 ((D:Int)+1)=((D+1:Nat):Int):=by rw [e8];rfl
     have e6:((D+1:Nat):Int) - 1=D:=by omega
     rcases hcase with ⟨c1,c2⟩|⟨c1,c2⟩
     all_goals (
      repeat' first|(apply nx;with_reducible constructor)|apply jq (by decide)|((first|apply jz env|apply jk);intro Q hQ;simp only [vkt,Nat.reduceEqDiff,Nat.reduceAdd,Nat.reduceLeDiff,reduceCtorEq,↓reduceIte,zT,jZ,c1,c2,ite_and];(repeat' first|with_reducible assumption|apply jw|intro hp);all_goals first|(apply hQ;clear hQ Q)|omega|assumption|rfl|(apply jx;kernel_rfl)|skip)
      refine qi (fun c:{ c:Nat // c<=l.coins.length }=>gS3 l D c.1) (fun c=>l.coins.length - c.1) ⟨0,af _⟩ ?_ fun ⟨c,hc⟩=>?_
      ·(refine Le.ok some [] ?_;constructor;all_goals (try simp only [vle,vkt,Nat.reduceEqDiff,reduceCtorEq,↓reduceIte,jZ]))
       all_goals first|exact ⟨rfl,trivial⟩|(simp only [hlen',evH,and_self,true_and];done)|simp [hlen']
      ·repeat' first|(apply nx;with_reducible constructor)|apply jq (by decide)
       (apply jz env;intro Q hQ;simp only [vkt,Nat.reduceEqDiff,zT,jZ,ite_and];(repeat' first|with_reducible assumption|apply jw|intro hp);all_goals first|(apply hQ;clear hQ Q)|omega|assumption|rfl|(apply jx;kernel_rfl)|skip)
       repeat' first|(apply nx;with_reducible constructor)|apply jq (by decide)
       (refine zg (by simp only [vkt];rfl) (fun h=>?_) (fun h=>?_) <;> (try simp only [vki] at h))
       ·have hclt:c < l.coins.length:=by omega
        have r1:=xe hV (d:=(D:Int)+1) (c:=c) (by omega) (by omega) (by omega) (by omega)
        have r2:=xe hV (d:=(D:Int)) (c:=c) (by omega) (by omega) (by omega) (by omega)
        have b1:=kP r1;have b2:=kP r2
        have s1:=b1.sm (by decide)
        have s2:=b2.sm (by decide)
        have hb:=Ui hV (kd l D) (QeH _ _) c;have b3:=b1.sub b2
        have t3:Tm (rq l ((D:Int)+1) c - rq l D c) ((evH l D).getD c 0):=⟨b3.sm (by decide),by unfold evH;omega,by unfold evH;omega⟩
        have s3:=(QjL hV hclt hDlt).sm (by decide)
        unfold gT at s3;have s4:=(Qgy hV hclt (show D < l.rates.length by omega)).sm (by decide)
        have g1:=gQ (z:=[]) (show c < (kH l D c).length by rw [U2];exact hclt)
        rw [QfN hclt] at g1;have hcl2:c < (kH l D c).length:=by rw [U2];exact hclt
        have hel:c < (evH l D).length:=by unfold evH;omega
        have g2:=gI0 hel;have g3:=setQ (kH l D c) c
        have e9:=qP hclt (show l.coins.length<=maxLen by have:=Vh;omega)
        have hset:=QeF (D:=D) hclt;unfold gT at hset
        repeat' first|(apply nx;with_reducible constructor)|apply jq (by decide)|((first|apply jz env|apply jk);intro Q hQ;simp only [vkt,Nat.reduceEqDiff,Nat.reduceAdd,reduceCtorEq,↓reduceIte,zT,jZ,g1,g2,g3,e8,hset,ite_and];(repeat' first|with_reducible assumption|apply jw|intro hp);all_goals first|(apply hQ;clear hQ Q)|omega|assumption|rfl|(apply jx;kernel_rfl)|skip)
        refine ⟨⟨c+1,hclt⟩,by show l.coins.length - (c+1) < l.coins.length - c;omega, ?_⟩
        (refine Le.ok some [] ?_;constructor;all_goals (try simp only [vle,vkt,Nat.reduceEqDiff,reduceCtorEq,↓reduceIte,jZ]))
        all_goals first|rfl|trivial|(simp [e9];done)|exact ⟨rfl,trivial⟩|exact ⟨rfl,rfl⟩
       ·have hcn:c=l.coins.length:=by omega
        subst hcn;have hnx:=Qd0 l D
        repeat' first|(apply nx;with_reducible constructor)|apply jq (by decide)|((first|apply jz env|apply jk);intro Q hQ;simp only [vkt,Nat.reduceEqDiff,zT,hnx,e7,ite_and];(repeat' first|with_reducible assumption|apply jw|intro hp);all_goals first|(apply hQ;clear hQ Q)|omega|assumption|rfl|(apply jx;kernel_rfl)|skip)
        refine ⟨⟨D+1,by omega⟩,by show l.rates.length - 1 - (D+1) < l.rates.length - 1 - D;omega, ?_⟩
        rw [show (if D+1=0 then 0 else kd l (((D+1:Nat):Int) - 1))=kd l D by rw [if_neg (by omega),e6]]
        (refine Le.ok some [] ?_;constructor;all_goals (try simp only [vle,vkt,Nat.reduceEqDiff,reduceCtorEq,↓reduceIte,jZ]))
        all_goals first|rfl|trivial|exact ⟨rfl,trivial⟩|exact ⟨rfl,rfl⟩|(simp [evH];done))
  ·have hDe:D=l.rates.length - 1:=by omega
   subst hDe;have hfin:=QfW l q2.1
   repeat' first|(apply nx;with_reducible constructor)|apply jq (by decide)|((first|apply jz env|apply jk);intro Q hQ;simp only [vkt,Nat.reduceEqDiff,ite_and];(repeat' first|with_reducible assumption|apply jw|intro hp);all_goals first|(apply hQ;clear hQ Q)|omega|assumption|rfl|(apply jx;kernel_rfl)|skip)
   rw [<- hfin]
   (simp only [vrt,results106,vkt];refine Fin.val rfl ?_;(try simp only [AV.le]))
   all_goals exact ⟨_,_,rfl⟩
def c96:List AV->Prop × AV
 |[.agg [.sl cs,.sl rs,.sl ss,.sl es]]=>(isL cs rs ss es/\Val (wJ cs rs ss es),.sl ((ZI (wJ cs rs ss es)).map eQ))
 |_=>(False,.junk)
def d96 {A:Frm->Prop}:qc A prog 106 (zD false c96):=qL fun vs hv h=>by
 clear hv;unfold c96 at h ⊢
 split at h
 ·refine ⟨trivial,fun h=>absurd h (by decide), ?_⟩
  rw [<- yC h.1];exact Qgd _ h.2
 ·exact h.elim
def vE (l:Led) (i:Nat):Rat :=
 let x:=l.entries.getD i default
 if x.kind=3 then rq l x.day x.coin * x.amount - rq l x.day x.to * x.got else if x.kind=4 then rq l x.day x.coin * x.amount - rq l x.day x.coin * ((stK l i).2.getD x.coin.toNat 0:Int) else rq l x.day x.coin * x.amount
def kL (l:Led) (κ:Int) (k:Nat):List Rat:=((List.range k).filter fun i=>decide ((l.entries.getD i default).kind=κ)).map (vE l)
def Qin (l:Led) (κ:Int) (k:Nat):kL l κ (k+1)=if (l.entries.getD k default).kind=κ then kL l κ k++[vE l k] else kL l κ k:=by
 unfold kL;rw [bL,List.filter_append]
 split
 ·rename_i h;rw [List.filter_cons,if_pos (by rw [h];simp),List.filter_nil,ai];rfl
 ·rename_i h;rw [List.filter_cons,if_neg (by simpa using h),List.filter_nil,bf]
def VG (l:Led) (κ:Int) (k:Nat):(kL l κ k).length<=k:=by
 unfold kL;rw [ab]
 exact bj (dY _ _) (by simp)
def QjI {l:Led} (h:Val l) {i:Nat} (hi:i < l.entries.length):Bd 1000000 (vE l i):=by
 have hx:=QN h hi;have hb:=Ui h i (by omega)
 unfold vE;generalize l.entries.getD i default=x at *
 have r1:=kP (xe h hx.day.1 hx.day.2 hx.coin.1 hx.coin.2);have a1:=r1.muli (C:=1000) (n:=x.amount) (by have:=hx.am;omega) (by have:=hx.am;omega)
 dsimp only;split
 ·rename_i k3
  have r2:=kP (xe h hx.day.1 hx.day.2 (hx.to k3).1 (hx.to k3).2);have a2:=r2.muli (C:=1000) (n:=x.got) (by have:=hx.got k3;omega) (by have:=hx.got k3;omega)
  exact (a1.sub a2).mono (by decide)
 ·split
  ·have hc:=hb x.coin.toNat
   have a2:=r1.muli (C:=7000) (n:=(stK l i).2.getD x.coin.toNat 0) (by omega) (by omega)
   exact (a1.sub a2).mono (by decide)
  ·exact a1.mono (by decide)
def QcU {l:Led} (h:Val l) (κ:Int) {k:Nat} (hk:k<=l.entries.length):SumOk (kL l κ k):=by
 refine ⟨?_,fun q hq=>?_⟩
 ·have:=VG l κ k;have:=h.e;omega
 ·obtain ⟨i,hi,rfl⟩:=aj.1 hq
  have:=aF.1 (List.mem_filter.1 hi).1;exact QjI h (by omega)
def Qex {l:Led} (h:Val l):SumOk (ZI l):=by
 refine ⟨?_,fun q hq=>?_⟩
 ·have:=h.c;simp [ZI];omega
 ·obtain ⟨i,hi,rfl⟩:=aj.1 hq
  exact (Qgy h (aF.1 hi) (by have:=h.r;omega)).mono (by decide)
def w_ok {l:Led} (h:Val l) {d:Int} (hd:0<=d) (hd':d<=(l.rates.length:Int) - 1) {k:Nat} (hk:k<=l.entries.length):WOk l d (stK l k).2:=by
 have hh:=J7 h k hk;refine ⟨?_,fun c hc=>?_,fun v hv=>?_⟩
 ·rw [hh.len];exact h.c.2
 ·exact xe h hd hd' (by omega) (by have:=hh.len;omega)
 ·have:=hh.b v hv;have:=h.e;omega
structure Acc where
 taken:Rat
 paid:Rat
 gained:Rat
 lost:Rat
 found:Rat
 worth:Rat
deriving DecidableEq
def cAcc (a:Acc):List AV:=[.v (.int .i64 a.taken.num),.v (.int .i64 a.taken.den),.v (.int .i64 a.paid.num),.v (.int .i64 a.paid.den),.v (.int .i64 a.gained.num),.v (.int .i64 a.gained.den),.v (.int .i64 a.lost.num),.v (.int .i64 a.lost.den),.v (.int .i64 a.found.num),.v (.int .i64 a.found.den),.v (.int .i64 a.worth.num),.v (.int .i64 a.worth.den)]
def z12:List AV:=[.v (.int .i64 0),.v (.int .i64 0),.v (.int .i64 0),.v (.int .i64 0),.v (.int .i64 0),.v (.int .i64 0),.v (.int .i64 0),.v (.int .i64 0),.v (.int .i64 0),.v (.int .i64 0),.v (.int .i64 0),.v (.int .i64 0)]
def Qgl (l:Led):Acc:=⟨xf (kL l 1 l.entries.length),xf (kL l 2 l.entries.length),xf (ZI l),xf (kL l 3 l.entries.length),xf (kL l 4 l.entries.length),xK l ((l.rates.length:Int) - 1) (stK l l.entries.length).2 l.coins.length⟩
def Qb0 (l:Led):AV:=if qO l ≠ 0 then .tup [.agg z12,aI (qO l)] else .tup [.agg (cAcc (Qgl l)),aI 0]
def baS (l:Led) (k:Nat):St:={ t:=asg [(1,.ptr 0 0),(2,.ptr 1 0),(3,aI 0),(5,.ptr 2 0),(6,.row 4),(7,.row 5),(8,.row 6),(9,.row 7),(22,.sl (l.entries.map wz)),(23,aI l.entries.length),(24,aI k)],h:=qf [(0,.cells (qY l)),(1,.cells z12),(2,yD l 3),(3,Qb (stK l k).2),(4,.row 191 2 ((kL l 1 k).map eQ)),(5,.row 191 2 ((kL l 2 k).map eQ)),(6,.row 191 2 ((kL l 3 k).map eQ)),(7,.row 191 2 ((kL l 4 k).map eQ))],n:=8 }
def qQ:=jw @ty3 (jw @jK (jw @WU (jw @Yj (jw @Y9 (jw @xI (jw @xW (jw @Qjf (jw @kD (jw @QcQ (jw @xP (jw @KI (jw @ti3.eq_1 (jw @jr.eq_1 (jw @Zy.eq_1 (jw @WG.eq_1 (jw @JZ.eq_1 (jw @vO.eq_1 (jw @vD.eq_1 (jw @LX.eq_1 (jw @vR.eq_1 (jw @Vj.eq_1 (jw @vC.eq_1 @Jz.eq_1))))))))))))))))))))))
def wU:=jw @aI.eq_1 (jw @aB.eq_1 (jw @zo.eq_1 (jw @qY.eq_1 (jw @aSh.eq_1 (jw @shQ.eq_1 (jw @eQ.eq_1 (jw @eSh.eq_1 (jw @yD.eq_1 (jw @Qb.eq_1 (jw @baS.eq_1 (jw @z12.eq_1 (jw @cAcc.eq_1 (jw @c50.eq_1 (jw @c50.eq_2 (jw @p97.eq_1 (jw @p97.eq_2 (jw @RN.eq_1 (jw @RN.eq_2 (jw @p103.eq_1 (jw @p103.eq_2 (jw @c98.eq_1 (jw @c98.eq_2 (jw @Xj.eq_1 (jw @Xj.eq_2 (jw @s99.eq_1 (jw @s99.eq_2 (jw @QfV.eq_1 (jw @QfV.eq_2 (jw @QfV.eq_3 (jw @c96.eq_1 (jw @c96.eq_2 (jw @xR (jw @yF (jw @J9 (jw @Xr (jw @xV (jw @Rn (jw @kE (jw @W9 (jw @wz.eq_1 (jw @Qbs (jw @ql.eq_1 (jw @mQ (@rQ))))))))))))))))))))))))))))))))))))))))))))
def QjT (l:Led) (hl:Fit l):FnV prog 53 [zo l] (Qb0 l):=by
 have env:=qz (A:=fun _=>True) (kC d50 (kC e97 (kC e101 (kC e103 (kC d98 (kC e100 (kC e99 (kC d102 (kC d96 kN)))))))))
 refine kV (Fn0 func53 rfl (fun vs w=>by kernel_rfl) (by kernel_rfl)) (by simp) (by simp [AV.ids,AV.idsL,zo,qY]) ?_
 by_cases c0:qO l=0
 ·rw [show Qb0 l=_ from if_neg (by rw [c0];simp)]
  have hV:=Qv c0;have q1:=hV.c
  have q2:=hV.r;have q3:=hV.sl
  have q4:=hV.e;have q5:l.start.length<=100000:=by omega
  repeat' first|(apply nx;with_reducible constructor)|apply jq (by decide)|((first|apply jz env|apply jk);intro Q hQ;simp only [vkt,seval,qQ,wU,c0,ite_and];(repeat' first|with_reducible assumption|apply jw|intro hp);all_goals first|(apply hQ;clear hQ Q)|omega|assumption|rfl|(apply jx;kernel_rfl)|skip)
  refine qi (fun k:{ k:Nat // k<=l.entries.length }=>baS l k.1) (fun k=>l.entries.length - k.1) ⟨0,af _⟩ ?_ fun ⟨k,hk⟩=>?_
  ·(refine Le.ok (fun j=>if j=0 then some 0 else if j=1 then some 1 else if j=2 then some 2 else if j=3 then some 3 else none) [] ?_;constructor;all_goals (try simp only [vle,vkt,seval,wU]))
   all_goals first|rfl|decide|exact ⟨rfl,rfl,rfl,rfl,rfl⟩|exact ⟨rfl,rfl⟩
  ·repeat' first|(apply nx;with_reducible constructor)|apply jq (by decide)
   (apply jz env;intro Q hQ;simp only [vkt,seval,qQ,wU,ite_and];(repeat' first|with_reducible assumption|apply jw|intro hp);all_goals first|(apply hQ;clear hQ Q)|omega|assumption|rfl|(apply jx;kernel_rfl)|skip)
   repeat' first|(apply nx;with_reducible constructor)|apply jq (by decide)
   (refine zg (by simp only [vkt,seval];rfl) (fun h=>?_) (fun h=>?_) <;> (try simp only [vki] at h))
   ·have hlt:k < l.entries.length:=by omega
    have hentry:=QN hV hlt;have ho:=J7 hV k (by omega)
    have hen:=RX ho (by omega) hentry
    have hS:=J4 hlt;have hb:=Ui hV k (by omega)
    have hvb:=(QjI hV hlt).sm (by decide)
    have hkk:∀ κ,kL l κ (k+1)=_:=fun κ=>Qin l κ k
    generalize hx:l.entries.getD k default=x at *;have hen':EnOk (stK l k).2 ⟨x.day,x.kind,x.coin,x.to,x.amount,x.got⟩:=hen
    have r1:=xe hV hentry.day.1 hentry.day.2 hentry.coin.1 hentry.coin.2;have b1:=kP r1
    have t1:Tm (rq l x.day x.coin) x.amount:=Qc1 b1 (by have:=hentry.am;omega) (by have:=hentry.am;omega)
    have s1:=(b1.muli (C:=1000) (n:=x.amount) (by have:=hentry.am;omega) (by have:=hentry.am;omega)).sm (by decide)
    have e9:=qP hlt (show l.entries.length<=maxLen by have:=Vh;omega)
    have l1:=VG l 1 k;have l2:=VG l 2 k
    have l3:=VG l 3 k;have l4:=VG l 4 k
    have cap:∀ n:Nat,n<=6->(n+1) * 16<=140737488355328/\n+1<=maxLen:=fun n hn=>by have:=Vh;omega
    have fin:∀ κ,¬ x.kind=κ->kL l κ (k+1)=kL l κ k:=fun κ h=>by rw [hkk,if_neg h]
    have fin1:∀ κ,x.kind=κ->kL l κ (k+1)=kL l κ k++[vE l k]:=fun κ h=>by rw [hkk,if_pos h]
    rcases (by have:=hentry.kind;omega:x.kind=1\/x.kind=2\/x.kind=3\/x.kind=4) with k1|k2|k3|k4
    ·have n1:=fin1 1 (by omega)
     have n2:=fin 2 (by omega)
     have n3:=fin 3 (by omega)
     have n4:=fin 4 (by omega)
     have hen1:EnOk (stK l k).2 ⟨x.day,1,x.coin,x.to,x.amount,x.got⟩:=by rw [<- k1];exact hen'
     have hS1:jF (stK l k).2 ⟨x.day,1,x.coin,x.to,x.amount,x.got⟩=(stK l (k+1)).2:=by rw [hS,<- k1]
     have g1:=cap (kL l 1 k).length (by omega)
     have hve:vE l k=rq l x.day x.coin * x.amount:=by unfold vE;dsimp only;rw [hx,if_neg (by omega),if_neg (by omega)]
     repeat' first|(apply nx;with_reducible constructor)|apply jq (by decide)|((first|apply jz env|apply jk);intro Q hQ;simp only [vkt,seval,qQ,wU,hx,k1,ite_and];(repeat' first|with_reducible assumption|apply jw|intro hp);all_goals first|(apply hQ;clear hQ Q)|omega|assumption|rfl|(apply jx;kernel_rfl)|skip)
     refine ⟨⟨k+1,hlt⟩,by show l.entries.length - (k+1) < l.entries.length - k;omega, ?_⟩
     (refine Le.ok (fun j=>if j=4 then some 11 else some j) [] ?_;constructor;all_goals (try simp only [vle,vkt,seval,wU]))
     all_goals first|rfl|decide|trivial|(rw [e9];done)|exact ⟨by rw [hS1],by rw [n1,hve,ai];rfl,by rw [n2],by rw [n3],by rw [n4]⟩
    ·have n1:=fin 1 (by omega)
     have n2:=fin1 2 (by omega)
     have n3:=fin 3 (by omega)
     have n4:=fin 4 (by omega)
     have hen1:EnOk (stK l k).2 ⟨x.day,2,x.coin,x.to,x.amount,x.got⟩:=by rw [<- k2];exact hen'
     have hS1:jF (stK l k).2 ⟨x.day,2,x.coin,x.to,x.amount,x.got⟩=(stK l (k+1)).2:=by rw [hS,<- k2]
     have g1:=cap (kL l 2 k).length (by omega)
     have hve:vE l k=rq l x.day x.coin * x.amount:=by unfold vE;dsimp only;rw [hx,if_neg (by omega),if_neg (by omega)]
     repeat' first|(apply nx;with_reducible constructor)|apply jq (by decide)|((first|apply jz env|apply jk);intro Q hQ;simp only [vkt,seval,qQ,wU,hx,k2,ite_and];(repeat' first|with_reducible assumption|apply jw|intro hp);all_goals first|(apply hQ;clear hQ Q)|omega|assumption|rfl|(apply jx;kernel_rfl)|skip)
     refine ⟨⟨k+1,hlt⟩,by show l.entries.length - (k+1) < l.entries.length - k;omega, ?_⟩
     (refine Le.ok (fun j=>if j=5 then some 11 else some j) [] ?_;constructor;all_goals (try simp only [vle,vkt,seval,wU]))
     all_goals first|rfl|decide|trivial|(rw [e9];done)|exact ⟨by rw [hS1],by rw [n1],by rw [n2,hve,ai];rfl,by rw [n3],by rw [n4]⟩
    ·have n1:=fin 1 (by omega)
     have n2:=fin 2 (by omega)
     have n3:=fin1 3 (by omega)
     have n4:=fin 4 (by omega)
     have hen1:EnOk (stK l k).2 ⟨x.day,3,x.coin,x.to,x.amount,x.got⟩:=by rw [<- k3];exact hen'
     have hS1:jF (stK l k).2 ⟨x.day,3,x.coin,x.to,x.amount,x.got⟩=(stK l (k+1)).2:=by rw [hS,<- k3]
     have g1:=cap (kL l 3 k).length (by omega)
     have r2:=xe hV hentry.day.1 hentry.day.2 (hentry.to k3).1 (hentry.to k3).2;have b2:=kP r2
     have t2:Tm (rq l x.day x.to) x.got:=Qc1 b2 (by have:=hentry.got k3;omega) (by have:=hentry.got k3;omega)
     have s2:=(b2.muli (C:=1000) (n:=x.got) (by have:=hentry.got k3;omega) (by have:=hentry.got k3;omega)).sm (by decide)
     have hve:vE l k=rq l x.day x.coin * x.amount - rq l x.day x.to * x.got:=by unfold vE;dsimp only;rw [hx,if_pos k3]
     have s3:Sm (rq l x.day x.coin * x.amount - rq l x.day x.to * x.got):=by rw [<- hve];exact hvb
     repeat' first|(apply nx;with_reducible constructor)|apply jq (by decide)|((first|apply jz env|apply jk);intro Q hQ;simp only [vkt,seval,qQ,wU,hx,k3,ite_and];(repeat' first|with_reducible assumption|apply jw|intro hp);all_goals first|(apply hQ;clear hQ Q)|omega|assumption|rfl|(apply jx;kernel_rfl)|skip)
     refine ⟨⟨k+1,hlt⟩,by show l.entries.length - (k+1) < l.entries.length - k;omega, ?_⟩
     (refine Le.ok (fun j=>if j=6 then some 11 else some j) [] ?_;constructor;all_goals (try simp only [vle,vkt,seval,wU]))
     all_goals first|rfl|decide|trivial|(rw [e9];done)|exact ⟨by rw [hS1],by rw [n1],by rw [n2],by rw [n3,hve,ai];rfl,by rw [n4]⟩
    ·have n1:=fin 1 (by omega)
     have n2:=fin 2 (by omega)
     have n3:=fin 3 (by omega)
     have n4:=fin1 4 (by omega)
     have hen1:EnOk (stK l k).2 ⟨x.day,4,x.coin,x.to,x.amount,x.got⟩:=by rw [<- k4];exact hen'
     have hS1:jF (stK l k).2 ⟨x.day,4,x.coin,x.to,x.amount,x.got⟩=(stK l (k+1)).2:=by rw [hS,<- k4]
     have g1:=cap (kL l 4 k).length (by omega)
     have hcl:x.coin.toNat < (stK l k).2.length:=by have:=hentry.coin;have:=ho.len;omega
     have hc0:0<=x.coin:=hentry.coin.1;have g2:=gI0 hcl
     have b9:=hb x.coin.toNat;have t2:Tm (rq l x.day x.coin) ((stK l k).2.getD x.coin.toNat 0):=Qc1 b1 (by omega) (by omega)
     have s2:=(b1.muli (C:=7000) (n:=(stK l k).2.getD x.coin.toNat 0) (by omega) (by omega)).sm (by decide)
     have hve:vE l k=rq l x.day x.coin * x.amount - rq l x.day x.coin * ((stK l k).2.getD x.coin.toNat 0:Int):=by unfold vE;dsimp only;rw [hx,if_neg (by omega),if_pos k4]
     have s3:Sm (rq l x.day x.coin * x.amount - rq l x.day x.coin * ((stK l k).2.getD x.coin.toNat 0:Int)):=by rw [<- hve];exact hvb
     repeat' first|(apply nx;with_reducible constructor)|apply jq (by decide)|((first|apply jz env|apply jk);intro Q hQ;simp only [vkt,seval,qQ,wU,hx,k4,g2,ite_and];(repeat' first|with_reducible assumption|apply jw|intro hp);all_goals first|(apply hQ;clear hQ Q)|omega|assumption|rfl|(apply jx;kernel_rfl)|skip)
     refine ⟨⟨k+1,hlt⟩,by show l.entries.length - (k+1) < l.entries.length - k;omega, ?_⟩
     (refine Le.ok (fun j=>if j=7 then some 11 else some j) [] ?_;constructor;all_goals (try simp only [vle,vkt,seval,wU]))
     all_goals first|rfl|decide|trivial|(rw [e9];done)|exact ⟨by rw [hS1],by rw [n1],by rw [n2],by rw [n3],by rw [n4,hve,ai];rfl⟩
   ·have hkn:k=l.entries.length:=by omega
    subst hkn;have w1:IntKind.wrap .i64 ((l.rates.length:Int) - 1)=(l.rates.length:Int) - 1:=wrap64 (by omega) (by omega)
    have f1:=QcU hV 1 (ag _);have f2:=QcU hV 2 (ag _)
    have f3:=QcU hV 3 (ag _);have f4:=QcU hV 4 (ag _)
    have f5:=Qex hV;have f6:=w_ok hV (d:=(l.rates.length:Int) - 1) (by omega) (by omega) (ag _)
    have hle:(stK l l.entries.length).2.length=l.coins.length:=(J7 hV _ (ag _)).len;have e8:Qgl l=⟨xf (kL l 1 l.entries.length),xf (kL l 2 l.entries.length),xf (ZI l),xf (kL l 3 l.entries.length),xf (kL l 4 l.entries.length),xK l ((l.rates.length:Int) - 1) (stK l l.entries.length).2 (stK l l.entries.length).2.length⟩:=by unfold Qgl;rw [hle]
    repeat' first|(apply nx;with_reducible constructor)|apply jq (by decide)|((first|apply jz env|apply jk);intro Q hQ;simp only [vkt,seval,qQ,wU,w1,ite_and];(repeat' first|with_reducible assumption|apply jw|intro hp);all_goals first|(apply hQ;clear hQ Q)|omega|assumption|rfl|(apply jx;kernel_rfl)|skip)
    rw [e8]
    (simp only [vrt,results53,vkt,seval,qQ,wU];refine Fin.val rfl ?_;(try simp only [AV.le,AV.leL]))
    all_goals first|rfl|trivial|simp
 ·rw [show Qb0 l=_ from if_pos c0]
  repeat' first|(apply nx;with_reducible constructor)|apply jq (by decide)|((first|apply jz env|apply jk);intro Q hQ;simp only [vkt,seval,qQ,wU,c0,ite_and];(repeat' first|with_reducible assumption|apply jw|intro hp);all_goals first|(apply hQ;clear hQ Q)|omega|assumption|rfl|(apply jx;kernel_rfl)|skip)
  (simp only [vrt,results53,vkt,seval,qQ,wU];refine Fin.val rfl ?_;(try simp only [AV.le,AV.leL]))
  all_goals simp
def c39:List AV->Prop × AV
 |[.agg [.sl cs,.sl rs,.sl ss,.sl es]]=>(isL cs rs ss es/\Fit (wJ cs rs ss es),Qb0 (wJ cs rs ss es))
 |_=>(False,.junk)
def d39 {A:Frm->Prop}:qc A prog 53 (zD true c39):=qL fun vs hv h=>by
 clear hv;unfold c39 at h ⊢
 split at h
 ·refine ⟨by unfold Qb0;split <;> simp [AV.plain,AV.plainL,aI,cAcc,z12],fun _=>by unfold Qb0;split <;> simp [AV.flat,AV.flatL,aI,cAcc,z12], ?_⟩
  rw [<- yC h.1];exact QjT _ h.2
 ·exact h.elim
def s36:List AV->Prop × AV
 |[.sl xs,.sl ys]=>(xs=(xs.map qM).map qG/\ys=(ys.map qM).map qG/\xs.length<=maxLen/\∀ p ∈ xs.map qM,p.length<=maxLen,aB (decide (xs.map qM=ys.map qM)))
 |_=>(False,.junk)
def d36 {A:Frm->Prop}:qc A prog 61 (zD true s36):=qL fun vs hv h=>by
 clear hv;unfold s36 at h ⊢
 split at h
 ·rename_i xs ys
  refine ⟨trivial,fun _=>trivial, ?_⟩
  have:=Qdi (xs.map qM) (ys.map qM) (by simpa using h.2.2.1) h.2.2.2
  rwa [qU,<- h.1,qU,<- h.2.1] at this
 ·exact h.elim
def fitW (g:Int):Fit (J6 g):=⟨by simp [J6],fun p hp=>by simp [J6] at hp;rcases hp with rfl|rfl <;> simp,by simp [J6],fun p hp=>by simp [J6] at hp;rcases hp with rfl|rfl <;> simp,by simp [J6],by simp [J6]⟩
def x1:Qb0 (J6 22)=.tup [.agg [.v (.int .i64 30),.v (.int .i64 1),.v (.int .i64 30),.v (.int .i64 1),.v (.int .i64 15),.v (.int .i64 2),.v (.int .i64 1),.v (.int .i64 2),.v (.int .i64 (-2)),.v (.int .i64 1),.v (.int .i64 120),.v (.int .i64 1)],.v (.int .i64 0)]:=by kernel_rfl
def x2:YH (J6 22) 0 1 0 15=.tup [.v (.int .i64 22),.agg [.v (.int .i64 1),.v (.int .i64 2)],.v (.int .i64 0)]:=by kernel_rfl
def x3:Wn (J6 22) 0 28=.tup [qj [3,1,2],.v (.int .i64 0)]:=by kernel_rfl
def x4:Yl (J6 23)=.tup [qU [[0,1]],.v (.int .i64 0)]:=by kernel_rfl
def x5:vH 7 [2,0,1]=.tup [qj [5,0,2],.v (.int .i64 0)]:=by kernel_rfl
def dIntV (n:Int):qE [.v (.int .i64 n)]=n:=rfl
def QkZ (l:List (List DV)):qM [.sl l]=l.map qE:=rfl
def jB:=jw @ty3 (jw @jK (jw @WU (jw @Zv (jw @QL (jw @Qjf (jw @ti3.eq_1 (jw @jr.eq_1 (jw @Zy.eq_1 (jw @Qo.eq_1 (jw @xS.eq_1 @LX.eq_1))))))))))
def xD:=jw @dIntV (jw @QkZ (jw @aI.eq_1 (jw @aB.eq_1 (jw @qj.eq_1 (jw @qU.eq_1 (jw @zo.eq_1 (jw @qY.eq_1 (jw @c39.eq_1 (jw @c39.eq_2 (jw @c48.eq_1 (jw @c48.eq_2 (jw @c28.eq_1 (jw @c28.eq_2 (jw @c32.eq_1 (jw @c32.eq_2 (jw @c24.eq_1 (jw @c24.eq_2 (jw @c76.eq_1 (jw @c76.eq_2 (jw @s40.eq_1 (jw @s40.eq_2 (jw @s26.eq_1 (jw @s26.eq_2 (jw @s36.eq_1 (jw @s36.eq_2 (jw @x1 (jw @x2 (jw @x3 (jw @x4 (jw @x5 (jw @xR (jw @yF (jw @xV (jw @kE (jw @ql.eq_1 (@qG.eq_1))))))))))))))))))))))))))))))))))))
def Uu:FnV prog 18 [] (aB true):=by
 have env:=qz (A:=fun _=>True) (kC d76 (kC d39 (kC d48 (kC d28 (kC d32 (kC d24 (kC e40 (kC e26 (kC d36 kN)))))))))
 refine kV (Fn0 func18 rfl (fun vs w=>by kernel_rfl) (by kernel_rfl)) (by simp) (by simp []) ?_
 have f1:=fitW 22;have q1:3<=maxLen:=by decide
 have q2:1<=maxLen:=by decide
 have q3:2<=maxLen:=by decide
 have f2:=fitW 23
 repeat' first|(apply nx;with_reducible constructor)|apply jq (by decide)
 (apply jz env;intro Q hQ;simp only [vkt,seval,ite_and];(repeat' first|with_reducible assumption|apply jw|intro hp);all_goals first|(apply hQ;clear hQ Q)|omega|assumption|rfl|(apply jx;kernel_rfl)|skip)
 repeat' first|(apply nx;with_reducible constructor)|apply jq (by decide)
 (apply jz env;intro Q hQ;simp only [vkt,seval,jB,xD,ite_and];(repeat' first|with_reducible assumption|apply jw|intro hp);all_goals first|(apply hQ;clear hQ Q)|omega|assumption|rfl|(apply jx;kernel_rfl)|skip)
 repeat' first|(apply nx;with_reducible constructor)|apply jq (by decide)
 (apply jz env;intro Q hQ;simp only [vkt,seval,jB,xD,ite_and];(repeat' first|with_reducible assumption|apply jw|intro hp);all_goals first|(apply hQ;clear hQ Q)|omega|assumption|rfl|(apply jx;kernel_rfl)|skip)
 repeat' first|(apply nx;with_reducible constructor)|apply jq (by decide)
 (apply jz env;intro Q hQ;simp only [vkt,seval,xD,ite_and];(repeat' first|with_reducible assumption|apply jw|intro hp);all_goals first|(apply hQ;clear hQ Q)|omega|assumption|rfl|(apply jx;kernel_rfl)|skip)
 repeat' first|(apply nx;with_reducible constructor)|apply jq (by decide)
 (apply jz env;intro Q hQ;simp only [vkt,seval,xD,ite_and];(repeat' first|with_reducible assumption|apply jw|intro hp);all_goals first|(apply hQ;clear hQ Q)|omega|assumption|rfl|(apply jx;kernel_rfl)|skip)
 repeat' first|(apply nx;with_reducible constructor)|apply jq (by decide)
 (apply jz env;intro Q hQ;simp only [vkt,seval,jB,xD,ite_and];(repeat' first|with_reducible assumption|apply jw|intro hp);all_goals first|(apply hQ;clear hQ Q)|omega|assumption|rfl|(apply jx;kernel_rfl)|skip)
 repeat' first|(apply nx;with_reducible constructor)|apply jq (by decide)
 refine Qb5 (S':={ t:=asg [(2,aI 0),(5,aI 0),(7,aI 0),(9,aI 0),(11,aI 0),(3,aI 22),(4,.ptr 1 0),(1,.ptr 0 0),(6,qj [3,1,2]),(8,qU [[0,1]]),(10,qj [5,0,2])],h:=qf [(0,.cells [.v (.int .i64 30),.v (.int .i64 1),.v (.int .i64 30),.v (.int .i64 1),.v (.int .i64 15),.v (.int .i64 2),.v (.int .i64 1),.v (.int .i64 2),.v (.int .i64 (-2)),.v (.int .i64 1),.v (.int .i64 120),.v (.int .i64 1)]),(1,.cells [aI 1,aI 2])],n:=2 }) ?_ ?_
 ·(refine Le.ok some [] ?_;constructor;all_goals (try simp only [vle,vkt,seval,xD]))
  all_goals first|rfl|simp
 (apply jz env;intro Q hQ;simp only [vkt,seval,jB,xD,ite_and];(repeat' first|with_reducible assumption|apply jw|intro hp);all_goals first|(apply hQ;clear hQ Q)|omega|assumption|with_reducible rfl|(apply jx;kernel_rfl)|skip)
 repeat' first|(apply nx;with_reducible constructor)|apply jq (by decide)
 (simp only [vrt,results18,vkt,seval,xD];refine Fin.val rfl ?_;(try simp only [AV.le]))
 all_goals simp
def c19:List AV->Prop × AV
 |[]=>(True,.v (.bool true))
 |_=>(False,.junk)
def d19 {A:Frm->Prop}:qc A prog 18 (zD true c19):=qL fun vs hv h=>by
 clear hv;unfold c19 at h ⊢
 split at h
 ·exact ⟨trivial,fun _=>trivial,Uu⟩
 ·exact h.elim
end Go.Sym.B
