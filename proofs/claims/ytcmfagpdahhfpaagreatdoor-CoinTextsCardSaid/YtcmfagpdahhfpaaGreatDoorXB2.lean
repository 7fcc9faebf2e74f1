/- Walks and what they compute, joined: part 2. -/
import Derived.Test.YtcmfagpdahhfpaaGreatDoorXS3
import Derived.Test.YtcmfagpdahhfpaaGreatDoorProg
import Derived.KernelRfl
import Derived.Shelf.Strings.OnBuilder
import Derived.Shelf.Strconv.Itoa3
import Derived.Shelf.Strconv.AtoiAll
import Derived.Shelf.Strings.Split
import Derived.Shelf.Strings.Cut
import Derived.Test.YtcmfagpdahhfpaaGreatDoorXB1
set_option linter.all false
set_option maxRecDepth 100000
set_option maxHeartbeats 40000000
namespace Go.Sym.B
open Go Go.Sym Go.Proofs Go.Proofs.Tryz Go.Sym.C
def jB:=jw @ty3 (jw @ty9 (jw @ty93 (jw @Qdq (jw @Qy (jw @ti3.eq_1 (jw @ti9.eq_1 (jw @Qhn.eq_1 (jw @Xc.eq_1 @xU.eq_1))))))))
def YA:=jw @aU.eq_1 (jw @aUi.eq_1 (jw @aI.eq_1 (jw @aB.eq_1 (jw @Kz.eq_1 (jw @Kz.eq_2 (@repS.eq_1))))))
def QkO (r:List DV) (n:Nat) (hr:r.length=2) (h1:1<=n) (h2:n<=2000):Fn noB prog 159 [.sl [r],aI n] noH (.row 0) (qg [(0,.row 191 2 (List.replicate n r))]) 0:=by
 have env:=qx (A:=fun _=>True) (kC e134 kN)
 refine kV (Fn0 func159 rfl (fun vs w=>by kernel_rfl) (by kernel_rfl)) (by simp) (by simp [AV.ids,aI]) ?_
 obtain ⟨w1,w2⟩:=QfR (n:=(n:Int)) (by omega) (by omega)
 have w3:IntKind.wrap .u64 1=1:=by decide
 have c1:¬ ((n:Int) < 0):=by omega
 have c2:¬ ((9223372036854775807:Int) < n):=by omega
 have b1:((16:Nat):Int) * n<=140737488355328:=by omega
 have b2:(n:Int)<=maxLen:=by
   have:(2000:Nat)<=maxLen:=by decide
   omega
 repeat' first|(apply nx;with_reducible constructor)|apply jq (by decide)|((first|apply jz env|apply jk);intro Q hQ;simp only [vkt,seval,jB,YA,bK,Option.getD_none,w1,w2,w3,c1,c2,hr,ite_and];(repeat' first|with_reducible assumption|apply jw|intro hp);all_goals first|(apply hQ;clear hQ Q)|omega|assumption|rfl|(apply jx;kernel_rfl)|skip)
 refine qh (fun m:{ m:Nat // 1<=m/\m<=n }=>repS 191 2 r [.v (.int .i64 0),.v (.int .i64 0)] n m.1 (.sl [r])) (fun m=>n - m.1) ⟨1,ag _,h1⟩ ?_ fun ⟨m,hm1,hm2⟩=>?_
 ·(refine Le.ok some [] ?_;constructor;all_goals (try simp only [vle,vkt,seval,YA]))
  all_goals (first|(simp;omega)|(have:=Xl (r:=r) (z:=[.v (.int .i64 0),.v (.int .i64 0)]) h1;simp at this ⊢;first|exact this|(rw [<- this];simp)|omega))
 ·have f1:(Zt r [.v (.int .i64 0),.v (.int .i64 0)] m n).length=n:=Qbk hm2
  have f2:List.take m (Zt r [.v (.int .i64 0),.v (.int .i64 0)] m n)=List.replicate m r:=ZK;have f3:zK 2 (List.replicate m r)=True:=Qc4 hr
  have f4:=Rn (r:=r) (z:=[.v (.int .i64 0),.v (.int .i64 0)]) hm2 (c:=min m (n - m)) rfl;have f5:List.take m (List.drop 0 (Zt r [.v (.int .i64 0),.v (.int .i64 0)] m n))=List.replicate m r:=ZK
  rw [f2] at f4
  repeat' first|(apply nx;with_reducible constructor)|apply jq (by decide)
  (apply jz env;intro Q hQ;simp only [vkt,seval,jB,YA,f1,ite_and];(repeat' first|with_reducible assumption|apply jw|intro hp);all_goals first|(apply hQ;clear hQ Q)|omega|assumption|rfl|(apply jx;kernel_rfl)|skip)
  repeat' first|(apply nx;with_reducible constructor)|apply jq (by decide)
  (refine zk (by simp only [vkt,seval];rfl) (fun h=>?_) (fun h=>?_) <;> (try simp only [vki] at h))
  ·have hlt:m < n:=by omega
   have hmi:(m:Int) < (n:Int):=by omega
   have e9:IntKind.wrap .i64 ((m:Int)+((min m (n - m):Nat):Int))=((m+min m (n - m):Nat):Int):=by rw [wrap64 (by omega) (by omega)];omega
   repeat' first|(apply nx;with_reducible constructor)|apply jq (by decide)|((first|apply jz env|apply jk);intro Q hQ;simp only [vkt,seval,jB,bK,bA,f1,f2,f3,hmi,ite_and];(repeat' first|with_reducible assumption|apply jw|intro hp);all_goals first|(apply hQ;clear hQ Q)|omega|assumption|rfl|(apply jx;kernel_rfl)|skip)
   refine ⟨⟨m+min m (n - m),by omega,by omega⟩,by show n - (m+min m (n - m)) < n - m;omega, ?_⟩
   (refine Le.ok some [] ?_;constructor;all_goals (try simp only [vle,vkt,seval,YA]))
   all_goals (first|(simp [e9];done)|(simp only [f4];done)|(rw [<- f4];simp))
  ·have hmn:m=n:=by omega
   subst hmn;have f6:Zt r [.v (.int .i64 0),.v (.int .i64 0)] m m=List.replicate m r:=by simp [Zt]
   repeat' first|(apply nx;with_reducible constructor)|apply jq (by decide)|((first|apply jz env|apply jk);intro Q hQ;simp only [vkt,seval,ite_and];(repeat' first|with_reducible assumption|apply jw|intro hp);all_goals first|(apply hQ;clear hQ Q)|omega|assumption|rfl|(apply jx;kernel_rfl)|skip)
   (simp only [vrt,results159,vkt,seval];refine Fin.ok some [] ?_ ?_ ?_ ?_ ?_ rfl;all_goals (try simp only [vle,vkt,seval]))
   all_goals simp [f6]
def p87 (S:St):List AV->Option Pk
 |[.row i,.v (.int .i64 n)]=>match S.h i with
  |some (.row _ _ [r])=>some { pre:=r.length=1/\1<=n/\n<=2000,bo:=[i],ar:=[.sl [r],.v (.int .i64 n)],v:=.row 0,L1:=[some (.row 3 1 (List.replicate n.toNat r))] }
  |_=>none
 |_=>none
def e87 {A:Frm->Prop}:qf A prog 113 (fnE p87):=jb fun S bs q h hp=>by
 unfold p87 at h;split at h
 ·split at h
  ·rename_i i n _ _ _ r _
   cases h;have:=rep87 r n.toNat hp.1 (by have:=hp.2;omega) (by have:=hp.2;omega)
   rw [cI (by have:=hp.2;omega)] at this
   exact this
  ·cases h
 ·cases h
def p137 (S:St):List AV->Option Pk
 |[.row i,.v (.int .i64 n)]=>match S.h i with
  |some (.row _ _ [r])=>some { pre:=r.length=2/\1<=n/\n<=2000,bo:=[i],ar:=[.sl [r],.v (.int .i64 n)],v:=.row 0,L1:=[some (.row 191 2 (List.replicate n.toNat r))] }
  |_=>none
 |_=>none
def e137 {A:Frm->Prop}:qf A prog 159 (fnE p137):=jb fun S bs q h hp=>by
 unfold p137 at h;split at h
 ·split at h
  ·rename_i i n _ _ _ r _
   cases h;have:=QkO r n.toNat hp.1 (by have:=hp.2;omega) (by have:=hp.2;omega)
   rw [cI (by have:=hp.2;omega)] at this
   exact this
  ·cases h
 ·cases h
def QlI {a:Nat} {c:TypeId} {xs ys:List (List DV)}:(∃ e k,AObj.row c a xs=AObj.row e k ys)=(xs=ys):=by
 refine propext ⟨fun ⟨e,k,h⟩=>?_,fun h=>⟨c,a,by rw [h]⟩⟩
 cases h;rfl
def kd (l:Led) (d:Int):Nat:=(l.entries.takeWhile fun x=>decide (x.day<=d)).length
def J4 {α:Type} (p:α->Bool):∀ (l:List α) (k:Nat) (d:α),k < (l.takeWhile p).length->p (l.getD k d)=true
 |[],k,d,h=>by simp at h
 |a :: l,k,d,h=>by
  rw [dN] at h;split at h
  ·cases k with
   |zero=>simpa
   |succ k=>simpa using J4 p l k d (by simpa using h)
  ·simp at h
def JZ {α:Type} (p:α->Bool):∀ (l:List α) (d:α),(l.takeWhile p).length < l.length->p (l.getD (l.takeWhile p).length d)=false
 |[],d,h=>by simp at h
 |a :: l,d,h=>by
  rw [dN] at h ⊢;split
  ·rename_i hp
   rw [if_pos hp] at h
   simpa using JZ p l d (by simpa using h)
  ·rename_i hp;simpa using hp
def YG {α:Type} (p q:α->Bool) (h:∀ a,p a=true->q a=true):∀ l:List α,(l.takeWhile p).length<=(l.takeWhile q).length
 |[]=>by simp
 |a :: l=>by
  rw [dN,dN];split
  ·rename_i hp;rw [if_pos (h a hp)];simpa using YG p q h l
  ·simp
def Qfs (l:Led) (d:Int):kd l d<=l.entries.length:=List.Sublist.length_le (List.takeWhile_sublist _)
def kd_lt {l:Led} {d:Int} {k:Nat} (h:k < kd l d):(l.entries.getD k default).day<=d:=by simpa using J4 _ l.entries k default h
def QlK {l:Led} {d:Int} (h:kd l d < l.entries.length):¬ (l.entries.getD (kd l d) default).day<=d:=by
 have:=JZ (fun x:Ent=>decide (x.day<=d)) l.entries default h
 change decide ((l.entries.getD (kd l d) default).day<=d)=false at this
 simpa only [decide_eq_false_iff_not] using this
def Qjr (l:Led) {d e:Int} (h:d<=e):kd l d<=kd l e:=YG _ _ (fun a ha=>by simp at ha ⊢;omega) _
def evH (l:Led) (d:Int):List Int:=(stK l (kd l d)).2
def gT (l:Led) (c d:Nat):Rat:=(rq l ((d:Int)+1) c - rq l d c) * ((evH l d).getD c 0:Int)
def gQ1 (l:Led) (D c:Nat):Rat:=kK ((List.range D).map fun d=>gT l c d)
def Qgn (l:Led) (D c:Nat):gQ1 l (D+1) c=gQ1 l D c+gT l c D:=by
 unfold gQ1;rw [bM,ae,aD,ba,Vm]
def QW (l:Led) (D c:Nat):List Rat:=(List.range l.coins.length).map fun i=>if i < c then gQ1 l (D+1) i else gQ1 l D i
def Jn (l:Led):List Rat:=(List.range l.coins.length).map fun i=>gQ1 l (l.rates.length - 1) i
def QaP (l:Led) (D c:Nat):(QW l D c).length=l.coins.length:=by simp [QW]
def QgU {l:Led} {D c:Nat} (h:c < l.coins.length):(QW l D c).getD c 0=gQ1 l D c:=by simp [QW,ah,h]
def QhU {l:Led} {D c:Nat} (h:c < l.coins.length):(QW l D c).set c (gQ1 l D c+gT l c D)=QW l D (c+1):=by
 rw [<- Qgn];apply List.ext_getElem
 ·simp [QW]
 ·intro i h1 h2
  simp only [QW,dp,ab,d9] at h1;rw [List.getElem_set]
  split
  ·rename_i e;subst e;simp [QW]
  ·simp only [QW,List.getElem_map,List.getElem_range]
   by_cases hi:i < c
   ·rw [if_pos hi,if_pos (by omega)]
   ·rw [if_neg hi,if_neg (by omega)]
def Qer (l:Led) (D:Nat):QW l D l.coins.length=QW l (D+1) 0:=by
 unfold QW;refine cE fun i hi=>?_
 have:=aE.1 hi;rw [if_pos this,if_neg (by omega)]
def Qcw (l:Led):(QW l 0 0).map eQ=List.replicate l.coins.length (eQ 0):=by
 unfold QW;rw [bQ]
 refine List.eq_replicate_iff.2 ⟨by simp,fun b hb=>?_⟩
 obtain ⟨i,hi,rfl⟩:=aj.1 hb
 simp [gQ1,kK]
def Qh9 (l:Led) (h:1<=l.rates.length):QW l (l.rates.length - 1) 0=Jn l:=by
 unfold QW Jn;refine cE fun i hi=>?_
 rw [if_neg (by omega)]
def Yz {l:Led} (h:Val l) (k:Nat) (hk:k<=l.entries.length):HasOk l k (stK l k).2:=JE h.sl h.s k hk fun j hj=>h.es j (by omega)
def Zx {l:Led} (h:Val l) {k:Nat} (hk:k < l.entries.length):EntryOk l (l.entries.getD k default) (stK l k).1:=by
 have h0:=h.es k hk;rw [Qc8] at h0
 unfold eV at h0;split at h0
 ·exact absurd h0 ‹_›
 ·exact QH (Decidable.not_not.1 ‹_›)
def Ue {l:Led} (h:Val l) (k:Nat) (hk:k<=l.entries.length) (c:Nat):0<=(stK l k).2.getD c 0/\(stK l k).2.getD c 0<=6993:=by
 have h1:=Yz h k hk;have:=h.e
 by_cases hc:c < (stK l k).2.length
 ·have:=h1.b _ (jr (d:=0) hc);omega
 ·rw [ah,cv (by omega)];simp
def Qkj {l:Led} (h:Val l) {c d:Nat} (hc:c < l.coins.length) (hd:d+1 < l.rates.length):Bd 300000 (gT l c d):=by
 have r1:=QQ (kR h (d:=(d:Int)+1) (c:=c) (by omega) (by omega) (by omega) (by omega))
 have r2:=QQ (kR h (d:=(d:Int)) (c:=c) (by omega) (by omega) (by omega) (by omega))
 have hb:=Ue h (kd l d) (Qfs _ _) c;exact ((r1.sub r2).muli (C:=7000) (n:=(evH l d).getD c 0) (by unfold evH;omega) (by unfold evH;omega)).mono (by decide)
def Qgu {l:Led} (h:Val l) {c D:Nat} (hc:c < l.coins.length) (hd:D < l.rates.length):Bd 900000 (gQ1 l D c):=by
 have:=UT ((List.range D).map fun d=>gT l c d) (B:=300000) fun q hq=>by
  obtain ⟨d,hd',rfl⟩:=aj.1 hq;exact Qkj h hc (by have:=aE.1 hd';omega)
 refine this.mono ?_
 have:=h.r
 simp;omega
def gS1 (l:Led) (D k:Nat):St:={ t:=asg [(1,.ptr 0 0),(3,.row 3),(4,.ptr 1 0),(5,aI k),(20,aI ((l.rates.length:Int) - 1)),(21,aI D)],h:=qg [(0,.cells (qU l)),(1,vS l 2),(2,Q8 (stK l k).2),(3,.row 191 2 ((QW l D 0).map eQ))],n:=4 }
def gS2 (l:Led) (D k:Nat):St:={ t:=asg [(1,.ptr 0 0),(3,.row 3),(4,.ptr 1 0),(5,aI k),(6,aI D),(20,aI ((l.rates.length:Int) - 1)),(21,aI D)],h:=qg [(0,.cells (qU l)),(1,vS l 2),(2,Q8 (stK l k).2),(3,.row 191 2 ((QW l D 0).map eQ))],n:=4 }
def gS3 (l:Led) (D c:Nat):St:={ t:=asg [(1,.ptr 0 0),(3,.row 3),(4,.ptr 1 0),(5,aI (kd l D)),(6,aI D),(20,aI ((l.rates.length:Int) - 1)),(21,aI D),(60,.row 2),(61,aI l.coins.length),(62,aI c)],h:=qg [(0,.cells (qU l)),(1,vS l 2),(2,Q8 (evH l D)),(3,.row 191 2 ((QW l D c).map eQ))],n:=4 }
def setQ (l:List Rat) (n:Nat) (q:Rat):(l.map eQ).set n [.v (.int .i64 q.num),.v (.int .i64 q.den)]=(l.set n q).map eQ:=by rw [dJ];rfl
def Zg:=jw @vU (jw @Qy (jw @vD.eq_1 @xU.eq_1))
def Qa5:=jw @aI.eq_1 (jw @aB.eq_1 (jw @q9.eq_1 (jw @qU.eq_1 (jw @aSh.eq_1 (jw @shQ.eq_1 (jw @c98.eq_1 (jw @c98.eq_2 (jw @s99.eq_1 (jw @s99.eq_2 (jw @Qec.eq_1 (jw @Qec.eq_2 (jw @xf (jw @jT (jw @YD (@KN)))))))))))))))
def QgD (l:Led) (d a b n:Int) (h1:Rt l d a) (h2:Rt l d b) (hn:0<=n) (hn':n<=300000):FnV prog 109 [q9 l,aI d,aI a,aI b,aI n] (aSh (shQ (rq l d a * n / rq l d b))):=by
 have env:=qx (A:=fun _=>True) (kC d98 (kC e99 (kC e135 kN)))
 refine kV (Fn0 func109 rfl (fun vs w=>by kernel_rfl) (by kernel_rfl)) (by simp) (by simp [AV.ids,AV.idsL,q9,qU,aI]) ?_
 have g1:=QQ h1;have g2:=QlA g1 (show -300000<=n by omega) (by omega)
 have g3:=(g1.muli (C:=300000) (n:=n) (by omega) (by omega)).sm (by decide)
 have g4:=(QQ h2).sm (by decide)
 have g5:0 < (rq l d b).num:=by have:=h2.n0;omega
 have g6:(rq l d b).num<=1048576:=by have:=h2.n1;omega
 repeat' first|(apply nx;with_reducible constructor)|apply jq (by decide)|((first|apply jz env|apply jk);intro Q hQ;simp only [vkt,seval,Zg,Qa5,ite_and];(repeat' first|with_reducible assumption|apply jw|intro hp);all_goals first|(apply hQ;clear hQ Q)|omega|assumption|rfl|(apply jx;kernel_rfl)|skip)
 (simp only [vrt,results109,vkt,seval,Zg,Qa5];refine Fin.val rfl ?_;(try simp only [AV.le,AV.leL]))
 all_goals simp
def c89:List AV->Prop × AV
 |[.agg [.sl cs,.sl rs,.sl ss,.sl es],.v (.int .i64 d),.v (.int .i64 a),.v (.int .i64 b),.v (.int .i64 n)]=>(isL cs rs ss es/\Rt (zR cs rs ss es) d a/\Rt (zR cs rs ss es) d b/\0<=n/\n<=300000,aSh (shQ (rq (zR cs rs ss es) d a * n / rq (zR cs rs ss es) d b)))
 |_=>(False,.junk)
def d89 {A:Frm->Prop}:qf A prog 109 (zq true c89):=qD fun vs hv h=>by
 clear hv;unfold c89 at h ⊢
 split at h
 ·refine ⟨by simp [AV.plain,AV.plainL,aSh],fun _=>by simp [AV.flat,AV.flatL,aSh], ?_⟩
  rw [<- jA h.1];exact QgD _ _ _ _ _ h.2.1 h.2.2.1 h.2.2.2.1 h.2.2.2.2
 ·exact h.elim
def yU (l:Led) (d a b n:Int):Int:=if zf l ≠ 0 then zf l else if !inB d 0 ((l.rates.length:Int) - 1) then 3 else if !inB a 0 ((l.coins.length:Int) - 1) then 3 else if !inB b 0 ((l.coins.length:Int) - 1) then 3 else if a=b then 4 else if !inB n 0 999 then 1 else 0
def wX:=jw @ty3 (jw @jh (jw @WP (jw @QD (jw @WK (jw @vU (jw @vQ (jw @ti3.eq_1 (jw @jc.eq_1 (jw @Zn.eq_1 (jw @kI.eq_1 (jw @Zp.eq_1 (jw @vD.eq_1 @yP.eq_1))))))))))))
def xg:=jw @aI.eq_1 (jw @aB.eq_1 (jw @q9.eq_1 (jw @qU.eq_1 (jw @c50.eq_1 (jw @c50.eq_2 (jw @s79.eq_1 (jw @s79.eq_2 (jw @xf (@jT)))))))))
def QbC (l:Led) (d a b n:Int) (hl:Fit l):FnV prog 108 [q9 l,aI d,aI a,aI b,aI n] (aI (yU l d a b n)):=by
 have env:Env (fun _=>True) prog tyB (tab [(64,zq true c50),(122,zq true s79)]):=qx ⟨d50,e79,trivial⟩
 refine Fn.of (A:=fun _=>True) (n0:=0) (D:=noD) (Fn0 func108 rfl (fun vs w=>by kernel_rfl) (by kernel_rfl)) (by simp) (by simp [AV.ids,AV.idsL,q9,qU,aI]) (fun i o h=>by cases h) (fun _ _ _ _=>trivial) zb ?_
 have q1:=hl.c;have q2:=hl.r
 have w1:IntKind.wrap .i64 ((l.rates.length:Int) - 1)=(l.rates.length:Int) - 1:=wrap64 (by omega) (by omega)
 have w2:IntKind.wrap .i64 ((l.coins.length:Int) - 1)=(l.coins.length:Int) - 1:=wrap64 (by omega) (by omega)
 by_cases c0:zf l=0
 ·cases c1:inB d 0 ((l.rates.length:Int) - 1)
  ·repeat' first|(apply nx;with_reducible constructor)|refine jq (by decide) ?_|((first|refine jz env fun Q hQ=>?_|refine jj fun Q hQ=>?_);simp only [vkt,seval,wX,xg,w1,c0,c1];(try simp only [ite_and]);(repeat' (first|with_reducible assumption|refine eg ?_ ?_|intro hp));all_goals (first|(refine hQ _ ?_;clear hQ Q)|(refine hQ _ (fun h=>?_) (fun h=>?_) <;> clear hQ Q <;> (try simp only [reduceCtorEq] at h))|omega|assumption|rfl|(refine jx ?_;kernel_rfl)|skip))
   (simp only [vrt,results108,vkt,seval,xg];refine Fin.val rfl ?_;(try simp only [AV.le]))
   all_goals simp [yU, *]
  cases c2:inB a 0 ((l.coins.length:Int) - 1)
  ·repeat' first|(apply nx;with_reducible constructor)|refine jq (by decide) ?_|((first|refine jz env fun Q hQ=>?_|refine jj fun Q hQ=>?_);simp only [vkt,seval,wX,xg,w1,w2,c0,c1,c2];(try simp only [ite_and]);(repeat' (first|with_reducible assumption|refine eg ?_ ?_|intro hp));all_goals (first|(refine hQ _ ?_;clear hQ Q)|(refine hQ _ (fun h=>?_) (fun h=>?_) <;> clear hQ Q <;> (try simp only [reduceCtorEq] at h))|omega|assumption|rfl|(refine jx ?_;kernel_rfl)|skip))
   (simp only [vrt,results108,vkt,seval,xg];refine Fin.val rfl ?_;(try simp only [AV.le]))
   all_goals simp [yU, *]
  cases c3:inB b 0 ((l.coins.length:Int) - 1)
  ·repeat' first|(apply nx;with_reducible constructor)|refine jq (by decide) ?_|((first|refine jz env fun Q hQ=>?_|refine jj fun Q hQ=>?_);simp only [vkt,seval,wX,xg,w1,w2,c0,c1,c2,c3];(try simp only [ite_and]);(repeat' (first|with_reducible assumption|refine eg ?_ ?_|intro hp));all_goals (first|(refine hQ _ ?_;clear hQ Q)|(refine hQ _ (fun h=>?_) (fun h=>?_) <;> clear hQ Q <;> (try simp only [reduceCtorEq] at h))|omega|assumption|rfl|(refine jx ?_;kernel_rfl)|skip))
   (simp only [vrt,results108,vkt,seval,xg];refine Fin.val rfl ?_;(try simp only [AV.le]))
   all_goals simp [yU, *]
  repeat' first|(apply nx;with_reducible constructor)|refine jq (by decide) ?_|((first|refine jz env fun Q hQ=>?_|refine jj fun Q hQ=>?_);simp only [vkt,seval,wX,xg,w1,w2,c0,c1,c2,c3];(try simp only [ite_and]);(repeat' (first|with_reducible assumption|refine eg ?_ ?_|intro hp));all_goals (first|(refine hQ _ ?_;clear hQ Q)|(refine hQ _ (fun h=>?_) (fun h=>?_) <;> clear hQ Q <;> (try simp only [vki,reduceCtorEq] at h))|omega|assumption|rfl|(refine jx ?_;kernel_rfl)|skip))
  all_goals (simp only [vrt,results108,vkt,seval,xg];refine Fin.val rfl ?_;(try simp only [AV.le]))
  all_goals simp [yU, *]
 ·repeat' first|(apply nx;with_reducible constructor)|refine jq (by decide) ?_|((first|refine jz env fun Q hQ=>?_|refine jj fun Q hQ=>?_);simp only [vkt,seval,wX,xg,c0];(try simp only [ite_and]);(repeat' (first|with_reducible assumption|refine eg ?_ ?_|intro hp));all_goals (first|(refine hQ _ ?_;clear hQ Q)|(refine hQ _ (fun h=>?_) (fun h=>?_) <;> clear hQ Q <;> (try simp only [reduceCtorEq] at h))|omega|assumption|rfl|(refine jx ?_;kernel_rfl)|skip))
  (simp only [vrt,results108,vkt,seval,xg];refine Fin.val rfl ?_;(try simp only [AV.le]))
  all_goals simp [yU,c0]
def c106:List AV->Prop × AV
 |[.agg [.sl cs,.sl rs,.sl ss,.sl es],.v (.int .i64 d),.v (.int .i64 a),.v (.int .i64 b),.v (.int .i64 n)]=>(isL cs rs ss es/\Fit (zR cs rs ss es),aI (yU (zR cs rs ss es) d a b n))
 |_=>(False,.junk)
def d106 {A:Frm->Prop}:qf A prog 108 (zq true c106):=qD fun vs hv h=>by
 clear hv;unfold c106 at h ⊢
 split at h
 ·refine ⟨trivial,fun _=>trivial, ?_⟩
  rw [<- jA h.1];exact QbC _ _ _ _ _ h.2
 ·exact h.elim
def Qca {l:Led} {d a b n:Int} (h:yU l d a b n=0):Val l/\Rt l d a/\Rt l d b/\0<=n/\n<=999/\a ≠ b:=by
 unfold yU at h;split at h
 ·exact absurd h ‹_›
 rename_i a1;split at h
 ·exact absurd h (by decide)
 rename_i a2;split at h
 ·exact absurd h (by decide)
 rename_i a3;split at h
 ·exact absurd h (by decide)
 rename_i a4;split at h
 ·exact absurd h (by decide)
 rename_i a5;split at h
 ·exact absurd h (by decide)
 rename_i a6;have nf:∀ {p:Bool},¬ (!p)=true->p=true:=fun h=>by simpa using h
 have hv:=We (Decidable.not_not.1 a1);have b2:=zN.1 (nf a2)
 have b3:=zN.1 (nf a3);have b4:=zN.1 (nf a4)
 have b6:=zN.1 (nf a6);exact ⟨hv,kR hv b2.1 b2.2 b3.1 b3.2,kR hv b2.1 b2.2 b4.1 b4.2,b6.1,b6.2,a5⟩
def VG (l:Led) (d a b n:Int):Rat:=rq l d a * n / rq l d b
def Vw (l:Led) (d a b n:Int):AV:=if yU l d a b n ≠ 0 then .tup [aI 0,aSh ⟨0,0⟩,aI (yU l d a b n)] else .tup [aI (VG l d a b n).floor,aSh (shQ (VG l d a b n - ((VG l d a b n).floor:Rat))),aI 0]
def Qkr {q:Rat} (h:Sm q):FlOk q:=by
 obtain ⟨h1,h2,h3⟩:=h;exact ⟨by omega,by omega,by omega⟩
def vN:=jw @WP (jw @vU (jw @Qg (jw @Qy (jw @Zn.eq_1 (jw @vD.eq_1 (jw @xD.eq_1 @xU.eq_1))))))
def YO:=jw @aI.eq_1 (jw @aB.eq_1 (jw @q9.eq_1 (jw @qU.eq_1 (jw @aSh.eq_1 (jw @shQ.eq_1 (jw @c106.eq_1 (jw @c106.eq_2 (jw @c89.eq_1 (jw @c89.eq_2 (jw @s90.eq_1 (jw @s90.eq_2 (jw @Vt.eq_1 (jw @Vt.eq_2 (jw @KE.eq_1 (jw @KE.eq_2 (jw @xf (jw @jT (jw @YD (@KN)))))))))))))))))))
def Qjl (l:Led) (d a b n:Int) (hl:Fit l):FnV prog 55 [q9 l,aI d,aI a,aI b,aI n] (Vw l d a b n):=by
 have env:=qx (A:=fun _=>True) (kC d106 (kC d89 (kC e90 (kC Qf1 (kC e100 kN)))))
 refine kV (Fn0 func55 rfl (fun vs w=>by kernel_rfl) (by kernel_rfl)) (by simp) (by simp [AV.ids,AV.idsL,q9,qU,aI]) ?_
 by_cases c0:yU l d a b n=0
 ·obtain ⟨v1,v2,v3,v4,v5,v6⟩:=Qca c0
  have v5':n<=300000:=by omega
  have hb:=(QQ v2).muli (C:=50000) (n:=n) (by omega) (by omega)
  have hq:=QfA hb (by decide) (by have:=v3.n0;omega) v3.n1 v3.e1
  have hq2:=QgZ hq;have hq3:=Qkr hq
  rw [show Vw l d a b n=_ from if_neg (by rw [c0];simp)]
  repeat' first|(apply nx;with_reducible constructor)|apply jq (by decide)|((first|apply jz env|apply jk);intro Q hQ;simp only [vkt,seval,vN,YO,c0,ite_and];(repeat' first|with_reducible assumption|apply jw|intro hp);all_goals first|(apply hQ;clear hQ Q)|omega|assumption|rfl|(apply jx;kernel_rfl)|skip)
  (simp only [vrt,results55,vkt,seval,vN,YO];refine Fin.val rfl ?_;(try simp only [AV.le,AV.leL]))
  all_goals simp [VG]
 ·rw [show Vw l d a b n=_ from if_pos c0]
  repeat' first|(apply nx;with_reducible constructor)|apply jq (by decide)|((first|apply jz env|apply jk);intro Q hQ;simp only [vkt,seval,vN,YO,c0,ite_and];(repeat' first|with_reducible assumption|apply jw|intro hp);all_goals first|(apply hQ;clear hQ Q)|omega|assumption|rfl|(apply jx;kernel_rfl)|skip)
  (simp only [vrt,results55,vkt,seval,vN,YO];refine Fin.val rfl ?_;(try simp only [AV.le,AV.leL]))
  all_goals simp
def c48:List AV->Prop × AV
 |[.agg [.sl cs,.sl rs,.sl ss,.sl es],.v (.int .i64 d),.v (.int .i64 a),.v (.int .i64 b),.v (.int .i64 n)]=>(isL cs rs ss es/\Fit (zR cs rs ss es),Vw (zR cs rs ss es) d a b n)
 |_=>(False,.junk)
def VB (l:Led) (d a b n:Int):(Vw l d a b n).plain/\(Vw l d a b n).flat:=by
 unfold Vw;split <;> simp [AV.plain,AV.plainL,AV.flat,AV.flatL,aI,aSh]
def d48 {A:Frm->Prop}:qf A prog 55 (zq true c48):=qD fun vs hv h=>by
 clear hv;unfold c48 at h ⊢
 split at h
 ·refine ⟨(VB _ _ _ _ _).1,fun _=>(VB _ _ _ _ _).2, ?_⟩
  rw [<- jA h.1];exact Qjl _ _ _ _ _ h.2
 ·exact h.elim
def QV (a:Int) (ps:List Int) (s:Int) (i:Int):Int:=(a * ps.getD i.toNat 0).tmod s
def Qs (a:Int) (ps:List Int) (s:Int) (x y:Int):Int:=QV a ps s y - QV a ps s x
structure DvOk (a:Int) (ps:List Int) (s:Int):Prop where
 a:0<=a/\a<=999
 p:∀ p ∈ ps,0<=p/\p<=9
 s:0 < s/\s<=1000
def dvH (a:Int) (ps:List Int) (s:Int):List (Nat × AObj):=[(0,.cells [aI a]),(1,.cells [.sl (ps.map qj)]),(2,.cells [aI s])]
def Qay {a:Int} {ps:List Int} {s:Int} (h:DvOk a ps s) {i:Int} (hi:i.toNat < ps.length):0<=a * ps.getD i.toNat 0/\a * ps.getD i.toNat 0<=8991/\0<=QV a ps s i/\QV a ps s i < s:=by
 have hp:=h.p _ (jr (d:=0) hi);have ha:=h.a
 have hs:=h.s;have h0:0<=a * ps.getD i.toNat 0:=dq ha.1 hp.1
 have h1:a * ps.getD i.toNat 0<=999 * 9:=cH ha.2 hp.2 hp.1 (by decide)
 refine ⟨h0,by omega, ?_⟩
 unfold QV;rw [bR h0]
 exact ⟨bZ _ (by omega),ca _ hs.1⟩
def JU:=jw @ty3 (jw @jh (jw @ti3.eq_1 @jc.eq_1))
def QaE:=jw @aI.eq_1 (jw @aB.eq_1 (jw @qj.eq_1 (jw @Q5 (@dvH.eq_1))))
def Qlf (a:Int) (ps:List Int) (s:Int) (h:DvOk a ps s) (x y:Int) (hx:0<=x/\x.toNat < ps.length) (hy:0<=y/\y.toNat < ps.length):Fn noB prog 124 [aI x,aI y,.ptr 0 0,.ptr 1 0,.ptr 2 0] (qg (dvH a ps s)) (aI (Qs a ps s x y)) (qg (dvH a ps s)) 0:=by
 have env:=qx (A:=fun _=>True) kN
 refine Fn.of (A:=fun _=>True) (n0:=3) (D:=noD) (Fn0 func124 rfl (fun vs w=>by kernel_rfl) (by kernel_rfl)) (by simp) (by simp [AV.ids,aI]) ?_ (fun _ _ _ _=>trivial) zb ?_
 ·intro i o hi
  have h:=qN hi
  simp [dvH,aI] at h
  rcases h with ⟨rfl,rfl⟩|⟨rfl,rfl⟩|⟨rfl,rfl⟩ <;> simp [AObj.ids,AV.ids,AV.idsL]
 obtain ⟨b1,b2,b3,b4⟩:=Qay h hx.2;obtain ⟨c1,c2,c3,c4⟩:=Qay h hy.2
 have hs:=h.s;have w1:IntKind.wrap .i64 (a * ps.getD x.toNat 0)=a * ps.getD x.toNat 0:=wrap64 (by omega) (by omega)
 have w2:IntKind.wrap .i64 (a * ps.getD y.toNat 0)=a * ps.getD y.toNat 0:=wrap64 (by omega) (by omega)
 have w3:(a * ps.getD y.toNat 0).tmod s=QV a ps s y:=rfl;have w4:(a * ps.getD x.toNat 0).tmod s=QV a ps s x:=rfl
 have w5:IntKind.wrap .i64 (QV a ps s y - QV a ps s x)=Qs a ps s x y:=wrap64 (by omega) (by omega)
 have s0:¬ s=0:=by omega
 repeat' first|(apply nx;with_reducible constructor)|apply jq (by decide)|((first|apply jz env|apply jk);intro Q hQ;simp only [vkt,seval,JU,QaE,w1,w2,w3,w4,w5,s0,ite_and];(repeat' first|with_reducible assumption|apply jw|intro hp);all_goals first|(apply hQ;clear hQ Q)|omega|assumption|rfl|(apply jx;kernel_rfl)|skip)
 (simp only [vrt,results124,vkt,seval,QaE];refine Fin.ok some [] ?_ ?_ ?_ ?_ ?_ rfl;all_goals (try simp only [vle,vkt,seval]))
 all_goals simp
def p81 (S:St):List AV->Option Pk
 |[.v (.int .i64 x),.v (.int .i64 y),.ptr i 0,.ptr j 0,.ptr k 0]=>match S.h i,S.h j,S.h k with
  |some (.cells [.v (.int .i64 a)]),some (.cells [.sl ps]),some (.cells [.v (.int .i64 s)])=>some { pre:=ps=(ps.map qL).map qj/\DvOk a (ps.map qL) s/\(0<=x/\x.toNat < ps.length)/\(0<=y/\y.toNat < ps.length),hs:=[i,j,k],ar:=[.v (.int .i64 x),.v (.int .i64 y),.ptr 0 0,.ptr 1 0,.ptr 2 0],L0:=[.cells [.v (.int .i64 a)],.cells [.sl ps],.cells [.v (.int .i64 s)]],v:=aI (Qs a (ps.map qL) s x y),L1:=[some (.cells [.v (.int .i64 a)]),some (.cells [.sl ps]),some (.cells [.v (.int .i64 s)])] }
  |_,_,_=>none
 |_=>none
def e81 {A:Frm->Prop}:qf A prog 124 (fnE p81):=jb fun S bs q h hp=>by
 unfold p81 at h;split at h
 ·split at h
  ·rename_i x y i j k _ _ _ a ps s _ _ _
   cases h;have:=Qlf a (ps.map qL) s hp.2.1 x y (by simpa using hp.2.2.1) (by simpa using hp.2.2.2)
   simp only [dvH,aI,<- hp.1] at this;exact this
  ·cases h
 ·cases h
def Y9 (l:List Int) (j:Nat):List Int:=(l.set (j+1) (l.getD j 0)).set j (l.getD (j+1) 0)
def bub (c:Int->Int->Int):List Int->Nat->List Int
 |l,0=>l
 |l,j+1=>if c (l.getD (j+1) 0) (l.getD j 0) < 0 then bub c (Y9 l j) j else l
def Qu (c:Int->Int->Int) (l:List Int):Nat->List Int
 |0=>l
 |k+1=>bub c (Qu c l k) (k+1)
def W9 (c:Int->Int->Int) (l:List Int):List Int:=Qu c l (l.length - 1)
def Vi (l:List Int) (j:Nat):(Y9 l j).length=l.length:=by simp [Y9]
def KR {l:List Int} {j:Nat} (h:j+1 < l.length) {P:Int->Prop} (hp:∀ x ∈ l,P x):∀ x ∈ Y9 l j,P x:=fun x hx=>by
 unfold Y9 at hx
 rcases bP hx with hx|rfl
 ·rcases bP hx with hx|rfl
  ·exact hp x hx
  ·exact hp _ (jr (by omega))
 ·exact hp _ (jr h)
def Qdd {c:Int->Int->Int} {P:Int->Prop}:∀ (j:Nat) (l:List Int),j < l.length->(∀ x ∈ l,P x)->(bub c l j).length=l.length/\∀ x ∈ bub c l j,P x
 |0,l,_,h=>⟨rfl,h⟩
 |j+1,l,hj,h=>by
  rw [bub];split
  ·obtain ⟨h1,h2⟩:=Qdd (c:=c) j (Y9 l j) (by rw [Vi];omega) (KR hj h)
   exact ⟨by rw [h1,Vi],h2⟩
  ·exact ⟨rfl,h⟩
def Yl {c:Int->Int->Int} {P:Int->Prop} {l:List Int} (h:∀ x ∈ l,P x):∀ (k:Nat),k < l.length->(Qu c l k).length=l.length/\∀ x ∈ Qu c l k,P x
 |0,_=>⟨rfl,h⟩
 |k+1,hk=>by
  obtain ⟨h1,h2⟩:=Yl h k (by omega)
  obtain ⟨h3,h4⟩:=Qdd (c:=c) (k+1) _ (by rw [h1];omega) h2
  exact ⟨by rw [Qu,h3,h1],h4⟩
def soH (a:Int) (ps:List Int) (s:Int) (l:List Int):List (Nat × AObj):=dvH a ps s++[(3,.row 3 1 (l.map qj))]
def soS1 (a:Int) (ps:List Int) (s:Int) (n i:Nat) (l:List Int):St:={ t:=asg [(0,.row 3),(1,aI 0),(2,aI n),(3,.clo 124 [.ptr 0 0,.ptr 1 0,.ptr 2 0]),(8,aI i)],h:=qg (soH a ps s l),n:=4,m:=4 }
def soS2 (a:Int) (ps:List Int) (s:Int) (n i j:Nat) (l:List Int):St:={ t:=asg [(0,.row 3),(1,aI 0),(2,aI n),(3,.clo 124 [.ptr 0 0,.ptr 1 0,.ptr 2 0]),(8,aI i),(9,aI j)],h:=qg (soH a ps s l),n:=4,m:=4 }
def InI (n:Nat) (x:Int):Prop:=0<=x/\x.toNat < n
def qJ:=jw @ty3 (jw @jh (jw @ti3.eq_1 @jc.eq_1))
def yQ:=jw @aI.eq_1 (jw @aB.eq_1 (jw @qj.eq_1 (jw @Q5 (jw @Qo (jw @dvH.eq_1 (jw @soH.eq_1 (jw @soS1.eq_1 (jw @soS2.eq_1 (jw @p81.eq_1 (jw @p81.eq_2 (@KP)))))))))))
def Qhp (a:Int) (ps:List Int) (s:Int) (h:DvOk a ps s) (l:List Int) (hn:1<=l.length/\l.length<=20) (hl:∀ x ∈ l,InI ps.length x):Fn noB prog 203 [.row 3,aI 0,aI l.length,.clo 124 [.ptr 0 0,.ptr 1 0,.ptr 2 0]] (qg (soH a ps s l)) (.tup []) (qg (soH a ps s (W9 (Qs a ps s) l))) 0:=by
 have env:=qx (A:=fun _=>True) (kC e81 kN)
 refine Fn.of (A:=fun _=>True) (n0:=4) (D:=noD) (Fn0 func203 rfl (fun vs w=>by kernel_rfl) (by kernel_rfl)) (by simp) (by simp [AV.ids,AV.idsL,aI]) ?_ (fun _ _ _ _=>trivial) zb ?_
 ·intro i o hi
  have h:=qN hi
  simp [soH,dvH,aI] at h
  rcases h with ⟨rfl,rfl⟩|⟨rfl,rfl⟩|⟨rfl,rfl⟩|⟨rfl,rfl⟩ <;> simp [AObj.ids,AV.ids,AV.idsL]
 generalize hN:l.length=n at *
 repeat' first|(apply nx;with_reducible constructor)|apply jq (by decide)|((first|apply jz env|apply jk);intro Q hQ;simp only [vkt,seval,qJ,yQ,ite_and];(repeat' first|with_reducible assumption|apply jw|intro hp);all_goals first|(apply hQ;clear hQ Q)|omega|assumption|rfl|(apply jx;kernel_rfl)|skip)
 refine qh (fun i:{ i:Nat // 1<=i/\i<=n }=>soS1 a ps s n i.1 (Qu (Qs a ps s) l (i.1 - 1))) (fun i=>n - i.1) ⟨1,ag _,hn.1⟩ ?_ fun ⟨i,hi1,hi2⟩=>?_
 ·(refine Le.ok some [] ?_;constructor;all_goals (try simp only [vle,vkt,seval,yQ]))
  all_goals first|rfl|(simp [Qu];done)
 ·obtain ⟨g1,g2⟩:=Yl (c:=Qs a ps s) hl (i - 1) (by omega)
  rw [hN] at g1;generalize hQ0:Qu (Qs a ps s) l (i - 1)=q at *
  repeat' first|(apply nx;with_reducible constructor)|apply jq (by decide)
  (apply jz env;intro Q hQ;simp only [vkt,seval,qJ,yQ,ite_and];(repeat' first|with_reducible assumption|apply jw|intro hp);all_goals first|(apply hQ;clear hQ Q)|omega|assumption|rfl|(apply jx;kernel_rfl)|skip)
  repeat' first|(apply nx;with_reducible constructor)|apply jq (by decide)
  (refine zk (by simp only [vkt,seval];rfl) (fun h=>?_) (fun h=>?_) <;> (try simp only [vki] at h))
  ·have hlt:i < n:=by omega
   have hnext:bub (Qs a ps s) q i=Qu (Qs a ps s) l (i+1 - 1):=by
    rw [<- hQ0,show i+1 - 1=(i - 1)+1 by omega,Qu,show i - 1+1=i by omega]
   have e9:=k9 i (by omega)
   repeat' first|(apply nx;with_reducible constructor)|apply jq (by decide)|((first|apply jz env|apply jk);intro Q hQ;simp only [vkt,seval,ite_and];(repeat' first|with_reducible assumption|apply jw|intro hp);all_goals first|(apply hQ;clear hQ Q)|omega|assumption|rfl|(apply jx;kernel_rfl)|skip)
   refine qh (fun p:{ p:Nat × List Int // p.1<=i/\p.2.length=n/\(∀ x ∈ p.2,InI ps.length x)/\bub (Qs a ps s) p.2 p.1=bub (Qs a ps s) q i }=>soS2 a ps s n i p.1.1 p.1.2) (fun p=>p.1.1) ⟨(i,q),ag _,g1,g2,rfl⟩ ?_ fun ⟨⟨j,m⟩,hj,hm,hr,hb⟩=>?_
   ·(refine Le.ok some [] ?_;constructor;all_goals (try simp only [vle,vkt,seval,yQ]))
    all_goals first|rfl|simp
   ·simp only at hj hm hr hb
    cases j with
    |zero =>
     have c0:¬ ((0:Nat):Int) > 0:=by omega
     have hm':Qu (Qs a ps s) l (i+1 - 1)=m:=by rw [<- hnext,<- hb];rfl
     repeat' first|(apply nx;with_reducible constructor)|apply jq (by decide)|((first|apply jz env|apply jk);intro Q hQ;simp only [vkt,seval,qJ,yQ,e9,ite_and];(repeat' first|with_reducible assumption|apply jw|intro hp);all_goals first|(apply hQ;clear hQ Q)|omega|assumption|rfl|(apply jx;kernel_rfl)|skip)
     refine ⟨⟨i+1,by omega,hlt⟩,by show n - (i+1) < n - i;omega, ?_⟩
     (refine Le.ok some [] ?_;constructor;all_goals (try simp only [vle,vkt,seval,yQ]))
     all_goals first|rfl|(rw [hm'];done)|exact congrArg (List.map qj) hm'.symm|(simp [hm',e9];done)
    |succ j =>
     have c0:(0:Int) < ((j+1:Nat):Int):=by omega
     have e8:IntKind.wrap .i64 (((j+1:Nat):Int) - 1)=(j:Int):=by rw [wrap64 (by omega) (by omega)];omega
     have r1:=hr _ (jr (d:=0) (show j+1 < m.length by omega))
     have r2:=hr _ (jr (d:=0) (show j < m.length by omega))
     have r3:=r1.1;have r4:=r1.2
     have r5:=r2.1;have r6:=r2.2
     have k1:=gI0 (show j+1 < m.length by omega)
     have k2:=gI0 (show j < m.length by omega)
     have k4:=gI0 (l:=m.set (j+1) (m.getD j 0)) (n:=j) (by rw [dp];omega)
     by_cases c1:Qs a ps s (m.getD (j+1) 0) (m.getD j 0) < 0
     ·have hb2:bub (Qs a ps s) m (j+1)=bub (Qs a ps s) (Y9 m j) j:=by rw [bub,if_pos c1]
      repeat' first|(apply nx;with_reducible constructor)|apply jq (by decide)|((first|apply jz env|apply jk);intro Q hQ;simp only [vkt,seval,qJ,yQ,c0,e8,c1,k1,k2,k4,dp,ite_and];(repeat' first|with_reducible assumption|apply jw|intro hp);all_goals first|(apply hQ;clear hQ Q)|omega|assumption|rfl|(apply jx;kernel_rfl)|skip)
      refine ⟨⟨(j,Y9 m j),by show j<=i;omega,by rw [Vi];exact hm,KR (by omega) hr,by rw [<- hb2];exact hb⟩,by show j < j+1;omega, ?_⟩
      (refine Le.ok some [] ?_;constructor;all_goals (try simp only [vle,vkt,seval,yQ]))
      all_goals first|rfl|(simp [Y9,e8,qj];done)
     ·have hm':Qu (Qs a ps s) l (i+1 - 1)=m:=by rw [<- hnext,<- hb,bub,if_neg c1]
      repeat' first|(apply nx;with_reducible constructor)|apply jq (by decide)|((first|apply jz env|apply jk);intro Q hQ;simp only [vkt,seval,qJ,yQ,c0,e8,c1,e9,k1,k2,ite_and];(repeat' first|with_reducible assumption|apply jw|intro hp);all_goals first|(apply hQ;clear hQ Q)|omega|assumption|rfl|(apply jx;kernel_rfl)|skip)
      refine ⟨⟨i+1,by omega,hlt⟩,by show n - (i+1) < n - i;omega, ?_⟩
      (refine Le.ok some [] ?_;constructor;all_goals (try simp only [vle,vkt,seval,yQ]))
      all_goals first|rfl|(rw [hm'];done)|exact congrArg (List.map qj) hm'.symm|(simp [hm',e9];done)
  ·have hin:i=n:=by omega
   subst hin
   repeat' first|(apply nx;with_reducible constructor)|apply jq (by decide)|((first|apply jz env|apply jk);intro Q hQ;simp only [vkt,seval,qJ,yQ,ite_and];(repeat' first|with_reducible assumption|apply jw|intro hp);all_goals first|(apply hQ;clear hQ Q)|omega|assumption|rfl|(apply jx;kernel_rfl)|skip)
   (simp only [vrt,results203,vkt,seval,yQ];refine Fin.ok some [] ?_ ?_ ?_ ?_ ?_ rfl;all_goals (try simp only [vle,vkt,seval]))
   all_goals simp [W9,hN,hQ0]
def p147 (S:St):List AV->Option Pk
 |[.row r,.v (.int .i64 z),.v (.int .i64 n),.clo 124 [.ptr i 0,.ptr j 0,.ptr k 0]]=>match S.h i,S.h j,S.h k,S.h r with
  |some (.cells [.v (.int .i64 a)]),some (.cells [.sl ps]),some (.cells [.v (.int .i64 s)]),some (.row 3 1 l)=>some { pre:=ps=(ps.map qL).map qj/\DvOk a (ps.map qL) s/\l=(l.map qL).map qj/\(1<=l.length/\l.length<=20)/\(∀ x ∈ l.map qL,InI ps.length x)/\z=0/\n=l.length,hs:=[i,j,k,r],ar:=[.row 3,.v (.int .i64 z),.v (.int .i64 n),.clo 124 [.ptr 0 0,.ptr 1 0,.ptr 2 0]],L0:=[.cells [.v (.int .i64 a)],.cells [.sl ps],.cells [.v (.int .i64 s)],.row 3 1 l],v:=.tup [],L1:=[some (.cells [.v (.int .i64 a)]),some (.cells [.sl ps]),some (.cells [.v (.int .i64 s)]),some (.row 3 1 ((W9 (Qs a (ps.map qL) s) (l.map qL)).map qj))] }
  |_,_,_,_=>none
 |_=>none
def e147 {A:Frm->Prop}:qf A prog 203 (fnE p147):=jb fun S bs q h hp=>by
 unfold p147 at h;split at h
 ·split at h
  ·rename_i r z n i j k _ _ _ _ a ps s l _ _ _ _
   cases h;obtain ⟨h1,h2,h3,h4,h5,h6,h7⟩:=hp
   subst h6 h7;have:=Qhp a (ps.map qL) s h2 (l.map qL) (by simpa using h4) (by simpa using h5)
   simp only [soH,dvH,aI,<- h1,<- h3,ab] at this;exact this
  ·cases h
 ·cases h
def yc:=jw @ty3 @ti3.eq_1
def Zw:=jw @aI.eq_1 (jw @aB.eq_1 (jw @dvH.eq_1 (jw @soH.eq_1 (jw @p147.eq_1 (jw @p147.eq_2 (jw @Qo (@InI.eq_1)))))))
def QeU (a:Int) (ps:List Int) (s:Int) (h:DvOk a ps s) (l:List Int) (hn:1<=l.length/\l.length<=19) (hl:∀ x ∈ l,InI ps.length x):Fn noB prog 163 [.row 3,aI l.length,.clo 124 [.ptr 0 0,.ptr 1 0,.ptr 2 0]] (qg (soH a ps s l)) (.tup []) (qg (soH a ps s (W9 (Qs a ps s) l))) 0:=by
 have env:=qx (A:=fun _=>True) (kC e147 kN)
 refine Fn.of (A:=fun _=>True) (n0:=4) (D:=noD) (Fn0 func163 rfl (fun vs w=>by kernel_rfl) (by kernel_rfl)) (by simp) (by simp [AV.ids,AV.idsL,aI]) ?_ (fun _ _ _ _=>trivial) zb ?_
 ·intro i o hi
  have h:=qN hi
  simp [soH,dvH,aI] at h
  rcases h with ⟨rfl,rfl⟩|⟨rfl,rfl⟩|⟨rfl,rfl⟩|⟨rfl,rfl⟩ <;> simp [AObj.ids,AV.ids,AV.idsL]
 have hl':∀ x ∈ l,0<=x/\x.toNat < ps.length:=hl;have c1:¬ (20:Int)<=(l.length:Int):=by omega
 have c2:¬ (20:Int) < (l.length:Int):=by omega
 have hn1:=hn.1;have hn2:l.length<=20:=by omega
 repeat' first|(apply nx;with_reducible constructor)|apply jq (by decide)|((first|apply jz env|apply jk);intro Q hQ;simp only [vkt,seval,Zw,ite_and];(repeat' first|with_reducible assumption|apply jw|intro hp);all_goals first|(apply hQ;clear hQ Q)|omega|assumption|rfl|(apply jx;kernel_rfl)|skip)
 refine qh (fun _:Unit=>{ t:=asg [(0,.row 3),(1,aI l.length),(2,.clo 124 [.ptr 0 0,.ptr 1 0,.ptr 2 0]),(6,aI 20),(7,aI 0),(8,aI 20)],h:=qg (soH a ps s l),n:=4,m:=4 }) (fun _=>0) () ?_ fun _=>?_
 ·(refine Le.ok some [] ?_;constructor;all_goals (try simp only [vle,vkt,seval,Zw]))
  all_goals first|rfl|simp
 ·repeat' first|(apply nx;with_reducible constructor)|apply jq (by decide)|((first|apply jz env|apply jk);intro Q hQ;simp only [vkt,seval,yc,Zw,c1,ite_and];(repeat' first|with_reducible assumption|apply jw|intro hp);all_goals first|(apply hQ;clear hQ Q)|omega|assumption|rfl|(apply jx;kernel_rfl)|skip)
  refine qh (fun _:Unit=>{ t:=asg [(0,.row 3),(1,aI l.length),(2,.clo 124 [.ptr 0 0,.ptr 1 0,.ptr 2 0]),(6,aI 20)],h:=qg (soH a ps s (W9 (Qs a ps s) l)),n:=4,m:=4 }) (fun _=>0) () ?_ fun _=>?_
  ·(refine Le.ok some [] ?_;constructor;all_goals (try simp only [vle,vkt,seval,Zw]))
   all_goals first|rfl|simp
  ·repeat' first|(apply nx;with_reducible constructor)|apply jq (by decide)|((first|apply jz env|apply jk);intro Q hQ;simp only [vkt,seval,yc,Zw,c2,ite_and];(repeat' first|with_reducible assumption|apply jw|intro hp);all_goals first|(apply hQ;clear hQ Q)|omega|assumption|rfl|(apply jx;kernel_rfl)|skip)
   (simp only [vrt,results163,vkt,seval,Zw];refine Fin.ok some [] ?_ ?_ ?_ ?_ ?_ rfl;all_goals (try simp only [vle,vkt,seval]))
   all_goals simp
def p133 (S:St):List AV->Option Pk
 |[.row r,.v (.int .i64 n),.clo 124 [.ptr i 0,.ptr j 0,.ptr k 0]]=>match S.h i,S.h j,S.h k,S.h r with
  |some (.cells [.v (.int .i64 a)]),some (.cells [.sl ps]),some (.cells [.v (.int .i64 s)]),some (.row 3 1 l)=>some { pre:=ps=(ps.map qL).map qj/\DvOk a (ps.map qL) s/\l=(l.map qL).map qj/\(1<=l.length/\l.length<=19)/\(∀ x ∈ l.map qL,InI ps.length x)/\n=l.length,hs:=[i,j,k,r],ar:=[.row 3,.v (.int .i64 n),.clo 124 [.ptr 0 0,.ptr 1 0,.ptr 2 0]],L0:=[.cells [.v (.int .i64 a)],.cells [.sl ps],.cells [.v (.int .i64 s)],.row 3 1 l],v:=.tup [],L1:=[some (.cells [.v (.int .i64 a)]),some (.cells [.sl ps]),some (.cells [.v (.int .i64 s)]),some (.row 3 1 ((W9 (Qs a (ps.map qL) s) (l.map qL)).map qj))] }
  |_,_,_,_=>none
 |_=>none
def e133 {A:Frm->Prop}:qf A prog 163 (fnE p133):=jb fun S bs q h hp=>by
 unfold p133 at h;split at h
 ·split at h
  ·rename_i r n i j k _ _ _ _ a ps s l _ _ _ _
   cases h;obtain ⟨h1,h2,h3,h4,h5,h7⟩:=hp
   subst h7;have:=QeU a (ps.map qL) s h2 (l.map qL) (by simpa using h4) (by simpa using h5)
   simp only [soH,dvH,aI,<- h1,<- h3,ab] at this;exact this
  ·cases h
 ·cases h
def vK (f:Nat->Int):Nat->Int
 |0=>0
 |k+1=>vK f k+f k
def VS {f:Nat->Int} {c:Int}:∀ {k:Nat},(∀ i,i < k->0<=f i/\f i<=c)->0<=vK f k/\vK f k<=k * c
 |0,_=>by simp [vK]
 |k+1,h=>by
  obtain ⟨h1,h2⟩:=VS (f:=f) (k:=k) fun i hi=>h i (by omega)
  have h3:=h k (by omega)
  rw [vK,Int.natCast_succ,Int.add_mul];omega
def Xu (f:Nat->Int) (c:Int):∀ k,vK (fun i=>c * f i) k=c * vK f k
 |0=>by simp [vK]
 |k+1=>by rw [vK,vK,Xu f c k,Int.mul_add]
def Qas (f g:Nat->Int):∀ k,vK (fun i=>f i+g i) k=vK f k+vK g k
 |0=>by simp [vK]
 |k+1=>by rw [vK,vK,vK,Qas f g k];omega
def XC {f g:Nat->Int}:∀ {k:Nat},(∀ i,i < k->f i=g i)->vK f k=vK g k
 |0,_=>rfl
 |k+1,h=>by rw [vK,vK,XC fun i hi=>h i (by omega),h k (by omega)]
def xZ (ps:List Int):Int:=vK (fun i=>ps.getD i 0) ps.length
def ZL (ps:List Int) (k:Nat):Int:=if !inB (ps.getD k 0) 0 9 then 1 else 0
def Qr (a:Int) (ps:List Int):Int:=if qy ps.length 1 6 ≠ 0 then qy ps.length 1 6 else if zQ (errs ps.length (ZL ps)) ≠ 0 then zQ (errs ps.length (ZL ps)) else if !inB a 0 999 then 1 else if xZ ps=0 then 11 else 0
def Qh (a:Int) (ps:List Int) (i:Nat):Int:=(a * ps.getD i 0).tdiv (xZ ps)
def ku (a:Int) (ps:List Int) (k:Nat):List Int:=(List.range k).map (Qh a ps)
def Y6 (k:Nat):List Int:=(List.range k).map fun i:Nat=>(i:Int)
def XL (a:Int) (ps:List Int) (k:Nat):ku a ps (k+1)=ku a ps k++[Qh a ps k]:=by unfold ku;rw [bM,ae];rfl
def Qd8 (k:Nat):Y6 (k+1)=Y6 k++[(k:Int)]:=by unfold Y6;rw [bM,ae];rfl
def QG (a:Int) (ps:List Int) (k:Nat):(ku a ps k).length=k:=by simp [ku]
def YI (k:Nat):(Y6 k).length=k:=by simp [Y6]
def yo (a:Int) (ps:List Int) (k:Nat):Int:=a - vK (Qh a ps) k
def Yv (out ord:List Int):Nat->List Int
 |0=>out
 |k+1=>(Yv out ord k).set (ord.getD k 0).toNat ((Yv out ord k).getD (ord.getD k 0).toNat 0+1)
def XT (out ord:List Int):∀ k,(Yv out ord k).length=out.length
 |0=>rfl
 |k+1=>by rw [Yv,dp,XT out ord k]
def jR (a:Int) (ps:List Int):List Int:=W9 (Qs a ps (xZ ps)) (Y6 ps.length)
def QbP (a:Int) (ps:List Int):List Int:=Yv (ku a ps ps.length) (jR a ps) (yo a ps ps.length).toNat
def xY (a:Int) (ps:List Int):AV:=if Qr a ps ≠ 0 then .tup [.sl [],aI (Qr a ps)] else .tup [qi (QbP a ps),aI 0]
structure SpOk (a:Int) (ps:List Int):Prop where
 l:1<=ps.length/\ps.length<=6
 d:DvOk a ps (xZ ps)
def YS {a:Int} {ps:List Int} (h:SpOk a ps) {i:Nat} (hi:i < ps.length):a * ps.getD i 0=xZ ps * Qh a ps i+QV a ps (xZ ps) i/\0<=Qh a ps i/\Qh a ps i<=8991:=by
 obtain ⟨h1,h2,h3,h4⟩:=Qay h.d (i:=(i:Int)) (by rw [aW];exact hi)
 rw [aW] at h1 h2;have hs:=h.d.s
 unfold Qh QV;rw [aW,dC h1,bR h1]
 refine ⟨(d7 _ _).symm,Int.ediv_nonneg h1 (by omega), ?_⟩
 exact dt (dF _ h1) h2
def QjY {a:Int} {ps:List Int} (h:SpOk a ps):0<=yo a ps ps.length/\yo a ps ps.length < ps.length:=by
 have h1:a * xZ ps=xZ ps * vK (Qh a ps) ps.length+vK (fun i=>QV a ps (xZ ps) i) ps.length:=by
  rw [<- Xu (Qh a ps),<- Qas,show a * xZ ps=vK (fun i=>a * ps.getD i 0) ps.length from (Xu _ _ _).symm]
  exact XC fun i hi=>(YS h hi).1
 have hr:∀ i,i < ps.length->0<=QV a ps (xZ ps) i/\QV a ps (xZ ps) i<=xZ ps - 1:=fun i hi=>by
  obtain ⟨_,_,h3,h4⟩:=Qay h.d (i:=(i:Int)) (by rw [aW];exact hi)
  exact ⟨h3,by omega⟩
 obtain ⟨h2,h3⟩:=VS hr;have hs:=h.d.s.1
 have hl:=h.l.1;have e1:xZ ps * yo a ps ps.length=vK (fun i=>QV a ps (xZ ps) i) ps.length:=by
  unfold yo;rw [cV,Int.mul_comm (xZ ps) a];omega
 refine ⟨?_, ?_⟩
 ·rcases Int.lt_or_le (yo a ps ps.length) 0 with hc|hc
  ·have:=Int.mul_neg_of_pos_of_neg hs hc;omega
  ·exact hc
 ·rcases Int.lt_or_le (yo a ps ps.length) ps.length with hc|hc
  ·exact hc
  ·have h4:xZ ps * (ps.length:Int)<=xZ ps * yo a ps ps.length:=Int.mul_le_mul_of_nonneg_left hc (by omega)
   rw [cV,Int.mul_comm (ps.length:Int) (xZ ps)] at h3;omega
def QbW (n:Nat):∀ x ∈ Y6 n,InI n x:=fun x hx=>by
 obtain ⟨j,hj,rfl⟩:=aj.1 hx;have:=aE.1 hj
 exact ⟨by omega,by rw [aW];exact this⟩
def sorted_in {a:Int} {ps:List Int} (h:SpOk a ps):(jR a ps).length=ps.length/\∀ x ∈ jR a ps,InI ps.length x:=by
 have h1:=h.l.1;obtain ⟨h2,h3⟩:=Yl (c:=Qs a ps (xZ ps)) (QbW ps.length) ((Y6 ps.length).length - 1) (by rw [YI];omega)
 exact ⟨by rw [jR,W9,h2,YI],h3⟩
def Qa2 {a:Int} {ps:List Int} (h:SpOk a ps) {k:Nat} (hk:k<=ps.length):-100000<=yo a ps k/\yo a ps k<=999:=by
 obtain ⟨h1,h2⟩:=VS (f:=Qh a ps) (k:=k) fun i hi=>⟨(YS h (by omega)).2.1,(YS h (by omega)).2.2⟩
 have:=h.d.a;have:=h.l.2
 unfold yo;omega
def xJ:=jw @ty3 (jw @jh (jw @ti3.eq_1 @jc.eq_1))
def QaS:=jw @aI.eq_1 (jw @aB.eq_1 (jw @dvH.eq_1 (jw @soH.eq_1 (jw @p133.eq_1 (jw @p133.eq_2 (jw @Qo (@InI.eq_1)))))))
def Qjg (a:Int) (ps:List Int) (s:Int) (h:DvOk a ps s) (l:List Int) (hn:1<=l.length/\l.length<=19) (hl:∀ x ∈ l,InI ps.length x):Fn noB prog 123 [.row 3,.clo 124 [.ptr 0 0,.ptr 1 0,.ptr 2 0]] (qg (soH a ps s l)) (.tup []) (qg (soH a ps s (W9 (Qs a ps s) l))) 0:=by
 have env:=qx (A:=fun _=>True) (kC e133 kN)
 refine Fn.of (A:=fun _=>True) (n0:=4) (D:=noD) (Fn0 func123 rfl (fun vs w=>by kernel_rfl) (by kernel_rfl)) (by simp) (by simp [AV.ids,AV.idsL]) ?_ (fun _ _ _ _=>trivial) zb ?_
 ·intro i o hi
  have h:=qN hi
  simp [soH,dvH,aI] at h
  rcases h with ⟨rfl,rfl⟩|⟨rfl,rfl⟩|⟨rfl,rfl⟩|⟨rfl,rfl⟩ <;> simp [AObj.ids,AV.ids,AV.idsL]
 have hl':∀ x ∈ l,0<=x/\x.toNat < ps.length:=hl;have hn1:=hn.1
 have hn2:=hn.2
 repeat' first|(apply nx;with_reducible constructor)|apply jq (by decide)|((first|apply jz env|apply jk);intro Q hQ;simp only [vkt,seval,xJ,QaS,ite_and];(repeat' first|with_reducible assumption|apply jw|intro hp);all_goals first|(apply hQ;clear hQ Q)|omega|assumption|rfl|(apply jx;kernel_rfl)|skip)
 (simp only [vrt,results123,vkt,seval,QaS];refine Fin.ok some [] ?_ ?_ ?_ ?_ ?_ rfl;all_goals (try simp only [vle,vkt,seval]))
 all_goals simp
def p80 (S:St):List AV->Option Pk
 |[.row r,.clo 124 [.ptr i 0,.ptr j 0,.ptr k 0]]=>match S.h i,S.h j,S.h k,S.h r with
  |some (.cells [.v (.int .i64 a)]),some (.cells [.sl ps]),some (.cells [.v (.int .i64 s)]),some (.row 3 1 l)=>some { pre:=ps=(ps.map qL).map qj/\DvOk a (ps.map qL) s/\l=(l.map qL).map qj/\(1<=l.length/\l.length<=19)/\(∀ x ∈ l.map qL,InI ps.length x),hs:=[i,j,k,r],ar:=[.row 3,.clo 124 [.ptr 0 0,.ptr 1 0,.ptr 2 0]],L0:=[.cells [.v (.int .i64 a)],.cells [.sl ps],.cells [.v (.int .i64 s)],.row 3 1 l],v:=.tup [],L1:=[some (.cells [.v (.int .i64 a)]),some (.cells [.sl ps]),some (.cells [.v (.int .i64 s)]),some (.row 3 1 ((W9 (Qs a (ps.map qL) s) (l.map qL)).map qj))] }
  |_,_,_,_=>none
 |_=>none
def e80 {A:Frm->Prop}:qf A prog 123 (fnE p80):=jb fun S bs q h hp=>by
 unfold p80 at h;split at h
 ·split at h
  ·rename_i r i j k _ _ _ _ a ps s l _ _ _ _
   cases h;obtain ⟨h1,h2,h3,h4,h5⟩:=hp
   have:=Qjg a (ps.map qL) s h2 (l.map qL) (by simpa using h4) (by simpa using h5)
   simp only [soH,dvH,aI,<- h1,<- h3] at this;exact this
  ·cases h
 ·cases h
def V8 (l:Led) (i:Nat):Bool:=decide ((l.entries.getD i default).kind=3) && !decide ((VG l (l.entries.getD i default).day (l.entries.getD i default).coin (l.entries.getD i default).to (l.entries.getD i default).amount).floor=(l.entries.getD i default).got)
def QfY (l:Led) (i:Nat):V8 l i=(decide ((l.entries.getD i default).kind=3) && !decide ((VG l (l.entries.getD i default).day (l.entries.getD i default).coin (l.entries.getD i default).to (l.entries.getD i default).amount).floor=(l.entries.getD i default).got)):=rfl
def XF (l:Led) (k:Nat):List Int:=((List.range k).filter (V8 l)).map fun i:Nat=>(i:Int)
def UK (l:Led):List Int:=XF l l.entries.length
def QeT (l:Led) (k:Nat):XF l (k+1)=if V8 l k=true then XF l k++[(k:Int)] else XF l k:=by
 unfold XF;rw [bM,List.filter_append]
 split
 ·rename_i h;simp [h]
 ·rename_i h;simp [h]
def QaK (l:Led) (k:Nat):(XF l k).length<=k:=by
 unfold XF;rw [ab]
 exact bi (dY _ _) (by simp)
def Qcz {l:Led} (h:Val l) {k:Nat} (hk:k < l.entries.length):EntryOk l (l.entries.getD k default) (stK l k).1:=by
 have h0:=h.es k hk;rw [Qc8] at h0
 unfold eV at h0;split at h0
 ·exact absurd h0 ‹_›
 ·exact QH (Decidable.not_not.1 ‹_›)
def Qbu (l:Led):AV:=if zf l ≠ 0 then .tup [.sl [],aI (zf l)] else .tup [qi (UK l),aI 0]
def bdS (l:Led) (k:Nat):St:={ t:=asg [(1,.ptr 0 0),(2,.nil),(3,aI 0),(5,.row 1),(14,.sl (l.entries.map zC)),(15,aI l.entries.length),(16,aI k)],h:=qg [(0,.cells (qU l)),(1,.row 3 1 ((XF l k).map qj))],n:=2 }
def j6:=jw @ty3 (jw @jh (jw @WP (jw @Yt (jw @vU (jw @vR (jw @ti3.eq_1 (jw @jc.eq_1 (jw @Zn.eq_1 (jw @WO.eq_1 (jw @vD.eq_1 @yS.eq_1))))))))))
def yT:=jw @aI.eq_1 (jw @aB.eq_1 (jw @q9.eq_1 (jw @qU.eq_1 (jw @aSh.eq_1 (jw @shQ.eq_1 (jw @qi.eq_1 (jw @bdS.eq_1 (jw @c50.eq_1 (jw @c50.eq_2 (jw @c89.eq_1 (jw @c89.eq_2 (jw @s90.eq_1 (jw @s90.eq_2 (jw @xf (jw @jT (jw @YD (jw @KN (jw @zC.eq_1 (jw @R8 (jw @qj.eq_1 (@ZJ)))))))))))))))))))))
def QlE (l:Led) (hl:Fit l):FnV prog 115 [q9 l] (Qbu l):=by
 have env:=qx (A:=fun _=>True) (kC d50 (kC d89 (kC e90 kN)))
 refine kV (Fn0 func115 rfl (fun vs w=>by kernel_rfl) (by kernel_rfl)) (by simp) (by simp [AV.ids,AV.idsL,q9,qU]) ?_
 by_cases c0:zf l=0
 ·rw [show Qbu l=_ from if_neg (by rw [c0];simp)]
  have hV:=We c0;have q4:=hV.e
  have q5:=XO
  repeat' first|(apply nx;with_reducible constructor)|apply jq (by decide)|((first|apply jz env|apply jk);intro Q hQ;simp only [vkt,seval,j6,yT,c0,ite_and];(repeat' first|with_reducible assumption|apply jw|intro hp);all_goals first|(apply hQ;clear hQ Q)|omega|assumption|rfl|(apply jx;kernel_rfl)|skip)
  refine qh (fun k:{ k:Nat // k<=l.entries.length }=>bdS l k.1) (fun k=>l.entries.length - k.1) ⟨0,af _⟩ ?_ fun ⟨k,hk⟩=>?_
  ·(refine Le.ok (fun j=>if j=0 then some 0 else none) [] ?_;constructor;all_goals (try simp only [vle,vkt,seval,yT]))
   all_goals first|rfl|trivial|(simp [XF];done)
  ·repeat' first|(apply nx;with_reducible constructor)|apply jq (by decide)
   (apply jz env;intro Q hQ;simp only [vkt,seval,j6,yT,ite_and];(repeat' first|with_reducible assumption|apply jw|intro hp);all_goals first|(apply hQ;clear hQ Q)|omega|assumption|rfl|(apply jx;kernel_rfl)|skip)
   repeat' first|(apply nx;with_reducible constructor)|apply jq (by decide)
   (refine zk (by simp only [vkt,seval];rfl) (fun h=>?_) (fun h=>?_) <;> (try simp only [vki] at h))
   ·have hlt:k < l.entries.length:=by omega
    have hentry:=Qcz hV hlt;have hS:=QeT l k
    have hbl:=QaK l k;have hle:((XF l k).length+1) * 8<=140737488355328:=by omega
    have hlm:(XF l k).length+1<=maxLen:=by omega
    have hB:=QfY l k;generalize hx:l.entries.getD k default=x at *
    have e9:=qV hlt (show l.entries.length<=maxLen by omega)
    by_cases k3:x.kind=3
    ·have r1:=kR hV hentry.day.1 hentry.day.2 hentry.coin.1 hentry.coin.2
     have r2:=kR hV hentry.day.1 hentry.day.2 (hentry.to k3).1 (hentry.to k3).2;have am:=hentry.am
     have am1:0<=x.amount:=am.1;have am2:x.amount<=50000:=by omega
     have hb:=(QQ r1).muli (C:=50000) (n:=x.amount) (by omega) (by omega)
     have hq:=Qkr (QfA hb (by decide) (by have:=r2.n0;omega) r2.n1 r2.e1)
     by_cases k4:(rq l x.day x.coin * x.amount / rq l x.day x.to).floor=x.got
     ·have hB':V8 l k=false:=by rw [hB,k3];simp [VG,k4]
      repeat' first|(apply nx;with_reducible constructor)|apply jq (by decide)|((first|apply jz env|apply jk);intro Q hQ;simp only [vkt,seval,j6,yT,hx,k3,k4,ite_and];(repeat' first|with_reducible assumption|apply jw|intro hp);all_goals first|(apply hQ;clear hQ Q)|omega|assumption|rfl|(apply jx;kernel_rfl)|skip)
      refine ⟨⟨k+1,hlt⟩,by show l.entries.length - (k+1) < l.entries.length - k;omega, ?_⟩
      (refine Le.ok some [] ?_;constructor;all_goals (try simp only [vle,vkt,seval,yT]))
      all_goals first|rfl|trivial|(simp [hS,hB',e9];done)
     ·have hB':V8 l k=true:=by rw [hB,k3];simp [VG,k4]
      repeat' first|(apply nx;with_reducible constructor)|apply jq (by decide)|((first|apply jz env|apply jk);intro Q hQ;simp only [vkt,seval,j6,yT,hx,k3,k4,ite_and];(repeat' first|with_reducible assumption|apply jw|intro hp);all_goals first|(apply hQ;clear hQ Q)|omega|assumption|rfl|(apply jx;kernel_rfl)|skip)
      refine ⟨⟨k+1,hlt⟩,by show l.entries.length - (k+1) < l.entries.length - k;omega, ?_⟩
      (refine Le.ok (fun j=>if j=1 then some 4 else some j) [] ?_;constructor;all_goals (try simp only [vle,vkt,seval,yT]))
      all_goals first|rfl|trivial|(rw [hS,if_pos hB'];simp [qj];done)|(simp [e9];done)
    ·have hB':V8 l k=false:=by rw [hB];simp [k3]
     repeat' first|(apply nx;with_reducible constructor)|apply jq (by decide)|((first|apply jz env|apply jk);intro Q hQ;simp only [vkt,seval,j6,yT,hx,k3,ite_and];(repeat' first|with_reducible assumption|apply jw|intro hp);all_goals first|(apply hQ;clear hQ Q)|omega|assumption|rfl|(apply jx;kernel_rfl)|skip)
     refine ⟨⟨k+1,hlt⟩,by show l.entries.length - (k+1) < l.entries.length - k;omega, ?_⟩
     (refine Le.ok some [] ?_;constructor;all_goals (try simp only [vle,vkt,seval,yT]))
     all_goals first|rfl|trivial|(simp [hS,hB',e9];done)
   ·have hkn:k=l.entries.length:=by omega
    subst hkn
    repeat' first|(apply nx;with_reducible constructor)|apply jq (by decide)|((first|apply jz env|apply jk);intro Q hQ;simp only [vkt,seval,ite_and];(repeat' first|with_reducible assumption|apply jw|intro hp);all_goals first|(apply hQ;clear hQ Q)|omega|assumption|rfl|(apply jx;kernel_rfl)|skip)
    (simp only [vrt,results115,vkt,seval,yT];refine Fin.val rfl ?_;(try simp only [AV.le,AV.leL]))
    all_goals exact ⟨⟨_,_,rfl⟩,trivial,trivial⟩
 ·rw [show Qbu l=_ from if_pos c0]
  repeat' first|(apply nx;with_reducible constructor)|apply jq (by decide)|((first|apply jz env|apply jk);intro Q hQ;simp only [vkt,seval,j6,yT,c0,ite_and];(repeat' first|with_reducible assumption|apply jw|intro hp);all_goals first|(apply hQ;clear hQ Q)|omega|assumption|rfl|(apply jx;kernel_rfl)|skip)
  (simp only [vrt,results115,vkt,seval,yT];refine Fin.val rfl ?_;(try simp only [AV.le,AV.leL]))
  all_goals simp
def c31:List AV->Prop × AV
 |[.agg [.sl cs,.sl rs,.sl ss,.sl es]]=>(isL cs rs ss es/\Fit (zR cs rs ss es),Qbu (zR cs rs ss es))
 |_=>(False,.junk)
def d31 {A:Frm->Prop}:qf A prog 115 (zq false c31):=qD fun vs hv h=>by
 clear hv;unfold c31 at h ⊢
 split at h
 ·refine ⟨by unfold Qbu;split <;> simp [AV.plain,AV.plainL,aI,qi],fun h=>absurd h (by decide), ?_⟩
  rw [<- jA h.1];exact QlE _ h.2
 ·exact h.elim
def ZQ (x:Ent):List AV:=[.v (.int .i64 x.day),.v (.int .i64 x.kind),.v (.int .i64 x.coin),.v (.int .i64 x.to),.v (.int .i64 x.amount),.v (.int .i64 x.got)]
def WM (x:Ent) (p:List Int):Bool:=decide (p.getD 0 0=x.day) && (decide (p.getD 1 0=x.coin) || decide (p.getD 1 0=x.to))
def jO:=jw @ty3 (jw @jh (jw @vR (jw @ti3.eq_1 (jw @jc.eq_1 @yS.eq_1))))
def Qk:=jw @aI.eq_1 (jw @aB.eq_1 (jw @qi.eq_1 (jw @ZQ.eq_1 (jw @qj.eq_1 (@Q5)))))
def Qk6 (x:Ent) (p:List Int) (hp:2<=p.length):Fn noB prog 118 [qi p,.ptr 0 0] (qg [(0,.cells (ZQ x))]) (aB (WM x p)) (qg [(0,.cells (ZQ x))]) 0:=by
 have env:=qx (A:=fun _=>True) kN
 refine Fn.of (A:=fun _=>True) (n0:=1) (D:=noD) (Fn0 func118 rfl (fun vs w=>by kernel_rfl) (by kernel_rfl)) (by simp) (by simp [AV.ids,qi]) ?_ (fun _ _ _ _=>trivial) zb ?_
 ·intro i o hi
  have h:=qN hi
  simp at h;obtain ⟨rfl,rfl⟩:=h;simp [ZQ,AObj.ids,AV.ids,AV.idsL]
 by_cases c1:p.getD 0 0=x.day
 ·by_cases c2:p.getD 1 0=x.coin
  ·repeat' first|(apply nx;with_reducible constructor)|apply jq (by decide)|((first|apply jz env|apply jk);intro Q hQ;simp only [vkt,seval,jO,Qk,c1,c2,ite_and];(repeat' first|with_reducible assumption|apply jw|intro hp);all_goals first|(apply hQ;clear hQ Q)|omega|assumption|rfl|(apply jx;kernel_rfl)|skip)
   (simp only [vrt,results118,vkt,seval,Qk];refine Fin.ok some [] ?_ ?_ ?_ ?_ ?_ rfl;all_goals (try simp only [vle,vkt,seval]))
   all_goals simp [-List.getD_eq_getElem?_getD,WM,c1,c2]
  ·by_cases c3:p.getD 1 0=x.to
   ·have c4:¬ x.to=x.coin:=by rw [<- c3];exact c2
    repeat' first|(apply nx;with_reducible constructor)|apply jq (by decide)|((first|apply jz env|apply jk);intro Q hQ;simp only [vkt,seval,jO,Qk,c1,c3,c4,ite_and];(repeat' first|with_reducible assumption|apply jw|intro hp);all_goals first|(apply hQ;clear hQ Q)|omega|assumption|rfl|(apply jx;kernel_rfl)|skip)
    (simp only [vrt,results118,vkt,seval,Qk];refine Fin.ok some [] ?_ ?_ ?_ ?_ ?_ rfl;all_goals (try simp only [vle,vkt,seval]))
    all_goals simp [-List.getD_eq_getElem?_getD,WM,c1,c3,c4]
   ·repeat' first|(apply nx;with_reducible constructor)|apply jq (by decide)|((first|apply jz env|apply jk);intro Q hQ;simp only [vkt,seval,jO,Qk,c1,c2,c3,ite_and];(repeat' first|with_reducible assumption|apply jw|intro hp);all_goals first|(apply hQ;clear hQ Q)|omega|assumption|rfl|(apply jx;kernel_rfl)|skip)
    (simp only [vrt,results118,vkt,seval,Qk];refine Fin.ok some [] ?_ ?_ ?_ ?_ ?_ rfl;all_goals (try simp only [vle,vkt,seval]))
    all_goals simp [-List.getD_eq_getElem?_getD,WM,c1,c2,c3]
 ·repeat' first|(apply nx;with_reducible constructor)|apply jq (by decide)|((first|apply jz env|apply jk);intro Q hQ;simp only [vkt,seval,jO,Qk,c1,ite_and];(repeat' first|with_reducible assumption|apply jw|intro hp);all_goals first|(apply hQ;clear hQ Q)|omega|assumption|rfl|(apply jx;kernel_rfl)|skip)
  (simp only [vrt,results118,vkt,seval,Qk];refine Fin.ok some [] ?_ ?_ ?_ ?_ ?_ rfl;all_goals (try simp only [vle,vkt,seval]))
  all_goals simp [-List.getD_eq_getElem?_getD,WM,c1]
def p93 (S:St):List AV->Option Pk
 |[.sl ps,.ptr t 0]=>match S.h t with
  |some (.cells [.v (.int .i64 a),.v (.int .i64 b),.v (.int .i64 c),.v (.int .i64 d),.v (.int .i64 e),.v (.int .i64 f)])=>some { pre:=ps=(ps.map qL).map qj/\2<=ps.length,hs:=[t],ar:=[.sl ps,.ptr 0 0],L0:=[.cells (ZQ ⟨a,b,c,d,e,f⟩)],v:=aB (WM ⟨a,b,c,d,e,f⟩ (ps.map qL)),L1:=[some (.cells (ZQ ⟨a,b,c,d,e,f⟩))],fl:=true }
  |_=>none
 |_=>none
def e93 {A:Frm->Prop}:qf A prog 118 (fnE p93):=jb fun S bs q h hp=>by
 unfold p93 at h;split at h
 ·split at h
  ·rename_i ps t _ a b c d e f _
   cases h;have:=Qk6 ⟨a,b,c,d,e,f⟩ (ps.map qL) (by simpa using hp.2)
   rw [qi,<- hp.1] at this;exact this
  ·cases h
 ·cases h
def Lx (f:List Int->Bool) (l:List (List Int)):Int:=match (List.range l.length).find? fun i=>f (l.getD i []) with
 |some i=>i
 |none=>-1
def Qgy {f:List Int->Bool} {l:List (List Int)} {k:Nat} (hk:k < l.length) (h:f (l.getD k [])=true) (hb:∀ j,j < k->f (l.getD j [])=false):Lx f l=k:=by
 unfold Lx;have:(List.range l.length).find? (fun i=>f (l.getD i []))=some k:=by
  rw [dK];exact ⟨h,aE.2 hk,fun j hj=>by simpa using hb j hj⟩
 rw [this]
def Ri {f:List Int->Bool} {l:List (List Int)} (hb:∀ j,j < l.length->f (l.getD j [])=false):Lx f l=-1:=by
 unfold Lx;have:(List.range l.length).find? (fun i=>f (l.getD i []))=none:=by
  rw [dM];intro j hj;simpa using hb j (aE.1 hj)
 rw [this]
def QgW (f:List Int->Bool) (l:List (List Int)):decide (0<=Lx f l)=l.any f:=by
 by_cases h:∃ j,j < l.length/\f (l.getD j [])=true
 ·have h2:l.any f=true:=by
   obtain ⟨j,hj,hf⟩:=h;exact cR.2 ⟨_,jr hj,hf⟩
  rw [h2];unfold Lx
  cases hq:(List.range l.length).find? (fun i=>f (l.getD i [])) with
  |some i=>simp
  |none =>
   obtain ⟨j,hj,hf⟩:=h;have:=dM.1 hq j (aE.2 hj)
   rw [hf] at this;simp at this
 ·have h1:∀ j,j < l.length->f (l.getD j [])=false:=fun j hj=>by
   cases hf:f (l.getD j []) with
   |false=>rfl
   |true=>exact absurd ⟨j,hj,hf⟩ h
  rw [Ri h1];have:l.any f=false:=by
   rw [ea];intro x hx
   obtain ⟨j,hj,rfl⟩:=bC hx;have:=h1 j hj
   simpa [ah,hj] using this
  rw [this];rfl
def ixS (ps:List (List Int)) (x:Ent) (k:Nat):St:={ t:=asg [(0,zm ps),(1,.clo 118 [.ptr 0 0]),(4,aI 0),(6,zm ps),(7,aI ps.length),(8,aI k)],h:=qg [(0,.cells (ZQ x))],n:=1,m:=1 }
def zT:=jw @ty3 (jw @jh (jw @QD (jw @ti3.eq_1 (jw @jc.eq_1 @kI.eq_1))))
def Ql:=jw @aI.eq_1 (jw @aB.eq_1 (jw @qi.eq_1 (jw @zm.eq_1 (jw @ZQ.eq_1 (jw @qj.eq_1 (jw @J7 (jw @qC.eq_1 (jw @Qo (jw @p93.eq_1 (jw @p93.eq_2 (@ixS.eq_1)))))))))))
def Qls (x:Ent) (ps:List (List Int)) (hl:ps.length<=100) (hp:∀ p ∈ ps,2<=p.length):Fn noB prog 162 [zm ps,.clo 118 [.ptr 0 0]] (qg [(0,.cells (ZQ x))]) (aI (Lx (WM x) ps)) (qg [(0,.cells (ZQ x))]) 0:=by
 have env:=qx (A:=fun _=>True) (kC e93 kN)
 refine Fn.of (A:=fun _=>True) (n0:=1) (D:=noD) (Fn0 func162 rfl (fun vs w=>by kernel_rfl) (by kernel_rfl)) (by simp) (by simp [AV.ids,AV.idsL,zm]) ?_ (fun _ _ _ _=>trivial) zb ?_
 ·intro i o hi
  have h:=qN hi
  simp at h;obtain ⟨rfl,rfl⟩:=h;simp [ZQ,AObj.ids,AV.ids,AV.idsL]
 have hm:ps.length<=maxLen:=by
   have:(100:Nat)<=maxLen:=by decide
   omega
 repeat' first|(apply nx;with_reducible constructor)|apply jq (by decide)|((first|apply jz env|apply jk);intro Q hQ;simp only [vkt,seval,zT,Ql,ite_and];(repeat' first|with_reducible assumption|apply jw|intro hp);all_goals first|(apply hQ;clear hQ Q)|omega|assumption|rfl|(apply jx;kernel_rfl)|skip)
 refine qh (fun k:{ k:Nat // k<=ps.length/\∀ j,j < k->WM x (ps.getD j [])=false }=>ixS ps x k.1) (fun k=>ps.length - k.1) ⟨0,af _,fun j h=>absurd h (cQ _)⟩ ?_ fun ⟨k,hk,hall⟩=>?_
 ·(refine Le.ok some [] ?_;constructor;all_goals (try simp only [vle,vkt,seval,Ql]))
  all_goals simp
 ·repeat' first|(apply nx;with_reducible constructor)|apply jq (by decide)
  (apply jz env;intro Q hQ;simp only [vkt,seval,zT,Ql,ite_and];(repeat' first|with_reducible assumption|apply jw|intro hp);all_goals first|(apply hQ;clear hQ Q)|omega|assumption|rfl|(apply jx;kernel_rfl)|skip)
  repeat' first|(apply nx;with_reducible constructor)|apply jq (by decide)
  (refine zk (by simp only [vkt,seval];rfl) (fun h=>?_) (fun h=>?_) <;> (try simp only [vki] at h))
  ·have hlt:k < ps.length:=by omega
   have h2:=hp _ (jr (d:=[]) hlt);have e9:=qV hlt hm
   have ex:(⟨x.day,x.kind,x.coin,x.to,x.amount,x.got⟩:Ent)=x:=rfl;cases c1:WM x (ps.getD k [])
   ·repeat' first|(apply nx;with_reducible constructor)|apply jq (by decide)|((first|apply jz env|apply jk);intro Q hQ;simp only [vkt,seval,zT,Ql,ex,c1,ite_and];(repeat' first|with_reducible assumption|apply jw|intro hp);all_goals first|(apply hQ;clear hQ Q)|omega|assumption|rfl|(apply jx;kernel_rfl)|skip)
    refine ⟨⟨k+1,hlt,fun j hj=>?_⟩,by show ps.length - (k+1) < ps.length - k;omega, ?_⟩
    ·rcases bB (bS hj) with h1|h1
     ·exact hall j h1
     ·rw [h1];exact c1
    ·(refine Le.ok some [] ?_;constructor;all_goals (try simp only [vle,vkt,seval,Ql]))
     all_goals simp [e9]
   ·have hi:=Qgy hlt c1 hall
    repeat' first|(apply nx;with_reducible constructor)|apply jq (by decide)|((first|apply jz env|apply jk);intro Q hQ;simp only [vkt,seval,zT,Ql,ex,c1,ite_and];(repeat' first|with_reducible assumption|apply jw|intro hp);all_goals first|(apply hQ;clear hQ Q)|omega|assumption|rfl|(apply jx;kernel_rfl)|skip)
    (simp only [vrt,results162,vkt,seval,Ql];refine Fin.ok some [] ?_ ?_ ?_ ?_ ?_ rfl;all_goals (try simp only [vle,vkt,seval]))
    all_goals simp [hi]
  ·have hi:=Ri (f:=WM x) (l:=ps) fun j hj=>hall j (by omega)
   repeat' first|(apply nx;with_reducible constructor)|apply jq (by decide)|((first|apply jz env|apply jk);intro Q hQ;simp only [vkt,seval,ite_and];(repeat' first|with_reducible assumption|apply jw|intro hp);all_goals first|(apply hQ;clear hQ Q)|omega|assumption|rfl|(apply jx;kernel_rfl)|skip)
   (simp only [vrt,results162,vkt,seval,Ql];refine Fin.ok some [] ?_ ?_ ?_ ?_ ?_ rfl;all_goals (try simp only [vle,vkt,seval]))
   all_goals simp [hi]
def spH (a:Int) (ps:List Int) (s:Int):List (Nat × AObj):=[(0,.cells [aI a]),(1,.cells [.sl (ps.map qj)]),(2,.cells [aI s])]
def spS1 (a:Int) (ps:List Int) (k:Nat):St:={ t:=asg [(2,.ptr 0 0),(3,.ptr 1 0),(4,.nil),(5,aI 0),(7,.ptr 2 0),(23,.sl (ps.map qj)),(24,aI ps.length),(25,aI k)],h:=qg (spH a ps (vK (fun i=>ps.getD i 0) k)),n:=3 }
def spS2 (a:Int) (ps:List Int) (k:Nat):St:={ t:=asg [(2,.ptr 0 0),(3,.ptr 1 0),(4,.nil),(5,aI 0),(7,.ptr 2 0),(10,.row 3),(11,.row 4),(12,aI (yo a ps k)),(44,.sl (ps.map qj)),(45,aI ps.length),(46,aI k)],h:=qg (spH a ps (xZ ps)++[(3,.row 3 1 ((ku a ps k).map qj)),(4,.row 3 1 ((Y6 k).map qj))]),n:=5 }
def spS3 (a:Int) (ps:List Int) (k:Nat):St:={ t:=asg [(2,.ptr 0 0),(3,.ptr 1 0),(4,.nil),(5,aI 0),(7,.ptr 2 0),(10,.row 3),(11,.row 4),(75,.rsl 4 1 0 (yo a ps ps.length).toNat),(76,aI ((yo a ps ps.length).toNat:Nat)),(77,aI k)],h:=qg (spH a ps (xZ ps)++[(3,.row 3 1 ((Yv (ku a ps ps.length) (jR a ps) k).map qj)),(4,.row 3 1 ((jR a ps).map qj))]),n:=5 }
def qX:=jw @ty3 (jw @jh (jw @WP (jw @ti3.eq_1 (jw @jc.eq_1 @Zn.eq_1))))
def Qdb {out:List Int} {c:Int} (h:∀ x ∈ out,0<=x/\x<=c) (ord:List Int) (ho:∀ x ∈ ord,x.toNat < out.length):∀ k,k<=ord.length->∀ x ∈ Yv out ord k,0<=x/\x<=c+k
 |0,_,x,hx=>by have:=h x hx;simp;omega
 |k+1,hk,x,hx=>by
  rw [Yv] at hx;have ih:=Qdb h ord ho k (by omega)
  rcases bP hx with hx|rfl
  ·have:=ih x hx;omega
  ·have h1:=ho _ (jr (d:=0) (show k < ord.length by omega))
   have:=ih _ (jr (d:=0) (show (ord.getD k 0).toNat < (Yv out ord k).length by rw [XT];exact h1))
   omega
def Qgo {a:Int} {ps:List Int} (h:SpOk a ps):∀ x ∈ ku a ps ps.length,0<=x/\x<=8991:=fun x hx=>by
 obtain ⟨j,hj,rfl⟩:=aj.1 hx;have:=YS h (aE.1 hj)
 exact this.2
def zJ:=jw @aI.eq_1 (jw @aB.eq_1 (jw @qi.eq_1 (jw @spH.eq_1 (jw @spS1.eq_1 (jw @spS2.eq_1 (jw @spS3.eq_1 (jw @s78.eq_1 (jw @s78.eq_2 (jw @s79.eq_1 (jw @s79.eq_2 (jw @p80.eq_1 (jw @p80.eq_2 (jw @qj.eq_1 (jw @Q5 (jw @ZJ (jw @Qo (jw @KP (@InI.eq_1))))))))))))))))))
def QgK (a:Int) (ps:List Int) (hm:ps.length<=maxLen):FnV prog 58 [aI a,qi ps] (xY a ps):=by
 have env:=qx (A:=fun _=>True) (kC e78 (kC e79 (kC e80 kN)))
 refine kV (Fn0 func58 rfl (fun vs w=>by kernel_rfl) (by kernel_rfl)) (by simp) (by simp [AV.ids,aI,qi]) ?_
 by_cases h0:qy ps.length 1 6=0
 ·have hl:1<=ps.length/\ps.length<=6:=by unfold qy at h0;split at h0 <;> simp at h0;omega
  repeat' first|(apply nx;with_reducible constructor)|apply jq (by decide)|((first|apply jz env|apply jk);intro Q hQ;simp only [vkt,seval,qX,zJ,h0,ite_and];(repeat' first|with_reducible assumption|apply jw|intro hp);all_goals first|(apply hQ;clear hQ Q)|omega|assumption|rfl|(apply jx;kernel_rfl)|skip)
  refine qh (ι:=FI (errs ps.length (ZL ps))) (fun i=>spS1 a ps i.k) (fun i=>ps.length - i.k) (FI.zero _) ?_ fun i=>?_
  ·(refine Le.ok some [] ?_;constructor;all_goals (try simp only [vle,vkt,seval,zJ]))
   all_goals first|rfl|(simp [FI.zero,vK];done)
  ·have hk:=i.le
   rw [wL] at hk;have hin:∀ j,j < i.k->0<=ps.getD j 0/\ps.getD j 0<=9:=fun j hj=>by
    have:=i.all j hj;rw [QS _ (by omega)] at this
    unfold ZL at this;cases hb:inB (ps.getD j 0) 0 9 with
    |true=>exact zN.1 hb
    |false=>rw [hb] at this;simp at this
   have hsb:=VS hin
   repeat' first|(apply nx;with_reducible constructor)|apply jq (by decide)
   (apply jz env;intro Q hQ;simp only [vkt,seval,qX,zJ,ite_and];(repeat' first|with_reducible assumption|apply jw|intro hp);all_goals first|(apply hQ;clear hQ Q)|omega|assumption|rfl|(apply jx;kernel_rfl)|skip)
   repeat' first|(apply nx;with_reducible constructor)|apply jq (by decide)
   (refine zk (by simp only [vkt,seval];rfl) (fun h=>?_) (fun h=>?_) <;> (try simp only [vki] at h))
   ·have hlt:i.k < ps.length:=by omega
    have e9:=qV hlt hm
    by_cases c1:inB (ps.getD i.k 0) 0 9=true
    ·have hb:=zN.1 c1
     have e8:IntKind.wrap .i64 (vK (fun i=>ps.getD i 0) i.k+ps.getD i.k 0)=vK (fun i=>ps.getD i 0) (i.k+1):=wrap64 (by omega) (by omega)
     repeat' first|(apply nx;with_reducible constructor)|apply jq (by decide)|((first|apply jz env|apply jk);intro Q hQ;simp only [vkt,seval,qX,zJ,c1,e8,ite_and];(repeat' first|with_reducible assumption|apply jw|intro hp);all_goals first|(apply hQ;clear hQ Q)|omega|assumption|rfl|(apply jx;kernel_rfl)|skip)
     refine ⟨i.next hlt (by unfold ZL;rw [c1];rfl),by show ps.length - (i.k+1) < _;omega, ?_⟩
     (refine Le.ok some [] ?_;constructor;all_goals (try simp only [vle,vkt,seval,zJ]))
     all_goals first|rfl|(simp [FI.next,e9];done)
    ·have c1:inB (ps.getD i.k 0) 0 9=false:=by simpa using c1
     have h1:ZL ps i.k=1:=by unfold ZL;rw [c1];rfl
     have h2:=i.hit hlt (by rw [h1];decide)
     have h3:Qr a ps=1:=by unfold Qr;rw [if_neg (by rw [h0];simp),if_pos (by rw [h2,h1];decide),h2,h1]
     rw [show xY a ps=.tup [.sl [],aI 1] by unfold xY;rw [if_pos (by rw [h3];decide),h3]]
     repeat' first|(apply nx;with_reducible constructor)|apply jq (by decide)|((first|apply jz env|apply jk);intro Q hQ;simp only [vkt,seval,qX,zJ,c1,ite_and];(repeat' first|with_reducible assumption|apply jw|intro hp);all_goals first|(apply hQ;clear hQ Q)|omega|assumption|rfl|(apply jx;kernel_rfl)|skip)
     (simp only [vrt,results58,vkt,seval,zJ];refine Fin.val rfl ?_;(try simp only [AV.le,AV.leL]))
     all_goals simp
   ·have hkn:i.k=ps.length:=by omega
    have hf:=i.last (by omega)
    rw [hkn] at hin hsb;have hps:vK (fun i=>ps.getD i 0) i.k=xZ ps:=by rw [hkn];rfl
    by_cases c1:inB a 0 999=true
    ·by_cases c2:xZ ps=0
     ·have h3:Qr a ps=11:=by unfold Qr;rw [if_neg (by rw [h0];simp),if_neg (by rw [hf];simp),if_neg (by rw [c1];simp),if_pos c2]
      rw [show xY a ps=.tup [.sl [],aI 11] by unfold xY;rw [if_pos (by rw [h3];decide),h3]]
      repeat' first|(apply nx;with_reducible constructor)|apply jq (by decide)|((first|apply jz env|apply jk);intro Q hQ;simp only [vkt,seval,qX,zJ,hps,c1,c2,ite_and];(repeat' first|with_reducible assumption|apply jw|intro hp);all_goals first|(apply hQ;clear hQ Q)|omega|assumption|rfl|(apply jx;kernel_rfl)|skip)
      (simp only [vrt,results58,vkt,seval,zJ];refine Fin.val rfl ?_;(try simp only [AV.le,AV.leL]))
      all_goals simp
     ·have h3:Qr a ps=0:=by unfold Qr;rw [if_neg (by rw [h0];simp),if_neg (by rw [hf];simp),if_neg (by rw [c1];simp),if_neg c2]
      rw [show xY a ps=.tup [qi (QbP a ps),aI 0] by unfold xY;rw [if_neg (by rw [h3];decide)]]
      have hok:SpOk a ps:=⟨hl,zN.1 c1,fun p hp=>by
       obtain ⟨j,hj,rfl⟩:=bC hp;have:=hin j hj
       simpa [ah,hj] using this,by
       have:(0:Int)<=xZ ps:=hsb.1;have:xZ ps<=ps.length * 9:=hsb.2
       omega⟩
      repeat' first|(apply nx;with_reducible constructor)|apply jq (by decide)|((first|apply jz env|apply jk);intro Q hQ;simp only [vkt,seval,qX,zJ,hps,c1,c2,ite_and];(repeat' first|with_reducible assumption|apply jw|intro hp);all_goals first|(apply hQ;clear hQ Q)|omega|assumption|rfl|(apply jx;kernel_rfl)|skip)
      refine qh (fun k:{ k:Nat // k<=ps.length }=>spS2 a ps k.1) (fun k=>ps.length - k.1) ⟨0,af _⟩ ?_ fun ⟨k,hk⟩=>?_
      ·(refine Le.ok (fun j=>if j=3 then none else if j=4 then none else some j) [] ?_;constructor;all_goals (try simp only [vle,vkt,seval,zJ]))
       all_goals first|rfl|(rw [hps];done)|(simp [ku,Y6,yo,vK];done)
      ·repeat' first|(apply nx;with_reducible constructor)|apply jq (by decide)
       (apply jz env;intro Q hQ;simp only [vkt,seval,qX,zJ,ite_and];(repeat' first|with_reducible assumption|apply jw|intro hp);all_goals first|(apply hQ;clear hQ Q)|omega|assumption|rfl|(apply jx;kernel_rfl)|skip)
       repeat' first|(apply nx;with_reducible constructor)|apply jq (by decide)
       (refine zk (by simp only [vkt,seval];rfl) (fun h=>?_) (fun h=>?_) <;> (try simp only [vki] at h))
       ·have hlt:k < ps.length:=by omega
        have e9:=qV hlt hm;obtain ⟨b1,b2,b3⟩:=YS hok hlt
        obtain ⟨d1,d2,d3,d4⟩:=Qay hok.d (i:=(k:Int)) (by rw [aW];exact hlt)
        rw [aW] at d1 d2;have l1:=Qa2 hok (k:=k) (by omega)
        have l2:=Qa2 hok (k:=k+1) hlt;have w1:IntKind.wrap .i64 (a * ps.getD k 0)=a * ps.getD k 0:=wrap64 (by omega) (by omega)
        have w2:(a * ps.getD k 0).tdiv (xZ ps)=Qh a ps k:=rfl;have w3:IntKind.wrap .i64 (Qh a ps k)=Qh a ps k:=wrap64 (by omega) (by omega)
        have w4:IntKind.wrap .i64 (yo a ps k - Qh a ps k)=yo a ps (k+1):=by
         have:yo a ps (k+1)=yo a ps k - Qh a ps k:=by unfold yo;rw [vK];omega
         rw [this];exact wrap64 (by omega) (by omega)
        have r1:(ku a ps k).map qj++[[.v (.int .i64 (Qh a ps k))]]=(ku a ps (k+1)).map qj:=by rw [XL,ae];rfl
        have r2:(Y6 k).map qj++[[.v (.int .i64 (k:Int))]]=(Y6 (k+1)).map qj:=by rw [Qd8,ae];rfl
        have r3:=QG a ps k;have r4:=YI k
        have r5:((ku a ps (k+1)).map qj).getD k []=[.v (.int .i64 (Qh a ps k))]:=by
         rw [gI0 (by rw [QG];omega),XL];simp [ah,QG,qj]
        have r6:=QG a ps (k+1);have m1:(k+1) * 8<=140737488355328/\k+1<=maxLen:=by omega
        repeat' first|(apply nx;with_reducible constructor)|apply jq (by decide)|((first|apply jz env|apply jk);intro Q hQ;simp only [vkt,seval,qX,zJ,w1,w2,w3,w4,r1,r2,r3,r4,r5,r6,c2,e9,ite_and];(repeat' first|with_reducible assumption|apply jw|intro hp);all_goals first|(apply hQ;clear hQ Q)|omega|assumption|rfl|(apply jx;kernel_rfl)|skip)
        refine ⟨⟨k+1,hlt⟩,by show ps.length - (k+1) < ps.length - k;omega, ?_⟩
        (refine Le.ok (fun j=>if j=3 then some 6 else if j=4 then some 8 else some j) [] ?_;constructor;all_goals (try simp only [vle,vkt,seval,zJ]))
        all_goals first|rfl|(simp [e9];done)
       ·have hke:k=ps.length:=by omega
        subst hke;obtain ⟨l1,l2⟩:=QjY hok
        have l3:((yo a ps ps.length).toNat:Int)=yo a ps ps.length:=cI l1;have o1:=YI ps.length
        have o2:=QbW ps.length;have o3:∀ x ∈ Y6 ps.length,0<=x/\x.toNat < ps.length:=QbW ps.length
        have hd:=hok.d;have n1:ps.length<=19:=by omega
        have n2:1<=ps.length:=hl.1;have so:W9 (Qs a ps (xZ ps)) (Y6 ps.length)=jR a ps:=rfl
        obtain ⟨s1,s2⟩:=sorted_in hok
        repeat' first|(apply nx;with_reducible constructor)|apply jq (by decide)|((first|apply jz env|apply jk);intro Q hQ;simp only [vkt,seval,qX,zJ,o1,so,s1,ite_and];(repeat' first|with_reducible assumption|apply jw|intro hp);all_goals first|(apply hQ;clear hQ Q)|omega|assumption|rfl|(apply jx;kernel_rfl)|skip)
        refine qh (fun k:{ k:Nat // k<=(yo a ps ps.length).toNat }=>spS3 a ps k.1) (fun k=>(yo a ps ps.length).toNat - k.1) ⟨0,af _⟩ ?_ fun ⟨k,hk⟩=>?_
        ·(refine Le.ok some [] ?_;constructor;all_goals (try simp only [vle,vkt,seval,zJ]))
         all_goals first|rfl|(simp [];done)
        ·repeat' first|(apply nx;with_reducible constructor)|apply jq (by decide)
         (apply jz env;intro Q hQ;simp only [vkt,seval,qX,zJ,ite_and];(repeat' first|with_reducible assumption|apply jw|intro hp);all_goals first|(apply hQ;clear hQ Q)|omega|assumption|rfl|(apply jx;kernel_rfl)|skip)
         repeat' first|(apply nx;with_reducible constructor)|apply jq (by decide)
         (refine zk (by simp only [vkt,seval];rfl) (fun h=>?_) (fun h=>?_) <;> (try simp only [vki] at h))
         ·have hlt:k < (yo a ps ps.length).toNat:=by omega
          have hlt2:k < (jR a ps).length:=by omega
          have hlt3:k < ps.length:=by omega
          have e9:=qV hlt3 hm;obtain ⟨t1,t2⟩:=s2 _ (jr (d:=0) hlt2)
          have x1:(Yv (ku a ps ps.length) (jR a ps) k).length=ps.length:=by rw [XT,QG]
          have k1:=gI0 hlt2;have k2:=gI0 (l:=Yv (ku a ps ps.length) (jR a ps) k) (n:=((jR a ps).getD k 0).toNat) (by omega)
          have vb:=Qdb (Qgo hok) (jR a ps) (fun x hx=>by rw [QG];exact (s2 x hx).2) k (by omega) _ (jr (d:=0) (show ((jR a ps).getD k 0).toNat < (Yv (ku a ps ps.length) (jR a ps) k).length by omega))
          have e8:IntKind.wrap .i64 ((Yv (ku a ps ps.length) (jR a ps) k).getD ((jR a ps).getD k 0).toNat 0+1)=(Yv (ku a ps ps.length) (jR a ps) k).getD ((jR a ps).getD k 0).toNat 0+1:=wrap64 (by omega) (by omega)
          repeat' first|(apply nx;with_reducible constructor)|apply jq (by decide)|((first|apply jz env|apply jk);intro Q hQ;simp only [vkt,seval,qX,zJ,k1,k2,x1,s1,e8,e9,ite_and];(repeat' first|with_reducible assumption|apply jw|intro hp);all_goals first|(apply hQ;clear hQ Q)|omega|assumption|rfl|(apply jx;kernel_rfl)|skip)
          refine ⟨⟨k+1,hlt⟩,by show (yo a ps ps.length).toNat - (k+1) < (yo a ps ps.length).toNat - k;omega, ?_⟩
          (refine Le.ok some [] ?_;constructor;all_goals (try simp only [vle,vkt,seval,zJ]))
          all_goals first|rfl|(simp [Yv,qj,e9];done)
         ·have hkl:k=(yo a ps ps.length).toNat:=by omega
          subst hkl
          repeat' first|(apply nx;with_reducible constructor)|apply jq (by decide)|((first|apply jz env|apply jk);intro Q hQ;simp only [vkt,seval,ite_and];(repeat' first|with_reducible assumption|apply jw|intro hp);all_goals first|(apply hQ;clear hQ Q)|omega|assumption|rfl|(apply jx;kernel_rfl)|skip)
          (simp only [vrt,results58,vkt,seval,zJ];refine Fin.val rfl ?_;(try simp only [AV.le,AV.leL]))
          all_goals first|exact ⟨⟨_,_,rfl⟩,trivial,trivial⟩|(simp [QbP,qi];done)
    ·have c1:inB a 0 999=false:=by simpa using c1
     have h3:Qr a ps=1:=by unfold Qr;rw [if_neg (by rw [h0];simp),if_neg (by rw [hf];simp),if_pos (by rw [c1];rfl)]
     rw [show xY a ps=.tup [.sl [],aI 1] by unfold xY;rw [if_pos (by rw [h3];decide),h3]]
     repeat' first|(apply nx;with_reducible constructor)|apply jq (by decide)|((first|apply jz env|apply jk);intro Q hQ;simp only [vkt,seval,qX,zJ,c1,ite_and];(repeat' first|with_reducible assumption|apply jw|intro hp);all_goals first|(apply hQ;clear hQ Q)|omega|assumption|rfl|(apply jx;kernel_rfl)|skip)
     (simp only [vrt,results58,vkt,seval,zJ];refine Fin.val rfl ?_;(try simp only [AV.le,AV.leL]))
     all_goals simp
 ·have h3:Qr a ps=qy ps.length 1 6:=by unfold Qr;rw [if_pos h0]
  rw [show xY a ps=.tup [.sl [],aI (qy ps.length 1 6)] by unfold xY;rw [if_pos (by rw [h3];exact h0),h3]]
  repeat' first|(apply nx;with_reducible constructor)|apply jq (by decide)|((first|apply jz env|apply jk);intro Q hQ;simp only [vkt,seval,qX,zJ,h0,ite_and];(repeat' first|with_reducible assumption|apply jw|intro hp);all_goals first|(apply hQ;clear hQ Q)|omega|assumption|rfl|(apply jx;kernel_rfl)|skip)
  (simp only [vrt,results58,vkt,seval,zJ];refine Fin.val rfl ?_;(try simp only [AV.le,AV.leL]))
  all_goals simp
def c24:List AV->Prop × AV
 |[.v (.int .i64 a),.sl ps]=>(ps=(ps.map qL).map qj/\ps.length<=maxLen,xY a (ps.map qL))
 |_=>(False,.junk)
def d24 {A:Frm->Prop}:qf A prog 58 (zq false c24):=qD fun vs hv h=>by
 clear hv;unfold c24 at h ⊢
 split at h
 ·refine ⟨by unfold xY;split <;> simp [AV.plain,AV.plainL,aI,qi],fun h=>absurd h (by decide), ?_⟩
  have:=QgK ‹_› _ (show (List.map qL _).length<=maxLen by rw [ab];exact h.2)
  simp only [qi,<- h.1] at this;exact this
 ·exact h.elim
def WI:=jw @Qg @xD.eq_1
def Qbe:=jw @aI.eq_1 (jw @aB.eq_1 (@aSh.eq_1))
def QjN (a b:Int):FnV prog 59 [aI a,aI b] (aSh ⟨a,b⟩):=by
 have env:=qx (A:=fun _=>True) kN
 refine kV (Fn0 func59 rfl (fun vs w=>by kernel_rfl) (by kernel_rfl)) (by simp) (by simp [AV.ids,aI]) ?_
 repeat' first|(apply nx;with_reducible constructor)|apply jq (by decide)|((first|apply jz env|apply jk);intro Q hQ;simp only [vkt,seval,WI,Qbe,ite_and];(repeat' first|with_reducible assumption|apply jw|intro hp);all_goals first|(apply hQ;clear hQ Q)|omega|assumption|rfl|(apply jx;kernel_rfl)|skip)
 (simp only [vrt,results59,vkt,seval,WI,Qbe];refine Fin.val rfl ?_;(try simp only [AV.le,AV.leL]))
 all_goals simp
def s40:List AV->Prop × AV
 |[.v (.int .i64 a),.v (.int .i64 b)]=>(True,.agg [.v (.int .i64 a),.v (.int .i64 b)])
 |_=>(False,.junk)
def e40 {A:Frm->Prop}:qf A prog 59 (zq true s40):=qD fun vs _ h=>by
 unfold s40 at h ⊢;split at h
 ·exact ⟨by simp [AV.plain,AV.plainL],fun _=>by simp [AV.flat,AV.flatL],QjN _ _⟩
 ·exact h.elim
def YL (got:Int):Led:={ coins:=[[1,5,10],[1,2]],rates:=[[⟨1,1⟩,⟨3,2⟩],[⟨1,1⟩,⟨2,1⟩]],start:=[100,10],entries:=[⟨0,1,1,0,20,0⟩,⟨0,3,1,0,15,got⟩,⟨1,2,0,0,30,0⟩,⟨1,4,1,0,14,0⟩] }
def Zb:=jw @ty3 (jw @jh (jw @QD (jw @WK (jw @Yt (jw @vU (jw @vQ (jw @Qg (jw @vR (jw @ti3.eq_1 (jw @jc.eq_1 (jw @kI.eq_1 (jw @Zp.eq_1 (jw @WO.eq_1 (jw @vD.eq_1 (jw @yP.eq_1 (jw @xD.eq_1 @yS.eq_1))))))))))))))))
def La:=jw @aI.eq_1 (jw @aB.eq_1 (jw @aSh.eq_1 (jw @q9.eq_1 (jw @qU.eq_1 (jw @YL.eq_1 (jw @s40.eq_1 (jw @s40.eq_2 (jw @qC.eq_1 (jw @zM.eq_1 (jw @qj.eq_1 (jw @eSh.eq_1 (@zC.eq_1))))))))))))
def Qej (g:Int):FnV prog 54 [aI g] (q9 (YL g)):=by
 have env:=qx (A:=fun _=>True) (kC e40 kN)
 refine kV (Fn0 func54 rfl (fun vs w=>by kernel_rfl) (by kernel_rfl)) (by simp) (by simp [AV.ids,aI]) ?_
 have q1:(4:Nat)<=maxLen:=by decide
 repeat' first|(apply nx;with_reducible constructor)|apply jq (by decide)|((first|apply jz env|apply jk);intro Q hQ;simp only [vkt,seval,Zb,La,ite_and];(repeat' first|with_reducible assumption|apply jw|intro hp);all_goals first|(apply hQ;clear hQ Q)|omega|assumption|rfl|(apply jx;kernel_rfl)|skip)
 (simp only [vrt,results54,vkt,seval,Zb,La];refine Fin.val rfl ?_;(try simp only [AV.le,AV.leL]))
 all_goals first|rfl|exact ⟨⟨_,_,rfl⟩,⟨_,_,rfl⟩,⟨_,_,rfl⟩,⟨_,_,rfl⟩,trivial⟩|exact ⟨⟨_,_,rfl⟩,⟨_,_,rfl⟩,⟨_,_,rfl⟩,⟨_,_,rfl⟩⟩
def c76:List AV->Prop × AV
 |[.v (.int .i64 g)]=>(True,q9 (YL g))
 |_=>(False,.junk)
def d76 {A:Frm->Prop}:qf A prog 54 (zq false c76):=qD fun vs _ h=>by
 unfold c76 at h ⊢;split at h
 ·exact ⟨by simp [AV.plain,AV.plainL,q9,qU],fun h=>absurd h (by decide),Qej _⟩
 ·exact h.elim
def piL (ps:List Int) (A:Nat):List Int:=pcL ps A ps.length
def JP (l:Led) (c n:Int):AV:=if kz l c n [] ≠ 0 then .tup [.sl [],aI (kz l c n [])] else .tup [qi (piL (l.coins.getD c.toNat []) n.toNat),aI 0]
def tbG (ps:List Int) (A i:Nat):Nat->AV:=fun j=>if j < i then .nil else .sl ((yO (je (ps.drop j)) A).map qj)
def tbH (ps:List Int) (A i id:Nat):Nat->AV:=fun j=>if j=i then .row id else tbG ps A (i+1) j
def QdD {g:Nat->AV} {n k:Nat} {v:AV} (h:k < n):List.take (k * 1) (yG g n)++[v]++List.drop (k * 1+1) (yG g n)=yG (fun j=>if j=k then v else g j) n:=by
 rw [bJ,bW,List.singleton_append,QbK h]
def YK {g:Nat->AV} {n k:Nat} (h:k < n):List.take 1 (List.drop (k * 1) (yG g n))=[g k]:=by
 rw [bJ,Qd5 h]
def vL {ps:List Int} {A i n N:Nat}:∀ id ∈ AV.idsL (yG (tbG ps A i) n),id < N:=Lj fun j _ id hid=>by
 unfold tbG at hid;split at hid <;> simp [AV.ids] at hid
def YM {ps:List Int} {A i n r N:Nat} (h:r < N):∀ id ∈ AV.idsL (yG (tbH ps A i r) n),id < N:=Lj fun j _ id hid=>by
 unfold tbH tbG at hid;split at hid
 ·simp [AV.ids] at hid;omega
 ·split at hid <;> simp [AV.ids] at hid
def Zr {h:Nat->Option AObj} {σ:Nat->Option Nat} {ps:List Int} {A i n:Nat}:AV.leL h σ (yG (tbG ps A i) n) (yG (tbG ps A i) n):=VR fun j _=>by
 unfold tbG;split
 ·trivial
 ·exact rfl
def Wi {h:Nat->Option AObj} {σ:Nat->Option Nat} {ps:List Int} {A i n r r':Nat} (hr:σ r'=some r):AV.leL h σ (yG (tbH ps A i r) n) (yG (tbH ps A i r') n):=VR fun j _=>by
 unfold tbH;split
 ·exact hr
 ·unfold tbG;split
  ·trivial
  ·exact rfl
def QlV {h:Nat->Option AObj} {σ:Nat->Option Nat} {ps:List Int} {A n r:Nat} (hr:h r=some (.row 3 1 ((yO (je []) A).map qj))) (hn:ps.length=n):AV.leL h σ (yG (fun j=>if j=n then .row r else .nil) (n+1)) (yG (tbG ps A n) (n+1)):=VR fun j hj=>by
 by_cases hjn:j=n
 ·subst hjn;subst hn;simp only [if_true,tbG,Nat.lt_irrefl,if_false,List.drop_length];exact ⟨_,_,by unfold rowAt;rw [hr]⟩
 ·rw [if_neg hjn,tbG,if_pos (by omega)];trivial
def Qlx {h:Nat->Option AObj} {σ:Nat->Option Nat} {ps:List Int} {A i n r:Nat} (hr:h r=some (.row 3 1 ((yO (je (ps.drop i)) A).map qj))):AV.leL h σ (yG (tbH ps A i r) n) (yG (tbG ps A i) n):=VR fun j hj=>by
 unfold tbH tbG
 by_cases hji:j=i
 ·subst hji;simp only [if_true,Nat.lt_irrefl,if_false];exact ⟨_,_,by unfold rowAt;rw [hr]⟩
 ·rw [if_neg hji]
  by_cases h1:j < i
  ·rw [if_pos (by omega),if_pos h1];trivial
  ·rw [if_neg (by omega),if_neg h1];exact rfl
def row0 (A:Nat):(List.replicate (A+1) (qj (-1))).set 0 (qj 0)=(yO (je []) A).map qj:=by
 rw [show List.replicate (A+1) (qj (-1))=(yO (fun _=>-1) A).map qj by
  apply bU
  intro i;simp only [yO,dh,aw]
  by_cases h:i < A+1 <;> simp [h]]
 rw [<- dJ,Qbi]
 congr 1
def peH (l:Led) (cs:List AV):List (Nat × AObj):=[(0,.cells (qU l)),(1,.cells cs)]
def peS1 (l:Led) (c:Int) (ps:List Int) (A i:Nat):St:={ t:=asg [(1,aI c),(2,aI A),(3,.ptr 0 0),(9,qi ps),(10,.csl 1 (ps.length+1)),(11,aI ((i:Int) - 1))],h:=qg (peH l (yG (tbG ps A i) (ps.length+1))),n:=2 }
def peS2 (l:Led) (c:Int) (ps:List Int) (A p i n:Nat):St:={ t:=asg [(1,aI c),(2,aI A),(3,.ptr 0 0),(9,qi ps),(10,.csl 1 (ps.length+1)),(11,aI i),(12,aI n)],h:=qg (peH l (yG (tbH ps A i 2) (ps.length+1))++[(2,.row 3 1 ((yO (Zk p (je (ps.drop (i+1))) n) A).map qj))]),n:=3 }
def peS3 (l:Led) (c:Int) (ps:List Int) (A i:Nat):St:={ t:=asg [(1,aI c),(2,aI (pcA ps A i)),(3,.ptr 0 0),(9,qi ps),(10,.csl 1 (ps.length+1)),(14,.row 2),(118,qi ps),(119,aI ps.length),(120,aI i)],h:=qg (peH l (yG (tbG ps A 0) (ps.length+1))++[(2,.row 3 1 ((pcL ps A i).map qj))]),n:=3 }
def peS4 (l:Led) (c:Int) (ps:List Int) (A i m:Nat):St:={ t:=asg [(1,aI c),(2,aI (pcA ps A i)),(3,.ptr 0 0),(9,qi ps),(10,.csl 1 (ps.length+1)),(14,.row 2),(15,aI i),(16,aI (ps.getD i 0)),(17,aI m),(118,qi ps),(119,aI ps.length),(120,aI i)],h:=qg (peH l (yG (tbG ps A 0) (ps.length+1))++[(2,.row 3 1 ((pcL ps A i).map qj))]),n:=3 }
def qF:=jw @ty3 (jw @jh (jw @WP (jw @QD (jw @vU (jw @ti3.eq_1 (jw @jc.eq_1 (jw @Zn.eq_1 (jw @kI.eq_1 @vD.eq_1))))))))
def zt:=jw @aI.eq_1 (jw @aB.eq_1 (jw @q9.eq_1 (jw @qU.eq_1 (jw @qi.eq_1 (jw @peH.eq_1 (jw @peS1.eq_1 (jw @peS2.eq_1 (jw @peS3.eq_1 (jw @peS4.eq_1 (jw @c86.eq_1 (jw @c86.eq_2 (jw @p87.eq_1 (jw @p87.eq_2 (jw @p88.eq_1 (jw @p88.eq_2 (jw @p88.eq_3 (jw @xf (jw @jT (jw @qj.eq_1 (jw @Q5 (jw @ZJ (jw @yI (jw @Qo (jw @kg (jw @qC.eq_1 (jw @J7 (jw @KP (@QhS))))))))))))))))))))))))))))
def QeS (l:Led) (c n:Int) (hl:Fit l):FnV prog 56 [q9 l,aI c,aI n] (JP l c n):=by
 have env:=qx (A:=fun _=>True) (kC d86 (kC e87 (kC e88 kN)))
 refine kV (Fn0 func56 rfl (fun vs w=>by kernel_rfl) (by kernel_rfl)) (by simp) (by simp [AV.ids,AV.idsL,aI,q9,qU]) ?_
 have q0:∀ p ∈ ([]:List (List Int)),p.length<=maxLen:=fun p hp=>by simp at hp
 have q1:(0:Nat)<=maxLen:=af _
 by_cases h0:kz l c n []=0
 ·rw [show JP l c n=_ from if_neg (by rw [h0];simp)]
  obtain ⟨hV,⟨g1,g2⟩,_,hn0,hn1⟩:=Qft h0;obtain ⟨A,rfl⟩:=Int.eq_ofNat_of_zero_le hn0
  rw [aW];generalize hP:l.coins.getD c.toNat []=ps at *
  have hps:PsOk ps:=hP ▸ Qdu (hV.cs _ g2);have hl1:=hps.l
  have w1:IntKind.wrap .i64 ((ps.length:Int)+1)=((ps.length+1:Nat):Int):=by rw [wrap64 (by omega) (by omega)];rfl
  have w2:=k9 A (by omega)
  have w3:List.replicate (ps.length+1) AV.nil=yG (fun _=>.nil) (ps.length+1):=QgN _
  have w4:=QdD (g:=fun _=>.nil) (n:=ps.length+1) (k:=ps.length) (v:=.row 3) (by omega)
  have w5:=YK (g:=fun j=>if j=ps.length then .row 3 else .nil) (n:=ps.length+1) (k:=ps.length) (by omega)
  rw [if_pos rfl] at w5;have w6:(List.replicate (A+1) [.v (.int .i64 (-1))]).set 0 [.v (.int .i64 0)]=(yO (je []) A).map qj:=row0 A
  have w8:(List.replicate (A+1) [.v (.int .i64 (-1))]).getD 0 []=[DV.v (.int .i64 (-1))]:=by simp [ah]
  have w7:IntKind.wrap .i64 ((ps.length:Int) - 1)=(ps.length:Int) - 1:=wrap64 (by omega) (by omega)
  have big:(100000:Nat)<=maxLen:=by decide
  have b1:((24:Nat):Int) * ((ps.length+1:Nat):Int)<=140737488355328:=by omega
  have b2:((ps.length+1:Nat):Int)<=maxLen:=by
    have:(20:Nat)<=maxLen:=XO;omega
  repeat' first|(apply nx;with_reducible constructor)|apply jq (by decide)|refine zL ?_|refine ww ?_|refine wG ?_|refine wF ?_|((first|apply jz env|apply jk);intro Q hQ;simp only [vkt,Nat.reduceEqDiff,Nat.reduceAdd,Nat.reduceMul,Nat.reduceSub,Nat.reduceLeDiff,reduceCtorEq,↓reduceIte,Int.reduceNeg,qF,zt,h0,hP,w1,w2,w3,w4,w5,w6,w7,w8,ite_and];(repeat' first|with_reducible assumption|apply jw|intro hp);all_goals first|(apply hQ;clear hQ Q)|omega|assumption|rfl|(apply jx;kernel_rfl)|skip)
  ·exact ⟨_,_,rfl⟩
  ·rw [bK];omega
  ·rw [bK];omega
  have hge:∀ q ∈ ps,1<=q:=fun q hq=>(hps.b q hq).1
  have b3:∀ k:Nat,k < ps.length->ps.getD k 0=(((ps.getD k 0).toNat:Nat):Int)/\1<=(ps.getD k 0).toNat/\(ps.getD k 0).toNat<=50:=fun k hk=>by
   have:=hps.b _ (jr (d:=0) hk);omega
  have nd:∀ k a:Nat,-1<=je (ps.drop k) a/\je (ps.drop k) a<=a:=fun k a=>Xf (fun q hq=>hge q (aO hq)) a
  refine qh (fun i:{ i:Nat // i<=ps.length }=>peS1 l c ps A i.1) (fun i=>i.1) ⟨ps.length,ag _⟩ ?_ fun ⟨i,hi⟩=>?_
  ·(refine Le.ok some [3] ?_;constructor;all_goals (try simp only [vle,vkt,Nat.reduceEqDiff,reduceCtorEq,Int.reduceNeg,zt]))
   all_goals first|rfl|(simp [upd];done)|exact vL|exact QlV rfl rfl
  ·repeat' first|(apply nx;with_reducible constructor)|apply jq (by decide)|refine zL ?_|refine ww ?_|refine wG ?_|refine wF ?_
   (apply jz env;intro Q hQ;simp only [vkt,Nat.reduceEqDiff,qF,zt,ite_and];(repeat' first|with_reducible assumption|apply jw|intro hp);all_goals first|(apply hQ;clear hQ Q)|omega|assumption|rfl|(apply jx;kernel_rfl)|skip)
   repeat' first|(apply nx;with_reducible constructor)|apply jq (by decide)|refine zL ?_|refine ww ?_|refine wG ?_|refine wF ?_
   (refine zk (by simp only [vkt];rfl) (fun h=>?_) (fun h=>?_) <;> (try simp only [vki] at h))
   ·obtain ⟨m,rfl⟩:∃ m,i=m+1:=⟨i - 1,by omega⟩
    have e1:((m+1:Nat):Int) - 1=(m:Int):=by omega
    have e2:=k9 m (by omega)
    have v1:List.take 1 (List.drop ((m+1) * 1) (yG (tbG ps A (m+1)) (ps.length+1)))=[.sl ((yO (je (ps.drop (m+1))) A).map qj)]:=by rw [YK (by omega),tbG,if_neg (by omega)]
    have v2:List.take (m * 1) (yG (tbG ps A (m+1)) (ps.length+1))++[.row 2]++List.drop (m * 1+1) (yG (tbG ps A (m+1)) (ps.length+1))=yG (tbH ps A m 2) (ps.length+1):=QdD (by omega)
    obtain ⟨p1,p2,p3⟩:=b3 m (by omega)
    obtain ⟨p,hp⟩:∃ p:Nat,ps.getD m 0=(p:Int):=⟨_,p1⟩;rw [hp,aW] at p2 p3
    have r1:=YC (je (ps.drop (m+1))) A;have m2:(A+1) * 8<=140737488355328/\A+1<=maxLen:=by omega
    have lt1:m < ps.length:=by omega
    have fl:=nd (m+1);have nm:∀ a,je (ps.drop m) a=gN p (je (ps.drop (m+1))) a:=fun a=>by rw [Vf lt1,hp,aW]
    repeat' first|(apply nx;with_reducible constructor)|apply jq (by decide)|refine zL ?_|refine ww ?_|refine wG ?_|refine wF ?_|((first|apply jz env|apply jk);intro Q hQ;simp only [vkt,Nat.reduceEqDiff,Nat.reduceAdd,Nat.reduceSub,Nat.reduceLeDiff,reduceCtorEq,↓reduceIte,qF,zt,e1,e2,v1,v2,hp,ite_and];(repeat' first|with_reducible assumption|apply jw|intro hp);all_goals first|(apply hQ;clear hQ Q)|omega|assumption|rfl|(apply jx;kernel_rfl)|skip)
    generalize hf:je (ps.drop (m+1))=f at *;refine qh (fun n:{ n:Nat // p<=n }=>peS2 l c ps A p m n.1) (fun n=>A+1 - n.1) ⟨p,ag _⟩ ?_ fun ⟨n,hn⟩=>?_
    ·(refine Le.ok some [] ?_;constructor;all_goals (try simp only [vle,vkt,Nat.reduceEqDiff,reduceCtorEq,↓reduceIte,zt]))
     all_goals first|rfl|(simp [];done)|exact ⟨Wi rfl,by rw [hf,Qd3]⟩|exact ⟨by decide,YM (by decide)⟩|skip
    ·unfold peS2
     rw [hf]
     repeat' first|(apply nx;with_reducible constructor)|apply jq (by decide)|refine zL ?_|refine ww ?_|refine wG ?_|refine wF ?_
     (apply jz env;intro Q hQ;simp only [vkt,Nat.reduceEqDiff,qF,zt,ite_and];(repeat' first|with_reducible assumption|apply jw|intro hp);all_goals first|(apply hQ;clear hQ Q)|omega|assumption|rfl|(apply jx;kernel_rfl)|skip)
     repeat' first|(apply nx;with_reducible constructor)|apply jq (by decide)|refine zL ?_|refine ww ?_|refine wG ?_|refine wF ?_
     (refine zk (by simp only [vkt];rfl) (fun h=>?_) (fun h=>?_) <;> (try simp only [vki] at h))
     ·have hna:n<=A:=by omega
      have hgl:=QgM p2 (fun a=>(fl a).1)
      have hgu:=QkH p2 (fun a=>(fl a).2)
      have u1:IntKind.wrap .i64 ((n:Int) - (p:Int))=((n - p:Nat):Int):=by rw [wrap64 (by omega) (by omega)];omega
      have v3:List.take 1 (List.drop (m * 1) (yG (tbH ps A m 2) (ps.length+1)))=[.row 2]:=by rw [YK (by omega),tbH,if_pos rfl]
      have r2:=YC (Zk p f n) A;have k1:((yO (Zk p f n) A).map qj).getD (n - p) []=[.v (.int .i64 (gN p f (n - p)))]:=by rw [gI0 (by omega),YP (by omega),Zk,if_pos (by omega)];rfl
      have k2:((yO (Zk p f n) A).map qj).getD n []=[.v (.int .i64 (f n))]:=by rw [gI0 (by omega),YP (by omega),Zk,if_neg (by omega)];rfl
      have g1:=hgl (n - p);have g2:=hgu (n - p)
      have u2:IntKind.wrap .i64 (gN p f (n - p)+1)=gN p f (n - p)+1:=wrap64 (by omega) (by omega)
      have u3:=k9 n (by omega)
      have gn:=VC (f:=f) p2 hn;unfold Ur at gn
      have stay:¬ (0<=gN p f (n - p)/\(f n < 0\/gN p f (n - p)+1 < f n))->yO (Zk p f n) A=yO (Zk p f (n+1)) A:=fun h=>Qg1 (by rw [gn,if_neg h])
      have move:(0<=gN p f (n - p)/\(f n < 0\/gN p f (n - p)+1 < f n))->(yO (Zk p f n) A).set n (gN p f (n - p)+1)=yO (Zk p f (n+1)) A:=fun h=>QjJ (by rw [gn,if_pos h])
      by_cases c1:0<=gN p f (n - p)
      ·by_cases c2:f n < 0
       ·have mv:=move ⟨c1,.inl c2⟩
        repeat' first|(apply nx;with_reducible constructor)|apply jq (by decide)|refine zL ?_|refine ww ?_|refine wG ?_|refine wF ?_|((first|apply jz env|apply jk);intro Q hQ;simp only [vkt,Nat.reduceEqDiff,Nat.reduceLeDiff,reduceCtorEq,↓reduceIte,qF,zt,u1,u2,u3,v3,k1,k2,r2,c1,c2,hp,mv,ite_and];(repeat' first|with_reducible assumption|apply jw|intro hp);all_goals first|(apply hQ;clear hQ Q)|omega|assumption|rfl|(apply jx;kernel_rfl)|skip)
        refine ⟨⟨n+1,by omega⟩,by show A+1 - (n+1) < A+1 - n;omega, ?_⟩
        (refine Le.ok some [] ?_;constructor;all_goals (try simp only [vle,vkt,Nat.reduceEqDiff,reduceCtorEq,↓reduceIte,zt]))
        all_goals first|rfl|(simp [];done)|exact Wi rfl|exact ⟨Wi rfl,by rw [hf]⟩|exact ⟨by decide,YM (by decide)⟩
       ·by_cases c3:gN p f (n - p)+1 < f n
        ·have mv:=move ⟨c1,.inr c3⟩
         repeat' first|(apply nx;with_reducible constructor)|apply jq (by decide)|refine zL ?_|refine ww ?_|refine wG ?_|refine wF ?_|((first|apply jz env|apply jk);intro Q hQ;simp only [vkt,Nat.reduceEqDiff,Nat.reduceLeDiff,reduceCtorEq,↓reduceIte,qF,zt,u1,u2,u3,v3,k1,k2,r2,c1,c2,c3,hp,mv,ite_and];(repeat' first|with_reducible assumption|apply jw|intro hp);all_goals first|(apply hQ;clear hQ Q)|omega|assumption|rfl|(apply jx;kernel_rfl)|skip)
         refine ⟨⟨n+1,by omega⟩,by show A+1 - (n+1) < A+1 - n;omega, ?_⟩
         (refine Le.ok some [] ?_;constructor;all_goals (try simp only [vle,vkt,Nat.reduceEqDiff,reduceCtorEq,↓reduceIte,zt]))
         all_goals first|rfl|(simp [];done)|exact Wi rfl|exact ⟨Wi rfl,by rw [hf]⟩|exact ⟨by decide,YM (by decide)⟩
        ·have st:=stay fun h=>by omega
         repeat' first|(apply nx;with_reducible constructor)|apply jq (by decide)|refine zL ?_|refine ww ?_|refine wG ?_|refine wF ?_|((first|apply jz env|apply jk);intro Q hQ;simp only [vkt,Nat.reduceEqDiff,Nat.reduceLeDiff,reduceCtorEq,↓reduceIte,qF,zt,u1,u2,u3,v3,k1,k2,r2,c1,c2,c3,hp,ite_and];(repeat' first|with_reducible assumption|apply jw|intro hp);all_goals first|(apply hQ;clear hQ Q)|omega|assumption|rfl|(apply jx;kernel_rfl)|skip)
         refine ⟨⟨n+1,by omega⟩,by show A+1 - (n+1) < A+1 - n;omega, ?_⟩
         (refine Le.ok some [] ?_;constructor;all_goals (try simp only [vle,vkt,Nat.reduceEqDiff,reduceCtorEq,↓reduceIte,zt]))
         all_goals first|rfl|(simp [];done)|exact ⟨Wi rfl,by rw [st]⟩|exact ⟨Wi rfl,by rw [hf,st]⟩|exact ⟨by decide,YM (by decide)⟩
      ·have st:=stay fun h=>by omega
       repeat' first|(apply nx;with_reducible constructor)|apply jq (by decide)|refine zL ?_|refine ww ?_|refine wG ?_|refine wF ?_|((first|apply jz env|apply jk);intro Q hQ;simp only [vkt,Nat.reduceEqDiff,Nat.reduceLeDiff,reduceCtorEq,↓reduceIte,qF,zt,u1,u3,v3,k1,r2,c1,hp,ite_and];(repeat' first|with_reducible assumption|apply jw|intro hp);all_goals first|(apply hQ;clear hQ Q)|omega|assumption|rfl|(apply jx;kernel_rfl)|skip)
       refine ⟨⟨n+1,by omega⟩,by show A+1 - (n+1) < A+1 - n;omega, ?_⟩
       (refine Le.ok some [] ?_;constructor;all_goals (try simp only [vle,vkt,Nat.reduceEqDiff,reduceCtorEq,↓reduceIte,zt]))
       all_goals first|rfl|(simp [];done)|exact ⟨Wi rfl,by rw [st]⟩|exact ⟨Wi rfl,by rw [hf,st]⟩|exact ⟨by decide,YM (by decide)⟩
     ·have he:yO (Zk p f n) A=yO (je (ps.drop m)) A:=by rw [Qio (by omega)];exact Q4 fun a _=>(nm a).symm
      have u1:IntKind.wrap .i64 ((m:Int) - 1)=(m:Int) - 1:=wrap64 (by omega) (by omega)
      repeat' first|(apply nx;with_reducible constructor)|apply jq (by decide)|refine zL ?_|refine ww ?_|refine wG ?_|refine wF ?_|((first|apply jz env|apply jk);intro Q hQ;simp only [vkt,Nat.reduceEqDiff,qF,he,u1,ite_and];(repeat' first|with_reducible assumption|apply jw|intro hp);all_goals first|(apply hQ;clear hQ Q)|omega|assumption|rfl|(apply jx;kernel_rfl)|skip)
      refine ⟨⟨m,by omega⟩,by show m < m+1;omega, ?_⟩
      (refine Le.ok some [2] ?_;constructor;all_goals (try simp only [vle,vkt,Nat.reduceEqDiff,reduceCtorEq,zt]))
      all_goals first|rfl|(simp [upd];done)|exact Qlx rfl|exact vL|exact ⟨by decide,vL⟩
   ·have:i=0:=by omega
    subst this;have h00:0<=je ps A:=Qf3 hge hps.one hps.l.1 A
    repeat' first|(apply nx;with_reducible constructor)|apply jq (by decide)|refine zL ?_|refine ww ?_|refine wG ?_|refine wF ?_|((first|apply jz env|apply jk);intro Q hQ;simp only [vkt,Nat.reduceEqDiff,qF,ite_and];(repeat' first|with_reducible assumption|apply jw|intro hp);all_goals first|(apply hQ;clear hQ Q)|omega|assumption|rfl|(apply jx;kernel_rfl)|skip)
    refine qh (fun i:{ i:Nat // i<=ps.length }=>peS3 l c ps A i.1) (fun i=>ps.length - i.1) ⟨0,af _⟩ ?_ fun ⟨i,hi⟩=>?_
    ·(refine Le.ok (fun j=>if j=2 then none else some j) [] ?_;constructor;all_goals (try simp only [vle,vkt,Nat.reduceEqDiff,reduceCtorEq,↓reduceIte,zt]))
     all_goals first|rfl|(simp [];done)|exact Zr|exact ⟨Zr,rfl⟩|exact vL|exact ⟨by decide,vL⟩|exact ⟨rfl,rfl⟩
    ·repeat' first|(apply nx;with_reducible constructor)|apply jq (by decide)|refine zL ?_|refine ww ?_|refine wG ?_|refine wF ?_
     (apply jz env;intro Q hQ;simp only [vkt,Nat.reduceEqDiff,qF,zt,ite_and];(repeat' first|with_reducible assumption|apply jw|intro hp);all_goals first|(apply hQ;clear hQ Q)|omega|assumption|rfl|(apply jx;kernel_rfl)|skip)
     repeat' first|(apply nx;with_reducible constructor)|apply jq (by decide)|refine zL ?_|refine ww ?_|refine wG ?_|refine wF ?_
     (refine zk (by simp only [vkt];rfl) (fun h=>?_) (fun h=>?_) <;> (try simp only [vki] at h))
     ·have lt1:i < ps.length:=by omega
      obtain ⟨p1,p2,p3⟩:=b3 i lt1;obtain ⟨p,hp⟩:∃ p:Nat,ps.getD i 0=(p:Int):=⟨_,p1⟩
      rw [hp,aW] at p2 p3;generalize hf:je (ps.drop (i+1))=f at *
      obtain ⟨q1,q2⟩:=QhF hge h00 i hi;have nm:=Vf lt1 (pcA ps A i)
      rw [hp,aW,hf] at nm;have fl:=nd (i+1)
      rw [hf] at fl;have hM:pcM ps A i=vV p f (pcA ps A i):=by unfold pcM;rw [hp,aW,hf]
      have hN:pcA ps A (i+1)=pcA ps A i - vV p f (pcA ps A i) * p:=by rw [pcA,hp,aW,hf]
      have hS:=QfH ps A i;rw [hM] at hS
      have hLn:=Qi5 ps A i;generalize hq:pcA ps A i=a at *
      rw [nm] at q1;have hsp:=Jf p2 q1
      unfold Z5 at hsp;simp only [bc,decide_eq_true_eq] at hsp
      repeat' first|(apply nx;with_reducible constructor)|apply jq (by decide)|refine zL ?_|refine ww ?_|refine wG ?_|refine wF ?_|((first|apply jz env|apply jk);intro Q hQ;simp only [vkt,Nat.reduceEqDiff,qF,zt,ite_and];(repeat' first|with_reducible assumption|apply jw|intro hp);all_goals first|(apply hQ;clear hQ Q)|omega|assumption|rfl|(apply jx;kernel_rfl)|skip)
      refine qh (fun m:{ m:Nat // m<=vV p f a/\∀ j,j < m->Z5 p f a j=false }=>peS4 l c ps A i m.1) (fun m=>vV p f a - m.1) ⟨0,af _,fun j h=>absurd h (cQ _)⟩ ?_ fun ⟨m,hm,hno⟩=>?_
      ·(refine Le.ok some [] ?_;constructor;all_goals (try simp only [vle,vkt,Nat.reduceEqDiff,reduceCtorEq,↓reduceIte,zt]))
       all_goals first|rfl|(simp [hq];done)|exact Zr|exact ⟨Zr,rfl⟩|exact vL|exact ⟨by decide,vL⟩|exact ⟨rfl,rfl⟩
      ·have hmp:m * p<=vV p f a * p:=aG p hm
       have hmm:m<=m * p:=Nat.le_mul_of_pos_right m p2;have u1:IntKind.wrap .i64 ((m:Int) * (p:Int))=((m * p:Nat):Int):=by rw [<- dG,wrap64 (by omega) (by omega)]
       have u2:IntKind.wrap .i64 ((a:Int) - ((m * p:Nat):Int))=((a - m * p:Nat):Int):=by rw [wrap64 (by omega) (by omega)];omega
       have u3:=k9 i (by omega)
       have v1:List.take 1 (List.drop ((i+1) * 1) (yG (tbG ps A 0) (ps.length+1)))=[.sl ((yO f A).map qj)]:=by rw [YK (by omega),tbG,if_neg (by omega),hf]
       have v2:List.take 1 (List.drop (i * 1) (yG (tbG ps A 0) (ps.length+1)))=[.sl ((yO (je (ps.drop i)) A).map qj)]:=by rw [YK (by omega),tbG,if_neg (by omega)]
       have r1:=YC f A;have r2:=YC (je (ps.drop i)) A
       have k1:(yO f A).getD (a - m * p) 0=f (a - m * p):=YP (by omega)
       have k2:(yO (je (ps.drop i)) A).getD a 0=gN p f a:=by rw [YP (by omega),nm]
       have g1:=fl (a - m * p);have u4:IntKind.wrap .i64 (f (a - m * p)+(m:Int))=f (a - m * p)+(m:Int):=wrap64 (by omega) (by omega)
       have u5:=k9 m (by omega)
       have cap:(i+1) * 8<=140737488355328/\i+1<=maxLen:=by omega
       have la:a<=A:=q2;unfold peS4
       rw [hq,hp];cases hh:Z5 p f a m
       ·have hlt:m < vV p f a:=by
         rcases bB hm with h|h
         ·exact h
         ·have:=Jf p2 q1;rw [<- h,hh] at this;cases this
        have hn:¬ (0<=f (a - m * p)/\f (a - m * p)+(m:Int)=gN p f a):=fun h=>by
         have:Z5 p f a m=true:=by unfold Z5;simp only [bc,decide_eq_true_eq];exact ⟨⟨by omega,h.1⟩,h.2⟩
         rw [hh] at this;cases this
        by_cases c1:0<=f (a - m * p)
        ·have c2:¬ f (a - m * p)+(m:Int)=gN p f a:=fun h=>hn ⟨c1,h⟩
         repeat' first|(apply nx;with_reducible constructor)|apply jq (by decide)|refine zL ?_|refine ww ?_|refine wG ?_|refine wF ?_|((first|apply jz env|apply jk);intro Q hQ;simp only [vkt,Nat.reduceEqDiff,Nat.reduceLeDiff,reduceCtorEq,↓reduceIte,qF,zt,u1,u2,u3,u4,u5,v1,v2,k1,k2,r1,r2,c1,c2,ite_and];(repeat' first|with_reducible assumption|apply jw|intro hp);all_goals first|(apply hQ;clear hQ Q)|omega|assumption|rfl|(apply jx;kernel_rfl)|skip)
         refine ⟨⟨m+1,hlt,fun j hj=>?_⟩,by show vV p f a - (m+1) < vV p f a - m;omega, ?_⟩
         ·rcases bB (bS hj) with h1|h1
          ·exact hno j h1
          ·rw [h1];exact hh
         ·(refine Le.ok some [] ?_;constructor;all_goals (try simp only [vle,vkt,Nat.reduceEqDiff,reduceCtorEq,↓reduceIte,zt]))
          all_goals first|rfl|(simp [];done)|exact Zr|exact ⟨Zr,rfl⟩|exact vL|exact ⟨by decide,vL⟩|exact ⟨hq.symm ▸ rfl,hp.symm ▸ rfl⟩|(simp [upd,hq,hp];done)
        ·repeat' first|(apply nx;with_reducible constructor)|apply jq (by decide)|refine zL ?_|refine ww ?_|refine wG ?_|refine wF ?_|((first|apply jz env|apply jk);intro Q hQ;simp only [vkt,Nat.reduceEqDiff,Nat.reduceLeDiff,reduceCtorEq,↓reduceIte,qF,zt,u1,u2,u3,u5,v1,k1,r1,c1,ite_and];(repeat' first|with_reducible assumption|apply jw|intro hp);all_goals first|(apply hQ;clear hQ Q)|omega|assumption|rfl|(apply jx;kernel_rfl)|skip)
         refine ⟨⟨m+1,hlt,fun j hj=>?_⟩,by show vV p f a - (m+1) < vV p f a - m;omega, ?_⟩
         ·rcases bB (bS hj) with h1|h1
          ·exact hno j h1
          ·rw [h1];exact hh
         ·(refine Le.ok some [] ?_;constructor;all_goals (try simp only [vle,vkt,Nat.reduceEqDiff,reduceCtorEq,↓reduceIte,zt]))
          all_goals first|rfl|(simp [];done)|exact Zr|exact ⟨Zr,rfl⟩|exact vL|exact ⟨by decide,vL⟩|exact ⟨hq.symm ▸ rfl,hp.symm ▸ rfl⟩|(simp [upd,hq,hp];done)
       ·have hc:=Qcl p2 hh hno
        have hh':=hh;unfold Z5 at hh'
        simp only [bc,decide_eq_true_eq] at hh';have c1:=hh'.1.2
        have c2:=hh'.2;have ap:(pcL ps A i).map qj++[[.v (.int .i64 (m:Int))]]=(pcL ps A (i+1)).map qj:=by rw [hS,hc,ae];rfl
        rw [hc] at hN;have u6:IntKind.wrap .i64 (gN p f a)=gN p f a:=by rw [<- c2];exact u4
        repeat' first|(apply nx;with_reducible constructor)|apply jq (by decide)|refine zL ?_|refine ww ?_|refine wG ?_|refine wF ?_|((first|apply jz env|apply jk);intro Q hQ;simp only [vkt,Nat.reduceEqDiff,Nat.reduceAdd,Nat.reduceMul,Nat.reduceLeDiff,reduceCtorEq,↓reduceIte,qF,zt,u1,u2,u3,u6,v1,v2,k1,k2,r1,r2,c1,c2,ap,hLn,ite_and];(repeat' first|with_reducible assumption|apply jw|intro hp);all_goals first|(apply hQ;clear hQ Q)|omega|assumption|rfl|(apply jx;kernel_rfl)|skip)
        refine ⟨⟨i+1,lt1⟩,by show ps.length - (i+1) < ps.length - i;omega, ?_⟩
        (refine Le.ok (fun j=>if j=2 then some 4 else some j) [] ?_;constructor;all_goals (try simp only [vle,vkt,Nat.reduceEqDiff,reduceCtorEq,↓reduceIte,zt]))
        all_goals first|rfl|(simp [hN];done)|exact Zr|exact ⟨Zr,rfl⟩|exact vL|exact ⟨by decide,vL⟩|exact ⟨rfl,rfl⟩|(simp [upd,hN,u3];done)
     ·have:i=ps.length:=by omega
      subst this
      repeat' first|(apply nx;with_reducible constructor)|apply jq (by decide)|refine zL ?_|refine ww ?_|refine wG ?_|refine wF ?_|((first|apply jz env|apply jk);intro Q hQ;simp only [vkt,Nat.reduceEqDiff,ite_and];(repeat' first|with_reducible assumption|apply jw|intro hp);all_goals first|(apply hQ;clear hQ Q)|omega|assumption|rfl|(apply jx;kernel_rfl)|skip)
      (simp only [vrt,results56,vkt,Nat.reduceEqDiff,zt];refine Fin.val rfl ?_;(try simp only [AV.le,AV.leL]))
      all_goals first|exact ⟨⟨_,_,rfl⟩,trivial,trivial⟩|(simp [piL,qi];done)
 ·rw [show JP l c n=_ from if_pos h0]
  repeat' first|(apply nx;with_reducible constructor)|apply jq (by decide)|refine zL ?_|refine ww ?_|refine wG ?_|refine wF ?_|((first|apply jz env|apply jk);intro Q hQ;simp only [vkt,Nat.reduceEqDiff,Nat.reduceAdd,reduceCtorEq,↓reduceIte,qF,zt,h0,ite_and];(repeat' first|with_reducible assumption|apply jw|intro hp);all_goals first|(apply hQ;clear hQ Q)|omega|assumption|rfl|(apply jx;kernel_rfl)|skip)
  (simp only [vrt,results56,vkt,Nat.reduceEqDiff,zt];refine Fin.val rfl ?_;(try simp only [AV.le,AV.leL]))
  all_goals simp
def c28:List AV->Prop × AV
 |[.agg [.sl cs,.sl rs,.sl ss,.sl es],.v (.int .i64 c),.v (.int .i64 n)]=>(isL cs rs ss es/\Fit (zR cs rs ss es),JP (zR cs rs ss es) c n)
 |_=>(False,.junk)
def d28 {A:Frm->Prop}:qf A prog 56 (zq false c28):=qD fun vs hv h=>by
 clear hv;unfold c28 at h ⊢
 split at h
 ·refine ⟨by unfold JP;split <;> simp [AV.plain,AV.plainL,aI,qi],fun h=>absurd h (by decide), ?_⟩
  rw [<- jA h.1];exact QeS _ _ _ h.2
 ·exact h.elim
def p136 (S:St):List AV->Option Pk
 |[.sl ps,.clo 118 [.ptr t 0]]=>match S.h t with
  |some (.cells [.v (.int .i64 a),.v (.int .i64 b),.v (.int .i64 c),.v (.int .i64 d),.v (.int .i64 e),.v (.int .i64 f)])=>some { pre:=ps=(ps.map q8).map qC/\ps.length<=100/\∀ p ∈ ps.map q8,2<=p.length,hs:=[t],ar:=[.sl ps,.clo 118 [.ptr 0 0]],L0:=[.cells (ZQ ⟨a,b,c,d,e,f⟩)],v:=aI (Lx (WM ⟨a,b,c,d,e,f⟩) (ps.map q8)),L1:=[some (.cells (ZQ ⟨a,b,c,d,e,f⟩))],fl:=true }
  |_=>none
 |_=>none
def e136 {A:Frm->Prop}:qf A prog 162 (fnE p136):=jb fun S bs q h hp=>by
 unfold p136 at h;split at h
 ·split at h
  ·rename_i ps t _ a b c d e f _
   cases h;have:=Qls ⟨a,b,c,d,e,f⟩ (ps.map q8) (by simpa using hp.2.1) hp.2.2
   rw [zm,<- hp.1] at this;exact this
  ·cases h
 ·cases h
def xI:=jw @ty3 @ti3.eq_1
def Qa8:=jw @aI.eq_1 (jw @aB.eq_1 (jw @qi.eq_1 (jw @zm.eq_1 (jw @ZQ.eq_1 (jw @qj.eq_1 (jw @qC.eq_1 (jw @kg (jw @p136.eq_1 (@p136.eq_2)))))))))
def QaB (x:Ent) (ps:List (List Int)) (hl:ps.length<=100) (hp:∀ p ∈ ps,2<=p.length):Fn noB prog 117 [zm ps,.clo 118 [.ptr 0 0]] (qg [(0,.cells (ZQ x))]) (aB (ps.any (WM x))) (qg [(0,.cells (ZQ x))]) 0:=by
 have env:=qx (A:=fun _=>True) (kC e136 kN)
 refine Fn.of (A:=fun _=>True) (n0:=1) (D:=noD) (Fn0 func117 rfl (fun vs w=>by kernel_rfl) (by kernel_rfl)) (by simp) (by simp [AV.ids,AV.idsL,zm]) ?_ (fun _ _ _ _=>trivial) zb ?_
 ·intro i o hi
  have h:=qN hi
  simp at h;obtain ⟨rfl,rfl⟩:=h;simp [ZQ,AObj.ids,AV.ids,AV.idsL]
 have ex:(⟨x.day,x.kind,x.coin,x.to,x.amount,x.got⟩:Ent)=x:=rfl
 repeat' first|(apply nx;with_reducible constructor)|apply jq (by decide)|((first|apply jz env|apply jk);intro Q hQ;simp only [vkt,seval,xI,Qa8,ex,ite_and];(repeat' first|with_reducible assumption|apply jw|intro hp);all_goals first|(apply hQ;clear hQ Q)|omega|assumption|rfl|(apply jx;kernel_rfl)|skip)
 (simp only [vrt,results117,QgW,vkt,seval,Qa8];refine Fin.ok some [] ?_ ?_ ?_ ?_ ?_ rfl;all_goals (try simp only [vle,vkt,seval]))
 all_goals simp
def p92 (S:St):List AV->Option Pk
 |[.sl ps,.clo 118 [.ptr t 0]]=>match S.h t with
  |some (.cells [.v (.int .i64 a),.v (.int .i64 b),.v (.int .i64 c),.v (.int .i64 d),.v (.int .i64 e),.v (.int .i64 f)])=>some { pre:=ps=(ps.map q8).map qC/\ps.length<=100/\∀ p ∈ ps.map q8,2<=p.length,hs:=[t],ar:=[.sl ps,.clo 118 [.ptr 0 0]],L0:=[.cells (ZQ ⟨a,b,c,d,e,f⟩)],v:=aB ((ps.map q8).any (WM ⟨a,b,c,d,e,f⟩)),L1:=[some (.cells (ZQ ⟨a,b,c,d,e,f⟩))],fl:=true }
  |_=>none
 |_=>none
def e92 {A:Frm->Prop}:qf A prog 117 (fnE p92):=jb fun S bs q h hp=>by
 unfold p92 at h;split at h
 ·split at h
  ·rename_i ps t _ a b c d e f _
   cases h;have:=QaB ⟨a,b,c,d,e,f⟩ (ps.map q8) (by simpa using hp.2.1) hp.2.2
   rw [zm,<- hp.1] at this;exact this
  ·cases h
 ·cases h
def Z0 (l:Led) (bds:List Int) (own:List (List Int)):Bool:=bds.all fun i=>own.any (WM (l.entries.getD i.toNat default))
structure BadOk (l:Led) (bds:List Int):Prop where
 len:bds.length<=100
 b:∀ i ∈ bds,0<=i/\i.toNat < l.entries.length
def htS (l:Led) (bds:List Int) (own:List (List Int)) (k:Nat):St:={ t:=asg [(0,zm own),(1,.ptr 0 0),(2,.ptr 1 0),(4,aB false),(8,qi bds),(9,aI bds.length),(10,aI k)],h:=qg [(0,.cells [.sl (bds.map qj)]),(1,.cells (qU l))],n:=2,m:=2 }
def yt:=jw @ty3 (jw @jh (jw @Yt (jw @vU (jw @vR (jw @ti3.eq_1 (jw @jc.eq_1 (jw @WO.eq_1 (jw @vD.eq_1 @yS.eq_1))))))))
def Qd:=jw @aI.eq_1 (jw @aB.eq_1 (jw @qi.eq_1 (jw @zm.eq_1 (jw @ZQ.eq_1 (jw @qU.eq_1 (jw @qj.eq_1 (jw @Q5 (jw @qC.eq_1 (jw @kg (jw @p92.eq_1 (jw @p92.eq_2 (jw @htS.eq_1 (jw @zC.eq_1 (@R8))))))))))))))
def QkZ (l:Led) (bds:List Int) (own:List (List Int)) (hb:BadOk l bds) (hl:own.length<=100) (hp:∀ p ∈ own,2<=p.length):Fn noB prog 116 [zm own,.ptr 0 0,.ptr 1 0] (qg [(0,.cells [.sl (bds.map qj)]),(1,.cells (qU l))]) (aB (Z0 l bds own)) (qg [(0,.cells [.sl (bds.map qj)]),(1,.cells (qU l))]) 0:=by
 have env:=qx (A:=fun _=>True) (kC e92 kN)
 refine Fn.of (A:=fun _=>True) (n0:=2) (D:=noD) (Fn0 func116 rfl (fun vs w=>by kernel_rfl) (by kernel_rfl)) (by simp) (by simp [AV.ids,zm]) ?_ (fun _ _ _ _=>trivial) zb ?_
 ·intro i o hi
  have h:=qN hi
  simp at h
  rcases h with ⟨rfl,rfl⟩|⟨rfl,rfl⟩ <;> simp [qU,AObj.ids,AV.ids,AV.idsL]
 have hm:bds.length<=maxLen:=by
   have:=hb.len;have:(100:Nat)<=maxLen:=by decide
   omega
 repeat' first|(apply nx;with_reducible constructor)|apply jq (by decide)|((first|apply jz env|apply jk);intro Q hQ;simp only [vkt,seval,yt,Qd,ite_and];(repeat' first|with_reducible assumption|apply jw|intro hp);all_goals first|(apply hQ;clear hQ Q)|omega|assumption|rfl|(apply jx;kernel_rfl)|skip)
 refine qh (fun k:{ k:Nat // k<=bds.length/\∀ j,j < k->own.any (WM (l.entries.getD (bds.getD j 0).toNat default))=true }=>htS l bds own k.1) (fun k=>bds.length - k.1) ⟨0,af _,fun j h=>absurd h (cQ _)⟩ ?_ fun ⟨k,hk,hall⟩=>?_
 ·(refine Le.ok some [] ?_;constructor;all_goals (try simp only [vle,vkt,seval,Qd]))
  all_goals simp
 ·repeat' first|(apply nx;with_reducible constructor)|apply jq (by decide)
  (apply jz env;intro Q hQ;simp only [vkt,seval,yt,Qd,ite_and];(repeat' first|with_reducible assumption|apply jw|intro hp);all_goals first|(apply hQ;clear hQ Q)|omega|assumption|rfl|(apply jx;kernel_rfl)|skip)
  repeat' first|(apply nx;with_reducible constructor)|apply jq (by decide)
  (refine zk (by simp only [vkt,seval];rfl) (fun h=>?_) (fun h=>?_) <;> (try simp only [vki] at h))
  ·have hlt:k < bds.length:=by omega
   obtain ⟨h2,h3⟩:=hb.b _ (jr (d:=0) hlt);have e9:=qV hlt hm
   generalize hx:l.entries.getD (bds.getD k 0).toNat default=x at *;have ex:(⟨x.day,x.kind,x.coin,x.to,x.amount,x.got⟩:Ent)=x:=rfl
   cases c1:own.any (WM x)
   ·have hi:Z0 l bds own=false:=by
     unfold Z0;rw [List.all_eq_false]
     exact ⟨_,jr (d:=0) hlt,by rw [hx,c1];simp⟩
    repeat' first|(apply nx;with_reducible constructor)|apply jq (by decide)|((first|apply jz env|apply jk);intro Q hQ;simp only [vkt,seval,yt,Qd,hx,ex,c1,ite_and];(repeat' first|with_reducible assumption|apply jw|intro hp);all_goals first|(apply hQ;clear hQ Q)|omega|assumption|rfl|(apply jx;kernel_rfl)|skip)
    (simp only [vrt,results116,vkt,seval,Qd];refine Fin.ok some [] ?_ ?_ ?_ ?_ ?_ rfl;all_goals (try simp only [vle,vkt,seval]))
    all_goals simp [hi]
   ·repeat' first|(apply nx;with_reducible constructor)|apply jq (by decide)|((first|apply jz env|apply jk);intro Q hQ;simp only [vkt,seval,yt,Qd,hx,ex,c1,ite_and];(repeat' first|with_reducible assumption|apply jw|intro hp);all_goals first|(apply hQ;clear hQ Q)|omega|assumption|rfl|(apply jx;kernel_rfl)|skip)
    refine ⟨⟨k+1,hlt,fun j hj=>?_⟩,by show bds.length - (k+1) < bds.length - k;omega, ?_⟩
    ·rcases bB (bS hj) with h1|h1
     ·exact hall j h1
     ·rw [h1,hx];exact c1
    ·(refine Le.ok some [] ?_;constructor;all_goals (try simp only [vle,vkt,seval,Qd]))
     all_goals simp [e9]
  ·have hi:Z0 l bds own=true:=by
    unfold Z0;rw [bu]
    intro y hy;obtain ⟨j,hj,rfl⟩:=bC hy
    have:=hall j (by omega)
    simpa [ah,hj] using this
   repeat' first|(apply nx;with_reducible constructor)|apply jq (by decide)|((first|apply jz env|apply jk);intro Q hQ;simp only [vkt,seval,ite_and];(repeat' first|with_reducible assumption|apply jw|intro hp);all_goals first|(apply hQ;clear hQ Q)|omega|assumption|rfl|(apply jx;kernel_rfl)|skip)
   (simp only [vrt,results116,vkt,seval,Qd];refine Fin.ok some [] ?_ ?_ ?_ ?_ ?_ rfl;all_goals (try simp only [vle,vkt,seval]))
   all_goals simp [hi]
def yH (hit:List (List Int)->Bool) (ps:List (List Int)):Nat->List (List Int)->Nat->List (List Int) × Bool
 |0,b,_=>(b,hit b)
 |m+1,b,f=>match (List.range (ps.length - f)).find? (fun i=>(yH hit ps m (b++[ps.getD (f+i) []]) (f+i+1)).2) with
  |some i=>((yH hit ps m (b++[ps.getD (f+i) []]) (f+i+1)).1,true)
  |none=>([],false)
def Ro {hit:List (List Int)->Bool} {ps:List (List Int)} {m:Nat} {b:List (List Int)} {f i:Nat} (h0:f<=i) (h1:i < ps.length) (h2:(yH hit ps m (b++[ps.getD i []]) (i+1)).2=true) (h3:∀ j,f<=j->j < i->(yH hit ps m (b++[ps.getD j []]) (j+1)).2=false) :
  yH hit ps (m+1) b f=((yH hit ps m (b++[ps.getD i []]) (i+1)).1,true):=by
 have:(List.range (ps.length - f)).find? (fun i=>(yH hit ps m (b++[ps.getD (f+i) []]) (f+i+1)).2)=some (i - f):=by
  rw [dK];refine ⟨?_,aE.2 (by omega),fun j hj=>?_⟩
  ·rw [show f+(i - f)=i by omega];exact h2
  ·rw [h3 (f+j) (by omega) (by omega)];rfl
 rw [yH,this];simp only
 rw [show f+(i - f)=i by omega]
def Qb0 {hit:List (List Int)->Bool} {ps:List (List Int)} {m:Nat} {b:List (List Int)} {f:Nat} (h3:∀ j,f<=j->j < ps.length->(yH hit ps m (b++[ps.getD j []]) (j+1)).2=false):yH hit ps (m+1) b f=([],false):=by
 have:(List.range (ps.length - f)).find? (fun i=>(yH hit ps m (b++[ps.getD (f+i) []]) (f+i+1)).2)=none:=by
  rw [dM];intro j hj
  have:=aE.1 hj;rw [h3 (f+j) (by omega) (by omega)];simp
 rw [yH,this]
def Ry {hit:List (List Int)->Bool} {ps:List (List Int)}:∀ (m:Nat) (b:List (List Int)) (f:Nat),f+m=ps.length->hit (b++ps.drop f)=true->(yH hit ps m b f).2=true
 |0,b,f,h,hh=>by
  rw [yH];rw [dT (by omega),bz] at hh
  exact hh
 |m+1,b,f,h,hh=>by
  have h1:(yH hit ps m (b++[ps.getD f []]) (f+1)).2=true:=Ry m _ _ (by omega) (by
   rw [cA (show f < ps.length by omega)] at hh
   rw [bW]
   simpa [ah,show f < ps.length by omega] using hh)
  rw [Ro (ag f) (by omega) h1 (fun j h1 h2=>by omega)]
def grH (l:Led) (bds:List Int) (ps:List (List Int)):List (Nat × AObj):=[(0,.cells [.clo 116 [.ptr 3 0,.ptr 4 0]]),(1,.cells [.row 5]),(2,.cells [.clo 119 [.ptr 0 0,.ptr 1 0,.ptr 2 0]]),(3,.cells [.sl (bds.map qj)]),(4,.cells (qU l)),(5,.row 26 1 (ps.map qC))]
def grS (l:Led) (bds:List Int) (ps b:List (List Int)) (f m i:Nat):St:={ t:=asg [(0,zm b),(1,aI f),(2,aI m),(3,.ptr 0 0),(4,.ptr 1 0),(5,.ptr 2 0),(9,.nil),(10,aB false),(11,aI i)],h:=qg (grH l bds ps),n:=6,m:=6 }
structure GrOk (l:Led) (bds:List Int) (ps:List (List Int)):Prop where
 b:BadOk l bds
 len:ps.length<=20
 two:∀ p ∈ ps,2<=p.length
structure BgOk (b:List (List Int)) (f m:Nat):Prop where
 len:b.length+m<=50
 two:∀ p ∈ b,2<=p.length
 f:f<=100
def p91 (S:St):List AV->Option Pk
 |[.sl own,.ptr s 0,.ptr t 0]=>match S.h s,S.h t with
  |some (.cells [.sl bd]),some (.cells [.sl cs,.sl rs,.sl ss,.sl es])=>some { pre:=own=(own.map q8).map qC/\bd=(bd.map qL).map qj/\isL cs rs ss es/\BadOk (zR cs rs ss es) (bd.map qL)/\own.length<=100/\(∀ p ∈ own.map q8,2<=p.length),hs:=[s,t],ar:=[.sl own,.ptr 0 0,.ptr 1 0],L0:=[.cells [.sl bd],.cells [.sl cs,.sl rs,.sl ss,.sl es]],v:=aB (Z0 (zR cs rs ss es) (bd.map qL) (own.map q8)),L1:=[some (.cells [.sl bd]),some (.cells [.sl cs,.sl rs,.sl ss,.sl es])],fl:=false }
  |_,_=>none
 |_=>none
def XZ {cs rs ss es:List (List DV)} (h:isL cs rs ss es):qU (zR cs rs ss es)=[.sl cs,.sl rs,.sl ss,.sl es]:=by
 simp only [qU,zR,<- h.1,<- h.2.1,<- h.2.2.1,<- h.2.2.2]
def e91 {A:Frm->Prop}:qf A prog 116 (fnE p91):=jb fun S bs q h hp=>by
 unfold p91 at h;split at h
 ·split at h
  ·rename_i own s t _ _ bd cs rs ss es _ _
   cases h;have:=QkZ (zR cs rs ss es) (bd.map qL) (own.map q8) hp.2.2.2.1 (by simpa using hp.2.2.2.2.1) hp.2.2.2.2.2
   simp only [zm,<- hp.1,<- hp.2.1,XZ hp.2.2.1] at this;exact this
  ·cases h
 ·cases h
def p94 (M:Nat) (S:St):List AV->Option Pk
 |[.row r,.v (.int .i64 f),.v (.int .i64 m),.ptr a 0,.ptr b 0,.ptr c 0]=>match S.h r,S.h a,S.h b,S.h c with
  |some (.row 26 1 bg),some (.cells [.clo 116 [.ptr x 0,.ptr y 0]]),some (.cells [.row z]),some (.cells [.clo 119 [.ptr a' 0,.ptr b' 0,.ptr c' 0]])=>match S.h x,S.h y,S.h z with
   |some (.cells [.sl bd]),some (.cells [.sl cs,.sl rs,.sl ss,.sl es]),some (.row 26 1 ps) =>
    some { pre:=a'=a/\b'=b/\c'=c/\bg=(bg.map q8).map qC/\bd=(bd.map qL).map qj/\isL cs rs ss es/\ps=(ps.map q8).map qC/\GrOk (zR cs rs ss es) (bd.map qL) (ps.map q8)/\BgOk (bg.map q8) f.toNat m.toNat/\0<=f/\0<=m/\m.toNat < M,hs:=[a,b,c,x,y,z],bo:=[r],ar:=[.sl bg,.v (.int .i64 f),.v (.int .i64 m),.ptr 0 0,.ptr 1 0,.ptr 2 0],L0:=[.cells [.clo 116 [.ptr 3 0,.ptr 4 0]],.cells [.row 5],.cells [.clo 119 [.ptr 0 0,.ptr 1 0,.ptr 2 0]],.cells [.sl bd],.cells [.sl cs,.sl rs,.sl ss,.sl es],.row 26 1 ps],v:=.tup [zm (yH (Z0 (zR cs rs ss es) (bd.map qL)) (ps.map q8) m.toNat (bg.map q8) f.toNat).1,aB (yH (Z0 (zR cs rs ss es) (bd.map qL)) (ps.map q8) m.toNat (bg.map q8) f.toNat).2],L1:=[some (.cells [.clo 116 [.ptr 3 0,.ptr 4 0]]),some (.cells [.row 5]),some (.cells [.clo 119 [.ptr 0 0,.ptr 1 0,.ptr 2 0]]),some (.cells [.sl bd]),some (.cells [.sl cs,.sl rs,.sl ss,.sl es]),some (.row 26 1 ps)] }
   |_,_,_=>none
  |_,_,_,_=>none
 |_=>none
def GrFn (m:Nat):Prop:=∀ (l:Led) (bds:List Int) (ps b:List (List Int)) (f:Nat),GrOk l bds ps->BgOk b f m->Fn noB prog 119 [zm b,aI f,aI m,.ptr 0 0,.ptr 1 0,.ptr 2 0] (qg (grH l bds ps)) (.tup [zm (yH (Z0 l bds) ps m b f).1,aB (yH (Z0 l bds) ps m b f).2]) (qg (grH l bds ps)) 0
def e94 {A:Frm->Prop} {M:Nat} (ih:∀ m,m < M->GrFn m):qf A prog 119 (fnE (p94 M)):=jb fun S bs q h hp=>by
 unfold p94 at h;split at h
 ·split at h
  ·split at h
   ·rename_i r f m a b c _ _ _ _ bg x y z a' b' c' _ _ _ _ _ _ _ bd cs rs ss es ps _ _ _
    cases h;obtain ⟨_,_,_,h1,h2,h3,h4,h5,h6,h7,h8,h9⟩:=hp
    have:=ih m.toNat h9 (zR cs rs ss es) (bd.map qL) (ps.map q8) (bg.map q8) f.toNat h5 h6;simp only [grH,zm,aI,<- h1,<- h2,<- h4,XZ h3,cI h7,cI h8] at this
    exact this
   ·cases h
  ·cases h
 ·cases h
def gIn0 {l:List (List Int)} {n:Nat} (h:n < l.length):(l.map qC).getD n []=qC (l.getD n []):=by simp [ah,h]
def jy:=jw @ty3 (jw @jh (jw @QD (jw @Qkw (jw @Qkm (jw @ti3.eq_1 (jw @jc.eq_1 (jw @kI.eq_1 (jw @Qbg.eq_1 @Qac.eq_1))))))))
def xh:=jw @aI.eq_1 (jw @aB.eq_1 (jw @q9.eq_1 (jw @qU.eq_1 (jw @qC.eq_1 (jw @zm.eq_1 (jw @grH.eq_1 (jw @grS.eq_1 (jw @p91.eq_1 (jw @p91.eq_2 (jw @p95.eq_1 (jw @p95.eq_2 (jw @p95.eq_3 (jw @p94.eq_1 (jw @p94.eq_2 (jw @xf (jw @jT (jw @kg (jw @Qo (@yI)))))))))))))))))))
def QhE (m:Nat):GrFn m:=by
 induction m using Nat.strongRecOn with
 |_ m ih =>
  intro l bds ps b f hg hb;have env:=qx (A:=fun _=>True) (kC e91 (kC e95 (kC (e94 ih) kN)))
  refine Fn.of (A:=fun _=>True) (n0:=6) (D:=noD) (Fn0 func119 rfl (fun vs w=>by kernel_rfl) (by kernel_rfl)) (by simp) (by simp [AV.ids,zm,aI]) ?_ (fun _ _ _ _=>trivial) zb ?_
  ·intro i o hi
   have h:=qN hi
   simp [grH] at h
   rcases h with ⟨rfl,rfl⟩|⟨rfl,rfl⟩|⟨rfl,rfl⟩|⟨rfl,rfl⟩|⟨rfl,rfl⟩|⟨rfl,rfl⟩ <;> simp [qU,AObj.ids,AV.ids,AV.idsL]
  have hB:=hg.b;have hlen:b.length<=100:=by have:=hb.len;omega
  have htwo:=hb.two;cases m with
  |zero =>
   have c0:(((0:Nat):Int)=0)=True:=by simp
   repeat' first|(apply nx;with_reducible constructor)|apply jq (by decide)|((first|apply jz env|apply jk);intro Q hQ;simp only [vkt,seval,jy,xh,ite_and];(repeat' first|with_reducible assumption|apply jw|intro hp);all_goals first|(apply hQ;clear hQ Q)|omega|assumption|rfl|(apply jx;kernel_rfl)|skip)
   (simp only [vrt,results119,vkt,seval,xh];refine Fin.ok some [] ?_ ?_ ?_ ?_ ?_ rfl;all_goals (try simp only [vle,vkt,seval]))
   all_goals simp [yH]
  |succ m =>
   have c0:(((m+1:Nat):Int)=0)=False:=by simp;omega
   repeat' first|(apply nx;with_reducible constructor)|apply jq (by decide)|((first|apply jz env|apply jk);intro Q hQ;simp only [vkt,seval,jy,xh,c0,ite_and];(repeat' first|with_reducible assumption|apply jw|intro hp);all_goals first|(apply hQ;clear hQ Q)|omega|assumption|rfl|(apply jx;kernel_rfl)|skip)
   refine qh (fun i:{ i:Nat // f<=i/\i<=100/\∀ j,f<=j->j < i->(yH (Z0 l bds) ps m (b++[ps.getD j []]) (j+1)).2=false }=>grS l bds ps b f (m+1) i.1) (fun i=>ps.length - i.1) ⟨f,ag _,hb.f,fun j h1 h2=>by omega⟩ ?_ fun ⟨i,hi,hi1,hno⟩=>?_
   ·(refine Le.ok some [] ?_;constructor;all_goals (try simp only [vle,vkt,seval,xh]))
    all_goals simp
   ·repeat' first|(apply nx;with_reducible constructor)|apply jq (by decide)
    (apply jz env;intro Q hQ;simp only [vkt,seval,jy,xh,ite_and];(repeat' first|with_reducible assumption|apply jw|intro hp);all_goals first|(apply hQ;clear hQ Q)|omega|assumption|rfl|(apply jx;kernel_rfl)|skip)
    repeat' first|(apply nx;with_reducible constructor)|apply jq (by decide)
    (refine zk (by simp only [vkt,seval];rfl) (fun h=>?_) (fun h=>?_) <;> (try simp only [vki] at h))
    ·have hlt:i < ps.length:=by omega
     have hpl:=hg.len;have e9:=qV hlt (show ps.length<=maxLen by have:=XO;omega)
     have e8:IntKind.wrap .i64 (((m+1:Nat):Int) - 1)=(m:Int):=by have:=hb.len;rw [wrap64 (by omega) (by omega)];omega
     have g1:=gIn0 hlt;have hbg:b.map qC++[[.sl ((ps.getD i []).map qj)]]=(b++[ps.getD i []]).map qC:=by rw [ae];rfl
     have hB2:BgOk (b++[ps.getD i []]) (i+1) m:=⟨by have:=hb.len;simp;omega,fun p hp=>by
      rcases aA.1 hp with h|h
      ·exact hb.two p h
      ·rw [aZ.1 h];exact hg.two _ (jr (d:=[]) hlt),by omega⟩
     have cap:(b.length+1) * 16<=140737488355328/\b.length+1<=maxLen:=by
      have:(100000:Nat)<=maxLen:=by decide
      omega
     have t1:((i+1:Nat):Int).toNat=i+1:=aW _;have t2:(m:Int).toNat=m:=aW _
     cases cc:(yH (Z0 l bds) ps m (b++[ps.getD i []]) (i+1)).2
     ·repeat' first|(apply nx;with_reducible constructor)|apply jq (by decide)|((first|apply jz env|apply jk);intro Q hQ;simp only [vkt,seval,jy,xh,e9,e8,g1,hbg,t1,t2,cc,ite_and];(repeat' first|with_reducible assumption|apply jw|intro hp);all_goals first|(apply hQ;clear hQ Q)|omega|assumption|rfl|(apply jx;kernel_rfl)|skip)
      ·exact ⟨_,_,rfl⟩
      ·refine ⟨⟨i+1,by omega,by omega,fun j h1 h2=>?_⟩,by show ps.length - (i+1) < ps.length - i;omega, ?_⟩
       ·rcases bB (bS h2) with h3|h3
        ·exact hno j h1 h3
        ·rw [h3];exact cc
       ·(refine Le.ok some [] ?_;constructor;all_goals (try simp only [vle,vkt,seval,xh]))
        all_goals first|rfl|(simp [e9];done)
     ·repeat' first|(apply nx;with_reducible constructor)|apply jq (by decide)|((first|apply jz env|apply jk);intro Q hQ;simp only [vkt,seval,jy,xh,e9,e8,g1,hbg,t1,t2,cc,ite_and];(repeat' first|with_reducible assumption|apply jw|intro hp);all_goals first|(apply hQ;clear hQ Q)|omega|assumption|rfl|(apply jx;kernel_rfl)|skip)
      ·exact ⟨_,_,rfl⟩
      ·have hh:=Ro hi hlt cc hno
       (simp only [vrt,results119,vkt,seval,xh];refine Fin.ok some [] ?_ ?_ ?_ ?_ ?_ rfl;all_goals (try simp only [vle,vkt,seval]))
       all_goals first|rfl|(simp [hh];done)
    ·have hn:=Qb0 (hit:=Z0 l bds) (ps:=ps) (m:=m) (b:=b) (f:=f) fun j h1 h2=>hno j h1 (by omega)
     repeat' first|(apply nx;with_reducible constructor)|apply jq (by decide)|((first|apply jz env|apply jk);intro Q hQ;simp only [vkt,seval,ite_and];(repeat' first|with_reducible assumption|apply jw|intro hp);all_goals first|(apply hQ;clear hQ Q)|omega|assumption|rfl|(apply jx;kernel_rfl)|skip)
     (simp only [vrt,results119,vkt,seval,xh];refine Fin.ok some [] ?_ ?_ ?_ ?_ ?_ rfl;all_goals (try simp only [vle,vkt,seval]))
     all_goals simp [hn]
def Vk (n:Nat) (d:Nat):List (List Int):=(List.range (n - 1)).map fun c:Nat=>[(d:Int),(c:Int)+1]
def xy (n:Nat) (k:Nat):List (List Int):=(List.range k).flatMap (Vk n)
def Vz (n k:Nat):xy n (k+1)=xy n k++Vk n k:=by
 unfold xy;rw [bM,cX];simp
def Qb6 (n d:Nat):(Vk n d).length=n - 1:=by simp [Vk]
def V6 (n k:Nat):(xy n k).length=k * (n - 1):=by
 induction k with
 |zero=>simp [xy]
 |succ k ih=>rw [Vz,au,ih,Qb6,cB]
def jf (l:Led):List (List Int):=xy l.coins.length l.rates.length
def J6 (l:Led) (m:Nat):List (List Int) × Bool:=yH (Z0 l (UK l)) (jf l) m [] 0
def Rf {l:Led} {d c:Int} (hd:0<=d) (hd':d<=(l.rates.length:Int) - 1) (hc:1<=c) (hc':c<=(l.coins.length:Int) - 1):[d,c] ∈ jf l:=by
 unfold jf xy Vk;refine List.mem_flatMap.2 ⟨d.toNat,aE.2 (by omega),aj.2 ⟨(c - 1).toNat,aE.2 (by omega), ?_⟩⟩
 rw [show ((d.toNat:Nat):Int)=d by omega,show (((c - 1).toNat:Nat):Int)+1=c by omega]
def Qjy {l:Led} (hV:Val l):Z0 l (UK l) (jf l)=true:=by
 unfold Z0;rw [bu]
 intro y hy;obtain ⟨i,hi,rfl⟩:=aj.1 hy
 obtain ⟨h1,h2⟩:=List.mem_filter.1 hi;have h1:=aE.1 h1
 have hx:=Zx hV h1;unfold V8 at h2
 rw [bc,decide_eq_true_eq] at h2;rw [aW]
 generalize l.entries.getD i default=x at *;have k3:=h2.1
 have t1:=hx.to k3;have t2:=hx.ne k3
 rw [cR]
 by_cases hc:1<=x.coin
 ·exact ⟨_,Rf hx.day.1 hx.day.2 hc hx.coin.2,by simp [WM]⟩
 ·exact ⟨_,Rf hx.day.1 hx.day.2 (show 1<=x.to by have:=hx.coin.1;omega) t1.2,by simp [WM]⟩
def QeP {l:Led} (hV:Val l):(J6 l (jf l).length).2=true :=
 Ry _ _ _ (by omega) (by rw [bq,List.drop_zero];exact Qjy hV)
def QcD (l:Led):Nat:=((List.range ((jf l).length+1)).find? fun m=>(J6 l m).2).getD 0
def Qcd (l:Led):List (List Int):=(J6 l (QcD l)).1
def QbV {l:Led} {m:Nat} (hm:m<=(jf l).length) (h:(J6 l m).2=true) (hb:∀ j,j < m->(J6 l j).2=false):QcD l=m:=by
 unfold QcD;have:(List.range ((jf l).length+1)).find? (fun m=>(J6 l m).2)=some m:=by
  rw [dK];exact ⟨h,aE.2 (by omega),fun j hj=>by simpa using hb j hj⟩
 rw [this];rfl
def Vg (l:Led):AV:=if zf l ≠ 0 then .tup [.sl [],aI (zf l)] else .tup [zm (Qcd l),aI 0]
def Zv (d:Nat) (c:Nat):List (List Int):=(List.range c).map fun c:Nat=>[(d:Int),(c:Int)+1]
def L9 (d c:Nat):Zv d (c+1)=Zv d c++[[(d:Int),(c:Int)+1]]:=by
 unfold Zv;rw [bM,ae];rfl
def Qbx (d c:Nat):(Zv d c).length=c:=by simp [Zv]
def p94n (S:St):List AV->Option Pk
 |[.nil,.v (.int .i64 f),.v (.int .i64 m),.ptr a 0,.ptr b 0,.ptr c 0]=>match S.h a,S.h b,S.h c with
  |some (.cells [.clo 116 [.ptr x 0,.ptr y 0]]),some (.cells [.row z]),some (.cells [.clo 119 [.ptr a' 0,.ptr b' 0,.ptr c' 0]])=>match S.h x,S.h y,S.h z with
   |some (.cells [.sl bd]),some (.cells [.sl cs,.sl rs,.sl ss,.sl es]),some (.row 26 1 ps) =>
    some { pre:=a'=a/\b'=b/\c'=c/\bd=(bd.map qL).map qj/\isL cs rs ss es/\ps=(ps.map q8).map qC/\GrOk (zR cs rs ss es) (bd.map qL) (ps.map q8)/\BgOk [] f.toNat m.toNat/\0<=f/\0<=m,hs:=[a,b,c,x,y,z],ar:=[.sl [],.v (.int .i64 f),.v (.int .i64 m),.ptr 0 0,.ptr 1 0,.ptr 2 0],L0:=[.cells [.clo 116 [.ptr 3 0,.ptr 4 0]],.cells [.row 5],.cells [.clo 119 [.ptr 0 0,.ptr 1 0,.ptr 2 0]],.cells [.sl bd],.cells [.sl cs,.sl rs,.sl ss,.sl es],.row 26 1 ps],v:=.tup [zm (yH (Z0 (zR cs rs ss es) (bd.map qL)) (ps.map q8) m.toNat [] f.toNat).1,aB (yH (Z0 (zR cs rs ss es) (bd.map qL)) (ps.map q8) m.toNat [] f.toNat).2],L1:=[some (.cells [.clo 116 [.ptr 3 0,.ptr 4 0]]),some (.cells [.row 5]),some (.cells [.clo 119 [.ptr 0 0,.ptr 1 0,.ptr 2 0]]),some (.cells [.sl bd]),some (.cells [.sl cs,.sl rs,.sl ss,.sl es]),some (.row 26 1 ps)] }
   |_,_,_=>none
  |_,_,_=>none
 |_=>none
def e94n {A:Frm->Prop}:qf A prog 119 (fnE p94n):=jb fun S bs q h hp=>by
 unfold p94n at h;split at h
 ·split at h
  ·split at h
   ·rename_i f m a b c _ _ _ x y z a' b' c' _ _ _ _ _ _ bd cs rs ss es ps _ _ _
    cases h;obtain ⟨_,_,_,h2,h3,h4,h5,h6,h7,h8⟩:=hp
    have:=QhE m.toNat (zR cs rs ss es) (bd.map qL) (ps.map q8) [] f.toNat h5 h6;simp only [grH,zm,aI,<- h2,<- h4,XZ h3,cI h7,cI h8,ba] at this
    exact this
   ·cases h
  ·cases h
 ·cases h
def wrH (l:Led) (ps:List (List Int)):List (Nat × AObj):=[(0,.cells (qU l)),(1,.cells [.sl ((UK l).map qj)]),(2,.cells [.row 3]),(3,.row 26 1 (ps.map qC))]
def wrS1 (l:Led) (k:Nat):St:={ t:=asg [(1,.ptr 0 0),(2,.nil),(3,aI 0),(4,.ptr 1 0),(6,.ptr 2 0),(24,aI l.rates.length),(25,aI k)],h:=qg (wrH l (xy l.coins.length k)),n:=4 }
def wrS2 (l:Led) (k c:Nat):St:={ t:=asg [(1,.ptr 0 0),(2,.nil),(3,aI 0),(4,.ptr 1 0),(6,.ptr 2 0),(7,aI k),(8,aI ((c:Int)+1)),(24,aI l.rates.length),(25,aI k)],h:=qg (wrH l (xy l.coins.length k++Zv k c)),n:=4 }
def wrS3 (l:Led) (m:Nat):St:={ t:=asg [(1,.ptr 0 0),(2,.nil),(3,aI 0),(4,.ptr 1 0),(6,.ptr 2 0),(9,.ptr 4 0),(10,.ptr 5 0),(11,aI m)],h:=qg ([(4,.cells [.clo 116 [.ptr 1 0,.ptr 0 0]]),(5,.cells [.clo 119 [.ptr 4 0,.ptr 2 0,.ptr 5 0]])]++wrH l (jf l)),n:=6 }
def badOk {l:Led} (h:Val l):BadOk l (UK l):=⟨by have:=QaK l l.entries.length;have:=h.e;unfold UK;omega,fun i hi=>by
 obtain ⟨j,hj,rfl⟩:=aj.1 hi;have:=aE.1 (List.mem_filter.1 hj).1
 omega⟩
def Qe7 (l:Led):∀ p ∈ jf l,2<=p.length:=fun p hp=>by
 unfold jf xy Vk at hp;obtain ⟨d,_,hp⟩:=List.mem_flatMap.1 hp
 obtain ⟨c,_,rfl⟩:=aj.1 hp
 simp
def KT {l:Led} (h:Val l):(jf l).length<=12:=by
 unfold jf;rw [V6]
 have h1:=h.c;have h2:=h.r
 calc l.rates.length * (l.coins.length - 1)<=4 * 3:=cT h2.2 (by omega)
  _=12:=rfl
def zG:=jw @ty3 (jw @jh (jw @WP (jw @QD (jw @WK (jw @vU (jw @vQ (jw @Qkw (jw @Qkm (jw @ti3.eq_1 (jw @jc.eq_1 (jw @Zn.eq_1 (jw @kI.eq_1 (jw @Zp.eq_1 (jw @vD.eq_1 (jw @yP.eq_1 (jw @Qbg.eq_1 @Qac.eq_1))))))))))))))))
def jL:=jw @aI.eq_1 (jw @aB.eq_1 (jw @q9.eq_1 (jw @qU.eq_1 (jw @qi.eq_1 (jw @zm.eq_1 (jw @wrH.eq_1 (jw @wrS1.eq_1 (jw @wrS2.eq_1 (jw @wrS3.eq_1 (jw @c31.eq_1 (jw @c31.eq_2 (jw @p94n.eq_1 (jw @p94n.eq_2 (jw @xf (jw @jT (jw @qj.eq_1 (jw @ZJ (jw @yI (jw @Qo (jw @kg (@qC.eq_1)))))))))))))))))))))
def Qh8 (l:Led) (hl:Fit l):FnV prog 57 [q9 l] (Vg l):=by
 have env:=qx (A:=fun _=>True) (kC d31 (kC e94n kN))
 refine kV (Fn0 func57 rfl (fun vs w=>by kernel_rfl) (by kernel_rfl)) (by simp) (by simp [AV.ids,AV.idsL,q9,qU]) ?_
 by_cases c0:zf l=0
 ·rw [show Vg l=_ from if_neg (by rw [c0];simp)]
  have hb0:Qbu l=.tup [.sl ((UK l).map qj),.v (.int .i64 0)]:=if_neg (by rw [c0];simp)
  have hV:=We c0;have q1:=hV.c
  have q2:=hV.r;have q5:=XO
  repeat' first|(apply nx;with_reducible constructor)|apply jq (by decide)|((first|apply jz env|apply jk);intro Q hQ;simp only [vkt,seval,zG,jL,hb0,ite_and];(repeat' first|with_reducible assumption|apply jw|intro hp);all_goals first|(apply hQ;clear hQ Q)|omega|assumption|rfl|(apply jx;kernel_rfl)|skip)
  refine qh (fun k:{ k:Nat // k<=l.rates.length }=>wrS1 l k.1) (fun k=>l.rates.length - k.1) ⟨0,af _⟩ ?_ fun ⟨k,hk⟩=>?_
  ·(refine Le.ok (fun j=>if j=3 then none else some j) [] ?_;constructor;all_goals (try simp only [vle,vkt,seval,jL]))
   all_goals first|rfl|trivial|(simp [xy];done)
  ·repeat' first|(apply nx;with_reducible constructor)|apply jq (by decide)
   (apply jz env;intro Q hQ;simp only [vkt,seval,zG,jL,ite_and];(repeat' first|with_reducible assumption|apply jw|intro hp);all_goals first|(apply hQ;clear hQ Q)|omega|assumption|rfl|(apply jx;kernel_rfl)|skip)
   repeat' first|(apply nx;with_reducible constructor)|apply jq (by decide)
   (refine zk (by simp only [vkt,seval];rfl) (fun h=>?_) (fun h=>?_) <;> (try simp only [vki] at h))
   ·have hlt:k < l.rates.length:=by omega
    have e9:=qV hlt (show l.rates.length<=maxLen by omega)
    repeat' first|(apply nx;with_reducible constructor)|apply jq (by decide)|((first|apply jz env|apply jk);intro Q hQ;simp only [vkt,seval,ite_and];(repeat' first|with_reducible assumption|apply jw|intro hp);all_goals first|(apply hQ;clear hQ Q)|omega|assumption|rfl|(apply jx;kernel_rfl)|skip)
    refine qh (fun c:{ c:Nat // c<=l.coins.length - 1 }=>wrS2 l k c.1) (fun c=>l.coins.length - 1 - c.1) ⟨0,af _⟩ ?_ fun ⟨c,hc⟩=>?_
    ·(refine Le.ok some [] ?_;constructor;all_goals (try simp only [vle,vkt,seval,jL]))
     all_goals first|rfl|trivial|(simp [Zv];done)
    ·repeat' first|(apply nx;with_reducible constructor)|apply jq (by decide)
     (apply jz env;intro Q hQ;simp only [vkt,seval,zG,jL,ite_and];(repeat' first|with_reducible assumption|apply jw|intro hp);all_goals first|(apply hQ;clear hQ Q)|omega|assumption|rfl|(apply jx;kernel_rfl)|skip)
     repeat' first|(apply nx;with_reducible constructor)|apply jq (by decide)
     (refine zk (by simp only [vkt,seval];rfl) (fun h=>?_) (fun h=>?_) <;> (try simp only [vki] at h))
     ·have hlc:c < l.coins.length - 1:=by omega
      have e8:IntKind.wrap .i64 ((c:Int)+1+1)=(c:Int)+1+1:=wrap64 (by omega) (by omega)
      have pl:=V6 l.coins.length k;have pl2:k * (l.coins.length - 1)<=3 * 3:=cT (by omega) (by omega)
      have cap:((xy l.coins.length k++Zv k c).length+1) * 24<=140737488355328/\(xy l.coins.length k++Zv k c).length+1<=maxLen:=by
       rw [au,pl,Qbx];omega
      repeat' first|(apply nx;with_reducible constructor)|apply jq (by decide)|((first|apply jz env|apply jk);intro Q hQ;simp only [vkt,seval,zG,jL,e8,ite_and];(repeat' first|with_reducible assumption|apply jw|intro hp);all_goals first|(apply hQ;clear hQ Q)|omega|assumption|rfl|(apply jx;kernel_rfl)|skip)
      refine ⟨⟨c+1,by omega⟩,by show l.coins.length - 1 - (c+1) < l.coins.length - 1 - c;omega, ?_⟩
      (refine Le.ok (fun j=>if j=3 then some 6 else some j) [] ?_;constructor;all_goals (try simp only [vle,vkt,seval,jL]))
      all_goals first|rfl|trivial|(simp [L9,qC,qj];done)|(simp;done)
     ·have hce:c=l.coins.length - 1:=by omega
      subst hce
      repeat' first|(apply nx;with_reducible constructor)|apply jq (by decide)|((first|apply jz env|apply jk);intro Q hQ;simp only [vkt,seval,zG,e9,ite_and];(repeat' first|with_reducible assumption|apply jw|intro hp);all_goals first|(apply hQ;clear hQ Q)|omega|assumption|rfl|(apply jx;kernel_rfl)|skip)
      refine ⟨⟨k+1,hlt⟩,by show l.rates.length - (k+1) < l.rates.length - k;omega, ?_⟩
      have hps:xy l.coins.length k++Zv k (l.coins.length - 1)=xy l.coins.length (k+1):=(Vz _ _).symm
      (refine Le.ok some [] ?_;constructor;all_goals (try simp only [vle,vkt,seval,jL]))
      all_goals first|rfl|trivial|(rw [hps];done)|(simp [hps,e9];done)
   ·have hkn:k=l.rates.length:=by omega
    subst hkn;have hgo:GrOk l (UK l) (jf l):=⟨badOk hV,by have:=KT hV;omega,Qe7 l⟩
    have hpl:=KT hV
    repeat' first|(apply nx;with_reducible constructor)|apply jq (by decide)|((first|apply jz env|apply jk);intro Q hQ;simp only [vkt,seval,zG,ite_and];(repeat' first|with_reducible assumption|apply jw|intro hp);all_goals first|(apply hQ;clear hQ Q)|omega|assumption|rfl|(apply jx;kernel_rfl)|skip)
    refine qh (fun m:{ m:Nat // m<=(jf l).length/\∀ j,j < m->(J6 l j).2=false }=>wrS3 l m.1) (fun m=>(jf l).length - m.1) ⟨0,af _,fun j h=>absurd h (cQ _)⟩ ?_ fun ⟨m,hm,hno⟩=>?_
    ·(refine Le.ok some [] ?_;constructor;all_goals (try simp only [vle,vkt,seval,jL]))
     all_goals first|rfl|trivial|(simp [jf];done)
    ·have hbg:BgOk [] 0 m:=⟨by simp;omega,fun p hp=>by simp at hp,af _⟩
     have e9:=k9 m (by omega)
     have t1:(m:Int).toNat=m:=aW _;have hgr:yH (Z0 l (UK l)) (jf l) m [] 0=J6 l m:=rfl
     cases cc:(J6 l m).2
     ·have hlt:m < (jf l).length:=by
       rcases bB hm with h|h
       ·exact h
       ·rw [h,QeP hV] at cc;cases cc
      repeat' first|(apply nx;with_reducible constructor)|apply jq (by decide)|((first|apply jz env|apply jk);intro Q hQ;simp only [vkt,seval,zG,jL,e9,t1,hgr,cc,ite_and];(repeat' first|with_reducible assumption|apply jw|intro hp);all_goals first|(apply hQ;clear hQ Q)|omega|assumption|rfl|(apply jx;kernel_rfl)|skip)
      refine ⟨⟨m+1,hlt,fun j hj=>?_⟩,by show (jf l).length - (m+1) < (jf l).length - m;omega, ?_⟩
      ·rcases bB (bS hj) with h1|h1
       ·exact hno j h1
       ·rw [h1];exact cc
      ·(refine Le.ok some [] ?_;constructor;all_goals (try simp only [vle,vkt,seval,jL]))
       all_goals first|rfl|trivial|(simp [e9];done)
     ·have hw:=QbV hm cc hno
      have hwl:Qcd l=(J6 l m).1:=by unfold Qcd;rw [hw]
      repeat' first|(apply nx;with_reducible constructor)|apply jq (by decide)|((first|apply jz env|apply jk);intro Q hQ;simp only [vkt,seval,zG,jL,t1,hgr,cc,ite_and];(repeat' first|with_reducible assumption|apply jw|intro hp);all_goals first|(apply hQ;clear hQ Q)|omega|assumption|rfl|(apply jx;kernel_rfl)|skip)
      (simp only [vrt,results57,vkt,seval,jL];refine Fin.val rfl ?_;(try simp only [AV.le,AV.leL]))
      all_goals simp [hwl]
 ·rw [show Vg l=_ from if_pos c0]
  have hb0:Qbu l=.tup [.sl [],aI (zf l)]:=if_pos c0
  repeat' first|(apply nx;with_reducible constructor)|apply jq (by decide)|((first|apply jz env|apply jk);intro Q hQ;simp only [vkt,seval,zG,jL,hb0,c0,ite_and];(repeat' first|with_reducible assumption|apply jw|intro hp);all_goals first|(apply hQ;clear hQ Q)|omega|assumption|rfl|(apply jx;kernel_rfl)|skip)
  (simp only [vrt,results57,vkt,seval,jL];refine Fin.val rfl ?_;(try simp only [AV.le,AV.leL]))
  all_goals simp
def c32:List AV->Prop × AV
 |[.agg [.sl cs,.sl rs,.sl ss,.sl es]]=>(isL cs rs ss es/\Fit (zR cs rs ss es),Vg (zR cs rs ss es))
 |_=>(False,.junk)
def d32 {A:Frm->Prop}:qf A prog 57 (zq false c32):=qD fun vs hv h=>by
 clear hv;unfold c32 at h ⊢
 split at h
 ·refine ⟨by unfold Vg;split <;> simp [AV.plain,AV.plainL,aI,zm],fun h=>absurd h (by decide), ?_⟩
  rw [<- jA h.1];exact Qh8 _ h.2
 ·exact h.elim
def wJ:=jw @ty3 (jw @jh (jw @QD (jw @WK (jw @Yt (jw @vU (jw @vQ (jw @vR (jw @Qdq (jw @Qy (jw @Rj (jw @ti3.eq_1 (jw @jc.eq_1 (jw @kI.eq_1 (jw @Zp.eq_1 (jw @WO.eq_1 (jw @vD.eq_1 (jw @yP.eq_1 (jw @yS.eq_1 (jw @Xc.eq_1 (jw @xU.eq_1 @YR.eq_1))))))))))))))))))))
def yV:=jw @aI.eq_1 (jw @aB.eq_1 (jw @q9.eq_1 (jw @qU.eq_1 (jw @aSh.eq_1 (jw @shQ.eq_1 (jw @eQ.eq_1 (jw @eSh.eq_1 (jw @vS.eq_1 (jw @Q8.eq_1 (jw @gS1.eq_1 (jw @gS2.eq_1 (jw @gS3.eq_1 (jw @Vt.eq_1 (jw @Vt.eq_2 (jw @p137.eq_1 (jw @p137.eq_2 (jw @p97.eq_1 (jw @p97.eq_2 (jw @Uy.eq_1 (jw @Uy.eq_2 (jw @c98.eq_1 (jw @c98.eq_2 (jw @KE.eq_1 (jw @KE.eq_2 (jw @s99.eq_1 (jw @s99.eq_2 (jw @Kw.eq_1 (jw @Kw.eq_2 (jw @xf (jw @jT (jw @YD (jw @KN (jw @kg (jw @XI (jw @Qo (jw @Jj (jw @zC.eq_1 (jw @R8 (jw @qj.eq_1 (@QlI))))))))))))))))))))))))))))))))))))))))
def QhV (l:Led) (hV:Val l):FnV prog 106 [q9 l] (.sl ((Jn l).map eQ)):=by
 have env:=qx (A:=fun _=>True) (kC Qf1 (kC e137 (kC e97 (kC e101 (kC d98 (kC e100 (kC e99 (kC e138 kN))))))))
 refine kV (Fn0 func106 rfl (fun vs w=>by kernel_rfl) (by kernel_rfl)) (by simp) (by simp [AV.ids,AV.idsL,q9,qU]) ?_
 have q1:=hV.c;have q2:=hV.r
 have q3:=hV.sl;have q4:=hV.e
 have q5:l.start.length<=100000:=by omega
 have w1:IntKind.wrap .i64 ((l.rates.length:Int) - 1)=(l.rates.length:Int) - 1:=wrap64 (by omega) (by omega)
 repeat' first|(apply nx;with_reducible constructor)|apply jq (by decide)|((first|apply jz env|apply jk);intro Q hQ;simp only [vkt,Nat.reduceEqDiff,Nat.reduceAdd,Nat.reduceMul,Nat.reduceSub,Nat.reduceLeDiff,reduceCtorEq,↓reduceIte,wJ,yV,w1,ite_and];(repeat' first|with_reducible assumption|apply jw|intro hp);all_goals first|(apply hQ;clear hQ Q)|omega|assumption|rfl|(apply jx;kernel_rfl)|skip)
 have hst:=Qcw l;refine qh (fun D:{ D:Nat // D<=l.rates.length - 1 }=>gS1 l D.1 (if D.1=0 then 0 else kd l ((D.1:Int) - 1))) (fun D=>l.rates.length - 1 - D.1) ⟨0,af _⟩ ?_ fun ⟨D,hD⟩=>?_
 ·(refine Le.ok (fun j=>if j=0 then some 0 else if j=1 then some 3 else if j=2 then some 4 else if j=3 then some 2 else none) [] ?_;constructor;all_goals (try simp only [vle,vkt,Nat.reduceEqDiff,reduceCtorEq,↓reduceIte,yV]))
  all_goals (first|(decide;done)|skip)
  ·exact ⟨rfl,rfl⟩
  ·exact ⟨rfl,hst.symm⟩
 ·generalize hk0:(if D=0 then 0 else kd l ((D:Int) - 1))=k0
  have hk0':k0<=kd l D:=by
   rw [<- hk0];split
   ·exact af _
   ·exact Qjr l (by omega)
  repeat' first|(apply nx;with_reducible constructor)|apply jq (by decide)
  (apply jz env;intro Q hQ;simp only [vkt,Nat.reduceEqDiff,wJ,yV,ite_and];(repeat' first|with_reducible assumption|apply jw|intro hp);all_goals first|(apply hQ;clear hQ Q)|omega|assumption|rfl|(apply jx;kernel_rfl)|skip)
  repeat' first|(apply nx;with_reducible constructor)|apply jq (by decide)
  (refine zk (by simp only [vkt];rfl) (fun h=>?_) (fun h=>?_) <;> (try simp only [vki] at h))
  ·have hDlt:D+1 < l.rates.length:=by omega
   repeat' first|(apply nx;with_reducible constructor)|apply jq (by decide)|((first|apply jz env|apply jk);intro Q hQ;simp only [vkt,Nat.reduceEqDiff,ite_and];(repeat' first|with_reducible assumption|apply jw|intro hp);all_goals first|(apply hQ;clear hQ Q)|omega|assumption|rfl|(apply jx;kernel_rfl)|skip)
   refine qh (fun k:{ k:Nat // k<=kd l D }=>gS2 l D k.1) (fun k=>kd l D - k.1) ⟨k0,hk0'⟩ ?_ fun ⟨k,hk⟩=>?_
   ·(refine Le.ok some [] ?_;constructor;all_goals (try simp only [vle,vkt,Nat.reduceEqDiff,reduceCtorEq,↓reduceIte,yV]))
    all_goals simp
   ·have hkl:=Qfs l D
    have ho:=Yz hV k (by omega)
    by_cases hlt:k < kd l D
    ·have hkd:=kd_lt hlt
     have hentry:=Zx hV (show k < l.entries.length by omega)
     have hen:=VP ho (by omega) hentry
     have hS:=Je (show k < l.entries.length by omega)
     generalize hx:l.entries.getD k default=x at *;have hen':EnOk (stK l k).2 ⟨x.day,x.kind,x.coin,x.to,x.amount,x.got⟩:=hen
     have c1:((k:Int) < l.entries.length):=by omega
     have e9:=qV hlt (show kd l D<=maxLen by have:=XO;omega)
     repeat' first|(apply nx;with_reducible constructor)|apply jq (by decide)|((first|apply jz env|apply jk);intro Q hQ;simp only [vkt,Nat.reduceEqDiff,Nat.reduceAdd,Nat.reduceSub,Nat.reduceLeDiff,reduceCtorEq,↓reduceIte,wJ,yV,hx,c1,hkd,ite_and];(repeat' first|with_reducible assumption|apply jw|intro hp);all_goals first|(apply hQ;clear hQ Q)|omega|assumption|rfl|(apply jx;kernel_rfl)|skip)
     refine ⟨⟨k+1,hlt⟩,by show kd l D - (k+1) < kd l D - k;omega, ?_⟩
     (refine Le.ok some [] ?_;constructor;all_goals (try simp only [vle,vkt,Nat.reduceEqDiff,reduceCtorEq,↓reduceIte,yV]))
     all_goals simp [hS,e9]
    ·have hkk:k=kd l D:=by omega
     subst hkk;have hcase:(((kd l D:Int) < l.entries.length)/\¬ (l.entries.getD (kd l D) default).day<=D)\/(¬ ((kd l D:Int) < l.entries.length)/\True):=by
      by_cases hend:kd l D < l.entries.length
      ·exact .inl ⟨by omega,QlK hend⟩
      ·exact .inr ⟨by omega,trivial⟩
     have hlen:(stK l (kd l D)).2.length=l.coins.length:=ho.len;have hlen':((stK l (kd l D)).2.length:Int)=l.coins.length:=by omega
     have e8:IntKind.wrap .i64 ((D:Int)+1)=(D:Int)+1:=wrap64 (by omega) (by omega)
     have e7:IntKind.wrap .i64 ((D:Int)+1)=((D+1:Nat):Int):=by rw [e8];rfl
     have e6:((D+1:Nat):Int) - 1=D:=by omega
     rcases hcase with ⟨c1,c2⟩|⟨c1,c2⟩
     all_goals (
      repeat' first|(apply nx;with_reducible constructor)|apply jq (by decide)|((first|apply jz env|apply jk);intro Q hQ;simp only [vkt,Nat.reduceEqDiff,Nat.reduceAdd,Nat.reduceLeDiff,reduceCtorEq,↓reduceIte,wJ,yV,c1,c2,ite_and];(repeat' first|with_reducible assumption|apply jw|intro hp);all_goals first|(apply hQ;clear hQ Q)|omega|assumption|rfl|(apply jx;kernel_rfl)|skip)
      refine qh (fun c:{ c:Nat // c<=l.coins.length }=>gS3 l D c.1) (fun c=>l.coins.length - c.1) ⟨0,af _⟩ ?_ fun ⟨c,hc⟩=>?_
      ·(refine Le.ok some [] ?_;constructor;all_goals (try simp only [vle,vkt,Nat.reduceEqDiff,reduceCtorEq,↓reduceIte,yV]))
       all_goals first|exact ⟨rfl,trivial⟩|(simp only [hlen',evH,and_self,true_and];done)|simp [hlen']
      ·repeat' first|(apply nx;with_reducible constructor)|apply jq (by decide)
       (apply jz env;intro Q hQ;simp only [vkt,Nat.reduceEqDiff,wJ,yV,ite_and];(repeat' first|with_reducible assumption|apply jw|intro hp);all_goals first|(apply hQ;clear hQ Q)|omega|assumption|rfl|(apply jx;kernel_rfl)|skip)
       repeat' first|(apply nx;with_reducible constructor)|apply jq (by decide)
       (refine zk (by simp only [vkt];rfl) (fun h=>?_) (fun h=>?_) <;> (try simp only [vki] at h))
       ·have hclt:c < l.coins.length:=by omega
        have r1:=kR hV (d:=(D:Int)+1) (c:=c) (by omega) (by omega) (by omega) (by omega)
        have r2:=kR hV (d:=(D:Int)) (c:=c) (by omega) (by omega) (by omega) (by omega)
        have b1:=QQ r1;have b2:=QQ r2
        have s1:=b1.sm (by decide)
        have s2:=b2.sm (by decide)
        have hb:=Ue hV (kd l D) (Qfs _ _) c;have b3:=b1.sub b2
        have t3:Tm (rq l ((D:Int)+1) c - rq l D c) ((evH l D).getD c 0):=⟨b3.sm (by decide),by unfold evH;omega,by unfold evH;omega⟩
        have s3:=(Qkj hV hclt hDlt).sm (by decide)
        unfold gT at s3;have s4:=(Qgu hV hclt (show D < l.rates.length by omega)).sm (by decide)
        have g1:=gQ (z:=[]) (show c < (QW l D c).length by rw [QaP];exact hclt)
        rw [QgU hclt] at g1;have hcl2:c < (QW l D c).length:=by rw [QaP];exact hclt
        have hel:c < (evH l D).length:=by unfold evH;omega
        have g2:=gI0 hel;have g3:=setQ (QW l D c) c
        have e9:=qV hclt (show l.coins.length<=maxLen by have:=XO;omega)
        have hset:=QhU (D:=D) hclt;unfold gT at hset
        repeat' first|(apply nx;with_reducible constructor)|apply jq (by decide)|((first|apply jz env|apply jk);intro Q hQ;simp only [vkt,Nat.reduceEqDiff,Nat.reduceAdd,reduceCtorEq,↓reduceIte,wJ,yV,g1,g2,g3,e8,hset,ite_and];(repeat' first|with_reducible assumption|apply jw|intro hp);all_goals first|(apply hQ;clear hQ Q)|omega|assumption|rfl|(apply jx;kernel_rfl)|skip)
        refine ⟨⟨c+1,hclt⟩,by show l.coins.length - (c+1) < l.coins.length - c;omega, ?_⟩
        (refine Le.ok some [] ?_;constructor;all_goals (try simp only [vle,vkt,Nat.reduceEqDiff,reduceCtorEq,↓reduceIte,yV]))
        all_goals first|rfl|trivial|(simp [e9];done)|exact ⟨rfl,trivial⟩|exact ⟨rfl,rfl⟩
       ·have hcn:c=l.coins.length:=by omega
        subst hcn;have hnx:=Qer l D
        repeat' first|(apply nx;with_reducible constructor)|apply jq (by decide)|((first|apply jz env|apply jk);intro Q hQ;simp only [vkt,Nat.reduceEqDiff,wJ,hnx,e7,ite_and];(repeat' first|with_reducible assumption|apply jw|intro hp);all_goals first|(apply hQ;clear hQ Q)|omega|assumption|rfl|(apply jx;kernel_rfl)|skip)
        refine ⟨⟨D+1,by omega⟩,by show l.rates.length - 1 - (D+1) < l.rates.length - 1 - D;omega, ?_⟩
        rw [show (if D+1=0 then 0 else kd l (((D+1:Nat):Int) - 1))=kd l D by rw [if_neg (by omega),e6]]
        (refine Le.ok some [] ?_;constructor;all_goals (try simp only [vle,vkt,Nat.reduceEqDiff,reduceCtorEq,↓reduceIte,yV]))
        all_goals first|rfl|trivial|exact ⟨rfl,trivial⟩|exact ⟨rfl,rfl⟩|(simp [evH];done))
  ·have hDe:D=l.rates.length - 1:=by omega
   subst hDe;have hfin:=Qh9 l q2.1
   repeat' first|(apply nx;with_reducible constructor)|apply jq (by decide)|((first|apply jz env|apply jk);intro Q hQ;simp only [vkt,Nat.reduceEqDiff,ite_and];(repeat' first|with_reducible assumption|apply jw|intro hp);all_goals first|(apply hQ;clear hQ Q)|omega|assumption|rfl|(apply jx;kernel_rfl)|skip)
   rw [<- hfin]
   (simp only [vrt,results106,vkt];refine Fin.val rfl ?_;(try simp only [AV.le]))
   all_goals exact ⟨_,_,rfl⟩
def c96:List AV->Prop × AV
 |[.agg [.sl cs,.sl rs,.sl ss,.sl es]]=>(isL cs rs ss es/\Val (zR cs rs ss es),.sl ((Jn (zR cs rs ss es)).map eQ))
 |_=>(False,.junk)
def d96 {A:Frm->Prop}:qf A prog 106 (zq false c96):=qD fun vs hv h=>by
 clear hv;unfold c96 at h ⊢
 split at h
 ·refine ⟨trivial,fun h=>absurd h (by decide), ?_⟩
  rw [<- jA h.1];exact QhV _ h.2
 ·exact h.elim
def vE (l:Led) (i:Nat):Rat :=
 let x:=l.entries.getD i default
 if x.kind=3 then rq l x.day x.coin * x.amount - rq l x.day x.to * x.got else if x.kind=4 then rq l x.day x.coin * x.amount - rq l x.day x.coin * ((stK l i).2.getD x.coin.toNat 0:Int) else rq l x.day x.coin * x.amount
def kL (l:Led) (κ:Int) (k:Nat):List Rat:=((List.range k).filter fun i=>decide ((l.entries.getD i default).kind=κ)).map (vE l)
def Qi4 (l:Led) (κ:Int) (k:Nat):kL l κ (k+1)=if (l.entries.getD k default).kind=κ then kL l κ k++[vE l k] else kL l κ k:=by
 unfold kL;rw [bM,List.filter_append]
 split
 ·rename_i h;rw [List.filter_cons,if_pos (by rw [h];simp),List.filter_nil,ae];rfl
 ·rename_i h;rw [List.filter_cons,if_neg (by simpa using h),List.filter_nil,bz]
def XQ (l:Led) (κ:Int) (k:Nat):(kL l κ k).length<=k:=by
 unfold kL;rw [ab]
 exact bi (dY _ _) (by simp)
def QkL {l:Led} (h:Val l) {i:Nat} (hi:i < l.entries.length):Bd 1000000 (vE l i):=by
 have hx:=Zx h hi;have hb:=Ue h i (by omega)
 unfold vE;generalize l.entries.getD i default=x at *
 have r1:=QQ (kR h hx.day.1 hx.day.2 hx.coin.1 hx.coin.2);have a1:=r1.muli (C:=1000) (n:=x.amount) (by have:=hx.am;omega) (by have:=hx.am;omega)
 dsimp only;split
 ·rename_i k3
  have r2:=QQ (kR h hx.day.1 hx.day.2 (hx.to k3).1 (hx.to k3).2);have a2:=r2.muli (C:=1000) (n:=x.got) (by have:=hx.got k3;omega) (by have:=hx.got k3;omega)
  exact (a1.sub a2).mono (by decide)
 ·split
  ·have hc:=hb x.coin.toNat
   have a2:=r1.muli (C:=7000) (n:=(stK l i).2.getD x.coin.toNat 0) (by omega) (by omega)
   exact (a1.sub a2).mono (by decide)
  ·exact a1.mono (by decide)
def Qdv {l:Led} (h:Val l) (κ:Int) {k:Nat} (hk:k<=l.entries.length):SumOk (kL l κ k):=by
 refine ⟨?_,fun q hq=>?_⟩
 ·have:=XQ l κ k;have:=h.e;omega
 ·obtain ⟨i,hi,rfl⟩:=aj.1 hq
  have:=aE.1 (List.mem_filter.1 hi).1;exact QkL h (by omega)
def Qg3 {l:Led} (h:Val l):SumOk (Jn l):=by
 refine ⟨?_,fun q hq=>?_⟩
 ·have:=h.c;simp [Jn];omega
 ·obtain ⟨i,hi,rfl⟩:=aj.1 hq
  exact (Qgu h (aE.1 hi) (by have:=h.r;omega)).mono (by decide)
def w_ok {l:Led} (h:Val l) {d:Int} (hd:0<=d) (hd':d<=(l.rates.length:Int) - 1) {k:Nat} (hk:k<=l.entries.length):WOk l d (stK l k).2:=by
 have hh:=Yz h k hk;refine ⟨?_,fun c hc=>?_,fun v hv=>?_⟩
 ·rw [hh.len];exact h.c.2
 ·exact kR h hd hd' (by omega) (by have:=hh.len;omega)
 ·have:=hh.b v hv;have:=h.e;omega
structure Acc where
 taken:Rat
 paid:Rat
 gained:Rat
 lost:Rat
 found:Rat
 worth:Rat
deriving DecidableEq
def cAcc (a:Acc):List AV:=[.v (.int .i64 a.taken.num),.v (.int .i64 a.taken.den),.v (.int .i64 a.paid.num),.v (.int .i64 a.paid.den),.v (.int .i64 a.gained.num),.v (.int .i64 a.gained.den),.v (.int .i64 a.lost.num),.v (.int .i64 a.lost.den),.v (.int .i64 a.found.num),.v (.int .i64 a.found.den),.v (.int .i64 a.worth.num),.v (.int .i64 a.worth.den)]
def z12:List AV:=[.v (.int .i64 0),.v (.int .i64 0),.v (.int .i64 0),.v (.int .i64 0),.v (.int .i64 0),.v (.int .i64 0),.v (.int .i64 0),.v (.int .i64 0),.v (.int .i64 0),.v (.int .i64 0),.v (.int .i64 0),.v (.int .i64 0)]
def Qhg (l:Led):Acc:=⟨kK (kL l 1 l.entries.length),kK (kL l 2 l.entries.length),kK (Jn l),kK (kL l 3 l.entries.length),kK (kL l 4 l.entries.length),Qv l ((l.rates.length:Int) - 1) (stK l l.entries.length).2 l.coins.length⟩
def QbT (l:Led):AV:=if zf l ≠ 0 then .tup [.agg z12,aI (zf l)] else .tup [.agg (cAcc (Qhg l)),aI 0]
def baS (l:Led) (k:Nat):St:={ t:=asg [(1,.ptr 0 0),(2,.ptr 1 0),(3,aI 0),(5,.ptr 2 0),(6,.row 4),(7,.row 5),(8,.row 6),(9,.row 7),(22,.sl (l.entries.map zC)),(23,aI l.entries.length),(24,aI k)],h:=qg [(0,.cells (qU l)),(1,.cells z12),(2,vS l 3),(3,Q8 (stK l k).2),(4,.row 191 2 ((kL l 1 k).map eQ)),(5,.row 191 2 ((kL l 2 k).map eQ)),(6,.row 191 2 ((kL l 3 k).map eQ)),(7,.row 191 2 ((kL l 4 k).map eQ))],n:=8 }
def zh:=jw @ty3 (jw @jh (jw @WP (jw @WK (jw @Yt (jw @vU (jw @vQ (jw @QkK (jw @vR (jw @Qdq (jw @Qy (jw @Rj (jw @ti3.eq_1 (jw @jc.eq_1 (jw @Zn.eq_1 (jw @Zp.eq_1 (jw @WO.eq_1 (jw @vD.eq_1 (jw @yP.eq_1 (jw @LH.eq_1 (jw @yS.eq_1 (jw @Xc.eq_1 (jw @xU.eq_1 @YR.eq_1))))))))))))))))))))))
def jI:=jw @aI.eq_1 (jw @aB.eq_1 (jw @q9.eq_1 (jw @qU.eq_1 (jw @aSh.eq_1 (jw @shQ.eq_1 (jw @eQ.eq_1 (jw @eSh.eq_1 (jw @vS.eq_1 (jw @Q8.eq_1 (jw @baS.eq_1 (jw @z12.eq_1 (jw @cAcc.eq_1 (jw @c50.eq_1 (jw @c50.eq_2 (jw @p97.eq_1 (jw @p97.eq_2 (jw @Uy.eq_1 (jw @Uy.eq_2 (jw @p103.eq_1 (jw @p103.eq_2 (jw @c98.eq_1 (jw @c98.eq_2 (jw @KE.eq_1 (jw @KE.eq_2 (jw @s99.eq_1 (jw @s99.eq_2 (jw @QgP.eq_1 (jw @QgP.eq_2 (jw @QgP.eq_3 (jw @c96.eq_1 (jw @c96.eq_2 (jw @xf (jw @jT (jw @YD (jw @KN (jw @kg (jw @XI (jw @Qo (jw @Jj (jw @zC.eq_1 (jw @R8 (jw @qj.eq_1 (jw @mQ (@rQ))))))))))))))))))))))))))))))))))))))))))))
def Ql1 (l:Led) (hl:Fit l):FnV prog 53 [q9 l] (QbT l):=by
 have env:=qx (A:=fun _=>True) (kC d50 (kC e97 (kC e101 (kC e103 (kC d98 (kC e100 (kC e99 (kC d102 (kC d96 kN)))))))))
 refine kV (Fn0 func53 rfl (fun vs w=>by kernel_rfl) (by kernel_rfl)) (by simp) (by simp [AV.ids,AV.idsL,q9,qU]) ?_
 by_cases c0:zf l=0
 ·rw [show QbT l=_ from if_neg (by rw [c0];simp)]
  have hV:=We c0;have q1:=hV.c
  have q2:=hV.r;have q3:=hV.sl
  have q4:=hV.e;have q5:l.start.length<=100000:=by omega
  repeat' first|(apply nx;with_reducible constructor)|apply jq (by decide)|((first|apply jz env|apply jk);intro Q hQ;simp only [vkt,seval,zh,jI,c0,ite_and];(repeat' first|with_reducible assumption|apply jw|intro hp);all_goals first|(apply hQ;clear hQ Q)|omega|assumption|rfl|(apply jx;kernel_rfl)|skip)
  refine qh (fun k:{ k:Nat // k<=l.entries.length }=>baS l k.1) (fun k=>l.entries.length - k.1) ⟨0,af _⟩ ?_ fun ⟨k,hk⟩=>?_
  ·(refine Le.ok (fun j=>if j=0 then some 0 else if j=1 then some 1 else if j=2 then some 2 else if j=3 then some 3 else none) [] ?_;constructor;all_goals (try simp only [vle,vkt,seval,jI]))
   all_goals first|rfl|decide|exact ⟨rfl,rfl,rfl,rfl,rfl⟩|exact ⟨rfl,rfl⟩
  ·repeat' first|(apply nx;with_reducible constructor)|apply jq (by decide)
   (apply jz env;intro Q hQ;simp only [vkt,seval,zh,jI,ite_and];(repeat' first|with_reducible assumption|apply jw|intro hp);all_goals first|(apply hQ;clear hQ Q)|omega|assumption|rfl|(apply jx;kernel_rfl)|skip)
   repeat' first|(apply nx;with_reducible constructor)|apply jq (by decide)
   (refine zk (by simp only [vkt,seval];rfl) (fun h=>?_) (fun h=>?_) <;> (try simp only [vki] at h))
   ·have hlt:k < l.entries.length:=by omega
    have hentry:=Zx hV hlt;have ho:=Yz hV k (by omega)
    have hen:=VP ho (by omega) hentry
    have hS:=Je hlt;have hb:=Ue hV k (by omega)
    have hvb:=(QkL hV hlt).sm (by decide)
    have hkk:∀ κ,kL l κ (k+1)=_:=fun κ=>Qi4 l κ k
    generalize hx:l.entries.getD k default=x at *;have hen':EnOk (stK l k).2 ⟨x.day,x.kind,x.coin,x.to,x.amount,x.got⟩:=hen
    have r1:=kR hV hentry.day.1 hentry.day.2 hentry.coin.1 hentry.coin.2;have b1:=QQ r1
    have t1:Tm (rq l x.day x.coin) x.amount:=QdT b1 (by have:=hentry.am;omega) (by have:=hentry.am;omega)
    have s1:=(b1.muli (C:=1000) (n:=x.amount) (by have:=hentry.am;omega) (by have:=hentry.am;omega)).sm (by decide)
    have e9:=qV hlt (show l.entries.length<=maxLen by have:=XO;omega)
    have l1:=XQ l 1 k;have l2:=XQ l 2 k
    have l3:=XQ l 3 k;have l4:=XQ l 4 k
    have cap:∀ n:Nat,n<=6->(n+1) * 16<=140737488355328/\n+1<=maxLen:=fun n hn=>by have:=XO;omega
    have fin:∀ κ,¬ x.kind=κ->kL l κ (k+1)=kL l κ k:=fun κ h=>by rw [hkk,if_neg h]
    have fin1:∀ κ,x.kind=κ->kL l κ (k+1)=kL l κ k++[vE l k]:=fun κ h=>by rw [hkk,if_pos h]
    rcases (by have:=hentry.kind;omega:x.kind=1\/x.kind=2\/x.kind=3\/x.kind=4) with k1|k2|k3|k4
    ·have n1:=fin1 1 (by omega)
     have n2:=fin 2 (by omega)
     have n3:=fin 3 (by omega)
     have n4:=fin 4 (by omega)
     have hen1:EnOk (stK l k).2 ⟨x.day,1,x.coin,x.to,x.amount,x.got⟩:=by rw [<- k1];exact hen'
     have hS1:wQ (stK l k).2 ⟨x.day,1,x.coin,x.to,x.amount,x.got⟩=(stK l (k+1)).2:=by rw [hS,<- k1]
     have g1:=cap (kL l 1 k).length (by omega)
     have hve:vE l k=rq l x.day x.coin * x.amount:=by unfold vE;dsimp only;rw [hx,if_neg (by omega),if_neg (by omega)]
     repeat' first|(apply nx;with_reducible constructor)|apply jq (by decide)|((first|apply jz env|apply jk);intro Q hQ;simp only [vkt,seval,zh,jI,hx,k1,ite_and];(repeat' first|with_reducible assumption|apply jw|intro hp);all_goals first|(apply hQ;clear hQ Q)|omega|assumption|rfl|(apply jx;kernel_rfl)|skip)
     refine ⟨⟨k+1,hlt⟩,by show l.entries.length - (k+1) < l.entries.length - k;omega, ?_⟩
     (refine Le.ok (fun j=>if j=4 then some 11 else some j) [] ?_;constructor;all_goals (try simp only [vle,vkt,seval,jI]))
     all_goals first|rfl|decide|trivial|(rw [e9];done)|exact ⟨by rw [hS1],by rw [n1,hve,ae];rfl,by rw [n2],by rw [n3],by rw [n4]⟩
    ·have n1:=fin 1 (by omega)
     have n2:=fin1 2 (by omega)
     have n3:=fin 3 (by omega)
     have n4:=fin 4 (by omega)
     have hen1:EnOk (stK l k).2 ⟨x.day,2,x.coin,x.to,x.amount,x.got⟩:=by rw [<- k2];exact hen'
     have hS1:wQ (stK l k).2 ⟨x.day,2,x.coin,x.to,x.amount,x.got⟩=(stK l (k+1)).2:=by rw [hS,<- k2]
     have g1:=cap (kL l 2 k).length (by omega)
     have hve:vE l k=rq l x.day x.coin * x.amount:=by unfold vE;dsimp only;rw [hx,if_neg (by omega),if_neg (by omega)]
     repeat' first|(apply nx;with_reducible constructor)|apply jq (by decide)|((first|apply jz env|apply jk);intro Q hQ;simp only [vkt,seval,zh,jI,hx,k2,ite_and];(repeat' first|with_reducible assumption|apply jw|intro hp);all_goals first|(apply hQ;clear hQ Q)|omega|assumption|rfl|(apply jx;kernel_rfl)|skip)
     refine ⟨⟨k+1,hlt⟩,by show l.entries.length - (k+1) < l.entries.length - k;omega, ?_⟩
     (refine Le.ok (fun j=>if j=5 then some 11 else some j) [] ?_;constructor;all_goals (try simp only [vle,vkt,seval,jI]))
     all_goals first|rfl|decide|trivial|(rw [e9];done)|exact ⟨by rw [hS1],by rw [n1],by rw [n2,hve,ae];rfl,by rw [n3],by rw [n4]⟩
    ·have n1:=fin 1 (by omega)
     have n2:=fin 2 (by omega)
     have n3:=fin1 3 (by omega)
     have n4:=fin 4 (by omega)
     have hen1:EnOk (stK l k).2 ⟨x.day,3,x.coin,x.to,x.amount,x.got⟩:=by rw [<- k3];exact hen'
     have hS1:wQ (stK l k).2 ⟨x.day,3,x.coin,x.to,x.amount,x.got⟩=(stK l (k+1)).2:=by rw [hS,<- k3]
     have g1:=cap (kL l 3 k).length (by omega)
     have r2:=kR hV hentry.day.1 hentry.day.2 (hentry.to k3).1 (hentry.to k3).2;have b2:=QQ r2
     have t2:Tm (rq l x.day x.to) x.got:=QdT b2 (by have:=hentry.got k3;omega) (by have:=hentry.got k3;omega)
     have s2:=(b2.muli (C:=1000) (n:=x.got) (by have:=hentry.got k3;omega) (by have:=hentry.got k3;omega)).sm (by decide)
     have hve:vE l k=rq l x.day x.coin * x.amount - rq l x.day x.to * x.got:=by unfold vE;dsimp only;rw [hx,if_pos k3]
     have s3:Sm (rq l x.day x.coin * x.amount - rq l x.day x.to * x.got):=by rw [<- hve];exact hvb
     repeat' first|(apply nx;with_reducible constructor)|apply jq (by decide)|((first|apply jz env|apply jk);intro Q hQ;simp only [vkt,seval,zh,jI,hx,k3,ite_and];(repeat' first|with_reducible assumption|apply jw|intro hp);all_goals first|(apply hQ;clear hQ Q)|omega|assumption|rfl|(apply jx;kernel_rfl)|skip)
     refine ⟨⟨k+1,hlt⟩,by show l.entries.length - (k+1) < l.entries.length - k;omega, ?_⟩
     (refine Le.ok (fun j=>if j=6 then some 11 else some j) [] ?_;constructor;all_goals (try simp only [vle,vkt,seval,jI]))
     all_goals first|rfl|decide|trivial|(rw [e9];done)|exact ⟨by rw [hS1],by rw [n1],by rw [n2],by rw [n3,hve,ae];rfl,by rw [n4]⟩
    ·have n1:=fin 1 (by omega)
     have n2:=fin 2 (by omega)
     have n3:=fin 3 (by omega)
     have n4:=fin1 4 (by omega)
     have hen1:EnOk (stK l k).2 ⟨x.day,4,x.coin,x.to,x.amount,x.got⟩:=by rw [<- k4];exact hen'
     have hS1:wQ (stK l k).2 ⟨x.day,4,x.coin,x.to,x.amount,x.got⟩=(stK l (k+1)).2:=by rw [hS,<- k4]
     have g1:=cap (kL l 4 k).length (by omega)
     have hcl:x.coin.toNat < (stK l k).2.length:=by have:=hentry.coin;have:=ho.len;omega
     have hc0:0<=x.coin:=hentry.coin.1;have g2:=gI0 hcl
     have b9:=hb x.coin.toNat;have t2:Tm (rq l x.day x.coin) ((stK l k).2.getD x.coin.toNat 0):=QdT b1 (by omega) (by omega)
     have s2:=(b1.muli (C:=7000) (n:=(stK l k).2.getD x.coin.toNat 0) (by omega) (by omega)).sm (by decide)
     have hve:vE l k=rq l x.day x.coin * x.amount - rq l x.day x.coin * ((stK l k).2.getD x.coin.toNat 0:Int):=by unfold vE;dsimp only;rw [hx,if_neg (by omega),if_pos k4]
     have s3:Sm (rq l x.day x.coin * x.amount - rq l x.day x.coin * ((stK l k).2.getD x.coin.toNat 0:Int)):=by rw [<- hve];exact hvb
     repeat' first|(apply nx;with_reducible constructor)|apply jq (by decide)|((first|apply jz env|apply jk);intro Q hQ;simp only [vkt,seval,zh,jI,hx,k4,g2,ite_and];(repeat' first|with_reducible assumption|apply jw|intro hp);all_goals first|(apply hQ;clear hQ Q)|omega|assumption|rfl|(apply jx;kernel_rfl)|skip)
     refine ⟨⟨k+1,hlt⟩,by show l.entries.length - (k+1) < l.entries.length - k;omega, ?_⟩
     (refine Le.ok (fun j=>if j=7 then some 11 else some j) [] ?_;constructor;all_goals (try simp only [vle,vkt,seval,jI]))
     all_goals first|rfl|decide|trivial|(rw [e9];done)|exact ⟨by rw [hS1],by rw [n1],by rw [n2],by rw [n3],by rw [n4,hve,ae];rfl⟩
   ·have hkn:k=l.entries.length:=by omega
    subst hkn;have w1:IntKind.wrap .i64 ((l.rates.length:Int) - 1)=(l.rates.length:Int) - 1:=wrap64 (by omega) (by omega)
    have f1:=Qdv hV 1 (ag _);have f2:=Qdv hV 2 (ag _)
    have f3:=Qdv hV 3 (ag _);have f4:=Qdv hV 4 (ag _)
    have f5:=Qg3 hV;have f6:=w_ok hV (d:=(l.rates.length:Int) - 1) (by omega) (by omega) (ag _)
    have hle:(stK l l.entries.length).2.length=l.coins.length:=(Yz hV _ (ag _)).len;have e8:Qhg l=⟨kK (kL l 1 l.entries.length),kK (kL l 2 l.entries.length),kK (Jn l),kK (kL l 3 l.entries.length),kK (kL l 4 l.entries.length),Qv l ((l.rates.length:Int) - 1) (stK l l.entries.length).2 (stK l l.entries.length).2.length⟩:=by unfold Qhg;rw [hle]
    repeat' first|(apply nx;with_reducible constructor)|apply jq (by decide)|((first|apply jz env|apply jk);intro Q hQ;simp only [vkt,seval,zh,jI,w1,ite_and];(repeat' first|with_reducible assumption|apply jw|intro hp);all_goals first|(apply hQ;clear hQ Q)|omega|assumption|rfl|(apply jx;kernel_rfl)|skip)
    rw [e8]
    (simp only [vrt,results53,vkt,seval,zh,jI];refine Fin.val rfl ?_;(try simp only [AV.le,AV.leL]))
    all_goals first|rfl|trivial|simp
 ·rw [show QbT l=_ from if_pos c0]
  repeat' first|(apply nx;with_reducible constructor)|apply jq (by decide)|((first|apply jz env|apply jk);intro Q hQ;simp only [vkt,seval,zh,jI,c0,ite_and];(repeat' first|with_reducible assumption|apply jw|intro hp);all_goals first|(apply hQ;clear hQ Q)|omega|assumption|rfl|(apply jx;kernel_rfl)|skip)
  (simp only [vrt,results53,vkt,seval,zh,jI];refine Fin.val rfl ?_;(try simp only [AV.le,AV.leL]))
  all_goals simp
def c39:List AV->Prop × AV
 |[.agg [.sl cs,.sl rs,.sl ss,.sl es]]=>(isL cs rs ss es/\Fit (zR cs rs ss es),QbT (zR cs rs ss es))
 |_=>(False,.junk)
def d39 {A:Frm->Prop}:qf A prog 53 (zq true c39):=qD fun vs hv h=>by
 clear hv;unfold c39 at h ⊢
 split at h
 ·refine ⟨by unfold QbT;split <;> simp [AV.plain,AV.plainL,aI,cAcc,z12],fun _=>by unfold QbT;split <;> simp [AV.flat,AV.flatL,aI,cAcc,z12], ?_⟩
  rw [<- jA h.1];exact Ql1 _ h.2
 ·exact h.elim
def s36:List AV->Prop × AV
 |[.sl xs,.sl ys]=>(xs=(xs.map q8).map qC/\ys=(ys.map q8).map qC/\xs.length<=maxLen/\∀ p ∈ xs.map q8,p.length<=maxLen,aB (decide (xs.map q8=ys.map q8)))
 |_=>(False,.junk)
def d36 {A:Frm->Prop}:qf A prog 61 (zq true s36):=qD fun vs hv h=>by
 clear hv;unfold s36 at h ⊢
 split at h
 ·rename_i xs ys
  refine ⟨trivial,fun _=>trivial, ?_⟩
  have:=Qe3 (xs.map q8) (ys.map q8) (by simpa using h.2.2.1) h.2.2.2
  rwa [zm,<- h.1,zm,<- h.2.1] at this
 ·exact h.elim
def fitW (g:Int):Fit (YL g):=⟨by simp [YL],fun p hp=>by simp [YL] at hp;rcases hp with rfl|rfl <;> simp,by simp [YL],fun p hp=>by simp [YL] at hp;rcases hp with rfl|rfl <;> simp,by simp [YL],by simp [YL]⟩
def x1:QbT (YL 22)=.tup [.agg [.v (.int .i64 30),.v (.int .i64 1),.v (.int .i64 30),.v (.int .i64 1),.v (.int .i64 15),.v (.int .i64 2),.v (.int .i64 1),.v (.int .i64 2),.v (.int .i64 (-2)),.v (.int .i64 1),.v (.int .i64 120),.v (.int .i64 1)],.v (.int .i64 0)]:=by kernel_rfl
def x2:Vw (YL 22) 0 1 0 15=.tup [.v (.int .i64 22),.agg [.v (.int .i64 1),.v (.int .i64 2)],.v (.int .i64 0)]:=by kernel_rfl
def x3:JP (YL 22) 0 28=.tup [qi [3,1,2],.v (.int .i64 0)]:=by kernel_rfl
def x4:Vg (YL 23)=.tup [zm [[0,1]],.v (.int .i64 0)]:=by kernel_rfl
def x5:xY 7 [2,0,1]=.tup [qi [5,0,2],.v (.int .i64 0)]:=by kernel_rfl
def dIntV (n:Int):qL [.v (.int .i64 n)]=n:=rfl
def QkQ (l:List (List DV)):q8 [.sl l]=l.map qL:=rfl
def yu:=jw @ty3 (jw @jh (jw @WP (jw @QD (jw @Qg (jw @QkK (jw @ti3.eq_1 (jw @jc.eq_1 (jw @Zn.eq_1 (jw @kI.eq_1 (jw @xD.eq_1 @LH.eq_1))))))))))
def Qn:=jw @dIntV (jw @QkQ (jw @aI.eq_1 (jw @aB.eq_1 (jw @qi.eq_1 (jw @zm.eq_1 (jw @q9.eq_1 (jw @qU.eq_1 (jw @c39.eq_1 (jw @c39.eq_2 (jw @c48.eq_1 (jw @c48.eq_2 (jw @c28.eq_1 (jw @c28.eq_2 (jw @c32.eq_1 (jw @c32.eq_2 (jw @c24.eq_1 (jw @c24.eq_2 (jw @c76.eq_1 (jw @c76.eq_2 (jw @s40.eq_1 (jw @s40.eq_2 (jw @s26.eq_1 (jw @s26.eq_2 (jw @s36.eq_1 (jw @s36.eq_2 (jw @x1 (jw @x2 (jw @x3 (jw @x4 (jw @x5 (jw @xf (jw @jT (jw @kg (jw @Qo (jw @qj.eq_1 (@qC.eq_1))))))))))))))))))))))))))))))))))))
def Qaw:FnV prog 18 [] (aB true):=by
 have env:=qx (A:=fun _=>True) (kC d76 (kC d39 (kC d48 (kC d28 (kC d32 (kC d24 (kC e40 (kC e26 (kC d36 kN)))))))))
 refine kV (Fn0 func18 rfl (fun vs w=>by kernel_rfl) (by kernel_rfl)) (by simp) (by simp []) ?_
 have f1:=fitW 22;have q1:3<=maxLen:=by decide
 have q2:1<=maxLen:=by decide
 have q3:2<=maxLen:=by decide
 have f2:=fitW 23
 repeat' first|(apply nx;with_reducible constructor)|apply jq (by decide)
 (apply jz env;intro Q hQ;simp only [vkt,seval,ite_and];(repeat' first|with_reducible assumption|apply jw|intro hp);all_goals first|(apply hQ;clear hQ Q)|omega|assumption|rfl|(apply jx;kernel_rfl)|skip)
 repeat' first|(apply nx;with_reducible constructor)|apply jq (by decide)
 (apply jz env;intro Q hQ;simp only [vkt,seval,yu,Qn,ite_and];(repeat' first|with_reducible assumption|apply jw|intro hp);all_goals first|(apply hQ;clear hQ Q)|omega|assumption|rfl|(apply jx;kernel_rfl)|skip)
 repeat' first|(apply nx;with_reducible constructor)|apply jq (by decide)
 (apply jz env;intro Q hQ;simp only [vkt,seval,yu,Qn,ite_and];(repeat' first|with_reducible assumption|apply jw|intro hp);all_goals first|(apply hQ;clear hQ Q)|omega|assumption|rfl|(apply jx;kernel_rfl)|skip)
 repeat' first|(apply nx;with_reducible constructor)|apply jq (by decide)
 (apply jz env;intro Q hQ;simp only [vkt,seval,Qn,ite_and];(repeat' first|with_reducible assumption|apply jw|intro hp);all_goals first|(apply hQ;clear hQ Q)|omega|assumption|rfl|(apply jx;kernel_rfl)|skip)
 repeat' first|(apply nx;with_reducible constructor)|apply jq (by decide)
 (apply jz env;intro Q hQ;simp only [vkt,seval,Qn,ite_and];(repeat' first|with_reducible assumption|apply jw|intro hp);all_goals first|(apply hQ;clear hQ Q)|omega|assumption|rfl|(apply jx;kernel_rfl)|skip)
 repeat' first|(apply nx;with_reducible constructor)|apply jq (by decide)
 (apply jz env;intro Q hQ;simp only [vkt,seval,yu,Qn,ite_and];(repeat' first|with_reducible assumption|apply jw|intro hp);all_goals first|(apply hQ;clear hQ Q)|omega|assumption|rfl|(apply jx;kernel_rfl)|skip)
 repeat' first|(apply nx;with_reducible constructor)|apply jq (by decide)
 refine XX (S':={ t:=asg [(2,aI 0),(5,aI 0),(7,aI 0),(9,aI 0),(11,aI 0),(3,aI 22),(4,.ptr 1 0),(1,.ptr 0 0),(6,qi [3,1,2]),(8,zm [[0,1]]),(10,qi [5,0,2])],h:=qg [(0,.cells [.v (.int .i64 30),.v (.int .i64 1),.v (.int .i64 30),.v (.int .i64 1),.v (.int .i64 15),.v (.int .i64 2),.v (.int .i64 1),.v (.int .i64 2),.v (.int .i64 (-2)),.v (.int .i64 1),.v (.int .i64 120),.v (.int .i64 1)]),(1,.cells [aI 1,aI 2])],n:=2 }) ?_ ?_
 ·(refine Le.ok some [] ?_;constructor;all_goals (try simp only [vle,vkt,seval,Qn]))
  all_goals first|rfl|simp
 (apply jz env;intro Q hQ;simp only [vkt,seval,yu,Qn,ite_and];(repeat' first|with_reducible assumption|apply jw|intro hp);all_goals first|(apply hQ;clear hQ Q)|omega|assumption|with_reducible rfl|(apply jx;kernel_rfl)|skip)
 repeat' first|(apply nx;with_reducible constructor)|apply jq (by decide)
 (simp only [vrt,results18,vkt,seval,Qn];refine Fin.val rfl ?_;(try simp only [AV.le]))
 all_goals simp
def c19:List AV->Prop × AV
 |[]=>(True,.v (.bool true))
 |_=>(False,.junk)
def d19 {A:Frm->Prop}:qf A prog 18 (zq true c19):=qD fun vs hv h=>by
 clear hv;unfold c19 at h ⊢
 split at h
 ·exact ⟨trivial,fun _=>trivial,Qaw⟩
 ·exact h.elim
end Go.Sym.B
