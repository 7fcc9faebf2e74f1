/- Walks and what they compute, joined: part 3. -/
import Derived.Test.YtcmfagpdahhfpaaGreatDoorXB2
import Derived.Lib.AppendIntMem
import Derived.WalkKit
import Derived.BigCall
import Derived.WalkSmall
import Derived.Recover
import Derived.TacticsInMore
import Derived.RegionIn
import Derived.RecoverIn
import Derived.Lib.CountLaws
import Derived.Lib.ItoaNum
import Derived.Lib.IndexMore
import Derived.IntWalk
import Derived.Test.YtcmfagpdahhfpaaGreatDoorRows
import Derived.MakeChecks
import Derived.LaidSub
import Derived.LaidMore
import Derived.Lib.LaidU8
import Derived.Lib.LaidTab
import Derived.Shelf.Vars
import Derived.Handed
import GoSem.PinnedTables
import Derived.Test.YtcmfagpdahhfpaaGreatDoorX2
set_option linter.all false
set_option maxRecDepth 100000
set_option maxHeartbeats 40000000
namespace Go.Sym.B
open Go Go.Sym Go.Proofs Go.Proofs.Tryz Go.Sym.C
def Qba (x c d e w:Int) (hc:1<=c/\c<=4) (hd:1<=d/\d<=4) (he:0<=e/\e<=6):Fn noB prog 19 [.ptr 0 0,aI c,aI d,aI e,aI w] (qg (bgH x)) (q9 (lgL x c d e w)) (qg (bgH (lgS x c d e w))) 0:=by
 have env:=qx (A:=fun _=>True) (kC e21 (kC e22 (kC e23r (kC e84 (kC e85 (kC e71 (kC e54 kN)))))))
 refine Fn.of (A:=fun _=>True) (n0:=1) (D:=noD) (Fn0 func19 rfl (fun vs w=>by kernel_rfl) (by kernel_rfl)) (by simp) (by simp [AV.ids,aI]) ?_ (fun _ _ _ _=>trivial) zb ?_
 ·intro i o hi
  have h:=qN hi
  simp [bgH] at h
  rcases h with ⟨rfl,rfl⟩;simp [AObj.ids,AV.ids,AV.idsL]
 have mc:min c 4=c:=by omega
 have md:min d 4=d:=by omega
 have me:min e 6=e:=by omega
 have big:(100000:Nat)<=maxLen:=by decide
 have hu:=vT (x:=x) (m:=c - 1) (by omega) (by omega)
 obtain ⟨V,hV⟩:∃ V:Nat,1+upV x (c - 1)=(V:Int):=⟨(1+upV x (c - 1)).toNat,by omega⟩
 have hV1:1<=V/\V<=4:=by omega
 have g1:lg1 x c=coK (upS x (c - 1)) V:=by unfold lg1;rw [hV];rfl
 generalize hb:upS x (c - 1)=b at *
 repeat' first|(apply nx;with_reducible constructor)|apply uq (by decide)|((first|apply uz env|apply uk);intro Q hQ;simp only [vkt,Nat.reduceEqDiff,Nat.reduceAdd,Nat.reduceSub,Nat.reduceLeDiff,reduceCtorEq,↓reduceIte,Int.reduceLE,Int.reduceNeg,qm,qY,mc,hV,hb,ite_and];(repeat' first|with_reducible assumption|apply vj|intro hp);all_goals first|(apply hQ;clear hQ Q)|omega|assumption|with_reducible rfl|(apply ux;kernel_rfl)|skip)
 refine qh (fun k:{ k:Nat // k<=V }=>lo1 c d e w b V k.1) (fun k=>V - k.1) ⟨0,af _⟩ ?_ fun ⟨k,hk⟩=>?_
 ·(refine Le.ok (fun j=>if j=3\/j=4 then none else some j) [] ?_;constructor;all_goals (try simp only [vle,vkt,Nat.reduceEqDiff,Nat.reduceLeDiff,reduceCtorEq,↓reduceIte,qY]))
  all_goals first|rfl|(simp [coK];done)
 ·repeat' first|(apply nx;with_reducible constructor)|apply uq (by decide)
  (apply uz env;intro Q hQ;simp only [vkt,Nat.reduceEqDiff,reduceCtorEq,qm,qY,ite_and];(repeat' first|with_reducible assumption|apply vj|intro hp);all_goals first|(apply hQ;clear hQ Q)|omega|assumption|with_reducible rfl|(apply ux;kernel_rfl)|skip)
  repeat' first|(apply nx;with_reducible constructor)|apply uq (by decide)
  (refine zk (by simp only [vkt];rfl) (fun h=>?_) (fun h=>?_) <;> (try simp only [vki] at h))
  ·have hlt:k < V:=by omega
   have ok:=UX b k;have hs:=Qap b k
   generalize coK b k=s at *;have u1:=vT (x:=s.x) (m:=3) (by decide) (by decide)
   unfold UC at hs;obtain ⟨K,hK⟩:∃ K:Nat,upV s.x 3=(K:Int):=⟨(upV s.x 3).toNat,by omega⟩
   rw [hK,aW] at hs;generalize hy:upS s.x 3=y at *
   repeat' first|(apply nx;with_reducible constructor)|apply uq (by decide)|((first|apply uz env|apply uk);intro Q hQ;simp only [vkt,Nat.reduceEqDiff,Nat.reduceAdd,Nat.reduceMul,Nat.reduceSub,Nat.reduceLeDiff,reduceCtorEq,↓reduceIte,Int.reduceLT,qm,qY,hK,hy,ite_and];(repeat' first|with_reducible assumption|apply vj|intro hp);all_goals first|(apply hQ;clear hQ Q)|omega|assumption|with_reducible rfl|(apply ux;kernel_rfl)|skip)
   refine qh (fun j:{ j:Nat // j<=K }=>lo2 c d e w s y V k K j.1) (fun j=>K - j.1) ⟨0,af _⟩ ?_ fun ⟨j,hj⟩=>?_
   ·(refine Le.ok some [] ?_;constructor;all_goals (try simp only [vle,vkt,Nat.reduceEqDiff,Nat.reduceLeDiff,reduceCtorEq,↓reduceIte,qY]))
    all_goals first|rfl|(simp [pcK,qj];done)
   ·repeat' first|(apply nx;with_reducible constructor)|apply uq (by decide)
    (apply uz env;intro Q hQ;simp only [vkt,Nat.reduceEqDiff,reduceCtorEq,qm,qY,ite_and];(repeat' first|with_reducible assumption|apply vj|intro hp);all_goals first|(apply hQ;clear hQ Q)|omega|assumption|with_reducible rfl|(apply ux;kernel_rfl)|skip)
    repeat' first|(apply nx;with_reducible constructor)|apply uq (by decide)
    (refine zk (by simp only [vkt];rfl) (fun h=>?_) (fun h=>?_) <;> (try simp only [vki] at h))
    ·have hjl:j < K:=by omega
     have pk:=Uh y j;have pl:=pk.len
     have pb:=pk.le j (ag _);have hp1:=pcK_1 y j
     have hp2:=(pcK_2 y j).symm;have q1:=vT (x:=(pcK y j).2) (m:=12 - 1) (by decide) (by decide)
     generalize (pcK y j).1=p at *;generalize (pcK y j).2=z at *
     have e7:IntKind.wrap .i64 ((K:Int) - (j:Int) - 1)=(K:Int) - ((j+1:Nat):Int):=by rw [wrap64 (by omega) (by omega)];omega
     have e8:IntKind.wrap .i64 (((j+1:Nat):Int) - 1)=(j:Int):=by rw [wrap64 (by omega) (by omega)];omega
     have e9:IntKind.wrap .i64 (p.getD j 0+(1+upV z (12 - 1)))=p.getD j 0+(1+upV z (12 - 1)):=wrap64 (by omega) (by omega)
     have e5:j < p.length:=by omega
     have m1:(j+1+1) * 8<=140737488355328/\j+1+1<=maxLen:=by omega
     have e6:=gI0 e5;have e4:p.map qj++[[.v (.int .i64 (p.getD j 0+(1+upV z (12 - 1))))]]=(pcK y (j+1)).1.map qj:=by rw [hp1,ae];rfl
     repeat' first|(apply nx;with_reducible constructor)|apply uq (by decide)|((first|apply uz env|apply uk);intro Q hQ;simp only [vkt,Nat.reduceEqDiff,Nat.reduceAdd,Nat.reduceMul,Nat.reduceSub,Nat.reduceLeDiff,reduceCtorEq,↓reduceIte,Int.reduceLE,Int.reduceNeg,qm,qY,e7,e8,e6,e9,e4,pl,hp2,ite_and];(repeat' first|with_reducible assumption|apply vj|intro hp);all_goals first|(apply hQ;clear hQ Q)|omega|assumption|with_reducible rfl|(apply ux;kernel_rfl)|skip)
     refine ⟨⟨j+1,hjl⟩,by show K - (j+1) < K - j;omega, ?_⟩
     (refine Le.ok (fun j=>if j=5 then some 7 else some j) [] ?_;constructor;all_goals (try simp only [vle,vkt,Nat.reduceEqDiff,Nat.reduceLeDiff,reduceCtorEq,↓reduceIte,qY]))
     all_goals first|rfl|simp
    ·have hjk:j=K:=by omega
     subst hjk;have okc:=ok.c
     have okl:=ok.l;have pl:=(Uh y j).len
     generalize hq1:(pcK y j).1=p at *;generalize hq2:(pcK y j).2=z at *
     refine XX (S':=lo3 c d e w s p z V k) ?_ ?_
     ·(refine Le.ok some [5] ?_;constructor;all_goals (try simp only [vle,vkt,Nat.reduceEqDiff,Nat.reduceLeDiff,reduceCtorEq,↓reduceIte,qY]))
      all_goals first|rfl|(simp [];done)|(rw [hq1];exact ⟨_,_,rfl⟩)|exact ⟨_,_,rfl⟩
     have m1:(k+1) * 24<=140737488355328/\(k+1) * 8<=140737488355328/\k+1<=maxLen:=by omega
     have e7:IntKind.wrap .i64 ((V:Int) - (k:Int) - 1)=(V:Int) - ((k+1:Nat):Int):=by rw [wrap64 (by omega) (by omega)];omega
     have e4:s.cs.map qC++[[.sl (p.map qj)]]=(s.cs++[p]).map qC:=by rw [ae];rfl
     have e5:s.ss.map qj++[[.v (.int .i64 (upV z 200))]]=(s.ss++[upV z 200]).map qj:=by rw [ae];rfl
     repeat' first|(apply nx;with_reducible constructor)|apply uq (by decide)|((first|apply uz env|apply uk);intro Q hQ;simp only [vkt,Nat.reduceEqDiff,Nat.reduceAdd,Nat.reduceMul,Nat.reduceSub,Nat.reduceLeDiff,reduceCtorEq,↓reduceIte,Int.reduceLT,qm,qY,e7,e4,e5,okc,okl,ite_and];(repeat' first|with_reducible assumption|apply vj|intro hp);all_goals first|(apply hQ;clear hQ Q)|omega|assumption|with_reducible rfl|(apply ux;kernel_rfl)|skip)
     refine ⟨⟨k+1,hlt⟩,by show V - (k+1) < V - k;omega, ?_⟩
     (refine Le.ok (fun j=>if j=3 then some 6 else if j=4 then some 8 else some j) [] ?_;constructor;all_goals (try simp only [vle,vkt,Nat.reduceEqDiff,Nat.reduceLeDiff,reduceCtorEq,↓reduceIte,qY]))
     all_goals first|rfl|(simp [hs];done)
  ·have hkV:k=V:=by omega
   subst hkV;have ok:=UX b k
   have g2:lg2 x c d=dyK ((lg1 x c).cs.length - 1) (upS (lg1 x c).x (d - 1)) (1+upV (lg1 x c).x (d - 1)).toNat:=rfl;have g3:lg3 x c d e w=enK (lg1 x c).cs.length (lg2 x c d).1 w ⟨0,(lg1 x c).ss,[],upS (lg2 x c d).2 e⟩ (upV (lg2 x c d).2 e).toNat:=rfl
   have gL:lgL x c d e w=⟨(lg1 x c).cs,(lg2 x c d).1,(lg1 x c).ss,(lg3 x c d e w).es⟩:=rfl;have gS:lgS x c d e w=(lg3 x c d e w).x:=rfl
   generalize lg1 x c=co at *;rw [<- g1] at ok ⊢
   clear g1 hb;have okc:=ok.c
   have okl:=ok.l;have hu2:=vT (x:=co.x) (m:=d - 1) (by omega) (by omega)
   obtain ⟨W,hW⟩:∃ W:Nat,1+upV co.x (d - 1)=(W:Int):=⟨(1+upV co.x (d - 1)).toNat,by omega⟩
   have hW1:1<=W/\W<=4:=by omega
   obtain ⟨m,hm⟩:∃ m,m+1=co.cs.length:=⟨co.cs.length - 1,by omega⟩
   have hmC:co.cs.length - 1=m:=by omega
   rw [hW,hmC,aW] at g2;generalize hb2:upS co.x (d - 1)=b2 at *
   repeat' first|(apply nx;with_reducible constructor)|apply uq (by decide)|((first|apply uz env|apply uk);intro Q hQ;simp only [vkt,Nat.reduceEqDiff,Nat.reduceSub,reduceCtorEq,↓reduceIte,Int.reduceLE,Int.reduceNeg,qY,md,hW,hb2,ite_and];(repeat' first|with_reducible assumption|apply vj|intro hp);all_goals first|(apply hQ;clear hQ Q)|omega|assumption|with_reducible rfl|(apply ux;kernel_rfl)|skip)
   refine qh (fun k:{ k:Nat // k<=W }=>ld1 c d e w co m b2 W k.1) (fun k=>W - k.1) ⟨0,af _⟩ ?_ fun ⟨i,hi⟩=>?_
   ·(refine Le.ok (fun j=>if j=5 then none else some j) [] ?_;constructor;all_goals (try simp only [vle,vkt,Nat.reduceEqDiff,Nat.reduceLeDiff,reduceCtorEq,↓reduceIte,qY]))
    all_goals first|rfl|(simp [dyK];done)
   ·repeat' first|(apply nx;with_reducible constructor)|apply uq (by decide)
    (apply uz env;intro Q hQ;simp only [vkt,Nat.reduceEqDiff,reduceCtorEq,qm,qY,ite_and];(repeat' first|with_reducible assumption|apply vj|intro hp);all_goals first|(apply hQ;clear hQ Q)|omega|assumption|with_reducible rfl|(apply ux;kernel_rfl)|skip)
    repeat' first|(apply nx;with_reducible constructor)|apply uq (by decide)
    (refine zk (by simp only [vkt];rfl) (fun h=>?_) (fun h=>?_) <;> (try simp only [vki] at h))
    ·have hlt:i < W:=by omega
     have okd:=UV m b2 i;have hs1:=dyK_1 m b2 i
     have hs2:=dyK_2 m b2 i;generalize (dyK m b2 i).1=rs at *
     generalize (dyK m b2 i).2=y at *
     repeat' first|(apply nx;with_reducible constructor)|apply uq (by decide)|((first|apply uz env|apply uk);intro Q hQ;simp only [vkt,Nat.reduceEqDiff,Nat.reduceAdd,Nat.reduceMul,Nat.reduceLeDiff,reduceCtorEq,↓reduceIte,qm,ite_and];(repeat' first|with_reducible assumption|apply vj|intro hp);all_goals first|(apply hQ;clear hQ Q)|omega|assumption|with_reducible rfl|(apply ux;kernel_rfl)|skip)
     refine qh (fun j:{ j:Nat // j<=m }=>ld2 c d e w co rs y W i j.1) (fun j=>m - j.1) ⟨0,af _⟩ ?_ fun ⟨j,hj⟩=>?_
     ·(refine Le.ok some [] ?_;constructor;all_goals (try simp only [vle,vkt,Nat.reduceEqDiff,Nat.reduceLeDiff,reduceCtorEq,↓reduceIte,qY]))
      all_goals first|rfl|(simp [rtK,eSh];done)
     ·repeat' first|(apply nx;with_reducible constructor)|apply uq (by decide)
      (apply uz env;intro Q hQ;simp only [vkt,Nat.reduceEqDiff,Nat.reduceAdd,Nat.reduceLeDiff,reduceCtorEq,qm,qY,ite_and];(repeat' first|with_reducible assumption|apply vj|intro hp);all_goals first|(apply hQ;clear hQ Q)|omega|assumption|with_reducible rfl|(apply ux;kernel_rfl)|skip)
      repeat' first|(apply nx;with_reducible constructor)|apply uq (by decide)
      (refine zk (by simp only [vkt];rfl) (fun h=>?_) (fun h=>?_) <;> (try simp only [vki] at h))
      ·have hjl:j < m:=by omega
       have pl:=(QbY y j).len;have hp1:=rtK_1 y j
       have hp2:=(rtK_2 y j).symm;generalize (rtK y j).1=r at *
       generalize (rtK y j).2=z at *;have e7:IntKind.wrap .i64 ((j:Int)+1+1)=((j+1:Nat):Int)+1:=by rw [wrap64 (by omega) (by omega)];omega
       have m1:(j+1+1) * 16<=140737488355328/\j+1+1<=maxLen:=by omega
       have e4:r.map eSh++[[.v (.int .i64 (rtV z).num),.v (.int .i64 (rtV z).den)]]=(rtK y (j+1)).1.map eSh:=by rw [hp1,ae];rfl
       repeat' first|(apply nx;with_reducible constructor)|apply uq (by decide)|((first|apply uz env|apply uk);intro Q hQ;simp only [vkt,Nat.reduceEqDiff,Nat.reduceAdd,Nat.reduceMul,Nat.reduceSub,Nat.reduceLeDiff,reduceCtorEq,↓reduceIte,qm,qY,e7,e4,pl,hp2,ite_and];(repeat' first|with_reducible assumption|apply vj|intro hp);all_goals first|(apply hQ;clear hQ Q)|omega|assumption|with_reducible rfl|(apply ux;kernel_rfl)|skip)
       refine ⟨⟨j+1,hjl⟩,by show m - (j+1) < m - j;omega, ?_⟩
       (refine Le.ok (fun j=>if j=6 then some 8 else some j) [] ?_;constructor;all_goals (try simp only [vle,vkt,Nat.reduceEqDiff,Nat.reduceLeDiff,reduceCtorEq,↓reduceIte,qY]))
       all_goals first|rfl|simp
      ·have hjm:j=m:=by omega
       subst hjm;generalize hq1:(rtK y j).1=r at *
       generalize hq2:(rtK y j).2=z at *;have okd1:=okd.1
       refine XX (S':=ld3 c d e w co rs r z W i) ?_ ?_
       ·(refine Le.ok some [6] ?_;constructor;all_goals (try simp only [vle,vkt,Nat.reduceEqDiff,Nat.reduceLeDiff,reduceCtorEq,↓reduceIte,qY]))
        all_goals first|rfl|(simp [];done)|(rw [hq1];exact ⟨_,_,rfl⟩)|exact ⟨_,_,rfl⟩
       have m1:(i+1) * 24<=140737488355328/\i+1<=maxLen:=by omega
       have e7:IntKind.wrap .i64 ((W:Int) - (i:Int) - 1)=(W:Int) - ((i+1:Nat):Int):=by rw [wrap64 (by omega) (by omega)];omega
       have e4:rs.map zM++[[.sl (r.map eSh)]]=(rs++[r]).map zM:=by rw [ae];rfl
       repeat' first|(apply nx;with_reducible constructor)|apply uq (by decide)|((first|apply uz env|apply uk);intro Q hQ;simp only [vkt,Nat.reduceEqDiff,Nat.reduceAdd,Nat.reduceMul,Nat.reduceLeDiff,reduceCtorEq,↓reduceIte,qm,qY,e7,e4,okd1,ite_and];(repeat' first|with_reducible assumption|apply vj|intro hp);all_goals first|(apply hQ;clear hQ Q)|omega|assumption|with_reducible rfl|(apply ux;kernel_rfl)|skip)
       refine ⟨⟨i+1,hlt⟩,by show W - (i+1) < W - i;omega, ?_⟩
       (refine Le.ok (fun j=>if j=5 then some 7 else some j) [] ?_;constructor;all_goals (try simp only [vle,vkt,Nat.reduceEqDiff,Nat.reduceLeDiff,reduceCtorEq,↓reduceIte,qY]))
       all_goals first|rfl|(simp [hs1,hs2];done)
    ·have hiW:i=W:=by omega
     subst hiW;have okd:=UV m b2 i
     generalize lg2 x c d=dy at *;rw [<- g2] at okd ⊢
     clear g2 hb2;obtain ⟨rs,y⟩:=dy
     dsimp only at okd g3 gL ⊢;obtain ⟨okd1,okd2⟩:=okd
     subst okd1;subst okc
     have hrs:RsOk rs co.cs.length:=⟨by omega,fun r hr=>by have:=okd2 r hr;rwa [hm] at this⟩
     have hC:1<=co.cs.length/\co.cs.length<=4:=by omega
     have hu3:=vT (x:=y) (m:=e) (by omega) (by omega)
     obtain ⟨U,hU⟩:∃ U:Nat,upV y e=(U:Int):=⟨(upV y e).toNat,by omega⟩
     rw [hU,aW] at g3;have hU6:U<=6:=by omega
     have m6:co.ss.length<=100000:=by omega
     have m7:e < 9223372036854775807:=by omega
     generalize hy3:upS y e=y3 at *;have hI0:EnI co.cs.length rs.length 0 ⟨0,co.ss,[],y3⟩:=⟨Int.le_refl _,by show (0:Int)<=_;omega,okl,fun v hv=>by have:=ok.v v hv;omega,ag _⟩
     have hIk:=QcJ hrs hC (w:=w) hI0;have hE0:enK co.cs.length rs w ⟨0,co.ss,[],y3⟩ 0=⟨0,co.ss,[],y3⟩:=rfl
     have hst:=enK_1 co.cs.length rs w ⟨0,co.ss,[],y3⟩;generalize enK co.cs.length rs w ⟨0,co.ss,[],y3⟩=EK at *
     repeat' first|(apply nx;with_reducible constructor)|apply uq (by decide)|((first|apply uz env|apply uk);intro Q hQ;simp only [vkt,Nat.reduceEqDiff,Nat.reduceAdd,Nat.reduceSub,Nat.reduceLeDiff,reduceCtorEq,↓reduceIte,qm,qY,me,hU,hy3,ite_and];(repeat' first|with_reducible assumption|apply vj|intro hp);all_goals first|(apply hQ;clear hQ Q)|omega|assumption|with_reducible rfl|(apply ux;kernel_rfl)|skip)
     all_goals first|exact ⟨_,_,rfl⟩|skip
     refine qh (fun k:{ k:Nat // k<=U }=>le1 c d e w co rs (EK k.1) U k.1) (fun k=>U - k.1) ⟨0,af _⟩ ?_ fun ⟨q,hq⟩=>?_
     ·(refine Le.ok (fun j=>if j=7 then none else some j) [] ?_;constructor;all_goals (try simp only [vle,vkt,Nat.reduceEqDiff,Nat.reduceLeDiff,reduceCtorEq,↓reduceIte,qY]))
      all_goals first|rfl|(simp [hE0];done)
     ·repeat' first|(apply nx;with_reducible constructor)|apply uq (by decide)
      (apply uz env;intro Q hQ;simp only [vkt,Nat.reduceEqDiff,reduceCtorEq,qm,qY,ite_and];(repeat' first|with_reducible assumption|apply vj|intro hp);all_goals first|(apply hQ;clear hQ Q)|omega|assumption|with_reducible rfl|(apply ux;kernel_rfl)|skip)
      repeat' first|(apply nx;with_reducible constructor)|apply uq (by decide)
      (refine zk (by simp only [vkt];rfl) (fun h=>?_) (fun h=>?_) <;> (try simp only [vki] at h))
      ·have hlt:q < U:=by omega
       have hI:=hIk q;have hJ:=QfZ hrs hC hI
       have hst:=hst q;generalize EK q=t at *
       unfold QcL enK0 Qet kinds at hst;unfold Qet at hJ
       have hDb:=QgV hI (by omega)
       obtain ⟨D,hD⟩:∃ D,enD rs.length t=D:=⟨_,rfl⟩;obtain ⟨X1,hX1⟩:∃ X1,enX1 rs.length t=X1:=⟨_,rfl⟩
       rw [hD] at hst hJ;rw [hX1] at hst hJ
       have hD':t.day+upV t.x (min (t.day+1) ((rs.length:Int) - 1) - t.day)=D:=hD;have hX1':upS t.x (min (t.day+1) ((rs.length:Int) - 1) - t.day)=X1:=hX1
       clear hD hX1 hDb;obtain ⟨κ,hκ⟩:∃ κ,QbE X1 [1,2,3,3,3,4]=κ:=⟨_,rfl⟩
       obtain ⟨X2,hX2⟩:∃ X2,upS X1 ((6:Nat) - 1)=X2:=⟨_,rfl⟩;rw [hκ,hX2] at hst
       rw [hX2] at hJ;obtain ⟨cn,hcn⟩:∃ cn,upV X2 ((co.cs.length:Int) - 1)=cn:=⟨_,rfl⟩
       obtain ⟨X3,hX3⟩:∃ X3,upS X2 ((co.cs.length:Int) - 1)=X3:=⟨_,rfl⟩;rw [hcn] at hst hJ
       rw [hX3] at hst;have t1:=hI.len
       have t2:=hI.es;have t3:=hI.d0
       have t4:=hI.d1;have j1:=hJ.d0
       have j2:=hJ.d1;have j3:=hJ.c0
       have j4:=hJ.c1;have j5:=hJ.h
       have wD:IntKind.wrap .i64 (t.day+1)=t.day+1:=wrap64 (by omega) (by omega)
       have wR:IntKind.wrap .i64 ((rs.length:Int) - 1)=(rs.length:Int) - 1:=wrap64 (by omega) (by omega)
       have wC:IntKind.wrap .i64 ((co.cs.length:Int) - 1)=(co.cs.length:Int) - 1:=wrap64 (by omega) (by omega)
       have e7:IntKind.wrap .i64 ((U:Int) - (q:Int) - 1)=(U:Int) - ((q+1:Nat):Int):=by rw [wrap64 (by omega) (by omega)];omega
       have m1:(t.es.length+1) * 48<=140737488355328/\t.es.length+1<=maxLen:=by omega
       have lc:cn.toNat < t.till.length:=by omega
       have e6:=gI0 lc;have p1:-100000<=t.day/\t.day<=100000/\-100000<=min (t.day+1) ((rs.length:Int) - 1)/\min (t.day+1) ((rs.length:Int) - 1)<=100000:=by omega
       have p2:(co.cs.length:Int) - 1 < 9223372036854775807:=by omega
       generalize hh:t.till.getD cn.toNat 0=hv at *
       by_cases k1:κ=1
       ·subst k1
        have hst:EK (q+1)=⟨D,t.till.set cn.toNat (hv+upV X3 90),t.es++[⟨D,1,cn,0,upV X3 90,0⟩],upS X3 90⟩:=by rw [hst];unfold Qce enS1;rw [if_pos rfl,hh]
        have u1:=vT (x:=X3) (m:=90) (by decide) (by decide)
        have w1:IntKind.wrap .i64 (hv+upV X3 90)=hv+upV X3 90:=wrap64 (by omega) (by omega)
        have e4:t.es.map zC++[[.v (.int .i64 D),.v (.int .i64 1),.v (.int .i64 cn),.v (.int .i64 0),.v (.int .i64 (upV X3 90)),.v (.int .i64 0)]]=(t.es++[(⟨D,1,cn,0,upV X3 90,0⟩:Ent)]).map zC:=by rw [ae];rfl
        repeat' first|(apply nx;with_reducible constructor)|apply uq (by decide)|((first|apply uz env|apply uk);intro Q hQ;simp only [vkt,Nat.reduceEqDiff,Nat.reduceAdd,Nat.reduceMul,Nat.reduceSub,Nat.reduceLeDiff,reduceCtorEq,↓reduceIte,Int.reduceLT,Int.reduceNeg,qm,qY,wD,wR,wC,hD',hX1',hκ,hX2,hcn,hX3,e6,w1,e4,e7,KP,ite_and];(repeat' first|with_reducible assumption|apply vj);all_goals first|(apply hQ;clear hQ Q)|omega|with_reducible assumption|rfl|(apply ux;kernel_rfl)|skip)
        all_goals first|exact ⟨_,_,rfl⟩|skip
        refine ⟨⟨q+1,hlt⟩,by show U - (q+1) < U - q;omega, ?_⟩
        (refine Le.ok (fun j=>if j=7 then some 11 else some j) [] ?_;constructor;all_goals (try simp only [vle,vkt,Nat.reduceEqDiff,Nat.reduceLeDiff,reduceCtorEq,↓reduceIte,qY]))
        all_goals first|rfl|(simp [hst];done)
       by_cases k2:κ=2
       ·subst k2
        have u1:=kH (x:=X3) (m:=min hv 90) (by omega)
        have hst:EK (q+1)=⟨D,t.till.set cn.toNat (hv - upV X3 (min hv 90)),t.es++[(⟨D,2,cn,0,upV X3 (min hv 90),0⟩:Ent)],upS X3 (min hv 90)⟩:=by rw [hst];unfold Qce enS2;rw [if_neg (by decide),if_pos rfl,hh]
        obtain ⟨am,hA⟩:∃ am,upV X3 (min hv 90)=am:=⟨_,rfl⟩;obtain ⟨X4,hX4⟩:∃ X4,upS X3 (min hv 90)=X4:=⟨_,rfl⟩
        rw [hA,hX4] at hst;rw [hA] at u1
        have p3:min hv 90 < 9223372036854775807:=by omega
        have w1:IntKind.wrap .i64 (hv - am)=hv - am:=wrap64 (by omega) (by omega)
        have e4:t.es.map zC++[[.v (.int .i64 D),.v (.int .i64 2),.v (.int .i64 cn),.v (.int .i64 0),.v (.int .i64 am),.v (.int .i64 0)]]=(t.es++[(⟨D,2,cn,0,am,0⟩:Ent)]).map zC:=by rw [ae];rfl
        repeat' first|(apply nx;with_reducible constructor)|apply uq (by decide)|((first|apply uz env|apply uk);intro Q hQ;simp only [vkt,Nat.reduceEqDiff,Nat.reduceAdd,Nat.reduceMul,Nat.reduceSub,Nat.reduceLeDiff,reduceCtorEq,↓reduceIte,Int.reduceEq,Int.reduceNeg,qm,qY,wD,wR,wC,hD',hX1',hκ,hX2,hcn,hX3,e6,hA,hX4,w1,e4,e7,KP,ite_and];(repeat' first|with_reducible assumption|apply vj);all_goals first|(apply hQ;clear hQ Q)|omega|with_reducible assumption|rfl|(apply ux;kernel_rfl)|skip)
        all_goals first|exact ⟨_,_,rfl⟩|skip
        refine ⟨⟨q+1,hlt⟩,by show U - (q+1) < U - q;omega, ?_⟩
        (refine Le.ok (fun j=>if j=7 then some 11 else some j) [] ?_;constructor;all_goals (try simp only [vle,vkt,Nat.reduceEqDiff,Nat.reduceLeDiff,reduceCtorEq,↓reduceIte,qY]))
        all_goals first|rfl|(simp [hst];done)
       by_cases k4:κ=4
       ·subst k4
        have u1:=QdY hv X3;have u2:=kH (x:=X3) (m:=3 - -3) (by decide)
        have hst:EK (q+1)=⟨D,t.till.set cn.toNat (Qbo hv X3),t.es++[(⟨D,4,cn,0,Qbo hv X3,0⟩:Ent)],upS (upS X3 (3 - -3)) ((2:Nat) - 1)⟩:=by rw [hst];unfold Qce enS4;rw [if_neg (by decide),if_neg (by decide),if_pos rfl,hh]
        unfold Qbo enF at hst u1;obtain ⟨f,hf⟩:∃ f,-3+upV X3 (3 - -3)=f:=⟨_,rfl⟩
        obtain ⟨X4,hX4⟩:∃ X4,upS X3 (3 - -3)=X4:=⟨_,rfl⟩;have hf3:-3<=f/\f<=3:=by omega
        rw [hf,hX4] at hst u1;have ho:=QaR (x:=X4) (l:=[0,f]) (by simp) (by simp)
        obtain ⟨o,hO⟩:∃ o,QbE X4 [0,f]=o:=⟨_,rfl⟩;obtain ⟨X5,hX5⟩:∃ X5,upS X4 ((2:Nat) - 1)=X5:=⟨_,rfl⟩
        rw [hO,hX5] at hst;rw [hO] at u1 ho
        have ho:-3<=o/\o<=3:=by simp at ho;omega
        have w1:IntKind.wrap .i64 (hv+o)=hv+o:=wrap64 (by omega) (by omega)
        obtain ⟨am,hA⟩:∃ am,max 0 (min 999 (hv+o))=am:=⟨_,rfl⟩;rw [hA] at hst
        have e4:t.es.map zC++[[.v (.int .i64 D),.v (.int .i64 4),.v (.int .i64 cn),.v (.int .i64 0),.v (.int .i64 am),.v (.int .i64 0)]]=(t.es++[(⟨D,4,cn,0,am,0⟩:Ent)]).map zC:=by rw [ae];rfl
        repeat' first|(apply nx;with_reducible constructor)|apply uq (by decide)|((first|apply uz env|apply uk);intro Q hQ;simp only [vkt,Nat.reduceEqDiff,Nat.reduceAdd,Nat.reduceMul,Nat.reduceSub,Nat.reduceLeDiff,reduceCtorEq,↓reduceIte,Int.reduceLE,Int.reduceEq,Int.reduceNeg,qm,qY,wD,wR,wC,hD',hX1',hκ,hX2,hcn,hX3,e6,hf,hX4,hO,hX5,w1,hA,e4,e7,KP,ite_and];(repeat' first|with_reducible assumption|apply vj);all_goals first|(apply hQ;clear hQ Q)|omega|with_reducible assumption|rfl|(apply ux;kernel_rfl)|skip)
        all_goals first|exact ⟨_,_,rfl⟩|skip
        all_goals first|exact ⟨_,_,rfl⟩|skip
        refine ⟨⟨q+1,hlt⟩,by show U - (q+1) < U - q;omega, ?_⟩
        (refine Le.ok (fun j=>if j=7 then some 12 else some j) [] ?_;constructor;all_goals (try simp only [vle,vkt,Nat.reduceEqDiff,Nat.reduceLeDiff,reduceCtorEq,↓reduceIte,qY]))
        all_goals first|rfl|(simp [hst];done)
       have k3:κ=3:=by
        have:=QaR (x:=X1) (l:=[1,2,3,3,3,4]) (by simp) (by simp)
        rw [hκ] at this
        simp at this
        omega
       subst k3;unfold Qce at hst
       rw [if_neg k1,if_neg k2,if_neg k4] at hst;unfold enS3 at hst
       by_cases cC:co.cs.length=1
       ·rw [if_pos cC] at hst
        have cC':decide ((co.cs.length:Int)=1)=true:=by simp [cC]
        repeat' first|(apply nx;with_reducible constructor)|apply uq (by decide)|((first|apply uz env|apply uk);intro Q hQ;simp only [vkt,Nat.reduceEqDiff,Nat.reduceAdd,Nat.reduceMul,Nat.reduceSub,Nat.reduceLeDiff,reduceCtorEq,↓reduceIte,Int.reduceEq,Int.reduceNeg,qm,qY,wD,wR,wC,hD',hX1',hκ,hX2,hcn,hX3,cC',e7,ite_and];(repeat' first|with_reducible assumption|apply vj);all_goals first|(apply hQ;clear hQ Q)|omega|with_reducible assumption|rfl|(apply ux;kernel_rfl)|skip)
        all_goals first|exact ⟨_,_,rfl⟩|skip
        refine ⟨⟨q+1,hlt⟩,by show U - (q+1) < U - q;omega, ?_⟩
        (refine Le.ok some [] ?_;constructor;all_goals (try simp only [vle,vkt,Nat.reduceEqDiff,Nat.reduceLeDiff,reduceCtorEq,↓reduceIte,qY]))
        all_goals first|rfl|(simp [hst];done)
       ·rw [if_neg cC] at hst
        have cC':¬ (co.cs.length:Int)=1:=by omega
        have u1:=vT (x:=X3) (m:=(co.cs.length:Int) - 1 - 1) (by omega) (by omega)
        have wT:IntKind.wrap .i64 (cn+(1+upV X3 ((co.cs.length:Int) - 1 - 1)))=cn+(1+upV X3 ((co.cs.length:Int) - 1 - 1)):=wrap64 (by omega) (by omega)
        have hT2:J5 (cn+(1+upV X3 ((co.cs.length:Int) - 1 - 1))) (co.cs.length:Int)=Qco co.cs.length cn X3:=rfl;have hTb:0<=Qco co.cs.length cn X3/\Qco co.cs.length cn X3 < (co.cs.length:Int):=Qbc (by omega)
        obtain ⟨to,hT⟩:∃ to,J5 (cn+(1+upV X3 ((co.cs.length:Int) - 1 - 1))) (co.cs.length:Int)=to:=⟨_,rfl⟩;rw [<- hT2,hT] at hst hTb
        clear hT2;obtain ⟨X4,hX4⟩:∃ X4,upS X3 ((co.cs.length:Int) - 1 - 1)=X4:=⟨_,rfl⟩
        rw [hX4,hh] at hst;have u2:=kH (x:=X4) (m:=min hv 40) (by omega)
        obtain ⟨am,hA⟩:∃ am,upV X4 (min hv 40)=am:=⟨_,rfl⟩;obtain ⟨X5,hX5⟩:∃ X5,upS X4 (min hv 40)=X5:=⟨_,rfl⟩
        rw [hA,hX5] at hst;rw [hA] at u2
        have am0:0<=am/\am<=40/\am<=hv:=by omega
        have s1:=hrs.sh j1 j2 j3 j4;have s2:=hrs.sh j1 j2 hTb.1 (show to<=(co.cs.length:Int) - 1 by omega)
        have hGb:=QdQ s1 s2 am0.1 am0.2.1;have lD:D.toNat < rs.length:=by omega
        have g1:=gRow lD;have lR:=(okd2 _ (jr (l:=rs) (k:=D.toNat) (d:=[]) lD)).len
        have q1:=s1.n;have q2:=s1.d
        have q3:=s2.n;have q4:=s2.d
        obtain ⟨G,hG0⟩:∃ G,QcW rs D cn to am=G:=⟨_,rfl⟩;unfold QhK at hst
        rw [hG0] at hst hGb;unfold QcW at hG0
        generalize rs.getD D.toNat []=rw at *;obtain ⟨f,hf⟩:∃ f,rw.getD cn.toNat default=f:=⟨_,rfl⟩
        obtain ⟨g,hg⟩:∃ g,rw.getD to.toNat default=g:=⟨_,rfl⟩;rw [hf] at q1 q2 hG0
        rw [hg] at q3 q4 hG0;have lf:cn.toNat < rw.length:=by omega
        have lg:to.toNat < rw.length:=by omega
        have G1:(rw.map eSh).getD cn.toNat [.v (.int .i64 0),.v (.int .i64 0)]=[.v (.int .i64 f.num),.v (.int .i64 f.den)]:=by rw [gSh,hf];rfl
        have G2:(rw.map eSh).getD to.toNat [.v (.int .i64 0),.v (.int .i64 0)]=[.v (.int .i64 g.num),.v (.int .i64 g.den)]:=by rw [gSh,hg];rfl
        have m1':0<=am * f.num/\am * f.num<=800:=⟨dq am0.1 (by omega),dt (cH am0.2.1 q1.2 (by omega) (by omega)) (by decide)⟩
        have m2':0<=am * f.num * g.den/\am * f.num * g.den<=9600:=⟨dq m1'.1 (by omega),dt (cH m1'.2 q4.2 (by omega) (by omega)) (by decide)⟩
        have m3':0 < f.den * g.num/\f.den * g.num<=240:=⟨cG (by omega) (by omega),dt (cH q2.2 q3.2 (by omega) (by omega)) (by decide)⟩
        have wa:IntKind.wrap .i64 (am * f.num)=am * f.num:=wrap64 (by omega) (by omega)
        have wb:IntKind.wrap .i64 (am * f.num * g.den)=am * f.num * g.den:=wrap64 (by omega) (by omega)
        have wc:IntKind.wrap .i64 (f.den * g.num)=f.den * g.num:=wrap64 (by omega) (by omega)
        have nz:¬ f.den * g.num=0:=by omega
        have hG:(am * f.num * g.den).tdiv (f.den * g.num)=G:=hG0;have wd:IntKind.wrap .i64 G=G:=wrap64 (by omega) (by omega)
        have ltl:to.toNat < t.till.length:=by omega
        have g2:=gI0 ltl;have hht0:=hI.b _ (jr (l:=t.till) (k:=to.toNat) (d:=0) ltl)
        obtain ⟨ht,hht⟩:∃ ht,t.till.getD to.toNat 0=ht:=⟨_,rfl⟩;rw [hht] at g2 hht0
        have w0:IntKind.wrap .i64 (hv - am)=hv - am:=wrap64 (by omega) (by omega)
        have p3:min hv 40 < 9223372036854775807:=by omega
        have p4:(co.cs.length:Int)<=1000000:=by omega
        have et:to.toNat < (t.till.set cn.toNat (hv - am)).length:=by rw [dp];exact ltl
        have g3:=gI0 et;obtain ⟨X6,hX6⟩:∃ X6,upS X5 (10 - 1)=X6:=⟨_,rfl⟩
        rw [hX6] at hst
        by_cases c5:upV X5 (10 - 1) < w
        ·rw [if_pos c5] at hst
         have u3:=vT (x:=X6) (m:=3 - 1) (by decide) (by decide)
         obtain ⟨v,hv3⟩:∃ v,1+upV X6 (3 - 1)=v:=⟨_,rfl⟩;obtain ⟨X7,hX7⟩:∃ X7,upS X6 (3 - 1)=X7:=⟨_,rfl⟩
         rw [hv3,hX7] at hst;have wg:IntKind.wrap .i64 (G+v)=G+v:=wrap64 (by omega) (by omega)
         by_cases c6:999 < G+v
         ·have hst:EK (q+1)=⟨D,t.till,t.es,X7⟩:=by rw [hst];unfold VF;rw [if_pos c6]
          repeat' first|(apply nx;with_reducible constructor)|apply uq (by decide)|((first|apply uz env|apply uk);intro Q hQ;simp only [vkt,Nat.reduceEqDiff,Nat.reduceAdd,Nat.reduceMul,Nat.reduceSub,Nat.reduceLeDiff,reduceCtorEq,↓reduceIte,Int.reduceLE,Int.reduceNeg,qm,qY,wD,wR,wC,hD',hX1',hκ,hX2,hcn,hX3,e6,g1,G1,G2,wT,hT,hX4,hA,hX5,wa,wb,wc,wd,nz,hG,cC',c5,hX6,hv3,hX7,wg,c6,k1,k2,k4,e7,ite_and];(repeat' first|with_reducible assumption|apply vj);all_goals first|(apply hQ;clear hQ Q)|omega|with_reducible assumption|rfl|(apply ux;kernel_rfl)|skip)
          all_goals first|exact ⟨_,_,rfl⟩|skip
          refine ⟨⟨q+1,hlt⟩,by show U - (q+1) < U - q;omega, ?_⟩
          (refine Le.ok some [] ?_;constructor;all_goals (try simp only [vle,vkt,Nat.reduceEqDiff,Nat.reduceLeDiff,reduceCtorEq,↓reduceIte,qY]))
          all_goals first|rfl|(simp [hst];done)
         ·have hst:EK (q+1)=⟨D,(t.till.set cn.toNat (hv - am)).set to.toNat (ht+(G+v)),t.es++[(⟨D,3,cn,to,am,G+v⟩:Ent)],X7⟩:=by rw [hst];unfold VF;rw [if_neg c6,hh,hht]
          have w1:IntKind.wrap .i64 (ht+(G+v))=ht+(G+v):=wrap64 (by omega) (by omega)
          have e4:t.es.map zC++[[.v (.int .i64 D),.v (.int .i64 3),.v (.int .i64 cn),.v (.int .i64 to),.v (.int .i64 am),.v (.int .i64 (G+v))]]=(t.es++[(⟨D,3,cn,to,am,G+v⟩:Ent)]).map zC:=by rw [ae];rfl
          repeat' first|(apply nx;with_reducible constructor)|apply uq (by decide)|((first|apply uz env|apply uk);intro Q hQ;simp only [vkt,Nat.reduceEqDiff,Nat.reduceAdd,Nat.reduceMul,Nat.reduceSub,Nat.reduceLeDiff,reduceCtorEq,↓reduceIte,Int.reduceLE,Int.reduceNeg,qm,qY,wD,wR,wC,hD',hX1',hκ,hX2,hcn,hX3,e6,g1,g2,G1,G2,wT,hT,hX4,hA,hX5,wa,wb,wc,wd,nz,hG,cC',c5,hX6,hv3,hX7,wg,c6,k1,k2,k4,e7,et,g3,w0,w1,e4,KP,ite_and];(repeat' first|with_reducible assumption|apply vj);all_goals first|(apply hQ;clear hQ Q)|omega|with_reducible assumption|rfl|(apply ux;kernel_rfl)|skip)
          all_goals first|exact ⟨_,_,rfl⟩|skip
          refine ⟨⟨q+1,hlt⟩,by show U - (q+1) < U - q;omega, ?_⟩
          (refine Le.ok (fun j=>if j=7 then some 13 else some j) [] ?_;constructor;all_goals (try simp only [vle,vkt,Nat.reduceEqDiff,Nat.reduceLeDiff,reduceCtorEq,↓reduceIte,qY]))
          all_goals first|rfl|(simp [hst];done)
        ·rw [if_neg c5] at hst
         by_cases c6:999 < G
         ·have hst:EK (q+1)=⟨D,t.till,t.es,X6⟩:=by rw [hst];unfold VF;rw [if_pos c6]
          repeat' first|(apply nx;with_reducible constructor)|apply uq (by decide)|((first|apply uz env|apply uk);intro Q hQ;simp only [vkt,Nat.reduceEqDiff,Nat.reduceAdd,Nat.reduceMul,Nat.reduceSub,Nat.reduceLeDiff,reduceCtorEq,↓reduceIte,Int.reduceLE,Int.reduceNeg,qm,qY,wD,wR,wC,hD',hX1',hκ,hX2,hcn,hX3,e6,g1,G1,G2,wT,hT,hX4,hA,hX5,wa,wb,wc,wd,nz,hG,cC',c5,hX6,c6,k1,k2,k4,e7,ite_and];(repeat' first|with_reducible assumption|apply vj);all_goals first|(apply hQ;clear hQ Q)|omega|with_reducible assumption|rfl|(apply ux;kernel_rfl)|skip)
          all_goals first|exact ⟨_,_,rfl⟩|skip
          refine ⟨⟨q+1,hlt⟩,by show U - (q+1) < U - q;omega, ?_⟩
          (refine Le.ok some [] ?_;constructor;all_goals (try simp only [vle,vkt,Nat.reduceEqDiff,Nat.reduceLeDiff,reduceCtorEq,↓reduceIte,qY]))
          all_goals first|rfl|(simp [hst];done)
         ·have hst:EK (q+1)=⟨D,(t.till.set cn.toNat (hv - am)).set to.toNat (ht+G),t.es++[(⟨D,3,cn,to,am,G⟩:Ent)],X6⟩:=by rw [hst];unfold VF;rw [if_neg c6,hh,hht]
          have w1:IntKind.wrap .i64 (ht+(G))=ht+(G):=wrap64 (by omega) (by omega)
          have e4:t.es.map zC++[[.v (.int .i64 D),.v (.int .i64 3),.v (.int .i64 cn),.v (.int .i64 to),.v (.int .i64 am),.v (.int .i64 (G))]]=(t.es++[(⟨D,3,cn,to,am,G⟩:Ent)]).map zC:=by rw [ae];rfl
          repeat' first|(apply nx;with_reducible constructor)|apply uq (by decide)|((first|apply uz env|apply uk);intro Q hQ;simp only [vkt,Nat.reduceEqDiff,Nat.reduceAdd,Nat.reduceMul,Nat.reduceSub,Nat.reduceLeDiff,reduceCtorEq,↓reduceIte,Int.reduceLE,Int.reduceNeg,qm,qY,wD,wR,wC,hD',hX1',hκ,hX2,hcn,hX3,e6,g1,g2,G1,G2,wT,hT,hX4,hA,hX5,wa,wb,wc,wd,nz,hG,cC',c5,hX6,c6,k1,k2,k4,e7,et,g3,w0,w1,e4,KP,ite_and];(repeat' first|with_reducible assumption|apply vj);all_goals first|(apply hQ;clear hQ Q)|omega|with_reducible assumption|rfl|(apply ux;kernel_rfl)|skip)
          all_goals first|exact ⟨_,_,rfl⟩|skip
          refine ⟨⟨q+1,hlt⟩,by show U - (q+1) < U - q;omega, ?_⟩
          (refine Le.ok (fun j=>if j=7 then some 13 else some j) [] ?_;constructor;all_goals (try simp only [vle,vkt,Nat.reduceEqDiff,Nat.reduceLeDiff,reduceCtorEq,↓reduceIte,qY]))
          all_goals first|rfl|(simp [hst];done)
      ·have hqU:q=U:=by omega
       subst hqU;rw [gL,gS,g3]
       repeat' first|(apply nx;with_reducible constructor)|apply uq (by decide)|((first|apply uz env|apply uk);intro Q hQ;simp only [vkt,Nat.reduceEqDiff,Nat.reduceAdd,reduceCtorEq,qm,ite_and];(repeat' first|with_reducible assumption|apply vj);all_goals first|(apply hQ;clear hQ Q)|omega|with_reducible assumption|rfl|(apply ux;kernel_rfl)|skip)
       (simp only [vrt,results19,vkt,Nat.reduceEqDiff,Nat.reduceAdd,reduceCtorEq,qm,qY];refine Fin.ok some [3,5,4,7] ?_ ?_ ?_ ?_ ?_ rfl;all_goals (try simp only [vle,vkt,Nat.reduceEqDiff,reduceCtorEq,↓reduceIte]))
       all_goals first|rfl|(simp;done)|exact ⟨⟨_,_,rfl⟩,⟨_,_,rfl⟩,⟨_,_,rfl⟩,⟨_,_,rfl⟩⟩|exact ⟨⟨_,_,rfl⟩,⟨_,_,rfl⟩,⟨_,_,rfl⟩,⟨_,_,rfl⟩,trivial⟩
noncomputable def p27 (S:St):List AV->Option Pk
 |[.ptr i 0,.v (.int .i64 c),.v (.int .i64 d),.v (.int .i64 e),.v (.int .i64 w)]=>match S.h i with
  |some (.cells [.v (.int .u64 x)])=>some { pre:=(1<=c/\c<=4)/\(1<=d/\d<=4)/\(0<=e/\e<=6),hs:=[i],ar:=[.ptr 0 0,.v (.int .i64 c),.v (.int .i64 d),.v (.int .i64 e),.v (.int .i64 w)],L0:=[.cells [.v (.int .u64 x)]],v:=q9 (lgL x c d e w),L1:=[some (.cells [.v (.int .u64 (lgS x c d e w))])] }
  |_=>none
 |_=>none
def e27 {A:Frm->Prop}:qf A prog 19 (fnE p27):=jb fun S bs q h hp=>by
 unfold p27 at h;split at h
 ·split at h
  ·cases h;exact Qba _ _ _ _ _ hp.1 hp.2.1 hp.2.2
  ·cases h
 ·cases h
structure LgOk (L:Led):Prop where
 c:1<=L.coins.length/\L.coins.length<=4
 p:∀ q ∈ L.coins,∃ j,j<=3/\PcOk q j
 s:L.start.length=L.coins.length
 v:∀ n ∈ L.start,0<=n/\n<=200
 r:RsOk L.rates L.coins.length
 e:L.entries.length<=6
def lg_ok {x c d e w:Int} (hc:1<=c/\c<=4) (hd:1<=d/\d<=4) (he:0<=e/\e<=6):LgOk (lgL x c d e w):=by
 have h1:=vT (x:=x) (m:=c - 1) (by omega) (by omega)
 have ok1:CoOk (lg1 x c) (1+upV x (c - 1)).toNat:=UX _ _;have hl1:=ok1.c
 have h2:=vT (x:=(lg1 x c).x) (m:=d - 1) (by omega) (by omega)
 have ok2:(lg2 x c d).1.length=(1+upV (lg1 x c).x (d - 1)).toNat/\∀ r ∈ (lg2 x c d).1,RwOk r ((lg1 x c).cs.length - 1+1):=UV _ _ _;rw [show (lg1 x c).cs.length - 1+1=(lg1 x c).cs.length by omega] at ok2
 have hr:RsOk (lg2 x c d).1 (lg1 x c).cs.length:=⟨by have:=ok2.1;omega,ok2.2⟩
 have h3:=vT (x:=(lg2 x c d).2) (m:=e) (by omega) (by omega)
 have hI:EnI (lg1 x c).cs.length (lg2 x c d).1.length 0 ⟨0,(lg1 x c).ss,[],upS (lg2 x c d).2 e⟩:=⟨Int.le_refl _,by show (0:Int)<=_;have:=hr.len;omega,by rw [ok1.c];exact ok1.l,fun v hv=>by have:=ok1.v v hv;omega,ag _⟩
 have h4:=(QcJ hr (by omega) (w:=w) hI (upV (lg2 x c d).2 e).toNat).es
 refine ⟨?_,ok1.p, ?_,ok1.v,hr, ?_⟩
 ·show 1<=(lg1 x c).cs.length/\(lg1 x c).cs.length<=4;omega
 ·show (lg1 x c).ss.length=(lg1 x c).cs.length;rw [ok1.c];exact ok1.l
 ·show (lg3 x c d e w).es.length<=6
  unfold lg3;omega
def LgOk.fit {L:Led} (h:LgOk L):Fit L:=by
 refine ⟨by have:=h.c;omega,fun q hq=>?_,by have:=h.r.len;omega,fun r hr=>?_,by have:=h.c;have:=h.s;omega,by have:=h.e;omega⟩
 ·obtain ⟨j,hj,hp⟩:=h.p q hq
  have:=hp.len;omega
 ·have:=(h.r.all r hr).len;have:=h.c;omega
end Go.Sym.B
namespace Go.Sym.B
open Go Go.Sym Go.Proofs Go.Proofs.Tryz Go.Sym.C Go.RowKit
def Qgf:∀ F,zZ TabC F->zZ JX F:=fun _ h j own w hj=>(h j own w hj).pow
def QcO:List AV->Prop × AV
 |[.v (.string ⟨⟨t⟩⟩)]=>(True,.tup [q9 (xC t).1,aI (xC t).2.1,aI (xC t).2.2])
 |_=>(False,.junk)
def QlG {A:Frm->Prop}:qf A prog 23 (zq false QcO):=qD fun vs hv h=>by
 clear hv;unfold QcO at h ⊢
 split at h
 ·rename_i t;have k0:True:=h;clear h
  refine ⟨by first|trivial|(repeat' split) <;> simp [AV.plain,AV.plainL,aI,aB,qi,aBunks,aTks,aBunk,aTk,cTk],fun h=>absurd h (by decide), ?_⟩
  have:=Qgw t;simp only [aS] at this
  first|exact this|(simp only [aS];exact this)
 ·exact h.elim
def pRea (S:St):List AV->Option Pk
 |[.v (.string ⟨⟨t⟩⟩)]=>some { pre:=True,ar:=[.v (.string ⟨⟨t⟩⟩)],v:=.tup [q9 (xC t).1,aI (xC t).2.1,aI (xC t).2.2] }
 |_=>none
def eRea:qf (zZ TabC) prog 22 (fnE pRea):=QcR fun S bs q h hp=>by
 unfold pRea at h;split at h
 ·cases h
  exact Qju _
 ·cases h
def Qgk:List AV->Prop × AV
 |[.v (.string ⟨⟨s⟩⟩),.v (.int .i64 a),.v (.int .i64 h),.v (.int .u8 b)]=>(s.length<=1000000/\0<=b/\b < 256,aS (Lh s a h (UInt8.ofNat b.toNat)))
 |_=>(False,.junk)
def etorn {A:Frm->Prop}:qf A prog 13 (zq true Qgk):=qD fun vs hv h=>by
 unfold Qgk at h ⊢;split at h
 ·rename_i s a g b
  obtain ⟨h1,h2,h3⟩:=h;refine ⟨by simp [aS,AV.plain],fun _=>by simp [aS,AV.flat], ?_⟩
  have:=QiE s a g (UInt8.ofNat b.toNat) h1;rw [Qdo h2 h3] at this
  exact this
 ·exact h.elim
def srw:List AV->Prop × AV
 |[.agg [.sl cs,.sl rs,.sl ss,.sl es]]=>(isL cs rs ss es/\FitW (zR cs rs ss es),.tup [aS (ym (zR cs rs ss es)).1,aI (ym (zR cs rs ss es)).2])
 |_=>(False,.junk)
def erw:qf (zZ JX) prog 21 (zq true srw):=xN fun vs hv h=>by
 clear hv;unfold srw at h ⊢
 split at h
 ·refine ⟨by simp [AV.plain,AV.plainL,aI,aS],fun _=>by simp [AV.flat,AV.flatL,aI,aS], ?_⟩
  rw [<- jA h.1];exact QeO _ h.2
 ·exact h.elim
def Xq:FitW wI:=⟨by simp [wI],by simp [wI],by simp [wI],by simp [wI],by simp [wI],by simp [wI]⟩
def Qd7 (t:List UInt8):FitW (xC t).1:=by
 unfold xC;split
 ·exact Xq
 ·rename_i h
  split
  ·exact Xq
  ·rename_i c hc
   have:=Vp (by omega) hc
   split
   ·exact this
   ·exact Xq
def QcC (c:Led):(ym c).1.length<=100001:=by
 unfold ym;split
 ·rename_i h
  have:=QdF (QgC (We h));dsimp only
  rw [au];exact Nat.add_le_add_right this 1
 ·simp
def QgQ (l:Led):List DV:=[.sl (l.coins.map qC),.sl (l.rates.map zM),.sl (l.start.map qj),.sl (l.entries.map zC)]
def gLdg {l:List Led} {n:Nat} (h:n < l.length) (z:List DV):(l.map QgQ).getD n z=QgQ (l.getD n default):=by simp [ah,h]
def wtL (text:List UInt8) (CL:List Led) (i:Nat):List (List UInt8):=text :: (CL.take i).map fun c=>(ym c).1
def Qgx (text:List UInt8) (CL:List Led) {i:Nat} (h:i < CL.length):wtL text CL (i+1)=wtL text CL i++[(ym (CL.getD i default)).1]:=by
 unfold wtL;rw [bT,ak h,ae]
 simp [ah,h]
def Qiq (text:List UInt8) (CL:List Led) {i:Nat} (h:i<=CL.length):(wtL text CL i).length=i+1:=by simp [wtL];omega
def tx1 (text:List UInt8) (CL:List Led) (ar hw:Int) (b:UInt8) (i:Nat):St:={ t:=asg [(3,aI ar),(4,aI hw),(5,aU8 b),(13,.row 0),(14,.row 1),(15,aI i)],h:=qg [(0,.row 47 4 (CL.map QgQ)),(1,.row 9 1 ((wtL text CL i).map ql))],n:=2 }
def tx2 (TL:List (List UInt8)) (i:Nat):St:={ t:=asg [(14,.row 0),(20,aI i)],h:=qg [(0,.row 9 1 (TL.map ql))],n:=1 }
def xE:=vj @ty3 (vj @ty9 (vj @JR (vj @WP (vj @vU (vj @ty50 (vj @ti3.eq_1 (vj @ti9.eq_1 (vj @Wj.eq_1 (vj @Zn.eq_1 (vj @vD.eq_1 @ti50.eq_1))))))))))
def yh:=vj @aI.eq_1 (vj @aB.eq_1 (vj @qi.eq_1 (vj @qj.eq_1 (vj @xf (vj @jT (vj @Qo (vj @q9.eq_1 (vj @qU.eq_1 (vj @bgH.eq_1 (vj @c44.eq_1 (vj @c44.eq_2 (vj @p20.eq_1 (vj @p20.eq_2 (vj @p27.eq_1 (vj @p27.eq_2 (vj @c19.eq_1 (@c19.eq_2)))))))))))))))))
def textsLaw_fn (l:Led) (text:List UInt8) (nums:List Int) (ar hw:Int) (b:UInt8) (hnums:nums.length<=maxLen):Fn (jS TabC) prog 5 [q9 l,aS text,qi nums,aI ar,aI hw,aU8 b] noH (aB true) noH 0:=by
 have env:=qx (A:=zZ TabC) (kC d44 (kC e20 (kC e27 (kC (Qk9.anti Qgf) (kC (erw.anti Qgf) (kC etorn (kC eRea (kC QlG (kC e52w (kC d19 kN))))))))));refine kT (Fn0 func5 rfl (fun vs w=>by kernel_rfl) (by kernel_rfl)) (by simp) (by simp [AV.ids,AV.idsL,qi,q9,qU,aS,aI,aU8]) ?_
 have hsz:(ByteArray.mk ⟨text⟩).size=text.length:=rfl;have er:∀ x:Led,(⟨x.coins,x.rates,x.start,x.entries⟩:Led)=x:=fun _=>rfl
 cases hlg:ZZ l with
 |true =>
  repeat' first|(apply nx;with_reducible constructor)|apply uq (by decide)|((first|apply uz env|apply uk);intro Q hQ;simp only [vkt,seval,xE,yh,aS,aU8,hlg,ite_and];(repeat' first|with_reducible assumption|apply vj|intro hp);all_goals first|(apply hQ;clear hQ Q)|(apply ux;kernel_rfl)|omega|assumption|with_reducible rfl|skip)
  (simp only [vrt,results5,vkt,seval,yh];refine Fin.val rfl ?_;(try simp only [AV.le]))
  all_goals first|rfl|simp
 |false =>
 have hfl:=Qlv hlg
 by_cases q2:350 < text.length/\text.length<=400
 ·have d2:decide ((350:Int) < (text.length:Int))=true:=decide_eq_true (by omega)
  have d3:decide ((text.length:Int)<=400)=true:=decide_eq_true (by omega)
  repeat' first|(apply nx;with_reducible constructor)|apply uq (by decide)|((first|apply uz env|apply uk);intro Q hQ;simp only [vkt,seval,xE,yh,aS,aU8,hlg,hsz,d2,d3,ite_and];(repeat' first|with_reducible assumption|apply vj|intro hp);all_goals first|(apply hQ;clear hQ Q)|(apply ux;kernel_rfl)|omega|assumption|with_reducible rfl|skip)
  (simp only [vrt,results5,vkt,seval,yh];refine Fin.val rfl ?_;(try simp only [AV.le]))
  all_goals first|rfl|simp
 have hq:(decide ((350:Int) < (text.length:Int))=false/\True)\/(decide ((350:Int) < (text.length:Int))=true/\decide ((text.length:Int)<=400)=false):=by
  by_cases h1:350 < text.length
  ·exact .inr ⟨decide_eq_true (by omega),decide_eq_false (by omega)⟩
  ·exact .inl ⟨decide_eq_false (by omega),trivial⟩
 obtain ⟨x0,hx0⟩:∃ x,nbS nums=x:=⟨_,rfl⟩;have z1:(1:Int)<=4/\(4:Int)<=4:=by decide
 have z2:(0:Int)<=6/\(6:Int)<=6:=by decide
 have hok:=lg_ok (x:=x0) (w:=3) z1 z1 z2;obtain ⟨C,hC⟩:∃ L,lgL x0 4 4 6 3=L:=⟨_,rfl⟩
 obtain ⟨y0,hy0⟩:∃ y,lgS x0 4 4 6 3=y:=⟨_,rfl⟩;rw [hC] at hok
 have hfC:=hok.fit;have hmx:(100000:Nat)<=maxLen:=by decide
 obtain ⟨CL,hCL⟩:∃ CL,[l,C]=CL:=⟨_,rfl⟩;have hCl:CL.length=2:=by rw [<- hCL];rfl
 have hCf:∀ x ∈ CL,Fit x:=by
  rw [<- hCL];intro x hx
  simp only [ai,aV,or_false] at hx
  rcases hx with rfl|rfl <;> assumption
 repeat' first|(apply nx;with_reducible constructor)|apply uq (by decide)
 ((first|apply uz env|apply uk);intro Q hQ;simp only [vkt,seval,yh,aS,aU8,ite_and];(repeat' first|with_reducible assumption|apply vj|intro hp);all_goals first|(apply hQ;clear hQ Q)|(apply ux;kernel_rfl)|omega|assumption|with_reducible rfl|skip)
 repeat' first|(apply nx;with_reducible constructor)|apply uq (by decide)
 refine Sym.mono (K:=fun e S1=>e=.normal/\Le S1 { t:=asg [(1,aS text),(2,qi nums),(3,aI ar),(4,aI hw),(5,aU8 b),(6,.ptr 0 0),(38,aB false)],h:=qg [(0,.cells (qU l))],n:=1 }) ?_ ?_
 ·rcases hq with ⟨d2,d3⟩|⟨d2,d3⟩
  all_goals
   ((first|apply uz env|apply uk);intro Q hQ;simp only [vkt,seval,xE,yh,hlg,hsz,d2,d3,ite_and];(repeat' first|with_reducible assumption|apply vj|intro hp);all_goals first|(apply hQ;clear hQ Q)|(apply ux;kernel_rfl)|omega|assumption|with_reducible rfl|skip)
   refine ⟨rfl, ?_⟩
   (refine Le.ok some [] ?_;constructor;all_goals (try simp only [vle,vkt,seval,yh,aS,aU8]))
   all_goals first|rfl|simp
 rintro e S1 ⟨rfl,hle⟩;refine (XX hle ?_:Sym _ _ _ S1 _)
 clear hle S1
 repeat' first|(apply nx;with_reducible constructor)|apply uq (by decide)|((first|apply uz env|apply uk);intro Q hQ;simp only [vkt,seval,xE,yh,aS,aU8,hx0,hC,hy0,ite_and];(repeat' first|with_reducible assumption|apply vj|intro hp);all_goals first|(apply hQ;clear hQ Q)|(apply ux;kernel_rfl)|omega|assumption|with_reducible rfl|skip)
 refine qh (fun i:{ i:Nat // i<=CL.length }=>tx1 text CL ar hw b i.1) (fun i=>CL.length - i.1) ⟨0,af _⟩ ?_ fun ⟨i,hi⟩=>?_
 ·simp only [tx1,<- hCL]
  (refine Le.ok (fun i=>if i=0 then some 2 else if i=1 then some 3 else none) [] ?_;constructor;all_goals (try simp only [vle,vkt,seval,yh,aU8,QgQ]))
  all_goals first|rfl|simp
 simp only at hi ⊢;have hwl:=Qiq text CL hi
 by_cases hil:i < CL.length
 ·have d1:decide ((i:Int) < (CL.length:Int))=true:=decide_eq_true (by omega)
  have e9:=k9 i (by omega)
  have hg:=gLdg hil;have b1:=hCf _ (jr (d:=default) hil)
  have hS:=Qgx text CL hil;obtain ⟨W,hW⟩:∃ W,wtL text CL i=W:=⟨_,rfl⟩
  obtain ⟨x,hx⟩:∃ x,CL.getD i default=x:=⟨_,rfl⟩;rw [hx] at hg b1
  rw [hx,hW] at hS;rw [hW] at hwl
  have b2:=b1.w;have ex:=jT x
  have ey:=xf x;have hm:W.length+1<=maxLen:=by omega
  obtain ⟨⟨T,e1⟩,hT⟩:∃ p,ym x=p:=⟨_,rfl⟩;rw [hT] at hS
  have hbb:(T == T)=true:=beq_iff_eq.2 rfl;have e4:W.map ql++[[.v (.string ⟨⟨T⟩⟩)]]=(wtL text CL (i+1)).map ql:=by rw [hS,ae];rfl
  simp only [tx1,hW]
  repeat' first|(apply nx;with_reducible constructor)|apply uq (by decide)|((first|apply uz env|apply uk);intro Q hQ;simp only [vkt,seval,xE,yh,aS,aU8,WQ,QgQ,QcB,srw,d1,e9,hil,hg,ex,ey,b1,b2,hT,hm,e4,ite_and];(repeat' first|with_reducible assumption|apply vj|intro hp);all_goals first|(apply hQ;clear hQ Q)|(apply ux;kernel_rfl)|omega|assumption|with_reducible rfl|skip)
  refine ⟨⟨i+1,hil⟩,by show CL.length - (i+1) < CL.length - i;omega, ?_⟩
  (refine Le.ok (fun i=>if i=1 then some 3 else some i) [] ?_;constructor;all_goals (try simp only [vle,vkt,seval,yh,aU8]))
  all_goals first|rfl|(simp;done)|(intro i hi;rw [if_neg (by omega)];done)
 ·have d1:decide ((i:Int) < (CL.length:Int))=false:=decide_eq_false (by omega)
  obtain rfl:i=CL.length:=by omega
  have hlen:∀ z ∈ (wtL text CL CL.length).drop 2,z.length<=1000000:=by
   rw [<- hCL];intro z hz
   simp [wtL] at hz
   rw [hz];exact bi (QcC C) (by decide)
  obtain ⟨W,hW⟩:∃ W,wtL text CL CL.length=W:=⟨_,rfl⟩;rw [hW] at hwl hlen
  rw [hCl] at hwl;have hx:∀ d,(W.map ql).getD 2 d=[.v (.string ⟨⟨W.getD 2 []⟩⟩)]:=fun d=>ZV W 2 d (by omega)
  have hz:(W.getD 2 []).length<=1000000:=by
   match W,hwl with
   |[_,_,z],_=>exact hlen z (.head _)
  generalize W.getD 2 []=z at hx hz;have l2:2 < W.length:=by omega
  have q0:0<=((b.toNat:Nat):Int):=by omega
  have q1:((b.toNat:Nat):Int) < 256:=by have:=UInt8.toNat_lt b;omega
  have q2:UInt8.ofNat b.toNat=b:=UInt8.ofNat_toNat;have hm:W.length+1<=maxLen:=by omega
  obtain ⟨TL,hTL⟩:∃ TL,W++[Lh z ar hw b]=TL:=⟨_,rfl⟩;have hTl:TL.length=4:=by rw [<- hTL,au,hwl];rfl
  have e4:W.map ql++[[.v (.string ⟨⟨Lh z ar hw b⟩⟩)]]=TL.map ql:=by rw [<- hTL,ae];rfl
  simp only [tx1,hW]
  repeat' first|(apply nx;with_reducible constructor)|apply uq (by decide)|((first|apply uz env|apply uk);intro Q hQ;simp only [vkt,seval,xE,yh,aS,aU8,WQ,Qgk,d1,hx,hz,l2,q0,q1,q2,hm,e4,ite_and];(repeat' first|with_reducible assumption|apply vj|intro hp);all_goals first|(apply hQ;clear hQ Q)|(apply ux;kernel_rfl)|omega|assumption|with_reducible rfl|skip)
  refine qh (fun i:{ i:Nat // i<=TL.length }=>tx2 TL i.1) (fun i=>TL.length - i.1) ⟨0,af _⟩ ?_ fun ⟨i,hi⟩=>?_
  ·simp only [tx2]
   (refine Le.ok (fun i=>if i=0 then some 3 else none) [] ?_;constructor;all_goals (try simp only [vle,vkt,seval,yh]))
   all_goals first|rfl|simp
  simp only at hi ⊢;clear hx hz
  by_cases hil:i < TL.length
  ·have d1:decide ((i:Int) < (TL.length:Int))=true:=decide_eq_true (by omega)
   have e9:=k9 i (by omega)
   have hx:∀ d,(TL.map ql).getD i d=[.v (.string ⟨⟨TL.getD i []⟩⟩)]:=fun d=>ZV TL i d hil
   generalize TL.getD i []=t at hx;have hsx:=Qd7 t
   obtain ⟨⟨x,n,e1⟩,hR⟩:∃ p,xC t=p:=⟨_,rfl⟩;rw [hR] at hsx
   dsimp only at hsx;have ex:=jT x
   have ey:=xf x;simp only [tx2]
   repeat' first|(apply nx;with_reducible constructor)|apply uq (by decide)|((first|apply uz env|apply uk);intro Q hQ;simp only [vkt,seval,xE,yh,pRea,QcO,s52w,d1,e9,hil,hx,hR,ex,ey,hsx,ite_and];(repeat' first|with_reducible assumption|apply vj|intro hp);all_goals first|(apply hQ;clear hQ Q)|(apply ux;kernel_rfl)|omega|assumption|with_reducible rfl|skip)
   refine ⟨⟨i+1,hil⟩,by show TL.length - (i+1) < TL.length - i;omega, ?_⟩
   (refine Le.ok some [] ?_;constructor;all_goals (try simp only [vle,vkt,seval,yh]))
   all_goals first|rfl|simp
  ·have d1:decide ((i:Int) < (TL.length:Int))=false:=decide_eq_false (by omega)
   simp only [tx2]
   repeat' first|(apply nx;with_reducible constructor)|apply uq (by decide)|((first|apply uz env|apply uk);intro Q hQ;simp only [vkt,seval,xE,yh,d1,ite_and];(repeat' first|with_reducible assumption|apply vj|intro hp);all_goals first|(apply hQ;clear hQ Q)|(apply ux;kernel_rfl)|omega|assumption|with_reducible rfl|skip)
   (simp only [vrt,results5,vkt,seval,yh];refine Fin.val rfl ?_;(try simp only [AV.le]))
   all_goals first|rfl|simp
def spI:Sp:=.int .i64
def Qh7 (r:List DV) (h:r.length=1) (hs:∀ (j:Nat) (s:Sp) (d:DV),[spI][j]?=some s->r[j]?=some d->D1 s d):∃ a,r=qj a:=by
 obtain ⟨d,rfl⟩:=dB.1 h;obtain ⟨n,rfl,_⟩:=(hs 0 spI d rfl rfl).int_inv
 exact ⟨n,rfl⟩
def QlL (r:List DV) (h:r.length=1) (hs:∀ (j:Nat) (s:Sp) (d:DV),[Sp.sl [spI]][j]?=some s->r[j]?=some d->D1 s d):∃ a,r=qC a:=by
 obtain ⟨d,rfl⟩:=dB.1 h;obtain ⟨l,rfl,_⟩:=(hs 0 _ d rfl rfl).sl_inv qj Qh7
 exact ⟨l,rfl⟩
def eS_of (r:List DV) (h:r.length=2) (hs:∀ (j:Nat) (s:Sp) (d:DV),[spI,spI][j]?=some s->r[j]?=some d->D1 s d):∃ a,r=eSh a:=by
 match r,h with
 |[a,b],_ =>
  obtain ⟨n,rfl,_⟩:=(hs 0 spI a rfl rfl).int_inv;obtain ⟨m,rfl,_⟩:=(hs 1 spI b rfl rfl).int_inv
  exact ⟨⟨n,m⟩,rfl⟩
def Qla (r:List DV) (h:r.length=1) (hs:∀ (j:Nat) (s:Sp) (d:DV),[Sp.sl [spI,spI]][j]?=some s->r[j]?=some d->D1 s d):∃ a,r=zM a:=by
 obtain ⟨d,rfl⟩:=dB.1 h;obtain ⟨l,rfl,_⟩:=(hs 0 _ d rfl rfl).sl_inv eSh eS_of
 exact ⟨l,rfl⟩
def eE_of (r:List DV) (h:r.length=6) (hs:∀ (j:Nat) (s:Sp) (d:DV),[spI,spI,spI,spI,spI,spI][j]?=some s->r[j]?=some d->D1 s d):∃ a,r=zC a:=by
 match r,h with
 |[a,b,c,d,e,f],_ =>
  obtain ⟨n1,rfl,_⟩:=(hs 0 spI a rfl rfl).int_inv;obtain ⟨n2,rfl,_⟩:=(hs 1 spI b rfl rfl).int_inv
  obtain ⟨n3,rfl,_⟩:=(hs 2 spI c rfl rfl).int_inv;obtain ⟨n4,rfl,_⟩:=(hs 3 spI d rfl rfl).int_inv
  obtain ⟨n5,rfl,_⟩:=(hs 4 spI e rfl rfl).int_inv;obtain ⟨n6,rfl,_⟩:=(hs 5 spI f rfl rfl).int_inv
  exact ⟨⟨n1,n2,n3,n4,n5,n6⟩,rfl⟩
def spL:List Sp:=[.sl [.sl [spI]],.sl [.sl [spI,spI]],.sl [spI],.sl [spI,spI,spI,spI,spI,spI]]
def fl22:Fl prog 26 [.sl [spI]]:=JQ (n:=6) (by kernel_rfl)
def fl38:Fl prog 47 spL:=JQ (n:=6) (by kernel_rfl)
variable {H : Type} {enc : TypeId × Value -> H} {W : World} {base : Nat} {spare : Nat -> Bool} {held : Bool}
def QfO {fuel:Nat} {v:Value} {x:DataW H × List MemPlace} (h:DataW.trod enc prog W base spare held fuel 26 [v]=some x):∃ l:List Int,ARel W (okW W) QcQ undef (qi l) v/\l.length<=maxLen:=by
 obtain ⟨ds,hd⟩:=Uu fl22 h;obtain ⟨d,rfl,h1,h2⟩:=hd.one_inv
 obtain ⟨l,rfl,hl⟩:=h1.sl_inv qj Qh7;exact ⟨l,Qa4 h2,hl⟩
def QjU {fuel:Nat} {cs:Array Value} {x:DataW H × List MemPlace} (h:DataW.trod enc prog W base spare held fuel 47 cs.toList=some x):∃ l:Led,ARel W (okW W) QcQ undef (q9 l) (.agg cs):=by
 obtain ⟨ds,hd⟩:=Uu fl38 h
 match ds,hd with
 |[a,b,c,d],hd =>
  obtain ⟨l1,rfl,_⟩:=(hd.shape 0 _ a rfl rfl).sl_inv qC QlL;obtain ⟨l2,rfl,_⟩:=(hd.shape 1 _ b rfl rfl).sl_inv zM Qla
  obtain ⟨l3,rfl,_⟩:=(hd.shape 2 _ c rfl rfl).sl_inv qj Qh7;obtain ⟨l4,rfl,_⟩:=(hd.shape 3 _ d rfl rfl).sl_inv zC eE_of
  exact ⟨⟨l1,l2,l3,l4⟩,hd.agg⟩
 |[],hd=>exact absurd hd.len (by simp [spL])
 |[_],hd=>exact absurd hd.len (by simp [spL])
 |[_,_],hd=>exact absurd hd.len (by simp [spL])
 |[_,_,_],hd=>exact absurd hd.len (by simp [spL])
 |_ :: _ :: _ :: _ :: _ :: _,hd=>exact absurd hd.len (by simp [spL])
def Qex {v:Value} (h:v.cells.toList.length ≠ 1):∃ cs,v=.agg cs:=by
 cases v <;> first|exact ⟨_,rfl⟩|(simp [Value.cells] at h)
def led_of {v:Value} {d:DataW H} {p:List MemPlace} (h:DataW.Trod enc prog W base spare held 47 v d p):∃ l:Led,ARel W (okW W) QcQ undef (q9 l) v:=by
 obtain ⟨fuel,hf⟩:=h;obtain ⟨ds,hd⟩:=Uu fl38 hf
 obtain ⟨cs,rfl⟩:=Qex (v:=v) (by rw [hd.clen];simp [spL])
 exact QjU hf
def ints_of {v:Value} {d:DataW H} {p:List MemPlace} {r:Reach} {b0:Nat} (h:DataW.Trod enc prog W base spare held 26 v d p) (hu:prog.underlying 26=some (.slice 3)) (hv:Value.okWide prog W r b0 26 v):∃ l:List Int,ARel W (okW W) QcQ undef (qi l) v/\l.length<=maxLen:=by
 obtain ⟨fuel,hf⟩:=h;obtain ⟨a,n,c,rfl⟩:=WideShapes.okWide_slice hu hv
 exact QfO hf
def laid7 : List (String × DataW Unit) := [("math/bits.deBruijn32tab", YtcmfagpdahhfpaaGreatDoor.Rows.laid_math_bits_deBruijn32tab), ("math/bits.deBruijn64tab", YtcmfagpdahhfpaaGreatDoor.Rows.laid_math_bits_deBruijn64tab), ("internal/strconv.uint64pow10", YtcmfagpdahhfpaaGreatDoor.Rows.laid_internal_strconv_uint64pow10), ("unicode/utf8.acceptRanges", YtcmfagpdahhfpaaGreatDoor.Rows.laid_unicode_utf8_acceptRanges), ("strconv.ErrRange", YtcmfagpdahhfpaaGreatDoor.Rows.laid_strconv_ErrRange), ("strconv.ErrSyntax", YtcmfagpdahhfpaaGreatDoor.Rows.laid_strconv_ErrSyntax), ("unicode/utf8.first", YtcmfagpdahhfpaaGreatDoor.Rows.laid_unicode_utf8_first)]
def QgT {H:Type} {enc:TypeId × Value->H} {P:Program} {w:World} {base:Nat} {sp:Nat->Bool} {held:Bool} {fuel:Nat} {t:TypeId} {cs:List Value} {nm:String} {d:DataW H} {p:List MemPlace} {ms:Array (String × TypeId)} (ht:P.underlying t=some (.interface ms)) (h:DataW.trod enc P w base sp held fuel t cs=some (.iface nm d,p)):∃ u v,cs=[.iface u v]:=by
 cases fuel with
 |zero=>simp [DataW.trod] at h
 |succ n =>
  unfold DataW.trod at h;rw [ht] at h
  match cs,h with
  |[],h=>simp at h
  |[x],h =>
   cases x with
   |iface u v=>exact ⟨u,v,rfl⟩
   |_=>simp at h
  |_ :: _ :: _,h=>simp at h
def RD {P:Program} {w:World} {l:List (String × DataW Unit)} (h:laidMet P l w) {n:String} {nm:String} {d:DataW Unit} (hm:(n,DataW.iface nm d) ∈ l) {g:Nat} {t:TypeId} {ms:Array (String × TypeId)} (hg:P.globalNamed n=some g) (hty:(P.globals[g]?).map (·.type)=some t) (ht:P.underlying t=some (.interface ms)):∃ u v,w.cell? ⟨g,0,none⟩=some (.iface u v):=by
 obtain ⟨g',t',cs,fuel,p,h1,h2,h3,h4⟩:=Lib.laidMet.reads h hm;obtain rfl:=Option.some.inj (hg.symm.trans h1)
 obtain rfl:=Option.some.inj (hty.symm.trans h2);obtain ⟨u,v,hc⟩:=QgT ht h4
 refine ⟨u,v, ?_⟩
 rw [World.var?_cell h1 h3 0];have:cs=#[Value.iface u v]:=by cases cs;simp_all
 rw [this];rfl
def tab_of {W:World} (hL:laidMetH prog laid7 W) (hS:W.ShapedOpen prog):TabC W:=by
 have hL:=hL;rw [Go.MakeChecks.laidMetH_plain _ _ _ (by kernel_rfl)] at hL
 have h1 := laidMetH.filter (fun x => x.1 == "internal/strconv.uint64pow10") (show laidMetH prog laid7 W by rw [Go.MakeChecks.laidMetH_plain _ _ _ (by kernel_rfl)]; exact hL)
 have e : laid7.filter (fun x => x.1 == "internal/strconv.uint64pow10") = [("internal/strconv.uint64pow10", Lib.tabData .u64 Lib.pow10Tab)] := by kernel_rfl
 rw [e,Go.MakeChecks.laidMetH_plain _ _ _ (by kernel_rfl)] at h1
 refine ⟨Lib.tabIs_of_head (g := (prog.globalNamed "internal/strconv.uint64pow10").getD 0) (t := 293) (e := 90) (n := 20) (by kernel_rfl) (by kernel_rfl) underlying293 underlying90 (by kernel_rfl) (by kernel_rfl) h1,
  cell_of_shapedOpen_int (zero:=#[.int .i64 0]) (t:=3) hS (of_decide_eq_true (by kernel_rfl)) (by kernel_rfl) rfl (by kernel_rfl) (by kernel_rfl) underlying3,
  RD hL (n := "strconv.ErrSyntax") (nm := "*errors.errorString") (d := .ptr (.agg [.lit (.string [105, 110, 118, 97, 108, 105, 100, 32, 115, 121, 110, 116, 97, 120])])) (.tail _ (.tail _ (.tail _ (.tail _ (.tail _ (.head _)))))) (t := 175) (by kernel_rfl) (by kernel_rfl) underlying175,
  RD hL (n := "strconv.ErrRange") (nm := "*errors.errorString") (d := .ptr (.agg [.lit (.string [118, 97, 108, 117, 101, 32, 111, 117, 116, 32, 111, 102, 32, 114, 97, 110, 103, 101])])) (.tail _ (.tail _ (.tail _ (.tail _ (.head _))))) (t := 175) (by kernel_rfl) (by kernel_rfl) underlying175⟩
def Yi {w w':World} (hb:Below w.heap.size w w') {a:Addr} {v:Value} (h:w.cell? a=some v):w'.cell? a=some v:=by
 have hlt:a.block < w.heap.size:=by
  by_cases hl:a.block < w.heap.size
  ·exact hl
  ·unfold World.cell? at h
   rw [cu (by omega)] at h
   simp at h
 rw [hb.cell hlt];exact h
def TabC.below {w w':World} (h:TabC w) (hb:Below w.heap.size w w'):TabC w':=by
 obtain ⟨m,hm⟩:=h.max;obtain ⟨a,b,hs⟩:=h.syn
 obtain ⟨c,d,hr⟩:=h.rng;exact ⟨Lib.tabBelow_of_tabIs h.pow w' hb,⟨m,Yi hb hm⟩,⟨a,b,Yi hb hs⟩,⟨c,d,Yi hb hr⟩⟩
noncomputable def doorW (os:Os):World :=
 {World.doorLaid prog 4000 os with heap := (World.doorLaid prog 4000 os).heap.setIfInBounds ((prog.globalNamed "unicode/utf8.first").getD 0) (match (World.doorLaid prog 4000 os).heap[(prog.globalNamed "unicode/utf8.first").getD 0]? with
  |some (.cells _ t fr)=>.cells (Pinned.utf8FirstZ.map fun (n:Nat)=>Value.int .u8 (n:Int)).toArray t fr
  |_=>.cells #[] 0 (0,0)) }
def door_met (os:Os) (args:Array Value):laidMetH prog laid7 ((doorW os).forCall (fun _ _=>0) ⟨#[],args,[]⟩).memory :=
 laidMetH_of_parts3 (fuel:=800) (laidMet_of_run' 800 (by kernel_rfl) (by kernel_rfl)) (by kernel_rfl) (by kernel_rfl)
def letter_of {n:Int} (h:(Lit.int .u8 n).wf=true):∃ b:UInt8,n=(b.toNat:Int):=by
 have h:0<=n/\n<=255:=by
  simp only [Lit.wf,bc] at h;exact ⟨of_decide_eq_true h.1,of_decide_eq_true h.2⟩
 refine ⟨UInt8.ofNat n.toNat, ?_⟩
 rw [UInt8.toNat_ofNat',bY (by omega)];omega
def handed_laid {a:Assume} {C:Checked} {os:Os} {f:FuncId} {fn:Func} {s:ChangeSpec} {conds:List PathCond} {apart fresh handsOn again:Bool} {H:Type} {enc:TypeId × Value->H} {X:World->Prop} (hX:∀ w w':World,w.heap=w'.heap->X w->X w')
  (own:ownKnob C.prog.godebug=none) (started:os.Started) (noInit:C.prog.inits.idxOf? f=none) (hfn:C.prog.funcs[f]?=some fn)
  (witness:∃ (w:World) (tape:Tape) (i:Input),w.os=os/\(w.forCall tape i).Shaped C.prog/\i.vars=[]/\Input.okWide C.prog (w.forCall tape i) .any w.heap.size f i /\
   ((s.pre enc C.prog fn conds apart (w.forCall tape i).memory i.args/\X (w.forCall tape i).memory)/\sizedMet enc C.prog fn (OpenSpec.ofChange s) apart (w.forCall tape i).memory i.args)/\a.holds C.prog (lone (Frame.enter C.prog f i.args .normal) [] (w.forCall tape i)))
  (contract:∀ (W:World) (base:Nat) (args:Array Value) (ds gs:List (DataW H)) (before:List MemPlace),(∀ (j:Nat) t v,fn.params[j]?=some t->args[j]?=some v->Value.okWide C.prog W .any base t v)->DataW.Whole enc C.prog fn.params.toList s.vars apart W args.toList ds gs before->X W->W.ShapedOpen C.prog ->
   Calls C.prog f args W fun e W'=>∃ v,e=.returned v/\s.post enc C.prog fn apart fresh handsOn again W args v W') :
  ReturnsInHanded a C os f .any (fun w args=>(s.pre enc C.prog fn conds apart w args/\X w)/\sizedMet enc C.prog fn (OpenSpec.ofChange s) apart w args) (s.post enc C.prog fn apart fresh handsOn again):=by
 refine returnsInHanded_of_calls own started noInit witness fun w tape i _ hsh _ hok hpre _=>?_
 obtain ⟨_,_,_,fn',hfn',_,_,_,_,hval⟩:=hok;obtain rfl:fn'=fn:=Option.some.inj (hfn'.symm.trans hfn)
 obtain ⟨⟨⟨ds,gs,before,hw,_⟩,hx⟩,_⟩:=hpre;refine (contract (w.forCall tape i) w.heap.size i.args ds gs before hval (DataW.Whole.of_heap (w:=(w.forCall tape i).memory) (w':=w.forCall tape i) rfl hw) (hX (w.forCall tape i).memory _ rfl hx) hsh).mono fun e W' ⟨v,he,hp⟩=>?_
 subst he;exact ChangeSpec.post_blind hp
end Go.Sym.B
