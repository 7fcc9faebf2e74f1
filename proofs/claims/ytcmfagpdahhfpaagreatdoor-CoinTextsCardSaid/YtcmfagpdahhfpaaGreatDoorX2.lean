/- Walks and what they compute, joined: part 2. -/
import Derived.Test.YtcmfagpdahhfpaaGreatDoorXB2
import Derived.Lib.AppendIntMem
import Derived.WalkKit
import Derived.BigCall
import Derived.WalkSmall
import Derived.Recover
import Derived.TacticsInMore
import Derived.RegionIn
import Derived.RecoverIn
import Derived.Lib.CountLaws
import Derived.Lib.ItoaNum
import Derived.Lib.IndexMore
import Derived.IntWalk
import Derived.Test.YtcmfagpdahhfpaaGreatDoorRows
import Derived.MakeChecks
import Derived.LaidSub
import Derived.LaidMore
import Derived.Lib.LaidU8
import Derived.Lib.LaidTab
import Derived.Shelf.Vars
import Derived.Handed
import GoSem.PinnedTables
import Derived.Test.YtcmfagpdahhfpaaGreatDoorX1
set_option linter.all false
set_option maxRecDepth 100000
set_option maxHeartbeats 40000000
namespace Go.Sym.B
open Go Go.Sym Go.Proofs Go.Proofs.Tryz Go.Sym.C Go.RowKit
def UB (l:Led) (s:List UInt8) (L:List (List UInt8)) (hs:zH s 32=L) (h0:L.headD []=kw) (hn:qO (L.drop 1)=none) (hl:s.length<=800):Fn noB prog 72 [.ptr 0 0,aS s] (qg (jg 0 (za l))) (aI 0) (qg (wE 0 [some (ldR l.start 1 2 3),some (rwI l.coins),some (rwS l.rates),some (rwE l.entries)])) 0:=by
 have env:=qx (A:=fun _=>True) (kC WJ (kC Qw (kC Zl (kC J2 kN))))
 refine Fn.of (A:=fun _=>True) (n0:=4) (D:=noD) (Fn0 func72 rfl (fun vs w=>by kernel_rfl) (by kernel_rfl)) (by simp) (by simp [AV.ids,aS]) wB (fun _ _ _ _=>trivial) zb ?_
 show Sym _ _ _ (zV [.ptr 0 0,aS s] 4 (qg [(0,ldR l.start 1 2 3),(1,rwI l.coins),(2,rwS l.rates),(3,rwE l.entries)])) (Zo tyB noD Tryz.f72 fun S rv=>Fin S rv _ 4 (qg [(0,ldR l.start 1 2 3),(1,rwI l.coins),(2,rwS l.rates),(3,rwE l.entries)]) 0)
 have hm:(1000:Nat)+1<=maxLen:=by decide
 have u32:UInt8.ofNat 32=32:=rfl;have hle:=jN 32 s []
 have hps:=yA 32 s [];have hit:=jF 32 s []
 change (zH s 32).length<=_ at hle;change (zH s 32).length ≠ 0 at hps
 change ∀ w ∈ zH s 32,_ at hit;rw [hs] at hps hle hit
 have hpos:0 < L.length:=by omega
 have hl2:s.length<=100000:=by omega
 have hx:∀ d,(L.map ql).getD 0 d=[.v (.string ⟨⟨[99,111,105,110]⟩⟩)]:=fun d=>by
  match L,h0,hpos with
  |w :: r,h0,_=>simp only [bf] at h0;subst h0;rfl
 have hrw:=xF L;have g1:(1:Int)<=(L.length:Int):=by omega
 obtain ⟨R,hR⟩:∃ R,L.drop 1=R:=⟨_,rfl⟩;have hRl:R.length<=1000:=by rw [<- hR,aM];omega
 have hRi:It9 R:=fun w hw=>by have:=hit _ (aO (hR ▸ hw));simp at this;omega
 have hD:((L.map ql).take L.length).drop 1=R.map ql:=by rw [<- hR,bl,aP (by rw [ab];exact ag _)]
 rw [hR] at hn;have b0:(([99,111,105,110]:List UInt8) == [99,111,105,110])=true:=by decide
 have hI:(qO R).isSome=false:=by rw [hn];rfl
 repeat' first|(apply nx;with_reducible constructor)|apply uq (by decide)|((first|apply uz env|apply uk);intro Q hQ;simp only [vkt,seval,yl,Qdh,aS,Qx,xL,wO,qa,ldR,rwI,rwS,rwE,u32,hs,hl2,hx,hpos,hrw,g1,hD,hRl,hI,ite_and];(repeat' first|with_reducible assumption|apply vj|intro hp);all_goals first|(apply hQ;clear hQ Q)|(apply ux;kernel_rfl)|omega|assumption|with_reducible rfl|skip)
 (simp only [vrt,results72,vkt,seval,Qdh,ldR,rwI,rwS,rwE];refine Fin.ok (fun j=>[0,1,2,3][j]?) [] ?_ ?_ ?_ ?_ ?_ rfl;all_goals (try simp only [vle,vkt,seval]))
 all_goals first|rfl|(simp;done)|exact fun i hi=>(match i,hi with|0,_=>rfl|1,_=>rfl|2,_=>rfl|3,_=>rfl)
def Qc6:=vj @aI.eq_1 (vj @aB.eq_1 (vj @qi.eq_1 (vj @yx.eq_1 (vj @yE.eq_1 (vj @qC.eq_1 (vj @zM.eq_1 (vj @zC.eq_1 (vj @yI (vj @QK (@QL))))))))))
def KC (l:Led) (s:List UInt8) (L:List (List UInt8)) (n:List Sh) (hs:zH s 32=L) (h0:L.headD []=vg) (hn:WY (L.drop 1)=some n) (hc:l.rates.length<=1000) (hl:s.length<=800):Fn noB prog 72 [.ptr 0 0,aS s] (qg (jg 0 (za l))) (aI 2) (qg (wE 0 [some (ldR l.start 1 4 3),some (rwI l.coins),none,some (rwE l.entries),some (rwS (l.rates++[n]))])) 0:=by
 have env:=qx (A:=fun _=>True) (kC WJ (kC Qw (kC Zl (kC J2 kN))))
 refine Fn.of (A:=fun _=>True) (n0:=4) (D:=noD) (Fn0 func72 rfl (fun vs w=>by kernel_rfl) (by kernel_rfl)) (by simp) (by simp [AV.ids,aS]) wB (fun _ _ _ _=>trivial) zb ?_
 show Sym _ _ _ (zV [.ptr 0 0,aS s] 4 (qg [(0,ldR l.start 1 2 3),(1,rwI l.coins),(2,rwS l.rates),(3,rwE l.entries)])) (Zo tyB noD Tryz.f72 fun S rv=>Fin S rv _ 4 (qg [(0,ldR l.start 1 4 3),(1,rwI l.coins),(3,rwE l.entries),(4,rwS (l.rates++[n]))]) 0)
 have hm:(1000:Nat)+1<=maxLen:=by decide
 have u32:UInt8.ofNat 32=32:=rfl;have hle:=jN 32 s []
 have hps:=yA 32 s [];have hit:=jF 32 s []
 change (zH s 32).length<=_ at hle;change (zH s 32).length ≠ 0 at hps
 change ∀ w ∈ zH s 32,_ at hit;rw [hs] at hps hle hit
 have hpos:0 < L.length:=by omega
 have hl2:s.length<=100000:=by omega
 have hx:∀ d,(L.map ql).getD 0 d=[.v (.string ⟨⟨[114,97,116,101,115]⟩⟩)]:=fun d=>by
  match L,h0,hpos with
  |w :: r,h0,_=>simp only [bf] at h0;subst h0;rfl
 have hrw:=xF L;have g1:(1:Int)<=(L.length:Int):=by omega
 obtain ⟨R,hR⟩:∃ R,L.drop 1=R:=⟨_,rfl⟩;have hRl:R.length<=1000:=by rw [<- hR,aM];omega
 have hRi:It9 R:=fun w hw=>by have:=hit _ (aO (hR ▸ hw));simp at this;omega
 have hD:((L.map ql).take L.length).drop 1=R.map ql:=by rw [<- hR,bl,aP (by rw [ab];exact ag _)]
 rw [hR] at hn;have b0:(([114,97,116,101,115]:List UInt8) == [99,111,105,110])=false:=by decide
 have b1:(([114,97,116,101,115]:List UInt8) == [114,97,116,101,115])=true:=by decide
 have hI:(WY R).isSome=true:=by rw [hn];rfl
 have hG:(WY R).getD []=n:=by rw [hn];rfl
 have c1:l.rates.length+1<=maxLen:=by omega
 have e4:l.rates.map zM++[[.sl (n.map eSh)]]=(l.rates++[n]).map zM:=by rw [ae];rfl
 repeat' first|(apply nx;with_reducible constructor)|apply uq (by decide)|((first|apply uz env|apply uk);intro Q hQ;simp only [vkt,seval,yl,Qc6,aS,Qx,UD,wO,qa,ldR,rwI,rwS,rwE,u32,hs,hl2,hx,hpos,b0,hrw,g1,hD,hRl,hRi,hI,hG,c1,e4,ite_and];(repeat' first|with_reducible assumption|apply vj|intro hp);all_goals first|(apply hQ;clear hQ Q)|(apply ux;kernel_rfl)|omega|assumption|with_reducible rfl|skip)
 (simp only [vrt,results72,vkt,seval,Qc6,ldR,rwI,rwS,rwE];refine Fin.ok (fun j=>[0,1,2,3,5][j]?) [] ?_ ?_ ?_ ?_ ?_ rfl;all_goals (try simp only [vle,vkt,seval]))
 all_goals first|rfl|(simp;done)|exact fun i hi=>(match i,hi with|0,_=>rfl|1,_=>rfl|2,_=>rfl|3,_=>rfl)
def Qc9:=vj @aI.eq_1 (vj @aB.eq_1 (vj @qi.eq_1 (vj @yx.eq_1 (vj @yE.eq_1 (vj @qC.eq_1 (vj @zM.eq_1 (vj @zC.eq_1 (vj @yI (vj @QK (@QL))))))))))
def KG (l:Led) (s:List UInt8) (L:List (List UInt8)) (hs:zH s 32=L) (h0:L.headD []=vg) (hn:WY (L.drop 1)=none) (hl:s.length<=800):Fn noB prog 72 [.ptr 0 0,aS s] (qg (jg 0 (za l))) (aI 0) (qg (wE 0 [some (ldR l.start 1 2 3),some (rwI l.coins),some (rwS l.rates),some (rwE l.entries)])) 0:=by
 have env:=qx (A:=fun _=>True) (kC WJ (kC Qw (kC Zl (kC J2 kN))))
 refine Fn.of (A:=fun _=>True) (n0:=4) (D:=noD) (Fn0 func72 rfl (fun vs w=>by kernel_rfl) (by kernel_rfl)) (by simp) (by simp [AV.ids,aS]) wB (fun _ _ _ _=>trivial) zb ?_
 show Sym _ _ _ (zV [.ptr 0 0,aS s] 4 (qg [(0,ldR l.start 1 2 3),(1,rwI l.coins),(2,rwS l.rates),(3,rwE l.entries)])) (Zo tyB noD Tryz.f72 fun S rv=>Fin S rv _ 4 (qg [(0,ldR l.start 1 2 3),(1,rwI l.coins),(2,rwS l.rates),(3,rwE l.entries)]) 0)
 have hm:(1000:Nat)+1<=maxLen:=by decide
 have u32:UInt8.ofNat 32=32:=rfl;have hle:=jN 32 s []
 have hps:=yA 32 s [];have hit:=jF 32 s []
 change (zH s 32).length<=_ at hle;change (zH s 32).length ≠ 0 at hps
 change ∀ w ∈ zH s 32,_ at hit;rw [hs] at hps hle hit
 have hpos:0 < L.length:=by omega
 have hl2:s.length<=100000:=by omega
 have hx:∀ d,(L.map ql).getD 0 d=[.v (.string ⟨⟨[114,97,116,101,115]⟩⟩)]:=fun d=>by
  match L,h0,hpos with
  |w :: r,h0,_=>simp only [bf] at h0;subst h0;rfl
 have hrw:=xF L;have g1:(1:Int)<=(L.length:Int):=by omega
 obtain ⟨R,hR⟩:∃ R,L.drop 1=R:=⟨_,rfl⟩;have hRl:R.length<=1000:=by rw [<- hR,aM];omega
 have hRi:It9 R:=fun w hw=>by have:=hit _ (aO (hR ▸ hw));simp at this;omega
 have hD:((L.map ql).take L.length).drop 1=R.map ql:=by rw [<- hR,bl,aP (by rw [ab];exact ag _)]
 rw [hR] at hn;have b0:(([114,97,116,101,115]:List UInt8) == [99,111,105,110])=false:=by decide
 have b1:(([114,97,116,101,115]:List UInt8) == [114,97,116,101,115])=true:=by decide
 have hI:(WY R).isSome=false:=by rw [hn];rfl
 repeat' first|(apply nx;with_reducible constructor)|apply uq (by decide)|((first|apply uz env|apply uk);intro Q hQ;simp only [vkt,seval,yl,Qc9,aS,Qx,UD,wO,qa,ldR,rwI,rwS,rwE,u32,hs,hl2,hx,hpos,b0,hrw,g1,hD,hRl,hRi,hI,ite_and];(repeat' first|with_reducible assumption|apply vj|intro hp);all_goals first|(apply hQ;clear hQ Q)|(apply ux;kernel_rfl)|omega|assumption|with_reducible rfl|skip)
 (simp only [vrt,results72,vkt,seval,Qc9,ldR,rwI,rwS,rwE];refine Fin.ok (fun j=>[0,1,2,3][j]?) [] ?_ ?_ ?_ ?_ ?_ rfl;all_goals (try simp only [vle,vkt,seval]))
 all_goals first|rfl|(simp;done)|exact fun i hi=>(match i,hi with|0,_=>rfl|1,_=>rfl|2,_=>rfl|3,_=>rfl)
def Qds:=vj @aI.eq_1 (vj @aB.eq_1 (vj @qi.eq_1 (vj @yx.eq_1 (vj @yE.eq_1 (vj @qC.eq_1 (vj @zM.eq_1 (vj @zC.eq_1 (vj @yI (vj @QK (@QL))))))))))
def KO (l:Led) (s:List UInt8) (L:List (List UInt8)) (n:List Int) (hs:zH s 32=L) (h0:L.headD []=ve) (hn:qO (L.drop 1)=some n) (hl:s.length<=800):Fn noB prog 72 [.ptr 0 0,aS s] (qg (jg 0 (za l))) (aI 3) (qg (wE 0 [some (ldR n 1 2 3),some (rwI l.coins),some (rwS l.rates),some (rwE l.entries)])) 0:=by
 have env:=qx (A:=fun _=>True) (kC WJ (kC Qw (kC Zl (kC J2 kN))))
 refine Fn.of (A:=fun _=>True) (n0:=4) (D:=noD) (Fn0 func72 rfl (fun vs w=>by kernel_rfl) (by kernel_rfl)) (by simp) (by simp [AV.ids,aS]) wB (fun _ _ _ _=>trivial) zb ?_
 show Sym _ _ _ (zV [.ptr 0 0,aS s] 4 (qg [(0,ldR l.start 1 2 3),(1,rwI l.coins),(2,rwS l.rates),(3,rwE l.entries)])) (Zo tyB noD Tryz.f72 fun S rv=>Fin S rv _ 4 (qg [(0,ldR n 1 2 3),(1,rwI l.coins),(2,rwS l.rates),(3,rwE l.entries)]) 0)
 have hm:(1000:Nat)+1<=maxLen:=by decide
 have u32:UInt8.ofNat 32=32:=rfl;have hle:=jN 32 s []
 have hps:=yA 32 s [];have hit:=jF 32 s []
 change (zH s 32).length<=_ at hle;change (zH s 32).length ≠ 0 at hps
 change ∀ w ∈ zH s 32,_ at hit;rw [hs] at hps hle hit
 have hpos:0 < L.length:=by omega
 have hl2:s.length<=100000:=by omega
 have hx:∀ d,(L.map ql).getD 0 d=[.v (.string ⟨⟨[115,116,97,114,116]⟩⟩)]:=fun d=>by
  match L,h0,hpos with
  |w :: r,h0,_=>simp only [bf] at h0;subst h0;rfl
 have hrw:=xF L;have g1:(1:Int)<=(L.length:Int):=by omega
 obtain ⟨R,hR⟩:∃ R,L.drop 1=R:=⟨_,rfl⟩;have hRl:R.length<=1000:=by rw [<- hR,aM];omega
 have hRi:It9 R:=fun w hw=>by have:=hit _ (aO (hR ▸ hw));simp at this;omega
 have hD:((L.map ql).take L.length).drop 1=R.map ql:=by rw [<- hR,bl,aP (by rw [ab];exact ag _)]
 rw [hR] at hn;have b0:(([115,116,97,114,116]:List UInt8) == [99,111,105,110])=false:=by decide
 have b1:(([115,116,97,114,116]:List UInt8) == [114,97,116,101,115])=false:=by decide
 have b2:(([115,116,97,114,116]:List UInt8) == [115,116,97,114,116])=true:=by decide
 have hI:(qO R).isSome=true:=by rw [hn];rfl
 have hG:(qO R).getD []=n:=by rw [hn];rfl
 repeat' first|(apply nx;with_reducible constructor)|apply uq (by decide)|((first|apply uz env|apply uk);intro Q hQ;simp only [vkt,seval,yl,Qds,aS,Qx,xL,wO,qa,ldR,rwI,rwS,rwE,u32,hs,hl2,hx,hpos,b0,b1,hrw,g1,hD,hRl,hI,hG,ite_and];(repeat' first|with_reducible assumption|apply vj|intro hp);all_goals first|(apply hQ;clear hQ Q)|(apply ux;kernel_rfl)|omega|assumption|with_reducible rfl|skip)
 (simp only [vrt,results72,vkt,seval,Qds,ldR,rwI,rwS,rwE];refine Fin.ok (fun j=>[0,1,2,3][j]?) [] ?_ ?_ ?_ ?_ ?_ rfl;all_goals (try simp only [vle,vkt,seval]))
 all_goals first|rfl|(simp;done)|exact fun i hi=>(match i,hi with|0,_=>rfl|1,_=>rfl|2,_=>rfl|3,_=>rfl)
def Qdi:=vj @aI.eq_1 (vj @aB.eq_1 (vj @qi.eq_1 (vj @yx.eq_1 (vj @yE.eq_1 (vj @qC.eq_1 (vj @zM.eq_1 (vj @zC.eq_1 (vj @yI (vj @QK (@QL))))))))))
def KL (l:Led) (s:List UInt8) (L:List (List UInt8)) (hs:zH s 32=L) (h0:L.headD []=ve) (hn:qO (L.drop 1)=none) (hl:s.length<=800):Fn noB prog 72 [.ptr 0 0,aS s] (qg (jg 0 (za l))) (aI 0) (qg (wE 0 [some (ldR l.start 1 2 3),some (rwI l.coins),some (rwS l.rates),some (rwE l.entries)])) 0:=by
 have env:=qx (A:=fun _=>True) (kC WJ (kC Qw (kC Zl (kC J2 kN))))
 refine Fn.of (A:=fun _=>True) (n0:=4) (D:=noD) (Fn0 func72 rfl (fun vs w=>by kernel_rfl) (by kernel_rfl)) (by simp) (by simp [AV.ids,aS]) wB (fun _ _ _ _=>trivial) zb ?_
 show Sym _ _ _ (zV [.ptr 0 0,aS s] 4 (qg [(0,ldR l.start 1 2 3),(1,rwI l.coins),(2,rwS l.rates),(3,rwE l.entries)])) (Zo tyB noD Tryz.f72 fun S rv=>Fin S rv _ 4 (qg [(0,ldR l.start 1 2 3),(1,rwI l.coins),(2,rwS l.rates),(3,rwE l.entries)]) 0)
 have hm:(1000:Nat)+1<=maxLen:=by decide
 have u32:UInt8.ofNat 32=32:=rfl;have hle:=jN 32 s []
 have hps:=yA 32 s [];have hit:=jF 32 s []
 change (zH s 32).length<=_ at hle;change (zH s 32).length ≠ 0 at hps
 change ∀ w ∈ zH s 32,_ at hit;rw [hs] at hps hle hit
 have hpos:0 < L.length:=by omega
 have hl2:s.length<=100000:=by omega
 have hx:∀ d,(L.map ql).getD 0 d=[.v (.string ⟨⟨[115,116,97,114,116]⟩⟩)]:=fun d=>by
  match L,h0,hpos with
  |w :: r,h0,_=>simp only [bf] at h0;subst h0;rfl
 have hrw:=xF L;have g1:(1:Int)<=(L.length:Int):=by omega
 obtain ⟨R,hR⟩:∃ R,L.drop 1=R:=⟨_,rfl⟩;have hRl:R.length<=1000:=by rw [<- hR,aM];omega
 have hRi:It9 R:=fun w hw=>by have:=hit _ (aO (hR ▸ hw));simp at this;omega
 have hD:((L.map ql).take L.length).drop 1=R.map ql:=by rw [<- hR,bl,aP (by rw [ab];exact ag _)]
 rw [hR] at hn;have b0:(([115,116,97,114,116]:List UInt8) == [99,111,105,110])=false:=by decide
 have b1:(([115,116,97,114,116]:List UInt8) == [114,97,116,101,115])=false:=by decide
 have b2:(([115,116,97,114,116]:List UInt8) == [115,116,97,114,116])=true:=by decide
 have hI:(qO R).isSome=false:=by rw [hn];rfl
 repeat' first|(apply nx;with_reducible constructor)|apply uq (by decide)|((first|apply uz env|apply uk);intro Q hQ;simp only [vkt,seval,yl,Qdi,aS,Qx,xL,wO,qa,ldR,rwI,rwS,rwE,u32,hs,hl2,hx,hpos,b0,b1,hrw,g1,hD,hRl,hI,ite_and];(repeat' first|with_reducible assumption|apply vj|intro hp);all_goals first|(apply hQ;clear hQ Q)|(apply ux;kernel_rfl)|omega|assumption|with_reducible rfl|skip)
 (simp only [vrt,results72,vkt,seval,Qdi,ldR,rwI,rwS,rwE];refine Fin.ok (fun j=>[0,1,2,3][j]?) [] ?_ ?_ ?_ ?_ ?_ rfl;all_goals (try simp only [vle,vkt,seval]))
 all_goals first|rfl|(simp;done)|exact fun i hi=>(match i,hi with|0,_=>rfl|1,_=>rfl|2,_=>rfl|3,_=>rfl)
def QjB:=vj @aI.eq_1 (vj @aB.eq_1 (vj @qi.eq_1 (vj @yx.eq_1 (vj @yE.eq_1 (vj @qC.eq_1 (vj @zM.eq_1 (vj @zC.eq_1 (vj @yI (vj @QK (@QL))))))))))
def Lu (l:Led) (s:List UInt8) (L:List (List UInt8)) (hs:zH s 32=L) (h0:L.headD []=WL) (h1:L.length=1) (hl:s.length<=800):Fn noB prog 72 [.ptr 0 0,aS s] (qg (jg 0 (za l))) (aI 5) (qg (wE 0 [some (ldR l.start 1 2 3),some (rwI l.coins),some (rwS l.rates),some (rwE l.entries)])) 0:=by
 have env:=qx (A:=fun _=>True) (kC WJ (kC Qw (kC Zl (kC J2 kN))))
 refine Fn.of (A:=fun _=>True) (n0:=4) (D:=noD) (Fn0 func72 rfl (fun vs w=>by kernel_rfl) (by kernel_rfl)) (by simp) (by simp [AV.ids,aS]) wB (fun _ _ _ _=>trivial) zb ?_
 show Sym _ _ _ (zV [.ptr 0 0,aS s] 4 (qg [(0,ldR l.start 1 2 3),(1,rwI l.coins),(2,rwS l.rates),(3,rwE l.entries)])) (Zo tyB noD Tryz.f72 fun S rv=>Fin S rv _ 4 (qg [(0,ldR l.start 1 2 3),(1,rwI l.coins),(2,rwS l.rates),(3,rwE l.entries)]) 0)
 have hm:(1000:Nat)+1<=maxLen:=by decide
 have u32:UInt8.ofNat 32=32:=rfl;have hle:=jN 32 s []
 have hps:=yA 32 s [];have hit:=jF 32 s []
 change (zH s 32).length<=_ at hle;change (zH s 32).length ≠ 0 at hps
 change ∀ w ∈ zH s 32,_ at hit;rw [hs] at hps hle hit
 have hpos:0 < L.length:=by omega
 have hl2:s.length<=100000:=by omega
 have hx:∀ d,(L.map ql).getD 0 d=[.v (.string ⟨⟨[98,97,108,97,110,99,101]⟩⟩)]:=fun d=>by
  match L,h0,hpos with
  |w :: r,h0,_=>simp only [bf] at h0;subst h0;rfl
 have b0:(([98,97,108,97,110,99,101]:List UInt8) == [99,111,105,110])=false:=by decide
 have b1:(([98,97,108,97,110,99,101]:List UInt8) == [114,97,116,101,115])=false:=by decide
 have b2:(([98,97,108,97,110,99,101]:List UInt8) == [115,116,97,114,116])=false:=by decide
 have b3:(([98,97,108,97,110,99,101]:List UInt8) == [98,97,108,97,110,99,101])=true:=by decide
 have d1:decide ((L.length:Int)=1)=true:=decide_eq_true (by omega)
 repeat' first|(apply nx;with_reducible constructor)|apply uq (by decide)|((first|apply uz env|apply uk);intro Q hQ;simp only [vkt,seval,yl,aS,Qx,qa,ldR,rwI,rwS,rwE,u32,hs,hl2,hx,hpos,b0,b1,b2,d1,ite_and];(repeat' first|with_reducible assumption|apply vj|intro hp);all_goals first|(apply hQ;clear hQ Q)|(apply ux;kernel_rfl)|omega|assumption|with_reducible rfl|skip)
 (simp only [vrt,results72,vkt,seval,QjB,ldR,rwI,rwS,rwE];refine Fin.ok (fun j=>[0,1,2,3][j]?) [] ?_ ?_ ?_ ?_ ?_ rfl;all_goals (try simp only [vle,vkt,seval]))
 all_goals first|rfl|(simp;done)|exact fun i hi=>(match i,hi with|0,_=>rfl|1,_=>rfl|2,_=>rfl|3,_=>rfl)
def Qjv:=vj @aI.eq_1 (vj @aB.eq_1 (vj @qi.eq_1 (vj @yx.eq_1 (vj @yE.eq_1 (vj @qC.eq_1 (vj @zM.eq_1 (vj @zC.eq_1 (vj @yI (vj @QK (@QL))))))))))
def LF (l:Led) (s:List UInt8) (L:List (List UInt8)) (hs:zH s 32=L) (h0:L.headD []=WL) (h1:L.length ≠ 1) (hl:s.length<=800):Fn noB prog 72 [.ptr 0 0,aS s] (qg (jg 0 (za l))) (aI 0) (qg (wE 0 [some (ldR l.start 1 2 3),some (rwI l.coins),some (rwS l.rates),some (rwE l.entries)])) 0:=by
 have env:=qx (A:=fun _=>True) (kC WJ (kC Qw (kC Zl (kC J2 kN))))
 refine Fn.of (A:=fun _=>True) (n0:=4) (D:=noD) (Fn0 func72 rfl (fun vs w=>by kernel_rfl) (by kernel_rfl)) (by simp) (by simp [AV.ids,aS]) wB (fun _ _ _ _=>trivial) zb ?_
 show Sym _ _ _ (zV [.ptr 0 0,aS s] 4 (qg [(0,ldR l.start 1 2 3),(1,rwI l.coins),(2,rwS l.rates),(3,rwE l.entries)])) (Zo tyB noD Tryz.f72 fun S rv=>Fin S rv _ 4 (qg [(0,ldR l.start 1 2 3),(1,rwI l.coins),(2,rwS l.rates),(3,rwE l.entries)]) 0)
 have hm:(1000:Nat)+1<=maxLen:=by decide
 have u32:UInt8.ofNat 32=32:=rfl;have hle:=jN 32 s []
 have hps:=yA 32 s [];have hit:=jF 32 s []
 change (zH s 32).length<=_ at hle;change (zH s 32).length ≠ 0 at hps
 change ∀ w ∈ zH s 32,_ at hit;rw [hs] at hps hle hit
 have hpos:0 < L.length:=by omega
 have hl2:s.length<=100000:=by omega
 have hx:∀ d,(L.map ql).getD 0 d=[.v (.string ⟨⟨[98,97,108,97,110,99,101]⟩⟩)]:=fun d=>by
  match L,h0,hpos with
  |w :: r,h0,_=>simp only [bf] at h0;subst h0;rfl
 have b0:(([98,97,108,97,110,99,101]:List UInt8) == [99,111,105,110])=false:=by decide
 have b1:(([98,97,108,97,110,99,101]:List UInt8) == [114,97,116,101,115])=false:=by decide
 have b2:(([98,97,108,97,110,99,101]:List UInt8) == [115,116,97,114,116])=false:=by decide
 have b3:(([98,97,108,97,110,99,101]:List UInt8) == [98,97,108,97,110,99,101])=true:=by decide
 have d1:decide ((L.length:Int)=1)=false:=decide_eq_false (by omega)
 repeat' first|(apply nx;with_reducible constructor)|apply uq (by decide)|((first|apply uz env|apply uk);intro Q hQ;simp only [vkt,seval,yl,aS,Qx,qa,ldR,rwI,rwS,rwE,u32,hs,hl2,hx,hpos,b0,b1,b2,d1,ite_and];(repeat' first|with_reducible assumption|apply vj|intro hp);all_goals first|(apply hQ;clear hQ Q)|(apply ux;kernel_rfl)|omega|assumption|with_reducible rfl|skip)
 (simp only [vrt,results72,vkt,seval,Qjv,ldR,rwI,rwS,rwE];refine Fin.ok (fun j=>[0,1,2,3][j]?) [] ?_ ?_ ?_ ?_ ?_ rfl;all_goals (try simp only [vle,vkt,seval]))
 all_goals first|rfl|(simp;done)|exact fun i hi=>(match i,hi with|0,_=>rfl|1,_=>rfl|2,_=>rfl|3,_=>rfl)
def QdL:=vj @aI.eq_1 (vj @aB.eq_1 (vj @qi.eq_1 (vj @yx.eq_1 (vj @yE.eq_1 (vj @qC.eq_1 (vj @zM.eq_1 (vj @zC.eq_1 (vj @yI (vj @QK (@QL))))))))))
def KM (l:Led) (s:List UInt8) (L:List (List UInt8)) (w0:List UInt8) (n:Ent) (hs:zH s 32=L) (h0:L.headD []=w0) (h1:w0 ≠ kw) (h2:w0 ≠ vg) (h3:w0 ≠ ve) (h4:w0 ≠ WL) (hn:xQ L=some n) (hc:l.entries.length<=1000) (hl:s.length<=800):Fn noB prog 72 [.ptr 0 0,aS s] (qg (jg 0 (za l))) (aI 4) (qg (wE 0 [some (ldR l.start 1 2 4),some (rwI l.coins),some (rwS l.rates),none,some (rwE (l.entries++[n]))])) 0:=by
 have env:=qx (A:=fun _=>True) (kC WJ (kC Qw (kC Zl (kC J2 kN))))
 refine Fn.of (A:=fun _=>True) (n0:=4) (D:=noD) (Fn0 func72 rfl (fun vs w=>by kernel_rfl) (by kernel_rfl)) (by simp) (by simp [AV.ids,aS]) wB (fun _ _ _ _=>trivial) zb ?_
 show Sym _ _ _ (zV [.ptr 0 0,aS s] 4 (qg [(0,ldR l.start 1 2 3),(1,rwI l.coins),(2,rwS l.rates),(3,rwE l.entries)])) (Zo tyB noD Tryz.f72 fun S rv=>Fin S rv _ 4 (qg [(0,ldR l.start 1 2 4),(1,rwI l.coins),(2,rwS l.rates),(4,rwE (l.entries++[n]))]) 0)
 have hm:(1000:Nat)+1<=maxLen:=by decide
 have u32:UInt8.ofNat 32=32:=rfl;have hle:=jN 32 s []
 have hps:=yA 32 s [];have hit:=jF 32 s []
 change (zH s 32).length<=_ at hle;change (zH s 32).length ≠ 0 at hps
 change ∀ w ∈ zH s 32,_ at hit;rw [hs] at hps hle hit
 have hpos:0 < L.length:=by omega
 have hl2:s.length<=100000:=by omega
 have hx:∀ d,(L.map ql).getD 0 d=[.v (.string ⟨⟨w0⟩⟩)]:=fun d=>by
  match L,h0,hpos with
  |w :: r,h0,_=>simp only [bf] at h0;subst h0;rfl
 have b0:(w0 == [99,111,105,110])=false:=beq_eq_false_iff_ne.2 h1;have b1:(w0 == [114,97,116,101,115])=false:=beq_eq_false_iff_ne.2 h2
 have b2:(w0 == [115,116,97,114,116])=false:=beq_eq_false_iff_ne.2 h3;have b3:(w0 == [98,97,108,97,110,99,101])=false:=beq_eq_false_iff_ne.2 h4
 have hL:L.length<=900:=by omega
 have hI:(xQ L).isSome=true:=by rw [hn];rfl
 have hG:(xQ L).getD QaC=n:=by rw [hn];rfl
 have c1:l.entries.length+1<=maxLen:=by omega
 have e4:l.entries.map zC++[[.v (.int .i64 n.day),.v (.int .i64 n.kind),.v (.int .i64 n.coin),.v (.int .i64 n.to),.v (.int .i64 n.amount),.v (.int .i64 n.got)]]=(l.entries++[n]).map zC:=by rw [ae];rfl
 repeat' first|(apply nx;with_reducible constructor)|apply uq (by decide)|((first|apply uz env|apply uk);intro Q hQ;simp only [vkt,seval,yl,QdL,aS,Qx,Qc1,wO,qa,ldR,rwI,rwS,rwE,u32,hs,hl2,hx,hpos,b0,b1,b2,b3,hL,hI,hG,c1,e4,ite_and];(repeat' first|with_reducible assumption|apply vj|intro hp);all_goals first|(apply hQ;clear hQ Q)|(apply ux;kernel_rfl)|omega|assumption|with_reducible rfl|skip)
 (simp only [vrt,results72,vkt,seval,QdL,ldR,rwI,rwS,rwE];refine Fin.ok (fun j=>[0,1,2,3,6][j]?) [] ?_ ?_ ?_ ?_ ?_ rfl;all_goals (try simp only [vle,vkt,seval]))
 all_goals first|rfl|(simp;done)|exact fun i hi=>(match i,hi with|0,_=>rfl|1,_=>rfl|2,_=>rfl|3,_=>rfl)
def L6:=vj @aI.eq_1 (vj @aB.eq_1 (vj @qi.eq_1 (vj @yx.eq_1 (vj @yE.eq_1 (vj @qC.eq_1 (vj @zM.eq_1 (vj @zC.eq_1 (vj @yI (vj @QK (@QL))))))))))
def KF (l:Led) (s:List UInt8) (L:List (List UInt8)) (w0:List UInt8) (hs:zH s 32=L) (h0:L.headD []=w0) (h1:w0 ≠ kw) (h2:w0 ≠ vg) (h3:w0 ≠ ve) (h4:w0 ≠ WL) (hn:xQ L=none) (hl:s.length<=800):Fn noB prog 72 [.ptr 0 0,aS s] (qg (jg 0 (za l))) (aI 0) (qg (wE 0 [some (ldR l.start 1 2 3),some (rwI l.coins),some (rwS l.rates),some (rwE l.entries)])) 0:=by
 have env:=qx (A:=fun _=>True) (kC WJ (kC Qw (kC Zl (kC J2 kN))))
 refine Fn.of (A:=fun _=>True) (n0:=4) (D:=noD) (Fn0 func72 rfl (fun vs w=>by kernel_rfl) (by kernel_rfl)) (by simp) (by simp [AV.ids,aS]) wB (fun _ _ _ _=>trivial) zb ?_
 show Sym _ _ _ (zV [.ptr 0 0,aS s] 4 (qg [(0,ldR l.start 1 2 3),(1,rwI l.coins),(2,rwS l.rates),(3,rwE l.entries)])) (Zo tyB noD Tryz.f72 fun S rv=>Fin S rv _ 4 (qg [(0,ldR l.start 1 2 3),(1,rwI l.coins),(2,rwS l.rates),(3,rwE l.entries)]) 0)
 have hm:(1000:Nat)+1<=maxLen:=by decide
 have u32:UInt8.ofNat 32=32:=rfl;have hle:=jN 32 s []
 have hps:=yA 32 s [];have hit:=jF 32 s []
 change (zH s 32).length<=_ at hle;change (zH s 32).length ≠ 0 at hps
 change ∀ w ∈ zH s 32,_ at hit;rw [hs] at hps hle hit
 have hpos:0 < L.length:=by omega
 have hl2:s.length<=100000:=by omega
 have hx:∀ d,(L.map ql).getD 0 d=[.v (.string ⟨⟨w0⟩⟩)]:=fun d=>by
  match L,h0,hpos with
  |w :: r,h0,_=>simp only [bf] at h0;subst h0;rfl
 have b0:(w0 == [99,111,105,110])=false:=beq_eq_false_iff_ne.2 h1;have b1:(w0 == [114,97,116,101,115])=false:=beq_eq_false_iff_ne.2 h2
 have b2:(w0 == [115,116,97,114,116])=false:=beq_eq_false_iff_ne.2 h3;have b3:(w0 == [98,97,108,97,110,99,101])=false:=beq_eq_false_iff_ne.2 h4
 have hL:L.length<=900:=by omega
 have hI:(xQ L).isSome=false:=by rw [hn];rfl
 repeat' first|(apply nx;with_reducible constructor)|apply uq (by decide)|((first|apply uz env|apply uk);intro Q hQ;simp only [vkt,seval,yl,L6,aS,Qx,Qc1,wO,qa,ldR,rwI,rwS,rwE,u32,hs,hl2,hx,hpos,b0,b1,b2,b3,hL,hI,ite_and];(repeat' first|with_reducible assumption|apply vj|intro hp);all_goals first|(apply hQ;clear hQ Q)|(apply ux;kernel_rfl)|omega|assumption|with_reducible rfl|skip)
 (simp only [vrt,results72,vkt,seval,L6,ldR,rwI,rwS,rwE];refine Fin.ok (fun j=>[0,1,2,3][j]?) [] ?_ ?_ ?_ ?_ ?_ rfl;all_goals (try simp only [vle,vkt,seval]))
 all_goals first|rfl|(simp;done)|exact fun i hi=>(match i,hi with|0,_=>rfl|1,_=>rfl|2,_=>rfl|3,_=>rfl)
def xe:Option Ln->Int
 |none=>0
 |some x=>qb x+1
def jD (l:Led):Option Ln->List (Option AObj)
 |none=>(za l).map some
 |some x=>qK l x
def Qjh (l:Led) (s:List UInt8) (hl:s.length<=800) (hc:l.coins.length<=1000) (hr:l.rates.length<=1000) (he:l.entries.length<=1000):Fn noB prog 72 [.ptr 0 0,aS s] (qg (jg 0 (za l))) (aI (xe (xB s))) (qg (wE 0 (jD l (xB s)))) 0:=by
 unfold xB Xg;rw [UO]
 obtain ⟨L,hs⟩:∃ L,zH s 32=L:=⟨_,rfl⟩;rw [hs]
 split
 ·cases hn:qO (L.drop 1) with
  |none=>exact UB l s L hs ‹_› hn hl
  |some n=>exact UZ l s L n hs ‹_› hn hc hl
 ·split
  ·cases hn:jl (L.drop 1) with
   |none=>exact KG l s L hs ‹_› (by unfold WY;rw [hn];rfl) hl
   |some n=>exact KC l s L _ hs ‹_› (by unfold WY;rw [hn];rfl) hr hl
  ·split
   ·cases hn:qO (L.drop 1) with
    |none=>exact KL l s L hs ‹_› hn hl
    |some n=>exact KO l s L n hs ‹_› hn hl
   ·split
    ·split
     ·exact Lu l s L hs ‹_› ‹_› hl
     ·exact LF l s L hs ‹_› ‹_› hl
    ·cases hn:xQ L with
     |none=>exact KF l s L _ hs rfl ‹_› ‹_› ‹_› ‹_› hn hl
     |some n=>exact KM l s L _ n hs rfl ‹_› ‹_› ‹_› ‹_› hn he hl
def jE (S:St):List AV->Option Pk
 |[.ptr c 0,.v (.string ⟨⟨s⟩⟩)]=>match S.h c with
  |some (.cells [.row i,.row j,.sl st,.row k])=>match S.h i with
   |some (.row _ _ cs)=>match S.h j with
    |some (.row _ _ rs)=>match S.h k with
     |some (.row _ _ es)=>some { pre:=(cs=(cs.map q8).map qC/\rs=(rs.map kE).map zM/\st=(st.map qL).map qj/\es=(es.map kW).map zC)/\s.length<=800/\cs.length<=1000/\rs.length<=1000/\es.length<=1000,hs:=[c,i,j,k],ar:=[.ptr 0 0,.v (.string ⟨⟨s⟩⟩)],L0:=za (ldC cs rs st es),v:=aI (xe (xB s)),L1:=jD (ldC cs rs st es) (xB s) }
     |_=>none
    |_=>none
   |_=>none
  |_=>none
 |_=>none
def erTak {A:Frm->Prop}:qf A prog 72 (fnE jE):=jb fun S bs q h hp=>by
 unfold jE at h;split at h
 ·split at h
  ·split at h
   ·split at h
    ·split at h
     ·cases h
      obtain ⟨h1,h3,h4,h5,h6⟩:=hp;exact Qjh _ _ h3 (by simp only [ldC,ab];exact h4) (by simp only [ldC,ab];exact h5) (by simp only [ldC,ab];exact h6)
     ·cases h
    ·cases h
   ·cases h
  ·cases h
 ·cases h
end Go.Sym.B
namespace Go.Sym.B
open Go Go.Sym Go.Proofs Go.Proofs.Tryz Go.Sym.C
def Ut (a b:Int):Int:=((Nat.gcd a.natAbs b.toNat:Nat):Int)
def dvT (x y:Int):St:={ t:=asg [(0,aI x),(1,aI y),(4,aI 0)],h:=qg [],n:=0 }
def jm:=vj @ty3 @ti3.eq_1
def kZ:=vj @aI.eq_1 (vj @aB.eq_1 (@dvT.eq_1))
def QcT (a b:Int) (hab:U6 a b):FnV prog 205 [aI a,aI b] (aI (Ut a b)):=by
 have env:=qx (A:=fun _=>True) kN
 refine kV (Fn0 func205 rfl (fun vs w=>by kernel_rfl) (by kernel_rfl)) (by simp) (by simp [AV.ids,aI]) ?_
 obtain ⟨ha,ha',hb,hb'⟩:=hab;have hw:IntKind.wrap .i64 (0 - a)=-a:=by rw [wrap64 (by omega) (by omega)];omega
 by_cases c1:a < 0
 ·repeat' first|(apply nx;with_reducible constructor)|apply uq (by decide)|((first|apply uz env|apply uk);intro Q hQ;simp only [vkt,seval,jm,kZ,c1,hw,ite_and];(repeat' first|with_reducible assumption|apply vj|intro hp);all_goals first|(apply hQ;clear hQ Q)|omega|assumption|with_reducible rfl|(apply ux;kernel_rfl)|skip)
  refine qh (ι:={ p:Int × Int // 0<=p.1/\0<=p.2/\Nat.gcd p.1.toNat p.2.toNat=Nat.gcd a.natAbs b.toNat }) (fun p=>dvT p.1.1 p.1.2) (fun p=>p.1.1.toNat) ⟨((-a),b),by show (0:Int)<=(-a);omega,by show (0:Int)<=b;omega,by show Nat.gcd ((-a)).toNat b.toNat=_;congr 1;omega⟩ ?_ fun ⟨(x,y),h1,h2,h3⟩=>?_
  ·(refine Le.ok some [] ?_;constructor;all_goals (try simp only [vle,vkt,seval,kZ]))
   all_goals simp
  ·dsimp only at h1 h2 h3
   repeat' first|(apply nx;with_reducible constructor)|apply uq (by decide)
   (apply uz env;intro Q hQ;simp only [vkt,seval,jm,kZ,ite_and];(repeat' first|with_reducible assumption|apply vj|intro hp);all_goals first|(apply hQ;clear hQ Q)|omega|assumption|with_reducible rfl|(apply ux;kernel_rfl)|skip)
   repeat' first|(apply nx;with_reducible constructor)|apply uq (by decide)
   (refine zk (by simp only [vkt,seval];rfl) (fun h=>?_) (fun h=>?_) <;> (try simp only [vki] at h))
   ·have hx:0 < x:=by omega
    have nz:¬ x=0:=by omega
    have e1:=bZ y (show x ≠ 0 by omega)
    have e2:=ca y hx;have e3:y.tmod x=y % x:=bR h2
    repeat' first|(apply nx;with_reducible constructor)|apply uq (by decide)|((first|apply uz env|apply uk);intro Q hQ;simp only [vkt,seval,jm,nz,ite_and];(repeat' first|with_reducible assumption|apply vj|intro hp);all_goals first|(apply hQ;clear hQ Q)|omega|assumption|with_reducible rfl|(apply ux;kernel_rfl)|skip)
    refine ⟨⟨(y.tmod x,x),by show (0:Int)<=y.tmod x;omega,h1, ?_⟩, ?_, ?_⟩
    ·show Nat.gcd (y.tmod x).toNat x.toNat=_
     rw [<- h3,e3,Int.toNat_emod h2 h1,bI x.toNat,bI,bI x.toNat,<- Nat.gcd_rec,bI]
    ·show (y.tmod x).toNat < x.toNat
     omega
    ·(refine Le.ok some [] ?_;constructor;all_goals (try simp only [vle,vkt,seval,kZ]))
     all_goals simp
   ·have hx:x=0:=by omega
    subst hx;have hg:y=Ut a b:=by unfold Ut;rw [<- h3];simp;omega
    subst hg
    repeat' first|(apply nx;with_reducible constructor)|apply uq (by decide)|((first|apply uz env|apply uk);intro Q hQ;simp only [vkt,seval,ite_and];(repeat' first|with_reducible assumption|apply vj|intro hp);all_goals first|(apply hQ;clear hQ Q)|omega|assumption|with_reducible rfl|(apply ux;kernel_rfl)|skip)
    (simp only [vrt,results205,vkt,seval,kZ];refine Fin.val rfl ?_;(try simp only [AV.le]))
    all_goals first|rfl|simp
 ·repeat' first|(apply nx;with_reducible constructor)|apply uq (by decide)|((first|apply uz env|apply uk);intro Q hQ;simp only [vkt,seval,jm,kZ,c1,ite_and];(repeat' first|with_reducible assumption|apply vj|intro hp);all_goals first|(apply hQ;clear hQ Q)|omega|assumption|with_reducible rfl|(apply ux;kernel_rfl)|skip)
  refine qh (ι:={ p:Int × Int // 0<=p.1/\0<=p.2/\Nat.gcd p.1.toNat p.2.toNat=Nat.gcd a.natAbs b.toNat }) (fun p=>dvT p.1.1 p.1.2) (fun p=>p.1.1.toNat) ⟨(a,b),by show (0:Int)<=a;omega,by show (0:Int)<=b;omega,by show Nat.gcd (a).toNat b.toNat=_;congr 1;omega⟩ ?_ fun ⟨(x,y),h1,h2,h3⟩=>?_
  ·(refine Le.ok some [] ?_;constructor;all_goals (try simp only [vle,vkt,seval,kZ]))
   all_goals simp
  ·dsimp only at h1 h2 h3
   repeat' first|(apply nx;with_reducible constructor)|apply uq (by decide)
   (apply uz env;intro Q hQ;simp only [vkt,seval,jm,kZ,ite_and];(repeat' first|with_reducible assumption|apply vj|intro hp);all_goals first|(apply hQ;clear hQ Q)|omega|assumption|with_reducible rfl|(apply ux;kernel_rfl)|skip)
   repeat' first|(apply nx;with_reducible constructor)|apply uq (by decide)
   (refine zk (by simp only [vkt,seval];rfl) (fun h=>?_) (fun h=>?_) <;> (try simp only [vki] at h))
   ·have hx:0 < x:=by omega
    have nz:¬ x=0:=by omega
    have e1:=bZ y (show x ≠ 0 by omega)
    have e2:=ca y hx;have e3:y.tmod x=y % x:=bR h2
    repeat' first|(apply nx;with_reducible constructor)|apply uq (by decide)|((first|apply uz env|apply uk);intro Q hQ;simp only [vkt,seval,jm,nz,ite_and];(repeat' first|with_reducible assumption|apply vj|intro hp);all_goals first|(apply hQ;clear hQ Q)|omega|assumption|with_reducible rfl|(apply ux;kernel_rfl)|skip)
    refine ⟨⟨(y.tmod x,x),by show (0:Int)<=y.tmod x;omega,h1, ?_⟩, ?_, ?_⟩
    ·show Nat.gcd (y.tmod x).toNat x.toNat=_
     rw [<- h3,e3,Int.toNat_emod h2 h1,bI x.toNat,bI,bI x.toNat,<- Nat.gcd_rec,bI]
    ·show (y.tmod x).toNat < x.toNat
     omega
    ·(refine Le.ok some [] ?_;constructor;all_goals (try simp only [vle,vkt,seval,kZ]))
     all_goals simp
   ·have hx:x=0:=by omega
    subst hx;have hg:y=Ut a b:=by unfold Ut;rw [<- h3];simp;omega
    subst hg
    repeat' first|(apply nx;with_reducible constructor)|apply uq (by decide)|((first|apply uz env|apply uk);intro Q hQ;simp only [vkt,seval,ite_and];(repeat' first|with_reducible assumption|apply vj|intro hp);all_goals first|(apply hQ;clear hQ Q)|omega|assumption|with_reducible rfl|(apply ux;kernel_rfl)|skip)
    (simp only [vrt,results205,vkt,seval,kZ];refine Fin.val rfl ?_;(try simp only [AV.le]))
    all_goals first|rfl|simp
def QhB:List AV->Prop × AV
 |[.v (.int .i64 a),.v (.int .i64 b)]=>(U6 a b,aI (Ut a b))
 |_=>(False,.junk)
def e116 {A:Frm->Prop}:qf A prog 205 (zq true QhB):=qD fun vs _ h=>by
 unfold QhB at h ⊢;split at h
 ·exact ⟨by simp [AV.plain,aI],fun _=>by simp [AV.flat,aI],QcT _ _ h⟩
 ·exact h.elim
def qA:=vj @ty3 (vj @jh (vj @QD (vj @WK (vj @vU (vj @vQ (vj @vR (vj @ti3.eq_1 (vj @jc.eq_1 (vj @kI.eq_1 (vj @Zp.eq_1 (vj @vD.eq_1 (vj @yP.eq_1 @yS.eq_1))))))))))))
def zw:=vj @aI.eq_1 (vj @aB.eq_1 (vj @yE.eq_1 (vj @q9.eq_1 (vj @qU.eq_1 (vj @qi.eq_1 (vj @s79.eq_1 (vj @s79.eq_2 (vj @Q5 (@qj.eq_1)))))))))
def Qe9 (l:Led) (x:Ent) (before:Int) (has:List Int) (h1:l.rates.length<=1000) (h2:l.coins.length<=1000) (h3:has.length=l.coins.length):FnV prog 129 [q9 l,yE x,aI before,qi has] (aI (eV l x before has)):=by
 have env:=qx (A:=fun _=>True) (kC e82 kN)
 refine kV (Fn0 func129 rfl (fun vs w=>by kernel_rfl) (by kernel_rfl)) (by simp) (by simp [AV.ids,AV.idsL,q9,qU,yE,aI,qi]) ?_
 have w1:IntKind.wrap .i64 ((l.rates.length:Int) - 1)=(l.rates.length:Int) - 1:=wrap64 (by omega) (by omega)
 have w2:IntKind.wrap .i64 ((l.coins.length:Int) - 1)=(l.coins.length:Int) - 1:=wrap64 (by omega) (by omega)
 by_cases hE:wm l x before=0
 ·have ho:=QH hE
  rw [show eV l x before has=_ from if_neg (by rw [hE];simp)]
  have c1:=zN.2 ho.day;have c2:¬ x.day < before:=by have:=ho.ord;omega
  have c3:=zN.2 ho.kind;have c4:=zN.2 ho.coin
  have c8:=zN.2 ho.am;have k0:=ho.coin.1
  have k1:x.coin.toNat < has.length:=by have:=ho.coin;omega
  by_cases c5:x.kind=3
  ·have c7:inB 3 1 4=true:=by decide
   have c6:=zN.2 (ho.to c5);have c9:=zN.2 (ho.got c5)
   have c10:=ho.ne c5
   by_cases c11:has.getD x.coin.toNat 0 < x.amount
   ·repeat' first|(apply nx;with_reducible constructor)|apply uq (by decide)|((first|apply uz env|apply uk);intro Q hQ;simp only [vkt,seval,qA,zw,w1,w2,c1,c2,c7,c4,c5,c6,c8,c9,c10,c11,ite_and];(repeat' first|with_reducible assumption|apply vj|intro hp);all_goals first|(apply hQ;clear hQ Q)|omega|assumption|with_reducible rfl|(apply ux;kernel_rfl)|skip)
    (simp only [vrt,results129,vkt,seval,zw];refine Fin.val rfl ?_;(try simp only [AV.le]))
    all_goals simp [-List.getD_eq_getElem?_getD,c5,c11]
   ·repeat' first|(apply nx;with_reducible constructor)|apply uq (by decide)|((first|apply uz env|apply uk);intro Q hQ;simp only [vkt,seval,qA,zw,w1,w2,c1,c2,c7,c4,c5,c6,c8,c9,c10,c11,ite_and];(repeat' first|with_reducible assumption|apply vj|intro hp);all_goals first|(apply hQ;clear hQ Q)|omega|assumption|with_reducible rfl|(apply ux;kernel_rfl)|skip)
    (simp only [vrt,results129,vkt,seval,zw];refine Fin.val rfl ?_;(try simp only [AV.le]))
    all_goals simp [-List.getD_eq_getElem?_getD,c5,c11]
  ·obtain ⟨c6,c7⟩:=ho.no c5
   by_cases c12:x.kind=2
   ·have c13:inB 2 1 4=true:=by decide
    by_cases c11:has.getD x.coin.toNat 0 < x.amount
    ·repeat' first|(apply nx;with_reducible constructor)|apply uq (by decide)|((first|apply uz env|apply uk);intro Q hQ;simp only [vkt,seval,qA,zw,w1,w2,c1,c2,c13,c4,c12,c6,c7,c8,c11,ite_and];(repeat' first|with_reducible assumption|apply vj|intro hp);all_goals first|(apply hQ;clear hQ Q)|omega|assumption|with_reducible rfl|(apply ux;kernel_rfl)|skip)
     (simp only [vrt,results129,vkt,seval,zw];refine Fin.val rfl ?_;(try simp only [AV.le]))
     all_goals simp [-List.getD_eq_getElem?_getD,c12,c11]
    ·repeat' first|(apply nx;with_reducible constructor)|apply uq (by decide)|((first|apply uz env|apply uk);intro Q hQ;simp only [vkt,seval,qA,zw,w1,w2,c1,c2,c13,c4,c12,c6,c7,c8,c11,ite_and];(repeat' first|with_reducible assumption|apply vj|intro hp);all_goals first|(apply hQ;clear hQ Q)|omega|assumption|with_reducible rfl|(apply ux;kernel_rfl)|skip)
     (simp only [vrt,results129,vkt,seval,zw];refine Fin.val rfl ?_;(try simp only [AV.le]))
     all_goals simp [-List.getD_eq_getElem?_getD,c12,c11]
   ·repeat' first|(apply nx;with_reducible constructor)|apply uq (by decide)|((first|apply uz env|apply uk);intro Q hQ;simp only [vkt,seval,qA,zw,w1,w2,c1,c2,c3,c4,c5,c6,c7,c8,c12,ite_and];(repeat' first|with_reducible assumption|apply vj|intro hp);all_goals first|(apply hQ;clear hQ Q)|omega|assumption|with_reducible rfl|(apply ux;kernel_rfl)|skip)
    (simp only [vrt,results129,vkt,seval,zw];refine Fin.val rfl ?_;(try simp only [AV.le]))
    all_goals simp [c12,c5]
 ·rw [show eV l x before has=_ from if_pos hE]
  cases c1:inB x.day 0 ((l.rates.length:Int) - 1)
  ·repeat' first|(apply nx;with_reducible constructor)|apply uq (by decide)|((first|apply uz env|apply uk);intro Q hQ;simp only [vkt,seval,qA,zw,w1,c1,ite_and];(repeat' first|with_reducible assumption|apply vj|intro hp);all_goals first|(apply hQ;clear hQ Q)|omega|assumption|with_reducible rfl|(apply ux;kernel_rfl)|skip)
   (simp only [vrt,results129,vkt,seval,zw];refine Fin.val rfl ?_;(try simp only [AV.le]))
   all_goals simp [wm,c1]
  by_cases c2:x.day < before
  ·repeat' first|(apply nx;with_reducible constructor)|apply uq (by decide)|((first|apply uz env|apply uk);intro Q hQ;simp only [vkt,seval,qA,zw,w1,c1,c2,ite_and];(repeat' first|with_reducible assumption|apply vj|intro hp);all_goals first|(apply hQ;clear hQ Q)|omega|assumption|with_reducible rfl|(apply ux;kernel_rfl)|skip)
   (simp only [vrt,results129,vkt,seval,zw];refine Fin.val rfl ?_;(try simp only [AV.le]))
   all_goals simp [wm,c1,c2]
  cases c3:inB x.kind 1 4
  ·repeat' first|(apply nx;with_reducible constructor)|apply uq (by decide)|((first|apply uz env|apply uk);intro Q hQ;simp only [vkt,seval,qA,zw,w1,c1,c2,c3,ite_and];(repeat' first|with_reducible assumption|apply vj|intro hp);all_goals first|(apply hQ;clear hQ Q)|omega|assumption|with_reducible rfl|(apply ux;kernel_rfl)|skip)
   (simp only [vrt,results129,vkt,seval,zw];refine Fin.val rfl ?_;(try simp only [AV.le]))
   all_goals simp [wm,c1,c2,c3]
  cases c4:inB x.coin 0 ((l.coins.length:Int) - 1)
  ·repeat' first|(apply nx;with_reducible constructor)|apply uq (by decide)|((first|apply uz env|apply uk);intro Q hQ;simp only [vkt,seval,qA,zw,w1,w2,c1,c2,c3,c4,ite_and];(repeat' first|with_reducible assumption|apply vj|intro hp);all_goals first|(apply hQ;clear hQ Q)|omega|assumption|with_reducible rfl|(apply ux;kernel_rfl)|skip)
   (simp only [vrt,results129,vkt,seval,zw];refine Fin.val rfl ?_;(try simp only [AV.le]))
   all_goals simp [wm,c1,c2,c3,c4]
  by_cases c5:x.kind=3
  ·have c7:inB 3 1 4=true:=by decide
   cases c6:inB x.to 0 ((l.coins.length:Int) - 1)
   ·repeat' first|(apply nx;with_reducible constructor)|apply uq (by decide)|((first|apply uz env|apply uk);intro Q hQ;simp only [vkt,seval,qA,zw,w1,w2,c1,c2,c7,c4,c5,c6,ite_and];(repeat' first|with_reducible assumption|apply vj|intro hp);all_goals first|(apply hQ;clear hQ Q)|omega|assumption|with_reducible rfl|(apply ux;kernel_rfl)|skip)
    (simp only [vrt,results129,vkt,seval,zw];refine Fin.val rfl ?_;(try simp only [AV.le]))
    all_goals simp [wm,c1,c2,c7,c4,c5,c6]
   by_cases c8:x.to=x.coin
   ·have c6':inB x.coin 0 ((l.coins.length:Int) - 1)=true:=c4
    repeat' first|(apply nx;with_reducible constructor)|apply uq (by decide)|((first|apply uz env|apply uk);intro Q hQ;simp only [vkt,seval,qA,zw,w1,w2,c1,c2,c7,c4,c5,c8,ite_and];(repeat' first|with_reducible assumption|apply vj|intro hp);all_goals first|(apply hQ;clear hQ Q)|omega|assumption|with_reducible rfl|(apply ux;kernel_rfl)|skip)
    (simp only [vrt,results129,vkt,seval,zw];refine Fin.val rfl ?_;(try simp only [AV.le]))
    all_goals simp [wm,c1,c2,c7,c4,c5,c8]
   cases c9:inB x.got 0 999
   ·repeat' first|(apply nx;with_reducible constructor)|apply uq (by decide)|((first|apply uz env|apply uk);intro Q hQ;simp only [vkt,seval,qA,zw,w1,w2,c1,c2,c7,c4,c5,c6,c8,c9,ite_and];(repeat' first|with_reducible assumption|apply vj|intro hp);all_goals first|(apply hQ;clear hQ Q)|omega|assumption|with_reducible rfl|(apply ux;kernel_rfl)|skip)
    (simp only [vrt,results129,vkt,seval,zw];refine Fin.val rfl ?_;(try simp only [AV.le]))
    all_goals simp [wm,c1,c2,c7,c4,c5,c6,c8,c9]
   cases c10:inB x.amount 0 999
   ·repeat' first|(apply nx;with_reducible constructor)|apply uq (by decide)|((first|apply uz env|apply uk);intro Q hQ;simp only [vkt,seval,qA,zw,w1,w2,c1,c2,c7,c4,c5,c6,c8,c9,c10,ite_and];(repeat' first|with_reducible assumption|apply vj|intro hp);all_goals first|(apply hQ;clear hQ Q)|omega|assumption|with_reducible rfl|(apply ux;kernel_rfl)|skip)
    (simp only [vrt,results129,vkt,seval,zw];refine Fin.val rfl ?_;(try simp only [AV.le]))
    all_goals simp [wm,c1,c2,c7,c4,c5,c6,c8,c9,c10]
   exact absurd (by simp [wm,c1,c2,c7,c4,c5,c6,c8,c9,c10]) hE
  ·by_cases c6:x.to=0
   ·by_cases c7:x.got=0
    ·cases c10:inB x.amount 0 999
     ·repeat' first|(apply nx;with_reducible constructor)|apply uq (by decide)|((first|apply uz env|apply uk);intro Q hQ;simp only [vkt,seval,qA,zw,w1,w2,c1,c2,c3,c4,c5,c6,c7,c10,ite_and];(repeat' first|with_reducible assumption|apply vj|intro hp);all_goals first|(apply hQ;clear hQ Q)|omega|assumption|with_reducible rfl|(apply ux;kernel_rfl)|skip)
      (simp only [vrt,results129,vkt,seval,zw];refine Fin.val rfl ?_;(try simp only [AV.le]))
      all_goals simp [wm,c1,c2,c3,c4,c5,c6,c7,c10]
     exact absurd (by simp [wm,c1,c2,c3,c4,c5,c6,c7,c10]) hE
    ·repeat' first|(apply nx;with_reducible constructor)|apply uq (by decide)|((first|apply uz env|apply uk);intro Q hQ;simp only [vkt,seval,qA,zw,w1,w2,c1,c2,c3,c4,c5,c6,c7,ite_and];(repeat' first|with_reducible assumption|apply vj|intro hp);all_goals first|(apply hQ;clear hQ Q)|omega|assumption|with_reducible rfl|(apply ux;kernel_rfl)|skip)
     (simp only [vrt,results129,vkt,seval,zw];refine Fin.val rfl ?_;(try simp only [AV.le]))
     all_goals simp [wm,c1,c2,c3,c4,c5,c6,c7]
   ·repeat' first|(apply nx;with_reducible constructor)|apply uq (by decide)|((first|apply uz env|apply uk);intro Q hQ;simp only [vkt,seval,qA,zw,w1,w2,c1,c2,c3,c4,c5,c6,ite_and];(repeat' first|with_reducible assumption|apply vj|intro hp);all_goals first|(apply hQ;clear hQ Q)|omega|assumption|with_reducible rfl|(apply ux;kernel_rfl)|skip)
    (simp only [vrt,results129,vkt,seval,zw];refine Fin.val rfl ?_;(try simp only [AV.le]))
    all_goals simp [wm,c1,c2,c3,c4,c5,c6]
def s114:List AV->Prop × AV
 |[.agg [.sl cs,.sl rs,.sl ss,.sl es],.agg [.v (.int .i64 a),.v (.int .i64 b),.v (.int .i64 c),.v (.int .i64 d),.v (.int .i64 e),.v (.int .i64 f)],.v (.int .i64 n),.sl hs] =>
  (isL cs rs ss es/\hs=(hs.map qL).map qj/\rs.length<=1000/\cs.length<=1000/\hs.length=cs.length,aI (eV (zR cs rs ss es) ⟨a,b,c,d,e,f⟩ n (hs.map qL)))
 |_=>(False,.junk)
def e114 {A:Frm->Prop}:qf A prog 129 (zq true s114):=qD fun vs hv h=>by
 clear hv;unfold s114 at h ⊢
 split at h
 ·rename_i cs rs ss es a b c d e f n hs
  obtain ⟨h1,h2,h3,h4,h5⟩:=h;refine ⟨trivial,fun _=>trivial, ?_⟩
  have:=Qe9 (zR cs rs ss es) ⟨a,b,c,d,e,f⟩ n (hs.map qL) (by simpa [zR] using h3) (by simpa [zR] using h4) (by simpa [zR] using h5)
  rw [jA h1,qi,<- h2] at this;exact this
 ·exact h.elim
def vH:=vj @ty3 (vj @jh (vj @vR (vj @ti3.eq_1 (vj @jc.eq_1 @yS.eq_1))))
def Qb:=vj @aI.eq_1 (vj @aB.eq_1 (vj @yE.eq_1 (vj @qi.eq_1 (vj @KP (@ZJ)))))
def Qf9 (has:List Int) (x:Ent) (h:EnOk has x) (hl:has.length<=100000):FnV prog 130 [qi has,yE x] (qi (wQ has x)):=by
 have env:=qx (A:=fun _=>True) kN
 refine kV (Fn0 func130 rfl (fun vs w=>by kernel_rfl) (by kernel_rfl)) (by simp) (by simp [AV.ids,AV.idsL,yE,qi]) ?_
 obtain ⟨z1,z2,z3,z4⟩:=b47 hl;have c0:=h.c0
 have c1:=h.c1;have g1:=gI0 h.c1
 have b1:=bGet (n:=x.coin.toNat) h.b;have ha:=h.a
 by_cases k1:x.kind=1
 ·rw [show wQ has x=_ from if_pos k1]
  have w1:IntKind.wrap .i64 (has.getD x.coin.toNat 0+x.amount)=has.getD x.coin.toNat 0+x.amount:=wrap64 (by omega) (by omega)
  repeat' first|(apply nx;with_reducible constructor)|apply uq (by decide)|((first|apply uz env|apply uk);intro Q hQ;simp only [vkt,seval,vH,Qb,k1,g1,w1,qj,ite_and];(repeat' first|with_reducible assumption|apply vj|intro hp);all_goals first|(apply hQ;clear hQ Q)|omega|assumption|with_reducible rfl|(apply ux;kernel_rfl)|skip)
  (simp only [vrt,results130,vkt,seval,Qb];refine Fin.val rfl ?_;(try simp only [AV.le]))
  all_goals exact ⟨_,_,rfl⟩
 by_cases k2:x.kind=2
 ·rw [show wQ has x=yB has x.coin (-x.amount) by unfold wQ;rw [if_neg k1,if_pos k2]]
  have w1:IntKind.wrap .i64 (has.getD x.coin.toNat 0 - x.amount)=has.getD x.coin.toNat 0+-x.amount:=by rw [wrap64 (by omega) (by omega)];omega
  repeat' first|(apply nx;with_reducible constructor)|apply uq (by decide)|((first|apply uz env|apply uk);intro Q hQ;simp only [vkt,seval,vH,Qb,k2,g1,w1,qj,ite_and];(repeat' first|with_reducible assumption|apply vj|intro hp);all_goals first|(apply hQ;clear hQ Q)|omega|assumption|with_reducible rfl|(apply ux;kernel_rfl)|skip)
  (simp only [vrt,results130,vkt,seval,Qb];refine Fin.val rfl ?_;(try simp only [AV.le]))
  all_goals exact ⟨_,_,rfl⟩
 by_cases k3:x.kind=3
 ·rw [show wQ has x=yB (yB has x.coin (-x.amount)) x.to x.got by unfold wQ;rw [if_neg k1,if_neg k2,if_pos k3]]
  have w1:IntKind.wrap .i64 (has.getD x.coin.toNat 0 - x.amount)=has.getD x.coin.toNat 0+-x.amount:=by rw [wrap64 (by omega) (by omega)];omega
  obtain ⟨t0,t1⟩:=h.t k3;have hg:=h.g k3
  have hb2:∀ v ∈ yB has x.coin (-x.amount),-1001000<=v/\v<=1001000:=fun v hv=>by
   rcases bP hv with h1|h1
   ·have:=h.b v h1;omega
   ·omega
  have t2:x.to.toNat < (yB has x.coin (-x.amount)).length:=by simp [yB];exact t1
  have g2:=gI0 t2;have b2:=hb2 _ (jr (d:=0) t2)
  have w2:IntKind.wrap .i64 ((yB has x.coin (-x.amount)).getD x.to.toNat 0+x.got)=(yB has x.coin (-x.amount)).getD x.to.toNat 0+x.got:=wrap64 (by omega) (by omega)
  have e2:has.set x.coin.toNat (has.getD x.coin.toNat 0+-x.amount)=yB has x.coin (-x.amount):=rfl
  repeat' first|(apply nx;with_reducible constructor)|apply uq (by decide)|((first|apply uz env|apply uk);intro Q hQ;simp only [vkt,seval,vH,Qb,k3,g1,w1,e2,g2,w2,qj,ite_and];(repeat' first|with_reducible assumption|apply vj|intro hp);all_goals first|(apply hQ;clear hQ Q)|omega|assumption|with_reducible rfl|(apply ux;kernel_rfl)|skip)
  (simp only [vrt,results130,vkt,seval,Qb];refine Fin.val rfl ?_;(try simp only [AV.le]))
  all_goals exact ⟨_,_,rfl⟩
 by_cases k4:x.kind=4
 ·rw [show wQ has x=has.set x.coin.toNat x.amount by unfold wQ;rw [if_neg k1,if_neg k2,if_neg k3,if_pos k4]]
  repeat' first|(apply nx;with_reducible constructor)|apply uq (by decide)|((first|apply uz env|apply uk);intro Q hQ;simp only [vkt,seval,vH,Qb,k4,g1,qj,ite_and];(repeat' first|with_reducible assumption|apply vj|intro hp);all_goals first|(apply hQ;clear hQ Q)|omega|assumption|with_reducible rfl|(apply ux;kernel_rfl)|skip)
  (simp only [vrt,results130,vkt,seval,Qb];refine Fin.val rfl ?_;(try simp only [AV.le]))
  all_goals exact ⟨_,_,rfl⟩
 ·rw [show wQ has x=has by unfold wQ;rw [if_neg k1,if_neg k2,if_neg k3,if_neg k4]]
  repeat' first|(apply nx;with_reducible constructor)|apply uq (by decide)|((first|apply uz env|apply uk);intro Q hQ;simp only [vkt,seval,vH,Qb,k1,k2,k3,k4,ite_and];(repeat' first|with_reducible assumption|apply vj|intro hp);all_goals first|(apply hQ;clear hQ Q)|omega|assumption|with_reducible rfl|(apply ux;kernel_rfl)|skip)
  (simp only [vrt,results130,vkt,seval,Qb];refine Fin.val rfl ?_;(try simp only [AV.le]))
  all_goals exact ⟨_,_,rfl⟩
def s115:List AV->Prop × AV
 |[.sl hs,.agg [.v (.int .i64 a),.v (.int .i64 b),.v (.int .i64 c),.v (.int .i64 d),.v (.int .i64 e),.v (.int .i64 f)]]=>(hs=(hs.map qL).map qj/\hs.length<=100000/\EnOk (hs.map qL) ⟨a,b,c,d,e,f⟩,qi (wQ (hs.map qL) ⟨a,b,c,d,e,f⟩))
 |_=>(False,.junk)
def e115 {A:Frm->Prop}:qf A prog 130 (zq false s115):=qD fun vs hv h=>by
 clear hv;unfold s115 at h ⊢
 split at h
 ·rename_i hs a b c d e f
  obtain ⟨h1,h2,h3⟩:=h;refine ⟨trivial,fun h=>absurd h (by decide), ?_⟩
  have:=Qf9 (hs.map qL) ⟨a,b,c,d,e,f⟩ h3 (by simpa using h2)
  rw [qi,<- h1] at this;exact this
 ·exact h.elim
def QkP {n d:Int} (hn:1<=n) (hd:1<=d):(⟨n,d⟩:Sh)=shQ (mkRat n d.toNat) ↔ Ut n d=1:=by
 have hq:(0:Int) < d:=by omega
 have e1:=XU (a:=n) hq;have e2:=Ud (a:=n) hq
 have hg:0 < Nat.gcd n.natAbs d.toNat:=Nat.gcd_pos_of_pos_right _ (by omega)
 have hl:=dm n.natAbs d.toNat;rw [U9]
 show (n=(mkRat n d.toNat).num/\d=((mkRat n d.toNat).den:Int)) ↔ _
 rw [e1,e2];unfold Ut
 generalize Nat.gcd n.natAbs d.toNat=g at *
 constructor
 ·rintro ⟨h1,_⟩
  obtain ⟨q,hq⟩:=hl;have h7:n=(g:Int) * (q:Int):=by rw [show n=(n.natAbs:Int) by omega,hq];exact dG g q
  rw [h7,Int.mul_tdiv_cancel_left _ (by omega)] at h1
  have hq0:0 < (q:Int):=by
   rcases dz q with h8|h8
   ·subst h8;simp at h7;omega
   ·omega
  have:(g:Int) * q=1 * q:=by omega
  exact Int.eq_of_mul_eq_mul_right (by omega) this
 ·intro h
  rw [h];simp
def ckR (l:Led):Int :=
 if qy l.rates.length 1 4 ≠ 0 then qy l.rates.length 1 4 else if zQ (errs l.rates.length (Yn l)) ≠ 0 then zQ (errs l.rates.length (Yn l))
 else if l.start.length ≠ l.coins.length then 2 else zQ (errs l.start.length (vW l))
def ckC (l:Led):Int :=
 if qy l.coins.length 1 4 ≠ 0 then qy l.coins.length 1 4 else if zQ (errs l.coins.length (J9 l)) ≠ 0 then zQ (errs l.coins.length (J9 l)) else ckR l
def R6 (l:Led):zf l=if ckC l ≠ 0 then ckC l else jM l:=by
 unfold zf ckC ckR
 repeat' split
 all_goals first|rfl|contradiction|(simp_all;done)
def rr1 (l:Led) (k:Nat):St:={ t:=asg [(1,.ptr 0 0),(2,aI 0),(3,aI k)],h:=qg [(0,.cells (qU l))],n:=1 }
def rr2 (l:Led) (r:List Sh) (k i:Nat):St:={ t:=asg [(1,.ptr 0 0),(2,aI 0),(3,aI k),(4,yx r),(5,aI ((1+i:Nat):Int))],h:=qg [(0,.cells (qU l))],n:=1 }
def rr3 (l:Led) (k:Nat):St:={ t:=asg [(1,.ptr 0 0),(2,aI 0),(6,aI k)],h:=qg [(0,.cells (qU l))],n:=1 }
def rc2 (l:Led) (r:List Int) (k i:Nat):St:={ t:=asg [(1,.ptr 0 0),(2,aI 0),(3,aI k),(4,qi r),(5,aI ((1+i:Nat):Int))],h:=qg [(0,.cells (qU l))],n:=1 }
def qw:=vj @ty3 (vj @jh (vj @QD (vj @WK (vj @vU (vj @vQ (vj @Qg (vj @ti3.eq_1 (vj @jc.eq_1 (vj @kI.eq_1 (vj @Zp.eq_1 (vj @vD.eq_1 (vj @yP.eq_1 @xD.eq_1))))))))))))
def zz:=vj @aI.eq_1 (vj @aB.eq_1 (vj @q9.eq_1 (vj @qU.eq_1 (vj @rr1.eq_1 (vj @rr2.eq_1 (vj @rr3.eq_1 (vj @yx.eq_1 (vj @Q5 (vj @qj.eq_1 (vj @QcA (vj @gSh (vj @zM.eq_1 (vj @eSh.eq_1 (vj @s79.eq_1 (vj @s79.eq_2 (vj @QhB.eq_1 (@QhB.eq_2)))))))))))))))))
def Qe8 (l:Led) (hl:FitW l) (hc:1<=l.coins.length):FnV prog 165 [q9 l] (aI (ckR l)):=by
 have env:Env (fun _=>True) prog tyB (tab [(166,zq true s79),(205,zq true QhB)]):=qx ⟨e82,e116,trivial⟩
 refine Fn.of (A:=fun _=>True) (n0:=0) (D:=noD) (Fn0 func165 rfl (fun vs w=>by kernel_rfl) (by kernel_rfl)) (by simp) (by simp [AV.ids,AV.idsL,q9,qU]) (fun i o h=>by cases h) (fun _ _ _ _=>trivial) zb ?_
 have q1:=hl.c;have q2:=hl.r
 have q4:=hl.s;have q5:=KU
 by_cases a1:l.rates.length=0
 ·have a1':(l.rates.length:Int)=0:=by omega
  repeat' first|(apply nx;with_reducible constructor)|refine uq (by decide) ?_|((first|refine uz env fun Q hQ=>?_|refine uj fun Q hQ=>?_);simp only [vkt,seval,qw,zz,a1'];(try simp only [ite_and]);(repeat' (first|with_reducible assumption|refine eg ?_ ?_|intro hp));all_goals (first|(refine hQ _ ?_;clear hQ Q)|(refine hQ _ (fun h=>?_) (fun h=>?_) <;> clear hQ Q <;> (try simp only [reduceCtorEq] at h))|omega|assumption|with_reducible rfl|(refine ux ?_;kernel_rfl)|skip))
  (simp only [vrt,results165,vkt,seval,zz];refine Fin.val rfl ?_;(try simp only [AV.le]))
  all_goals (unfold ckR qy;simp [a1])
 by_cases a2:4 < l.rates.length
 ·have a1':¬ (l.rates.length:Int)=0:=by omega
  have a2':(4:Int) < (l.rates.length:Int):=by omega
  have h4:qy l.rates.length 1 4=6:=by unfold qy;rw [if_neg (by omega),if_pos a2']
  repeat' first|(apply nx;with_reducible constructor)|refine uq (by decide) ?_|((first|refine uz env fun Q hQ=>?_|refine uj fun Q hQ=>?_);simp only [vkt,seval,qw,zz,a1',a2'];(try simp only [ite_and]);(repeat' (first|with_reducible assumption|refine eg ?_ ?_|intro hp));all_goals (first|(refine hQ _ ?_;clear hQ Q)|(refine hQ _ (fun h=>?_) (fun h=>?_) <;> clear hQ Q <;> (try simp only [reduceCtorEq] at h))|omega|assumption|with_reducible rfl|(refine ux ?_;kernel_rfl)|skip))
  (simp only [vrt,results165,vkt,seval,zz];refine Fin.val rfl ?_;(try simp only [AV.le]))
  all_goals (unfold ckR;rw [if_pos (by rw [h4];decide),h4])
 have a1':¬ (l.rates.length:Int)=0:=by omega
 have a2':¬ (4:Int) < (l.rates.length:Int):=by omega
 have h0:qy l.rates.length 1 4=0:=by unfold qy;rw [if_neg (by omega),if_neg a2']
 repeat' first|(apply nx;with_reducible constructor)|refine uq (by decide) ?_|((first|refine uz env fun Q hQ=>?_|refine uj fun Q hQ=>?_);simp only [vkt,seval,qw,zz,a1',a2'];(try simp only [ite_and]);(repeat' (first|with_reducible assumption|refine eg ?_ ?_|intro hp));all_goals (first|(refine hQ _ ?_;clear hQ Q)|(refine hQ _ (fun h=>?_) (fun h=>?_) <;> clear hQ Q <;> (try simp only [reduceCtorEq] at h))|omega|assumption|with_reducible rfl|(refine ux ?_;kernel_rfl)|skip))
 refine qh (ι:=FI (errs l.rates.length (Yn l))) (fun i=>rr1 l i.k) (fun i=>l.rates.length - i.k) (FI.zero _) ?_ fun i=>?_
 ·(refine Le.ok some [] ?_;constructor;all_goals (try simp only [vle,vkt,seval,zz]))
  all_goals simp [FI.zero]
 ·have hk:=i.le
  rw [wL] at hk
  repeat' first|(apply nx;with_reducible constructor)|refine uq (by decide) ?_
  (refine uz env fun Q hQ=>?_;simp only [vkt,seval,qw,zz];(try simp only [ite_and]);(repeat' (first|with_reducible assumption|refine eg ?_ ?_|intro hp));all_goals (first|(refine hQ _ ?_;clear hQ Q)|omega|assumption|with_reducible rfl|(refine ux ?_;kernel_rfl)|skip))
  repeat' first|(apply nx;with_reducible constructor)|refine uq (by decide) ?_
  (refine zk (by simp only [vkt,seval];rfl) (fun h=>?_) (fun h=>?_) <;> (try simp only [vki] at h))
  ·have hlt:i.k < l.rates.length:=by omega
   have hpl:=hl.rs _ (jr (d:=[]) hlt);have e9:=qV hlt (show l.rates.length<=maxLen by omega)
   have out:∀ e,jU (l.rates.getD i.k []) l.coins.length=e->e ≠ 0->ckR l=e:=fun e he h1=>by
    have:=i.hit hlt (by show jU (l.rates.getD i.k []) l.coins.length ≠ 0;rw [he];exact h1)
    unfold ckR;rw [if_neg (by rw [h0];simp),if_pos (by rw [this];show jU _ _ ≠ 0;rw [he];exact h1),this]
    exact he
   have hN:jU (l.rates.getD i.k []) l.coins.length=0->∃ i':FI (errs l.rates.length (Yn l)),l.rates.length - i'.k < l.rates.length - i.k/\i'.k=i.k+1:=fun h1=>⟨i.next hlt h1,by show l.rates.length - (i.k+1) < _;omega,rfl⟩
   obtain ⟨r,hr⟩:∃ r,l.rates.getD i.k []=r:=⟨_,rfl⟩;rw [hr] at hpl out hN
   by_cases d1:r.length=l.coins.length
   ·have d1':(r.length:Int)=(l.coins.length:Int):=by omega
    have r0:0 < r.length:=by omega
    by_cases d2:r.getD 0 default=⟨1,1⟩
    ·have d3:=congrArg Sh.num d2
     have d4:=congrArg Sh.den d2;dsimp only at d3 d4
     have hrE:jU r l.coins.length=zQ (errs (r.length - 1) (Zi r)):=by unfold jU;rw [if_neg (by rw [d1'];simp),if_neg (by rw [d2];simp)]
     repeat' first|(apply nx;with_reducible constructor)|refine uq (by decide) ?_|((first|refine uz env fun Q hQ=>?_|refine uj fun Q hQ=>?_);simp only [vkt,seval,qw,zz,hr,d1',d3,d4];(try simp only [ite_and]);(repeat' (first|with_reducible assumption|refine eg ?_ ?_|intro hp));all_goals (first|(refine hQ _ ?_;clear hQ Q)|(refine hQ _ (fun h=>?_) (fun h=>?_) <;> clear hQ Q <;> (try simp only [reduceCtorEq] at h))|omega|assumption|with_reducible rfl|(refine ux ?_;kernel_rfl)|skip))
     refine qh (ι:=FI (errs (r.length - 1) (Zi r))) (fun j=>rr2 l r i.k j.k) (fun j=>r.length - j.k) (FI.zero _) ?_ fun j=>?_
     ·(refine Le.ok some [] ?_;constructor;all_goals (try simp only [vle,vkt,seval,zz]))
      all_goals first|rfl|(simp [FI.zero];done)
     ·have hj:=j.le
      rw [wL] at hj
      repeat' first|(apply nx;with_reducible constructor)|refine uq (by decide) ?_
      (refine uz env fun Q hQ=>?_;simp only [vkt,seval,qw,zz];(try simp only [ite_and]);(repeat' (first|with_reducible assumption|refine eg ?_ ?_|intro hp));all_goals (first|(refine hQ _ ?_;clear hQ Q)|omega|assumption|with_reducible rfl|(refine ux ?_;kernel_rfl)|skip))
      repeat' first|(apply nx;with_reducible constructor)|refine uq (by decide) ?_
      (refine zk (by simp only [vkt,seval];rfl) (fun h=>?_) (fun h=>?_) <;> (try simp only [vki] at h))
      ·have hjl:j.k < r.length - 1:=by omega
       have hjl2:1+j.k < r.length:=by omega
       have e8:IntKind.wrap .i64 (((1+j.k:Nat):Int)+1)=((1+(j.k+1):Nat):Int):=by rw [wrap64 (by omega) (by omega)];omega
       have hit:∀ e,Zi r j.k=e->e ≠ 0->ckR l=e:=fun e he h1=>out e (by rw [hrE,j.hit hjl (by rw [he];exact h1),he]) h1
       have nxt:Zi r j.k=0->∃ j':FI (errs (r.length - 1) (Zi r)),r.length - j'.k < r.length - j.k/\j'.k=j.k+1:=fun h1=>⟨j.next hjl h1,by show r.length - (j.k+1) < _;omega,rfl⟩
       unfold Zi at hit nxt;obtain ⟨s,hs⟩:∃ s,r.getD (1+j.k) default=s:=⟨_,rfl⟩
       rw [hs] at hit nxt;cases c1:inB s.num 1 20
       ·repeat' first|(apply nx;with_reducible constructor)|refine uq (by decide) ?_|((first|refine uz env fun Q hQ=>?_|refine uj fun Q hQ=>?_);simp only [vkt,seval,qw,zz,hs,c1];(try simp only [ite_and]);(repeat' (first|with_reducible assumption|refine eg ?_ ?_|intro hp));all_goals (first|(refine hQ _ ?_;clear hQ Q)|(refine hQ _ (fun h=>?_) (fun h=>?_) <;> clear hQ Q <;> (try simp only [reduceCtorEq] at h))|omega|assumption|with_reducible rfl|(refine ux ?_;kernel_rfl)|skip))
        (simp only [vrt,results165,vkt,seval,zz];refine Fin.val rfl ?_;(try simp only [AV.le]))
        all_goals rw [hit 1 (by unfold shE;simp [c1]) (by decide)]
       cases c2:inB s.den 1 12
       ·repeat' first|(apply nx;with_reducible constructor)|refine uq (by decide) ?_|((first|refine uz env fun Q hQ=>?_|refine uj fun Q hQ=>?_);simp only [vkt,seval,qw,zz,hs,c1,c2];(try simp only [ite_and]);(repeat' (first|with_reducible assumption|refine eg ?_ ?_|intro hp));all_goals (first|(refine hQ _ ?_;clear hQ Q)|(refine hQ _ (fun h=>?_) (fun h=>?_) <;> clear hQ Q <;> (try simp only [reduceCtorEq] at h))|omega|assumption|with_reducible rfl|(refine ux ?_;kernel_rfl)|skip))
        (simp only [vrt,results165,vkt,seval,zz];refine Fin.val rfl ?_;(try simp only [AV.le]))
        all_goals rw [hit 1 (by unfold shE;simp [c1,c2]) (by decide)]
       have b1:=zN.1 c1;have b2:=zN.1 c2
       have hro:U6 s.num s.den:=⟨by omega,by omega,by omega,by omega⟩
       have hsg:=QkP (n:=s.num) (d:=s.den) b1.1 b2.1
       by_cases c3:Ut s.num s.den=1
       ·obtain ⟨j',g1,g2⟩:=nxt (by unfold shE;rw [c1,c2,if_neg (by simp),if_neg (by simp),if_neg (by rw [ne_eq,Decidable.not_not];exact hsg.2 c3)])
        repeat' first|(apply nx;with_reducible constructor)|refine uq (by decide) ?_|((first|refine uz env fun Q hQ=>?_|refine uj fun Q hQ=>?_);simp only [vkt,seval,qw,zz,hs,c1,c2,c3,e8];(try simp only [ite_and]);(repeat' (first|with_reducible assumption|refine eg ?_ ?_|intro hp));all_goals (first|(refine hQ _ ?_;clear hQ Q)|(refine hQ _ (fun h=>?_) (fun h=>?_) <;> clear hQ Q <;> (try simp only [reduceCtorEq] at h))|omega|assumption|with_reducible rfl|(refine ux ?_;kernel_rfl)|skip))
        refine ⟨j',g1, ?_⟩
        rw [g2]
        (refine Le.ok some [] ?_;constructor;all_goals (try simp only [vle,vkt,seval,zz]))
        all_goals first|rfl|simp
       ·have h8:=hit 8 (by unfold shE;rw [c1,c2,if_neg (by simp),if_neg (by simp),if_pos (fun hh=>c3 (hsg.1 hh))]) (by decide)
        repeat' first|(apply nx;with_reducible constructor)|refine uq (by decide) ?_|((first|refine uz env fun Q hQ=>?_|refine uj fun Q hQ=>?_);simp only [vkt,seval,qw,zz,hs,c1,c2,c3];(try simp only [ite_and]);(repeat' (first|with_reducible assumption|refine eg ?_ ?_|intro hp));all_goals (first|(refine hQ _ ?_;clear hQ Q)|(refine hQ _ (fun h=>?_) (fun h=>?_) <;> clear hQ Q <;> (try simp only [reduceCtorEq] at h))|omega|assumption|with_reducible rfl|(refine ux ?_;kernel_rfl)|skip))
        (simp only [vrt,results165,vkt,seval,zz];refine Fin.val rfl ?_;(try simp only [AV.le]))
        all_goals rw [h8]
      ·obtain ⟨i',g1,g2⟩:=hN (by rw [hrE];exact j.last (by omega))
       repeat' first|(apply nx;with_reducible constructor)|refine uq (by decide) ?_|((first|refine uz env fun Q hQ=>?_|refine uj fun Q hQ=>?_);simp only [vkt,seval,qw,e9];(try simp only [ite_and]);(repeat' (first|with_reducible assumption|refine eg ?_ ?_|intro hp));all_goals (first|(refine hQ _ ?_;clear hQ Q)|(refine hQ _ (fun h=>?_) (fun h=>?_) <;> clear hQ Q <;> (try simp only [vki,reduceCtorEq] at h))|omega|assumption|with_reducible rfl|(refine ux ?_;kernel_rfl)|skip))
       refine ⟨i',g1, ?_⟩
       rw [g2]
       (refine Le.ok some [] ?_;constructor;all_goals (try simp only [vle,vkt,seval,zz]))
       all_goals first|rfl|simp
    ·have h1:=out 1 (by unfold jU;rw [if_neg (by rw [d1'];simp),if_pos d2]) (by decide)
     have d2':¬ ((r.getD 0 default).num=1/\(r.getD 0 default).den=1):=fun hh=>d2 (by rw [U9];exact hh)
     repeat' first|(apply nx;with_reducible constructor)|refine uq (by decide) ?_|((first|refine uz env fun Q hQ=>?_|refine uj fun Q hQ=>?_);simp only [vkt,seval,qw,zz,hr,d1'];(try simp only [ite_and]);(repeat' (first|with_reducible assumption|refine eg ?_ ?_|intro hp));all_goals (first|(refine hQ _ ?_;clear hQ Q)|(refine hQ _ (fun h=>?_) (fun h=>?_) <;> clear hQ Q <;> (try simp only [vki,reduceCtorEq] at h))|omega|assumption|with_reducible rfl|(refine ux ?_;kernel_rfl)|skip))
     all_goals first|((simp only [vrt,results165,vkt,seval,zz];refine Fin.val rfl ?_;(try simp only [AV.le]));all_goals rw [h1])|(exfalso;omega)
   ·have d1':¬ (r.length:Int)=(l.coins.length:Int):=by omega
    have h1:=out 2 (by unfold jU;rw [if_pos d1']) (by decide)
    repeat' first|(apply nx;with_reducible constructor)|refine uq (by decide) ?_|((first|refine uz env fun Q hQ=>?_|refine uj fun Q hQ=>?_);simp only [vkt,seval,qw,zz,hr,d1'];(try simp only [ite_and]);(repeat' (first|with_reducible assumption|refine eg ?_ ?_|intro hp));all_goals (first|(refine hQ _ ?_;clear hQ Q)|(refine hQ _ (fun h=>?_) (fun h=>?_) <;> clear hQ Q <;> (try simp only [reduceCtorEq] at h))|omega|assumption|with_reducible rfl|(refine ux ?_;kernel_rfl)|skip))
    (simp only [vrt,results165,vkt,seval,zz];refine Fin.val rfl ?_;(try simp only [AV.le]))
    all_goals rw [h1]
  ·have hf2:=i.last (by omega)
   by_cases h3:l.start.length=l.coins.length
   ·have h3':(l.start.length:Int)=l.coins.length:=by omega
    repeat' first|(apply nx;with_reducible constructor)|refine uq (by decide) ?_|((first|refine uz env fun Q hQ=>?_|refine uj fun Q hQ=>?_);simp only [vkt,seval,qw,h3'];(try simp only [ite_and]);(repeat' (first|with_reducible assumption|refine eg ?_ ?_|intro hp));all_goals (first|(refine hQ _ ?_;clear hQ Q)|(refine hQ _ (fun h=>?_) (fun h=>?_) <;> clear hQ Q <;> (try simp only [reduceCtorEq] at h))|omega|assumption|with_reducible rfl|(refine ux ?_;kernel_rfl)|skip))
    refine qh (ι:=FI (errs l.start.length (vW l))) (fun i=>rr3 l i.k) (fun i=>l.start.length - i.k) (FI.zero _) ?_ fun i=>?_
    ·(refine Le.ok some [] ?_;constructor;all_goals (try simp only [vle,vkt,seval,zz]))
     all_goals simp [FI.zero]
    ·have hk:=i.le
     rw [wL] at hk;have fin:ckR l=zQ (errs l.start.length (vW l)):=by unfold ckR;rw [if_neg (by rw [h0];simp),if_neg (by rw [hf2];simp),if_neg (by rw [h3];simp)]
     repeat' first|(apply nx;with_reducible constructor)|refine uq (by decide) ?_
     (refine uz env fun Q hQ=>?_;simp only [vkt,seval,qw,zz];(try simp only [ite_and]);(repeat' (first|with_reducible assumption|refine eg ?_ ?_|intro hp));all_goals (first|(refine hQ _ ?_;clear hQ Q)|omega|assumption|with_reducible rfl|(refine ux ?_;kernel_rfl)|skip))
     repeat' first|(apply nx;with_reducible constructor)|refine uq (by decide) ?_
     (refine zk (by simp only [vkt,seval];rfl) (fun h=>?_) (fun h=>?_) <;> (try simp only [vki] at h))
     ·have hlt:i.k < l.start.length:=by omega
      have e9:=qV hlt (show l.start.length<=maxLen by omega)
      by_cases c1:inB (l.start.getD i.k 0) 0 999=true
      ·repeat' first|(apply nx;with_reducible constructor)|refine uq (by decide) ?_|((first|refine uz env fun Q hQ=>?_|refine uj fun Q hQ=>?_);simp only [vkt,seval,qw,zz,c1];(try simp only [ite_and]);(repeat' (first|with_reducible assumption|refine eg ?_ ?_|intro hp));all_goals (first|(refine hQ _ ?_;clear hQ Q)|(refine hQ _ (fun h=>?_) (fun h=>?_) <;> clear hQ Q <;> (try simp only [reduceCtorEq] at h))|omega|assumption|with_reducible rfl|(refine ux ?_;kernel_rfl)|skip))
       refine ⟨i.next hlt (by unfold vW;rw [c1];rfl),by show l.start.length - (i.k+1) < _;omega, ?_⟩
       (refine Le.ok some [] ?_;constructor;all_goals (try simp only [vle,vkt,seval,zz]))
       all_goals simp [FI.next,e9]
      ·have c1:inB (l.start.getD i.k 0) 0 999=false:=by simpa using c1
       repeat' first|(apply nx;with_reducible constructor)|refine uq (by decide) ?_|((first|refine uz env fun Q hQ=>?_|refine uj fun Q hQ=>?_);simp only [vkt,seval,qw,zz,c1];(try simp only [ite_and]);(repeat' (first|with_reducible assumption|refine eg ?_ ?_|intro hp));all_goals (first|(refine hQ _ ?_;clear hQ Q)|(refine hQ _ (fun h=>?_) (fun h=>?_) <;> clear hQ Q <;> (try simp only [reduceCtorEq] at h))|omega|assumption|with_reducible rfl|(refine ux ?_;kernel_rfl)|skip))
       (simp only [vrt,results165,vkt,seval,zz];refine Fin.val rfl ?_;(try simp only [AV.le]))
       have h1:vW l i.k=1:=by unfold vW;rw [c1];rfl
       all_goals rw [fin,i.hit hlt (by rw [h1];decide),h1]
     ·repeat' first|(apply nx;with_reducible constructor)|refine uq (by decide) ?_|((first|refine uz env fun Q hQ=>?_|refine uj fun Q hQ=>?_);simp only [vkt,seval];(try simp only [ite_and]);(repeat' (first|with_reducible assumption|refine eg ?_ ?_|intro hp));all_goals (first|(refine hQ _ ?_;clear hQ Q)|(refine hQ _ (fun h=>?_) (fun h=>?_) <;> clear hQ Q <;> (try simp only [vki,reduceCtorEq] at h))|omega|assumption|with_reducible rfl|(refine ux ?_;kernel_rfl)|skip))
      (simp only [vrt,results165,vkt,seval,zz];refine Fin.val rfl ?_;(try simp only [AV.le]))
      all_goals rw [fin,i.last (by omega)]
   ·have h3':¬ (l.start.length:Int)=l.coins.length:=by omega
    repeat' first|(apply nx;with_reducible constructor)|refine uq (by decide) ?_|((first|refine uz env fun Q hQ=>?_|refine uj fun Q hQ=>?_);simp only [vkt,seval,qw,h3'];(try simp only [ite_and]);(repeat' (first|with_reducible assumption|refine eg ?_ ?_|intro hp));all_goals (first|(refine hQ _ ?_;clear hQ Q)|(refine hQ _ (fun h=>?_) (fun h=>?_) <;> clear hQ Q <;> (try simp only [reduceCtorEq] at h))|omega|assumption|with_reducible rfl|(refine ux ?_;kernel_rfl)|skip))
    (simp only [vrt,results165,vkt,seval,zz];refine Fin.val rfl ?_;(try simp only [AV.le]))
    all_goals (unfold ckR;rw [if_neg (by rw [h0];simp),if_neg (by rw [hf2];simp),if_pos h3])
def c141:List AV->Prop × AV
 |[.agg [.sl cs,.sl rs,.sl ss,.sl es]]=>(isL cs rs ss es/\FitW (zR cs rs ss es)/\1<=cs.length,aI (ckR (zR cs rs ss es)))
 |_=>(False,.junk)
def d141 {A:Frm->Prop}:qf A prog 165 (zq true c141):=qD fun vs hv h=>by
 clear hv;unfold c141 at h ⊢
 split at h
 ·refine ⟨trivial,fun _=>trivial, ?_⟩
  rw [<- jA h.1];exact Qe8 _ h.2.1 (by simpa [zR] using h.2.2)
 ·exact h.elim
def qG:=vj @ty3 (vj @jh (vj @QD (vj @vU (vj @ti3.eq_1 (vj @jc.eq_1 (vj @kI.eq_1 @vD.eq_1))))))
def wh:=vj @aI.eq_1 (vj @aB.eq_1 (vj @q9.eq_1 (vj @qU.eq_1 (vj @rr1.eq_1 (vj @rc2.eq_1 (vj @qi.eq_1 (vj @J7 (vj @Q5 (vj @qC.eq_1 (vj @qj.eq_1 (vj @c141.eq_1 (vj @c141.eq_2 (vj @xf (@jT))))))))))))))
def Qeg (l:Led) (hl:FitW l):FnV prog 128 [q9 l] (aI (ckC l)):=by
 have env:=qx (A:=fun _=>True) (kC d141 kN)
 refine kV (Fn0 func128 rfl (fun vs w=>by kernel_rfl) (by kernel_rfl)) (by simp) (by simp [AV.ids,AV.idsL,q9,qU]) ?_
 have q1:=hl.c;have q5:=KU
 by_cases a1:l.coins.length=0
 ·have a1':(l.coins.length:Int)=0:=by omega
  repeat' first|(apply nx;with_reducible constructor)|apply uq (by decide)|((first|apply uz env|apply uk);intro Q hQ;simp only [vkt,seval,qG,wh,a1',ite_and];(repeat' first|with_reducible assumption|apply vj|intro hp);all_goals first|(apply hQ;clear hQ Q)|omega|assumption|with_reducible rfl|(apply ux;kernel_rfl)|skip)
  (simp only [vrt,results128,vkt,seval,wh];refine Fin.val rfl ?_;(try simp only [AV.le]))
  all_goals (unfold ckC qy;simp [a1])
 by_cases a2:4 < l.coins.length
 ·have a1':¬ (l.coins.length:Int)=0:=by omega
  have a2':(4:Int) < (l.coins.length:Int):=by omega
  have h4:qy l.coins.length 1 4=6:=by unfold qy;rw [if_neg (by omega),if_pos a2']
  repeat' first|(apply nx;with_reducible constructor)|apply uq (by decide)|((first|apply uz env|apply uk);intro Q hQ;simp only [vkt,seval,qG,wh,a1',a2',ite_and];(repeat' first|with_reducible assumption|apply vj|intro hp);all_goals first|(apply hQ;clear hQ Q)|omega|assumption|with_reducible rfl|(apply ux;kernel_rfl)|skip)
  (simp only [vrt,results128,vkt,seval,wh];refine Fin.val rfl ?_;(try simp only [AV.le]))
  all_goals (unfold ckC;rw [if_pos (by rw [h4];decide),h4])
 have a1':¬ (l.coins.length:Int)=0:=by omega
 have a2':¬ (4:Int) < (l.coins.length:Int):=by omega
 have a3:1<=l.coins.length:=by omega
 have h0:qy l.coins.length 1 4=0:=by unfold qy;rw [if_neg (by omega),if_neg a2']
 repeat' first|(apply nx;with_reducible constructor)|apply uq (by decide)|((first|apply uz env|apply uk);intro Q hQ;simp only [vkt,seval,qG,wh,a1',a2',ite_and];(repeat' first|with_reducible assumption|apply vj|intro hp);all_goals first|(apply hQ;clear hQ Q)|omega|assumption|with_reducible rfl|(apply ux;kernel_rfl)|skip)
 refine qh (ι:=FI (errs l.coins.length (J9 l))) (fun i=>rr1 l i.k) (fun i=>l.coins.length - i.k) (FI.zero _) ?_ fun i=>?_
 ·(refine Le.ok some [] ?_;constructor;all_goals (try simp only [vle,vkt,seval,wh]))
  all_goals simp [FI.zero]
 ·have hk:=i.le
  rw [wL] at hk
  repeat' first|(apply nx;with_reducible constructor)|apply uq (by decide)
  (apply uz env;intro Q hQ;simp only [vkt,seval,qG,wh,ite_and];(repeat' first|with_reducible assumption|apply vj|intro hp);all_goals first|(apply hQ;clear hQ Q)|omega|assumption|with_reducible rfl|(apply ux;kernel_rfl)|skip)
  repeat' first|(apply nx;with_reducible constructor)|apply uq (by decide)
  (refine zk (by simp only [vkt,seval];rfl) (fun h=>?_) (fun h=>?_) <;> (try simp only [vki] at h))
  ·have hlt:i.k < l.coins.length:=by omega
   have hpl:=hl.cs _ (jr (d:=[]) hlt);have e9:=qV hlt (show l.coins.length<=maxLen by omega)
   have out:∀ e,xc (l.coins.getD i.k [])=e->e ≠ 0->ckC l=e:=fun e he h1=>by
    have:=i.hit hlt (by show xc (l.coins.getD i.k []) ≠ 0;rw [he];exact h1)
    unfold ckC;rw [if_neg (by rw [h0];simp),if_pos (by rw [this];show xc _ ≠ 0;rw [he];exact h1),this]
    exact he
   have hN:xc (l.coins.getD i.k [])=0->∃ i':FI (errs l.coins.length (J9 l)),l.coins.length - i'.k < l.coins.length - i.k/\i'.k=i.k+1:=fun h1=>⟨i.next hlt h1,by show l.coins.length - (i.k+1) < _;omega,rfl⟩
   obtain ⟨r,hr⟩:∃ r,l.coins.getD i.k []=r:=⟨_,rfl⟩;rw [hr] at hpl out hN
   by_cases d1:r.length=0
   ·have d1':(r.length:Int)=0:=by omega
    have h1:=out 7 (by unfold xc qy;simp [d1]) (by decide)
    repeat' first|(apply nx;with_reducible constructor)|apply uq (by decide)|((first|apply uz env|apply uk);intro Q hQ;simp only [vkt,seval,qG,wh,hr,d1',ite_and];(repeat' first|with_reducible assumption|apply vj|intro hp);all_goals first|(apply hQ;clear hQ Q)|omega|assumption|with_reducible rfl|(apply ux;kernel_rfl)|skip)
    (simp only [vrt,results128,vkt,seval,wh];refine Fin.val rfl ?_;(try simp only [AV.le]))
    all_goals rw [h1]
   have d1':¬ (r.length:Int)=0:=by omega
   by_cases d2:4 < r.length
   ·have d2':(4:Int) < (r.length:Int):=by omega
    have h4:qy r.length 1 4=6:=by unfold qy;rw [if_neg (by omega),if_pos d2']
    have h1:=out 6 (by unfold xc;rw [if_pos (by rw [h4];decide),h4]) (by decide)
    repeat' first|(apply nx;with_reducible constructor)|apply uq (by decide)|((first|apply uz env|apply uk);intro Q hQ;simp only [vkt,seval,qG,wh,hr,d1',d2',ite_and];(repeat' first|with_reducible assumption|apply vj|intro hp);all_goals first|(apply hQ;clear hQ Q)|omega|assumption|with_reducible rfl|(apply ux;kernel_rfl)|skip)
    (simp only [vrt,results128,vkt,seval,wh];refine Fin.val rfl ?_;(try simp only [AV.le]))
    all_goals rw [h1]
   have d2':¬ (4:Int) < (r.length:Int):=by omega
   have h4:qy r.length 1 4=0:=by unfold qy;rw [if_neg (by omega),if_neg d2']
   have r0:0 < r.length:=by omega
   by_cases d3:r.getD 0 0=1
   ·have hrE:xc r=zQ (errs (r.length - 1) (vF r)):=by unfold xc;rw [if_neg (by rw [h4];simp),if_neg (by rw [d3];simp)]
    repeat' first|(apply nx;with_reducible constructor)|apply uq (by decide)|((first|apply uz env|apply uk);intro Q hQ;simp only [vkt,seval,qG,wh,hr,d1',d2',d3,ite_and];(repeat' first|with_reducible assumption|apply vj|intro hp);all_goals first|(apply hQ;clear hQ Q)|omega|assumption|with_reducible rfl|(apply ux;kernel_rfl)|skip)
    refine qh (ι:=FI (errs (r.length - 1) (vF r))) (fun j=>rc2 l r i.k j.k) (fun j=>r.length - j.k) (FI.zero _) ?_ fun j=>?_
    ·(refine Le.ok some [] ?_;constructor;all_goals (try simp only [vle,vkt,seval,wh]))
     all_goals first|rfl|(simp [FI.zero];done)
    ·have hj:=j.le
     rw [wL] at hj
     repeat' first|(apply nx;with_reducible constructor)|apply uq (by decide)
     (apply uz env;intro Q hQ;simp only [vkt,seval,qG,wh,ite_and];(repeat' first|with_reducible assumption|apply vj|intro hp);all_goals first|(apply hQ;clear hQ Q)|omega|assumption|with_reducible rfl|(apply ux;kernel_rfl)|skip)
     repeat' first|(apply nx;with_reducible constructor)|apply uq (by decide)
     (refine zk (by simp only [vkt,seval];rfl) (fun h=>?_) (fun h=>?_) <;> (try simp only [vki] at h))
     ·have hjl:j.k < r.length - 1:=by omega
      have hjl2:1+j.k < r.length:=by omega
      have hjl3:j.k < r.length:=by omega
      have e8:IntKind.wrap .i64 (((1+j.k:Nat):Int)+1)=((1+(j.k+1):Nat):Int):=by rw [wrap64 (by omega) (by omega)];omega
      have e7:IntKind.wrap .i64 (((1+j.k:Nat):Int) - 1)=(j.k:Int):=by rw [wrap64 (by omega) (by omega)];omega
      have hit:∀ e,vF r j.k=e->e ≠ 0->ckC l=e:=fun e he h1=>out e (by rw [hrE,j.hit hjl (by rw [he];exact h1),he]) h1
      have nxt:vF r j.k=0->∃ j':FI (errs (r.length - 1) (vF r)),r.length - j'.k < r.length - j.k/\j'.k=j.k+1:=fun h1=>⟨j.next hjl h1,by show r.length - (j.k+1) < _;omega,rfl⟩
      by_cases c1:50 < r.getD (1+j.k) 0
      ·have h1:=hit 1 (by unfold vF;rw [if_pos c1]) (by decide)
       repeat' first|(apply nx;with_reducible constructor)|apply uq (by decide)|((first|apply uz env|apply uk);intro Q hQ;simp only [vkt,seval,qG,wh,c1,ite_and];(repeat' first|with_reducible assumption|apply vj|intro hp);all_goals first|(apply hQ;clear hQ Q)|omega|assumption|with_reducible rfl|(apply ux;kernel_rfl)|skip)
       (simp only [vrt,results128,vkt,seval,wh];refine Fin.val rfl ?_;(try simp only [AV.le]))
       all_goals rw [h1]
      by_cases c2:r.getD (1+j.k) 0<=r.getD j.k 0
      ·have h1:=hit 5 (by unfold vF;rw [if_neg c1,if_pos c2]) (by decide)
       repeat' first|(apply nx;with_reducible constructor)|apply uq (by decide)|((first|apply uz env|apply uk);intro Q hQ;simp only [vkt,seval,qG,wh,c1,c2,e7,ite_and];(repeat' first|with_reducible assumption|apply vj|intro hp);all_goals first|(apply hQ;clear hQ Q)|omega|assumption|with_reducible rfl|(apply ux;kernel_rfl)|skip)
       (simp only [vrt,results128,vkt,seval,wh];refine Fin.val rfl ?_;(try simp only [AV.le]))
       all_goals rw [h1]
      ·obtain ⟨j',g1,g2⟩:=nxt (by unfold vF;rw [if_neg c1,if_neg c2])
       repeat' first|(apply nx;with_reducible constructor)|apply uq (by decide)|((first|apply uz env|apply uk);intro Q hQ;simp only [vkt,seval,qG,wh,c1,c2,e7,e8,ite_and];(repeat' first|with_reducible assumption|apply vj|intro hp);all_goals first|(apply hQ;clear hQ Q)|omega|assumption|with_reducible rfl|(apply ux;kernel_rfl)|skip)
       refine ⟨j',g1, ?_⟩
       rw [g2]
       (refine Le.ok some [] ?_;constructor;all_goals (try simp only [vle,vkt,seval,wh]))
       all_goals first|rfl|simp
     ·obtain ⟨i',g1,g2⟩:=hN (by rw [hrE];exact j.last (by omega))
      repeat' first|(apply nx;with_reducible constructor)|apply uq (by decide)|((first|apply uz env|apply uk);intro Q hQ;simp only [vkt,seval,qG,e9,ite_and];(repeat' first|with_reducible assumption|apply vj|intro hp);all_goals first|(apply hQ;clear hQ Q)|omega|assumption|with_reducible rfl|(apply ux;kernel_rfl)|skip)
      refine ⟨i',g1, ?_⟩
      rw [g2]
      (refine Le.ok some [] ?_;constructor;all_goals (try simp only [vle,vkt,seval,wh]))
      all_goals first|rfl|simp
   ·have h1:=out 1 (by unfold xc;rw [if_neg (by rw [h4];simp),if_pos d3]) (by decide)
    repeat' first|(apply nx;with_reducible constructor)|apply uq (by decide)|((first|apply uz env|apply uk);intro Q hQ;simp only [vkt,seval,qG,wh,hr,d1',d2',d3,ite_and];(repeat' first|with_reducible assumption|apply vj|intro hp);all_goals first|(apply hQ;clear hQ Q)|omega|assumption|with_reducible rfl|(apply ux;kernel_rfl)|skip)
    (simp only [vrt,results128,vkt,seval,wh];refine Fin.val rfl ?_;(try simp only [AV.le]))
    all_goals rw [h1]
  ·have hf:=i.last (by omega)
   repeat' first|(apply nx;with_reducible constructor)|apply uq (by decide)|((first|apply uz env|apply uk);intro Q hQ;simp only [vkt,seval,qG,wh,ite_and];(repeat' first|with_reducible assumption|apply vj|intro hp);all_goals first|(apply hQ;clear hQ Q)|omega|assumption|with_reducible rfl|(apply ux;kernel_rfl)|skip)
   (simp only [vrt,results128,vkt,seval,wh];refine Fin.val rfl ?_;(try simp only [AV.le]))
   all_goals (unfold ckC;rw [if_neg (by rw [h0];simp),if_neg (by rw [hf];simp)])
def c113:List AV->Prop × AV
 |[.agg [.sl cs,.sl rs,.sl ss,.sl es]]=>(isL cs rs ss es/\FitW (zR cs rs ss es),aI (ckC (zR cs rs ss es)))
 |_=>(False,.junk)
def d113 {A:Frm->Prop}:qf A prog 128 (zq true c113):=qD fun vs hv h=>by
 clear hv;unfold c113 at h ⊢
 split at h
 ·refine ⟨trivial,fun _=>trivial, ?_⟩
  rw [<- jA h.1];exact Qeg _ h.2
 ·exact h.elim
def Qk2 {l:Led} (h:ckC l=0) (hl:FitW l):EsOk l:=by
 unfold ckC at h;split at h
 ·rename_i h1;exact absurd h h1
 split at h
 ·rename_i h1;exact absurd h h1
 unfold ckR at h;split at h
 ·rename_i h1;exact absurd h h1
 split at h
 ·rename_i h1;exact absurd h h1
 split at h
 ·exact absurd h (by decide)
 rename_i h3;have h3:=Decidable.not_not.1 h3
 exact ⟨hl.c,hl.r,hl.e,h3,fun v hv=>by
  obtain ⟨j,hj,rfl⟩:=bC hv;have:=kF h hj
  unfold vW at this;cases hb:inB (l.start.getD j 0) 0 999 with
  |true=>rw [zN] at hb;simpa [ah,hj] using hb
  |false=>rw [hb] at this;simp at this⟩
def rkT (l:Led) (k:Nat):St:={ t:=asg [(1,.ptr 0 0),(2,aI 0),(4,aI (stK l k).1),(5,qi (stK l k).2),(6,aI k)],h:=qg [(0,.cells (qU l))],n:=1 }
def jX:=vj @ty3 (vj @jh (vj @WP (vj @Yt (vj @vU (vj @vR (vj @ti3.eq_1 (vj @jc.eq_1 (vj @Zn.eq_1 (vj @WO.eq_1 (vj @vD.eq_1 @yS.eq_1))))))))))
def xn:=vj @aI.eq_1 (vj @aB.eq_1 (vj @q9.eq_1 (vj @qU.eq_1 (vj @qi.eq_1 (vj @rkT.eq_1 (vj @R8 (vj @zC.eq_1 (vj @c113.eq_1 (vj @c113.eq_2 (vj @s114.eq_1 (vj @s114.eq_2 (vj @s115.eq_1 (vj @s115.eq_2 (vj @xf (vj @jT (@Qo))))))))))))))))
def Qb2 (l:Led) (hl:FitW l):FnV prog 67 [q9 l] (aI (zf l)):=by
 have env:=qx (A:=fun _=>True) (kC d113 (kC e114 (kC e115 kN)))
 refine kV (Fn0 func67 rfl (fun vs w=>by kernel_rfl) (by kernel_rfl)) (by simp) (by simp [AV.ids,AV.idsL,q9,qU]) ?_
 by_cases h0:ckC l=0
 ·have hes:=Qk2 h0 hl
  have hce:zf l=jM l:=by rw [R6,if_neg (by rw [h0];simp)]
  rw [hce];have q1:=hes.c
  have q2:=hes.r;have q3:=hes.e
  have q5:=KU
  by_cases a1:6 < l.entries.length
  ·have a1':(6:Int) < (l.entries.length:Int):=by omega
   have h4:qy l.entries.length 0 6=6:=by unfold qy;rw [if_neg (by omega),if_pos a1']
   repeat' first|(apply nx;with_reducible constructor)|apply uq (by decide)|((first|apply uz env|apply uk);intro Q hQ;simp only [vkt,seval,jX,xn,h0,a1',ite_and];(repeat' first|with_reducible assumption|apply vj|intro hp);all_goals first|(apply hQ;clear hQ Q)|omega|assumption|with_reducible rfl|(apply ux;kernel_rfl)|skip)
   (simp only [vrt,results67,vkt,seval,xn];refine Fin.val rfl ?_;(try simp only [AV.le]))
   all_goals (unfold jM;rw [if_pos (by rw [h4];decide),h4])
  ·have a1':¬ (6:Int) < (l.entries.length:Int):=by omega
   have h4:qy l.entries.length 0 6=0:=by unfold qy;rw [if_neg (by omega),if_neg a1']
   have hE0:jM l=zQ (errs l.entries.length (eK l)):=by unfold jM;rw [if_neg (by rw [h4];simp)]
   repeat' first|(apply nx;with_reducible constructor)|apply uq (by decide)|((first|apply uz env|apply uk);intro Q hQ;simp only [vkt,seval,jX,xn,h0,a1',ite_and];(repeat' first|with_reducible assumption|apply vj|intro hp);all_goals first|(apply hQ;clear hQ Q)|omega|assumption|with_reducible rfl|(apply ux;kernel_rfl)|skip)
   refine qh (ι:=FI (errs l.entries.length (eK l))) (fun i=>rkT l i.k) (fun i=>l.entries.length - i.k) (FI.zero _) ?_ fun i=>?_
   ·(refine Le.ok some [] ?_;constructor;all_goals (try simp only [vle,vkt,seval,xn]))
    all_goals first|rfl|(simp [FI.zero,stK];done)
   ·have hk:=i.le
    rw [wL] at hk;have hall:∀ j,j < i.k->eK l j=0:=fun j hj=>by rw [<- QS (eK l) (show j < l.entries.length by omega)];exact i.all j hj
    have hok:=JE hes.s hes.v i.k hk hall
    repeat' first|(apply nx;with_reducible constructor)|apply uq (by decide)
    (apply uz env;intro Q hQ;simp only [vkt,seval,jX,xn,ite_and];(repeat' first|with_reducible assumption|apply vj|intro hp);all_goals first|(apply hQ;clear hQ Q)|omega|assumption|with_reducible rfl|(apply ux;kernel_rfl)|skip)
    repeat' first|(apply nx;with_reducible constructor)|apply uq (by decide)
    (refine zk (by simp only [vkt,seval];rfl) (fun h=>?_) (fun h=>?_) <;> (try simp only [vki] at h))
    ·have hlt:i.k < l.entries.length:=by omega
     have hS:=Je hlt;have hE:=Qc8 l i.k
     have hN:eK l i.k=0->∃ i':FI (errs l.entries.length (eK l)),l.entries.length - i'.k < l.entries.length - i.k/\i'.k=i.k+1:=fun h1=>⟨i.next hlt h1,by show l.entries.length - (i.k+1) < _;omega,rfl⟩
     have out:eK l i.k ≠ 0->jM l=eK l i.k:=fun h1=>by rw [hE0,i.hit hlt h1]
     have e9:=qV hlt (show l.entries.length<=maxLen by omega)
     have k20:i.k<=100:=by omega
     generalize hx:l.entries.getD i.k default=x at *;generalize hst:stK l i.k=st at *
     obtain ⟨b,has⟩:=st;dsimp only at hE hok hS
     have ho:=hok.len;have ho2:has.length<=100000:=by omega
     by_cases c1:eV l x b has=0
     ·have c1':eV l ⟨x.day,x.kind,x.coin,x.to,x.amount,x.got⟩ b has=0:=c1
      have hent:wm l x b=0:=by
       unfold eV at c1;split at c1
       ·rename_i h1;exact absurd c1 h1
       ·rename_i h1;exact Decidable.not_not.1 h1
      have hen:EnOk has ⟨x.day,x.kind,x.coin,x.to,x.amount,x.got⟩:=VP hok k20 (QH hent);obtain ⟨i',g1,g2⟩:=hN (by rw [hE];exact c1)
      repeat' first|(apply nx;with_reducible constructor)|apply uq (by decide)|((first|apply uz env|apply uk);intro Q hQ;simp only [vkt,seval,jX,xn,hx,c1',e9,ite_and];(repeat' first|with_reducible assumption|apply vj|intro hp);all_goals first|(apply hQ;clear hQ Q)|omega|assumption|with_reducible rfl|(apply ux;kernel_rfl)|skip)
      refine ⟨i',g1, ?_⟩
      rw [g2]
      (refine Le.ok some [] ?_;constructor;all_goals (try simp only [vle,vkt,seval,xn]))
      all_goals first|rfl|(simp [hS];done)
     ·have c1':¬ eV l ⟨x.day,x.kind,x.coin,x.to,x.amount,x.got⟩ b has=0:=c1
      repeat' first|(apply nx;with_reducible constructor)|apply uq (by decide)|((first|apply uz env|apply uk);intro Q hQ;simp only [vkt,seval,jX,xn,hx,c1',ite_and];(repeat' first|with_reducible assumption|apply vj|intro hp);all_goals first|(apply hQ;clear hQ Q)|omega|assumption|with_reducible rfl|(apply ux;kernel_rfl)|skip)
      (simp only [vrt,results67,vkt,seval,xn];refine Fin.val rfl ?_;(try simp only [AV.le]))
      all_goals (rw [out (by rw [hE];exact c1),hE])
    ·repeat' first|(apply nx;with_reducible constructor)|apply uq (by decide)|((first|apply uz env|apply uk);intro Q hQ;simp only [vkt,seval,ite_and];(repeat' first|with_reducible assumption|apply vj|intro hp);all_goals first|(apply hQ;clear hQ Q)|omega|assumption|with_reducible rfl|(apply ux;kernel_rfl)|skip)
     (simp only [vrt,results67,vkt,seval,xn];refine Fin.val rfl ?_;(try simp only [AV.le]))
     all_goals (rw [hE0,i.last (by omega)])
 ·have hce:zf l=ckC l:=by rw [R6,if_pos h0]
  rw [hce]
  repeat' first|(apply nx;with_reducible constructor)|apply uq (by decide)|((first|apply uz env|apply uk);intro Q hQ;simp only [vkt,seval,jX,xn,h0,ite_and];(repeat' first|with_reducible assumption|apply vj|intro hp);all_goals first|(apply hQ;clear hQ Q)|omega|assumption|with_reducible rfl|(apply ux;kernel_rfl)|skip)
  (simp only [vrt,results67,vkt,seval,xn];refine Fin.val rfl ?_;(try simp only [AV.le]))
  all_goals simp
def QeA:List AV->Prop × AV
 |[.agg [.sl cs,.sl rs,.sl ss,.sl es]]=>(isL cs rs ss es/\FitW (zR cs rs ss es),aI (zf (zR cs rs ss es)))
 |_=>(False,.junk)
def e51w {A:Frm->Prop}:qf A prog 67 (zq true QeA):=qD fun vs hv h=>by
 clear hv;unfold QeA at h ⊢
 split at h
 ·refine ⟨trivial,fun _=>trivial, ?_⟩
  rw [<- jA h.1];exact Qb2 _ h.2
 ·exact h.elim
end Go.Sym.B
namespace Go.Sym.B
open Go Go.Sym Go.Proofs Go.Proofs.Tryz Go.Sym.C Go.RowKit
def rdrS (L:List (List UInt8)) (k:Nat) (c:Led) (now:Int):St:={ t:=asg [(2,.ptr 0 0),(3,aI 0),(4,aI 0),(5,qa L),(6,.ptr 1 0),(7,aI now),(8,aI k)],h:=qg [(0,.cells [.sl [],.sl [],.sl [],.sl []]),(1,ldR c.start 2 3 4),(2,rwI c.coins),(3,rwS c.rates),(4,rwE c.entries)],n:=5 }
def QeV (t:List UInt8) (h:t.length<=400):xC t=match wH wI 0 0 ((zH t 10).take ((zH t 10).length - 1)) with
  |.error n=>(wI,n,2)
  |.ok p=>if p.2=4/\(zH t 10).getD ((zH t 10).length - 1) []=[] then if zf p.1=0 then (p.1,0,0) else (wI,0,zf p.1) else (wI,(zH t 10).length,2):=by
 unfold xC Js;rw [if_neg (by omega),UO]
 cases wH wI 0 0 ((zH t 10).take ((zH t 10).length - 1)) with
 |error n=>rfl
 |ok p =>
  dsimp only
  by_cases h:p.2=4/\(zH t 10).getD ((zH t 10).length - 1) []=[]
  ·rw [if_pos h,if_pos h]
  ·rw [if_neg h,if_neg h]
def NwOk (now st:Int):Prop:=(now=0/\st=0)\/now=st+1
def Ql4 {now st:Int} (h:NwOk now st) (h5:St5 st):(now=0/\st=0)\/(now=1/\st=0)\/(now=2/\st=1)\/(now=3/\st=2)\/(now=4/\st=3)\/(now=5/\st=4):=by
 unfold NwOk at h;unfold St5 at h5
 omega
def qc:=vj @ty3 (vj @ty9 (vj @JR (vj @WP (vj @vU (vj @ti3.eq_1 (vj @ti9.eq_1 (vj @Wj.eq_1 (vj @Zn.eq_1 @vD.eq_1))))))))
def qo:=vj @aI.eq_1 (vj @aB.eq_1 (vj @q9.eq_1 (vj @qU.eq_1 (vj @xf (vj @jT (vj @yI (vj @QK (vj @QL (vj @ZJ (vj @kg (vj @XI (vj @Qo (@Jj)))))))))))))
def Qgw (t:List UInt8):FnV prog 23 [aS t] (.tup [q9 (xC t).1,aI (xC t).2.1,aI (xC t).2.2]):=by
 have env:=qx (A:=fun _=>True) (kC WJ (kC erTak (kC e51w kN)))
 refine kV (Fn0 func23 rfl (fun vs w=>by kernel_rfl) (by kernel_rfl)) (by simp) (by simp [AV.ids,aS]) ?_
 have hsz:(ByteArray.mk ⟨t⟩).size=t.length:=rfl
 by_cases h0:400 < t.length
 ·have d1:decide ((400:Int) < (t.length:Int))=true:=decide_eq_true (by omega)
  have er:xC t=(wI,0,10):=by unfold xC;rw [if_pos h0]
  rw [er]
  repeat' first|(apply nx;with_reducible constructor)|apply uq (by decide)|((first|apply uz env|apply uk);intro Q hQ;simp only [vkt,seval,qc,aS,d1,hsz,ite_and];(repeat' first|with_reducible assumption|apply vj|intro hp);all_goals first|(apply hQ;clear hQ Q)|(apply ux;kernel_rfl)|omega|assumption|with_reducible rfl|skip)
  (simp only [vrt,results23,vkt,seval,qc,qo,wI];refine Fin.val rfl ?_;(try simp only [AV.le,AV.leL]))
  all_goals first|rfl|(simp;done)|exact ⟨⟨rfl,rfl,rfl,rfl,trivial⟩,trivial,trivial,trivial⟩
 have d1:decide ((400:Int) < (t.length:Int))=false:=decide_eq_false (by omega)
 have hL:(zH t 10).length<=t.length+1:=jN 10 t [];have hL0:(zH t 10).length ≠ 0:=yA 10 t []
 have hit:∀ w ∈ zH t 10,w.length<=t.length:=fun w hw=>by have:=jF 10 t [] w hw;simpa using this
 have hfit:∀ c,wH wI 0 0 ((zH t 10).take ((zH t 10).length - 1))=.ok (c,4)->(zH t 10).getD ((zH t 10).length - 1) []=[]->FitW c:=fun c hc he=>Vp (t:=t) (by omega) (by
  unfold Js;rw [UO,hc]
  dsimp only;rw [if_pos ⟨rfl,he⟩])
 rw [QeV t (by omega)]
 have u10:UInt8.ofNat 10=10:=rfl;obtain ⟨L,hLe⟩:∃ L,zH t 10=L:=⟨_,rfl⟩
 rw [hLe] at hL hL0 hit hfit ⊢;obtain ⟨m,hm⟩:∃ m,L.length=m+1:=⟨L.length - 1,by omega⟩
 rw [hm,ed] at hfit;rw [hm,ed]
 have hl1:t.length<=100000:=by omega
 have e0:IntKind.wrap .i64 ((L.length:Int) - 1)=(m:Int):=by rw [hm,wrap64 (by omega) (by omega)];omega
 obtain ⟨R,hR⟩:∃ R,L.take m=R:=⟨_,rfl⟩;have hRl:R.length=m:=by rw [<- hR,aR];omega
 rw [hR] at hfit;rw [hR]
 repeat' first|(apply nx;with_reducible constructor)|apply uq (by decide)|((first|apply uz env|apply uk);intro Q hQ;simp only [vkt,seval,qc,aS,Qx,qa,d1,hsz,hl1,u10,hLe,ite_and];(repeat' first|with_reducible assumption|apply vj|intro hp);all_goals first|(apply hQ;clear hQ Q)|(apply ux;kernel_rfl)|omega|assumption|with_reducible rfl|skip)
 refine qh (fun s:{ p:Nat × Led × Int × Int // p.1<=m/\wH wI 0 0 (R.take p.1)=.ok (p.2.1,p.2.2.1)/\NwOk p.2.2.2 p.2.2.1 }=>rdrS L s.1.1 s.1.2.1 s.1.2.2.2) (fun s=>m - s.1.1) ⟨(0,wI,0,0),af _,rfl,.inl ⟨rfl,rfl⟩⟩ ?_ fun ⟨⟨k,c,st,now⟩,hk,hg,hnw⟩=>?_
 ·simp only [rdrS]
  (refine Le.ok (fun i=>if i=0 then some 0 else if i=1 then some 1 else none) [] ?_;constructor;all_goals (try simp only [vle,vkt,seval,qo,wI,qa,rwI,rwS,rwE,ldR]))
  all_goals first|rfl|(simp;done)|exact ⟨rfl,trivial⟩|(intro i hi;rw [if_neg (by omega),if_neg (by omega)];done)|(intro i hi;rw [if_neg (by omega)];done)
 simp only at hk hg hnw ⊢;have hsz:=Ze _ _ _ _ hg
 have hst:=Ve _ _ _ _ (.inl rfl) hg;have hn6:=Ql4 hnw hst
 have htl:(R.take k).length=k:=by rw [aR];omega
 rw [htl] at hsz;simp only [LY,wI,ce,bD] at hsz
 by_cases hlt:k < m
 ·have f1:decide ((k:Int) < (m:Int))=true:=decide_eq_true (by omega)
  have e9:=k9 k (by omega)
  have hkR:k < R.length:=by omega
  have hkL:k < L.length:=by omega
  have hRL:R.getD k []=L.getD k []:=by rw [<- hR];simp [ah,hlt]
  have hS:R.take (k+1)=R.take k++[R.getD k []]:=by
   rw [bT,ak hkR]
   simp [hkR]
  have hy:∀ d,(L.map ql).getD k d=[.v (.string ⟨⟨L.getD k []⟩⟩)]:=fun d=>ZV L k d hkL
  have hs1:(L.getD k []).length<=t.length:=by
   have h1:L.getD k []=L[k]:=by simp [hkL]
   rw [h1];exact hit _ (bF _)
  rw [hRL] at hS;generalize L.getD k []=s at hs1 hS hy
  have hs2:s.length<=800:=by omega
  have hnx:wH wI 0 0 (R.take (k+1))=match zg c st k s with
    |.error n=>.error n
    |.ok p=>.ok p:=by
   rw [hS,Q3,hg];dsimp only
   rw [htl,bD,wH];cases zg c st k s <;> rfl
  have herr:zg c st k s=.error (k+1)->wH wI 0 0 R=.error (k+1):=fun hn=>by
   have h2:=Q3 (R.take (k+1)) (R.drop (k+1)) wI 0 0;rw [cF,hnx,hn] at h2
   exact h2
  have c1:c.coins.length<=1000:=by omega
  have c2:c.rates.length<=1000:=by omega
  have c3:c.entries.length<=1000:=by omega
  obtain ⟨cs,rs,ss,es⟩:=c;dsimp only at c1 c2 c3
  simp only [rdrS];have mx0:max (0:Int) 1=1:=rfl
  have mx1:max (1:Int) 1=1:=rfl;have mx2:max (2:Int) 1=2:=rfl
  have mx3:max (3:Int) 1=3:=rfl;have mx4:max (4:Int) 1=4:=rfl
  have mx5:max (5:Int) 1=5:=rfl
  rcases hn6 with ⟨rfl,rfl⟩|⟨rfl,rfl⟩|⟨rfl,rfl⟩|⟨rfl,rfl⟩|⟨rfl,rfl⟩|⟨rfl,rfl⟩
  ·cases hln:xB s with
   |none =>
    rw [herr (by simp only [zg,hln])]
    dsimp only
    repeat' first|(apply nx;with_reducible constructor)|apply uq (by decide)|((first|apply uz env|apply uk);intro Q hQ;simp only [vkt,seval,qc,qo,jE,ldC,xe,jD,qa,rwI,rwS,rwE,ldR,za,f1,e0,e9,hy,hkL,hs2,hln,c1,c2,c3,mx0,ite_and];(repeat' first|with_reducible assumption|apply vj|intro hp);all_goals first|(apply hQ;clear hQ Q)|(apply ux;kernel_rfl)|omega|assumption|with_reducible rfl|skip)
    (simp only [vrt,results23,vkt,seval,qc,qo,wI];refine Fin.val rfl ?_;(try simp only [AV.le,AV.leL]))
    all_goals first|rfl|(simp;done)|exact ⟨⟨rfl,rfl,rfl,rfl,trivial⟩,trivial,trivial,trivial⟩
   |some x=>cases x with
    |coin xx =>
     have he:zg ⟨cs,rs,ss,es⟩ 0 k s=.ok (qE ⟨cs,rs,ss,es⟩ (.coin xx),qb (.coin xx)):=by simp only [zg,hln];rw [if_neg (by simp [qR,qb])]
     rw [he] at hnx
     repeat' first|(apply nx;with_reducible constructor)|apply uq (by decide)|((first|apply uz env|apply uk);intro Q hQ;simp only [vkt,seval,qc,qo,jE,ldC,xe,jD,qa,rwI,rwS,rwE,ldR,za,ae,qb,qK,f1,e0,e9,hy,hkL,hs2,hln,c1,c2,c3,mx0,ite_and];(repeat' first|with_reducible assumption|apply vj|intro hp);all_goals first|(apply hQ;clear hQ Q)|(apply ux;kernel_rfl)|omega|assumption|with_reducible rfl|skip)
     refine ⟨⟨(k+1,qE ⟨cs,rs,ss,es⟩ (.coin xx),qb (.coin xx),qb (.coin xx)+1),hlt,hnx,.inr rfl⟩,by show m - (k+1) < m - k;omega, ?_⟩
     (refine Le.ok (fun i=>if i=2 then some 5 else some i) [] ?_;constructor;all_goals (try simp only [vle,vkt,seval,qo,qa,rwI,rwS,rwE,ldR,ae,qb,qE]))
     all_goals first|rfl|(simp;done)|exact ⟨rfl,trivial⟩|(intro i hi;rw [if_neg (by omega)];done)
    |rates xx =>
     have he:zg ⟨cs,rs,ss,es⟩ 0 k s=.ok (qE ⟨cs,rs,ss,es⟩ (.rates xx),qb (.rates xx)):=by simp only [zg,hln];rw [if_neg (by simp [qR,qb])]
     rw [he] at hnx
     repeat' first|(apply nx;with_reducible constructor)|apply uq (by decide)|((first|apply uz env|apply uk);intro Q hQ;simp only [vkt,seval,qc,qo,jE,ldC,xe,jD,qa,rwI,rwS,rwE,ldR,za,ae,qb,qK,f1,e0,e9,hy,hkL,hs2,hln,c1,c2,c3,mx0,ite_and];(repeat' first|with_reducible assumption|apply vj|intro hp);all_goals first|(apply hQ;clear hQ Q)|(apply ux;kernel_rfl)|omega|assumption|with_reducible rfl|skip)
     refine ⟨⟨(k+1,qE ⟨cs,rs,ss,es⟩ (.rates xx),qb (.rates xx),qb (.rates xx)+1),hlt,hnx,.inr rfl⟩,by show m - (k+1) < m - k;omega, ?_⟩
     (refine Le.ok (fun i=>if i=3 then some 5 else some i) [] ?_;constructor;all_goals (try simp only [vle,vkt,seval,qo,qa,rwI,rwS,rwE,ldR,ae,qb,qE]))
     all_goals first|rfl|(simp;done)|exact ⟨rfl,trivial⟩|(intro i hi;rw [if_neg (by omega)];done)
    |start xx =>
     have he:zg ⟨cs,rs,ss,es⟩ 0 k s=.ok (qE ⟨cs,rs,ss,es⟩ (.start xx),qb (.start xx)):=by simp only [zg,hln];rw [if_neg (by simp [qR,qb])]
     rw [he] at hnx
     repeat' first|(apply nx;with_reducible constructor)|apply uq (by decide)|((first|apply uz env|apply uk);intro Q hQ;simp only [vkt,seval,qc,qo,jE,ldC,xe,jD,qa,rwI,rwS,rwE,ldR,za,qb,qK,f1,e0,e9,hy,hkL,hs2,hln,c1,c2,c3,mx0,ite_and];(repeat' first|with_reducible assumption|apply vj|intro hp);all_goals first|(apply hQ;clear hQ Q)|(apply ux;kernel_rfl)|omega|assumption|with_reducible rfl|skip)
     refine ⟨⟨(k+1,qE ⟨cs,rs,ss,es⟩ (.start xx),qb (.start xx),qb (.start xx)+1),hlt,hnx,.inr rfl⟩,by show m - (k+1) < m - k;omega, ?_⟩
     (refine Le.ok some [] ?_;constructor;all_goals (try simp only [vle,vkt,seval,qo,qa,rwI,rwS,rwE,ldR,qb,qE]))
     all_goals first|rfl|(simp;done)|exact ⟨rfl,trivial⟩|(intro i hi;rw [if_neg (by omega)];done)
    |bal =>
     rw [herr (by simp only [zg,hln];rw [if_pos (by simp [qR,qb])])]
     dsimp only
     repeat' first|(apply nx;with_reducible constructor)|apply uq (by decide)|((first|apply uz env|apply uk);intro Q hQ;simp only [vkt,seval,qc,qo,jE,ldC,xe,jD,qa,rwI,rwS,rwE,ldR,za,qb,qK,f1,e0,e9,hy,hkL,hs2,hln,c1,c2,c3,mx0,ite_and];(repeat' first|with_reducible assumption|apply vj|intro hp);all_goals first|(apply hQ;clear hQ Q)|(apply ux;kernel_rfl)|omega|assumption|with_reducible rfl|skip)
     (simp only [vrt,results23,vkt,seval,qc,qo,wI];refine Fin.val rfl ?_;(try simp only [AV.le,AV.leL]))
     all_goals first|rfl|(simp;done)|exact ⟨⟨rfl,rfl,rfl,rfl,trivial⟩,trivial,trivial,trivial⟩
    |entry xx =>
     rw [herr (by simp only [zg,hln];rw [if_pos (by simp [qR,qb])])]
     dsimp only
     repeat' first|(apply nx;with_reducible constructor)|apply uq (by decide)|((first|apply uz env|apply uk);intro Q hQ;simp only [vkt,seval,qc,qo,jE,ldC,xe,jD,qa,rwI,rwS,rwE,ldR,za,ae,qb,qK,f1,e0,e9,hy,hkL,hs2,hln,c1,c2,c3,mx0,ite_and];(repeat' first|with_reducible assumption|apply vj|intro hp);all_goals first|(apply hQ;clear hQ Q)|(apply ux;kernel_rfl)|omega|assumption|with_reducible rfl|skip)
     (simp only [vrt,results23,vkt,seval,qc,qo,wI];refine Fin.val rfl ?_;(try simp only [AV.le,AV.leL]))
     all_goals first|rfl|(simp;done)|exact ⟨⟨rfl,rfl,rfl,rfl,trivial⟩,trivial,trivial,trivial⟩
  ·cases hln:xB s with
   |none =>
    rw [herr (by simp only [zg,hln])]
    dsimp only
    repeat' first|(apply nx;with_reducible constructor)|apply uq (by decide)|((first|apply uz env|apply uk);intro Q hQ;simp only [vkt,seval,qc,qo,jE,ldC,xe,jD,qa,rwI,rwS,rwE,ldR,za,f1,e0,e9,hy,hkL,hs2,hln,c1,c2,c3,mx1,ite_and];(repeat' first|with_reducible assumption|apply vj|intro hp);all_goals first|(apply hQ;clear hQ Q)|(apply ux;kernel_rfl)|omega|assumption|with_reducible rfl|skip)
    (simp only [vrt,results23,vkt,seval,qc,qo,wI];refine Fin.val rfl ?_;(try simp only [AV.le,AV.leL]))
    all_goals first|rfl|(simp;done)|exact ⟨⟨rfl,rfl,rfl,rfl,trivial⟩,trivial,trivial,trivial⟩
   |some x=>cases x with
    |coin xx =>
     have he:zg ⟨cs,rs,ss,es⟩ 0 k s=.ok (qE ⟨cs,rs,ss,es⟩ (.coin xx),qb (.coin xx)):=by simp only [zg,hln];rw [if_neg (by simp [qR,qb])]
     rw [he] at hnx
     repeat' first|(apply nx;with_reducible constructor)|apply uq (by decide)|((first|apply uz env|apply uk);intro Q hQ;simp only [vkt,seval,qc,qo,jE,ldC,xe,jD,qa,rwI,rwS,rwE,ldR,za,ae,qb,qK,f1,e0,e9,hy,hkL,hs2,hln,c1,c2,c3,mx1,ite_and];(repeat' first|with_reducible assumption|apply vj|intro hp);all_goals first|(apply hQ;clear hQ Q)|(apply ux;kernel_rfl)|omega|assumption|with_reducible rfl|skip)
     refine ⟨⟨(k+1,qE ⟨cs,rs,ss,es⟩ (.coin xx),qb (.coin xx),qb (.coin xx)+1),hlt,hnx,.inr rfl⟩,by show m - (k+1) < m - k;omega, ?_⟩
     (refine Le.ok (fun i=>if i=2 then some 5 else some i) [] ?_;constructor;all_goals (try simp only [vle,vkt,seval,qo,qa,rwI,rwS,rwE,ldR,ae,qb,qE]))
     all_goals first|rfl|(simp;done)|exact ⟨rfl,trivial⟩|(intro i hi;rw [if_neg (by omega)];done)
    |rates xx =>
     have he:zg ⟨cs,rs,ss,es⟩ 0 k s=.ok (qE ⟨cs,rs,ss,es⟩ (.rates xx),qb (.rates xx)):=by simp only [zg,hln];rw [if_neg (by simp [qR,qb])]
     rw [he] at hnx
     repeat' first|(apply nx;with_reducible constructor)|apply uq (by decide)|((first|apply uz env|apply uk);intro Q hQ;simp only [vkt,seval,qc,qo,jE,ldC,xe,jD,qa,rwI,rwS,rwE,ldR,za,ae,qb,qK,f1,e0,e9,hy,hkL,hs2,hln,c1,c2,c3,mx1,ite_and];(repeat' first|with_reducible assumption|apply vj|intro hp);all_goals first|(apply hQ;clear hQ Q)|(apply ux;kernel_rfl)|omega|assumption|with_reducible rfl|skip)
     refine ⟨⟨(k+1,qE ⟨cs,rs,ss,es⟩ (.rates xx),qb (.rates xx),qb (.rates xx)+1),hlt,hnx,.inr rfl⟩,by show m - (k+1) < m - k;omega, ?_⟩
     (refine Le.ok (fun i=>if i=3 then some 5 else some i) [] ?_;constructor;all_goals (try simp only [vle,vkt,seval,qo,qa,rwI,rwS,rwE,ldR,ae,qb,qE]))
     all_goals first|rfl|(simp;done)|exact ⟨rfl,trivial⟩|(intro i hi;rw [if_neg (by omega)];done)
    |start xx =>
     have he:zg ⟨cs,rs,ss,es⟩ 0 k s=.ok (qE ⟨cs,rs,ss,es⟩ (.start xx),qb (.start xx)):=by simp only [zg,hln];rw [if_neg (by simp [qR,qb])]
     rw [he] at hnx
     repeat' first|(apply nx;with_reducible constructor)|apply uq (by decide)|((first|apply uz env|apply uk);intro Q hQ;simp only [vkt,seval,qc,qo,jE,ldC,xe,jD,qa,rwI,rwS,rwE,ldR,za,qb,qK,f1,e0,e9,hy,hkL,hs2,hln,c1,c2,c3,mx1,ite_and];(repeat' first|with_reducible assumption|apply vj|intro hp);all_goals first|(apply hQ;clear hQ Q)|(apply ux;kernel_rfl)|omega|assumption|with_reducible rfl|skip)
     refine ⟨⟨(k+1,qE ⟨cs,rs,ss,es⟩ (.start xx),qb (.start xx),qb (.start xx)+1),hlt,hnx,.inr rfl⟩,by show m - (k+1) < m - k;omega, ?_⟩
     (refine Le.ok some [] ?_;constructor;all_goals (try simp only [vle,vkt,seval,qo,qa,rwI,rwS,rwE,ldR,qb,qE]))
     all_goals first|rfl|(simp;done)|exact ⟨rfl,trivial⟩|(intro i hi;rw [if_neg (by omega)];done)
    |bal =>
     rw [herr (by simp only [zg,hln];rw [if_pos (by simp [qR,qb])])]
     dsimp only
     repeat' first|(apply nx;with_reducible constructor)|apply uq (by decide)|((first|apply uz env|apply uk);intro Q hQ;simp only [vkt,seval,qc,qo,jE,ldC,xe,jD,qa,rwI,rwS,rwE,ldR,za,qb,qK,f1,e0,e9,hy,hkL,hs2,hln,c1,c2,c3,mx1,ite_and];(repeat' first|with_reducible assumption|apply vj|intro hp);all_goals first|(apply hQ;clear hQ Q)|(apply ux;kernel_rfl)|omega|assumption|with_reducible rfl|skip)
     (simp only [vrt,results23,vkt,seval,qc,qo,wI];refine Fin.val rfl ?_;(try simp only [AV.le,AV.leL]))
     all_goals first|rfl|(simp;done)|exact ⟨⟨rfl,rfl,rfl,rfl,trivial⟩,trivial,trivial,trivial⟩
    |entry xx =>
     rw [herr (by simp only [zg,hln];rw [if_pos (by simp [qR,qb])])]
     dsimp only
     repeat' first|(apply nx;with_reducible constructor)|apply uq (by decide)|((first|apply uz env|apply uk);intro Q hQ;simp only [vkt,seval,qc,qo,jE,ldC,xe,jD,qa,rwI,rwS,rwE,ldR,za,ae,qb,qK,f1,e0,e9,hy,hkL,hs2,hln,c1,c2,c3,mx1,ite_and];(repeat' first|with_reducible assumption|apply vj|intro hp);all_goals first|(apply hQ;clear hQ Q)|(apply ux;kernel_rfl)|omega|assumption|with_reducible rfl|skip)
     (simp only [vrt,results23,vkt,seval,qc,qo,wI];refine Fin.val rfl ?_;(try simp only [AV.le,AV.leL]))
     all_goals first|rfl|(simp;done)|exact ⟨⟨rfl,rfl,rfl,rfl,trivial⟩,trivial,trivial,trivial⟩
  ·cases hln:xB s with
   |none =>
    rw [herr (by simp only [zg,hln])]
    dsimp only
    repeat' first|(apply nx;with_reducible constructor)|apply uq (by decide)|((first|apply uz env|apply uk);intro Q hQ;simp only [vkt,seval,qc,qo,jE,ldC,xe,jD,qa,rwI,rwS,rwE,ldR,za,f1,e0,e9,hy,hkL,hs2,hln,c1,c2,c3,mx2,ite_and];(repeat' first|with_reducible assumption|apply vj|intro hp);all_goals first|(apply hQ;clear hQ Q)|(apply ux;kernel_rfl)|omega|assumption|with_reducible rfl|skip)
    (simp only [vrt,results23,vkt,seval,qc,qo,wI];refine Fin.val rfl ?_;(try simp only [AV.le,AV.leL]))
    all_goals first|rfl|(simp;done)|exact ⟨⟨rfl,rfl,rfl,rfl,trivial⟩,trivial,trivial,trivial⟩
   |some x=>cases x with
    |coin xx =>
     rw [herr (by simp only [zg,hln];rw [if_pos (by simp [qR,qb])])]
     dsimp only
     repeat' first|(apply nx;with_reducible constructor)|apply uq (by decide)|((first|apply uz env|apply uk);intro Q hQ;simp only [vkt,seval,qc,qo,jE,ldC,xe,jD,qa,rwI,rwS,rwE,ldR,za,ae,qb,qK,f1,e0,e9,hy,hkL,hs2,hln,c1,c2,c3,mx2,ite_and];(repeat' first|with_reducible assumption|apply vj|intro hp);all_goals first|(apply hQ;clear hQ Q)|(apply ux;kernel_rfl)|omega|assumption|with_reducible rfl|skip)
     (simp only [vrt,results23,vkt,seval,qc,qo,wI];refine Fin.val rfl ?_;(try simp only [AV.le,AV.leL]))
     all_goals first|rfl|(simp;done)|exact ⟨⟨rfl,rfl,rfl,rfl,trivial⟩,trivial,trivial,trivial⟩
    |rates xx =>
     have he:zg ⟨cs,rs,ss,es⟩ 1 k s=.ok (qE ⟨cs,rs,ss,es⟩ (.rates xx),qb (.rates xx)):=by simp only [zg,hln];rw [if_neg (by simp [qR,qb])]
     rw [he] at hnx
     repeat' first|(apply nx;with_reducible constructor)|apply uq (by decide)|((first|apply uz env|apply uk);intro Q hQ;simp only [vkt,seval,qc,qo,jE,ldC,xe,jD,qa,rwI,rwS,rwE,ldR,za,ae,qb,qK,f1,e0,e9,hy,hkL,hs2,hln,c1,c2,c3,mx2,ite_and];(repeat' first|with_reducible assumption|apply vj|intro hp);all_goals first|(apply hQ;clear hQ Q)|(apply ux;kernel_rfl)|omega|assumption|with_reducible rfl|skip)
     refine ⟨⟨(k+1,qE ⟨cs,rs,ss,es⟩ (.rates xx),qb (.rates xx),qb (.rates xx)+1),hlt,hnx,.inr rfl⟩,by show m - (k+1) < m - k;omega, ?_⟩
     (refine Le.ok (fun i=>if i=3 then some 5 else some i) [] ?_;constructor;all_goals (try simp only [vle,vkt,seval,qo,qa,rwI,rwS,rwE,ldR,ae,qb,qE]))
     all_goals first|rfl|(simp;done)|exact ⟨rfl,trivial⟩|(intro i hi;rw [if_neg (by omega)];done)
    |start xx =>
     have he:zg ⟨cs,rs,ss,es⟩ 1 k s=.ok (qE ⟨cs,rs,ss,es⟩ (.start xx),qb (.start xx)):=by simp only [zg,hln];rw [if_neg (by simp [qR,qb])]
     rw [he] at hnx
     repeat' first|(apply nx;with_reducible constructor)|apply uq (by decide)|((first|apply uz env|apply uk);intro Q hQ;simp only [vkt,seval,qc,qo,jE,ldC,xe,jD,qa,rwI,rwS,rwE,ldR,za,qb,qK,f1,e0,e9,hy,hkL,hs2,hln,c1,c2,c3,mx2,ite_and];(repeat' first|with_reducible assumption|apply vj|intro hp);all_goals first|(apply hQ;clear hQ Q)|(apply ux;kernel_rfl)|omega|assumption|with_reducible rfl|skip)
     refine ⟨⟨(k+1,qE ⟨cs,rs,ss,es⟩ (.start xx),qb (.start xx),qb (.start xx)+1),hlt,hnx,.inr rfl⟩,by show m - (k+1) < m - k;omega, ?_⟩
     (refine Le.ok some [] ?_;constructor;all_goals (try simp only [vle,vkt,seval,qo,qa,rwI,rwS,rwE,ldR,qb,qE]))
     all_goals first|rfl|(simp;done)|exact ⟨rfl,trivial⟩|(intro i hi;rw [if_neg (by omega)];done)
    |bal =>
     rw [herr (by simp only [zg,hln];rw [if_pos (by simp [qR,qb])])]
     dsimp only
     repeat' first|(apply nx;with_reducible constructor)|apply uq (by decide)|((first|apply uz env|apply uk);intro Q hQ;simp only [vkt,seval,qc,qo,jE,ldC,xe,jD,qa,rwI,rwS,rwE,ldR,za,qb,qK,f1,e0,e9,hy,hkL,hs2,hln,c1,c2,c3,mx2,ite_and];(repeat' first|with_reducible assumption|apply vj|intro hp);all_goals first|(apply hQ;clear hQ Q)|(apply ux;kernel_rfl)|omega|assumption|with_reducible rfl|skip)
     (simp only [vrt,results23,vkt,seval,qc,qo,wI];refine Fin.val rfl ?_;(try simp only [AV.le,AV.leL]))
     all_goals first|rfl|(simp;done)|exact ⟨⟨rfl,rfl,rfl,rfl,trivial⟩,trivial,trivial,trivial⟩
    |entry xx =>
     rw [herr (by simp only [zg,hln];rw [if_pos (by simp [qR,qb])])]
     dsimp only
     repeat' first|(apply nx;with_reducible constructor)|apply uq (by decide)|((first|apply uz env|apply uk);intro Q hQ;simp only [vkt,seval,qc,qo,jE,ldC,xe,jD,qa,rwI,rwS,rwE,ldR,za,ae,qb,qK,f1,e0,e9,hy,hkL,hs2,hln,c1,c2,c3,mx2,ite_and];(repeat' first|with_reducible assumption|apply vj|intro hp);all_goals first|(apply hQ;clear hQ Q)|(apply ux;kernel_rfl)|omega|assumption|with_reducible rfl|skip)
     (simp only [vrt,results23,vkt,seval,qc,qo,wI];refine Fin.val rfl ?_;(try simp only [AV.le,AV.leL]))
     all_goals first|rfl|(simp;done)|exact ⟨⟨rfl,rfl,rfl,rfl,trivial⟩,trivial,trivial,trivial⟩
  ·cases hln:xB s with
   |none =>
    rw [herr (by simp only [zg,hln])]
    dsimp only
    repeat' first|(apply nx;with_reducible constructor)|apply uq (by decide)|((first|apply uz env|apply uk);intro Q hQ;simp only [vkt,seval,qc,qo,jE,ldC,xe,jD,qa,rwI,rwS,rwE,ldR,za,f1,e0,e9,hy,hkL,hs2,hln,c1,c2,c3,mx3,ite_and];(repeat' first|with_reducible assumption|apply vj|intro hp);all_goals first|(apply hQ;clear hQ Q)|(apply ux;kernel_rfl)|omega|assumption|with_reducible rfl|skip)
    (simp only [vrt,results23,vkt,seval,qc,qo,wI];refine Fin.val rfl ?_;(try simp only [AV.le,AV.leL]))
    all_goals first|rfl|(simp;done)|exact ⟨⟨rfl,rfl,rfl,rfl,trivial⟩,trivial,trivial,trivial⟩
   |some x=>cases x with
    |coin xx =>
     rw [herr (by simp only [zg,hln];rw [if_pos (by simp [qR,qb])])]
     dsimp only
     repeat' first|(apply nx;with_reducible constructor)|apply uq (by decide)|((first|apply uz env|apply uk);intro Q hQ;simp only [vkt,seval,qc,qo,jE,ldC,xe,jD,qa,rwI,rwS,rwE,ldR,za,ae,qb,qK,f1,e0,e9,hy,hkL,hs2,hln,c1,c2,c3,mx3,ite_and];(repeat' first|with_reducible assumption|apply vj|intro hp);all_goals first|(apply hQ;clear hQ Q)|(apply ux;kernel_rfl)|omega|assumption|with_reducible rfl|skip)
     (simp only [vrt,results23,vkt,seval,qc,qo,wI];refine Fin.val rfl ?_;(try simp only [AV.le,AV.leL]))
     all_goals first|rfl|(simp;done)|exact ⟨⟨rfl,rfl,rfl,rfl,trivial⟩,trivial,trivial,trivial⟩
    |rates xx =>
     rw [herr (by simp only [zg,hln];rw [if_pos (by simp [qR,qb])])]
     dsimp only
     repeat' first|(apply nx;with_reducible constructor)|apply uq (by decide)|((first|apply uz env|apply uk);intro Q hQ;simp only [vkt,seval,qc,qo,jE,ldC,xe,jD,qa,rwI,rwS,rwE,ldR,za,ae,qb,qK,f1,e0,e9,hy,hkL,hs2,hln,c1,c2,c3,mx3,ite_and];(repeat' first|with_reducible assumption|apply vj|intro hp);all_goals first|(apply hQ;clear hQ Q)|(apply ux;kernel_rfl)|omega|assumption|with_reducible rfl|skip)
     (simp only [vrt,results23,vkt,seval,qc,qo,wI];refine Fin.val rfl ?_;(try simp only [AV.le,AV.leL]))
     all_goals first|rfl|(simp;done)|exact ⟨⟨rfl,rfl,rfl,rfl,trivial⟩,trivial,trivial,trivial⟩
    |start xx =>
     rw [herr (by simp only [zg,hln];rw [if_pos (by simp [qR,qb])])]
     dsimp only
     repeat' first|(apply nx;with_reducible constructor)|apply uq (by decide)|((first|apply uz env|apply uk);intro Q hQ;simp only [vkt,seval,qc,qo,jE,ldC,xe,jD,qa,rwI,rwS,rwE,ldR,za,qb,qK,f1,e0,e9,hy,hkL,hs2,hln,c1,c2,c3,mx3,ite_and];(repeat' first|with_reducible assumption|apply vj|intro hp);all_goals first|(apply hQ;clear hQ Q)|(apply ux;kernel_rfl)|omega|assumption|with_reducible rfl|skip)
     (simp only [vrt,results23,vkt,seval,qc,qo,wI];refine Fin.val rfl ?_;(try simp only [AV.le,AV.leL]))
     all_goals first|rfl|(simp;done)|exact ⟨⟨rfl,rfl,rfl,rfl,trivial⟩,trivial,trivial,trivial⟩
    |bal =>
     have he:zg ⟨cs,rs,ss,es⟩ 2 k s=.ok (qE ⟨cs,rs,ss,es⟩ .bal,qb .bal):=by simp only [zg,hln];rw [if_neg (by simp [qR,qb])]
     rw [he] at hnx
     repeat' first|(apply nx;with_reducible constructor)|apply uq (by decide)|((first|apply uz env|apply uk);intro Q hQ;simp only [vkt,seval,qc,qo,jE,ldC,xe,jD,qa,rwI,rwS,rwE,ldR,za,qb,qK,f1,e0,e9,hy,hkL,hs2,hln,c1,c2,c3,mx3,ite_and];(repeat' first|with_reducible assumption|apply vj|intro hp);all_goals first|(apply hQ;clear hQ Q)|(apply ux;kernel_rfl)|omega|assumption|with_reducible rfl|skip)
     refine ⟨⟨(k+1,qE ⟨cs,rs,ss,es⟩ .bal,qb .bal,qb .bal+1),hlt,hnx,.inr rfl⟩,by show m - (k+1) < m - k;omega, ?_⟩
     (refine Le.ok some [] ?_;constructor;all_goals (try simp only [vle,vkt,seval,qo,qa,rwI,rwS,rwE,ldR,qb,qE]))
     all_goals first|rfl|(simp;done)|exact ⟨rfl,trivial⟩|(intro i hi;rw [if_neg (by omega)];done)
    |entry xx =>
     have he:zg ⟨cs,rs,ss,es⟩ 2 k s=.ok (qE ⟨cs,rs,ss,es⟩ (.entry xx),qb (.entry xx)):=by simp only [zg,hln];rw [if_neg (by simp [qR,qb])]
     rw [he] at hnx
     repeat' first|(apply nx;with_reducible constructor)|apply uq (by decide)|((first|apply uz env|apply uk);intro Q hQ;simp only [vkt,seval,qc,qo,jE,ldC,xe,jD,qa,rwI,rwS,rwE,ldR,za,ae,qb,qK,f1,e0,e9,hy,hkL,hs2,hln,c1,c2,c3,mx3,ite_and];(repeat' first|with_reducible assumption|apply vj|intro hp);all_goals first|(apply hQ;clear hQ Q)|(apply ux;kernel_rfl)|omega|assumption|with_reducible rfl|skip)
     refine ⟨⟨(k+1,qE ⟨cs,rs,ss,es⟩ (.entry xx),qb (.entry xx),qb (.entry xx)+1),hlt,hnx,.inr rfl⟩,by show m - (k+1) < m - k;omega, ?_⟩
     (refine Le.ok (fun i=>if i=4 then some 5 else some i) [] ?_;constructor;all_goals (try simp only [vle,vkt,seval,qo,qa,rwI,rwS,rwE,ldR,ae,qb,qE]))
     all_goals first|rfl|(simp;done)|exact ⟨rfl,trivial⟩|(intro i hi;rw [if_neg (by omega)];done)
  ·cases hln:xB s with
   |none =>
    rw [herr (by simp only [zg,hln])]
    dsimp only
    repeat' first|(apply nx;with_reducible constructor)|apply uq (by decide)|((first|apply uz env|apply uk);intro Q hQ;simp only [vkt,seval,qc,qo,jE,ldC,xe,jD,qa,rwI,rwS,rwE,ldR,za,f1,e0,e9,hy,hkL,hs2,hln,c1,c2,c3,mx4,ite_and];(repeat' first|with_reducible assumption|apply vj|intro hp);all_goals first|(apply hQ;clear hQ Q)|(apply ux;kernel_rfl)|omega|assumption|with_reducible rfl|skip)
    (simp only [vrt,results23,vkt,seval,qc,qo,wI];refine Fin.val rfl ?_;(try simp only [AV.le,AV.leL]))
    all_goals first|rfl|(simp;done)|exact ⟨⟨rfl,rfl,rfl,rfl,trivial⟩,trivial,trivial,trivial⟩
   |some x=>cases x with
    |coin xx =>
     rw [herr (by simp only [zg,hln];rw [if_pos (by simp [qR,qb])])]
     dsimp only
     repeat' first|(apply nx;with_reducible constructor)|apply uq (by decide)|((first|apply uz env|apply uk);intro Q hQ;simp only [vkt,seval,qc,qo,jE,ldC,xe,jD,qa,rwI,rwS,rwE,ldR,za,ae,qb,qK,f1,e0,e9,hy,hkL,hs2,hln,c1,c2,c3,mx4,ite_and];(repeat' first|with_reducible assumption|apply vj|intro hp);all_goals first|(apply hQ;clear hQ Q)|(apply ux;kernel_rfl)|omega|assumption|with_reducible rfl|skip)
     (simp only [vrt,results23,vkt,seval,qc,qo,wI];refine Fin.val rfl ?_;(try simp only [AV.le,AV.leL]))
     all_goals first|rfl|(simp;done)|exact ⟨⟨rfl,rfl,rfl,rfl,trivial⟩,trivial,trivial,trivial⟩
    |rates xx =>
     rw [herr (by simp only [zg,hln];rw [if_pos (by simp [qR,qb])])]
     dsimp only
     repeat' first|(apply nx;with_reducible constructor)|apply uq (by decide)|((first|apply uz env|apply uk);intro Q hQ;simp only [vkt,seval,qc,qo,jE,ldC,xe,jD,qa,rwI,rwS,rwE,ldR,za,ae,qb,qK,f1,e0,e9,hy,hkL,hs2,hln,c1,c2,c3,mx4,ite_and];(repeat' first|with_reducible assumption|apply vj|intro hp);all_goals first|(apply hQ;clear hQ Q)|(apply ux;kernel_rfl)|omega|assumption|with_reducible rfl|skip)
     (simp only [vrt,results23,vkt,seval,qc,qo,wI];refine Fin.val rfl ?_;(try simp only [AV.le,AV.leL]))
     all_goals first|rfl|(simp;done)|exact ⟨⟨rfl,rfl,rfl,rfl,trivial⟩,trivial,trivial,trivial⟩
    |start xx =>
     rw [herr (by simp only [zg,hln];rw [if_pos (by simp [qR,qb])])]
     dsimp only
     repeat' first|(apply nx;with_reducible constructor)|apply uq (by decide)|((first|apply uz env|apply uk);intro Q hQ;simp only [vkt,seval,qc,qo,jE,ldC,xe,jD,qa,rwI,rwS,rwE,ldR,za,qb,qK,f1,e0,e9,hy,hkL,hs2,hln,c1,c2,c3,mx4,ite_and];(repeat' first|with_reducible assumption|apply vj|intro hp);all_goals first|(apply hQ;clear hQ Q)|(apply ux;kernel_rfl)|omega|assumption|with_reducible rfl|skip)
     (simp only [vrt,results23,vkt,seval,qc,qo,wI];refine Fin.val rfl ?_;(try simp only [AV.le,AV.leL]))
     all_goals first|rfl|(simp;done)|exact ⟨⟨rfl,rfl,rfl,rfl,trivial⟩,trivial,trivial,trivial⟩
    |bal =>
     have he:zg ⟨cs,rs,ss,es⟩ 3 k s=.ok (qE ⟨cs,rs,ss,es⟩ .bal,qb .bal):=by simp only [zg,hln];rw [if_neg (by simp [qR,qb])]
     rw [he] at hnx
     repeat' first|(apply nx;with_reducible constructor)|apply uq (by decide)|((first|apply uz env|apply uk);intro Q hQ;simp only [vkt,seval,qc,qo,jE,ldC,xe,jD,qa,rwI,rwS,rwE,ldR,za,qb,qK,f1,e0,e9,hy,hkL,hs2,hln,c1,c2,c3,mx4,ite_and];(repeat' first|with_reducible assumption|apply vj|intro hp);all_goals first|(apply hQ;clear hQ Q)|(apply ux;kernel_rfl)|omega|assumption|with_reducible rfl|skip)
     refine ⟨⟨(k+1,qE ⟨cs,rs,ss,es⟩ .bal,qb .bal,qb .bal+1),hlt,hnx,.inr rfl⟩,by show m - (k+1) < m - k;omega, ?_⟩
     (refine Le.ok some [] ?_;constructor;all_goals (try simp only [vle,vkt,seval,qo,qa,rwI,rwS,rwE,ldR,qb,qE]))
     all_goals first|rfl|(simp;done)|exact ⟨rfl,trivial⟩|(intro i hi;rw [if_neg (by omega)];done)
    |entry xx =>
     have he:zg ⟨cs,rs,ss,es⟩ 3 k s=.ok (qE ⟨cs,rs,ss,es⟩ (.entry xx),qb (.entry xx)):=by simp only [zg,hln];rw [if_neg (by simp [qR,qb])]
     rw [he] at hnx
     repeat' first|(apply nx;with_reducible constructor)|apply uq (by decide)|((first|apply uz env|apply uk);intro Q hQ;simp only [vkt,seval,qc,qo,jE,ldC,xe,jD,qa,rwI,rwS,rwE,ldR,za,ae,qb,qK,f1,e0,e9,hy,hkL,hs2,hln,c1,c2,c3,mx4,ite_and];(repeat' first|with_reducible assumption|apply vj|intro hp);all_goals first|(apply hQ;clear hQ Q)|(apply ux;kernel_rfl)|omega|assumption|with_reducible rfl|skip)
     refine ⟨⟨(k+1,qE ⟨cs,rs,ss,es⟩ (.entry xx),qb (.entry xx),qb (.entry xx)+1),hlt,hnx,.inr rfl⟩,by show m - (k+1) < m - k;omega, ?_⟩
     (refine Le.ok (fun i=>if i=4 then some 5 else some i) [] ?_;constructor;all_goals (try simp only [vle,vkt,seval,qo,qa,rwI,rwS,rwE,ldR,ae,qb,qE]))
     all_goals first|rfl|(simp;done)|exact ⟨rfl,trivial⟩|(intro i hi;rw [if_neg (by omega)];done)
  ·have he:zg ⟨cs,rs,ss,es⟩ 4 k s=.error (k+1):=by
    unfold zg;split
    ·rfl
    ·rw [if_pos (by simp [qR])]
   rw [herr he];dsimp only
   repeat' first|(apply nx;with_reducible constructor)|apply uq (by decide)|((first|apply uz env|apply uk);intro Q hQ;simp only [vkt,seval,qc,qo,qa,rwI,rwS,rwE,ldR,f1,e0,e9,mx5,ite_and];(repeat' first|with_reducible assumption|apply vj|intro hp);all_goals first|(apply hQ;clear hQ Q)|(apply ux;kernel_rfl)|omega|assumption|with_reducible rfl|skip)
   (simp only [vrt,results23,vkt,seval,qc,qo,wI];refine Fin.val rfl ?_;(try simp only [AV.le,AV.leL]))
   all_goals first|rfl|(simp;done)|exact ⟨⟨rfl,rfl,rfl,rfl,trivial⟩,trivial,trivial,trivial⟩
 ·have f1:decide ((k:Int) < (m:Int))=false:=decide_eq_false (by omega)
  obtain rfl:k=m:=by omega
  have hg2:R.take k=R:=aP (by omega)
  rw [hg2] at hg;rw [hg]
  dsimp only;have hy:∀ d,(L.map ql).getD k d=[.v (.string ⟨⟨L.getD k []⟩⟩)]:=fun d=>ZV L k d (by omega)
  have hkL:k < L.length:=by omega
  have hmL:(L.length:Int)=((k+1:Nat):Int):=by omega
  have hfit2:=hfit c;generalize L.getD k []=z at hy hfit2
  have hb:(decide (now=5)=false/\True/\¬ (st=4/\z=[]))\/(decide (now=5)=true/\(z == [])=false/\¬ (st=4/\z=[]))\/(now=5/\st=4/\z=[]):=by
   by_cases h1:now=5
   ·by_cases h2:z=[]
    ·exact .inr (.inr ⟨h1,by omega,h2⟩)
    ·exact .inr (.inl ⟨decide_eq_true h1,beq_eq_false_iff_ne.2 h2,fun h=>h2 h.2⟩)
   ·exact .inl ⟨decide_eq_false h1,trivial,fun h=>h1 (by omega)⟩
  obtain ⟨cs,rs,ss,es⟩:=c;simp only [rdrS]
  rcases hb with ⟨b3,_,hb⟩|⟨b3,b4,hb⟩|⟨rfl,rfl,rfl⟩
  ·rw [if_neg hb,show k+1=L.length by omega]
   repeat' first|(apply nx;with_reducible constructor)|apply uq (by decide)|((first|apply uz env|apply uk);intro Q hQ;simp only [vkt,seval,qc,qo,qa,rwI,rwS,rwE,ldR,f1,e0,b3,ite_and];(repeat' first|with_reducible assumption|apply vj|intro hp);all_goals first|(apply hQ;clear hQ Q)|(apply ux;kernel_rfl)|omega|assumption|with_reducible rfl|skip)
   (simp only [vrt,results23,vkt,seval,qc,qo,wI];refine Fin.val rfl ?_;(try simp only [AV.le,AV.leL]))
   all_goals first|rfl|(simp;done)|exact ⟨⟨rfl,rfl,rfl,rfl,trivial⟩,trivial,trivial,trivial⟩
  ·rw [if_neg hb,show k+1=L.length by omega]
   repeat' first|(apply nx;with_reducible constructor)|apply uq (by decide)|((first|apply uz env|apply uk);intro Q hQ;simp only [vkt,seval,qc,qo,qa,rwI,rwS,rwE,ldR,f1,e0,hy,hkL,b3,b4,ite_and];(repeat' first|with_reducible assumption|apply vj|intro hp);all_goals first|(apply hQ;clear hQ Q)|(apply ux;kernel_rfl)|omega|assumption|with_reducible rfl|skip)
   (simp only [vrt,results23,vkt,seval,qc,qo,wI];refine Fin.val rfl ?_;(try simp only [AV.le,AV.leL]))
   all_goals first|rfl|(simp;done)|exact ⟨⟨rfl,rfl,rfl,rfl,trivial⟩,trivial,trivial,trivial⟩
  ·rw [if_pos ⟨rfl,rfl⟩]
   have b4:(([]:List UInt8) == [])=true:=rfl;have hF:=hfit2 hg rfl
   refine (XX (S':={ t:=asg [(2,.ptr 0 0),(3,aI 0),(4,aI 0),(5,qa L),(6,.ptr 1 0),(7,aI 5),(8,aI k)],h:=qg [(0,.cells [.sl [],.sl [],.sl [],.sl []]),(1,.cells (qU ⟨cs,rs,ss,es⟩))],n:=2 }) (?_:Le _ _) ?_:Sym _ _ _ _ _)
   ·(refine Le.ok some [2,3,4] ?_;constructor;all_goals (try simp only [vle,vkt,seval,qo,qa,rwI,rwS,rwE,ldR]))
    all_goals first|rfl|(simp;done)|exact ⟨_,_,rfl⟩|exact ⟨⟨_,_,rfl⟩,⟨_,_,rfl⟩,_,_,rfl⟩
   obtain ⟨e,he⟩:∃ e,zf ⟨cs,rs,ss,es⟩=e:=⟨_,rfl⟩;rw [he]
   have hF2:FitW (zR (cs.map qC) (rs.map zM) (ss.map qj) (es.map zC)):=by rw [show zR (cs.map qC) (rs.map zM) (ss.map qj) (es.map zC)=⟨cs,rs,ss,es⟩ from jT ⟨cs,rs,ss,es⟩];exact hF
   have hI2:isL (cs.map qC) (rs.map zM) (ss.map qj) (es.map zC):=(xf ⟨cs,rs,ss,es⟩).mpr trivial;have hE2:zf (zR (cs.map qC) (rs.map zM) (ss.map qj) (es.map zC))=e:=by rw [show zR (cs.map qC) (rs.map zM) (ss.map qj) (es.map zC)=⟨cs,rs,ss,es⟩ from jT ⟨cs,rs,ss,es⟩];exact he
   by_cases hz:e=0
   ·rw [if_pos hz]
    have d3:decide (e=0)=true:=decide_eq_true hz
    repeat' first|(apply nx;with_reducible constructor)|apply uq (by decide)|((first|apply uz env|apply uk);intro Q hQ;simp only [vkt,seval,qc,qo,QeA,qa,f1,e0,hy,hkL,hF2,hI2,hE2,d3,ite_and];(repeat' first|with_reducible assumption|apply vj|intro hp);all_goals first|(apply hQ;clear hQ Q)|(apply ux;kernel_rfl)|omega|assumption|with_reducible rfl|skip)
    (simp only [vrt,results23,vkt,seval,qc,qo];refine Fin.val rfl ?_;(try simp only [AV.le,AV.leL]))
    all_goals first|rfl|simp
   ·rw [if_neg hz]
    have d3:decide (e=0)=false:=decide_eq_false hz
    repeat' first|(apply nx;with_reducible constructor)|apply uq (by decide)|((first|apply uz env|apply uk);intro Q hQ;simp only [vkt,seval,qc,qo,QeA,qa,f1,e0,hy,hkL,hF2,hI2,hE2,d3,ite_and];(repeat' first|with_reducible assumption|apply vj|intro hp);all_goals first|(apply hQ;clear hQ Q)|(apply ux;kernel_rfl)|omega|assumption|with_reducible rfl|skip)
    (simp only [vrt,results23,vkt,seval,qc,qo,wI];refine Fin.val rfl ?_;(try simp only [AV.le,AV.leL]))
    all_goals first|rfl|(simp;done)|exact ⟨⟨rfl,rfl,rfl,rfl,trivial⟩,trivial,trivial,trivial⟩
end Go.Sym.B
namespace Go.Sym.B
open Go Go.Sym Go.Proofs Go.Proofs.Tryz Go.Sym.C
def flatL (l:List (List UInt8)):List UInt8:=(l.map (·++[10])).flatten
def QZ (l:List (List UInt8)) (x:List UInt8):flatL (l++[x])=flatL l++x++[10]:=by simp [flatL]
def Yq (l:List (List UInt8)) (x:List UInt8):flatL (x :: l)=x++[10]++flatL l:=by simp [flatL]
def Qd0:∀ (l:List (List UInt8)),Lib.joinTail [10] l++[10]=[10]++flatL l
 |[]=>by simp [Lib.joinTail,flatL]
 |x :: l=>by
  have e:Lib.joinTail [10] (x :: l)=[10]++x++Lib.joinTail [10] l:=by simp [Lib.joinTail]
  rw [e,bW,Qd0 l,Yq];simp
def Qfc {l:List (List UInt8)} (h:l ≠ []):Lib.join l [10]++[10]=flatL l:=by
 match l,h with
 |x :: l,_=>rw [Lib.join_cons,bW,Qd0,Yq];simp
def JN (m:Nat):∀ {l:List (List UInt8)},(∀ x ∈ l,x.length<=m)->(flatL l).length<=l.length * (m+1)
 |[],_=>by simp [flatL]
 |x :: l,h=>by
  have h1:=JN m fun y hy=>h y (.tail _ hy)
  have h2:=h x (.head _);rw [Yq,au,au,show (x :: l).length=l.length+1 from rfl,cB]
  simp;omega
def rrS2 (w:List UInt8) (l:List Int) (k:Nat):St:={ t:=asg [(0,aS (jnd w (l.take k))),(1,qi l),(4,aS []),(5,aI k)],h:=qg [],n:=0 }
def X0:=vj @ty3 (vj @ty9 (vj @jh (vj @ti3.eq_1 (vj @ti9.eq_1 @jc.eq_1))))
def YQ:=vj @aI.eq_1 (vj @aB.eq_1 (vj @qi.eq_1 (vj @qj.eq_1 (@Q5))))
def Qin (w:List UInt8) (l:List Int) (hw:w.length<=10000) (hl:l.length<=100) (hn:∀ n ∈ l,0<=n/\n < 1000):Fn (jS JX) prog 68 [aS w,qi l] noH (aS (jnd w l++[10])) noH 0:=by
 have env:=qx (A:=zZ JX) (kC Qdn kN);refine kT (Fn0 func68 rfl (fun vs w=>by kernel_rfl) (by kernel_rfl)) (by simp) (by simp [AV.ids,qi,aS]) ?_
 have hmx:(100:Nat)<=maxLen:=by decide
 repeat' first|(apply nx;with_reducible constructor)|apply uq (by decide)|((first|apply uz env|apply uk);intro Q hQ;simp only [vkt,seval,YQ,aS,ite_and];(repeat' first|with_reducible assumption|apply vj|intro hp);all_goals first|(apply hQ;clear hQ Q)|(apply ux;kernel_rfl)|omega|assumption|with_reducible rfl|skip)
 refine qh (fun s:{ s:Nat // s<=l.length }=>rrS2 w l s.1) (fun s=>l.length - s.1) ⟨0,af _⟩ ?_ fun ⟨k,hk⟩=>?_
 ·simp only [rrS2,List.take_zero,Qdw]
  (refine Le.ok some [] ?_;constructor;all_goals (try simp only [vle,vkt,seval,YQ,aS]))
  all_goals first|rfl|simp
 simp only at hk ⊢;have hj:=vC w (l.take k) fun n hm=>hn n (aQ hm)
 have hj2:(l.take k).length<=100:=by simp;omega
 by_cases hlt:k < l.length
 ·have d1:decide ((k:Int) < (l.length:Int))=true:=decide_eq_true (by omega)
  have e9:=k9 k (by omega)
  have hS:=Qbn w l hlt;have hx:=Q5 l k
  have hb:=hn _ (jr (d:=0) hlt);generalize l.getD k 0=n at hx hb hS
  have hd:=Qq hb.1 hb.2;obtain ⟨W,hW⟩:∃ W,jnd w (l.take k)=W:=⟨_,rfl⟩
  rw [hW,<- bW] at hS;rw [hW] at hj
  simp only [rrS2,hW];have b0:-9223372036854775808<=n:=by omega
  have b1:n<=9223372036854775807:=by omega
  repeat' first|(apply nx;with_reducible constructor)|apply uq (by decide)|((first|apply uz env|apply uk);intro Q hQ;simp only [vkt,seval,X0,YQ,aS,WC,au,d1,e9,hx,hlt,b0,b1,ite_and];(repeat' first|with_reducible assumption|apply vj|intro hp);all_goals first|(apply hQ;clear hQ Q)|(apply ux;kernel_rfl)|omega|assumption|with_reducible rfl|skip)
  refine ⟨⟨k+1,hlt⟩,by show l.length - (k+1) < l.length - k;omega, ?_⟩
  simp only [hS]
  (refine Le.ok some [] ?_;constructor;all_goals (try simp only [vle,vkt,seval,YQ,aS]))
  all_goals first|rfl|simp
 ·have d1:decide ((k:Int) < (l.length:Int))=false:=decide_eq_false (by omega)
  obtain rfl:k=l.length:=by omega
  rw [bt] at hj;simp only [rrS2,bt]
  repeat' first|(apply nx;with_reducible constructor)|apply uq (by decide)|((first|apply uz env|apply uk);intro Q hQ;simp only [vkt,seval,X0,YQ,aS,d1,ite_and];(repeat' first|with_reducible assumption|apply vj|intro hp);all_goals first|(apply hQ;clear hQ Q)|(apply ux;kernel_rfl)|omega|assumption|with_reducible rfl|skip)
  (simp only [vrt,results68,vkt,seval,aS];refine Fin.val rfl ?_;(try simp only [AV.le]))
  all_goals first|rfl|simp
def Rq:List AV->Prop × AV
 |[.v (.string ⟨⟨w⟩⟩),.sl l]=>(l=(l.map qL).map qj/\w.length<=10000/\(l.map qL).length<=100/\∀ n ∈ (l.map qL),0<=n/\n < 1000,aS (jnd w (l.map qL)++[10]))
 |_=>(False,.junk)
def errow:qf (zZ JX) prog 68 (zq true Rq):=xN fun vs hv h=>by
 clear hv;unfold Rq at h ⊢
 split at h
 ·rename_i w l;obtain ⟨q0,k0,k1,k2⟩:=h
  refine ⟨by first|trivial|(repeat' split) <;> simp [AV.plain,AV.plainL,aI,aB,qi,aBunks,aTks,aBunk,aTk,cTk,aS,qa],fun _=>(by simp [AV.flat,aS]), ?_⟩
  have:=Qin w (l.map qL) k0 k1 k2;simp only [qi,aS,<- q0] at this
  first|exact this|(simp only [qi,aS,<- q0];exact this)
 ·exact h.elim
def Qhr {l:Led} (h:TxOk l) (k:Nat):∀ y ∈ Zu l k,y.length<=100:=fun y hy=>by
 unfold Zu at hy;obtain ⟨p,hp,rfl⟩:=aj.1 hy
 obtain ⟨g1,g2⟩:=h.cs p (aQ hp);have:=vC [99,111,105,110] p g2
 simp at this ⊢;omega
def QgL {l:Led} (h:TxOk l) (k:Nat):∀ y ∈ Qp l k,y.length<=100:=fun y hy=>by
 unfold Qp at hy
 rcases aA.1 hy with hy|hy
 ·exact Qhr h _ y hy
 ·obtain ⟨r,hr,rfl⟩:=aj.1 hy
  obtain ⟨g1,g2⟩:=h.rs r (aQ hr);have:=JM (r.drop 1) fun s hs=>g2 s (aO hs)
  simp at this ⊢;omega
def Qk0 {l:Led} (h:TxOk l) (k:Nat):∀ y ∈ xK l k,y.length<=100:=fun y hy=>by
 unfold xK at hy
 rcases aA.1 hy with hy|hy
 ·rcases aA.1 hy with hy|hy
  ·exact QgL h _ y hy
  ·obtain rfl:y=jnd [115,116,97,114,116] l.start:=by simpa using hy
   have:=vC [115,116,97,114,116] l.start h.s.2;have:=h.s.1
   simp at *;omega
 ·obtain ⟨x,hx,rfl⟩:=aj.1 hy
  exact XP (h.es x (aQ hx))
def QeG (x:Ent):List Int:=if x.kind=3 then [x.coin,x.amount,x.to,x.got] else [x.coin,x.amount]
def QiU (w:List UInt8) (a b:List Int):jnd (jnd w a) b=jnd w (a++b):=by simp [jnd]
def Qg6 (x:Ent):Xi x=dg x.day++[32]++jnd (ZP x.kind) (QeG x):=by
 unfold Xi QeG;split
 ·rw [QiU];simp [jnd]
 ·simp [jnd]
def rwA (l:Led) (s:List UInt8) (k:Nat):St:={ t:=asg [(1,.ptr 0 0),(5,aS s),(6,aI k)],h:=qg [(0,.cells (qU l))],n:=1 }
def rwB (l:Led) (s:List UInt8) (k:Nat):St:={ t:=asg [(1,.ptr 0 0),(5,aS s),(7,aI k)],h:=qg [(0,.cells (qU l))],n:=1 }
def rwBi (l:Led) (s:List UInt8) (k q:Nat):St:={ t:=asg [(1,.ptr 0 0),(5,aS s),(7,aI k),(8,aI ((q+1:Nat):Int))],h:=qg [(0,.cells (qU l))],n:=1 }
def rwC (l:Led) (s:List UInt8) (k:Nat):St:={ t:=asg [(1,.ptr 0 0),(5,aS s),(9,aI k)],h:=qg [(0,.cells (qU l))],n:=1 }
def wM:=vj @ty3 (vj @ty9 (vj @jh (vj @WP (vj @QD (vj @WK (vj @Yt (vj @vU (vj @vQ (vj @Qg (vj @vR (vj @ti3.eq_1 (vj @ti9.eq_1 (vj @jc.eq_1 (vj @Zn.eq_1 (vj @kI.eq_1 (vj @Zp.eq_1 (vj @WO.eq_1 (vj @vD.eq_1 (vj @yP.eq_1 (vj @xD.eq_1 @yS.eq_1))))))))))))))))))))
def wU:=vj @aI.eq_1 (vj @aB.eq_1 (vj @qi.eq_1 (vj @qj.eq_1 (vj @qC.eq_1 (vj @eSh.eq_1 (vj @zM.eq_1 (vj @zC.eq_1 (vj @ZJ (vj @q9.eq_1 (vj @qU.eq_1 (vj @Qo (vj @kg (vj @XI (vj @mSh (vj @Jj (vj @xf (vj @jT (@rSh))))))))))))))))))
def QeO (l:Led) (hf:FitW l):Fn (jS JX) prog 21 [q9 l] noH (.tup [aS (ym l).1,aI (ym l).2]) noH 0:=by
 have env:=qx (A:=zZ JX) (kC e51w (kC Qdn (kC errow (kC Qgm kN))));refine kT (Fn0 func21 rfl (fun vs w=>by kernel_rfl) (by kernel_rfl)) (by simp) (by simp [AV.ids,AV.idsL,q9,qU]) ?_
 have ec:(⟨l.coins,l.rates,l.start,l.entries⟩:Led)=l:=rfl;have hmx:(100000:Nat)<=maxLen:=by decide
 obtain ⟨e,he⟩:∃ e,zf l=e:=⟨_,rfl⟩
 by_cases h0:e=0
 ·rw [h0] at he
  have hv:=QgC (We he);have hc4:=hv.c
  have hr4:=hv.r;have he6:=hv.e
  have hs4:=hv.s.1;have hE:ym l=(flatL (xK l l.entries.length)++[98,97,108,97,110,99,101,10],0):=by
   unfold ym;rw [if_pos he,Qfc (by simp),QZ];simp
  rw [hE]
  repeat' first|(apply nx;with_reducible constructor)|apply uq (by decide)|((first|apply uz env|apply uk);intro Q hQ;simp only [vkt,seval,wM,wU,QeA,he,hf,ite_and];(repeat' first|with_reducible assumption|apply vj|intro hp);all_goals first|(apply hQ;clear hQ Q)|(apply ux;kernel_rfl)|omega|assumption|with_reducible rfl|skip)
  refine qh (fun s:{ s:Nat // s<=l.coins.length }=>rwA l (flatL (Zu l s.1)) s.1) (fun s=>l.coins.length - s.1) ⟨0,af _⟩ ?_ fun ⟨k,hk⟩=>?_
  ·simp only [rwA,show flatL (Zu l 0)=[] from rfl]
   (refine Le.ok some [] ?_;constructor;all_goals (try simp only [vle,vkt,seval,wU,aS]))
   all_goals first|rfl|simp
  simp only at hk ⊢;have hlen:=JN 100 (Qhr hv k)
  rw [Qax l hk] at hlen
  by_cases hlt:k < l.coins.length
  ·have d1:decide ((k:Int) < (l.coins.length:Int))=true:=decide_eq_true (by omega)
   have e9:=k9 k (by omega)
   have hS:=RZ l hlt;have hx:=J7 l.coins k
   obtain ⟨hb1,hb2⟩:=hv.cs _ (jr (d:=[]) hlt);obtain ⟨K,hK⟩:∃ K,flatL (Zu l k)=K:=⟨_,rfl⟩
   have hS2:flatL (Zu l (k+1))=K++(jnd [99,111,105,110] (l.coins.getD k [])++[10]):=by rw [hS,QZ,hK,bW]
   rw [hK] at hlen;simp only [rwA,hK]
   generalize l.coins.getD k []=p at hx hb1 hb2 hS2;have q1:[(99:UInt8),111,105,110].length<=10000:=by decide
   have q2:p.length<=100:=by omega
   have q3:=vC [99,111,105,110] p hb2;obtain ⟨J,hJ⟩:∃ J,jnd [99,111,105,110] p=J:=⟨_,rfl⟩
   rw [hJ] at hS2 q3;have q4:[(99:UInt8),111,105,110].length=4:=rfl
   repeat' first|(apply nx;with_reducible constructor)|apply uq (by decide)|((first|apply uz env|apply uk);intro Q hQ;simp only [vkt,seval,wM,wU,aS,Rq,au,d1,e9,hx,hlt,q2,hJ,ite_and];(repeat' first|with_reducible assumption|apply vj|intro hp);all_goals first|(apply hQ;clear hQ Q)|(apply ux;kernel_rfl)|omega|assumption|with_reducible rfl|skip)
   refine ⟨⟨k+1,hlt⟩,by show l.coins.length - (k+1) < l.coins.length - k;omega, ?_⟩
   simp only [hS2]
   (refine Le.ok some [] ?_;constructor;all_goals (try simp only [vle,vkt,seval,wU,aS]))
   all_goals first|rfl|simp
  have d1:decide ((k:Int) < (l.coins.length:Int))=false:=decide_eq_false (by omega)
  obtain rfl:k=l.coins.length:=by omega
  have hB0:Zu l l.coins.length=Qp l 0:=by simp [Qp]
  rw [hB0];simp only [rwA]
  repeat' first|(apply nx;with_reducible constructor)|apply uq (by decide)|((first|apply uz env|apply uk);intro Q hQ;simp only [vkt,seval,wM,wU,aS,d1,ite_and];(repeat' first|with_reducible assumption|apply vj|intro hp);all_goals first|(apply hQ;clear hQ Q)|(apply ux;kernel_rfl)|omega|assumption|with_reducible rfl|skip)
  refine qh (fun s:{ s:Nat // s<=l.rates.length }=>rwB l (flatL (Qp l s.1)) s.1) (fun s=>l.rates.length - s.1) ⟨0,af _⟩ ?_ fun ⟨k,hk⟩=>?_
  ·simp only [rwB]
   (refine Le.ok some [] ?_;constructor;all_goals (try simp only [vle,vkt,seval,wU,aS]))
   all_goals first|rfl|simp
  simp only at hk ⊢;have hlen:=JN 100 (QgL hv k)
  rw [V9 l hk] at hlen
  by_cases hlt:k < l.rates.length
  ·have d1:decide ((k:Int) < (l.rates.length:Int))=true:=decide_eq_true (by omega)
   have e9:=k9 k (by omega)
   have hS:=KX l hlt;have hx:=QcA l.rates k
   obtain ⟨⟨hb0,hb1⟩,hb2⟩:=hv.rs _ (jr (d:=[]) hlt);obtain ⟨K,hK⟩:∃ K,flatL (Qp l k)=K:=⟨_,rfl⟩
   have hS2:flatL (Qp l (k+1))=K++ky ((l.rates.getD k []).drop 1)++[10]:=by rw [hS,QZ,hK]
   rw [hK] at hlen;simp only [rwB,hK]
   generalize l.rates.getD k []=r at hx hb0 hb1 hb2 hS2;obtain ⟨D,hD⟩:∃ D,r.drop 1=D:=⟨_,rfl⟩
   have hDl:D.length+1=r.length:=by rw [<- hD,aM];omega
   have hDm:∀ s ∈ D,(0<=s.num/\s.num < 1000)/\0<=s.den/\s.den < 1000:=fun s hs=>hb2 s (aO (hD ▸ hs))
   have hDg:∀ q,r.getD (q+1) default=D.getD q default:=fun q=>by rw [<- hD];simp [ah]
   rw [hD] at hS2
   repeat' first|(apply nx;with_reducible constructor)|apply uq (by decide)|((first|apply uz env|apply uk);intro Q hQ;simp only [vkt,seval,wM,wU,aS,d1,ite_and];(repeat' first|with_reducible assumption|apply vj|intro hp);all_goals first|(apply hQ;clear hQ Q)|(apply ux;kernel_rfl)|omega|assumption|with_reducible rfl|skip)
   refine qh (fun s:{ q:Nat // q<=D.length }=>rwBi l (K++ky (D.take s.1)) k s.1) (fun s=>D.length - s.1) ⟨0,af _⟩ ?_ fun ⟨q,hq⟩=>?_
   ·simp only [rwBi,show ky (D.take 0)=[114,97,116,101,115] by simp [ky]]
    (refine Le.ok some [] ?_;constructor;all_goals (try simp only [vle,vkt,seval,wU,aS]))
    all_goals first|rfl|simp
   simp only at hq ⊢;have hRl:=JM (D.take q) fun s hs=>hDm s (aQ hs)
   have hRt:(D.take q).length<=4:=by rw [aR];omega
   obtain ⟨Z,hZ⟩:∃ Z,ky (D.take q)=Z:=⟨_,rfl⟩;rw [hZ] at hRl
   by_cases hlq:q < D.length
   ·have d2:decide (((q+1:Nat):Int) < (r.length:Int))=true:=decide_eq_true (by omega)
    have e8:IntKind.wrap .i64 (((q+1:Nat):Int)+1)=((q+1+1:Nat):Int):=by rw [wrap64 (by omega) (by omega)];rfl
    have hT:=XK D hlq;have hy:=gSh r (q+1)
    have hb:=hDm _ (jr (d:=default) hlq);rw [hDg] at hy
    have hqr:q+1 < r.length:=by omega
    generalize D.getD q default=x at hy hb hT;obtain ⟨n,d⟩:=x
    dsimp only at hb hT;have hd1:=Qq hb.1.1 hb.1.2
    have hd2:=Qq hb.2.1 hb.2.2;have b0:-9223372036854775808<=n:=by omega
    have b1:n<=9223372036854775807:=by omega
    have b2:-9223372036854775808<=d:=by omega
    have b3:d<=9223372036854775807:=by omega
    obtain ⟨G,hG⟩:∃ G,dg n=G:=⟨_,rfl⟩;obtain ⟨H,hH⟩:∃ H,dg d=H:=⟨_,rfl⟩
    rw [hG,hH] at hT;rw [hG] at hd1
    rw [hH] at hd2;have hT2:K++ky (D.take (q+1))=K++Z++[32]++G++[47]++H:=by rw [hT,hZ];simp
    simp only [rwBi,hZ];obtain ⟨Y,hY⟩:∃ Y,K++Z=Y:=⟨_,rfl⟩
    have hYl:Y.length=K.length+Z.length:=by rw [<- hY,au]
    rw [hY] at hT2;rw [hY]
    repeat' first|(apply nx;with_reducible constructor)|apply uq (by decide)|((first|apply uz env|apply uk);intro Q hQ;simp only [vkt,seval,wM,wU,aS,WC,au,d2,e8,hx,hy,hlt,hqr,b0,b1,b2,b3,hG,hH,ite_and];(repeat' first|with_reducible assumption|apply vj|intro hp);all_goals first|(apply hQ;clear hQ Q)|(apply ux;kernel_rfl)|omega|assumption|with_reducible rfl|skip)
    refine ⟨⟨q+1,hlq⟩,by show D.length - (q+1) < D.length - q;omega, ?_⟩
    simp only [hT2]
    (refine Le.ok some [] ?_;constructor;all_goals (try simp only [vle,vkt,seval,wU,aS]))
    all_goals first|rfl|simp
   ·have d2:decide (((q+1:Nat):Int) < (r.length:Int))=false:=decide_eq_false (by omega)
    obtain rfl:q=D.length:=by omega
    rw [bt] at hZ;rw [hZ] at hS2
    rw [bt,hZ];simp only [rwBi]
    obtain ⟨Y,hY⟩:∃ Y,K++Z=Y:=⟨_,rfl⟩;have hYl:Y.length=K.length+Z.length:=by rw [<- hY,au]
    rw [hY] at hS2;rw [hY]
    repeat' first|(apply nx;with_reducible constructor)|apply uq (by decide)|((first|apply uz env|apply uk);intro Q hQ;simp only [vkt,seval,wM,wU,aS,d2,e9,hx,hlt,ite_and];(repeat' first|with_reducible assumption|apply vj|intro hp);all_goals first|(apply hQ;clear hQ Q)|(apply ux;kernel_rfl)|omega|assumption|with_reducible rfl|skip)
    refine ⟨⟨k+1,hlt⟩,by show l.rates.length - (k+1) < l.rates.length - k;omega, ?_⟩
    simp only [hS2]
    (refine Le.ok some [] ?_;constructor;all_goals (try simp only [vle,vkt,seval,wU,aS]))
    all_goals first|rfl|simp
  have d1:decide ((k:Int) < (l.rates.length:Int))=false:=decide_eq_false (by omega)
  obtain rfl:k=l.rates.length:=by omega
  have hq3:=vC [115,116,97,114,116] l.start hv.s.2;have hC0:flatL (xK l 0)=flatL (Qp l l.rates.length)++(jnd [115,116,97,114,116] l.start++[10]):=by
   have:xK l 0=Qp l l.rates.length++[jnd [115,116,97,114,116] l.start]:=by simp [xK]
   rw [this,QZ,bW]
  obtain ⟨K,hK⟩:∃ K,flatL (Qp l l.rates.length)=K:=⟨_,rfl⟩;obtain ⟨J,hJ⟩:∃ J,jnd [115,116,97,114,116] l.start=J:=⟨_,rfl⟩
  rw [hK,hJ] at hC0;rw [hK] at hlen
  rw [hJ] at hq3;have q1:[(115:UInt8),116,97,114,116].length<=10000:=by decide
  have q4:[(115:UInt8),116,97,114,116].length=5:=rfl;have q2:l.start.length<=100:=by omega
  have hb2:=hv.s.2;simp only [rwB,hK]
  repeat' first|(apply nx;with_reducible constructor)|apply uq (by decide)|((first|apply uz env|apply uk);intro Q hQ;simp only [vkt,seval,wM,wU,aS,Rq,au,d1,q2,hJ,ite_and];(repeat' first|with_reducible assumption|apply vj|intro hp);all_goals first|(apply hQ;clear hQ Q)|(apply ux;kernel_rfl)|omega|assumption|with_reducible rfl|skip)
  refine qh (fun s:{ s:Nat // s<=l.entries.length }=>rwC l (flatL (xK l s.1)) s.1) (fun s=>l.entries.length - s.1) ⟨0,af _⟩ ?_ fun ⟨k,hk⟩=>?_
  ·simp only [rwC,hC0]
   (refine Le.ok some [] ?_;constructor;all_goals (try simp only [vle,vkt,seval,wU,aS]))
   all_goals first|rfl|simp
  simp only at hk ⊢;clear hlen hK hJ
  have hlen:=JN 100 (Qk0 hv k);rw [YJ l hk] at hlen
  by_cases hlt:k < l.entries.length
  ·have d1:decide ((k:Int) < (l.entries.length:Int))=true:=decide_eq_true (by omega)
   have e9:=k9 k (by omega)
   have hS:=RU l hlt;have hx:=R8 l.entries k
   have hb:=hv.es _ (jr (d:=default) hlt);obtain ⟨K,hK⟩:∃ K,flatL (xK l k)=K:=⟨_,rfl⟩
   have hS2:flatL (xK l (k+1))=K++Xi (l.entries.getD k default)++[10]:=by rw [hS,QZ,hK]
   rw [hK] at hlen;simp only [rwC,hK]
   rw [Qg6] at hS2;generalize l.entries.getD k default=x at hx hb hS2
   obtain ⟨dy,kd,cn,to,am,go⟩:=x;dsimp only at hb hS2
   obtain ⟨hk1,h1,h2,h3,h4⟩:=hb;have hd1:=Qq h1.1 h1.2
   have b0:-9223372036854775808<=dy:=by omega
   have b1:dy<=9223372036854775807:=by omega
   have k0:0<=kd:=by omega
   have k4:kd<=4:=hk1.2;obtain ⟨G,hG⟩:∃ G,dg dy=G:=⟨_,rfl⟩
   rw [hG] at hS2 hd1;have hvl:=RQ kd
   obtain ⟨V,hV⟩:∃ V,ZP kd=V:=⟨_,rfl⟩;rw [hV] at hS2 hvl
   have hV1:V.length<=10000:=by omega
   by_cases c3:kd=3
   ·have c3':decide (kd=3)=true:=decide_eq_true c3
    obtain ⟨h5,h6⟩:=h4 c3;have ho:QeG ⟨dy,kd,cn,to,am,go⟩=[cn,am,to,go]:=by unfold QeG;rw [if_pos c3]
    rw [ho] at hS2;obtain ⟨M,hM⟩:∃ M,([cn,am,to,go]:List Int)=M:=⟨_,rfl⟩
    have hMm:∀ n ∈ M,0<=n/\n < 1000:=by rw [<- hM];intro n hn;simp at hn;rcases hn with rfl|rfl|rfl|rfl <;> assumption
    have hMl:M.length<=100:=by rw [<- hM];simp
    have e4:([[.v (.int .i64 cn)],[.v (.int .i64 am)],[.v (.int .i64 to)],[.v (.int .i64 go)]]:List (List DV))=M.map qj:=by rw [<- hM];rfl
    have hjl:=vC V M hMm;have hM4:M.length=4:=by rw [<- hM];rfl
    obtain ⟨J,hJ⟩:∃ J,jnd V M=J:=⟨_,rfl⟩;rw [hM,hJ] at hS2
    rw [hJ] at hjl;have hS3:K++(G++[32]++J)++[10]=K++G++[32]++(J++[10]):=by simp
    rw [hS3] at hS2
    repeat' first|(apply nx;with_reducible constructor)|apply uq (by decide)|((first|apply uz env|apply uk);intro Q hQ;simp only [vkt,seval,wM,wU,aS,WC,Rq,Zj,au,d1,e9,hx,hlt,c3',b0,b1,k0,k4,hG,hV,hV1,e4,hMl,hJ,ite_and];(repeat' first|with_reducible assumption|apply vj|intro hp);all_goals first|(apply hQ;clear hQ Q)|(apply ux;kernel_rfl)|omega|assumption|with_reducible rfl|skip)
    refine ⟨⟨k+1,hlt⟩,by show l.entries.length - (k+1) < l.entries.length - k;omega, ?_⟩
    simp only [hS2]
    (refine Le.ok some [] ?_;constructor;all_goals (try simp only [vle,vkt,seval,wU,aS]))
    all_goals first|rfl|simp
   ·have c3':decide (kd=3)=false:=decide_eq_false c3
    have ho:QeG ⟨dy,kd,cn,to,am,go⟩=[cn,am]:=by unfold QeG;rw [if_neg c3]
    rw [ho] at hS2;obtain ⟨M,hM⟩:∃ M,([cn,am]:List Int)=M:=⟨_,rfl⟩
    have hMm:∀ n ∈ M,0<=n/\n < 1000:=by rw [<- hM];intro n hn;simp at hn;rcases hn with rfl|rfl <;> assumption
    have hMl:M.length<=100:=by rw [<- hM];simp
    have e4:([[.v (.int .i64 cn)],[.v (.int .i64 am)]]:List (List DV))=M.map qj:=by rw [<- hM];rfl
    have hjl:=vC V M hMm;have hM4:M.length=2:=by rw [<- hM];rfl
    obtain ⟨J,hJ⟩:∃ J,jnd V M=J:=⟨_,rfl⟩;rw [hM,hJ] at hS2
    rw [hJ] at hjl;have hS3:K++(G++[32]++J)++[10]=K++G++[32]++(J++[10]):=by simp
    rw [hS3] at hS2
    repeat' first|(apply nx;with_reducible constructor)|apply uq (by decide)|((first|apply uz env|apply uk);intro Q hQ;simp only [vkt,seval,wM,wU,aS,WC,Rq,Zj,au,d1,e9,hx,hlt,c3',b0,b1,k0,k4,hG,hV,hV1,e4,hMl,hJ,ite_and];(repeat' first|with_reducible assumption|apply vj|intro hp);all_goals first|(apply hQ;clear hQ Q)|(apply ux;kernel_rfl)|omega|assumption|with_reducible rfl|skip)
    refine ⟨⟨k+1,hlt⟩,by show l.entries.length - (k+1) < l.entries.length - k;omega, ?_⟩
    simp only [hS2]
    (refine Le.ok some [] ?_;constructor;all_goals (try simp only [vle,vkt,seval,wU,aS]))
    all_goals first|rfl|simp
  have d1:decide ((k:Int) < (l.entries.length:Int))=false:=decide_eq_false (by omega)
  obtain rfl:k=l.entries.length:=by omega
  obtain ⟨K,hK⟩:∃ K,flatL (xK l l.entries.length)=K:=⟨_,rfl⟩;rw [hK] at hlen
  simp only [rwC,hK]
  repeat' first|(apply nx;with_reducible constructor)|apply uq (by decide)|((first|apply uz env|apply uk);intro Q hQ;simp only [vkt,seval,wM,wU,aS,d1,ite_and];(repeat' first|with_reducible assumption|apply vj|intro hp);all_goals first|(apply hQ;clear hQ Q)|(apply ux;kernel_rfl)|omega|assumption|with_reducible rfl|skip)
  (simp only [vrt,results21,vkt,seval,wU,aS];refine Fin.val rfl ?_;(try simp only [AV.le,AV.leL]))
  all_goals first|rfl|simp
 ·have hE:ym l=([],e):=by unfold ym;rw [if_neg (by rw [he];exact h0),he]
  rw [hE];have d0:decide (e=0)=false:=decide_eq_false h0
  repeat' first|(apply nx;with_reducible constructor)|apply uq (by decide)|((first|apply uz env|apply uk);intro Q hQ;simp only [vkt,seval,wM,wU,QeA,he,hf,d0,ite_and];(repeat' first|with_reducible assumption|apply vj|intro hp);all_goals first|(apply hQ;clear hQ Q)|(apply ux;kernel_rfl)|omega|assumption|with_reducible rfl|skip)
  (simp only [vrt,results21,vkt,seval,wU,aS];refine Fin.val rfl ?_;(try simp only [AV.le,AV.leL]))
  all_goals first|rfl|simp
def fdT (x n:Int):Int:=if n < 2 then 0 else Int.tmod (Int.tmod x n+n) n
def Qgp {x n:Int} (h:0 < n):-n < Int.tmod x n:=by
 by_cases hx:0<=x
 ·have:=Int.tmod_nonneg n hx
  omega
 ·have h1:=dn (-x) h
  rw [Int.neg_tmod] at h1;omega
def QlZ {x n:Int} (h:1<=n):0<=fdT x n/\fdT x n < n:=by
 unfold fdT;split
 ·omega
 ·have h1:=dn x (show 0 < n by omega)
  have h2:-n < Int.tmod x n:=Qgp (x:=x) (by omega)
  rw [bR (show 0<=Int.tmod x n+n by omega)]
  exact ⟨bZ _ (by omega),ca _ (by omega)⟩
def V5:=vj @ty3 @ti3.eq_1
def VN:=vj @aI.eq_1 (@aB.eq_1)
def QgB (x n:Int) (h:0<=n/\n<=1000000):FnV prog 47 [aI x,aI n] (aI (fdT x n)):=by
 have env:=qx (A:=fun _=>True) kN
 refine kV (Fn0 func47 rfl (fun vs w=>by kernel_rfl) (by kernel_rfl)) (by simp) (by simp [AV.ids,aI]) ?_
 by_cases h2:n < 2
 ·have d1:decide (n < 2)=true:=decide_eq_true h2
  rw [show fdT x n=0 by unfold fdT;rw [if_pos h2]]
  repeat' first|(apply nx;with_reducible constructor)|apply uq (by decide)|((first|apply uz env|apply uk);intro Q hQ;simp only [vkt,seval,V5,VN,d1,ite_and];(repeat' first|with_reducible assumption|apply vj|intro hp);all_goals first|(apply hQ;clear hQ Q)|(apply ux;kernel_rfl)|omega|assumption|with_reducible rfl|skip)
  (simp only [vrt,results47,vkt,seval,VN];refine Fin.val rfl ?_;(try simp only [AV.le]))
  all_goals first|rfl|simp
 ·have d1:decide (n < 2)=false:=decide_eq_false h2
  have hr1:=dn x (show 0 < n by omega)
  have hr2:-n < Int.tmod x n:=Qgp (x:=x) (by omega)
  have hn0:n ≠ 0:=by omega
  rw [show fdT x n=Int.tmod (Int.tmod x n+n) n by unfold fdT;rw [if_neg h2]]
  have w1:IntKind.wrap .i64 (Int.tmod x n+n)=Int.tmod x n+n:=wrap64 (by omega) (by omega)
  repeat' first|(apply nx;with_reducible constructor)|apply uq (by decide)|((first|apply uz env|apply uk);intro Q hQ;simp only [vkt,seval,V5,VN,d1,hn0,w1,ite_and];(repeat' first|with_reducible assumption|apply vj|intro hp);all_goals first|(apply hQ;clear hQ Q)|(apply ux;kernel_rfl)|omega|assumption|with_reducible rfl|skip)
  (simp only [vrt,results47,vkt,seval,VN];refine Fin.val rfl ?_;(try simp only [AV.le]))
  all_goals first|rfl|simp
def LX:List AV->Prop × AV
 |[.v (.int .i64 x),.v (.int .i64 n)]=>(0<=n/\n<=1000000,aI (fdT x n))
 |_=>(False,.junk)
def efold {A:Frm->Prop}:qf A prog 47 (zq true LX):=qD fun vs hv h=>by
 clear hv;unfold LX at h ⊢
 split at h
 ·rename_i x n;obtain ⟨k0,k1⟩:=h
  refine ⟨by first|trivial|(repeat' split) <;> simp [AV.plain,AV.plainL,aI,aB,qi,aBunks,aTks,aBunk,aTk,cTk],fun _=>(by simp [AV.flat,aI]), ?_⟩
  have:=QgB x n ⟨k0,k1⟩;simp only [aI] at this
  first|exact this|(simp only [aI];exact this)
 ·exact h.elim
def Lh (s:List UInt8) (a h:Int) (b:UInt8):List UInt8:=if s=[] then s else if h=0 then s.take (fdT a s.length).toNat++[b]++s.drop ((fdT a s.length).toNat+1) else if h=1 then s.take (fdT a s.length).toNat++s.drop ((fdT a s.length).toNat+1) else s.take (fdT a s.length).toNat++[b]++s.drop (fdT a s.length).toNat
def Wh:=vj @ty3 (vj @ty5 (vj @ty9 (vj @ty99 (vj @ti3.eq_1 (vj @ti5.eq_1 (vj @ti9.eq_1 @ti99.eq_1))))))
def VV:=vj @aI.eq_1 (@aB.eq_1)
def QiE (s:List UInt8) (a h:Int) (b:UInt8) (hl:s.length<=1000000):FnV prog 13 [aS s,aI a,aI h,.v (.int .u8 (b.toNat:Int))] (aS (Lh s a h b)):=by
 have env:=qx (A:=fun _=>True) (kC efold kN)
 refine kV (Fn0 func13 rfl (fun vs w=>by kernel_rfl) (by kernel_rfl)) (by simp) (by simp [AV.ids,aI,aS]) ?_
 have hsz:(ByteArray.mk ⟨s⟩).size=s.length:=rfl;unfold Lh
 by_cases h0:s=[]
 ·have b0:(s == [])=true:=beq_iff_eq.2 h0
  rw [if_pos h0]
  repeat' first|(apply nx;with_reducible constructor)|apply uq (by decide)|((first|apply uz env|apply uk);intro Q hQ;simp only [vkt,seval,Wh,VV,aS,b0,ite_and];(repeat' first|with_reducible assumption|apply vj|intro hp);all_goals first|(apply hQ;clear hQ Q)|(apply ux;kernel_rfl)|omega|assumption|with_reducible rfl|skip)
  (simp only [vrt,results13,vkt,seval,aS];refine Fin.val rfl ?_;(try simp only [AV.le]))
  all_goals first|rfl|simp
 have b0:(s == [])=false:=beq_eq_false_iff_ne.2 h0;have hpos:0 < s.length:=List.length_pos_iff.2 h0
 rw [if_neg h0];have hf:=QlZ (x:=a) (n:=(s.length:Int)) (by omega)
 obtain ⟨j,hj⟩:∃ j:Nat,fdT a s.length=(j:Int):=⟨(fdT a s.length).toNat,by omega⟩
 rw [hj] at hf ⊢;have hjs:j < s.length:=by omega
 have g0:(0:Int)<=(s.length:Int):=by omega
 have g1:(s.length:Int)<=1000000:=by omega
 have e1:=k9 j (by omega)
 have p0:(0:Int)<=(j:Int):=by omega
 have p1:(j:Int)<=(s.length:Int):=by omega
 have p2:((j+1:Nat):Int)<=(s.length:Int):=by omega
 have p3:(0:Int)<=((j+1:Nat):Int):=by omega
 have q0:0<=((b.toNat:Nat):Int):=by omega
 have q1:((b.toNat:Nat):Int) < 256:=by have:=UInt8.toNat_lt b;omega
 have q2:UInt8.ofNat b.toNat=b:=UInt8.ofNat_toNat;have ml:(s.take j).length=j:=by rw [aR];omega
 have ml2:(s.drop (j+1)).length=s.length - (j+1):=aM ..;have ml3:(s.drop j).length=s.length - j:=aM ..
 rw [aW]
 by_cases h1:h=0
 ·have d1:decide (h=0)=true:=decide_eq_true h1
  rw [if_pos h1]
  repeat' first|(apply nx;with_reducible constructor)|apply uq (by decide)|((first|apply uz env|apply uk);intro Q hQ;simp only [vkt,seval,Wh,VV,aS,LX,au,bt,b0,hsz,hj,g0,g1,e1,p0,p1,p2,p3,q2,d1,ite_and];(repeat' first|with_reducible assumption|apply vj|intro hp);all_goals first|(apply hQ;clear hQ Q)|(apply ux;kernel_rfl)|omega|assumption|with_reducible rfl|skip)
  (simp only [vrt,results13,vkt,seval,aS];refine Fin.val rfl ?_;(try simp only [AV.le]))
  all_goals first|rfl|simp
 have d1:decide (h=0)=false:=decide_eq_false h1;rw [if_neg h1]
 by_cases h2:h=1
 ·have d2:decide (h=1)=true:=decide_eq_true h2
  rw [if_pos h2]
  repeat' first|(apply nx;with_reducible constructor)|apply uq (by decide)|((first|apply uz env|apply uk);intro Q hQ;simp only [vkt,seval,Wh,VV,aS,LX,bt,b0,hsz,hj,g0,g1,e1,p0,p1,p2,p3,d1,d2,ite_and];(repeat' first|with_reducible assumption|apply vj|intro hp);all_goals first|(apply hQ;clear hQ Q)|(apply ux;kernel_rfl)|omega|assumption|with_reducible rfl|skip)
  (simp only [vrt,results13,vkt,seval,aS];refine Fin.val rfl ?_;(try simp only [AV.le]))
  all_goals first|rfl|simp
 have d2:decide (h=1)=false:=decide_eq_false h2;rw [if_neg h2]
 repeat' first|(apply nx;with_reducible constructor)|apply uq (by decide)|((first|apply uz env|apply uk);intro Q hQ;simp only [vkt,seval,Wh,VV,aS,LX,au,bt,b0,hsz,hj,g0,g1,p0,p1,q2,d1,d2,ite_and];(repeat' first|with_reducible assumption|apply vj|intro hp);all_goals first|(apply hQ;clear hQ Q)|(apply ux;kernel_rfl)|omega|assumption|with_reducible rfl|skip)
 (simp only [vrt,results13,vkt,seval,aS];refine Fin.val rfl ?_;(try simp only [AV.le]))
 all_goals first|rfl|simp
def ltR (r:Int->Int) (x y:Int):Prop:=r y < r x\/(r y=r x/\x < y)
def Has (l:List Int) (x:Int):Prop:=∃ i,i < l.length/\l.getD i 0=x
structure SoK (r:Int->Int) (n k:Nat) (l:List Int):Prop where
 len:l.length=n
 so:∀ a b,a < b->b<=k->ltR r (l.getD a 0) (l.getD b 0)
 keep:∀ i,k < i->i < n->l.getD i 0=i
 lo:∀ a,a<=k->0<=l.getD a 0/\l.getD a 0<=k
 has:∀ i:Nat,i < n->Has l i
def bgH (x:Int):List (Nat × AObj):=[(0,.cells [.v (.int .u64 x)])]
def xsh (s:Int) (k:Nat):Int:=IntKind.u64.wrap (BitVec.ofInt IntKind.u64.bits s ^^^ BitVec.ofInt IntKind.u64.bits (s.fdiv (2 ^ min k IntKind.u64.bits))).toNat
def nxS (x:Int):Int:=IntKind.u64.wrap (IntKind.u64.wrap (x * 2862933555777941757)+3037000493)
def nxV (x:Int):Int:=xsh (IntKind.u64.wrap (xsh (nxS x) 31 * 10723151780598845931)) 30
def Yo:=vj @ty90 (vj @ty92 (vj @QbJ.eq_1 @QgR.eq_1))
def Qdf:=vj @aI.eq_1 (vj @aB.eq_1 (@bgH.eq_1))
def QjD (x:Int):Fn noB prog 87 [.ptr 0 0] (qg (bgH x)) (.v (.int .u64 (nxV x))) (qg (bgH (nxS x))) 0:=by
 have env:=qx (A:=fun _=>True) kN
 refine Fn.of (A:=fun _=>True) (n0:=1) (D:=noD) (Fn0 func87 rfl (fun vs w=>by kernel_rfl) (by kernel_rfl)) (by simp) (by simp [AV.ids]) ?_ (fun _ _ _ _=>trivial) zb ?_
 ·intro i o hi
  have h:=qN hi
  simp [bgH] at h
  rcases h with ⟨rfl,rfl⟩;simp [AObj.ids,AV.ids,AV.idsL]
 repeat' first|(apply nx;with_reducible constructor)|apply uq (by decide)|((first|apply uz env|apply uk);intro Q hQ;simp only [vkt,seval,Yo,Qdf,ite_and];(repeat' first|with_reducible assumption|apply vj|intro hp);all_goals first|(apply hQ;clear hQ Q)|omega|assumption|with_reducible rfl|(apply ux;kernel_rfl)|skip)
 (simp only [vrt,results87,vkt,seval,Qdf];refine Fin.ok some [] ?_ ?_ ?_ ?_ ?_ rfl;all_goals (try simp only [vle,vkt,seval]))
 all_goals rfl
def p77 (S:St):List AV->Option Pk
 |[.ptr i 0]=>match S.h i with
  |some (.cells [.v (.int .u64 x)])=>some { hs:=[i],ar:=[.ptr 0 0],L0:=[.cells [.v (.int .u64 x)]],v:=.v (.int .u64 (nxV x)),L1:=[some (.cells [.v (.int .u64 (nxS x))])] }
  |_=>none
 |_=>none
def e77 {A:Frm->Prop}:qf A prog 87 (fnE p77):=jb fun S bs q h hp=>by
 unfold p77 at h;split at h
 ·split at h
  ·cases h;exact QjD _
  ·cases h
 ·cases h
def QeI (x m:Int):Int:=if m < 1 then 0 else IntKind.i64.wrap (((nxV x).fdiv (2 ^ min 13 IntKind.u64.bits)).tmod (IntKind.u64.wrap (IntKind.i64.wrap (m+1))))
def Qhe (x m:Int):Int:=if m < 1 then x else nxS x
def QdN:∃ f:Int->Int->Int × Int,∀ x m,f x m=(QeI x m,Qhe x m):=⟨fun x m=>(QeI x m,Qhe x m),fun _ _=>rfl⟩
noncomputable def upV (x m:Int):Int:=(Classical.choose QdN x m).1
noncomputable def upS (x m:Int):Int:=(Classical.choose QdN x m).2
def Qh6 (x m:Int):upV x m=QeI x m:=by unfold upV;rw [Classical.choose_spec QdN]
def Qll (x m:Int):upS x m=Qhe x m:=by unfold upS;rw [Classical.choose_spec QdN]
def QfK {n:Int} (h0:0<=n) (h1:n < 18446744073709551616):IntKind.u64.wrap n=n:=by
 unfold IntKind.wrap;simp only [IntKind.bits,IntKind.signed]
 simp
 omega
def Qf6 (n:Int):0<=IntKind.u64.wrap n:=by
 unfold IntKind.wrap;simp only [IntKind.bits,IntKind.signed]
 simp
 omega
def kH {x m:Int} (h:m < 9223372036854775807):0<=upV x m/\(upV x m<=m\/upV x m=0):=by
 rw [Qh6];unfold QeI
 split
 ·exact ⟨Int.le_refl _,.inr rfl⟩
 ·have h1:IntKind.i64.wrap (m+1)=m+1:=wrap64 (by omega) (by omega)
  have h2:IntKind.u64.wrap (m+1)=m+1:=QfK (by omega) (by omega)
  rw [h1,h2];have h3:0<=(nxV x).fdiv (2 ^ min 13 IntKind.u64.bits):=Int.fdiv_nonneg (by unfold nxV xsh;exact Qf6 _) (by decide)
  rw [bR h3];have h4:=bZ ((nxV x).fdiv (2 ^ min 13 IntKind.u64.bits)) (show m+1 ≠ 0 by omega)
  have h5:=ca ((nxV x).fdiv (2 ^ min 13 IntKind.u64.bits)) (show 0 < m+1 by omega)
  rw [wrap64 (by omega) (by omega)]
  omega
def ZR:=vj @ty3 (vj @ty90 (vj @ti3.eq_1 @QbJ.eq_1))
def VT:=vj @aI.eq_1 (vj @aB.eq_1 (vj @bgH.eq_1 (vj @p77.eq_1 (@p77.eq_2))))
def up_fn (x m:Int) (h:m < 9223372036854775807):Fn noB prog 38 [.ptr 0 0,aI m] (qg (bgH x)) (aI (upV x m)) (qg (bgH (upS x m))) 0:=by
 have env:=qx (A:=fun _=>True) (kC e77 kN)
 refine Fn.of (A:=fun _=>True) (n0:=1) (D:=noD) (Fn0 func38 rfl (fun vs w=>by kernel_rfl) (by kernel_rfl)) (by simp) (by simp [AV.ids,aI]) ?_ (fun _ _ _ _=>trivial) zb ?_
 ·intro i o hi
  have h:=qN hi
  simp [bgH] at h
  rcases h with ⟨rfl,rfl⟩;simp [AObj.ids,AV.ids,AV.idsL]
 rw [Qh6,Qll]
 by_cases c1:m < 1
 ·rw [show QeI x m=0 from if_pos c1,show Qhe x m=x from if_pos c1]
  repeat' first|(apply nx;with_reducible constructor)|apply uq (by decide)|((first|apply uz env|apply uk);intro Q hQ;simp only [vkt,seval,ZR,VT,c1,ite_and];(repeat' first|with_reducible assumption|apply vj|intro hp);all_goals first|(apply hQ;clear hQ Q)|omega|assumption|with_reducible rfl|(apply ux;kernel_rfl)|skip)
  (simp only [vrt,results38,vkt,seval,VT];refine Fin.ok some [] ?_ ?_ ?_ ?_ ?_ rfl;all_goals (try simp only [vle,vkt,seval]))
  all_goals simp
 ·rw [show QeI x m=_ from if_neg c1,show Qhe x m=_ from if_neg c1]
  have h1:IntKind.i64.wrap (m+1)=m+1:=wrap64 (by omega) (by omega)
  have h2:IntKind.u64.wrap (m+1)=m+1:=QfK (by omega) (by omega)
  have h0:¬ m+1=0:=by omega
  repeat' first|(apply nx;with_reducible constructor)|apply uq (by decide)|((first|apply uz env|apply uk);intro Q hQ;simp only [vkt,seval,ZR,VT,c1,h1,h2,h0,ite_and];(repeat' first|with_reducible assumption|apply vj|intro hp);all_goals first|(apply hQ;clear hQ Q)|omega|assumption|with_reducible rfl|(apply ux;kernel_rfl)|skip)
  (simp only [vrt,results38,vkt,seval,VT];refine Fin.ok some [] ?_ ?_ ?_ ?_ ?_ rfl;all_goals (try simp only [vle,vkt,seval]))
  all_goals (first|rfl|rw [h1,h2])
noncomputable def p22 (S:St):List AV->Option Pk
 |[.ptr i 0,.v (.int .i64 m)]=>match S.h i with
  |some (.cells [.v (.int .u64 x)])=>some { pre:=m < 9223372036854775807,hs:=[i],ar:=[.ptr 0 0,.v (.int .i64 m)],L0:=[.cells [.v (.int .u64 x)]],v:=.v (.int .i64 (upV x m)),L1:=[some (.cells [.v (.int .u64 (upS x m))])] }
  |_=>none
 |_=>none
def e22 {A:Frm->Prop}:qf A prog 38 (fnE p22):=jb fun S bs q h hp=>by
 unfold p22 at h;split at h
 ·split at h
  ·cases h;exact up_fn _ _ hp
  ·cases h
 ·cases h
def Ye:=vj @ty3 @ti3.eq_1
def Qd1:=vj @aI.eq_1 (vj @aB.eq_1 (vj @bgH.eq_1 (vj @p22.eq_1 (@p22.eq_2))))
def QiD (x a b:Int) (h:-100000<=a/\a<=100000/\-100000<=b/\b<=100000):Fn noB prog 36 [.ptr 0 0,aI a,aI b] (qg (bgH x)) (aI (a+upV x (b - a))) (qg (bgH (upS x (b - a)))) 0:=by
 have env:=qx (A:=fun _=>True) (kC e22 kN)
 refine Fn.of (A:=fun _=>True) (n0:=1) (D:=noD) (Fn0 func36 rfl (fun vs w=>by kernel_rfl) (by kernel_rfl)) (by simp) (by simp [AV.ids,aI]) ?_ (fun _ _ _ _=>trivial) zb ?_
 ·intro i o hi
  have h:=qN hi
  simp [bgH] at h
  rcases h with ⟨rfl,rfl⟩;simp [AObj.ids,AV.ids,AV.idsL]
 have b1:=kH (x:=x) (m:=b - a) (by omega)
 have h1:IntKind.i64.wrap (b - a)=b - a:=wrap64 (by omega) (by omega)
 have h2:IntKind.i64.wrap (a+upV x (b - a))=a+upV x (b - a):=wrap64 (by omega) (by omega)
 have h3:b - a < 9223372036854775807:=by omega
 repeat' first|(apply nx;with_reducible constructor)|apply uq (by decide)|((first|apply uz env|apply uk);intro Q hQ;simp only [vkt,seval,Ye,Qd1,h1,h2,ite_and];(repeat' first|with_reducible assumption|apply vj|intro hp);all_goals first|(apply hQ;clear hQ Q)|omega|assumption|with_reducible rfl|(apply ux;kernel_rfl)|skip)
 (simp only [vrt,results36,vkt,seval,Qd1];refine Fin.ok some [] ?_ ?_ ?_ ?_ ?_ rfl;all_goals (try simp only [vle,vkt,seval]))
 all_goals rfl
noncomputable def p21 (S:St):List AV->Option Pk
 |[.ptr i 0,.v (.int .i64 a),.v (.int .i64 b)]=>match S.h i with
  |some (.cells [.v (.int .u64 x)])=>some { pre:=-100000<=a/\a<=100000/\-100000<=b/\b<=100000,hs:=[i],ar:=[.ptr 0 0,.v (.int .i64 a),.v (.int .i64 b)],L0:=[.cells [.v (.int .u64 x)]],v:=.v (.int .i64 (a+upV x (b - a))),L1:=[some (.cells [.v (.int .u64 (upS x (b - a)))])] }
  |_=>none
 |_=>none
def e21 {A:Frm->Prop}:qf A prog 36 (fnE p21):=jb fun S bs q h hp=>by
 unfold p21 at h;split at h
 ·split at h
  ·cases h;exact QiD _ _ _ hp
  ·cases h
 ·cases h
def nbK (l:List Int):Nat->Int
 |0=>11400714819323198485
 |k+1=>xsh (IntKind.u64.wrap (IntKind.u64.wrap (nbK l k+IntKind.u64.wrap (l.getD k 0)) * 13787848793156543929)) 29
def nbS (l:List Int):Int:=nbK l l.length
def nbI (l:List Int) (k:Nat):St:={ t:=asg [(0,qi l),(3,.ptr 0 0),(4,aI k)],h:=qg (bgH (nbK l k)),n:=1 }
def kS:=vj @ty3 (vj @jh (vj @ty90 (vj @ty92 (vj @ti3.eq_1 (vj @jc.eq_1 (vj @QbJ.eq_1 @QgR.eq_1))))))
def JK:=vj @aI.eq_1 (vj @aB.eq_1 (vj @bgH.eq_1 (vj @nbI.eq_1 (vj @qi.eq_1 (vj @Q5 (@qj.eq_1))))))
def QlU (l:List Int) (hl:l.length<=maxLen):Fn noB prog 10 [qi l] noH (.ptr 0 0) (qg (bgH (nbS l))) 0:=by
 have env:=qx (A:=fun _=>True) kN
 refine kV (Fn0 func10 rfl (fun vs w=>by kernel_rfl) (by kernel_rfl)) (by simp) (by simp [AV.ids,qi]) ?_
 repeat' first|(apply nx;with_reducible constructor)|apply uq (by decide)|((first|apply uz env|apply uk);intro Q hQ;simp only [vkt,seval,kS,JK,ite_and];(repeat' first|with_reducible assumption|apply vj|intro hp);all_goals first|(apply hQ;clear hQ Q)|omega|assumption|with_reducible rfl|(apply ux;kernel_rfl)|skip)
 refine qh (fun k:{ k:Nat // k<=l.length }=>nbI l k.1) (fun k=>l.length - k.1) ⟨0,af _⟩ ?_ fun ⟨k,hk⟩=>?_
 ·(refine Le.ok some [] ?_;constructor;all_goals (try simp only [vle,vkt,seval,JK]))
  all_goals first|rfl|simp
 ·repeat' first|(apply nx;with_reducible constructor)|apply uq (by decide)
  (apply uz env;intro Q hQ;simp only [vkt,seval,kS,JK,ite_and];(repeat' first|with_reducible assumption|apply vj|intro hp);all_goals first|(apply hQ;clear hQ Q)|omega|assumption|with_reducible rfl|(apply ux;kernel_rfl)|skip)
  repeat' first|(apply nx;with_reducible constructor)|apply uq (by decide)
  (refine zk (by simp only [vkt,seval];rfl) (fun h=>?_) (fun h=>?_) <;> (try simp only [vki] at h))
  ·have hlt:k < l.length:=by omega
   have e9:=qV hlt hl
   repeat' first|(apply nx;with_reducible constructor)|apply uq (by decide)|((first|apply uz env|apply uk);intro Q hQ;simp only [vkt,seval,kS,JK,e9,ite_and];(repeat' first|with_reducible assumption|apply vj|intro hp);all_goals first|(apply hQ;clear hQ Q)|omega|assumption|with_reducible rfl|(apply ux;kernel_rfl)|skip)
   refine ⟨⟨k+1,hlt⟩,by show l.length - (k+1) < l.length - k;omega, ?_⟩
   (refine Le.ok some [] ?_;constructor;all_goals (try simp only [vle,vkt,seval,JK]))
   all_goals first|rfl|(simp [e9];done)
  ·have hkn:k=l.length:=by omega
   subst hkn
   repeat' first|(apply nx;with_reducible constructor)|apply uq (by decide)|((first|apply uz env|apply uk);intro Q hQ;simp only [vkt,seval,ite_and];(repeat' first|with_reducible assumption|apply vj|intro hp);all_goals first|(apply hQ;clear hQ Q)|omega|assumption|with_reducible rfl|(apply ux;kernel_rfl)|skip)
   (simp only [vrt,results10,vkt,seval,JK];refine Fin.ok some [] ?_ ?_ ?_ ?_ ?_ rfl;all_goals (try simp only [vle,vkt,seval]))
   all_goals rfl
def p20 (_:St):List AV->Option Pk
 |[.sl xs]=>some { pre:=xs=(xs.map qL).map qj/\xs.length<=maxLen,ar:=[.sl xs],v:=.ptr 0 0,L1:=[some (.cells [.v (.int .u64 (nbS (xs.map qL)))])] }
 |_=>none
def e20 {A:Frm->Prop}:qf A prog 10 (fnE p20):=jb fun S bs q h hp=>by
 unfold p20 at h;split at h <;> cases h
 have:=QlU (List.map qL _) (by rw [ab];exact hp.2)
 simp only [qi,<- hp.1] at this;exact this
def ZZ (l:Led):Bool:=(List.range (min l.coins.length 20)).any (fun j=>decide (20 < (l.coins.getD j []).length)) || ((List.range (min l.rates.length 20)).any (fun j=>decide (20 < (l.rates.getD j []).length)) || (decide (20 < l.coins.length) || (decide (20 < l.rates.length) || (decide (20 < l.start.length) || decide (20 < l.entries.length)))))
def anyR {n:Nat} {f:Nat->Nat} {k:Nat} (h:k < n) (h2:k < 20) (hf:20 < f k):(List.range (min n 20)).any (fun j=>decide (20 < f j))=true:=by
 rw [cR];exact ⟨k,aE.2 (by omega),by simpa using hf⟩
def anyN {n:Nat} {f:Nat->Nat} (h:∀ j,j < n->j < 20->f j<=20):(List.range (min n 20)).any (fun j=>decide (20 < f j))=false:=by
 rw [ea];intro j hj
 have:=aE.1 hj;have:=h j (by omega) (by omega)
 simpa using this
def Qlv {l:Led} (h:ZZ l=false):Fit l:=by
 unfold ZZ at h;simp only [Bool.or_eq_false_iff,decide_eq_false_iff_not,Nat.not_lt,ea,aE,decide_eq_true_eq] at h
 obtain ⟨h1,h2,h3,h4,h5,h6⟩:=h;refine ⟨h3,fun p hp=>?_,h4,fun p hp=>?_,h5,h6⟩
 ·obtain ⟨j,hj,rfl⟩:=bC hp
  have:=h1 j (by omega)
  simpa [ah,hj] using this
 ·obtain ⟨j,hj,rfl⟩:=bC hp
  have:=h2 j (by omega)
  simpa [ah,hj] using this
def laT1 (l:Led) (k:Nat):St:={ t:=asg [(1,.ptr 0 0),(2,aB false),(3,aI k)],h:=qg [(0,.cells (qU l))],n:=1 }
def laT2 (l:Led) (k:Nat):St:={ t:=asg [(1,.ptr 0 0),(2,aB false),(4,aI k)],h:=qg [(0,.cells (qU l))],n:=1 }
def jZ:=vj @ty3 (vj @jh (vj @QD (vj @WK (vj @Yt (vj @vU (vj @vQ (vj @Qg (vj @vR (vj @ti3.eq_1 (vj @jc.eq_1 (vj @kI.eq_1 (vj @Zp.eq_1 (vj @WO.eq_1 (vj @vD.eq_1 (vj @yP.eq_1 (vj @xD.eq_1 @yS.eq_1))))))))))))))))
def vo:=vj @aI.eq_1 (vj @aB.eq_1 (vj @q9.eq_1 (vj @qU.eq_1 (vj @laT1.eq_1 (vj @laT2.eq_1 (vj @J7 (vj @qC.eq_1 (vj @QcA (@zM.eq_1)))))))))
def QhD (l:Led):FnV prog 17 [q9 l] (aB (ZZ l)):=by
 have env:=qx (A:=fun _=>True) kN
 refine kV (Fn0 func17 rfl (fun vs w=>by kernel_rfl) (by kernel_rfl)) (by simp) (by simp [AV.ids,AV.idsL,q9,qU]) ?_
 repeat' first|(apply nx;with_reducible constructor)|apply uq (by decide)|((first|apply uz env|apply uk);intro Q hQ;simp only [vkt,seval,vo,ite_and];(repeat' first|with_reducible assumption|apply vj|intro hp);all_goals first|(apply hQ;clear hQ Q)|omega|assumption|with_reducible rfl|(apply ux;kernel_rfl)|skip)
 refine qh (fun k:{ k:Nat // k<=l.coins.length/\k<=20/\∀ j,j < k->(l.coins.getD j []).length<=20 }=>laT1 l k.1) (fun k=>20 - k.1) ⟨0,af _,af _,fun j h=>by omega⟩ ?_ fun ⟨k,hk,hk2,hall⟩=>?_
 ·(refine Le.ok some [] ?_;constructor;all_goals (try simp only [vle,vkt,seval,vo]))
  all_goals first|rfl|simp
 by_cases c1:k < l.coins.length/\k < 20
 ·have k1:decide ((k:Int) < (l.coins.length:Int))=true:=decide_eq_true (by omega)
  have k2:decide ((k:Int) < 20)=true:=decide_eq_true (by omega)
  have e9:=wrap64 (n:=(k:Int)+1) (by omega) (by omega)
  by_cases c2:20 < (l.coins.getD k []).length
  ·have k3:decide ((20:Int) < ((l.coins.getD k []).length:Int))=true:=decide_eq_true (by omega)
   repeat' first|(apply nx;with_reducible constructor)|apply uq (by decide)|((first|apply uz env|apply uk);intro Q hQ;simp only [vkt,seval,jZ,vo,k1,k2,k3,ite_and];(repeat' first|with_reducible assumption|apply vj|intro hp);all_goals first|(apply hQ;clear hQ Q)|omega|assumption|with_reducible rfl|(apply ux;kernel_rfl)|skip)
   (simp only [vrt,results17,vkt,seval,vo];refine Fin.val rfl ?_;(try simp only [AV.le]))
   all_goals first|(rw [ZZ,anyR (f:=fun j=>(l.coins.getD j []).length) c1.1 c1.2 c2];rfl)
  ·have k3:decide ((20:Int) < ((l.coins.getD k []).length:Int))=false:=decide_eq_false (by omega)
   repeat' first|(apply nx;with_reducible constructor)|apply uq (by decide)|((first|apply uz env|apply uk);intro Q hQ;simp only [vkt,seval,jZ,vo,k1,k2,k3,e9,ite_and];(repeat' first|with_reducible assumption|apply vj|intro hp);all_goals first|(apply hQ;clear hQ Q)|omega|assumption|with_reducible rfl|(apply ux;kernel_rfl)|skip)
   refine ⟨⟨k+1,by omega,by omega,fun j hj=>?_⟩,by show 20 - (k+1) < 20 - k;omega, ?_⟩
   ·rcases bB (bS hj) with h|h
    ·exact hall j h
    ·rw [h];omega
   ·(refine Le.ok some [] ?_;constructor;all_goals (try simp only [vle,vkt,seval,vo]))
    all_goals first|rfl|simp
 have a1:(List.range (min l.coins.length 20)).any (fun j=>decide (20 < (l.coins.getD j []).length))=false:=anyN (f:=fun j=>(l.coins.getD j []).length) fun j h1 h2=>hall j (by omega)
 have hd:(decide ((k:Int) < (l.coins.length:Int))=true/\decide ((k:Int) < 20)=false)\/decide ((k:Int) < (l.coins.length:Int))=false:=by
  by_cases h:k < l.coins.length
  ·exact .inl ⟨decide_eq_true (by omega),decide_eq_false (by omega)⟩
  ·exact .inr (decide_eq_false (by omega))
 rcases hd with ⟨d1,d2⟩|d1
 rotate_left
 have d2:=d1
 all_goals
  repeat' first|(apply nx;with_reducible constructor)|apply uq (by decide)|((first|apply uz env|apply uk);intro Q hQ;simp only [vkt,seval,jZ,vo,d1,d2,ite_and];(repeat' first|with_reducible assumption|apply vj|intro hp);all_goals first|(apply hQ;clear hQ Q)|omega|assumption|with_reducible rfl|(apply ux;kernel_rfl)|skip)
  refine qh (fun k:{ k:Nat // k<=l.rates.length/\k<=20/\∀ j,j < k->(l.rates.getD j []).length<=20 }=>laT2 l k.1) (fun k=>20 - k.1) ⟨0,af _,af _,fun j h=>by omega⟩ ?_ fun ⟨k,hk,hk2,hall⟩=>?_
  ·(refine Le.ok some [] ?_;constructor;all_goals (try simp only [vle,vkt,seval,vo]))
   all_goals first|rfl|simp
  clear d1 d2
  by_cases c1:k < l.rates.length/\k < 20
  ·have k1:decide ((k:Int) < (l.rates.length:Int))=true:=decide_eq_true (by omega)
   have k2:decide ((k:Int) < 20)=true:=decide_eq_true (by omega)
   have e9:=wrap64 (n:=(k:Int)+1) (by omega) (by omega)
   by_cases c2:20 < (l.rates.getD k []).length
   ·have k3:decide ((20:Int) < ((l.rates.getD k []).length:Int))=true:=decide_eq_true (by omega)
    repeat' first|(apply nx;with_reducible constructor)|apply uq (by decide)|((first|apply uz env|apply uk);intro Q hQ;simp only [vkt,seval,jZ,vo,k1,k2,k3,ite_and];(repeat' first|with_reducible assumption|apply vj|intro hp);all_goals first|(apply hQ;clear hQ Q)|omega|assumption|with_reducible rfl|(apply ux;kernel_rfl)|skip)
    (simp only [vrt,results17,vkt,seval,vo];refine Fin.val rfl ?_;(try simp only [AV.le]))
    all_goals first|(rw [ZZ,a1,anyR (f:=fun j=>(l.rates.getD j []).length) c1.1 c1.2 c2];rfl)
   ·have k3:decide ((20:Int) < ((l.rates.getD k []).length:Int))=false:=decide_eq_false (by omega)
    repeat' first|(apply nx;with_reducible constructor)|apply uq (by decide)|((first|apply uz env|apply uk);intro Q hQ;simp only [vkt,seval,jZ,vo,k1,k2,k3,e9,ite_and];(repeat' first|with_reducible assumption|apply vj|intro hp);all_goals first|(apply hQ;clear hQ Q)|omega|assumption|with_reducible rfl|(apply ux;kernel_rfl)|skip)
    refine ⟨⟨k+1,by omega,by omega,fun j hj=>?_⟩,by show 20 - (k+1) < 20 - k;omega, ?_⟩
    ·rcases bB (bS hj) with h|h
     ·exact hall j h
     ·rw [h];omega
    ·(refine Le.ok some [] ?_;constructor;all_goals (try simp only [vle,vkt,seval,vo]))
     all_goals first|rfl|simp
  have a2:(List.range (min l.rates.length 20)).any (fun j=>decide (20 < (l.rates.getD j []).length))=false:=anyN (f:=fun j=>(l.rates.getD j []).length) fun j h1 h2=>hall j (by omega)
  have hd:(decide ((k:Int) < (l.rates.length:Int))=true/\decide ((k:Int) < 20)=false)\/decide ((k:Int) < (l.rates.length:Int))=false:=by
   by_cases h:k < l.rates.length
   ·exact .inl ⟨decide_eq_true (by omega),decide_eq_false (by omega)⟩
   ·exact .inr (decide_eq_false (by omega))
  have hB:ZZ l=(decide (20 < l.coins.length) || (decide (20 < l.rates.length) || (decide (20 < l.start.length) || decide (20 < l.entries.length)))):=by rw [ZZ,a1,a2];rfl
  rw [hB];have b1:decide ((20:Int) < (l.coins.length:Int))=decide (20 < l.coins.length):=decide_eq_decide.2 (by omega)
  have b2:decide ((20:Int) < (l.rates.length:Int))=decide (20 < l.rates.length):=decide_eq_decide.2 (by omega)
  have b3:decide ((20:Int) < (l.start.length:Int))=decide (20 < l.start.length):=decide_eq_decide.2 (by omega)
  have b4:decide ((20:Int) < (l.entries.length:Int))=decide (20 < l.entries.length):=decide_eq_decide.2 (by omega)
  generalize decide (20 < l.coins.length)=p1 at *;generalize decide (20 < l.rates.length)=p2 at *
  generalize decide (20 < l.start.length)=p3 at *;generalize decide (20 < l.entries.length)=p4 at *
  rcases hd with ⟨d1,d2⟩|d1
  rotate_left
  have d2:=d1
  all_goals
   cases p1 <;> cases p2 <;> cases p3
   all_goals
    repeat' first|(apply nx;with_reducible constructor)|apply uq (by decide)|((first|apply uz env|apply uk);intro Q hQ;simp only [vkt,seval,jZ,vo,d1,d2,b1,b2,b3,b4,ite_and];(repeat' first|with_reducible assumption|apply vj|intro hp);all_goals first|(apply hQ;clear hQ Q)|omega|assumption|with_reducible rfl|(apply ux;kernel_rfl)|skip)
    (simp only [vrt,results17,vkt,seval,vo];refine Fin.val rfl ?_;(try simp only [AV.le]))
    all_goals first|rfl|simp
def c44:List AV->Prop × AV
 |[.agg [.sl cs,.sl rs,.sl ss,.sl es]]=>(isL cs rs ss es,aB (ZZ (zR cs rs ss es)))
 |_=>(False,.junk)
def d44 {A:Frm->Prop}:qf A prog 17 (zq true c44):=qD fun vs hv h=>by
 clear hv;unfold c44 at h ⊢
 split at h
 ·refine ⟨by simp [AV.plain,aB],fun _=>by simp [AV.flat,aB], ?_⟩
  rw [<- jA h];exact QhD _
 ·exact h.elim
def esT (r:List Sh) (k:Nat):St:={ t:=asg [(0,yx r),(1,yx r),(4,aB false),(5,aI k)],h:=qg [],n:=0 }
def vk:=vj @ty3 (vj @vQ (vj @Qg (vj @ti3.eq_1 (vj @yP.eq_1 @xD.eq_1))))
def Ju:=vj @aI.eq_1 (vj @aB.eq_1 (vj @yx.eq_1 (vj @esT.eq_1 (vj @gSh (@eSh.eq_1)))))
def QfW (r:List Sh) (hl:r.length<=maxLen):FnV prog 73 [yx r,yx r] (aB true):=by
 have env:=qx (A:=fun _=>True) kN
 refine kV (Fn0 func73 rfl (fun vs w=>by kernel_rfl) (by kernel_rfl)) (by simp) (by simp [AV.ids,yx]) ?_
 have zn:∀ n:Int,decide (n=n)=true:=fun n=>decide_eq_true rfl
 repeat' first|(apply nx;with_reducible constructor)|apply uq (by decide)|((first|apply uz env|apply uk);intro Q hQ;simp only [vkt,seval,vk,Ju,ite_and];(repeat' first|with_reducible assumption|apply vj|intro hp);all_goals first|(apply hQ;clear hQ Q)|omega|assumption|with_reducible rfl|(apply ux;kernel_rfl)|skip)
 refine qh (fun k:{ k:Nat // k<=r.length }=>esT r k.1) (fun k=>r.length - k.1) ⟨0,af _⟩ ?_ fun ⟨k,hk⟩=>?_
 ·(refine Le.ok some [] ?_;constructor;all_goals (try simp only [vle,vkt,seval,Ju]))
  all_goals first|rfl|simp
 ·by_cases hlt:k < r.length
  ·have d1:decide ((k:Int) < (r.length:Int))=true:=decide_eq_true (by omega)
   have e9:=qV hlt hl
   repeat' first|(apply nx;with_reducible constructor)|apply uq (by decide)|((first|apply uz env|apply uk);intro Q hQ;simp only [vkt,seval,vk,Ju,d1,e9,ite_and];(repeat' first|with_reducible assumption|apply vj|intro hp);all_goals first|(apply hQ;clear hQ Q)|omega|assumption|with_reducible rfl|(apply ux;kernel_rfl)|skip)
   refine ⟨⟨k+1,hlt⟩,by show r.length - (k+1) < r.length - k;omega, ?_⟩
   (refine Le.ok some [] ?_;constructor;all_goals (try simp only [vle,vkt,seval,Ju]))
   all_goals first|rfl|simp
  ·have d1:decide ((k:Int) < (r.length:Int))=false:=decide_eq_false (by omega)
   repeat' first|(apply nx;with_reducible constructor)|apply uq (by decide)|((first|apply uz env|apply uk);intro Q hQ;simp only [vkt,seval,vk,Ju,d1,ite_and];(repeat' first|with_reducible assumption|apply vj|intro hp);all_goals first|(apply hQ;clear hQ Q)|omega|assumption|with_reducible rfl|(apply ux;kernel_rfl)|skip)
   (simp only [vrt,results73,vkt,seval,Ju];refine Fin.val rfl ?_;(try simp only [AV.le]))
   all_goals first|rfl|simp
def c57:List AV->Prop × AV
 |[.sl xs,.sl ys]=>(ys=xs/\xs=(xs.map dSh).map eSh/\xs.length<=100000,aB true)
 |_=>(False,.junk)
def d57 {A:Frm->Prop}:qf A prog 73 (zq true c57):=qD fun vs hv h=>by
 clear hv;unfold c57 at h ⊢
 split at h
 ·rename_i xs ys
  obtain ⟨h1,h2,h3⟩:=h;refine ⟨by simp [AV.plain,aB],fun _=>by simp [AV.flat,aB], ?_⟩
  have:=QfW (xs.map dSh) (by
    rw [ab];have:(100000:Nat)<=maxLen:=by decide
    omega)
  simp only [yx,<- h2] at this;rw [h1];exact this
 ·exact h.elim
def FitW.cslW {l:Led} (h:FitW l):∀ p ∈ l.coins,p.length<=100000:=fun p hp=>by have:=h.cs p hp;omega
def elT1 (l:Led) (k:Nat):St:={ t:=asg [(2,.ptr 0 0),(3,.ptr 1 0),(4,aB false),(5,aI k)],h:=qg [(0,.cells (qU l)),(1,.cells (qU l))],n:=2 }
def elT2 (l:Led) (k:Nat):St:={ t:=asg [(2,.ptr 0 0),(3,.ptr 1 0),(4,aB false),(6,aI k)],h:=qg [(0,.cells (qU l)),(1,.cells (qU l))],n:=2 }
def wN:=vj @ty3 (vj @jh (vj @QD (vj @WK (vj @Yt (vj @vU (vj @vQ (vj @Qg (vj @vR (vj @ti3.eq_1 (vj @jc.eq_1 (vj @kI.eq_1 (vj @Zp.eq_1 (vj @WO.eq_1 (vj @vD.eq_1 (vj @yP.eq_1 (vj @xD.eq_1 @yS.eq_1))))))))))))))))
def kX:=vj @aI.eq_1 (vj @aB.eq_1 (vj @q9.eq_1 (vj @qU.eq_1 (vj @elT1.eq_1 (vj @elT2.eq_1 (vj @s36.eq_1 (vj @s36.eq_2 (vj @s26.eq_1 (vj @s26.eq_2 (vj @c57.eq_1 (vj @c57.eq_2 (vj @QcA (vj @zM.eq_1 (vj @R8 (vj @zC.eq_1 (vj @Qo (vj @kg (@mSh))))))))))))))))))
def Qen (l:Led) (hl:FitW l):FnV prog 24 [q9 l,q9 l] (aB true):=by
 have env:=qx (A:=fun _=>True) (kC d36 (kC e26 (kC d57 kN)))
 refine kV (Fn0 func24 rfl (fun vs w=>by kernel_rfl) (by kernel_rfl)) (by simp) (by simp [AV.ids,AV.idsL,q9,qU]) ?_
 have zn:∀ n:Int,decide (n=n)=true:=fun n=>decide_eq_true rfl
 have zl:∀ p:List (List Int),decide (p=p)=true:=fun n=>decide_eq_true rfl
 have zi:∀ p:List Int,decide (p=p)=true:=fun n=>decide_eq_true rfl
 have q1:=hl.c;have q2:=hl.r
 have q3:=hl.e;have q4:=hl.s
 have q5:=KU;have q6:=hl.cslW
 have q7:∀ p ∈ l.coins,p.length<=maxLen:=fun p hp=>by have:=hl.cs p hp;omega
 repeat' first|(apply nx;with_reducible constructor)|apply uq (by decide)|((first|apply uz env|apply uk);intro Q hQ;simp only [vkt,seval,wN,kX,ite_and];(repeat' first|with_reducible assumption|apply vj|intro hp);all_goals first|(apply hQ;clear hQ Q)|omega|assumption|with_reducible rfl|(apply ux;kernel_rfl)|skip)
 all_goals first|(refine qh (fun k:{ k:Nat // k<=l.rates.length }=>elT1 l k.1) (fun k=>l.rates.length - k.1) ⟨0,af _⟩ ?_ fun ⟨k,hk⟩=>?_)
 ·(refine Le.ok some [] ?_;constructor;all_goals (try simp only [vle,vkt,seval,kX]))
  all_goals first|rfl|simp
 ·by_cases hlt:k < l.rates.length
  ·have d1:decide ((k:Int) < (l.rates.length:Int))=true:=decide_eq_true (by omega)
   have e9:=qV hlt (show l.rates.length<=maxLen by omega)
   have hpl:=hl.rs _ (jr (d:=[]) hlt);have hp2:(l.rates.getD k []).length<=100000:=by omega
   repeat' first|(apply nx;with_reducible constructor)|apply uq (by decide)|((first|apply uz env|apply uk);intro Q hQ;simp only [vkt,seval,wN,kX,d1,e9,ite_and];(repeat' first|with_reducible assumption|apply vj|intro hp);all_goals first|(apply hQ;clear hQ Q)|omega|assumption|with_reducible rfl|(apply ux;kernel_rfl)|skip)
   refine ⟨⟨k+1,hlt⟩,by show l.rates.length - (k+1) < l.rates.length - k;omega, ?_⟩
   (refine Le.ok some [] ?_;constructor;all_goals (try simp only [vle,vkt,seval,kX]))
   all_goals first|rfl|simp
  ·have d1:decide ((k:Int) < (l.rates.length:Int))=false:=decide_eq_false (by omega)
   repeat' first|(apply nx;with_reducible constructor)|apply uq (by decide)|((first|apply uz env|apply uk);intro Q hQ;simp only [vkt,seval,wN,kX,d1,ite_and];(repeat' first|with_reducible assumption|apply vj|intro hp);all_goals first|(apply hQ;clear hQ Q)|omega|assumption|with_reducible rfl|(apply ux;kernel_rfl)|skip)
   refine qh (fun k:{ k:Nat // k<=l.entries.length }=>elT2 l k.1) (fun k=>l.entries.length - k.1) ⟨0,af _⟩ ?_ fun ⟨k,hk⟩=>?_
   ·(refine Le.ok some [] ?_;constructor;all_goals (try simp only [vle,vkt,seval,kX]))
    all_goals first|rfl|simp
   ·by_cases hlt:k < l.entries.length
    ·have d2:decide ((k:Int) < (l.entries.length:Int))=true:=decide_eq_true (by omega)
     have e9:=qV hlt (show l.entries.length<=maxLen by omega)
     repeat' first|(apply nx;with_reducible constructor)|apply uq (by decide)|((first|apply uz env|apply uk);intro Q hQ;simp only [vkt,seval,wN,kX,d2,e9,ite_and];(repeat' first|with_reducible assumption|apply vj|intro hp);all_goals first|(apply hQ;clear hQ Q)|omega|assumption|with_reducible rfl|(apply ux;kernel_rfl)|skip)
     refine ⟨⟨k+1,hlt⟩,by show l.entries.length - (k+1) < l.entries.length - k;omega, ?_⟩
     (refine Le.ok some [] ?_;constructor;all_goals (try simp only [vle,vkt,seval,kX]))
     all_goals first|rfl|simp
    ·have d2:decide ((k:Int) < (l.entries.length:Int))=false:=decide_eq_false (by omega)
     repeat' first|(apply nx;with_reducible constructor)|apply uq (by decide)|((first|apply uz env|apply uk);intro Q hQ;simp only [vkt,seval,wN,kX,d2,ite_and];(repeat' first|with_reducible assumption|apply vj|intro hp);all_goals first|(apply hQ;clear hQ Q)|omega|assumption|with_reducible rfl|(apply ux;kernel_rfl)|skip)
     (simp only [vrt,results24,vkt,seval,kX];refine Fin.val rfl ?_;(try simp only [AV.le]))
     all_goals first|rfl|simp
def s52w:List AV->Prop × AV
 |[.agg [.sl cs,.sl rs,.sl ss,.sl es],y]=>(y=.agg [.sl cs,.sl rs,.sl ss,.sl es]/\isL cs rs ss es/\FitW (zR cs rs ss es),aB true)
 |_=>(False,.junk)
def e52w {A:Frm->Prop}:qf A prog 24 (zq true s52w):=qD fun vs hv h=>by
 clear hv;unfold s52w at h ⊢
 split at h
 ·refine ⟨by simp [AV.plain,aB],fun _=>by simp [AV.flat,aB], ?_⟩
  rw [h.1,<- jA h.2.1];exact Qen _ h.2.2
 ·exact h.elim
structure RI (n0 d0 k:Nat) where
 n:Nat
 d:Nat
 n1:1<=n
 n2:n<=n0
 d1:1<=d
 d2:d<=d0
 e:n * d0=d * n0
 c:∀ j,k < j->j<=12->¬ (j ∣ n/\j ∣ d)
def RI.div {n0 d0 k:Nat} (i:RI n0 d0 k) (hk:2<=k) (h1:k ∣ i.n) (h2:k ∣ i.d):RI n0 d0 k where
 n:=i.n / k
 d:=i.d / k
 n1:=Nat.div_pos (dk i.n1 h1) (by omega)
 n2:=bi (Nat.div_le_self _ _) i.n2
 d1:=Nat.div_pos (dk i.d1 h2) (by omega)
 d2:=bi (Nat.div_le_self _ _) i.d2
 e:=by
  obtain ⟨a,ha⟩:=h1;obtain ⟨b,hb⟩:=h2
  have:=i.e;rw [ha,hb] at this ⊢
  rw [Nat.mul_div_cancel_left _ (by omega),Nat.mul_div_cancel_left _ (by omega)]
  rw [Nat.mul_assoc,Nat.mul_assoc] at this;exact Nat.eq_of_mul_eq_mul_left (by omega) this
 c:=fun j hj hl h=>i.c j hj hl ⟨Nat.dvd_trans h.1 (d6 h1),Nat.dvd_trans h.2 (d6 h2)⟩
def RI.less {n0 d0 k:Nat} (i:RI n0 d0 (k+1)) (h:¬ (k+1 ∣ i.n/\k+1 ∣ i.d)):RI n0 d0 k where
 n:=i.n
 d:=i.d
 n1:=i.n1
 n2:=i.n2
 d1:=i.d1
 d2:=i.d2
 e:=i.e
 c:=fun j hj hl hh=>by
  rcases bB (Nat.succ_le_of_lt hj) with h1|h1
  ·exact i.c j h1 hl hh
  ·subst h1;exact h hh
def RI.last {n0 d0:Nat} (i:RI n0 d0 1) (hd:d0<=12) (hd1:1<=d0):shQ (mkRat n0 d0)=⟨i.n,i.d⟩:=by
 have hg:Nat.gcd i.n i.d=1:=by
  have h1:=dm i.n i.d;have h2:=Nat.gcd_dvd_right i.n i.d
  have h3:0 < Nat.gcd i.n i.d:=Nat.gcd_pos_of_pos_left _ i.n1;have h4:=dk i.d1 h2
  have h5:=i.d2
  rcases bB h3 with h6|h6
  ·exact absurd ⟨h1,h2⟩ (i.c _ h6 (by omega))
  ·exact h6.symm
 have hd0:d0 ≠ 0:=by omega
 have hid:i.d ≠ 0:=by have:=i.d1;omega
 have he:mkRat (n0:Int) d0=mkRat (i.n:Int) i.d:=by
  rw [Rat.mkRat_eq_iff hd0 hid];have:=i.e
  rw [bX i.d] at this
  exact_mod_cast this.symm
 have hp:(0:Int) < (i.d:Int):=by have:=i.d1;omega
 have e1:=XU (a:=(i.n:Int)) hp;have e2:=Ud (a:=(i.n:Int)) hp
 simp only [aW,Int.natAbs_natCast,hg] at e1 e2;simp only [shQ,he,e1,e2]
 simp
noncomputable def rtN (x:Int):Int:=1+upV (upS x (12 - 1)) (20 - 1)
noncomputable def rtD (x:Int):Int:=1+upV x (12 - 1)
noncomputable def rtV (x:Int):Sh:=shQ (mkRat (rtN x) (rtD x).toNat)
noncomputable def rtS (x:Int):Int:=upS (upS x (12 - 1)) (20 - 1)
def Qcc (x:Int):(1<=rtN x/\rtN x<=20)/\1<=rtD x/\rtD x<=12:=by
 have h1:=kH (x:=upS x (12 - 1)) (m:=20 - 1) (by decide)
 have h2:=kH (x:=x) (m:=12 - 1) (by decide)
 unfold rtN rtD;omega
def rtT (x:Int) (k n d:Nat):St:={ t:=asg [(2,.ptr 1 0),(3,aI d),(4,aI n),(5,aI k)],h:=qg [(0,.cells [.v (.int .u64 x)]),(1,.cells [.v (.int .i64 0),.v (.int .i64 0)])],n:=2,m:=1 }
def tmodN (a b:Nat):((a:Int)).tmod (b:Int)=((a % b:Nat):Int):=rfl
def tdivN (a b:Nat):((a:Int)).tdiv (b:Int)=((a / b:Nat):Int):=rfl
def wdiv {a b:Nat} (h:a<=1000):IntKind.wrap .i64 ((a:Int).tdiv (b:Int))=((a / b:Nat):Int):=by
 rw [tdivN];have:=Nat.div_le_self a b
 generalize a / b=q at *;exact wrap64 (by omega) (by omega)
def jd:=vj @ty3 (vj @Qg (vj @ti3.eq_1 @xD.eq_1))
def xP:=vj @aI.eq_1 (vj @aB.eq_1 (vj @aSh.eq_1 (vj @bgH.eq_1 (vj @p21.eq_1 (vj @p21.eq_2 (vj @rtT.eq_1 (@tmodN)))))))
def Qfo (x:Int):Fn noB prog 62 [.ptr 0 0] (qg (bgH x)) (aSh (rtV x)) (qg (bgH (rtS x))) 0:=by
 have env:=qx (A:=fun _=>True) (kC e21 kN)
 refine Fn.of (A:=fun _=>True) (n0:=1) (D:=noD) (Fn0 func62 rfl (fun vs w=>by kernel_rfl) (by kernel_rfl)) (by simp) (by simp [AV.ids]) ?_ (fun _ _ _ _=>trivial) zb ?_
 ·intro i o hi
  have h:=qN hi
  simp [bgH] at h
  rcases h with ⟨rfl,rfl⟩;simp [AObj.ids,AV.ids,AV.idsL]
 have hb:=Qcc x;obtain ⟨n0,hn0⟩:∃ n:Nat,rtN x=(n:Int):=⟨(rtN x).toNat,by omega⟩
 obtain ⟨d0,hd0⟩:∃ n:Nat,rtD x=(n:Int):=⟨(rtD x).toNat,by omega⟩
 rw [hn0,hd0] at hb;have hV:rtV x=shQ (mkRat n0 d0):=by unfold rtV;rw [hn0,hd0];rfl
 have hn0':1+upV (upS x (12 - 1)) (20 - 1)=(n0:Int):=hn0;have hd0':1+upV x (12 - 1)=(d0:Int):=hd0
 have hS:upS (upS x (12 - 1)) (20 - 1)=rtS x:=rfl
 repeat' first|(apply nx;with_reducible constructor)|apply uq (by decide)|((first|apply uz env|apply uk);intro Q hQ;simp only [vkt,seval,-Int.reduceSub,-Int.reduceAdd,-Int.reduceMul,jd,xP,hn0',hd0',hS,ite_and];(repeat' first|with_reducible assumption|apply vj|intro hp);all_goals first|(apply hQ;clear hQ Q)|omega|assumption|with_reducible rfl|(apply ux;kernel_rfl)|skip)
 refine qh (fun i:(k:{ k:Nat // 1<=k/\k<=12 }) × RI n0 d0 k.1=>rtT (rtS x) i.1.1 i.2.n i.2.d) (fun i=>i.1.1) ⟨⟨12,by decide⟩,⟨n0,d0,by omega,ag _,by omega,ag _,bX _ _,fun j h1 h2=>by have:12 < j:=h1;omega⟩⟩ ?_ fun ⟨⟨k,hk⟩,i⟩=>?_
 ·(refine Le.ok some [] ?_;constructor;all_goals (try simp only [vle,vkt,seval,-Int.reduceSub,-Int.reduceAdd,-Int.reduceMul,xP]))
  all_goals first|rfl|simp
 ·repeat' first|(apply nx;with_reducible constructor)|apply uq (by decide)
  (apply uz env;intro Q hQ;simp only [vkt,seval,-Int.reduceSub,-Int.reduceAdd,-Int.reduceMul,jd,xP,ite_and];(repeat' first|with_reducible assumption|apply vj|intro hp);all_goals first|(apply hQ;clear hQ Q)|omega|assumption|with_reducible rfl|(apply ux;kernel_rfl)|skip)
  repeat' first|(apply nx;with_reducible constructor)|apply uq (by decide)
  (refine zk (by simp only [vkt,seval,-Int.reduceSub,-Int.reduceAdd,-Int.reduceMul];rfl) (fun h=>?_) (fun h=>?_) <;> (try simp only [vki] at h))
  ·have hk2:1 < k:=by omega
   repeat' first|(apply nx;with_reducible constructor)|apply uq (by decide)
   refine qh (fun i:RI n0 d0 k=>rtT (rtS x) k i.n i.d) (fun i=>i.n) i ?_ fun i=>?_
   ·(refine Le.ok some [] ?_;constructor;all_goals (try simp only [vle,vkt,seval,-Int.reduceSub,-Int.reduceAdd,-Int.reduceMul,xP]))
    all_goals first|rfl|simp
   ·have i1:=i.n1
    have i2:=i.n2;have i3:=i.d1
    have i4:=i.d2;have nz:¬ (k:Int)=0:=by omega
    have r1:i.n % k=0 ↔ k ∣ i.n:=(Nat.dvd_iff_mod_eq_zero ..).symm;have r2:i.d % k=0 ↔ k ∣ i.d:=(Nat.dvd_iff_mod_eq_zero ..).symm
    have w1:IntKind.wrap .i64 ((i.n:Int).tdiv (k:Int))=((i.n / k:Nat):Int):=wdiv (by omega)
    have w2:IntKind.wrap .i64 ((i.d:Int).tdiv (k:Int))=((i.d / k:Nat):Int):=wdiv (by omega)
    have w3:IntKind.wrap .i64 ((k:Int) - 1)=((k - 1:Nat):Int):=by rw [wrap64 (by omega) (by omega)];omega
    by_cases c1:i.n % k=0
    ·by_cases c2:i.d % k=0
     ·have c1':(((i.n % k:Nat):Int)=0):=by omega
      have c2':(((i.d % k:Nat):Int)=0):=by omega
      repeat' first|(apply nx;with_reducible constructor)|apply uq (by decide)|((first|apply uz env|apply uk);intro Q hQ;simp only [vkt,seval,-Int.reduceSub,-Int.reduceAdd,-Int.reduceMul,jd,xP,nz,c1',c2',w1,w2,ite_and];(repeat' first|with_reducible assumption|apply vj|intro hp);all_goals first|(apply hQ;clear hQ Q)|omega|assumption|with_reducible rfl|(apply ux;kernel_rfl)|skip)
      refine ⟨i.div (by omega) (r1.1 c1) (r2.1 c2),by show i.n / k < i.n;exact Nat.div_lt_self (by omega) hk2, ?_⟩
      (refine Le.ok some [] ?_;constructor;all_goals (try simp only [vle,vkt,seval,-Int.reduceSub,-Int.reduceAdd,-Int.reduceMul,xP]))
      all_goals first|rfl|(simp [RI.div];done)
     ·have c1':(((i.n % k:Nat):Int)=0):=by omega
      have c2':¬ (((i.d % k:Nat):Int)=0):=by omega
      obtain ⟨m,rfl⟩:∃ m,k=m+1:=⟨k - 1,by omega⟩
      repeat' first|(apply nx;with_reducible constructor)|apply uq (by decide)|((first|apply uz env|apply uk);intro Q hQ;simp only [vkt,seval,-Int.reduceSub,-Int.reduceAdd,-Int.reduceMul,jd,xP,nz,c1',c2',w3,ite_and];(repeat' first|with_reducible assumption|apply vj|intro hp);all_goals first|(apply hQ;clear hQ Q)|omega|assumption|with_reducible rfl|(apply ux;kernel_rfl)|skip)
      refine ⟨⟨⟨m,by omega,by omega⟩,i.less fun h=>c2 (r2.2 h.2)⟩,by show m < m+1;omega, ?_⟩
      (refine Le.ok some [] ?_;constructor;all_goals (try simp only [vle,vkt,seval,-Int.reduceSub,-Int.reduceAdd,-Int.reduceMul,xP]))
      all_goals first|rfl|(simp [RI.less];done)
    ·have c1':¬ (((i.n % k:Nat):Int)=0):=by omega
     obtain ⟨m,rfl⟩:∃ m,k=m+1:=⟨k - 1,by omega⟩
     repeat' first|(apply nx;with_reducible constructor)|apply uq (by decide)|((first|apply uz env|apply uk);intro Q hQ;simp only [vkt,seval,-Int.reduceSub,-Int.reduceAdd,-Int.reduceMul,jd,xP,nz,c1',w3,ite_and];(repeat' first|with_reducible assumption|apply vj|intro hp);all_goals first|(apply hQ;clear hQ Q)|omega|assumption|with_reducible rfl|(apply ux;kernel_rfl)|skip)
     refine ⟨⟨⟨m,by omega,by omega⟩,i.less fun h=>c1 (r1.2 h.1)⟩,by show m < m+1;omega, ?_⟩
     (refine Le.ok some [] ?_;constructor;all_goals (try simp only [vle,vkt,seval,-Int.reduceSub,-Int.reduceAdd,-Int.reduceMul,xP]))
     all_goals first|rfl|(simp [RI.less];done)
  ·have hk1:k=1:=by omega
   subst hk1;have hl:=i.last (by omega) (by omega)
   rw [hV,hl]
   repeat' first|(apply nx;with_reducible constructor)|apply uq (by decide)|((first|apply uz env|apply uk);intro Q hQ;simp only [vkt,seval,-Int.reduceSub,-Int.reduceAdd,-Int.reduceMul,jd,ite_and];(repeat' first|with_reducible assumption|apply vj|intro hp);all_goals first|(apply hQ;clear hQ Q)|omega|assumption|with_reducible rfl|(apply ux;kernel_rfl)|skip)
   (simp only [vrt,results62,vkt,seval,-Int.reduceSub,-Int.reduceAdd,-Int.reduceMul,jd,xP];refine Fin.ok some [] ?_ ?_ ?_ ?_ ?_ rfl;all_goals (try simp only [vle,vkt,seval,-Int.reduceSub,-Int.reduceAdd,-Int.reduceMul]))
   all_goals first|rfl|simp
noncomputable def p84 (S:St):List AV->Option Pk
 |[.ptr i 0]=>match S.h i with
  |some (.cells [.v (.int .u64 x)])=>some { hs:=[i],ar:=[.ptr 0 0],L0:=[.cells [.v (.int .u64 x)]],v:=.agg [.v (.int .i64 (rtV x).num),.v (.int .i64 (rtV x).den)],L1:=[some (.cells [.v (.int .u64 (rtS x))])],fl:=true }
  |_=>none
 |_=>none
def e84 {A:Frm->Prop}:qf A prog 62 (fnE p84):=jb fun S bs q h hp=>by
 unfold p84 at h;split at h
 ·split at h
  ·cases h;exact Qfo _
  ·cases h
 ·cases h
noncomputable def QbE (x:Int) (l:List Int):Int:=l.getD (upV x ((l.length:Int) - 1)).toNat 0
def vT {x m:Int} (h0:0<=m) (h:m < 9223372036854775807):0<=upV x m/\upV x m<=m:=by
 have:=kH (x:=x) h;omega
def QaR {x:Int} {l:List Int} (h1:1<=l.length) (h2:l.length<=100):QbE x l ∈ l:=by
 have:=vT (x:=x) (m:=(l.length:Int) - 1) (by omega) (by omega)
 exact jr (by omega)
def YE:=vj @ty3 (vj @jh (vj @ti3.eq_1 @jc.eq_1))
def QdM:=vj @aI.eq_1 (vj @aB.eq_1 (vj @qi.eq_1 (vj @bgH.eq_1 (vj @p22.eq_1 (vj @p22.eq_2 (vj @Q5 (@qj.eq_1)))))))
def Qlb (x:Int) (l:List Int) (h1:1<=l.length) (h2:l.length<=100):Fn noB prog 39 [.ptr 0 0,qi l] (qg (bgH x)) (aI (QbE x l)) (qg (bgH (upS x ((l.length:Int) - 1)))) 0:=by
 have env:=qx (A:=fun _=>True) (kC e22 kN)
 refine Fn.of (A:=fun _=>True) (n0:=1) (D:=noD) (Fn0 func39 rfl (fun vs w=>by kernel_rfl) (by kernel_rfl)) (by simp) (by simp [AV.ids,qi]) ?_ (fun _ _ _ _=>trivial) zb ?_
 ·intro i o hi
  have h:=qN hi
  simp [bgH] at h
  rcases h with ⟨rfl,rfl⟩;simp [AObj.ids,AV.ids,AV.idsL]
 have hu:=vT (x:=x) (m:=(l.length:Int) - 1) (by omega) (by omega)
 have w1:IntKind.wrap .i64 ((l.length:Int) - 1)=(l.length:Int) - 1:=wrap64 (by omega) (by omega)
 have nz:¬ (l.length:Int)=0:=by omega
 have h3:(l.length:Int) - 1 < 9223372036854775807:=by omega
 have h4:(upV x ((l.length:Int) - 1)).toNat < l.length:=by omega
 repeat' first|(apply nx;with_reducible constructor)|apply uq (by decide)|((first|apply uz env|apply uk);intro Q hQ;simp only [vkt,seval,-Int.reduceSub,-Int.reduceAdd,-Int.reduceMul,YE,QdM,w1,nz,ite_and];(repeat' first|with_reducible assumption|apply vj|intro hp);all_goals first|(apply hQ;clear hQ Q)|omega|assumption|with_reducible rfl|(apply ux;kernel_rfl)|skip)
 (simp only [vrt,results39,vkt,seval,-Int.reduceSub,-Int.reduceAdd,-Int.reduceMul,QdM];refine Fin.ok some [] ?_ ?_ ?_ ?_ ?_ rfl;all_goals (try simp only [vle,vkt,seval,-Int.reduceSub,-Int.reduceAdd,-Int.reduceMul]))
 all_goals first|rfl|simp
noncomputable def p85 (S:St):List AV->Option Pk
 |[.ptr i 0,.row r]=>match S.h i with
  |some (.cells [.v (.int .u64 x)])=>match S.h r with
   |some (.row _ _ xs)=>some { pre:=xs=(xs.map qL).map qj/\1<=xs.length/\xs.length<=100,hs:=[i],bo:=[r],ar:=[.ptr 0 0,.sl xs],L0:=[.cells [.v (.int .u64 x)]],v:=.v (.int .i64 (QbE x (xs.map qL))),L1:=[some (.cells [.v (.int .u64 (upS x ((xs.length:Int) - 1)))])],fl:=true }
   |_=>none
  |_=>none
 |_=>none
def e85 {A:Frm->Prop}:qf A prog 39 (fnE p85):=jb fun S bs q h hp=>by
 unfold p85 at h;split at h
 ·split at h
  ·split at h
   ·cases h
    obtain ⟨h1,h2,h3⟩:=hp;rename_i x _ _ _ _ xs _
    have:=Qlb x (List.map qL xs) (by rw [ab];exact h2) (by rw [ab];exact h3)
    simp only [qi,<- h1,ab] at this;exact this
   ·cases h
  ·cases h
 ·cases h
def WU:=vj @ty3 @ti3.eq_1
def Qc2:=vj @aI.eq_1 (vj @aB.eq_1 (vj @qi.eq_1 (vj @bgH.eq_1 (vj @p22.eq_1 (@p22.eq_2)))))
def Qfg (x n m:Int) (h1:1<=m) (h2:m<=1000):Fn noB prog 37 [.ptr 0 0,aI n,aI m] (qg (bgH x)) (aB (decide (upV x (m - 1) < n))) (qg (bgH (upS x (m - 1)))) 0:=by
 have env:=qx (A:=fun _=>True) (kC e22 kN)
 refine Fn.of (A:=fun _=>True) (n0:=1) (D:=noD) (Fn0 func37 rfl (fun vs w=>by kernel_rfl) (by kernel_rfl)) (by simp) (by simp [AV.ids,aI]) ?_ (fun _ _ _ _=>trivial) zb ?_
 ·intro i o hi
  have h:=qN hi
  simp [bgH] at h
  rcases h with ⟨rfl,rfl⟩;simp [AObj.ids,AV.ids,AV.idsL]
 have w1:IntKind.wrap .i64 (m - 1)=m - 1:=wrap64 (by omega) (by omega)
 have h3:m - 1 < 9223372036854775807:=by omega
 repeat' first|(apply nx;with_reducible constructor)|apply uq (by decide)|((first|apply uz env|apply uk);intro Q hQ;simp only [vkt,seval,-Int.reduceSub,-Int.reduceAdd,-Int.reduceMul,WU,Qc2,w1,ite_and];(repeat' first|with_reducible assumption|apply vj|intro hp);all_goals first|(apply hQ;clear hQ Q)|omega|assumption|with_reducible rfl|(apply ux;kernel_rfl)|skip)
 (simp only [vrt,results37,vkt,seval,-Int.reduceSub,-Int.reduceAdd,-Int.reduceMul,Qc2];refine Fin.ok some [] ?_ ?_ ?_ ?_ ?_ rfl;all_goals (try simp only [vle,vkt,seval,-Int.reduceSub,-Int.reduceAdd,-Int.reduceMul]))
 all_goals first|rfl|simp
noncomputable def p71 (S:St):List AV->Option Pk
 |[.ptr i 0,.v (.int .i64 n),.v (.int .i64 m)]=>match S.h i with
  |some (.cells [.v (.int .u64 x)])=>some { pre:=1<=m/\m<=1000,hs:=[i],ar:=[.ptr 0 0,.v (.int .i64 n),.v (.int .i64 m)],L0:=[.cells [.v (.int .u64 x)]],v:=.v (.bool (decide (upV x (m - 1) < n))),L1:=[some (.cells [.v (.int .u64 (upS x (m - 1)))])],fl:=true }
  |_=>none
 |_=>none
def e71 {A:Frm->Prop}:qf A prog 37 (fnE p71):=jb fun S bs q h hp=>by
 unfold p71 at h;split at h
 ·split at h
  ·cases h;exact Qfg _ _ _ hp.1 hp.2
  ·cases h
 ·cases h
def J5 (x n:Int):Int:=if n < 2 then 0 else (x.tmod n+n).tmod n
def WV:=vj @ty3 @ti3.eq_1
def VW:=vj @aI.eq_1 (@aB.eq_1)
def QjI (x n:Int) (h2:n<=1000000):FnV prog 47 [aI x,aI n] (aI (J5 x n)):=by
 have env:=qx (A:=fun _=>True) kN
 refine kV (Fn0 func47 rfl (fun vs w=>by kernel_rfl) (by kernel_rfl)) (by simp) (by simp [AV.ids,aI]) ?_
 by_cases c1:n < 2
 ·repeat' first|(apply nx;with_reducible constructor)|apply uq (by decide)|((first|apply uz env|apply uk);intro Q hQ;simp only [vkt,seval,-Int.reduceSub,-Int.reduceAdd,-Int.reduceMul,WV,VW,c1,ite_and];(repeat' first|with_reducible assumption|apply vj|intro hp);all_goals first|(apply hQ;clear hQ Q)|omega|assumption|with_reducible rfl|(apply ux;kernel_rfl)|skip)
  (simp only [vrt,results47,vkt,seval,-Int.reduceSub,-Int.reduceAdd,-Int.reduceMul,VW];refine Fin.val rfl ?_;(try simp only [AV.le]))
  all_goals simp [J5,c1]
 ·have nz:¬ n=0:=by omega
  have h3:x.tmod n < n:=dn x (by omega)
  have h5:-n < x.tmod n:=d8 x (by omega)
  have w1:IntKind.wrap .i64 (x.tmod n+n)=x.tmod n+n:=wrap64 (by omega) (by omega)
  repeat' first|(apply nx;with_reducible constructor)|apply uq (by decide)|((first|apply uz env|apply uk);intro Q hQ;simp only [vkt,seval,-Int.reduceSub,-Int.reduceAdd,-Int.reduceMul,WV,VW,c1,nz,w1,ite_and];(repeat' first|with_reducible assumption|apply vj|intro hp);all_goals first|(apply hQ;clear hQ Q)|omega|assumption|with_reducible rfl|(apply ux;kernel_rfl)|skip)
  (simp only [vrt,results47,vkt,seval,-Int.reduceSub,-Int.reduceAdd,-Int.reduceMul,VW];refine Fin.val rfl ?_;(try simp only [AV.le]))
  all_goals simp [J5,c1]
def s54:List AV->Prop × AV
 |[.v (.int .i64 x),.v (.int .i64 n)]=>(n<=1000000,aI (J5 x n))
 |_=>(False,.junk)
def e54 {A:Frm->Prop}:qf A prog 47 (zq true s54):=qD fun vs _ h=>by
 unfold s54 at h ⊢;split at h
 ·exact ⟨trivial,fun _=>trivial,QjI _ _ h⟩
 ·exact h.elim
def Qbc {x n:Int} (h:1<=n):0<=J5 x n/\J5 x n < n:=by
 unfold J5;split
 ·omega
 ·have h5:-n < x.tmod n:=d8 x (by omega)
  have h1:0<=x.tmod n+n:=by omega
  rw [bR h1];exact ⟨bZ _ (by omega),ca _ (by omega)⟩
noncomputable def pcK (x:Int):Nat->List Int × Int
 |0=>([1],x)
 |k+1=>((pcK x k).1++[(pcK x k).1.getD k 0+(1+upV (pcK x k).2 (12 - 1))],upS (pcK x k).2 (12 - 1))
structure PcOk (p:List Int) (k:Nat):Prop where
 len:p.length=k+1
 one:p.getD 0 0=1
 up:∀ i,i < k->p.getD i 0 < p.getD (i+1) 0
 le:∀ i,i<=k->1<=p.getD i 0/\p.getD i 0<=1+12 * (i:Int)
def kD {α:Type} {l:List α} {v d:α} {i:Nat} (h:i < l.length):(l++[v]).getD i d=l.getD i d:=by
 simp [ah,bp h]
def XJ {α:Type} {l:List α} {v d:α} {i:Nat} (h:i=l.length):(l++[v]).getD i d=v:=by
 subst h;simp [ah]
def Uh (x:Int):∀ k,PcOk (pcK x k).1 k
 |0=>⟨rfl,rfl,fun i h=>by omega,fun i h=>by
   obtain rfl:i=0:=by omega
   simp [pcK]⟩
 |k+1=>by
  have ih:=Uh x k;have hu:=kH (x:=(pcK x k).2) (m:=12 - 1) (by decide)
  have hl:=ih.len;have hk:=ih.le k (ag _)
  rw [pcK];refine ⟨by simp [hl],by rw [kD (by omega)];exact ih.one,fun i hi=>?_,fun i hi=>?_⟩
  ·rcases bB (bS hi) with h|h
   ·rw [kD (by omega),kD (by omega)];exact ih.up i h
   ·subst h;rw [kD (by omega),XJ hl.symm];omega
  ·rcases bB hi with h|h
   ·rw [kD (by omega)];exact ih.le i (by omega)
   ·subst h;rw [XJ hl.symm];omega
structure CoS where
 cs:List (List Int)
 ss:List Int
 x:Int
noncomputable def UC (s:CoS):CoS:=⟨s.cs++[(pcK (upS s.x 3) (upV s.x 3).toNat).1],s.ss++[upV (pcK (upS s.x 3) (upV s.x 3).toNat).2 200],upS (pcK (upS s.x 3) (upV s.x 3).toNat).2 200⟩
noncomputable def coK (x:Int):Nat->CoS
 |0=>⟨[],[],x⟩
 |k+1=>UC (coK x k)
def Qap (x:Int) (k:Nat):coK x (k+1)=UC (coK x k):=rfl
structure CoOk (s:CoS) (k:Nat):Prop where
 c:s.cs.length=k
 l:s.ss.length=k
 p:∀ q ∈ s.cs,∃ j,j<=3/\PcOk q j
 v:∀ n ∈ s.ss,0<=n/\n<=200
def UX (x:Int):∀ k,CoOk (coK x k) k
 |0=>⟨rfl,rfl,fun q hq=>by simp [coK] at hq,fun q hq=>by simp [coK] at hq⟩
 |k+1=>by
  have ih:=UX x k;rw [Qap]
  unfold UC;have h1:=kH (x:=(coK x k).x) (m:=3) (by decide)
  have h2:=kH (x:=(pcK (upS (coK x k).x 3) (upV (coK x k).x 3).toNat).2) (m:=200) (by decide)
  refine ⟨by simp [ih.c],by simp [ih.l],fun q hq=>?_,fun q hq=>?_⟩
  ·rcases aA.1 hq with hq|hq
   ·exact ih.p q hq
   ·obtain rfl:=aZ.1 hq
    exact ⟨_,by omega,Uh _ _⟩
  ·rcases aA.1 hq with hq|hq
   ·exact ih.v q hq
   ·obtain rfl:=aZ.1 hq
    omega
noncomputable def rtK (x:Int):Nat->List Sh × Int
 |0=>([⟨1,1⟩],x)
 |k+1=>((rtK x k).1++[rtV (rtK x k).2],rtS (rtK x k).2)
structure ShOk (s:Sh):Prop where
 n:1<=s.num/\s.num<=20
 d:1<=s.den/\s.den<=12
 r:s=shQ (mkRat s.num s.den.toNat)
def Qk4 {q:Rat} (h1:1<=q.num/\q.num<=20) (h2:(q.den:Int)<=12):ShOk (shQ q) :=
 ⟨h1,⟨by have:=jP q;show (1:Int)<=(q.den:Int);omega,h2⟩,by show shQ q=shQ (mkRat q.num (q.den:Int).toNat);rw [aW,Rat.mkRat_self]⟩
def Qly {n d:Int} (hn:1<=n/\n<=20) (hd:1<=d/\d<=12):(1<=(mkRat n d.toNat).num/\(mkRat n d.toNat).num<=20)/\((mkRat n d.toNat).den:Int)<=12:=by
 have hq:(0:Int) < d:=by omega
 have e1:=RS (a:=n) hq;have e2:=RA (a:=n) hq
 have hp:0 < (mkRat n d.toNat).num:=by
  have hm:=XU (a:=n) hq;have h5:0 < Nat.gcd n.natAbs d.toNat:=Nat.gcd_pos_of_pos_left _ (by omega)
  have h6:=dm n.natAbs d.toNat;rw [hm]
  generalize Nat.gcd n.natAbs d.toNat=g at *;obtain ⟨q,hq⟩:=h6
  have h7:n=(g:Int) * (q:Int):=by
   rw [show n=(n.natAbs:Int) by omega,hq];exact dG g q
  rw [h7,Int.mul_tdiv_cancel_left _ (by omega)]
  rcases dz q with h8|h8
  ·subst h8;simp at h7;omega
  ·omega
 omega
def QlB (x:Int):ShOk (rtV x):=by
 have h:=Qly (Qcc x).1 (Qcc x).2;unfold rtV
 exact Qk4 h.1 h.2
structure RwOk (r:List Sh) (m:Nat):Prop where
 len:r.length=m
 one:r.getD 0 default=⟨1,1⟩
 all:∀ s ∈ r,ShOk s
def QbY (x:Int):∀ k,RwOk (rtK x k).1 (k+1)
 |0=>⟨rfl,rfl,fun s hs=>by
  obtain rfl:=aZ.1 hs;exact ⟨by decide,by decide,by decide +kernel⟩⟩
 |k+1=>by
  have ih:=QbY x k;rw [rtK]
  refine ⟨by simp [ih.len],by rw [kD (by have:=ih.len;omega)];exact ih.one,fun s hs=>?_⟩
  rcases aA.1 hs with hs|hs
  ·exact ih.all s hs
  ·obtain rfl:=aZ.1 hs
   exact QlB _
noncomputable def dyK (m:Nat) (x:Int):Nat->List (List Sh) × Int
 |0=>([],x)
 |k+1=>((dyK m x k).1++[(rtK (dyK m x k).2 m).1],(rtK (dyK m x k).2 m).2)
def UV (m:Nat) (x:Int):∀ k,(dyK m x k).1.length=k/\∀ r ∈ (dyK m x k).1,RwOk r (m+1)
 |0=>⟨rfl,fun r h=>by simp [dyK] at h⟩
 |k+1=>by
  obtain ⟨h1,h2⟩:=UV m x k;rw [dyK]
  refine ⟨by simp [h1],fun r hr=>?_⟩
  rcases aA.1 hr with hr|hr
  ·exact h2 r hr
  ·obtain rfl:=aZ.1 hr
   exact QbY _ _
structure EnS where
 day:Int
 till:List Int
 es:List Ent
 x:Int
noncomputable def enD (R:Nat) (s:EnS):Int:=s.day+upV s.x (min (s.day+1) ((R:Int) - 1) - s.day)
noncomputable def enX1 (R:Nat) (s:EnS):Int:=upS s.x (min (s.day+1) ((R:Int) - 1) - s.day)
def kinds:List Int:=[1,2,3,3,3,4]
noncomputable def enS1 (s:EnS) (day coin x:Int):EnS:=⟨day,s.till.set coin.toNat (s.till.getD coin.toNat 0+upV x 90),s.es++[⟨day,1,coin,0,upV x 90,0⟩],upS x 90⟩
noncomputable def enS2 (s:EnS) (day coin x:Int):EnS:=⟨day,s.till.set coin.toNat (s.till.getD coin.toNat 0 - upV x (min (s.till.getD coin.toNat 0) 90)),s.es++[⟨day,2,coin,0,upV x (min (s.till.getD coin.toNat 0) 90),0⟩],upS x (min (s.till.getD coin.toNat 0) 90)⟩
noncomputable def enF (x:Int):Int:=-3+upV x (3 - -3)
noncomputable def Qbo (h x:Int):Int:=max 0 (min 999 (h+QbE (upS x (3 - -3)) [0,enF x]))
noncomputable def enS4 (s:EnS) (day coin x:Int):EnS:=⟨day,s.till.set coin.toNat (Qbo (s.till.getD coin.toNat 0) x),s.es++[⟨day,4,coin,0,Qbo (s.till.getD coin.toNat 0) x,0⟩],upS (upS x (3 - -3)) ((2:Nat) - 1)⟩
def QcW (rs:List (List Sh)) (day coin to am:Int):Int :=
 (am * ((rs.getD day.toNat []).getD coin.toNat default).num * ((rs.getD day.toNat []).getD to.toNat default).den).tdiv (((rs.getD day.toNat []).getD coin.toNat default).den * ((rs.getD day.toNat []).getD to.toNat default).num)
def VF (s:EnS) (day coin to am got x:Int):EnS :=
 if 999 < got then ⟨day,s.till,s.es,x⟩ else ⟨day,(s.till.set coin.toNat (s.till.getD coin.toNat 0 - am)).set to.toNat (s.till.getD to.toNat 0+got),s.es++[⟨day,3,coin,to,am,got⟩],x⟩
noncomputable def QhK (rs:List (List Sh)) (w:Int) (s:EnS) (day coin to am x:Int):EnS :=
 if upV x (10 - 1) < w then VF s day coin to am (QcW rs day coin to am+(1+upV (upS x (10 - 1)) (3 - 1))) (upS (upS x (10 - 1)) (3 - 1))
 else VF s day coin to am (QcW rs day coin to am) (upS x (10 - 1))
noncomputable def Qco (C:Nat) (coin x:Int):Int:=J5 (coin+(1+upV x ((C:Int) - 1 - 1))) C
noncomputable def enS3 (C:Nat) (rs:List (List Sh)) (w:Int) (s:EnS) (day coin x:Int):EnS :=
 if C=1 then ⟨day,s.till,s.es,x⟩ else
 QhK rs w s day coin (Qco C coin x) (upV (upS x ((C:Int) - 1 - 1)) (min (s.till.getD coin.toNat 0) 40)) (upS (upS x ((C:Int) - 1 - 1)) (min (s.till.getD coin.toNat 0) 40))
noncomputable def Qce (C:Nat) (rs:List (List Sh)) (w:Int) (s:EnS) (day kind coin x:Int):EnS :=
 if kind=1 then enS1 s day coin x else if kind=2 then enS2 s day coin x else if kind=4 then enS4 s day coin x else enS3 C rs w s day coin x
noncomputable def enK0 (R:Nat) (s:EnS):Int:=QbE (enX1 R s) kinds
noncomputable def Qet (R:Nat) (s:EnS):Int:=upS (enX1 R s) ((6:Nat) - 1)
noncomputable def QcL (C:Nat) (rs:List (List Sh)) (w:Int) (s:EnS):EnS :=
 Qce C rs w s (enD rs.length s) (enK0 rs.length s) (upV (Qet rs.length s) ((C:Int) - 1)) (upS (Qet rs.length s) ((C:Int) - 1))
noncomputable def enK (C:Nat) (rs:List (List Sh)) (w:Int) (s:EnS):Nat->EnS
 |0=>s
 |k+1=>QcL C rs w (enK C rs w s k)
structure EnI (C R k:Nat) (s:EnS):Prop where
 d0:0<=s.day
 d1:s.day<=(R:Int) - 1
 len:s.till.length=C
 b:∀ v ∈ s.till,0<=v/\v<=999 * ((k:Int)+1)
 es:s.es.length<=k
def QgV {C R k:Nat} {s:EnS} (h:EnI C R k s) (hR:R<=100):s.day<=enD R s/\enD R s<=(R:Int) - 1:=by
 have h0:=h.d0;have h1:=h.d1
 have:=vT (x:=s.x) (m:=min (s.day+1) ((R:Int) - 1) - s.day) (by omega) (by omega)
 unfold enD;omega
structure EnJ (C R k:Nat) (s:EnS) (day coin:Int):Prop where
 i:EnI C R k s
 d0:0<=day
 d1:day<=(R:Int) - 1
 c0:0<=coin
 c1:coin<=(C:Int) - 1
def EnJ.h {C R k:Nat} {s:EnS} {day coin:Int} (j:EnJ C R k s day coin):0<=s.till.getD coin.toNat 0/\s.till.getD coin.toNat 0<=999 * ((k:Int)+1):=by
 have:=j.c0;have:=j.c1
 have:=j.i.len;exact j.i.b _ (jr (by omega))
def Yf {l:List Int} {i:Nat} {v:Int} {P:Int->Prop} (h:∀ x ∈ l,P x) (hv:P v):∀ x ∈ l.set i v,P x:=fun x hx=>by
 rcases bP hx with h1|h1
 ·exact h x h1
 ·exact h1 ▸ hv
def EnJ.bd {C R k:Nat} {s:EnS} {day coin:Int} (j:EnJ C R k s day coin):∀ v ∈ s.till,0<=v/\v<=999 * (((k+1:Nat):Int)+1):=fun v hv=>by
 have:=j.i.b v hv;omega
def EnJ.set {C R k:Nat} {s:EnS} {day coin:Int} (j:EnJ C R k s day coin) {v:Int} {e:Ent} {x:Int} (h:0<=v/\v<=999 * ((k:Int)+1)+999):EnI C R (k+1) ⟨day,s.till.set coin.toNat v,s.es++[e],x⟩ :=
 ⟨j.d0,j.d1,by simp [j.i.len],Yf j.bd (by omega),by simp;exact j.i.es⟩
def QdY (h x:Int):0<=Qbo h x/\Qbo h x<=999:=by unfold Qbo;omega
def Lc {C R k:Nat} {s:EnS} {day coin:Int} (j:EnJ C R k s day coin) {to am got x:Int} (ha:0<=am) (ha':am<=s.till.getD coin.toNat 0) (ht:0<=to/\to < C) (hg:0<=got):EnI C R (k+1) (VF s day coin to am got x):=by
 unfold VF;have hh:=j.h
 have hl:=j.i.len;split
 ·exact ⟨j.d0,j.d1,hl,j.bd,Nat.le_succ_of_le j.i.es⟩
 ·have h2:=j.i.b _ (jr (l:=s.till) (k:=to.toNat) (d:=0) (by omega))
  exact ⟨j.d0,j.d1,by simp [hl],Yf (Yf j.bd (by omega)) (by omega),by simp;exact j.i.es⟩
def QdQ {rs:List (List Sh)} {day coin to am:Int} (h1:ShOk ((rs.getD day.toNat []).getD coin.toNat default)) (h2:ShOk ((rs.getD day.toNat []).getD to.toNat default)) (ha:0<=am) (ha':am<=40) :
  0<=QcW rs day coin to am/\QcW rs day coin to am<=9600:=by
 unfold QcW;have a1:=h1.n
 have a2:=h1.d;have a3:=h2.n
 have a4:=h2.d;generalize ((rs.getD day.toNat []).getD coin.toNat default).num=p at *
 generalize ((rs.getD day.toNat []).getD coin.toNat default).den=q at *;generalize ((rs.getD day.toNat []).getD to.toNat default).num=r at *
 generalize ((rs.getD day.toNat []).getD to.toNat default).den=u at *;have m1:0<=am * p * u:=dq (dq ha (by omega)) (by omega)
 have m2:am * p<=40 * 20:=cH ha' a1.2 (by omega) (by omega)
 have m3:am * p * u<=40 * 20 * 12:=cH m2 a4.2 (by omega) (by omega)
 have m4:0 < q * r:=cG (by omega) (by omega)
 rw [dC m1];refine ⟨Int.ediv_nonneg m1 (by omega),dt (dF _ m1) (by omega)⟩
structure RsOk (rs:List (List Sh)) (C:Nat):Prop where
 len:1<=rs.length/\rs.length<=4
 all:∀ r ∈ rs,RwOk r C
def RsOk.sh {rs:List (List Sh)} {C:Nat} (h:RsOk rs C) {day coin:Int} (h1:0<=day) (h2:day<=(rs.length:Int) - 1) (h3:0<=coin) (h4:coin<=(C:Int) - 1):ShOk ((rs.getD day.toNat []).getD coin.toNat default):=by
 have hr:=h.all _ (jr (l:=rs) (k:=day.toNat) (d:=[]) (by omega))
 exact hr.all _ (jr (by have:=hr.len;omega))
def QiS {C k:Nat} {rs:List (List Sh)} (hr:RsOk rs C) (hC:1<=C/\C<=4) {w:Int} {s:EnS} {day coin:Int} (j:EnJ C rs.length k s day coin) (kind x:Int):EnI C rs.length (k+1) (Qce C rs w s day kind coin x):=by
 have hh:=j.h;have hc0:=j.c0
 have hc1:=j.c1;unfold Qce
 split
 ·unfold enS1
  have:=vT (x:=x) (m:=90) (by decide) (by decide)
  exact j.set (by omega)
 split
 ·unfold enS2
  have:=kH (x:=x) (m:=min (s.till.getD coin.toNat 0) 90) (by omega)
  exact j.set (by omega)
 split
 ·unfold enS4
  have:=QdY (s.till.getD coin.toNat 0) x;exact j.set (by omega)
 ·unfold enS3
  split
  ·exact ⟨j.d0,j.d1,j.i.len,j.bd,Nat.le_succ_of_le j.i.es⟩
  ·have ht:0<=Qco C coin x/\Qco C coin x < C:=Qbc (by omega)
   generalize Qco C coin x=to at *;generalize upS x ((C:Int) - 1 - 1)=y
   have ha:=kH (x:=y) (m:=min (s.till.getD coin.toNat 0) 40) (by omega)
   generalize upV y (min (s.till.getD coin.toNat 0) 40)=am at *;have s1:=hr.sh j.d0 j.d1 hc0 hc1
   have s2:=hr.sh j.d0 j.d1 ht.1 (show to<=(C:Int) - 1 by omega)
   have hg:=QdQ s1 s2 (am:=am) (by omega) (by omega)
   unfold QhK;split
   ·have:=kH (x:=upS (upS y (min (s.till.getD coin.toNat 0) 40)) (10 - 1)) (m:=3 - 1) (by decide)
    exact Lc j (by omega) (by omega) ht (by omega)
   ·exact Lc j (by omega) (by omega) ht (by omega)
def QfZ {C k:Nat} {rs:List (List Sh)} (hr:RsOk rs C) (hC:1<=C/\C<=4) {s:EnS} (h:EnI C rs.length k s):EnJ C rs.length k s (enD rs.length s) (upV (Qet rs.length s) ((C:Int) - 1)):=by
 have h1:=QgV h (by have:=hr.len;omega)
 have h2:=vT (x:=Qet rs.length s) (m:=(C:Int) - 1) (by omega) (by omega)
 exact ⟨h,by have:=h.d0;omega,h1.2,h2.1,h2.2⟩
def QcJ {C:Nat} {rs:List (List Sh)} (hr:RsOk rs C) (hC:1<=C/\C<=4) {w:Int} {s:EnS} (h:EnI C rs.length 0 s):∀ k,EnI C rs.length k (enK C rs w s k)
 |0=>h
 |k+1=>QiS hr hC (QfZ hr hC (QcJ hr hC h k)) _ _
noncomputable def lg1 (x c:Int):CoS:=coK (upS x (c - 1)) (1+upV x (c - 1)).toNat
noncomputable def lg2 (x c d:Int):List (List Sh) × Int:=dyK ((lg1 x c).cs.length - 1) (upS (lg1 x c).x (d - 1)) (1+upV (lg1 x c).x (d - 1)).toNat
noncomputable def lg3 (x c d e w:Int):EnS:=enK (lg1 x c).cs.length (lg2 x c d).1 w ⟨0,(lg1 x c).ss,[],upS (lg2 x c d).2 e⟩ (upV (lg2 x c d).2 e).toNat
noncomputable def lgL (x c d e w:Int):Led:=⟨(lg1 x c).cs,(lg2 x c d).1,(lg1 x c).ss,(lg3 x c d e w).es⟩
noncomputable def lgS (x c d e w:Int):Int:=(lg3 x c d e w).x
def Yp:=vj @ty3 (vj @jh (vj @ti3.eq_1 @jc.eq_1))
def QjO:=vj @aI.eq_1 (vj @aB.eq_1 (vj @qi.eq_1 (@ZJ)))
def QaD (l:List Int) (hl:l.length<=100000):Fn noB prog 63 [qi l] noH (.row 0) (qg [(0,.row 3 1 (l.map qj))]) 0:=by
 have env:=qx (A:=fun _=>True) kN
 refine kV (Fn0 func63 rfl (fun vs w=>by kernel_rfl) (by kernel_rfl)) (by simp) (by simp [AV.ids,qi]) ?_
 obtain ⟨b1,b2,b3,b4⟩:=b47 hl
 repeat' first|(apply nx;with_reducible constructor)|apply uq (by decide)|((first|apply uz env|apply uk);intro Q hQ;simp only [vkt,Nat.reduceEqDiff,reduceCtorEq,↓reduceIte,Yp,QjO,ite_and];(repeat' first|with_reducible assumption|apply vj|intro hp);all_goals first|(apply hQ;clear hQ Q)|omega|assumption|with_reducible rfl|(apply ux;kernel_rfl)|skip)
 (simp only [vrt,results63,vkt];refine Fin.ok some [] ?_ ?_ ?_ ?_ ?_ rfl;all_goals (try simp only [vle,vkt,↓reduceIte]))
 all_goals first|rfl|simp
def flInt (l:List Int):(∀ r ∈ l.map qj,∀ d ∈ r,∃ x,d=DV.v x)=True:=by
 simp [qj]
def QfQ (S:St):List AV->Option Pk
 |[.row r]=>match S.h r with
  |some (.row _ _ xs)=>some { pre:=xs=(xs.map qL).map qj/\xs.length<=100000,bo:=[r],ar:=[.sl xs],v:=.row 0,L1:=[some (.row 3 1 xs)],fl:=true }
  |_=>none
 |[.sl xs]=>some { pre:=xs=(xs.map qL).map qj/\xs.length<=100000,ar:=[.sl xs],v:=.row 0,L1:=[some (.row 3 1 xs)] }
 |_=>none
def e23r {A:Frm->Prop}:qf A prog 63 (fnE QfQ):=jb fun S bs q h hp=>by
 unfold QfQ at h;split at h
 ·split at h
  ·cases h
   rename_i xs _;have:=QaD (List.map qL xs) (by rw [ab];exact hp.2)
   simp only [qi,<- hp.1] at this;exact this
  ·cases h
 ·cases h
  rename_i xs;have:=QaD (List.map qL xs) (by rw [ab];exact hp.2)
  simp only [qi,<- hp.1] at this;exact this
 ·cases h
def pcK_1 (y:Int) (j:Nat):(pcK y (j+1)).1=(pcK y j).1++[(pcK y j).1.getD j 0+(1+upV (pcK y j).2 (12 - 1))]:=rfl
def pcK_2 (y:Int) (j:Nat):(pcK y (j+1)).2=upS (pcK y j).2 (12 - 1):=rfl
def rtK_1 (y:Int) (j:Nat):(rtK y (j+1)).1=(rtK y j).1++[rtV (rtK y j).2]:=rfl
def rtK_2 (y:Int) (j:Nat):(rtK y (j+1)).2=rtS (rtK y j).2:=rfl
def dyK_1 (m:Nat) (y:Int) (j:Nat):(dyK m y (j+1)).1=(dyK m y j).1++[(rtK (dyK m y j).2 m).1]:=rfl
def dyK_2 (m:Nat) (y:Int) (j:Nat):(dyK m y (j+1)).2=(rtK (dyK m y j).2 m).2:=rfl
def enK_1 (C:Nat) (rs:List (List Sh)) (w:Int) (s:EnS) (k:Nat):enK C rs w s (k+1)=QcL C rs w (enK C rs w s k):=rfl
def gRow {l:List (List Sh)} {n:Nat} (h:n < l.length):(l.map zM).getD n []=zM (l.getD n []):=by simp [ah,h]
def dIntW (n:Int):qL [.v (.int .i64 n)]=n:=rfl
def loT (c d e w:Int):List (Nat × AV):=[(0,.ptr 0 0),(1,aI c),(2,aI d),(3,aI e),(4,aI w),(10,.ptr 1 0),(11,.ptr 2 0)]
def Qbb:List AV:=[.nil,.nil,.nil,.nil]
noncomputable def lo1 (c d e w:Int) (b:Int) (V k:Nat):St:={ t:=asg (loT c d e w++[(12,aI ((V:Int) - (k:Int)))]),h:=qg [(0,.cells [.v (.int .u64 (coK b k).x)]),(1,.cells Qbb),(2,.cells [.row 3,.nil,.row 4,.nil]),(3,.row 26 1 ((coK b k).cs.map qC)),(4,.row 3 1 ((coK b k).ss.map qj))],n:=5,m:=1 }
noncomputable def lo2 (c d e w:Int) (s:CoS) (y:Int) (V k K j:Nat):St:={ t:=asg (loT c d e w++[(12,aI ((V:Int) - (k:Int))),(13,.row 5),(14,aI ((K:Int) - (j:Int)))]),h:=qg [(0,.cells [.v (.int .u64 (pcK y j).2)]),(1,.cells Qbb),(2,.cells [.row 3,.nil,.row 4,.nil]),(3,.row 26 1 (s.cs.map qC)),(4,.row 3 1 (s.ss.map qj)),(5,.row 3 1 ((pcK y j).1.map qj))],n:=6,m:=1 }
def lo3 (c d e w:Int) (s:CoS) (p:List Int) (y:Int) (V k:Nat):St:={ t:=asg (loT c d e w++[(12,aI ((V:Int) - (k:Int))),(13,qi p)]),h:=qg [(0,.cells [.v (.int .u64 y)]),(1,.cells Qbb),(2,.cells [.row 3,.nil,.row 4,.nil]),(3,.row 26 1 (s.cs.map qC)),(4,.row 3 1 (s.ss.map qj))],n:=5,m:=1 }
noncomputable def ld1 (c d e w:Int) (s:CoS) (m:Nat) (b:Int) (V k:Nat):St:={ t:=asg (loT c d e w++[(15,aI ((V:Int) - (k:Int)))]),h:=qg [(0,.cells [.v (.int .u64 (dyK m b k).2)]),(1,.cells Qbb),(2,.cells [.row 3,.row 5,.row 4,.nil]),(3,.row 26 1 (s.cs.map qC)),(4,.row 3 1 (s.ss.map qj)),(5,.row 108 1 ((dyK m b k).1.map zM))],n:=6,m:=1 }
noncomputable def ld2 (c d e w:Int) (s:CoS) (rs:List (List Sh)) (y:Int) (V k j:Nat):St:={ t:=asg (loT c d e w++[(15,aI ((V:Int) - (k:Int))),(16,.row 6),(17,aI ((j:Int)+1))]),h:=qg [(0,.cells [.v (.int .u64 (rtK y j).2)]),(1,.cells Qbb),(2,.cells [.row 3,.row 5,.row 4,.nil]),(3,.row 26 1 (s.cs.map qC)),(4,.row 3 1 (s.ss.map qj)),(5,.row 108 1 (rs.map zM)),(6,.row 110 2 ((rtK y j).1.map eSh))],n:=7,m:=1 }
def ld3 (c d e w:Int) (s:CoS) (rs:List (List Sh)) (r:List Sh) (y:Int) (V k:Nat):St:={ t:=asg (loT c d e w++[(15,aI ((V:Int) - (k:Int))),(16,yx r)]),h:=qg [(0,.cells [.v (.int .u64 y)]),(1,.cells Qbb),(2,.cells [.row 3,.row 5,.row 4,.nil]),(3,.row 26 1 (s.cs.map qC)),(4,.row 3 1 (s.ss.map qj)),(5,.row 108 1 (rs.map zM))],n:=6,m:=1 }
def le1 (c d e w:Int) (s:CoS) (rs:List (List Sh)) (t:EnS) (V k:Nat):St:={ t:=asg (loT c d e w++[(18,.row 6),(19,aI t.day),(20,aI ((V:Int) - (k:Int)))]),h:=qg [(0,.cells [.v (.int .u64 t.x)]),(1,.cells Qbb),(2,.cells [.row 3,.row 5,.row 4,.row 7]),(3,.row 26 1 (s.cs.map qC)),(4,.row 3 1 (s.ss.map qj)),(5,.row 108 1 (rs.map zM)),(6,.row 3 1 (t.till.map qj)),(7,.row 129 6 (t.es.map zC))],n:=8,m:=1 }
def qm:=vj @ty3 (vj @jh (vj @QD (vj @WK (vj @Yt (vj @vU (vj @vQ (vj @Qg (vj @vR (vj @ti3.eq_1 (vj @jc.eq_1 (vj @kI.eq_1 (vj @Zp.eq_1 (vj @WO.eq_1 (vj @vD.eq_1 (vj @yP.eq_1 (vj @xD.eq_1 @yS.eq_1))))))))))))))))
def qY:=vj @aI.eq_1 (vj @aB.eq_1 (vj @aSh.eq_1 (vj @q9.eq_1 (vj @qU.eq_1 (vj @qi.eq_1 (vj @yx.eq_1 (vj @bgH.eq_1 (vj @Qo (vj @dIntW (vj @loT.eq_1 (vj @Qbb.eq_1 (vj @lo1.eq_1 (vj @lo2.eq_1 (vj @lo3.eq_1 (vj @ld1.eq_1 (vj @ld2.eq_1 (vj @ld3.eq_1 (vj @le1.eq_1 (vj @p21.eq_1 (vj @p21.eq_2 (vj @p22.eq_1 (vj @p22.eq_2 (vj @p84.eq_1 (vj @p84.eq_2 (vj @p85.eq_1 (vj @p85.eq_2 (vj @p71.eq_1 (vj @p71.eq_2 (vj @s54.eq_1 (vj @s54.eq_2 (vj @QfQ.eq_1 (vj @QfQ.eq_2 (vj @QfQ.eq_3 (vj @Q5 (vj @qj.eq_1 (vj @zM.eq_1 (vj @ZJ (vj @rSh (vj @QL (vj @yI (vj @QK (@flInt))))))))))))))))))))))))))))))))))))))))))
end Go.Sym.B
