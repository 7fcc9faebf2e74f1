/- Walks and what they compute, joined: part 2. -/
import Derived.Test.YtfljkbcphmnjkaaGreatDoorZB3
import Derived.Shelf.Strings.OnBuilder
import Derived.Shelf.Strconv.Itoa3
import Derived.Test.YtfljkbcphmnjkaaGreatDoorProg
import Derived.KernelRfl
import Derived.Test.YtfljkbcphmnjkaaGreatDoorZ1
set_option linter.all false
namespace Go.Sym.B
open Go Go.Sym Go.Proofs Go.Sym.C
set_option maxRecDepth 100000 in
set_option maxHeartbeats 40000000 in
theorem QfJ (c:Chart) (hc:c.cabins.length≤maxLen):FnV Tryz.prog 24 [qa c] (.tup [aS (Wp c).1,aI (Wp c).2]):=by
 have env:Env (fun _=>True) Tryz.prog tyB (tab [(7,za true qp),(61,za true vE),(63,za true vF),(60,za true yt),(62,za true xD)]):=qO ⟨Zk,Qi3,Qjk,QjX,epair,trivial⟩
 refine Fn.of (A:=fun _=>True) (n0:=0) (D:=noD) (Fn0 Tryz.func24 rfl (fun vs w=>by kernel_rfl) (by kernel_rfl)) (by simp) (by simp [AV.ids,AV.idsL,qa,qb]) (fun i o h=>by cases h) (fun _ _ _ _=>trivial) qG ?_
 have ec:(⟨c.cabins,c.secs,c.sold⟩:Chart)=c:=rfl
 have hmx:(100000:Nat)≤maxLen:=by decide
 obtain ⟨e,he⟩:∃ e,zS c=e:=⟨_,rfl⟩
 by_cases h0:e=0
 ·rw [h0] at he
  have hv:=Qo he
  have hc3:=hv.car.cabs.2
  have hs8:=hv.many
  have hsec:=hv.car.secs
  have hjl:=Qhp c hc3 hs8
  have hE:Wp c=(Lib.join (WA c c.sold.length++[[99,97,114]]) [10]++[10],0):=by unfold Wp;rw [if_pos he]
  rw [hE]
  repeat' (first|(apply nx;with_reducible constructor)|refine uq (by decide) ?_|((first|refine vx env fun Q hQ=>?_|refine vz fun Q hQ=>?_);simp only [vkt,seval,ww,yZ,aS,jC,ZR,yo,kg,qo,eTk,qw,zb,cTk,qa,qb,qc,mTk,wr1,wr2,qp,vE,vF,yt,xD,List.map_cons,List.map_nil,List.length_map,ec,he,decide_true];(try simp only [ite_and]);(repeat' (first|with_reducible assumption|refine And.intro ?_ ?_|intro hp));all_goals (first|(refine hQ _ ?_;clear hQ Q)|(refine hQ _ (fun h=>?_) (fun h=>?_) <;> clear hQ Q <;> (try simp only [vki,reduceCtorEq] at h))|(refine vq ?_;kernel_rfl)|omega|assumption|with_reducible rfl|skip)))
  refine zt (fun s:{ s:Nat // s≤c.cabins.length }=>wr1 c s.1) (fun s=>c.cabins.length - s.1) ⟨0,Nat.zero_le _⟩ ?_ fun ⟨k,hk⟩=>?_
  ·simp only [wr1,show JY c 0=[] from rfl]
   (refine Le.ok (fun i=>if i=1 then none else some i) [] ?_;constructor;all_goals (try simp only [vle,vkt,seval,ww,yZ,aS,jC,ZR,yo,kg,qo,eTk,qw,zb,cTk,qa,qb,qc,mTk,wr1,wr2,qp,vE,vF,yt,xD,List.map_cons,List.map_nil,List.length_map]))
   all_goals first|rfl|(simp;done)
  simp only at hk ⊢
  by_cases hlt:k < c.cabins.length
  ·have d1:decide ((k:Int) < (c.cabins.length:Int))=true:=decide_eq_true (by omega)
   have e9:IntKind.wrap .i64 ((k:Int)+1)=((k+1:Nat):Int):=by rw [wrap64 (by omega) (by omega)];rfl
   have hS:=Qek c hlt
   have hl:=L9 c hk
   have hx:=qZ c.cabins k
   have hx':=Qj2 hlt
   have hb:=hv.car.beds _ (xV (d:=default) hlt)
   obtain ⟨K,hK⟩:∃ K,JY c k=K:=⟨_,rfl⟩
   rw [hK] at hS hl
   simp only [wr1,hK]
   generalize c.cabins.getD k default=x at hx hx' hb hS
   obtain ⟨b,d⟩:=x
   dsimp only at hb
   have hb1:0≤b:=by omega
   have hb2:b < 100:=by omega
   have hm:K.length+1≤maxLen:=by omega
   have hj:=La ⟨b,d⟩
   cases d
   ·have hc0:Qgg ⟨b,false⟩=Lib.join [[99,97,98,105,110],zV b,[115]] [32]:=rfl
    rw [hc0] at hj hS
    have hj:(Lib.join [[99,97,98,105,110],zV b,[115]] [32]).length≤140737488355328:=by omega
    have e4:K.map yo++[[.v (.string ⟨⟨Lib.join [[99,97,98,105,110],zV b,[115]] [32]⟩⟩)]]=(JY c (k+1)).map yo:=by rw [hS,List.map_append];rfl
    repeat' (first|(apply nx;with_reducible constructor)|refine uq (by decide) ?_|((first|refine vx env fun Q hQ=>?_|refine vz fun Q hQ=>?_);simp only [vkt,seval,ww,yZ,aS,jC,ZR,yo,kg,qo,eTk,qw,zb,cTk,qa,qb,qc,mTk,wr1,wr2,qp,vE,vF,yt,xD,List.map_cons,List.map_nil,List.length_map,d1,e9,hx,hx',hm,e4];(try simp only [ite_and]);(repeat' (first|with_reducible assumption|refine And.intro ?_ ?_|intro hp));all_goals (first|(refine hQ _ ?_;clear hQ Q)|(refine hQ _ (fun h=>?_) (fun h=>?_) <;> clear hQ Q <;> (try simp only [vki,reduceCtorEq] at h))|(refine vq ?_;kernel_rfl)|omega|assumption|with_reducible rfl|skip)))
    refine ⟨⟨k+1,hlt⟩,by show c.cabins.length - (k+1) < c.cabins.length - k;omega, ?_⟩
    (refine Le.ok (fun i=>if i=1 then some 5 else some i) [] ?_;constructor;all_goals (try simp only [vle,vkt,seval,ww,yZ,aS,jC,ZR,yo,kg,qo,eTk,qw,zb,cTk,qa,qb,qc,mTk,wr1,wr2,qp,vE,vF,yt,xD,List.map_cons,List.map_nil,List.length_map]))
    all_goals first|rfl|(simp;done)|(intro i hi;rw [if_neg (by omega)];done)
   ·have hc0:Qgg ⟨b,true⟩=Lib.join [[99,97,98,105,110],zV b,[100]] [32]:=rfl
    rw [hc0] at hj hS
    have hj:(Lib.join [[99,97,98,105,110],zV b,[100]] [32]).length≤140737488355328:=by omega
    have e4:K.map yo++[[.v (.string ⟨⟨Lib.join [[99,97,98,105,110],zV b,[100]] [32]⟩⟩)]]=(JY c (k+1)).map yo:=by rw [hS,List.map_append];rfl
    repeat' (first|(apply nx;with_reducible constructor)|refine uq (by decide) ?_|((first|refine vx env fun Q hQ=>?_|refine vz fun Q hQ=>?_);simp only [vkt,seval,ww,yZ,aS,jC,ZR,yo,kg,qo,eTk,qw,zb,cTk,qa,qb,qc,mTk,wr1,wr2,qp,vE,vF,yt,xD,List.map_cons,List.map_nil,List.length_map,d1,e9,hx,hx',hm,e4];(try simp only [ite_and]);(repeat' (first|with_reducible assumption|refine And.intro ?_ ?_|intro hp));all_goals (first|(refine hQ _ ?_;clear hQ Q)|(refine hQ _ (fun h=>?_) (fun h=>?_) <;> clear hQ Q <;> (try simp only [vki,reduceCtorEq] at h))|(refine vq ?_;kernel_rfl)|omega|assumption|with_reducible rfl|skip)))
    refine ⟨⟨k+1,hlt⟩,by show c.cabins.length - (k+1) < c.cabins.length - k;omega, ?_⟩
    (refine Le.ok (fun i=>if i=1 then some 5 else some i) [] ?_;constructor;all_goals (try simp only [vle,vkt,seval,ww,yZ,aS,jC,ZR,yo,kg,qo,eTk,qw,zb,cTk,qa,qb,qc,mTk,wr1,wr2,qp,vE,vF,yt,xD,List.map_cons,List.map_nil,List.length_map]))
    all_goals first|rfl|(simp;done)|(intro i hi;rw [if_neg (by omega)];done)
  ·have d1:decide ((k:Int) < (c.cabins.length:Int))=false:=decide_eq_false (by omega)
   obtain rfl:k=c.cabins.length:=by omega
   have hl:=L9 c (Nat.le_refl _)
   have hB0:WA c 0=JY c c.cabins.length++[Qdk c.secs]:=by simp [WA]
   have hj:=KU c.secs
   have hc0:Qdk c.secs=Lib.join [[119,97,121],zV c.secs] [32]:=rfl
   rw [hc0] at hj hB0
   have hj:(Lib.join [[119,97,121],zV c.secs] [32]).length≤140737488355328:=by omega
   have hs1:0≤c.secs:=by omega
   have hs2:c.secs < 100:=by omega
   obtain ⟨K,hK⟩:∃ K,JY c c.cabins.length=K:=⟨_,rfl⟩
   rw [hK] at hB0 hl
   simp only [wr1,hK]
   have hm:K.length+1≤maxLen:=by omega
   have e4:K.map yo++[[.v (.string ⟨⟨Lib.join [[119,97,121],zV c.secs] [32]⟩⟩)]]=(WA c 0).map yo:=by rw [hB0,List.map_append];rfl
   repeat' (first|(apply nx;with_reducible constructor)|refine uq (by decide) ?_|((first|refine vx env fun Q hQ=>?_|refine vz fun Q hQ=>?_);simp only [vkt,seval,ww,yZ,aS,jC,ZR,yo,kg,qo,eTk,qw,zb,cTk,qa,qb,qc,mTk,wr1,wr2,qp,vE,vF,yt,xD,List.map_cons,List.map_nil,List.length_map,d1,hm,e4];(try simp only [ite_and]);(repeat' (first|with_reducible assumption|refine And.intro ?_ ?_|intro hp));all_goals (first|(refine hQ _ ?_;clear hQ Q)|(refine hQ _ (fun h=>?_) (fun h=>?_) <;> clear hQ Q <;> (try simp only [vki,reduceCtorEq] at h))|(refine vq ?_;kernel_rfl)|omega|assumption|with_reducible rfl|skip)))
   refine zt (fun s:{ s:Nat // s≤c.sold.length }=>wr2 c s.1) (fun s=>c.sold.length - s.1) ⟨0,Nat.zero_le _⟩ ?_ fun ⟨q,hq⟩=>?_
   ·simp only [wr2]
    (refine Le.ok (fun i=>if i=1 then some 4 else some i) [] ?_;constructor;all_goals (try simp only [vle,vkt,seval,ww,yZ,aS,jC,ZR,yo,kg,qo,eTk,qw,zb,cTk,qa,qb,qc,mTk,wr1,wr2,qp,vE,vF,yt,xD,List.map_cons,List.map_nil,List.length_map]))
    all_goals first|rfl|(simp;done)
   simp only at hq ⊢
   clear hB0 e4 d1 hm hj hl hK
   by_cases hlt:q < c.sold.length
   ·have d1:decide ((q:Int) < (c.sold.length:Int))=true:=decide_eq_true (by omega)
    have e9:IntKind.wrap .i64 ((q:Int)+1)=((q+1:Nat):Int):=by rw [wrap64 (by omega) (by omega)];rfl
    have hS:=Qew c hlt
    have hl:=VO c hq
    have hx:=gTk c.sold q
    have hx':=hTk hlt
    have hmem:=xV (d:=default) hlt
    have hb:=hv.tk _ hmem
    obtain ⟨K,hK⟩:∃ K,WA c q=K:=⟨_,rfl⟩
    rw [hK] at hS hl
    simp only [wr2,hK]
    generalize c.sold.getD q default=x at hx hx' hb hS hmem
    have hbed:x.bed < 100:=by
     have h1:=hb.bed
     have h2:=hv.car.beds _ (xV (d:=default) hb.cab.2)
     omega
    have hcab:x.cab < 100:=by
     have h1:=hb.cab
     omega
    have g1:=hb.party
    have g2:=hb.sex
    have g3:=hb.cab.1
    have g4:=hb.bed.1
    have g5:=hb.frm
    have g6:=hb.way
    have g7:=hb.to
    obtain ⟨p,sx,cb,bd,fr,to,dg⟩:=x
    dsimp only at hbed hcab g1 g2 g3 g4 g5 g6 g7
    have p1:0≤p:=by omega
    have p2:p < 100:=by omega
    have p3:fr < 100:=by omega
    have p4:0≤to:=by omega
    have p5:to < 100:=by omega
    clear hb hmem
    have hm:K.length+1≤maxLen:=by omega
    have hj:=Qcn ⟨p,sx,cb,bd,fr,to,dg⟩
    have hp1:zV cb++[46]++zV bd=zV cb++[46]++zV bd:=rfl
    rcases (show sx=1∨sx=2 by omega) with rfl|rfl
    ·cases dg
     ·have hc0:tkS ⟨p,1,cb,bd,fr,to,false⟩=Lib.join [[115,111,108,100],zV p,[119],zV cb++[46]++zV bd,zV fr++[62]++zV to] [32]:=rfl
      rw [hc0] at hj hS
      have hj:(Lib.join [[115,111,108,100],zV p,[119],zV cb++[46]++zV bd,zV fr++[62]++zV to] [32]).length≤140737488355328:=by omega
      have e4:K.map yo++[[.v (.string ⟨⟨Lib.join [[115,111,108,100],zV p,[119],zV cb++[46]++zV bd,zV fr++[62]++zV to] [32]⟩⟩)]]=(WA c (q+1)).map yo:=by rw [hS,List.map_append];rfl
      repeat' (first|(apply nx;with_reducible constructor)|refine uq (by decide) ?_|((first|refine vx env fun Q hQ=>?_|refine vz fun Q hQ=>?_);simp only [vkt,seval,ww,yZ,aS,jC,ZR,yo,kg,qo,eTk,qw,zb,cTk,qa,qb,qc,mTk,wr1,wr2,qp,vE,vF,yt,xD,List.map_cons,List.map_nil,List.length_map,d1,e9,hx,hx',hm,e4,List.set_cons_succ,List.set_cons_zero,List.getD_cons_succ,List.getD_cons_zero,List.drop_succ_cons,List.drop_nil,List.drop_zero];(try simp only [ite_and]);(repeat' (first|with_reducible assumption|refine And.intro ?_ ?_|intro hp));all_goals (first|(refine hQ _ ?_;clear hQ Q)|(refine hQ _ (fun h=>?_) (fun h=>?_) <;> clear hQ Q <;> (try simp only [vki,reduceCtorEq] at h))|(refine vq ?_;kernel_rfl)|omega|assumption|with_reducible rfl|skip)))
      refine ⟨⟨q+1,hlt⟩,by show c.sold.length - (q+1) < c.sold.length - q;omega, ?_⟩
      (refine Le.ok (fun i=>if i=1 then some 5 else some i) [] ?_;constructor;all_goals (try simp only [vle,vkt,seval,ww,yZ,aS,jC,ZR,yo,kg,qo,eTk,qw,zb,cTk,qa,qb,qc,mTk,wr1,wr2,qp,vE,vF,yt,xD,List.map_cons,List.map_nil,List.length_map]))
      all_goals first|rfl|(simp;done)|(intro i hi;rw [if_neg (by omega)];done)
     ·have hc0:tkS ⟨p,1,cb,bd,fr,to,true⟩=Lib.join [[115,111,108,100],zV p,[119],zV cb++[46]++zV bd,zV fr++[62]++zV to,[43]] [32]:=rfl
      rw [hc0] at hj hS
      have hj:(Lib.join [[115,111,108,100],zV p,[119],zV cb++[46]++zV bd,zV fr++[62]++zV to,[43]] [32]).length≤140737488355328:=by omega
      have e4:K.map yo++[[.v (.string ⟨⟨Lib.join [[115,111,108,100],zV p,[119],zV cb++[46]++zV bd,zV fr++[62]++zV to,[43]] [32]⟩⟩)]]=(WA c (q+1)).map yo:=by rw [hS,List.map_append];rfl
      repeat' (first|(apply nx;with_reducible constructor)|refine uq (by decide) ?_|((first|refine vx env fun Q hQ=>?_|refine vz fun Q hQ=>?_);simp only [vkt,seval,ww,yZ,aS,jC,ZR,yo,kg,qo,eTk,qw,zb,cTk,qa,qb,qc,mTk,wr1,wr2,qp,vE,vF,yt,xD,List.map_cons,List.map_nil,List.length_map,d1,e9,hx,hx',hm,e4,List.set_cons_succ,List.set_cons_zero,List.getD_cons_succ,List.getD_cons_zero,List.drop_succ_cons,List.drop_nil,List.drop_zero];(try simp only [ite_and]);(repeat' (first|with_reducible assumption|refine And.intro ?_ ?_|intro hp));all_goals (first|(refine hQ _ ?_;clear hQ Q)|(refine hQ _ (fun h=>?_) (fun h=>?_) <;> clear hQ Q <;> (try simp only [vki,reduceCtorEq] at h))|(refine vq ?_;kernel_rfl)|omega|assumption|with_reducible rfl|skip)))
      refine ⟨⟨q+1,hlt⟩,by show c.sold.length - (q+1) < c.sold.length - q;omega, ?_⟩
      (refine Le.ok (fun i=>if i=1 then some 7 else some i) [] ?_;constructor;all_goals (try simp only [vle,vkt,seval,ww,yZ,aS,jC,ZR,yo,kg,qo,eTk,qw,zb,cTk,qa,qb,qc,mTk,wr1,wr2,qp,vE,vF,yt,xD,List.map_cons,List.map_nil,List.length_map]))
      all_goals first|rfl|(simp;done)|(intro i hi;rw [if_neg (by omega)];done)
    ·cases dg
     ·have hc0:tkS ⟨p,2,cb,bd,fr,to,false⟩=Lib.join [[115,111,108,100],zV p,[109],zV cb++[46]++zV bd,zV fr++[62]++zV to] [32]:=rfl
      rw [hc0] at hj hS
      have hj:(Lib.join [[115,111,108,100],zV p,[109],zV cb++[46]++zV bd,zV fr++[62]++zV to] [32]).length≤140737488355328:=by omega
      have e4:K.map yo++[[.v (.string ⟨⟨Lib.join [[115,111,108,100],zV p,[109],zV cb++[46]++zV bd,zV fr++[62]++zV to] [32]⟩⟩)]]=(WA c (q+1)).map yo:=by rw [hS,List.map_append];rfl
      repeat' (first|(apply nx;with_reducible constructor)|refine uq (by decide) ?_|((first|refine vx env fun Q hQ=>?_|refine vz fun Q hQ=>?_);simp only [vkt,seval,ww,yZ,aS,jC,ZR,yo,kg,qo,eTk,qw,zb,cTk,qa,qb,qc,mTk,wr1,wr2,qp,vE,vF,yt,xD,List.map_cons,List.map_nil,List.length_map,d1,e9,hx,hx',hm,e4,List.set_cons_succ,List.set_cons_zero,List.getD_cons_succ,List.getD_cons_zero,List.drop_succ_cons,List.drop_nil,List.drop_zero];(try simp only [ite_and]);(repeat' (first|with_reducible assumption|refine And.intro ?_ ?_|intro hp));all_goals (first|(refine hQ _ ?_;clear hQ Q)|(refine hQ _ (fun h=>?_) (fun h=>?_) <;> clear hQ Q <;> (try simp only [vki,reduceCtorEq] at h))|(refine vq ?_;kernel_rfl)|omega|assumption|with_reducible rfl|skip)))
      refine ⟨⟨q+1,hlt⟩,by show c.sold.length - (q+1) < c.sold.length - q;omega, ?_⟩
      (refine Le.ok (fun i=>if i=1 then some 5 else some i) [] ?_;constructor;all_goals (try simp only [vle,vkt,seval,ww,yZ,aS,jC,ZR,yo,kg,qo,eTk,qw,zb,cTk,qa,qb,qc,mTk,wr1,wr2,qp,vE,vF,yt,xD,List.map_cons,List.map_nil,List.length_map]))
      all_goals first|rfl|(simp;done)|(intro i hi;rw [if_neg (by omega)];done)
     ·have hc0:tkS ⟨p,2,cb,bd,fr,to,true⟩=Lib.join [[115,111,108,100],zV p,[109],zV cb++[46]++zV bd,zV fr++[62]++zV to,[43]] [32]:=rfl
      rw [hc0] at hj hS
      have hj:(Lib.join [[115,111,108,100],zV p,[109],zV cb++[46]++zV bd,zV fr++[62]++zV to,[43]] [32]).length≤140737488355328:=by omega
      have e4:K.map yo++[[.v (.string ⟨⟨Lib.join [[115,111,108,100],zV p,[109],zV cb++[46]++zV bd,zV fr++[62]++zV to,[43]] [32]⟩⟩)]]=(WA c (q+1)).map yo:=by rw [hS,List.map_append];rfl
      repeat' (first|(apply nx;with_reducible constructor)|refine uq (by decide) ?_|((first|refine vx env fun Q hQ=>?_|refine vz fun Q hQ=>?_);simp only [vkt,seval,ww,yZ,aS,jC,ZR,yo,kg,qo,eTk,qw,zb,cTk,qa,qb,qc,mTk,wr1,wr2,qp,vE,vF,yt,xD,List.map_cons,List.map_nil,List.length_map,d1,e9,hx,hx',hm,e4,List.set_cons_succ,List.set_cons_zero,List.getD_cons_succ,List.getD_cons_zero,List.drop_succ_cons,List.drop_nil,List.drop_zero];(try simp only [ite_and]);(repeat' (first|with_reducible assumption|refine And.intro ?_ ?_|intro hp));all_goals (first|(refine hQ _ ?_;clear hQ Q)|(refine hQ _ (fun h=>?_) (fun h=>?_) <;> clear hQ Q <;> (try simp only [vki,reduceCtorEq] at h))|(refine vq ?_;kernel_rfl)|omega|assumption|with_reducible rfl|skip)))
      refine ⟨⟨q+1,hlt⟩,by show c.sold.length - (q+1) < c.sold.length - q;omega, ?_⟩
      (refine Le.ok (fun i=>if i=1 then some 7 else some i) [] ?_;constructor;all_goals (try simp only [vle,vkt,seval,ww,yZ,aS,jC,ZR,yo,kg,qo,eTk,qw,zb,cTk,qa,qb,qc,mTk,wr1,wr2,qp,vE,vF,yt,xD,List.map_cons,List.map_nil,List.length_map]))
      all_goals first|rfl|(simp;done)|(intro i hi;rw [if_neg (by omega)];done)
   ·have d1:decide ((q:Int) < (c.sold.length:Int))=false:=decide_eq_false (by omega)
    obtain rfl:q=c.sold.length:=by omega
    have hl:=VO c (Nat.le_refl _)
    obtain ⟨K,hK⟩:∃ K,WA c c.sold.length=K:=⟨_,rfl⟩
    rw [hK] at hl hjl
    simp only [wr2,hK]
    have hm:K.length+1≤maxLen:=by omega
    have e4:K.map yo++[[.v (.string ⟨⟨[99,97,114]⟩⟩)]]=(K++[[99,97,114]]).map yo:=by rw [List.map_append];rfl
    have e5:(K++[[99,97,114]]).length≤100000:=by rw [List.length_append,hl];simp;omega
    have e6:(Lib.join (K++[[99,97,114]]) [10]).length≤140737488355328:=by omega
    have e7:(Lib.join (K++[[99,97,114]]) [10]).length+1≤9223372036854775807:=by omega
    repeat' (first|(apply nx;with_reducible constructor)|refine uq (by decide) ?_|((first|refine vx env fun Q hQ=>?_|refine vz fun Q hQ=>?_);simp only [vkt,seval,ww,yZ,aS,jC,ZR,yo,kg,qo,eTk,qw,zb,cTk,qa,qb,qc,mTk,wr1,wr2,qp,vE,vF,yt,xD,List.map_cons,List.map_nil,List.length_map,d1,hm,e4,mStr,e7];(try simp only [ite_and]);(repeat' (first|with_reducible assumption|refine And.intro ?_ ?_|intro hp));all_goals (first|(refine hQ _ ?_;clear hQ Q)|(refine hQ _ (fun h=>?_) (fun h=>?_) <;> clear hQ Q <;> (try simp only [vki,reduceCtorEq] at h))|(refine vq ?_;kernel_rfl)|omega|assumption|with_reducible rfl|skip)))
    (simp only [vrt,Tryz.results24,vkt,seval,ww,yZ,aS,jC,ZR,yo,kg,qo,eTk,qw,zb,cTk,qa,qb,qc,mTk,wr1,wr2,qp,vE,vF,yt,xD,List.map_cons,List.map_nil,List.length_map];refine Fin.val rfl ?_;(try simp only [AV.le,AV.leL]))
    all_goals first|rfl|(simp;done)
 ·have hE:Wp c=([],e):=by unfold Wp;rw [if_neg (by rw [he];exact h0),he]
  rw [hE]
  have d0:decide (e=0)=false:=decide_eq_false h0
  repeat' (first|(apply nx;with_reducible constructor)|refine uq (by decide) ?_|((first|refine vx env fun Q hQ=>?_|refine vz fun Q hQ=>?_);simp only [vkt,seval,ww,yZ,aS,jC,ZR,yo,kg,qo,eTk,qw,zb,cTk,qa,qb,qc,mTk,wr1,wr2,qp,vE,vF,yt,xD,List.map_cons,List.map_nil,List.length_map,ec,he,d0];(try simp only [ite_and]);(repeat' (first|with_reducible assumption|refine And.intro ?_ ?_|intro hp));all_goals (first|(refine hQ _ ?_;clear hQ Q)|(refine hQ _ (fun h=>?_) (fun h=>?_) <;> clear hQ Q <;> (try simp only [vki,reduceCtorEq] at h))|(refine vq ?_;kernel_rfl)|omega|assumption|with_reducible rfl|skip)))
  (simp only [vrt,Tryz.results24,vkt,seval,ww,yZ,aS,jC,ZR,yo,kg,qo,eTk,qw,zb,cTk,qa,qb,qc,mTk,wr1,wr2,qp,vE,vF,yt,xD,List.map_cons,List.map_nil,List.length_map];refine Fin.val rfl ?_;(try simp only [AV.le,AV.leL]))
  all_goals first|rfl|(simp;done)
def wH:List AV→Prop × AV
 |[.agg [.sl c0,.v (.int .i64 c1),.sl c2]]=>(c0=(c0.map qA).map qo∧c2=(c2.map dTk).map eTk∧((⟨(c0.map qA),c1,(c2.map dTk)⟩:Chart)).cabins.length≤maxLen,.tup [aS (Wp ((⟨(c0.map qA),c1,(c2.map dTk)⟩:Chart))).1,aI (Wp ((⟨(c0.map qA),c1,(c2.map dTk)⟩:Chart))).2])
 |_=>(False,.junk)
theorem Qj3 {A:Frm→Prop}:qC A Tryz.prog 24 (za true wH):=zx fun vs hv h=>by
 clear hv
 unfold wH at h ⊢
 split at h
 ·rename_i c0 c1 c2;obtain ⟨q0,q1,k0⟩:=h
  refine ⟨by first|trivial|(simp [AV.plain,AV.plainL,aI,aB,qD,qd,qw,qh,aTk,cTk,aS,jC];done)|(repeat' split) <;> simp [AV.plain,AV.plainL,aI,aB,qD,qd,qw,qh,aTk,cTk,aS,jC],fun _=>(by simp [AV.flat,AV.flatL,aI,aB,aS]), ?_⟩
  have:=QfJ ((⟨(c0.map qA),c1,(c2.map dTk)⟩:Chart)) k0
  simp only [zb,qa,aI,qw,qb,← q0,← q1] at this
  first|exact this|(simp only [zb,qa,aI,qw,qb,← q0,← q1];exact this)
 ·exact h.elim
def kC:Chart:=zw []
def kF:Chart:=zw ZF
def kB:Chart:=⟨(zw []).cabins,4,[⟨1,1,0,0,0,2,false⟩,⟨2,2,0,1,1,4,false⟩]⟩
def kT:Chart:=⟨(zw []).cabins,4,[⟨1,1,0,0,0,2,false⟩,⟨2,2,0,0,1,3,false⟩]⟩
def kN:Chart:=⟨(zw []).cabins,4,[⟨1,1,0,0,0,2,false⟩,⟨2,2,2,1,1,4,false⟩]⟩
def kL:Chart:=⟨(zw []).cabins,6,(zw []).sold⟩
def kO:Chart:=⟨(zw []).cabins,4,(zw []).sold.take 1⟩
theorem QfT:zS kC=0∧zS kB=9∧zS kT=4∧zS kN=3∧zS kL=1:=by decide +kernel
theorem Qih:Yv kC=([1,2,1,1],0):=by decide +kernel
theorem Qh2:Yr kC=([⟨0,0,0,0,2,4,false⟩,⟨0,0,0,1,0,4,false⟩,⟨0,0,1,0,0,1,false⟩,⟨0,0,1,1,0,4,false⟩,⟨0,0,2,0,0,4,false⟩],0):=by decide +kernel
theorem QiE:yV kC ⟨9,0,4,[1],false⟩=([⟨0,1⟩],0):=by decide +kernel
theorem Qkw:wX kC ⟨9,2,4,[2,1],false⟩=0∧xZ kC ⟨9,2,4,[2,1],false⟩=[[⟨0,0⟩,⟨0,1⟩],[⟨0,1⟩,⟨0,0⟩],[⟨1,1⟩,⟨0,0⟩],[⟨1,1⟩,⟨0,1⟩]]:=by decide +kernel
theorem Qj4:wX kC ⟨9,0,4,[1],true⟩=0∧xZ kC ⟨9,0,4,[1],true⟩=[[⟨2,0⟩]]:=by decide +kernel
theorem QjH:wX kC ⟨1,0,4,[1],false⟩=4∧xZ kC ⟨1,0,4,[1],false⟩=[]:=by decide +kernel
theorem Qdo:Q9 kC ⟨9,0,4,[2],false⟩=([⟨1,1⟩,⟨1,1⟩,⟨1,1⟩,⟨1,1⟩],0,0):=by decide +kernel
theorem Qig:QZ kC 1 0 4=(2,0)∧QZ kC 2 0 4=(2,0)∧QZ kC 2 2 4=(4,0)∧QZ kF 2 0 4=(0,0):=by decide +kernel
theorem QiT:Zq kF [⟨8,0,4,[1],false⟩,⟨9,0,2,[1],false⟩]=([0],0):=by decide +kernel
theorem Qfh:QS kF ⟨9,0,4,[2,1],false⟩=([],11):=by decide +kernel
theorem Qir:VU kC ⟨9,0,4,[1],false⟩=(zw [⟨9,1,0,1,0,4,false⟩],0):=by decide +kernel
theorem QeI:kS kC 1=(⟨(zw []).cabins,4,(zw []).sold.drop 1⟩,0):=by decide +kernel
theorem QgE:Wp kO=([99,97,98,105,110,32,50,32,100,10,99,97,98,105,110,32,50,32,115,10,99,97,98,105,110,32,49,32,115,10,119,97,121,32,52,10,115,111,108,100,32,49,32,119,32,48,46,48,32,48,62,50,10,99,97,114,10],0):=by decide +kernel
theorem QdI {l m:List Int} (h0:l.length=m.length) (h:∀ j,j < l.length→l.getD j 0=m.getD j 0):l=m:=WM h0 h
theorem QiM {a b c d e f:Int} {g:Bool} {a' b' c' d' e' f':Int} {g':Bool}:decide ((⟨a,b,c,d,e,f,g⟩:Tk)=⟨a',b',c',d',e',f',g'⟩)=(decide (a=a') && (decide (b=b') && (decide (c=c') && (decide (d=d') && (decide (e=e') && (decide (f=f') && (g == g'))))))):=by
 rw [Bool.eq_iff_iff];simp
theorem QhD {a:Int} {g:Bool} {a':Int} {g':Bool}:decide ((⟨a,g⟩:Cabin)=⟨a',g'⟩)=(decide (a=a') && (g == g')):=by
 rw [Bool.eq_iff_iff];simp
def Vz (l m:List Int) (k:Nat):St:={ t:=asg [(0,qD l),(1,qD m),(4,aB false),(5,aI k)],h:=qj [],n:=0 }
def vY:=vj @ty3 (vj @WE (vj @ti3.eq_1 @Zr.eq_1))
def Qy:=vj @aI.eq_1 (vj @aB.eq_1 (vj @qD.eq_1 (vj @wz.eq_1 (@Ue))))
theorem QjY (l m:List Int) (hl:l.length≤maxLen) (hm:m.length≤maxLen):FnV Tryz.prog 10 [qD l,qD m] (aB (decide (l=m))):=by
 have env:Env (fun _=>True) Tryz.prog tyB (tab []):=qO trivial
 refine Fn.of (A:=fun _=>True) (n0:=0) (D:=noD) (Fn0 Tryz.func10 rfl (fun vs w=>by kernel_rfl) (by kernel_rfl)) (by simp) (by simp [AV.ids,qD]) (fun i o h=>by cases h) (fun _ _ _ _=>trivial) qG ?_
 have hmx:maxLen=9223372036854775807:=by decide
 by_cases h0:l.length=m.length
 ·have d0:decide ((l.length:Int)=(m.length:Int))=true:=decide_eq_true (by omega)
  repeat' (first|(apply nx;with_reducible constructor)|refine uq (by decide) ?_|((first|refine vx env fun Q hQ=>?_|refine vz fun Q hQ=>?_);simp only [vkt,seval,vY,Qy,Vz,Bool.true_and,Bool.false_and,d0];(try simp only [ite_and]);(repeat' (first|with_reducible assumption|refine And.intro ?_ ?_|intro hp));all_goals (first|(refine hQ _ ?_;clear hQ Q)|(refine hQ _ (fun h=>?_) (fun h=>?_) <;> clear hQ Q <;> (try simp only [vki,reduceCtorEq] at h))|(refine vq ?_;kernel_rfl)|omega|assumption|with_reducible rfl|skip)))
  refine zt (fun k:{ k:Nat // k≤l.length∧∀ j,j < k→l.getD j 0=m.getD j 0 }=>Vz l m k.1) (fun k=>l.length - k.1) ⟨0,Nat.zero_le _,fun j h=>absurd h (Nat.not_lt_zero _)⟩ ?_ fun ⟨k,hk,hno⟩=>?_
  ·(refine Le.ok some [] ?_;constructor;all_goals (try simp only [vle,vkt,seval,vY,Qy,Vz,Bool.true_and,Bool.false_and]))
   all_goals first|rfl|(simp;done)
  simp only at hk hno ⊢
  simp only [Vz]
  by_cases hlt:k < l.length
  ·have d1:decide ((k:Int) < (l.length:Int))=true:=decide_eq_true (by omega)
   have hlm:k < m.length:=by omega
   have k0:((k:Int)).toNat=k:=rfl
   have e9:IntKind.wrap .i64 ((k:Int)+1)=((k+1:Nat):Int):=by rw [wrap64 (by omega) (by omega)];rfl
   obtain ⟨x,hx⟩:∃ x,l.getD k 0=x:=⟨_,rfl⟩
   obtain ⟨y,hy⟩:∃ x,m.getD k 0=x:=⟨_,rfl⟩
   have hxy:(decide (x=y))=decide (x=y):=by rfl
   have hne:¬ x=y→decide (l=m)=false:=fun h=>decide_eq_false fun e=>h (by rw [← hx,← hy,e])
   cases q:decide (x=y) with
   |false =>
    rw [hne (of_decide_eq_false q)]
    repeat' (first|(apply nx;with_reducible constructor)|refine uq (by decide) ?_|((first|refine vx env fun Q hQ=>?_|refine vz fun Q hQ=>?_);simp only [vkt,seval,vY,Qy,Vz,Bool.true_and,Bool.false_and,d1,k0,hlt,hlm,hx,hy,hxy,q];(try simp only [ite_and]);(repeat' (first|with_reducible assumption|refine And.intro ?_ ?_|intro hp));all_goals (first|(refine hQ _ ?_;clear hQ Q)|(refine hQ _ (fun h=>?_) (fun h=>?_) <;> clear hQ Q <;> (try simp only [vki,reduceCtorEq] at h))|(refine vq ?_;kernel_rfl)|omega|assumption|with_reducible rfl|skip)))
    (simp only [vrt,Tryz.results10,vkt,seval,vY,Qy,Vz,Bool.true_and,Bool.false_and];refine Fin.val rfl ?_;(try simp only [AV.le,AV.leL]))
    all_goals first|rfl|(simp;done)
   |true =>
    repeat' (first|(apply nx;with_reducible constructor)|refine uq (by decide) ?_|((first|refine vx env fun Q hQ=>?_|refine vz fun Q hQ=>?_);simp only [vkt,seval,vY,Qy,Vz,Bool.true_and,Bool.false_and,d1,k0,hlt,hlm,hx,hy,hxy,q,e9];(try simp only [ite_and]);(repeat' (first|with_reducible assumption|refine And.intro ?_ ?_|intro hp));all_goals (first|(refine hQ _ ?_;clear hQ Q)|(refine hQ _ (fun h=>?_) (fun h=>?_) <;> clear hQ Q <;> (try simp only [vki,reduceCtorEq] at h))|(refine vq ?_;kernel_rfl)|omega|assumption|with_reducible rfl|skip)))
    refine ⟨⟨k+1,hlt,fun j hj=>?_⟩,by show l.length - (k+1) < l.length - k;omega, ?_⟩
    ·rcases Nat.lt_or_eq_of_le (Nat.le_of_lt_succ hj) with h1|h1
     ·exact hno j h1
     ·rw [h1,hx,hy];exact of_decide_eq_true q
    ·(refine Le.ok some [] ?_;constructor;all_goals (try simp only [vle,vkt,seval,vY,Qy,Vz,Bool.true_and,Bool.false_and]))
     all_goals first|rfl|(simp;done)
  ·have d1:decide ((k:Int) < (l.length:Int))=false:=decide_eq_false (by omega)
   obtain rfl:k=l.length:=by omega
   rw [decide_eq_true (QdI h0 hno)]
   repeat' (first|(apply nx;with_reducible constructor)|refine uq (by decide) ?_|((first|refine vx env fun Q hQ=>?_|refine vz fun Q hQ=>?_);simp only [vkt,seval,vY,Qy,Vz,Bool.true_and,Bool.false_and,d1];(try simp only [ite_and]);(repeat' (first|with_reducible assumption|refine And.intro ?_ ?_|intro hp));all_goals (first|(refine hQ _ ?_;clear hQ Q)|(refine hQ _ (fun h=>?_) (fun h=>?_) <;> clear hQ Q <;> (try simp only [vki,reduceCtorEq] at h))|(refine vq ?_;kernel_rfl)|omega|assumption|with_reducible rfl|skip)))
   (simp only [vrt,Tryz.results10,vkt,seval,vY,Qy,Vz,Bool.true_and,Bool.false_and];refine Fin.val rfl ?_;(try simp only [AV.le,AV.leL]))
   all_goals first|rfl|(simp;done)
 ·have d0:decide ((l.length:Int)=(m.length:Int))=false:=decide_eq_false (by omega)
  rw [decide_eq_false (fun e=>h0 (by rw [e]))]
  repeat' (first|(apply nx;with_reducible constructor)|refine uq (by decide) ?_|((first|refine vx env fun Q hQ=>?_|refine vz fun Q hQ=>?_);simp only [vkt,seval,vY,Qy,Vz,Bool.true_and,Bool.false_and,d0];(try simp only [ite_and]);(repeat' (first|with_reducible assumption|refine And.intro ?_ ?_|intro hp));all_goals (first|(refine hQ _ ?_;clear hQ Q)|(refine hQ _ (fun h=>?_) (fun h=>?_) <;> clear hQ Q <;> (try simp only [vki,reduceCtorEq] at h))|(refine vq ?_;kernel_rfl)|omega|assumption|with_reducible rfl|skip)))
  (simp only [vrt,Tryz.results10,vkt,seval,vY,Qy,Vz,Bool.true_and,Bool.false_and];refine Fin.val rfl ?_;(try simp only [AV.le,AV.leL]))
  all_goals first|rfl|(simp;done)
def ve:List AV→Prop × AV
 |[.sl l,.sl m]=>(l=(l.map zQ).map wz∧m=(m.map zQ).map wz∧(l.map zQ).length≤maxLen∧(m.map zQ).length≤maxLen,aB (decide ((l.map zQ)=(m.map zQ))))
 |_=>(False,.junk)
theorem eeqI {A:Frm→Prop}:qC A Tryz.prog 10 (za true ve):=zx fun vs hv h=>by
 clear hv
 unfold ve at h ⊢
 split at h
 ·rename_i l m;obtain ⟨q0,q1,k0,k1⟩:=h
  refine ⟨by first|trivial|(simp [AV.plain,AV.plainL,aI,aB,qD,qd,qw,qh,aTk,cTk];done)|(repeat' split) <;> simp [AV.plain,AV.plainL,aI,aB,qD,qd,qw,qh,aTk,cTk],fun _=>(by simp [AV.flat,AV.flatL,aI,aB]), ?_⟩
  have:=QjY (l.map zQ) (m.map zQ) k0 k1
  simp only [qD,← q0,← q1] at this
  first|exact this|(simp only [qD,← q0,← q1];exact this)
 ·exact h.elim
def Vx (l m:List Tk) (k:Nat):St:={ t:=asg [(0,qw l),(1,qw m),(4,aB false),(5,aI k)],h:=qj [],n:=0 }
def xe:=vj @ty3 (vj @QV (vj @xB (vj @ti3.eq_1 (vj @Qh.eq_1 @vJ.eq_1))))
def Qx:=vj @aI.eq_1 (@aB.eq_1)
theorem QjP (l m:List Tk) (hl:l.length≤maxLen) (hm:m.length≤maxLen):FnV Tryz.prog 11 [qw l,qw m] (aB (decide (l=m))):=by
 have env:Env (fun _=>True) Tryz.prog tyB (tab []):=qO trivial
 refine Fn.of (A:=fun _=>True) (n0:=0) (D:=noD) (Fn0 Tryz.func11 rfl (fun vs w=>by kernel_rfl) (by kernel_rfl)) (by simp) (by simp [AV.ids,qw]) (fun i o h=>by cases h) (fun _ _ _ _=>trivial) qG ?_
 have hmx:maxLen=9223372036854775807:=by decide
 by_cases h0:l.length=m.length
 ·have d0:decide ((l.length:Int)=(m.length:Int))=true:=decide_eq_true (by omega)
  repeat' (first|(apply nx;with_reducible constructor)|refine uq (by decide) ?_|((first|refine vx env fun Q hQ=>?_|refine vz fun Q hQ=>?_);simp only [vkt,seval,xe,Qx,qw,eTk,gTk,Vx,Bool.true_and,Bool.false_and,d0];(try simp only [ite_and]);(repeat' (first|with_reducible assumption|refine And.intro ?_ ?_|intro hp));all_goals (first|(refine hQ _ ?_;clear hQ Q)|(refine hQ _ (fun h=>?_) (fun h=>?_) <;> clear hQ Q <;> (try simp only [vki,reduceCtorEq] at h))|(refine vq ?_;kernel_rfl)|omega|assumption|with_reducible rfl|skip)))
  refine zt (fun k:{ k:Nat // k≤l.length∧∀ j,j < k→l.getD j default=m.getD j default }=>Vx l m k.1) (fun k=>l.length - k.1) ⟨0,Nat.zero_le _,fun j h=>absurd h (Nat.not_lt_zero _)⟩ ?_ fun ⟨k,hk,hno⟩=>?_
  ·(refine Le.ok some [] ?_;constructor;all_goals (try simp only [vle,vkt,seval,xe,Qx,qw,eTk,gTk,Vx,Bool.true_and,Bool.false_and]))
   all_goals first|rfl|(simp;done)
  simp only at hk hno ⊢
  simp only [Vx]
  by_cases hlt:k < l.length
  ·have d1:decide ((k:Int) < (l.length:Int))=true:=decide_eq_true (by omega)
   have hlm:k < m.length:=by omega
   have k0:((k:Int)).toNat=k:=rfl
   have e9:IntKind.wrap .i64 ((k:Int)+1)=((k+1:Nat):Int):=by rw [wrap64 (by omega) (by omega)];rfl
   obtain ⟨x,hx⟩:∃ x,l.getD k default=x:=⟨_,rfl⟩
   obtain ⟨y,hy⟩:∃ x,m.getD k default=x:=⟨_,rfl⟩
   have hxy:(decide (x.party=y.party) && (decide (x.sex=y.sex) && (decide (x.cab=y.cab) && (decide (x.bed=y.bed) && (decide (x.frm=y.frm) && (decide (x.to=y.to) && ((x.dog == y.dog))))))))=decide (x=y):=by cases x;cases y;rw [QiM]
   have hne:¬ x=y→decide (l=m)=false:=fun h=>decide_eq_false fun e=>h (by rw [← hx,← hy,e])
   cases q:decide (x=y) with
   |false =>
    rw [hne (of_decide_eq_false q)]
    repeat' (first|(apply nx;with_reducible constructor)|refine uq (by decide) ?_|((first|refine vx env fun Q hQ=>?_|refine vz fun Q hQ=>?_);simp only [vkt,seval,xe,Qx,qw,eTk,gTk,Vx,Bool.true_and,Bool.false_and,d1,k0,hlt,hlm,hx,hy,hxy,q];(try simp only [ite_and]);(repeat' (first|with_reducible assumption|refine And.intro ?_ ?_|intro hp));all_goals (first|(refine hQ _ ?_;clear hQ Q)|(refine hQ _ (fun h=>?_) (fun h=>?_) <;> clear hQ Q <;> (try simp only [vki,reduceCtorEq] at h))|(refine vq ?_;kernel_rfl)|omega|assumption|with_reducible rfl|skip)))
    (simp only [vrt,Tryz.results11,vkt,seval,xe,Qx,qw,eTk,gTk,Vx,Bool.true_and,Bool.false_and];refine Fin.val rfl ?_;(try simp only [AV.le,AV.leL]))
    all_goals first|rfl|(simp;done)
   |true =>
    repeat' (first|(apply nx;with_reducible constructor)|refine uq (by decide) ?_|((first|refine vx env fun Q hQ=>?_|refine vz fun Q hQ=>?_);simp only [vkt,seval,xe,Qx,qw,eTk,gTk,Vx,Bool.true_and,Bool.false_and,d1,k0,hlt,hlm,hx,hy,hxy,q,e9];(try simp only [ite_and]);(repeat' (first|with_reducible assumption|refine And.intro ?_ ?_|intro hp));all_goals (first|(refine hQ _ ?_;clear hQ Q)|(refine hQ _ (fun h=>?_) (fun h=>?_) <;> clear hQ Q <;> (try simp only [vki,reduceCtorEq] at h))|(refine vq ?_;kernel_rfl)|omega|assumption|with_reducible rfl|skip)))
    refine ⟨⟨k+1,hlt,fun j hj=>?_⟩,by show l.length - (k+1) < l.length - k;omega, ?_⟩
    ·rcases Nat.lt_or_eq_of_le (Nat.le_of_lt_succ hj) with h1|h1
     ·exact hno j h1
     ·rw [h1,hx,hy];exact of_decide_eq_true q
    ·(refine Le.ok some [] ?_;constructor;all_goals (try simp only [vle,vkt,seval,xe,Qx,qw,eTk,gTk,Vx,Bool.true_and,Bool.false_and]))
     all_goals first|rfl|(simp;done)
  ·have d1:decide ((k:Int) < (l.length:Int))=false:=decide_eq_false (by omega)
   obtain rfl:k=l.length:=by omega
   rw [decide_eq_true (WM h0 hno)]
   repeat' (first|(apply nx;with_reducible constructor)|refine uq (by decide) ?_|((first|refine vx env fun Q hQ=>?_|refine vz fun Q hQ=>?_);simp only [vkt,seval,xe,Qx,qw,eTk,gTk,Vx,Bool.true_and,Bool.false_and,d1];(try simp only [ite_and]);(repeat' (first|with_reducible assumption|refine And.intro ?_ ?_|intro hp));all_goals (first|(refine hQ _ ?_;clear hQ Q)|(refine hQ _ (fun h=>?_) (fun h=>?_) <;> clear hQ Q <;> (try simp only [vki,reduceCtorEq] at h))|(refine vq ?_;kernel_rfl)|omega|assumption|with_reducible rfl|skip)))
   (simp only [vrt,Tryz.results11,vkt,seval,xe,Qx,qw,eTk,gTk,Vx,Bool.true_and,Bool.false_and];refine Fin.val rfl ?_;(try simp only [AV.le,AV.leL]))
   all_goals first|rfl|(simp;done)
 ·have d0:decide ((l.length:Int)=(m.length:Int))=false:=decide_eq_false (by omega)
  rw [decide_eq_false (fun e=>h0 (by rw [e]))]
  repeat' (first|(apply nx;with_reducible constructor)|refine uq (by decide) ?_|((first|refine vx env fun Q hQ=>?_|refine vz fun Q hQ=>?_);simp only [vkt,seval,xe,Qx,qw,eTk,gTk,Vx,Bool.true_and,Bool.false_and,d0];(try simp only [ite_and]);(repeat' (first|with_reducible assumption|refine And.intro ?_ ?_|intro hp));all_goals (first|(refine hQ _ ?_;clear hQ Q)|(refine hQ _ (fun h=>?_) (fun h=>?_) <;> clear hQ Q <;> (try simp only [vki,reduceCtorEq] at h))|(refine vq ?_;kernel_rfl)|omega|assumption|with_reducible rfl|skip)))
  (simp only [vrt,Tryz.results11,vkt,seval,xe,Qx,qw,eTk,gTk,Vx,Bool.true_and,Bool.false_and];refine Fin.val rfl ?_;(try simp only [AV.le,AV.leL]))
  all_goals first|rfl|(simp;done)
def jP:List AV→Prop × AV
 |[.sl l,.sl m]=>(l=(l.map dTk).map eTk∧m=(m.map dTk).map eTk∧(l.map dTk).length≤maxLen∧(m.map dTk).length≤maxLen,aB (decide ((l.map dTk)=(m.map dTk))))
 |_=>(False,.junk)
theorem eeqK {A:Frm→Prop}:qC A Tryz.prog 11 (za true jP):=zx fun vs hv h=>by
 clear hv
 unfold jP at h ⊢
 split at h
 ·rename_i l m;obtain ⟨q0,q1,k0,k1⟩:=h
  refine ⟨by first|trivial|(simp [AV.plain,AV.plainL,aI,aB,qD,qd,qw,qh,aTk,cTk];done)|(repeat' split) <;> simp [AV.plain,AV.plainL,aI,aB,qD,qd,qw,qh,aTk,cTk],fun _=>(by simp [AV.flat,AV.flatL,aI,aB]), ?_⟩
  have:=QjP (l.map dTk) (m.map dTk) k0 k1
  simp only [qw,← q0,← q1] at this
  first|exact this|(simp only [qw,← q0,← q1];exact this)
 ·exact h.elim
def ecS (c d:Chart) (k:Nat):St:={ t:=asg [(2,.ptr 0 0),(3,.ptr 1 0),(4,aB false),(5,aI k)],h:=qj [(0,.cells (qb c)),(1,.cells (qb d))],n:=2 }
def yH:=vj @ty3 (vj @VD (vj @QV (vj @xg (vj @xB (vj @VC (vj @ti3.eq_1 (vj @JR.eq_1 (vj @Qh.eq_1 (vj @y9.eq_1 (vj @vJ.eq_1 @J4.eq_1))))))))))
def xY:=vj @aI.eq_1 (@aB.eq_1)
theorem Qka (c d:Chart) (h1:c.cabins.length≤maxLen) (h2:c.sold.length≤maxLen) (h4:d.sold.length≤maxLen):FnV Tryz.prog 25 [qa c,qa d] (aB (decide (c=d))):=by
 have env:Env (fun _=>True) Tryz.prog tyB (tab [(11,za true jP)]):=qO ⟨eeqK,trivial⟩
 refine Fn.of (A:=fun _=>True) (n0:=0) (D:=noD) (Fn0 Tryz.func25 rfl (fun vs w=>by kernel_rfl) (by kernel_rfl)) (by simp) (by simp [AV.ids,AV.idsL,qa,qb]) (fun i o h=>by cases h) (fun _ _ _ _=>trivial) qG ?_
 have hmx:maxLen=9223372036854775807:=by decide
 have hE:decide (c=d)=(decide (c.cabins=d.cabins) && (decide (c.secs=d.secs) && decide (c.sold=d.sold))):=by
  cases c;cases d;rw [Bool.eq_iff_iff];simp
 rw [hE]
 by_cases h0:c.cabins.length=d.cabins.length
 ·have d0:decide ((c.cabins.length:Int)=(d.cabins.length:Int))=true:=decide_eq_true (by omega)
  cases q0:decide (c.secs=d.secs) with
  |false =>
   rw [Bool.false_and,Bool.and_false]
   repeat' (first|(apply nx;with_reducible constructor)|refine uq (by decide) ?_|((first|refine vx env fun Q hQ=>?_|refine vz fun Q hQ=>?_);simp only [vkt,seval,yH,xY,qw,qa,qb,qo,qZ,mTk,ecS,jP,Bool.true_and,Bool.false_and,List.length_map,d0,q0];(try simp only [ite_and]);(repeat' (first|with_reducible assumption|refine And.intro ?_ ?_|intro hp));all_goals (first|(refine hQ _ ?_;clear hQ Q)|(refine hQ _ (fun h=>?_) (fun h=>?_) <;> clear hQ Q <;> (try simp only [vki,reduceCtorEq] at h))|(refine vq ?_;kernel_rfl)|omega|assumption|with_reducible rfl|skip)))
   (simp only [vrt,Tryz.results25,vkt,seval,yH,xY,qw,qa,qb,qo,qZ,mTk,ecS,jP,Bool.true_and,Bool.false_and,List.length_map];refine Fin.val rfl ?_;(try simp only [AV.le,AV.leL]))
   all_goals first|rfl|(simp;done)
  |true =>
   rw [Bool.true_and]
   repeat' (first|(apply nx;with_reducible constructor)|refine uq (by decide) ?_|((first|refine vx env fun Q hQ=>?_|refine vz fun Q hQ=>?_);simp only [vkt,seval,yH,xY,qw,qa,qb,qo,qZ,mTk,ecS,jP,Bool.true_and,Bool.false_and,List.length_map,d0,q0];(try simp only [ite_and]);(repeat' (first|with_reducible assumption|refine And.intro ?_ ?_|intro hp));all_goals (first|(refine hQ _ ?_;clear hQ Q)|(refine hQ _ (fun h=>?_) (fun h=>?_) <;> clear hQ Q <;> (try simp only [vki,reduceCtorEq] at h))|(refine vq ?_;kernel_rfl)|omega|assumption|with_reducible rfl|skip)))
   refine zt (fun k:{ k:Nat // k≤c.cabins.length∧∀ j,j < k→c.cabins.getD j default=d.cabins.getD j default }=>ecS c d k.1) (fun k=>c.cabins.length - k.1) ⟨0,Nat.zero_le _,fun j h=>absurd h (Nat.not_lt_zero _)⟩ ?_ fun ⟨k,hk,hno⟩=>?_
   ·simp only [ecS]
    (refine Le.ok some [] ?_;constructor;all_goals (try simp only [vle,vkt,seval,yH,xY,qw,qa,qb,qo,qZ,mTk,ecS,jP,Bool.true_and,Bool.false_and,List.length_map]))
    all_goals first|rfl|(simp;done)
   simp only at hk hno ⊢
   simp only [ecS]
   by_cases hlt:k < c.cabins.length
   ·have d1:decide ((k:Int) < (c.cabins.length:Int))=true:=decide_eq_true (by omega)
    have hlm:k < d.cabins.length:=by omega
    have k0:((k:Int)).toNat=k:=rfl
    have e9:IntKind.wrap .i64 ((k:Int)+1)=((k+1:Nat):Int):=by rw [wrap64 (by omega) (by omega)];rfl
    obtain ⟨x,hx⟩:∃ x,c.cabins.getD k default=x:=⟨_,rfl⟩
    obtain ⟨y,hy⟩:∃ x,d.cabins.getD k default=x:=⟨_,rfl⟩
    have hxy:(decide (x.beds=y.beds) && (x.door == y.door))=decide (x=y):=by cases x;cases y;rw [QhD]
    have hne:¬ x=y→decide (c.cabins=d.cabins)=false:=fun h=>decide_eq_false fun e=>h (by rw [← hx,← hy,e])
    cases q:decide (x=y) with
    |false =>
     rw [hne (of_decide_eq_false q),Bool.false_and]
     repeat' (first|(apply nx;with_reducible constructor)|refine uq (by decide) ?_|((first|refine vx env fun Q hQ=>?_|refine vz fun Q hQ=>?_);simp only [vkt,seval,yH,xY,qw,qa,qb,qo,qZ,mTk,ecS,jP,Bool.true_and,Bool.false_and,List.length_map,d1,k0,hlt,hlm,hx,hy,hxy,q];(try simp only [ite_and]);(repeat' (first|with_reducible assumption|refine And.intro ?_ ?_|intro hp));all_goals (first|(refine hQ _ ?_;clear hQ Q)|(refine hQ _ (fun h=>?_) (fun h=>?_) <;> clear hQ Q <;> (try simp only [vki,reduceCtorEq] at h))|(refine vq ?_;kernel_rfl)|omega|assumption|with_reducible rfl|skip)))
     (simp only [vrt,Tryz.results25,vkt,seval,yH,xY,qw,qa,qb,qo,qZ,mTk,ecS,jP,Bool.true_and,Bool.false_and,List.length_map];refine Fin.val rfl ?_;(try simp only [AV.le,AV.leL]))
     all_goals first|rfl|(simp;done)
    |true =>
     repeat' (first|(apply nx;with_reducible constructor)|refine uq (by decide) ?_|((first|refine vx env fun Q hQ=>?_|refine vz fun Q hQ=>?_);simp only [vkt,seval,yH,xY,qw,qa,qb,qo,qZ,mTk,ecS,jP,Bool.true_and,Bool.false_and,List.length_map,d1,k0,hlt,hlm,hx,hy,hxy,q,e9];(try simp only [ite_and]);(repeat' (first|with_reducible assumption|refine And.intro ?_ ?_|intro hp));all_goals (first|(refine hQ _ ?_;clear hQ Q)|(refine hQ _ (fun h=>?_) (fun h=>?_) <;> clear hQ Q <;> (try simp only [vki,reduceCtorEq] at h))|(refine vq ?_;kernel_rfl)|omega|assumption|with_reducible rfl|skip)))
     refine ⟨⟨k+1,hlt,fun j hj=>?_⟩,by show c.cabins.length - (k+1) < c.cabins.length - k;omega, ?_⟩
     ·rcases Nat.lt_or_eq_of_le (Nat.le_of_lt_succ hj) with h1|h1
      ·exact hno j h1
      ·rw [h1,hx,hy];exact of_decide_eq_true q
     ·simp only [ecS]
      (refine Le.ok some [] ?_;constructor;all_goals (try simp only [vle,vkt,seval,yH,xY,qw,qa,qb,qo,qZ,mTk,ecS,jP,Bool.true_and,Bool.false_and,List.length_map]))
      all_goals first|rfl|(simp;done)
   ·have d1:decide ((k:Int) < (c.cabins.length:Int))=false:=decide_eq_false (by omega)
    obtain rfl:k=c.cabins.length:=by omega
    rw [decide_eq_true (WM h0 hno),Bool.true_and]
    repeat' (first|(apply nx;with_reducible constructor)|refine uq (by decide) ?_|((first|refine vx env fun Q hQ=>?_|refine vz fun Q hQ=>?_);simp only [vkt,seval,yH,xY,qw,qa,qb,qo,qZ,mTk,ecS,jP,Bool.true_and,Bool.false_and,List.length_map,d1,h2,h4];(try simp only [ite_and]);(repeat' (first|with_reducible assumption|refine And.intro ?_ ?_|intro hp));all_goals (first|(refine hQ _ ?_;clear hQ Q)|(refine hQ _ (fun h=>?_) (fun h=>?_) <;> clear hQ Q <;> (try simp only [vki,reduceCtorEq] at h))|(refine vq ?_;kernel_rfl)|omega|assumption|with_reducible rfl|skip)))
    (simp only [vrt,Tryz.results25,vkt,seval,yH,xY,qw,qa,qb,qo,qZ,mTk,ecS,jP,Bool.true_and,Bool.false_and,List.length_map];refine Fin.val rfl ?_;(try simp only [AV.le,AV.leL]))
    all_goals first|rfl|(simp;done)
 ·have d0:decide ((c.cabins.length:Int)=(d.cabins.length:Int))=false:=decide_eq_false (by omega)
  rw [decide_eq_false (fun e:c.cabins=d.cabins=>h0 (by rw [e])),Bool.false_and]
  repeat' (first|(apply nx;with_reducible constructor)|refine uq (by decide) ?_|((first|refine vx env fun Q hQ=>?_|refine vz fun Q hQ=>?_);simp only [vkt,seval,yH,xY,qw,qa,qb,qo,qZ,mTk,ecS,jP,Bool.true_and,Bool.false_and,List.length_map,d0];(try simp only [ite_and]);(repeat' (first|with_reducible assumption|refine And.intro ?_ ?_|intro hp));all_goals (first|(refine hQ _ ?_;clear hQ Q)|(refine hQ _ (fun h=>?_) (fun h=>?_) <;> clear hQ Q <;> (try simp only [vki,reduceCtorEq] at h))|(refine vq ?_;kernel_rfl)|omega|assumption|with_reducible rfl|skip)))
  (simp only [vrt,Tryz.results25,vkt,seval,yH,xY,qw,qa,qb,qo,qZ,mTk,ecS,jP,Bool.true_and,Bool.false_and,List.length_map];refine Fin.val rfl ?_;(try simp only [AV.le,AV.leL]))
  all_goals first|rfl|(simp;done)
def y7:List AV→Prop × AV
 |[.agg [.sl c0,.v (.int .i64 c1),.sl c2],.agg [.sl d0,.v (.int .i64 d1),.sl d2]]=>(c0=(c0.map qA).map qo∧c2=(c2.map dTk).map eTk∧d0=(d0.map qA).map qo∧d2=(d2.map dTk).map eTk∧((⟨(c0.map qA),c1,(c2.map dTk)⟩:Chart)).cabins.length≤maxLen∧((⟨(c0.map qA),c1,(c2.map dTk)⟩:Chart)).sold.length≤maxLen∧((⟨(d0.map qA),d1,(d2.map dTk)⟩:Chart)).sold.length≤maxLen,aB (decide (((⟨(c0.map qA),c1,(c2.map dTk)⟩:Chart))=((⟨(d0.map qA),d1,(d2.map dTk)⟩:Chart)))))
 |_=>(False,.junk)
theorem eeqC {A:Frm→Prop}:qC A Tryz.prog 25 (za true y7):=zx fun vs hv h=>by
 clear hv
 unfold y7 at h ⊢
 split at h
 ·rename_i c0 c1 c2 d0 d1 d2;obtain ⟨q0,q1,q2,q3,k0,k1,k2⟩:=h
  refine ⟨by first|trivial|(simp [AV.plain,AV.plainL,aI,aB,qD,qd,qw,qh,aTk,cTk];done)|(repeat' split) <;> simp [AV.plain,AV.plainL,aI,aB,qD,qd,qw,qh,aTk,cTk],fun _=>(by simp [AV.flat,AV.flatL,aI,aB]), ?_⟩
  have:=Qka ((⟨(c0.map qA),c1,(c2.map dTk)⟩:Chart)) ((⟨(d0.map qA),d1,(d2.map dTk)⟩:Chart)) k0 k1 k2
  simp only [zb,qa,aI,qw,qb,← q0,← q1,← q2,← q3] at this
  first|exact this|(simp only [zb,qa,aI,qw,qb,← q0,← q1,← q2,← q3];exact this)
 ·exact h.elim
def wG:List AV→Prop × AV
 |[.agg [.sl c0,.v (.int .i64 c1),.sl c2]]=>(c0=(c0.map qA).map qo∧c2=(c2.map dTk).map eTk∧((⟨(c0.map qA),c1,(c2.map dTk)⟩:Chart)).cabins.length≤maxLen,.tup [qw (Yr ((⟨(c0.map qA),c1,(c2.map dTk)⟩:Chart))).1,aI (Yr ((⟨(c0.map qA),c1,(c2.map dTk)⟩:Chart))).2])
 |_=>(False,.junk)
theorem Qj9 {A:Frm→Prop}:qC A Tryz.prog 9 (za false wG):=zx fun vs hv h=>by
 clear hv
 unfold wG at h ⊢
 split at h
 ·rename_i c0 c1 c2;obtain ⟨q0,q1,k0⟩:=h
  refine ⟨by first|trivial|(simp [AV.plain,AV.plainL,aI,aB,qD,qd,qw,qh,aTk,cTk];done)|(repeat' split) <;> simp [AV.plain,AV.plainL,aI,aB,qD,qd,qw,qh,aTk,cTk],fun h=>absurd h (by decide), ?_⟩
  have:=QiN ((⟨(c0.map qA),c1,(c2.map dTk)⟩:Chart)) k0
  simp only [zb,qa,aI,qw,qb,← q0,← q1] at this
  first|exact this|(simp only [zb,qa,aI,qw,qb,← q0,← q1];exact this)
 ·exact h.elim
def wD:List AV→Prop × AV
 |[.agg [.sl c0,.v (.int .i64 c1),.sl c2]]=>(c0=(c0.map qA).map qo∧c2=(c2.map dTk).map eTk∧((⟨(c0.map qA),c1,(c2.map dTk)⟩:Chart)).cabins.length≤maxLen,.tup [qD (Yv ((⟨(c0.map qA),c1,(c2.map dTk)⟩:Chart))).1,aI (Yv ((⟨(c0.map qA),c1,(c2.map dTk)⟩:Chart))).2])
 |_=>(False,.junk)
theorem Qkb {A:Frm→Prop}:qC A Tryz.prog 8 (za false wD):=zx fun vs hv h=>by
 clear hv
 unfold wD at h ⊢
 split at h
 ·rename_i c0 c1 c2;obtain ⟨q0,q1,k0⟩:=h
  refine ⟨by first|trivial|(simp [AV.plain,AV.plainL,aI,aB,qD,qd,qw,qh,aTk,cTk];done)|(repeat' split) <;> simp [AV.plain,AV.plainL,aI,aB,qD,qd,qw,qh,aTk,cTk],fun h=>absurd h (by decide), ?_⟩
  have:=Qho ((⟨(c0.map qA),c1,(c2.map dTk)⟩:Chart)) k0
  simp only [zb,qa,aI,qw,qb,← q0,← q1] at this
  first|exact this|(simp only [zb,qa,aI,qw,qb,← q0,← q1];exact this)
 ·exact h.elim
def wF:List AV→Prop × AV
 |[.agg [.sl x0,.v (.int .i64 x1),.sl x2],.v (.int .i64 a),.v (.int .i64 b),.v (.int .i64 d)]=>(x0=(x0.map qA).map qo∧x2=(x2.map dTk).map eTk∧((⟨(x0.map qA),x1,(x2.map dTk)⟩:Chart)).cabins.length≤maxLen,.tup [aI (QZ ((⟨(x0.map qA),x1,(x2.map dTk)⟩:Chart)) a b d).1,aI (QZ ((⟨(x0.map qA),x1,(x2.map dTk)⟩:Chart)) a b d).2])
 |_=>(False,.junk)
theorem Qj8 {A:Frm→Prop}:qC A Tryz.prog 18 (za false wF):=zx fun vs hv h=>by
 clear hv
 unfold wF at h ⊢
 split at h
 ·rename_i x0 x1 x2 a b d;obtain ⟨q0,q1,k0⟩:=h
  refine ⟨by first|trivial|(simp [AV.plain,AV.plainL,aI,aB,qD,qd,qw,qh,aTk,cTk];done)|(repeat' split) <;> simp [AV.plain,AV.plainL,aI,aB,qD,qd,qw,qh,aTk,cTk],fun h=>absurd h (by decide), ?_⟩
  have:=Qhu ((⟨(x0.map qA),x1,(x2.map dTk)⟩:Chart)) a b d k0
  simp only [zb,qa,aI,qw,qb,← q0,← q1] at this
  first|exact this|(simp only [zb,qa,aI,qw,qb,← q0,← q1];exact this)
 ·exact h.elim
def wE:List AV→Prop × AV
 |[.agg [.sl x0,.v (.int .i64 x1),.sl x2],.agg [.v (.int .i64 y0),.v (.int .i64 y1),.v (.int .i64 y2),.sl y3,.v (.bool y4)]]=>(x0=(x0.map qA).map qo∧x2=(x2.map dTk).map eTk∧y3=(y3.map zQ).map wz∧((⟨(x0.map qA),x1,(x2.map dTk)⟩:Chart)).cabins.length≤maxLen∧((⟨y0,y1,y2,(y3.map zQ),y4⟩:Ask)).sexes.length≤maxLen,.tup [qa (VU ((⟨(x0.map qA),x1,(x2.map dTk)⟩:Chart)) ((⟨y0,y1,y2,(y3.map zQ),y4⟩:Ask))).1,aI (VU ((⟨(x0.map qA),x1,(x2.map dTk)⟩:Chart)) ((⟨y0,y1,y2,(y3.map zQ),y4⟩:Ask))).2])
 |_=>(False,.junk)
theorem QjS {A:Frm→Prop}:qC A Tryz.prog 22 (za false wE):=zx fun vs hv h=>by
 clear hv
 unfold wE at h ⊢
 split at h
 ·rename_i x0 x1 x2 y0 y1 y2 y3 y4;obtain ⟨q0,q1,q2,k0,k1⟩:=h
  refine ⟨by first|trivial|(simp [AV.plain,AV.plainL,aI,aB,qD,qd,qw,qh,aTk,cTk];done)|(repeat' split) <;> simp [AV.plain,AV.plainL,aI,aB,qD,qd,qw,qh,aTk,cTk],fun h=>absurd h (by decide), ?_⟩
  have:=QhV ((⟨(x0.map qA),x1,(x2.map dTk)⟩:Chart)) ((⟨y0,y1,y2,(y3.map zQ),y4⟩:Ask)) k0 k1
  simp only [qx,aB,zb,qa,aI,qD,qw,ql,qb,← q0,← q1,← q2] at this
  first|exact this|(simp only [qx,aB,zb,qa,aI,qD,qw,ql,qb,← q0,← q1,← q2];exact this)
 ·exact h.elim
def vk:St:={ t:=asg [(1,.ptr 0 0),(2,.ptr 1 0),(3,.ptr 2 0),(4,.ptr 3 0),(5,.ptr 4 0)],h:=qj [(0,.cells (qb kB)),(1,.cells (qb kT)),(2,.cells (qb kN)),(3,.cells (qb kL)),(4,.cells [.sl ((zw []).cabins.map qo),.v (.int .i64 4),.rsl 5 7 0 1]),(5,.row 31 7 ((zw []).sold.map eTk))],n:=6 }
def vR:St:={ t:=asg [(1,.ptr 0 0),(2,.ptr 1 0),(3,.ptr 2 0),(4,.ptr 3 0),(5,.ptr 4 0)],h:=qj [(0,.cells (qb kB)),(1,.cells (qb kT)),(2,.cells (qb kN)),(3,.cells (qb kL)),(4,.cells (qb kO))],n:=5 }
def vw (S:St):List AV→Option Pk
 |[.agg [.sl cs,.v (.int .i64 s),.sl ts],.agg [.v (.int .i64 p),.v (.int .i64 f),.v (.int .i64 t),.row r,.v (.bool d)]]=>match S.h r with
  |some (.row _ _ xs)=>some { pre:=cs=(cs.map qA).map qo∧ts=(ts.map dTk).map eTk∧xs=(xs.map zQ).map wz∧cs.length≤maxLen∧xs.length≤maxLen,bo:=[r],ar:=[.agg [.sl cs,.v (.int .i64 s),.sl ts],.agg [.v (.int .i64 p),.v (.int .i64 f),.v (.int .i64 t),.sl xs,.v (.bool d)]],v:=.tup [.row 0,aI (wX ⟨cs.map qA,s,ts.map dTk⟩ ⟨p,f,t,xs.map zQ,d⟩)],L1:=[some (.row 43 1 ((xZ ⟨cs.map qA,s,ts.map dTk⟩ ⟨p,f,t,xs.map zQ,d⟩).map qB))] }
  |_=>none
 |[.agg [.sl cs,.v (.int .i64 s),.sl ts],.agg [.v (.int .i64 p),.v (.int .i64 f),.v (.int .i64 t),.sl xs,.v (.bool d)]]=>some { pre:=cs=(cs.map qA).map qo∧ts=(ts.map dTk).map eTk∧xs=(xs.map zQ).map wz∧cs.length≤maxLen∧xs.length≤maxLen,ar:=[.agg [.sl cs,.v (.int .i64 s),.sl ts],.agg [.v (.int .i64 p),.v (.int .i64 f),.v (.int .i64 t),.sl xs,.v (.bool d)]],v:=.tup [.row 0,aI (wX ⟨cs.map qA,s,ts.map dTk⟩ ⟨p,f,t,xs.map zQ,d⟩)],L1:=[some (.row 43 1 ((xZ ⟨cs.map qA,s,ts.map dTk⟩ ⟨p,f,t,xs.map zQ,d⟩).map qB))] }
 |_=>none
theorem ePlK {A:Frm→Prop}:qC A Tryz.prog 15 (fnE vw):=wK fun S bs q h hp=>by
 unfold vw at h
 split at h
 ·rename_i cs s ts p f t r d
  split at h
  ·rename_i xs _
   cases h
   obtain ⟨h1,h2,h3,h4,h5⟩:=hp
   have:=Vn ⟨cs.map qA,s,ts.map dTk⟩ ⟨p,f,t,xs.map zQ,d⟩ (by simpa using h4) (by simpa using h5)
   simp only [qa,qb,qx,ql,← h1,← h2,← h3] at this
   exact this
  ·cases h
 ·rename_i cs s ts p f t xs d
  cases h
  obtain ⟨h1,h2,h3,h4,h5⟩:=hp
  have:=Vn ⟨cs.map qA,s,ts.map dTk⟩ ⟨p,f,t,xs.map zQ,d⟩ (by simpa using h4) (by simpa using h5)
  simp only [qa,qb,qx,ql,← h1,← h2,← h3] at this
  exact this
 ·cases h
def zB:=vj @ty3 (vj @ty9 (vj @VD (vj @QV (vj @xg (vj @QU (vj @xB (vj @Zu (vj @WE (vj @YM (vj @Q0 (vj @Qfb (vj @Qdv (vj @VC (vj @ti3.eq_1 (vj @ti9.eq_1 (vj @JR.eq_1 (vj @Qh.eq_1 (vj @y9.eq_1 (vj @Qi.eq_1 (vj @vJ.eq_1 (vj @QP.eq_1 (vj @Zr.eq_1 (vj @JN.eq_1 (vj @Ql.eq_1 (vj @QaG.eq_1 (vj @UT.eq_1 @J4.eq_1))))))))))))))))))))))))))
def wQ:=vj @aI.eq_1 (vj @aB.eq_1 (vj @qD.eq_1 (vj @wz.eq_1 (@QJ))))
set_option maxRecDepth 100000 in
set_option maxHeartbeats 40000000 in
theorem known_fn:FnV Tryz.prog 3 [] (aB true):=by
 have env:Env (fun _=>True) Tryz.prog tyB (tab [(4,fnE vg),(5,za false wC)]):=qO ⟨eChR,QcO,trivial⟩
 refine Fn.of (A:=fun _=>True) (n0:=0) (D:=noD) (Fn0 Tryz.func3 rfl (fun vs w=>by kernel_rfl) (by kernel_rfl)) (by simp) (by simp) (fun i o h=>by cases h) (fun _ _ _ _=>trivial) qG ?_
 repeat' (first|(apply nx;with_reducible constructor)|refine uq (by decide) ?_)
 (refine vx env fun Q hQ=>?_;simp only [vkt,seval,zB,wQ,aS,qh,qd,qY,qw,aTk,cTk,eTk,qo,qy,qB,eTr,qa,qb,qx,ql,qc,mTk,zg,mTr,zz,wW,zU,dTk,dI,dB,dL,jZ,zi,vR,vk,vg,vw,wC,wL,qp,zq,wD,wG,wF,jA,wE,zM,wH,zo,qW,zm,zl,zH,wO,seqB,ve,jP,y7,List.length_map,List.map_cons,List.map_nil,List.length_cons,List.length_nil,List.set_cons_succ,List.set_cons_zero,List.getD_cons_succ,List.getD_cons_zero];(try simp only [ite_and]);(repeat' (first|with_reducible assumption|refine And.intro ?_ ?_|intro hp));all_goals (first|(refine hQ _ ?_;clear hQ Q)|(refine vq ?_;kernel_rfl)|omega|assumption|with_reducible rfl|skip))
 repeat' (first|(apply nx;with_reducible constructor)|refine uq (by decide) ?_)
 (refine vx env fun Q hQ=>?_;simp only [vkt,seval,zB,wQ,aS,qh,qd,qY,qw,aTk,cTk,eTk,qo,qy,qB,eTr,qa,qb,qx,ql,qc,mTk,zg,mTr,zz,wW,zU,dTk,dI,dB,dL,jZ,zi,vR,vk,vg,vw,wC,wL,qp,zq,wD,wG,wF,jA,wE,zM,wH,zo,qW,zm,zl,zH,wO,seqB,ve,jP,y7,List.length_map,List.map_cons,List.map_nil,List.length_cons,List.length_nil,List.set_cons_succ,List.set_cons_zero,List.getD_cons_succ,List.getD_cons_zero,zw];(try simp only [ite_and]);(repeat' (first|with_reducible assumption|refine And.intro ?_ ?_|intro hp));all_goals (first|(refine hQ _ ?_;clear hQ Q)|(refine vq ?_;kernel_rfl)|omega|assumption|with_reducible rfl|skip))
 repeat' (first|(apply nx;with_reducible constructor)|refine uq (by decide) ?_)
 (refine vx env fun Q hQ=>?_;simp only [vkt,seval,zB,wQ,aS,qh,qd,qY,qw,aTk,cTk,eTk,qo,qy,qB,eTr,qa,qb,qx,ql,qc,mTk,zg,mTr,zz,wW,zU,dTk,dI,dB,dL,jZ,zi,vR,vk,vg,vw,wC,wL,qp,zq,wD,wG,wF,jA,wE,zM,wH,zo,qW,zm,zl,zH,wO,seqB,ve,jP,y7,List.length_map,List.map_cons,List.map_nil,List.length_cons,List.length_nil,List.set_cons_succ,List.set_cons_zero,List.getD_cons_succ,List.getD_cons_zero,zw];(try simp only [ite_and]);(repeat' (first|with_reducible assumption|refine And.intro ?_ ?_|intro hp));all_goals (first|(refine hQ _ ?_;clear hQ Q)|(refine vq ?_;kernel_rfl)|omega|assumption|with_reducible rfl|skip))
 repeat' (first|(apply nx;with_reducible constructor)|refine uq (by decide) ?_)
 (refine vx env fun Q hQ=>?_;simp only [vkt,seval,zB,wQ,aS,qh,qd,qY,qw,aTk,cTk,eTk,qo,qy,qB,eTr,qa,qb,qx,ql,qc,mTk,zg,mTr,zz,wW,zU,dTk,dI,dB,dL,jZ,zi,vR,vk,vg,vw,wC,wL,qp,zq,wD,wG,wF,jA,wE,zM,wH,zo,qW,zm,zl,zH,wO,seqB,ve,jP,y7,List.length_map,List.map_cons,List.map_nil,List.length_cons,List.length_nil,List.set_cons_succ,List.set_cons_zero,List.getD_cons_succ,List.getD_cons_zero,zw];(try simp only [ite_and]);(repeat' (first|with_reducible assumption|refine And.intro ?_ ?_|intro hp));all_goals (first|(refine hQ _ ?_;clear hQ Q)|(refine vq ?_;kernel_rfl)|omega|assumption|with_reducible rfl|skip))
 repeat' (first|(apply nx;with_reducible constructor)|refine uq (by decide) ?_)
 refine (vM (?_:Le _ vk) ?_:Sym _ _ _ _ _)
 ·simp only [vk,kB,kT,kN,kL,kO,zw]
  (refine Le.ok (fun j=>if j=0 then some 5 else if j=1 then some 6 else if j=2 then some 7 else if j=3 then some 8 else if j=4 then some 9 else if j=5 then some 4 else none) [0,1,2,3] ?_;constructor;all_goals (try simp only [vle,vkt,seval,zB,wQ,aS,qh,qd,qY,qw,aTk,cTk,eTk,qo,qy,qB,eTr,qa,qb,qx,ql,qc,mTk,zg,mTr,zz,wW,zU,dTk,dI,dB,dL,jZ,zi,vR,vk,vg,vw,wC,wL,qp,zq,wD,wG,wF,jA,wE,zM,wH,zo,qW,zm,zl,zH,wO,seqB,ve,jP,y7,List.length_map,List.map_cons,List.map_nil,List.length_cons,List.length_nil,List.set_cons_succ,List.set_cons_zero,List.getD_cons_succ,List.getD_cons_zero]))
  all_goals first|rfl|(simp;done)
 refine (vM (Qgx (S:=vk) (c0:=4) (p:=2) (id:=5) (k:=7) (n:=1) (xs:=(zw []).sold.map eTk) rfl rfl rfl (by decide)) ?_:Sym _ _ _ _ _)
 refine (vM (?_:Le _ vR) ?_:Sym _ _ _ _ _)
 ·(refine Le.ok some [6] ?_;constructor;all_goals (try simp only [vle,vkt,seval,zB,wQ,aS,qh,qd,qY,qw,aTk,cTk,eTk,qo,qy,qB,eTr,qa,qb,qx,ql,qc,mTk,zg,mTr,zz,wW,zU,dTk,dI,dB,dL,jZ,zi,vR,vk,vg,vw,wC,wL,qp,zq,wD,wG,wF,jA,wE,zM,wH,zo,qW,zm,zl,zH,wO,seqB,ve,jP,y7,List.length_map,List.map_cons,List.map_nil,List.length_cons,List.length_nil,List.set_cons_succ,List.set_cons_zero,List.getD_cons_succ,List.getD_cons_zero]))
  all_goals first|rfl|exact ⟨rfl,rfl,_,_,rfl⟩|(simp;done)
 clear env
 have env:Env (fun _=>True) Tryz.prog tyB (tab [(4,za false zH),(19,za false zl),(14,za false wO),(15,fnE vw),(13,za false zo),(17,za false qW),(21,za false zm),(5,za false wC),(12,za false wL),(16,za true seqB),(10,za true ve),(11,za true jP),(25,za true y7),(7,za true qp),(8,za false wD),(9,za false wG),(18,za false wF),(20,za false jA),(22,za false wE),(23,za false zM),(24,za true wH),(6,za true zq)]):=qO ⟨Qbs,Qdi,Qjp,ePlK,QbD,Qap,QcK,QcO,QcV,eeqB,eeqI,eeqK,eeqC,Zk,Qkb,Qj9,Qj8,eMost,QjS,QhH,Qj3,Qe5,trivial⟩
 obtain ⟨h1,h2,h3,h4,h5⟩:=QfT
 have hld:=Qih
 have hgp:=Qh2
 have hbs:=QiE
 obtain ⟨hp1,hp2⟩:=Qkw
 obtain ⟨hq1,hq2⟩:=Qj4
 obtain ⟨hr1,hr2⟩:=QjH
 have hch:=Qdo
 obtain ⟨ho1,ho2,ho3,ho4⟩:=Qig
 have hmo:=QiT
 have hmv:=Qfh
 have hse:=Qir
 have hca:=QeI
 have hwr:=QgE
 have cC:kC.cabins.length≤maxLen:=by decide
 have cF:kF.cabins.length≤maxLen:=by decide
 have cB:kB.cabins.length≤maxLen:=by decide
 have cT:kT.cabins.length≤maxLen:=by decide
 have cN:kN.cabins.length≤maxLen:=by decide
 have cL:kL.cabins.length≤maxLen:=by decide
 have cO:kO.cabins.length≤maxLen:=by decide
 have m1:(1:Nat)≤maxLen:=by decide
 have m2:(2:Nat)≤maxLen:=by decide
 have m3:(3:Nat)≤maxLen:=by decide
 have m4:(4:Nat)≤maxLen:=by decide
 have m5:(5:Nat)≤maxLen:=by decide
 have sC:zw []=kC:=rfl
 have sF:zw ZF=kF:=rfl
 have lC:kC.sold.length=2:=rfl
 obtain ⟨X,hX⟩:∃ X,zw [⟨9,1,0,1,0,4,false⟩]=X:=⟨_,rfl⟩
 have cX:X.cabins.length≤maxLen:=by rw [← hX];decide
 have dX:X.sold.length≤maxLen:=by rw [← hX];decide
 rw [hX] at hse
 have eX:(⟨X.cabins,X.secs,X.sold⟩:Chart)=X:=rfl
 simp only [vR]
 generalize kC=C at *
 generalize kF=D at *
 generalize kB=B at *
 generalize kT=T at *
 generalize kN=N at *
 generalize kL=L at *
 generalize kO=O at *
 have eC:(⟨C.cabins,C.secs,C.sold⟩:Chart)=C:=rfl
 have eD:(⟨D.cabins,D.secs,D.sold⟩:Chart)=D:=rfl
 have eB:(⟨B.cabins,B.secs,B.sold⟩:Chart)=B:=rfl
 have eT:(⟨T.cabins,T.secs,T.sold⟩:Chart)=T:=rfl
 have eN:(⟨N.cabins,N.secs,N.sold⟩:Chart)=N:=rfl
 have eL:(⟨L.cabins,L.secs,L.sold⟩:Chart)=L:=rfl
 have eO:(⟨O.cabins,O.secs,O.sold⟩:Chart)=O:=rfl
 (refine vx env fun Q hQ=>?_;simp only [vkt,seval,zB,wQ,aS,qh,qd,qY,qw,aTk,cTk,eTk,qo,qy,qB,eTr,qa,qb,qx,ql,qc,mTk,zg,mTr,zz,wW,zU,dTk,dI,dB,dL,jZ,zi,vR,vk,vg,vw,wC,wL,qp,zq,wD,wG,wF,jA,wE,zM,wH,zo,qW,zm,zl,zH,wO,seqB,ve,jP,y7,List.length_map,List.map_cons,List.map_nil,List.length_cons,List.length_nil,List.set_cons_succ,List.set_cons_zero,List.getD_cons_succ,List.getD_cons_zero,sC,eC,cC,eB,cB,eT,cT,eN,cN,eL,cL,h1,h2,h3,h4,h5];(try simp only [ite_and]);(repeat' (first|with_reducible assumption|refine And.intro ?_ ?_|intro hp));all_goals (first|(refine hQ _ ?_;clear hQ Q)|(refine vq ?_;kernel_rfl)|omega|assumption|with_reducible rfl|skip))
 repeat' (first|(apply nx;with_reducible constructor)|refine uq (by decide) ?_)
 (refine yf (by simp only [vkt,seval,zB,wQ,aS,qh,qd,qY,qw,aTk,cTk,eTk,qo,qy,qB,eTr,qa,qb,qx,ql,qc,mTk,zg,mTr,zz,wW,zU,dTk,dI,dB,dL,jZ,zi,vR,vk,vg,vw,wC,wL,qp,zq,wD,wG,wF,jA,wE,zM,wH,zo,qW,zm,zl,zH,wO,seqB,ve,jP,y7,List.length_map,List.map_cons,List.map_nil,List.length_cons,List.length_nil,List.set_cons_succ,List.set_cons_zero,List.getD_cons_succ,List.getD_cons_zero];rfl) (fun h=>?_) (fun h=>?_) <;> (try simp only [vki,reduceCtorEq] at h))
 repeat' (first|(apply nx;with_reducible constructor)|refine uq (by decide) ?_)
 (refine vx env fun Q hQ=>?_;simp only [vkt,seval,zB,wQ,aS,qh,qd,qY,qw,aTk,cTk,eTk,qo,qy,qB,eTr,qa,qb,qx,ql,qc,mTk,zg,mTr,zz,wW,zU,dTk,dI,dB,dL,jZ,zi,vR,vk,vg,vw,wC,wL,qp,zq,wD,wG,wF,jA,wE,zM,wH,zo,qW,zm,zl,zH,wO,seqB,ve,jP,y7,List.length_map,List.map_cons,List.map_nil,List.length_cons,List.length_nil,List.set_cons_succ,List.set_cons_zero,List.getD_cons_succ,List.getD_cons_zero,sC,eC,cC,hld];(try simp only [ite_and]);(repeat' (first|with_reducible assumption|refine And.intro ?_ ?_|intro hp));all_goals (first|(refine hQ _ ?_;clear hQ Q)|(refine vq ?_;kernel_rfl)|omega|assumption|with_reducible rfl|skip))
 repeat' (first|(apply nx;with_reducible constructor)|refine uq (by decide) ?_)
 (refine vx env fun Q hQ=>?_;simp only [vkt,seval,zB,wQ,aS,qh,qd,qY,qw,aTk,cTk,eTk,qo,qy,qB,eTr,qa,qb,qx,ql,qc,mTk,zg,mTr,zz,wW,zU,dTk,dI,dB,dL,jZ,zi,vR,vk,vg,vw,wC,wL,qp,zq,wD,wG,wF,jA,wE,zM,wH,zo,qW,zm,zl,zH,wO,seqB,ve,jP,y7,List.length_map,List.map_cons,List.map_nil,List.length_cons,List.length_nil,List.set_cons_succ,List.set_cons_zero,List.getD_cons_succ,List.getD_cons_zero,sC,eC,cC,hgp];(try simp only [ite_and]);(repeat' (first|with_reducible assumption|refine And.intro ?_ ?_|intro hp));all_goals (first|(refine hQ _ ?_;clear hQ Q)|(refine vq ?_;kernel_rfl)|omega|assumption|with_reducible rfl|skip))
 repeat' (first|(apply nx;with_reducible constructor)|refine uq (by decide) ?_)
 (refine vx env fun Q hQ=>?_;simp only [vkt,seval,zB,wQ,aS,qh,qd,qY,qw,aTk,cTk,eTk,qo,qy,qB,eTr,qa,qb,qx,ql,qc,mTk,zg,mTr,zz,wW,zU,dTk,dI,dB,dL,jZ,zi,vR,vk,vg,vw,wC,wL,qp,zq,wD,wG,wF,jA,wE,zM,wH,zo,qW,zm,zl,zH,wO,seqB,ve,jP,y7,List.length_map,List.map_cons,List.map_nil,List.length_cons,List.length_nil,List.set_cons_succ,List.set_cons_zero,List.getD_cons_succ,List.getD_cons_zero,eq_self,decide_true];(try simp only [ite_and]);(repeat' (first|with_reducible assumption|refine And.intro ?_ ?_|intro hp));all_goals (first|(refine hQ _ ?_;clear hQ Q)|(refine vq ?_;kernel_rfl)|omega|assumption|with_reducible rfl|skip))
 repeat' (first|(apply nx;with_reducible constructor)|refine uq (by decide) ?_)
 (refine yf (by simp only [vkt,seval,zB,wQ,aS,qh,qd,qY,qw,aTk,cTk,eTk,qo,qy,qB,eTr,qa,qb,qx,ql,qc,mTk,zg,mTr,zz,wW,zU,dTk,dI,dB,dL,jZ,zi,vR,vk,vg,vw,wC,wL,qp,zq,wD,wG,wF,jA,wE,zM,wH,zo,qW,zm,zl,zH,wO,seqB,ve,jP,y7,List.length_map,List.map_cons,List.map_nil,List.length_cons,List.length_nil,List.set_cons_succ,List.set_cons_zero,List.getD_cons_succ,List.getD_cons_zero];rfl) (fun h=>?_) (fun h=>?_) <;> (try simp only [vki,reduceCtorEq] at h))
 repeat' (first|(apply nx;with_reducible constructor)|refine uq (by decide) ?_)
 (refine vx env fun Q hQ=>?_;simp only [vkt,seval,zB,wQ,aS,qh,qd,qY,qw,aTk,cTk,eTk,qo,qy,qB,eTr,qa,qb,qx,ql,qc,mTk,zg,mTr,zz,wW,zU,dTk,dI,dB,dL,jZ,zi,vR,vk,vg,vw,wC,wL,qp,zq,wD,wG,wF,jA,wE,zM,wH,zo,qW,zm,zl,zH,wO,seqB,ve,jP,y7,List.length_map,List.map_cons,List.map_nil,List.length_cons,List.length_nil,List.set_cons_succ,List.set_cons_zero,List.getD_cons_succ,List.getD_cons_zero,sC,eC,cC,hbs];(try simp only [ite_and]);(repeat' (first|with_reducible assumption|refine And.intro ?_ ?_|intro hp));all_goals (first|(refine hQ _ ?_;clear hQ Q)|(refine vq ?_;kernel_rfl)|omega|assumption|with_reducible rfl|skip))
 repeat' (first|(apply nx;with_reducible constructor)|refine uq (by decide) ?_)
 (refine vx env fun Q hQ=>?_;simp only [vkt,seval,zB,wQ,aS,qh,qd,qY,qw,aTk,cTk,eTk,qo,qy,qB,eTr,qa,qb,qx,ql,qc,mTk,zg,mTr,zz,wW,zU,dTk,dI,dB,dL,jZ,zi,vR,vk,vg,vw,wC,wL,qp,zq,wD,wG,wF,jA,wE,zM,wH,zo,qW,zm,zl,zH,wO,seqB,ve,jP,y7,List.length_map,List.map_cons,List.map_nil,List.length_cons,List.length_nil,List.set_cons_succ,List.set_cons_zero,List.getD_cons_succ,List.getD_cons_zero,sC,eC,cC,hp1,hp2];(try simp only [ite_and]);(repeat' (first|with_reducible assumption|refine And.intro ?_ ?_|intro hp));all_goals (first|(refine hQ _ ?_;clear hQ Q)|(refine vq ?_;kernel_rfl)|omega|assumption|with_reducible rfl|skip))
 repeat' (first|(apply nx;with_reducible constructor)|refine uq (by decide) ?_)
 (refine vx env fun Q hQ=>?_;simp only [vkt,seval,zB,wQ,aS,qh,qd,qY,qw,aTk,cTk,eTk,qo,qy,qB,eTr,qa,qb,qx,ql,qc,mTk,zg,mTr,zz,wW,zU,dTk,dI,dB,dL,jZ,zi,vR,vk,vg,vw,wC,wL,qp,zq,wD,wG,wF,jA,wE,zM,wH,zo,qW,zm,zl,zH,wO,seqB,ve,jP,y7,List.length_map,List.map_cons,List.map_nil,List.length_cons,List.length_nil,List.set_cons_succ,List.set_cons_zero,List.getD_cons_succ,List.getD_cons_zero,sC,eC,cC,hq1,hq2];(try simp only [ite_and]);(repeat' (first|with_reducible assumption|refine And.intro ?_ ?_|intro hp));all_goals (first|(refine hQ _ ?_;clear hQ Q)|(refine vq ?_;kernel_rfl)|omega|assumption|with_reducible rfl|skip))
 repeat' (first|(apply nx;with_reducible constructor)|refine uq (by decide) ?_)
 (refine vx env fun Q hQ=>?_;simp only [vkt,seval,zB,wQ,aS,qh,qd,qY,qw,aTk,cTk,eTk,qo,qy,qB,eTr,qa,qb,qx,ql,qc,mTk,zg,mTr,zz,wW,zU,dTk,dI,dB,dL,jZ,zi,vR,vk,vg,vw,wC,wL,qp,zq,wD,wG,wF,jA,wE,zM,wH,zo,qW,zm,zl,zH,wO,seqB,ve,jP,y7,List.length_map,List.map_cons,List.map_nil,List.length_cons,List.length_nil,List.set_cons_succ,List.set_cons_zero,List.getD_cons_succ,List.getD_cons_zero,sC,eC,cC,hr1,hr2];(try simp only [ite_and]);(repeat' (first|with_reducible assumption|refine And.intro ?_ ?_|intro hp));all_goals (first|(refine hQ _ ?_;clear hQ Q)|(refine vq ?_;kernel_rfl)|omega|assumption|with_reducible rfl|skip))
 repeat' (first|(apply nx;with_reducible constructor)|refine uq (by decide) ?_)
 all_goals first|exact ⟨_,_,rfl⟩|skip
 obtain ⟨p0,hp0⟩:∃ p:List Bunk,p=[⟨0,1⟩]:=⟨_,rfl⟩
 obtain ⟨a0,ha0⟩:∃ p:List Bunk,p=[⟨0,0⟩,⟨0,1⟩]:=⟨_,rfl⟩
 obtain ⟨a1,ha1⟩:∃ p:List Bunk,p=[⟨0,1⟩,⟨0,0⟩]:=⟨_,rfl⟩
 obtain ⟨a2,ha2⟩:∃ p:List Bunk,p=[⟨1,1⟩,⟨0,0⟩]:=⟨_,rfl⟩
 obtain ⟨a3,ha3⟩:∃ p:List Bunk,p=[⟨1,1⟩,⟨0,1⟩]:=⟨_,rfl⟩
 obtain ⟨b0,hb0⟩:∃ p:List Bunk,p=[⟨2,0⟩]:=⟨_,rfl⟩
 refine (vM (S':={ t:=asg [(5,.ptr 0 0),(7,aI 0),(9,aI 0),(10,qd p0),(11,.row 1),(12,.row 2),(13,aI 0),(15,aI 4)],h:=qj [(0,.cells (qb O)),(1,.row 43 1 [qB a0,qB a1,qB a2,qB a3]),(2,.row 43 1 [qB b0])],n:=3,j:=0,d:=[],m:=0 }) ?_ ?_:Sym _ _ _ _ _)
 ·rw [hp0,ha0,ha1,ha2,ha3,hb0]
  (refine Le.ok (fun j=>if j=0 then some 4 else if j=1 then some 9 else if j=2 then some 11 else none) [] ?_;constructor;all_goals (try simp only [vle,vkt,seval,zB,wQ,aS,qh,qd,qY,qw,aTk,cTk,eTk,qo,qy,qB,eTr,qa,qb,qx,ql,qc,mTk,zg,mTr,zz,wW,zU,dTk,dI,dB,dL,jZ,zi,vR,vk,vg,vw,wC,wL,qp,zq,wD,wG,wF,jA,wE,zM,wH,zo,qW,zm,zl,zH,wO,seqB,ve,jP,y7,List.length_map,List.map_cons,List.map_nil,List.length_cons,List.length_nil,List.set_cons_succ,List.set_cons_zero,List.getD_cons_succ,List.getD_cons_zero]))
  all_goals first|rfl|(simp;done)
 have q0:decide (p0=[⟨0,1⟩])=true:=decide_eq_true hp0
 have q1:decide (a1=[⟨0,1⟩,⟨0,0⟩])=true:=decide_eq_true ha1
 have q2:decide (a2=[⟨1,1⟩,⟨0,0⟩])=true:=decide_eq_true ha2
 have q3:decide (a3=[⟨1,1⟩,⟨0,1⟩])=true:=decide_eq_true ha3
 have q4:decide (b0=[⟨2,0⟩])=true:=decide_eq_true hb0
 have l0:p0.length≤1000:=by rw [hp0];decide
 have l1:a1.length≤1000:=by rw [ha1];decide
 have l2:a2.length≤1000:=by rw [ha2];decide
 have l3:a3.length≤1000:=by rw [ha3];decide
 have l4:b0.length≤1000:=by rw [hb0];decide
 clear hp0 ha0 ha1 ha2 ha3 hb0
 refine vx env fun Q hQ=>?_
 simp only [vkt,seval,zB,wQ,aS,qh,qd,qY,qw,aTk,cTk,eTk,qo,qy,qB,eTr,qa,qb,qx,ql,qc,mTk,zg,mTr,zz,wW,zU,dTk,dI,dB,dL,jZ,zi,vR,vk,vg,vw,wC,wL,qp,zq,wD,wG,wF,jA,wE,zM,wH,zo,qW,zm,zl,zH,wO,seqB,ve,jP,y7,List.length_map,List.map_cons,List.map_nil,List.length_cons,List.length_nil,List.set_cons_succ,List.set_cons_zero,List.getD_cons_succ,List.getD_cons_zero,q0,q1,q2,q3,q4,l0,l1,l2,l3,l4,List.append_eq,List.cons_append,List.nil_append]
 refine And.intro ?_ ?_
 ·refine vq ?_
  kernel_rfl
 refine hQ _ ?_
 clear hQ Q
 repeat' (first|(apply nx;with_reducible constructor)|refine uq (by decide) ?_)
 (refine yf (by simp only [vkt,seval,zB,wQ,aS,qh,qd,qY,qw,aTk,cTk,eTk,qo,qy,qB,eTr,qa,qb,qx,ql,qc,mTk,zg,mTr,zz,wW,zU,dTk,dI,dB,dL,jZ,zi,vR,vk,vg,vw,wC,wL,qp,zq,wD,wG,wF,jA,wE,zM,wH,zo,qW,zm,zl,zH,wO,seqB,ve,jP,y7,List.length_map,List.map_cons,List.map_nil,List.length_cons,List.length_nil,List.set_cons_succ,List.set_cons_zero,List.getD_cons_succ,List.getD_cons_zero];rfl) (fun h=>?_) (fun h=>?_) <;> (try simp only [vki,reduceCtorEq] at h))
 repeat' (first|(apply nx;with_reducible constructor)|refine uq (by decide) ?_)
 (refine vx env fun Q hQ=>?_;simp only [vkt,seval,zB,wQ,aS,qh,qd,qY,qw,aTk,cTk,eTk,qo,qy,qB,eTr,qa,qb,qx,ql,qc,mTk,zg,mTr,zz,wW,zU,dTk,dI,dB,dL,jZ,zi,vR,vk,vg,vw,wC,wL,qp,zq,wD,wG,wF,jA,wE,zM,wH,zo,qW,zm,zl,zH,wO,seqB,ve,jP,y7,List.length_map,List.map_cons,List.map_nil,List.length_cons,List.length_nil,List.set_cons_succ,List.set_cons_zero,List.getD_cons_succ,List.getD_cons_zero,sC,eC,cC,hch];(try simp only [ite_and]);(repeat' (first|with_reducible assumption|refine And.intro ?_ ?_|intro hp));all_goals (first|(refine hQ _ ?_;clear hQ Q)|(refine vq ?_;kernel_rfl)|omega|assumption|with_reducible rfl|skip))
 repeat' (first|(apply nx;with_reducible constructor)|refine uq (by decide) ?_)
 (refine vx env fun Q hQ=>?_;simp only [vkt,seval,zB,wQ,aS,qh,qd,qY,qw,aTk,cTk,eTk,qo,qy,qB,eTr,qa,qb,qx,ql,qc,mTk,zg,mTr,zz,wW,zU,dTk,dI,dB,dL,jZ,zi,vR,vk,vg,vw,wC,wL,qp,zq,wD,wG,wF,jA,wE,zM,wH,zo,qW,zm,zl,zH,wO,seqB,ve,jP,y7,List.length_map,List.map_cons,List.map_nil,List.length_cons,List.length_nil,List.set_cons_succ,List.set_cons_zero,List.getD_cons_succ,List.getD_cons_zero,eq_self,decide_true];(try simp only [ite_and]);(repeat' (first|with_reducible assumption|refine And.intro ?_ ?_|intro hp));all_goals (first|(refine hQ _ ?_;clear hQ Q)|(refine vq ?_;kernel_rfl)|omega|assumption|with_reducible rfl|skip))
 repeat' (first|(apply nx;with_reducible constructor)|refine uq (by decide) ?_)
 (refine yf (by simp only [vkt,seval,zB,wQ,aS,qh,qd,qY,qw,aTk,cTk,eTk,qo,qy,qB,eTr,qa,qb,qx,ql,qc,mTk,zg,mTr,zz,wW,zU,dTk,dI,dB,dL,jZ,zi,vR,vk,vg,vw,wC,wL,qp,zq,wD,wG,wF,jA,wE,zM,wH,zo,qW,zm,zl,zH,wO,seqB,ve,jP,y7,List.length_map,List.map_cons,List.map_nil,List.length_cons,List.length_nil,List.set_cons_succ,List.set_cons_zero,List.getD_cons_succ,List.getD_cons_zero];rfl) (fun h=>?_) (fun h=>?_) <;> (try simp only [vki,reduceCtorEq] at h))
 repeat' (first|(apply nx;with_reducible constructor)|refine uq (by decide) ?_)
 (refine vx env fun Q hQ=>?_;simp only [vkt,seval,zB,wQ,aS,qh,qd,qY,qw,aTk,cTk,eTk,qo,qy,qB,eTr,qa,qb,qx,ql,qc,mTk,zg,mTr,zz,wW,zU,dTk,dI,dB,dL,jZ,zi,vR,vk,vg,vw,wC,wL,qp,zq,wD,wG,wF,jA,wE,zM,wH,zo,qW,zm,zl,zH,wO,seqB,ve,jP,y7,List.length_map,List.map_cons,List.map_nil,List.length_cons,List.length_nil,List.set_cons_succ,List.set_cons_zero,List.getD_cons_succ,List.getD_cons_zero,sC,eC,cC,ho1];(try simp only [ite_and]);(repeat' (first|with_reducible assumption|refine And.intro ?_ ?_|intro hp));all_goals (first|(refine hQ _ ?_;clear hQ Q)|(refine vq ?_;kernel_rfl)|omega|assumption|with_reducible rfl|skip))
 repeat' (first|(apply nx;with_reducible constructor)|refine uq (by decide) ?_)
 (refine vx env fun Q hQ=>?_;simp only [vkt,seval,zB,wQ,aS,qh,qd,qY,qw,aTk,cTk,eTk,qo,qy,qB,eTr,qa,qb,qx,ql,qc,mTk,zg,mTr,zz,wW,zU,dTk,dI,dB,dL,jZ,zi,vR,vk,vg,vw,wC,wL,qp,zq,wD,wG,wF,jA,wE,zM,wH,zo,qW,zm,zl,zH,wO,seqB,ve,jP,y7,List.length_map,List.map_cons,List.map_nil,List.length_cons,List.length_nil,List.set_cons_succ,List.set_cons_zero,List.getD_cons_succ,List.getD_cons_zero,sC,eC,cC,ho2];(try simp only [ite_and]);(repeat' (first|with_reducible assumption|refine And.intro ?_ ?_|intro hp));all_goals (first|(refine hQ _ ?_;clear hQ Q)|(refine vq ?_;kernel_rfl)|omega|assumption|with_reducible rfl|skip))
 repeat' (first|(apply nx;with_reducible constructor)|refine uq (by decide) ?_)
 (refine vx env fun Q hQ=>?_;simp only [vkt,seval,zB,wQ,aS,qh,qd,qY,qw,aTk,cTk,eTk,qo,qy,qB,eTr,qa,qb,qx,ql,qc,mTk,zg,mTr,zz,wW,zU,dTk,dI,dB,dL,jZ,zi,vR,vk,vg,vw,wC,wL,qp,zq,wD,wG,wF,jA,wE,zM,wH,zo,qW,zm,zl,zH,wO,seqB,ve,jP,y7,List.length_map,List.map_cons,List.map_nil,List.length_cons,List.length_nil,List.set_cons_succ,List.set_cons_zero,List.getD_cons_succ,List.getD_cons_zero,sC,eC,cC,ho3];(try simp only [ite_and]);(repeat' (first|with_reducible assumption|refine And.intro ?_ ?_|intro hp));all_goals (first|(refine hQ _ ?_;clear hQ Q)|(refine vq ?_;kernel_rfl)|omega|assumption|with_reducible rfl|skip))
 repeat' (first|(apply nx;with_reducible constructor)|refine uq (by decide) ?_)
 (refine vx env fun Q hQ=>?_;simp only [vkt,seval,zB,wQ,aS,qh,qd,qY,qw,aTk,cTk,eTk,qo,qy,qB,eTr,qa,qb,qx,ql,qc,mTk,zg,mTr,zz,wW,zU,dTk,dI,dB,dL,jZ,zi,vR,vk,vg,vw,wC,wL,qp,zq,wD,wG,wF,jA,wE,zM,wH,zo,qW,zm,zl,zH,wO,seqB,ve,jP,y7,List.length_map,List.map_cons,List.map_nil,List.length_cons,List.length_nil,List.set_cons_succ,List.set_cons_zero,List.getD_cons_succ,List.getD_cons_zero,sF,eD,cF,ho4];(try simp only [ite_and]);(repeat' (first|with_reducible assumption|refine And.intro ?_ ?_|intro hp));all_goals (first|(refine hQ _ ?_;clear hQ Q)|(refine vq ?_;kernel_rfl)|omega|assumption|with_reducible rfl|skip))
 repeat' (first|(apply nx;with_reducible constructor)|refine uq (by decide) ?_)
 (refine vx env fun Q hQ=>?_;simp only [vkt,seval,zB,wQ,aS,qh,qd,qY,qw,aTk,cTk,eTk,qo,qy,qB,eTr,qa,qb,qx,ql,qc,mTk,zg,mTr,zz,wW,zU,dTk,dI,dB,dL,jZ,zi,vR,vk,vg,vw,wC,wL,qp,zq,wD,wG,wF,jA,wE,zM,wH,zo,qW,zm,zl,zH,wO,seqB,ve,jP,y7,List.length_map,List.map_cons,List.map_nil,List.length_cons,List.length_nil,List.set_cons_succ,List.set_cons_zero,List.getD_cons_succ,List.getD_cons_zero];(try simp only [ite_and]);(repeat' (first|with_reducible assumption|refine And.intro ?_ ?_|intro hp));all_goals (first|(refine hQ _ ?_;clear hQ Q)|(refine vq ?_;kernel_rfl)|omega|assumption|with_reducible rfl|skip))
 repeat' (first|(apply nx;with_reducible constructor)|refine uq (by decide) ?_)
 (refine yf (by simp only [vkt,seval,zB,wQ,aS,qh,qd,qY,qw,aTk,cTk,eTk,qo,qy,qB,eTr,qa,qb,qx,ql,qc,mTk,zg,mTr,zz,wW,zU,dTk,dI,dB,dL,jZ,zi,vR,vk,vg,vw,wC,wL,qp,zq,wD,wG,wF,jA,wE,zM,wH,zo,qW,zm,zl,zH,wO,seqB,ve,jP,y7,List.length_map,List.map_cons,List.map_nil,List.length_cons,List.length_nil,List.set_cons_succ,List.set_cons_zero,List.getD_cons_succ,List.getD_cons_zero];rfl) (fun h=>?_) (fun h=>?_) <;> (try simp only [vki,reduceCtorEq] at h))
 repeat' (first|(apply nx;with_reducible constructor)|refine uq (by decide) ?_)
 (refine vx env fun Q hQ=>?_;simp only [vkt,seval,zB,wQ,aS,qh,qd,qY,qw,aTk,cTk,eTk,qo,qy,qB,eTr,qa,qb,qx,ql,qc,mTk,zg,mTr,zz,wW,zU,dTk,dI,dB,dL,jZ,zi,vR,vk,vg,vw,wC,wL,qp,zq,wD,wG,wF,jA,wE,zM,wH,zo,qW,zm,zl,zH,wO,seqB,ve,jP,y7,List.length_map,List.map_cons,List.map_nil,List.length_cons,List.length_nil,List.set_cons_succ,List.set_cons_zero,List.getD_cons_succ,List.getD_cons_zero];(try simp only [ite_and]);(repeat' (first|with_reducible assumption|refine And.intro ?_ ?_|intro hp));all_goals (first|(refine hQ _ ?_;clear hQ Q)|(refine vq ?_;kernel_rfl)|omega|assumption|with_reducible rfl|skip))
 repeat' (first|(apply nx;with_reducible constructor)|refine uq (by decide) ?_)
 (refine vx env fun Q hQ=>?_;simp only [vkt,seval,zB,wQ,aS,qh,qd,qY,qw,aTk,cTk,eTk,qo,qy,qB,eTr,qa,qb,qx,ql,qc,mTk,zg,mTr,zz,wW,zU,dTk,dI,dB,dL,jZ,zi,vR,vk,vg,vw,wC,wL,qp,zq,wD,wG,wF,jA,wE,zM,wH,zo,qW,zm,zl,zH,wO,seqB,ve,jP,y7,List.length_map,List.map_cons,List.map_nil,List.length_cons,List.length_nil,List.set_cons_succ,List.set_cons_zero,List.getD_cons_succ,List.getD_cons_zero];(try simp only [ite_and]);(repeat' (first|with_reducible assumption|refine And.intro ?_ ?_|intro hp));all_goals (first|(refine hQ _ ?_;clear hQ Q)|(refine vq ?_;kernel_rfl)|omega|assumption|with_reducible rfl|skip))
 repeat' (first|(apply nx;with_reducible constructor)|refine uq (by decide) ?_)
 (refine vx env fun Q hQ=>?_;simp only [vkt,seval,zB,wQ,aS,qh,qd,qY,qw,aTk,cTk,eTk,qo,qy,qB,eTr,qa,qb,qx,ql,qc,mTk,zg,mTr,zz,wW,zU,dTk,dI,dB,dL,jZ,zi,vR,vk,vg,vw,wC,wL,qp,zq,wD,wG,wF,jA,wE,zM,wH,zo,qW,zm,zl,zH,wO,seqB,ve,jP,y7,List.length_map,List.map_cons,List.map_nil,List.length_cons,List.length_nil,List.set_cons_succ,List.set_cons_zero,List.getD_cons_succ,List.getD_cons_zero,sF,eD,cF,hmo];(try simp only [ite_and]);(repeat' (first|with_reducible assumption|refine And.intro ?_ ?_|intro hp));all_goals (first|(refine hQ _ ?_;clear hQ Q)|(refine vq ?_;kernel_rfl)|omega|assumption|with_reducible rfl|skip))
 repeat' (first|(apply nx;with_reducible constructor)|refine uq (by decide) ?_)
 (refine vx env fun Q hQ=>?_;simp only [vkt,seval,zB,wQ,aS,qh,qd,qY,qw,aTk,cTk,eTk,qo,qy,qB,eTr,qa,qb,qx,ql,qc,mTk,zg,mTr,zz,wW,zU,dTk,dI,dB,dL,jZ,zi,vR,vk,vg,vw,wC,wL,qp,zq,wD,wG,wF,jA,wE,zM,wH,zo,qW,zm,zl,zH,wO,seqB,ve,jP,y7,List.length_map,List.map_cons,List.map_nil,List.length_cons,List.length_nil,List.set_cons_succ,List.set_cons_zero,List.getD_cons_succ,List.getD_cons_zero,sF,eD,cF,hmv];(try simp only [ite_and]);(repeat' (first|with_reducible assumption|refine And.intro ?_ ?_|intro hp));all_goals (first|(refine hQ _ ?_;clear hQ Q)|(refine vq ?_;kernel_rfl)|omega|assumption|with_reducible rfl|skip))
 repeat' (first|(apply nx;with_reducible constructor)|refine uq (by decide) ?_)
 (refine vx env fun Q hQ=>?_;simp only [vkt,seval,zB,wQ,aS,qh,qd,qY,qw,aTk,cTk,eTk,qo,qy,qB,eTr,qa,qb,qx,ql,qc,mTk,zg,mTr,zz,wW,zU,dTk,dI,dB,dL,jZ,zi,vR,vk,vg,vw,wC,wL,qp,zq,wD,wG,wF,jA,wE,zM,wH,zo,qW,zm,zl,zH,wO,seqB,ve,jP,y7,List.length_map,List.map_cons,List.map_nil,List.length_cons,List.length_nil,List.set_cons_succ,List.set_cons_zero,List.getD_cons_succ,List.getD_cons_zero,sC,eC,cC,hse];(try simp only [ite_and]);(repeat' (first|with_reducible assumption|refine And.intro ?_ ?_|intro hp));all_goals (first|(refine hQ _ ?_;clear hQ Q)|(refine vq ?_;kernel_rfl)|omega|assumption|with_reducible rfl|skip))
 repeat' (first|(apply nx;with_reducible constructor)|refine uq (by decide) ?_)
 (refine vx env fun Q hQ=>?_;simp only [vkt,seval,zB,wQ,aS,qh,qd,qY,qw,aTk,cTk,eTk,qo,qy,qB,eTr,qa,qb,qx,ql,qc,mTk,zg,mTr,zz,wW,zU,dTk,dI,dB,dL,jZ,zi,vR,vk,vg,vw,wC,wL,qp,zq,wD,wG,wF,jA,wE,zM,wH,zo,qW,zm,zl,zH,wO,seqB,ve,jP,y7,List.length_map,List.map_cons,List.map_nil,List.length_cons,List.length_nil,List.set_cons_succ,List.set_cons_zero,List.getD_cons_succ,List.getD_cons_zero,sC,eC,cC,hca];(try simp only [ite_and]);(repeat' (first|with_reducible assumption|refine And.intro ?_ ?_|intro hp));all_goals (first|(refine hQ _ ?_;clear hQ Q)|(refine vq ?_;kernel_rfl)|omega|assumption|with_reducible rfl|skip))
 repeat' (first|(apply nx;with_reducible constructor)|refine uq (by decide) ?_)
 (refine vx env fun Q hQ=>?_;simp only [vkt,seval,zB,wQ,aS,qh,qd,qY,qw,aTk,cTk,eTk,qo,qy,qB,eTr,qa,qb,qx,ql,qc,mTk,zg,mTr,zz,wW,zU,dTk,dI,dB,dL,jZ,zi,vR,vk,vg,vw,wC,wL,qp,zq,wD,wG,wF,jA,wE,zM,wH,zo,qW,zm,zl,zH,wO,seqB,ve,jP,y7,List.length_map,List.map_cons,List.map_nil,List.length_cons,List.length_nil,List.set_cons_succ,List.set_cons_zero,List.getD_cons_succ,List.getD_cons_zero,eO,cO,hwr];(try simp only [ite_and]);(repeat' (first|with_reducible assumption|refine And.intro ?_ ?_|intro hp));all_goals (first|(refine hQ _ ?_;clear hQ Q)|(refine vq ?_;kernel_rfl)|omega|assumption|with_reducible rfl|skip))
 repeat' (first|(apply nx;with_reducible constructor)|refine uq (by decide) ?_)
 have tC:List.take 2 (List.map eTk C.sold)=List.map eTk C.sold:=List.take_of_length_le (by rw [List.length_map,lC];exact Nat.le_refl _)
 refine vx env fun Q hQ=>?_
 simp only [vkt,seval,zB,wQ,aS,qh,qd,qY,qw,aTk,cTk,eTk,qo,qy,qB,eTr,qa,qb,qx,ql,qc,mTk,zg,mTr,zz,wW,zU,dTk,dI,dB,dL,jZ,zi,vR,vk,vg,vw,wC,wL,qp,zq,wD,wG,wF,jA,wE,zM,wH,zo,qW,zm,zl,zH,wO,seqB,ve,jP,y7,List.length_map,List.map_cons,List.map_nil,List.length_cons,List.length_nil,List.set_cons_succ,List.set_cons_zero,List.getD_cons_succ,List.getD_cons_zero,tC,rTk,eq_self,decide_true,hX,eX,cX,dX,sC,eC,lC,List.append_eq,List.cons_append,List.nil_append,List.length_drop,← List.map_drop,beq_self_eq_true]
 repeat' (first|with_reducible assumption|refine And.intro ?_ ?_)
 all_goals first|(refine hQ _ ?_;clear hQ Q)|(refine vq ?_;kernel_rfl)|with_reducible rfl|with_reducible assumption|omega
 repeat' (first|(apply nx;with_reducible constructor)|refine uq (by decide) ?_)
 (simp only [vrt,Tryz.results3,vkt,seval,zB,wQ,aS,qh,qd,qY,qw,aTk,cTk,eTk,qo,qy,qB,eTr,qa,qb,qx,ql,qc,mTk,zg,mTr,zz,wW,zU,dTk,dI,dB,dL,jZ,zi,vR,vk,vg,vw,wC,wL,qp,zq,wD,wG,wF,jA,wE,zM,wH,zo,qW,zm,zl,zH,wO,seqB,ve,jP,y7,List.length_map,List.map_cons,List.map_nil,List.length_cons,List.length_nil,List.set_cons_succ,List.set_cons_zero,List.getD_cons_succ,List.getD_cons_zero];refine Fin.val rfl ?_;(try simp only [AV.le,AV.leL]))
 all_goals first|rfl|(simp;done)
end Go.Sym.B
