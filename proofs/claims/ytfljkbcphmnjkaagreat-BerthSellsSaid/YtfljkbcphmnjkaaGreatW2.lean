/- Walks and what they compute, joined: part 2. -/
import Derived.Test.YtfljkbcphmnjkaaGreatWB3
import Derived.Test.YtfljkbcphmnjkaaGreatW1
set_option linter.all false
namespace Go.Sym.B
open Go Go.Sym Go.Proofs Go.Sym.C
set_option maxHeartbeats 4000000 in
theorem Qb6 (c:Chart) (P:Int) (hc:c.cabins.length≤maxLen) (hs:c.sold.length≤100000):FnV Tryz.prog 35 [qa c,aI P] (.tup [qa (ji c P).1,aI (ji c P).2]):=by
 have env:Env (fun _=>True) Tryz.prog tyB (tab [(82,qQ true jW),(90,fnE yI)]):=qH ⟨QdE,Qde,trivial⟩
 refine Fn.of (A:=fun _=>True) (n0:=0) (D:=noD) (Fn0 Tryz.func35 rfl (fun vs w=>by kernel_rfl) (by kernel_rfl)) (by simp) (by simp [AV.ids,AV.idsL,qa,qb,aI]) (fun i o h=>by cases h) (fun _ _ _ _=>trivial) qF ?_
 have ec:(⟨c.cabins,c.secs,c.sold⟩:Chart)=c:=rfl
 have hmx:(100000:Nat)≤maxLen:=by decide
 obtain ⟨e,he⟩:∃ e,zY c=e:=⟨_,rfl⟩
 by_cases h0:e=0
 ·rw [h0] at he
  have hv:=xV he
  have b1:c.cabins.length≤100000:=by have:=hv.car.cabs;omega
  have b3:c.sold.length≤100:=by have:=hv.many;omega
  have hA:ji c P=if (Qv P c.sold).length=c.sold.length then (⟨[],0,[]⟩,3) else (⟨c.cabins,c.secs,Qv P c.sold⟩,0):=by
   unfold ji
   rw [he,if_neg (by decide)]
  rw [hA]
  repeat' (first|(apply nx;with_reducible constructor)|refine uq (by decide) ?_|((first|refine vx env fun Q hQ=>?_|refine vz fun Q hQ=>?_);simp only [vkt,seval,wU,Za,aTk,cTk,gTk,eTk,rTk,qW,mTk,qd,qa,qb,Ji,jW,yI,List.length_map,ec,he,hc,hs,decide_true];(try simp only [ite_and]);(repeat' (first|with_reducible assumption|refine And.intro ?_ ?_|intro hp));all_goals (first|(refine hQ _ ?_;clear hQ Q)|(refine hQ _ (fun h=>?_) (fun h=>?_) <;> clear hQ Q <;> (try simp only [vki,reduceCtorEq] at h))|(refine vq ?_;kernel_rfl)|omega|assumption|with_reducible rfl|skip)))
  refine qO (fun k:{ k:Nat // k≤c.sold.length }=>Ji c P (Qv P (c.sold.take k.1)) k.1) (fun k=>c.sold.length - k.1) ⟨0,Nat.zero_le _⟩ ?_ fun ⟨k,hk⟩=>?_
  ·simp only [Ji,List.take_zero,show Qv P []=[] from rfl]
   (refine Le.ok (fun i=>if i=2 then none else some i) [] ?_;constructor;all_goals (try simp only [vle,vkt,seval,wU,Za,aTk,cTk,gTk,eTk,rTk,qW,mTk,qd,qa,qb,Ji,jW,yI,List.length_map]))
   all_goals first|rfl|(simp;done)|(intro i hi;rw [if_neg (by omega)];done)
  simp only at hk ⊢
  have hMl:(Qv P (c.sold.take k)).length≤k:=Nat.le_trans (List.length_filter_le _ _) (by rw [List.length_take];omega)
  by_cases hlt:k < c.sold.length
  ·have d1:decide ((k:Int) < (c.sold.length:Int))=true:=decide_eq_true (by omega)
   have k0:((k:Int)).toNat=k:=rfl
   have e9:IntKind.wrap .i64 ((k:Int)+1)=((k+1:Nat):Int):=by rw [wrap64 (by omega) (by omega)];rfl
   have hS:Qv P (c.sold.take (k+1))=Qv P (c.sold.take k)++if !decide ((c.sold.getD k default).party=P) then [c.sold.getD k default] else []:=by
    have h:=RL (p:=fun t:Tk=>!decide (t.party=P)) (d:=default) hlt
    exact h
   have hg:=hTk hlt
   obtain ⟨x,hx⟩:∃ x,c.sold.getD k default=x:=⟨_,rfl⟩
   rw [hx] at hg hS
   obtain ⟨M,hM⟩:∃ M,Qv P (c.sold.take k)=M:=⟨_,rfl⟩
   rw [hM] at hMl hS
   have hm:M.length+1≤maxLen:=by omega
   simp only [Ji,hM]
   cases hp:decide (x.party=P) with
   |true =>
    rw [hp,if_neg (by decide),List.append_nil] at hS
    repeat' (first|(apply nx;with_reducible constructor)|refine uq (by decide) ?_|((first|refine vx env fun Q hQ=>?_|refine vz fun Q hQ=>?_);simp only [vkt,seval,wU,Za,aTk,cTk,gTk,eTk,rTk,qW,mTk,qd,qa,qb,Ji,jW,yI,List.length_map,d1,k0,hlt,hg,hx,hp,e9];(try simp only [ite_and]);(repeat' (first|with_reducible assumption|refine And.intro ?_ ?_|intro hp));all_goals (first|(refine hQ _ ?_;clear hQ Q)|(refine hQ _ (fun h=>?_) (fun h=>?_) <;> clear hQ Q <;> (try simp only [vki,reduceCtorEq] at h))|(refine vq ?_;kernel_rfl)|omega|assumption|with_reducible rfl|skip)))
    refine ⟨⟨k+1,hlt⟩,by show c.sold.length - (k+1) < c.sold.length - k;omega, ?_⟩
    simp only [Ji,hS]
    (refine Le.ok some [] ?_;constructor;all_goals (try simp only [vle,vkt,seval,wU,Za,aTk,cTk,gTk,eTk,rTk,qW,mTk,qd,qa,qb,Ji,jW,yI,List.length_map]))
    all_goals first|rfl|(simp;done)
   |false =>
    rw [hp,if_pos (by decide)] at hS
    repeat' (first|(apply nx;with_reducible constructor)|refine uq (by decide) ?_|((first|refine vx env fun Q hQ=>?_|refine vz fun Q hQ=>?_);simp only [vkt,seval,wU,Za,aTk,cTk,gTk,eTk,rTk,qW,mTk,qd,qa,qb,Ji,jW,yI,List.length_map,d1,k0,hlt,hg,hx,hp,e9,hm];(try simp only [ite_and]);(repeat' (first|with_reducible assumption|refine And.intro ?_ ?_|intro hp));all_goals (first|(refine hQ _ ?_;clear hQ Q)|(refine hQ _ (fun h=>?_) (fun h=>?_) <;> clear hQ Q <;> (try simp only [vki,reduceCtorEq] at h))|(refine vq ?_;kernel_rfl)|omega|assumption|with_reducible rfl|skip)))
    refine ⟨⟨k+1,hlt⟩,by show c.sold.length - (k+1) < c.sold.length - k;omega, ?_⟩
    simp only [Ji,hS]
    (refine Le.ok (fun i=>if i=2 then some 4 else some i) [] ?_;constructor;all_goals (try simp only [vle,vkt,seval,wU,Za,aTk,cTk,gTk,eTk,rTk,qW,mTk,qd,qa,qb,Ji,jW,yI,List.length_map]))
    all_goals first|rfl|(rw [List.map_append];rfl)|(simp;done)|(intro i hi;rw [if_neg (by omega)];done)
  ·have d1:decide ((k:Int) < (c.sold.length:Int))=false:=decide_eq_false (by omega)
   obtain rfl:k=c.sold.length:=by omega
   rw [List.take_length] at hMl ⊢
   obtain ⟨M,hM⟩:∃ M,Qv P c.sold=M:=⟨_,rfl⟩
   rw [hM] at hMl
   rw [hM]
   have b5:M.length≤maxLen:=by omega
   simp only [Ji]
   by_cases hk:M.length=c.sold.length
   ·rw [if_pos hk]
    have d2:decide ((M.length:Int)=(c.sold.length:Int))=true:=decide_eq_true (by omega)
    repeat' (first|(apply nx;with_reducible constructor)|refine uq (by decide) ?_|((first|refine vx env fun Q hQ=>?_|refine vz fun Q hQ=>?_);simp only [vkt,seval,wU,Za,aTk,cTk,gTk,eTk,rTk,qW,mTk,qd,qa,qb,Ji,jW,yI,List.length_map,d1,b5,d2];(try simp only [ite_and]);(repeat' (first|with_reducible assumption|refine And.intro ?_ ?_|intro hp));all_goals (first|(refine hQ _ ?_;clear hQ Q)|(refine hQ _ (fun h=>?_) (fun h=>?_) <;> clear hQ Q <;> (try simp only [vki,reduceCtorEq] at h))|(refine vq ?_;kernel_rfl)|omega|assumption|with_reducible rfl|skip)))
    (simp only [vrt,Tryz.results35,vkt,seval,wU,Za,aTk,cTk,gTk,eTk,rTk,qW,mTk,qd,qa,qb,Ji,jW,yI,List.length_map];refine Fin.val rfl ?_;(try simp only [AV.le,AV.leL]))
    all_goals first|rfl|(simp;done)
   ·rw [if_neg hk]
    have d2:decide ((M.length:Int)=(c.sold.length:Int))=false:=decide_eq_false (by omega)
    repeat' (first|(apply nx;with_reducible constructor)|refine uq (by decide) ?_|((first|refine vx env fun Q hQ=>?_|refine vz fun Q hQ=>?_);simp only [vkt,seval,wU,Za,aTk,cTk,gTk,eTk,rTk,qW,mTk,qd,qa,qb,Ji,jW,yI,List.length_map,d1,b1,hs,b5,d2];(try simp only [ite_and]);(repeat' (first|with_reducible assumption|refine And.intro ?_ ?_|intro hp));all_goals (first|(refine hQ _ ?_;clear hQ Q)|(refine hQ _ (fun h=>?_) (fun h=>?_) <;> clear hQ Q <;> (try simp only [vki,reduceCtorEq] at h))|(refine vq ?_;kernel_rfl)|omega|assumption|with_reducible rfl|skip)))
    (simp only [vrt,Tryz.results35,vkt,seval,wU,Za,aTk,cTk,gTk,eTk,rTk,qW,mTk,qd,qa,qb,Ji,jW,yI,List.length_map];refine Fin.val rfl ?_;(try simp only [AV.le,AV.leL]))
    all_goals first|rfl|(simp;done)|exact ⟨⟨⟨_,_,rfl⟩,trivial,⟨_,_,rfl⟩,trivial⟩,trivial,trivial⟩
 ·have d0:decide (e=0)=false:=decide_eq_false h0
  have hA:ji c P=(⟨[],0,[]⟩,e):=by
   unfold ji
   rw [he,if_pos h0]
  rw [hA]
  repeat' (first|(apply nx;with_reducible constructor)|refine uq (by decide) ?_|((first|refine vx env fun Q hQ=>?_|refine vz fun Q hQ=>?_);simp only [vkt,seval,wU,Za,aTk,cTk,gTk,eTk,rTk,qW,mTk,qd,qa,qb,Ji,jW,yI,List.length_map,ec,he,hc,hs,d0];(try simp only [ite_and]);(repeat' (first|with_reducible assumption|refine And.intro ?_ ?_|intro hp));all_goals (first|(refine hQ _ ?_;clear hQ Q)|(refine hQ _ (fun h=>?_) (fun h=>?_) <;> clear hQ Q <;> (try simp only [vki,reduceCtorEq] at h))|(refine vq ?_;kernel_rfl)|omega|assumption|with_reducible rfl|skip)))
  (simp only [vrt,Tryz.results35,vkt,seval,wU,Za,aTk,cTk,gTk,eTk,rTk,qW,mTk,qd,qa,qb,Ji,jW,yI,List.length_map];refine Fin.val rfl ?_;(try simp only [AV.le,AV.leL]))
  all_goals first|rfl|(simp;done)
def zR:List AV→Prop × AV
 |[.agg [.sl x0,.v (.int .i64 x1),.sl x2],.v (.int .i64 n)]=>(x0=(x0.map qo).map qg∧x2=(x2.map dTk).map eTk∧((⟨(x0.map qo),x1,(x2.map dTk)⟩:Chart)).cabins.length≤maxLen∧((⟨(x0.map qo),x1,(x2.map dTk)⟩:Chart)).sold.length≤100000,.tup [qa (ji ((⟨(x0.map qo),x1,(x2.map dTk)⟩:Chart)) n).1,aI (ji ((⟨(x0.map qo),x1,(x2.map dTk)⟩:Chart)) n).2])
 |_=>(False,.junk)
theorem Qf4 {A:Frm→Prop}:qD A Tryz.prog 35 (qQ false zR):=qR fun vs hv h=>by
 clear hv
 unfold zR at h ⊢
 split at h
 ·rename_i x0 x1 x2 n;obtain ⟨q0,q1,k0,k1⟩:=h
  refine ⟨by first|trivial|(simp [AV.plain,AV.plainL,aI,aB,qz,qc,qj,qf,aTk,cTk];done)|(repeat' split) <;> simp [AV.plain,AV.plainL,aI,aB,qz,qc,qj,qf,aTk,cTk],fun h=>absurd h (by decide), ?_⟩
  have:=Qb6 ((⟨(x0.map qo),x1,(x2.map dTk)⟩:Chart)) n k0 k1
  simp only [qM,qa,aI,qj,qb,← q0,← q1] at this
  first|exact this|(simp only [qM,qa,aI,qj,qb,← q0,← q1];exact this)
 ·exact h.elim
def cnB (P:Int) (x:Tk):Bool:=decide (x.party=P)
def cnC (P:Int):List AV:=[.v (.int .i64 P)]
theorem QiX (P:Int):PCs (cnC P):=⟨by simp [cnC,AV.idsL,AV.ids],by simp [cnC,AV.leL,AV.le],by simp [cnC,AV.renL,AV.ren]⟩
def Yt:=vj @ty3 (vj @ym (vj @ti3.eq_1 @jS.eq_1))
def LA:=vj @aI.eq_1 (@aB.eq_1)
theorem Uo (P:Int):JP 89 (cnC P) (cnB P):=fun x=>by
 have env:Env (fun _=>True) Tryz.prog tyB (tab []):=qH trivial
 refine Fn.of (A:=fun _=>True) (n0:=1) (D:=noD) (Fn0 Tryz.func89 rfl (fun vs w=>by kernel_rfl) (by kernel_rfl)) (by simp) (by simp [AV.ids,AV.idsL,aTk,cTk]) ?_ (fun _ _ _ _=>trivial) qF ?_
 ·intro i o hi
  have h:=qP hi
  simp at h;obtain ⟨rfl,rfl⟩:=h;simp [cnC,AObj.ids,AV.ids,AV.idsL]
 repeat' (first|(apply nx;with_reducible constructor)|refine uq (by decide) ?_|((first|refine vx env fun Q hQ=>?_|refine vz fun Q hQ=>?_);simp only [vkt,seval,Yt,LA,aTk,cTk,cnC];(try simp only [ite_and]);(repeat' (first|with_reducible assumption|refine And.intro ?_ ?_|intro hp));all_goals (first|(refine hQ _ ?_;clear hQ Q)|(refine hQ _ (fun h=>?_) (fun h=>?_) <;> clear hQ Q <;> (try simp only [vki,reduceCtorEq] at h))|(refine vq ?_;kernel_rfl)|omega|assumption|with_reducible rfl|skip)))
 all_goals (simp only [vrt,Tryz.results89,vkt,seval,Yt,LA,aTk,cTk,cnC];refine Fin.ok some [] ?_ ?_ ?_ ?_ ?_ rfl;all_goals (try simp only [vle,vkt,seval,Yt,LA,aTk,cTk,cnC]))
 all_goals first|rfl|(simp [cnB];done)
def xu (P:Int) (S:St):List AV→Option Pk
 |[.row r,.clo f [.ptr t 0]]=>match S.h r with
  |some (.row _ _ xs)=>match S.h t with
   |some (.cells [.v (.int .i64 Q)])=>some { pre:=f=89∧Q=P∧xs=(xs.map dTk).map eTk∧xs.length≤100,hs:=[t],bo:=[r],fl:=true,ar:=[.sl xs,.clo 89 [.ptr 0 0]],L0:=[.cells (cnC P)],v:=aI (V3 (cnB P) (xs.map dTk)),L1:=[some (.cells (cnC P))] }
   |_=>none
  |_=>none
 |_=>none
theorem Qjt {A:Frm→Prop} {P:Int}:qD A Tryz.prog 123 (fnE (xu P)):=zW fun S bs q h hp=>by
 unfold xu at h
 split at h
 ·split at h
  ·split at h
   ·cases h
    obtain ⟨_,_,h1,h2⟩:=hp
    have:=Qaj (QiX P) (Uo P) (List.map dTk _) (by rw [List.length_map];exact h2)
    rw [qj,← h1] at this
    exact this
   ·cases h
  ·cases h
 ·cases h
def ndB (p:Tk→Bool) (x:Tk):Bool:=!p x
structure DlInv (p:Tk→Bool) (l M:List Tk) (j:Nat):Prop where
 len:M.length=l.length
 tk:M.take ((l.take j).filter (ndB p)).length=(l.take j).filter (ndB p)
 dr:M.drop j=l.drop j
 lt:((l.take j).filter (ndB p)).length < j
theorem DlInv.skip {p:Tk→Bool} {l M:List Tk} {j:Nat} (h:DlInv p l M j) (hj:j < l.length) (hp:p (l.getD j default)=true):DlInv p l M (j+1):=by
 have hF:(l.take (j+1)).filter (ndB p)=(l.take j).filter (ndB p):=by
  rw [List.take_succ_eq_append_getElem hj,List.filter_append,show l[j]=l.getD j default by simp [List.getD_eq_getElem?_getD,hj]]
  rw [List.filter_cons_of_neg (by unfold ndB;rw [hp];decide)]
  simp
 refine ⟨h.len,by rw [hF];exact h.tk, ?_,by rw [hF];have:=h.lt;omega⟩
 have:=congrArg (List.drop 1) h.dr
 rwa [List.drop_drop,List.drop_drop] at this
theorem DlInv.keep {p:Tk→Bool} {l M:List Tk} {j:Nat} (h:DlInv p l M j) (hj:j < l.length) {x:Tk} (hx:l.getD j default=x) (hp:p x=false):DlInv p l (M.set ((l.take j).filter (ndB p)).length x) (j+1)∧((l.take (j+1)).filter (ndB p)).length=((l.take j).filter (ndB p)).length+1:=by
 have hF:(l.take (j+1)).filter (ndB p)=(l.take j).filter (ndB p)++[x]:=by
  rw [List.take_succ_eq_append_getElem hj,List.filter_append,show l[j]=l.getD j default by simp [List.getD_eq_getElem?_getD,hj],hx]
  simp [ndB,hp]
 have hl:=h.lt
 have hM:=h.len
 have hL:((l.take (j+1)).filter (ndB p)).length=((l.take j).filter (ndB p)).length+1:=by rw [hF,List.length_append];rfl
 refine ⟨⟨by rw [List.length_set];exact hM, ?_, ?_,by omega⟩,hL⟩
 ·rw [hL,hF]
  have htk:=h.tk
  obtain ⟨i,hi⟩:∃ i,((l.take j).filter (ndB p)).length=i:=⟨_,rfl⟩
  rw [hi] at htk hl ⊢
  rw [← htk]
  rw [List.take_succ_eq_append_getElem (by rw [List.length_set];omega),List.getElem_set_self,List.take_set_of_le (Nat.le_refl _)]
 ·rw [List.drop_set_of_lt (by omega)]
  have:=congrArg (List.drop 1) h.dr
  rwa [List.drop_drop,List.drop_drop] at this
theorem DlInv.cur {p:Tk→Bool} {l M:List Tk} {j:Nat} (h:DlInv p l M j) (hj:j < l.length):M.getD j default=l.getD j default:=by
 have h1:(M.drop j)[0]?=(l.drop j)[0]?:=by rw [h.dr]
 rw [List.getElem?_drop,List.getElem?_drop,Nat.add_zero] at h1
 rw [List.getD_eq_getElem?_getD,List.getD_eq_getElem?_getD,h1]
theorem QgF {p:Tk→Bool} {l:List Tk} {k:Nat} (hk:k < l.length) (h:∀ j,j < k→p (l.getD j default)=false) (hp:p (l.getD k default)=true):DlInv p l l (k+1)∧((l.take (k+1)).filter (ndB p)).length=k:=by
 have hF:(l.take k).filter (ndB p)=l.take k:=List.filter_eq_self.2 fun x hx=>by
  obtain ⟨j,hj,rfl⟩:=List.mem_iff_getElem.1 hx
  rw [List.length_take] at hj
  have:=h j (by omega)
  rw [show l.getD j default=(l.take k)[j] by simp [List.getD_eq_getElem?_getD,show j < l.length by omega]] at this
  unfold ndB
  rw [this];rfl
 have hF2:(l.take (k+1)).filter (ndB p)=l.take k:=by
  rw [List.take_succ_eq_append_getElem hk,List.filter_append,show l[k]=l.getD k default by simp [List.getD_eq_getElem?_getD,hk],hF]
  rw [List.filter_cons_of_neg (by unfold ndB;rw [hp];decide)]
  simp
 have hL:((l.take (k+1)).filter (ndB p)).length=k:=by rw [hF2,List.length_take];omega
 exact ⟨⟨rfl,by rw [hL,hF2],rfl,by omega⟩,hL⟩
theorem RU {p:Tk→Bool} {l:List Tk}:(l.any p=false∧V3 p l=-1)∨(l.any p=true∧∃ k:Nat,k < l.length∧V3 p l=(k:Int)∧(∀ j,j < k→p (l.getD j default)=false)∧p (l.getD k default)=true):=by
 have ha:=Qab p l
 unfold V3 at ha ⊢
 cases h:l.findIdx? p with
 |none =>
  rw [h] at ha
  exact .inl ⟨by rw [← ha];rfl,rfl⟩
 |some k =>
  rw [h] at ha
  obtain ⟨h1,h2,h3⟩:=List.findIdx?_eq_some_iff_getElem.1 h
  refine .inr ⟨by rw [← ha];simp,k,h1,rfl,fun j hj=>?_, ?_⟩
  ·have:=h3 j hj
   simpa [List.getD_eq_getElem?_getD,show j < l.length by omega] using this
  ·simpa [List.getD_eq_getElem?_getD,h1] using h2
def dlS (P:Int) (M:List Tk) (T:List (Nat × AV)):St:={ t:=asg (T++[(0,.row 0),(1,.clo 89 [.ptr 1 0])]),h:=ql [(0,qm M),(1,.cells [.v (.int .i64 P)])],n:=2,m:=2 }
def wB:=vj @ty3 (vj @xh (vj @ym (vj @ti3.eq_1 (vj @vF.eq_1 @jS.eq_1))))
def jY:=vj @aI.eq_1 (@aB.eq_1)
set_option maxHeartbeats 4000000 in
theorem QfZ (P:Int) (l:List Tk) (hl:l.length≤100) (ha:l.any (cnB P)=false):Fn noB Tryz.prog 88 [.row 0,.clo 89 [.ptr 1 0]] (ql [(0,qm l),(1,.cells [.v (.int .i64 P)])]) (.row 0) (ql [(0,qm l),(1,.cells [.v (.int .i64 P)])]) 0:=by
 have env:Env (fun _=>True) Tryz.prog tyB (tab [(89,fnE (pTk (cnC P) (cnB P))),(123,fnE (xu P))]):=qH ⟨eTkp (Uo P),Qjt,trivial⟩
 refine Fn.of (A:=fun _=>True) (n0:=2) (D:=noD) (Fn0 Tryz.func88 rfl (fun vs w=>by kernel_rfl) (by kernel_rfl)) (by simp) (by simp [AV.ids,AV.idsL]) ?_ (fun _ _ _ _=>trivial) qF ?_
 ·intro i o hi
  have h:=qP hi
  simp at h
  rcases h with ⟨rfl,rfl⟩|⟨rfl,rfl⟩ <;> simp [qm,AObj.ids,AV.ids,AV.idsL]
 rcases RU (p:=cnB P) (l:=l) with ⟨_,h2⟩|⟨h1,_⟩
 ·repeat' (first|(apply nx;with_reducible constructor)|refine uq (by decide) ?_|((first|refine vx env fun Q hQ=>?_|refine vz fun Q hQ=>?_);simp only [vkt,seval,wB,jY,aTk,cTk,qj,eTk,gTk,rTk,mTk,qm,dlS,pTk,xu,cnC,List.length_map,hl,h2,decide_true];(try simp only [ite_and]);(repeat' (first|with_reducible assumption|refine And.intro ?_ ?_|intro hp));all_goals (first|(refine hQ _ ?_;clear hQ Q)|(refine hQ _ (fun h=>?_) (fun h=>?_) <;> clear hQ Q <;> (try simp only [vki,reduceCtorEq] at h))|(refine vq ?_;kernel_rfl)|omega|assumption|with_reducible rfl|skip)))
  ·exact ⟨_,_,rfl⟩
  repeat' (first|(apply nx;with_reducible constructor)|refine uq (by decide) ?_|((first|refine vx env fun Q hQ=>?_|refine vz fun Q hQ=>?_);simp only [vkt,seval,wB,jY,aTk,cTk,qj,eTk,gTk,rTk,mTk,qm,dlS,pTk,xu,cnC,List.length_map,hl,h2,decide_true];(try simp only [ite_and]);(repeat' (first|with_reducible assumption|refine And.intro ?_ ?_|intro hp));all_goals (first|(refine hQ _ ?_;clear hQ Q)|(refine hQ _ (fun h=>?_) (fun h=>?_) <;> clear hQ Q <;> (try simp only [vki,reduceCtorEq] at h))|(refine vq ?_;kernel_rfl)|omega|assumption|with_reducible rfl|skip)))
  (simp only [vrt,Tryz.results88,vkt,seval,wB,jY,aTk,cTk,qj,eTk,gTk,rTk,mTk,qm,dlS,pTk,xu,cnC,List.length_map];refine Fin.ok some [] ?_ ?_ ?_ ?_ ?_ rfl;all_goals (try simp only [vle,vkt,seval,wB,jY,aTk,cTk,qj,eTk,gTk,rTk,mTk,qm,dlS,pTk,xu,cnC,List.length_map]))
  all_goals first|rfl|(simp;done)
 ·rw [ha] at h1;exact absurd h1 (by decide)
set_option maxHeartbeats 4000000 in
theorem Qgc (P:Int) (l:List Tk) (hl:l.length≤100) (ha:l.any (cnB P)=true):Fn noB Tryz.prog 88 [.row 0,.clo 89 [.ptr 1 0]] (ql [(0,qm l),(1,.cells [.v (.int .i64 P)])]) (.row 2) (ql [(1,.cells [.v (.int .i64 P)]),(2,qm (l.filter (ndB (cnB P))))]) 0:=by
 have env:Env (fun _=>True) Tryz.prog tyB (tab [(89,fnE (pTk (cnC P) (cnB P))),(123,fnE (xu P))]):=qH ⟨eTkp (Uo P),Qjt,trivial⟩
 refine Fn.of (A:=fun _=>True) (n0:=2) (D:=noD) (Fn0 Tryz.func88 rfl (fun vs w=>by kernel_rfl) (by kernel_rfl)) (by simp) (by simp [AV.ids,AV.idsL]) ?_ (fun _ _ _ _=>trivial) qF ?_
 ·intro i o hi
  have h:=qP hi
  simp at h
  rcases h with ⟨rfl,rfl⟩|⟨rfl,rfl⟩ <;> simp [qm,AObj.ids,AV.ids,AV.idsL]
 rcases RU (p:=cnB P) (l:=l) with ⟨h1,_⟩|⟨_,k0,hk0,hix,hb,hp0⟩
 ·rw [ha] at h1;exact absurd h1 (by decide)
 obtain ⟨hst,hs0⟩:=QgF hk0 hb hp0
 have d0:decide ((k0:Int)=-1)=false:=decide_eq_false (by omega)
 have e0:IntKind.wrap .i64 ((k0:Int)+1)=((k0+1:Nat):Int):=by rw [wrap64 (by omega) (by omega)];rfl
 have hmx:(100000:Nat)≤maxLen:=by decide
 repeat' (first|(apply nx;with_reducible constructor)|refine uq (by decide) ?_|((first|refine vx env fun Q hQ=>?_|refine vz fun Q hQ=>?_);simp only [vkt,seval,wB,jY,aTk,cTk,qj,eTk,gTk,rTk,mTk,qm,dlS,pTk,xu,cnC,List.length_map,hl,hix,d0,e0];(try simp only [ite_and]);(repeat' (first|with_reducible assumption|refine And.intro ?_ ?_|intro hp));all_goals (first|(refine hQ _ ?_;clear hQ Q)|(refine hQ _ (fun h=>?_) (fun h=>?_) <;> clear hQ Q <;> (try simp only [vki,reduceCtorEq] at h))|(refine vq ?_;kernel_rfl)|omega|assumption|with_reducible rfl|skip)))
 ·exact ⟨_,_,rfl⟩
 repeat' (first|(apply nx;with_reducible constructor)|refine uq (by decide) ?_|((first|refine vx env fun Q hQ=>?_|refine vz fun Q hQ=>?_);simp only [vkt,seval,wB,jY,aTk,cTk,qj,eTk,gTk,rTk,mTk,qm,dlS,pTk,xu,cnC,List.length_map,hl,hix,d0,e0];(try simp only [ite_and]);(repeat' (first|with_reducible assumption|refine And.intro ?_ ?_|intro hp));all_goals (first|(refine hQ _ ?_;clear hQ Q)|(refine hQ _ (fun h=>?_) (fun h=>?_) <;> clear hQ Q <;> (try simp only [vki,reduceCtorEq] at h))|(refine vq ?_;kernel_rfl)|omega|assumption|with_reducible rfl|skip)))
 refine qO (fun y:{ y:Nat × List Tk // y.1≤l.length∧DlInv (cnB P) l y.2 y.1 }=>dlS P y.1.2 [(5,aI ((l.take y.1.1).filter (ndB (cnB P))).length),(6,aI y.1.1)]) (fun y=>l.length - y.1.1) ⟨(k0+1,l),hk0,hst⟩ ?_ fun ⟨⟨j,M⟩,hj,hin⟩=>?_
 ·simp only [dlS,hs0,List.cons_append,List.nil_append]
  (refine Le.ok some [] ?_;constructor;all_goals (try simp only [vle,vkt,seval,wB,jY,aTk,cTk,qj,eTk,gTk,rTk,mTk,qm,dlS,pTk,xu,cnC,List.length_map]))
  all_goals first|rfl|(simp;done)
 simp only at hj hin ⊢
 have hMl:=hin.len
 have hlt:=hin.lt
 have htk:=hin.tk
 obtain ⟨i,hi⟩:∃ i,((l.take j).filter (ndB (cnB P))).length=i:=⟨_,rfl⟩
 by_cases hjl:j < l.length
 ·have d1:decide ((j:Int) < (M.length:Int))=true:=decide_eq_true (by omega)
  have j0:((j:Int)).toNat=j:=rfl
  have i0:((i:Int)).toNat=i:=rfl
  have e9:IntKind.wrap .i64 ((j:Int)+1)=((j+1:Nat):Int):=by rw [wrap64 (by omega) (by omega)];rfl
  have hjM:j < M.length:=by omega
  have hgM:=hTk hjM
  have hcur:=hin.cur hjl
  obtain ⟨x,hx⟩:∃ x,l.getD j default=x:=⟨_,rfl⟩
  have ex:(⟨x.party,x.sex,x.cab,x.bed,x.frm,x.to,x.dog⟩:Tk)=x:=rfl
  rw [hcur,hx] at hgM
  rw [hi] at hlt
  have hiM:i < M.length:=by omega
  simp only [dlS,hi,List.cons_append,List.nil_append]
  cases hp:cnB P x with
  |true =>
   have hin':=hin.skip hjl (by rw [hx];exact hp)
   have hF:((l.take (j+1)).filter (ndB (cnB P))).length=i:=by
    rw [← hi]
    congr 1
    rw [List.take_succ_eq_append_getElem hjl,List.filter_append,show l[j]=l.getD j default by simp [List.getD_eq_getElem?_getD,hjl],hx]
    simp [ndB,hp]
   repeat' (first|(apply nx;with_reducible constructor)|refine uq (by decide) ?_|((first|refine vx env fun Q hQ=>?_|refine vz fun Q hQ=>?_);simp only [vkt,seval,wB,jY,aTk,cTk,qj,eTk,gTk,rTk,mTk,qm,dlS,pTk,xu,cnC,List.length_map,d1,j0,hjM,hgM,ex,hp,e9];(try simp only [ite_and]);(repeat' (first|with_reducible assumption|refine And.intro ?_ ?_|intro hp));all_goals (first|(refine hQ _ ?_;clear hQ Q)|(refine hQ _ (fun h=>?_) (fun h=>?_) <;> clear hQ Q <;> (try simp only [vki,reduceCtorEq] at h))|(refine vq ?_;kernel_rfl)|omega|assumption|with_reducible rfl|skip)))
   refine ⟨⟨(j+1,M),hjl,hin'⟩,by show l.length - (j+1) < l.length - j;omega, ?_⟩
   simp only [dlS,hF,List.cons_append,List.nil_append]
   (refine Le.ok some [] ?_;constructor;all_goals (try simp only [vle,vkt,seval,wB,jY,aTk,cTk,qj,eTk,gTk,rTk,mTk,qm,dlS,pTk,xu,cnC,List.length_map]))
   all_goals first|rfl|(simp;done)
  |false =>
   obtain ⟨hin',hF⟩:=hin.keep hjl hx hp
   rw [hi] at hin' hF
   have e8:IntKind.wrap .i64 ((i:Int)+1)=((i+1:Nat):Int):=by rw [wrap64 (by omega) (by omega)];rfl
   have hgi:=hTk hiM
   obtain ⟨y,hy⟩:∃ y,M.getD i default=y:=⟨_,rfl⟩
   rw [hy] at hgi
   have hset:(M.map eTk).set i [.v (.int .i64 x.party),.v (.int .i64 x.sex),.v (.int .i64 x.cab),.v (.int .i64 x.bed),.v (.int .i64 x.frm),.v (.int .i64 x.to),.v (.bool x.dog)]=(M.set i x).map eTk:=by
    rw [List.map_set];rfl
   repeat' (first|(apply nx;with_reducible constructor)|refine uq (by decide) ?_|((first|refine vx env fun Q hQ=>?_|refine vz fun Q hQ=>?_);simp only [vkt,seval,wB,jY,aTk,cTk,qj,eTk,gTk,rTk,mTk,qm,dlS,pTk,xu,cnC,List.length_map,d1,j0,i0,hjM,hiM,hgM,hgi,ex,hp,e9,e8];(try simp only [ite_and]);(repeat' (first|with_reducible assumption|refine And.intro ?_ ?_|intro hp));all_goals (first|(refine hQ _ ?_;clear hQ Q)|(refine hQ _ (fun h=>?_) (fun h=>?_) <;> clear hQ Q <;> (try simp only [vki,reduceCtorEq] at h))|(refine vq ?_;kernel_rfl)|omega|assumption|with_reducible rfl|skip)))
   refine ⟨⟨(j+1,M.set i x),hjl,hin'⟩,by show l.length - (j+1) < l.length - j;omega, ?_⟩
   simp only [dlS,hF,← hset,List.cons_append,List.nil_append,qm]
   (refine Le.ok some [] ?_;constructor;all_goals (try simp only [vle,vkt,seval,wB,jY,aTk,cTk,qj,eTk,gTk,rTk,mTk,qm,dlS,pTk,xu,cnC,List.length_map]))
   all_goals first|rfl|(simp;done)
 ·obtain rfl:j=l.length:=by omega
  rw [List.take_length] at hi htk hlt
  rw [hi] at htk hlt
  have d1:decide (((l.length:Nat):Int) < (M.length:Int))=false:=decide_eq_false (by omega)
  have i0:((i:Int)).toNat=i:=rfl
  have hiM:(i:Int) < (M.length:Int):=by omega
  have hiM2:(i:Int)≤(M.length:Int):=by omega
  have hM0:0 < M.length:=by omega
  have hM1:0 < M.length - i:=by omega
  have hM2:i+(M.length - i)≤M.length:=by omega
  have hfin:l.filter (ndB (cnB P))=M.take i:=htk.symm
  rw [hfin]
  simp only [dlS,List.take_length,hi,List.cons_append,List.nil_append]
  repeat' (first|(apply nx;with_reducible constructor)|refine uq (by decide) ?_)
  ((first|refine vx env fun Q hQ=>?_|refine vz fun Q hQ=>?_);simp only [vkt,seval,wB,jY,aTk,cTk,qj,eTk,gTk,rTk,mTk,qm,dlS,pTk,xu,cnC,List.length_map,d1];(try simp only [ite_and]);(repeat' (first|with_reducible assumption|refine And.intro ?_ ?_|intro hp));all_goals (first|(refine hQ _ ?_;clear hQ Q)|(refine hQ _ (fun h=>?_) (fun h=>?_) <;> clear hQ Q <;> (try simp only [vki,reduceCtorEq] at h))|(refine vq ?_;kernel_rfl)|omega|assumption|with_reducible rfl|skip))
  repeat' (first|(apply nx;with_reducible constructor)|refine uq (by decide) ?_)
  ((first|refine vx env fun Q hQ=>?_|refine vz fun Q hQ=>?_);simp only [vkt,seval,wB,jY,aTk,cTk,qj,eTk,gTk,rTk,mTk,qm,dlS,pTk,xu,cnC,List.length_map,d1];(try simp only [ite_and]);(repeat' (first|with_reducible assumption|refine And.intro ?_ ?_|intro hp));all_goals (first|(refine hQ _ ?_;clear hQ Q)|(refine hQ _ (fun h=>?_) (fun h=>?_) <;> clear hQ Q <;> (try simp only [vki,reduceCtorEq] at h))|(refine vq ?_;kernel_rfl)|omega|assumption|with_reducible rfl|skip))
  repeat' (first|(apply nx;with_reducible constructor)|refine uq (by decide) ?_)
  refine Sym.mono (K:=fun e S1=>e=.normal∧∃ Z:List (List DV),Z.length=M.length∧Z.take i=(M.take i).map eTk∧Le S1 { t:=asg [(0,.row 0),(1,.clo 89 [.ptr 1 0]),(5,aI i)],h:=ql [(0,.row 64 7 Z),(1,.cells [.v (.int .i64 P)])],n:=2,m:=2 }) ?_ ?_
  ·((first|refine vx env fun Q hQ=>?_|refine vz fun Q hQ=>?_);simp only [vkt,seval,wB,jY,aTk,cTk,qj,eTk,gTk,rTk,mTk,qm,dlS,pTk,xu,cnC,List.length_map,i0,hiM,hiM2,hM0,hM1,hM2,Int.toNat_natCast];(try simp only [ite_and]);(repeat' (first|with_reducible assumption|refine And.intro ?_ ?_|intro hp));all_goals (first|(refine hQ _ ?_;clear hQ Q)|(refine hQ _ (fun h=>?_) (fun h=>?_) <;> clear hQ Q <;> (try simp only [vki,reduceCtorEq] at h))|(refine vq ?_;kernel_rfl)|omega|assumption|with_reducible rfl|skip))
   refine ⟨rfl,List.take i (M.map eTk)++List.replicate (M.length - i) [.v (.int .i64 0),.v (.int .i64 0),.v (.int .i64 0),.v (.int .i64 0),.v (.int .i64 0),.v (.int .i64 0),.v (.bool false)]++List.drop (i+(M.length - i)) (M.map eTk), ?_, ?_, ?_⟩
   ·simp;omega
   ·rw [List.append_assoc,List.take_append_of_le_length (by simp;omega),List.take_take,Nat.min_self,List.map_take]
   ·(refine Le.ok some [] ?_;constructor;all_goals (try simp only [vle,vkt,seval,wB,jY,aTk,cTk,qj,eTk,gTk,rTk,mTk,qm,dlS,pTk,xu,cnC,List.length_map]))
    all_goals first|rfl|(simp;done)
  rintro e S1 ⟨rfl,Z,hZl,hZt,hle⟩
  refine (xW hle ?_:Sym _ _ _ S1 _)
  clear hle S1
  repeat' (first|(apply nx;with_reducible constructor)|refine uq (by decide) ?_)
  refine Sym.mono (K:=fun e S1=>e=.normal∧Le S1 { t:=asg [(4,.rsl 0 7 0 i)],h:=ql [(0,.row 64 7 Z),(1,.cells [.v (.int .i64 P)])],n:=2,m:=2 }) ?_ ?_
  ·((first|refine vx env fun Q hQ=>?_|refine vz fun Q hQ=>?_);simp only [vkt,seval,wB,jY,aTk,cTk,qj,eTk,gTk,rTk,mTk,qm,dlS,pTk,xu,cnC,List.length_map,i0,hZl,hiM,hiM2,hM0,Nat.sub_zero];(try simp only [ite_and]);(repeat' (first|with_reducible assumption|refine And.intro ?_ ?_|intro hp));all_goals (first|(refine hQ _ ?_;clear hQ Q)|(refine hQ _ (fun h=>?_) (fun h=>?_) <;> clear hQ Q <;> (try simp only [vki,reduceCtorEq] at h))|(refine vq ?_;kernel_rfl)|omega|assumption|with_reducible rfl|skip))
   refine ⟨rfl, ?_⟩
   (refine Le.ok some [] ?_;constructor;all_goals (try simp only [vle,vkt,seval,wB,jY,aTk,cTk,qj,eTk,gTk,rTk,mTk,qm,dlS,pTk,xu,cnC,List.length_map]))
   all_goals first|rfl|(simp;done)
  rintro e S1 ⟨rfl,hle⟩
  refine (xW (Le.trans hle (Qil (t0:=4) (id:=0) (k:=7) (n:=i) (xs:=Z) rfl rfl (by omega))) ?_:Sym _ _ _ S1 _)
  clear hle S1
  simp only [hZt]
  repeat' (first|(apply nx;with_reducible constructor)|refine uq (by decide) ?_|((first|refine vx env fun Q hQ=>?_|refine vz fun Q hQ=>?_);simp only [vkt,seval,wB,jY,aTk,cTk,qj,eTk,gTk,rTk,mTk,qm,dlS,pTk,xu,cnC,List.length_map];(try simp only [ite_and]);(repeat' (first|with_reducible assumption|refine And.intro ?_ ?_|intro hp));all_goals (first|(refine hQ _ ?_;clear hQ Q)|(refine hQ _ (fun h=>?_) (fun h=>?_) <;> clear hQ Q <;> (try simp only [vki,reduceCtorEq] at h))|(refine vq ?_;kernel_rfl)|omega|assumption|with_reducible rfl|skip)))
  (simp only [vrt,Tryz.results88,vkt,seval,wB,jY,aTk,cTk,qj,eTk,gTk,rTk,mTk,qm,dlS,pTk,xu,cnC,List.length_map];refine Fin.ok some [] ?_ ?_ ?_ ?_ ?_ rfl;all_goals (try simp only [vle,vkt,seval,wB,jY,aTk,cTk,qj,eTk,gTk,rTk,mTk,qm,dlS,pTk,xu,cnC,List.length_map]))
  all_goals first|rfl|(simp;done)
def U0 (P:Int) (S:St):List AV→Option Pk
 |[.row r,.clo f [.ptr t 0]]=>match S.h r with
  |some (.row e k xs)=>match S.h t with
   |some (.cells [.v (.int .i64 Q)])=>some { pre:=f=89∧Q=P∧xs=(xs.map dTk).map eTk∧xs.length≤100,hs:=[r,t],ar:=[.row 0,.clo 89 [.ptr 1 0]],L0:=[.row 64 7 xs,.cells (cnC P)],v:=bif (xs.map dTk).any (cnB P) then .row 2 else .row 0,L1:=bif (xs.map dTk).any (cnB P) then [none,some (.cells (cnC P)),some (.row 64 7 (((xs.map dTk).filter (ndB (cnB P))).map eTk))] else [some (.row 64 7 xs),some (.cells (cnC P))] }
   |_=>none
  |_=>none
 |_=>none
theorem eDel {A:Frm→Prop} {P:Int}:qD A Tryz.prog 88 (fnE (U0 P)):=zW fun S bs q h hp=>by
 unfold U0 at h
 split at h
 ·split at h
  ·split at h
   ·rename_i xs _ _ _
    cases h
    obtain ⟨_,_,h1,h2⟩:=hp
    simp only at h1 h2 ⊢
    cases hq:(List.map dTk _).any (cnB P) with
    |true =>
     have:=Qgc P (List.map dTk _) (by rw [List.length_map];exact h2) hq
     rw [qm,← h1] at this
     exact this
    |false =>
     have:=QfZ P (List.map dTk _) (by rw [List.length_map];exact h2) hq
     rw [qm,← h1] at this
     exact this
   ·cases h
  ·cases h
 ·cases h
theorem QhQ {P:Int} {l:List Tk} (h:l.any (cnB P)=true):(Qv P l).length < l.length:=by
 unfold Qv
 rw [List.length_filter_lt_length_iff_exists]
 obtain ⟨t,ht,h1⟩:=List.any_eq_true.1 h
 exact ⟨t,ht,by unfold cnB at h1;rw [h1];decide⟩
theorem QhX {P:Int} {l:List Tk} (h:l.any (cnB P)=false):Qv P l=l:=QhE fun t ht=>by
 have:=List.any_eq_false.1 h t ht
 unfold cnB at this
 simpa using this
def xM:=vj @ty3 (vj @xh (vj @jG (vj @QX (vj @ym (vj @WZ (vj @ti3.eq_1 (vj @vF.eq_1 (vj @jh.eq_1 (vj @Qc.eq_1 (vj @jS.eq_1 @ZI.eq_1))))))))))
def Ya:=vj @aI.eq_1 (@aB.eq_1)
set_option maxHeartbeats 4000000 in
theorem Qe8 (c:Chart) (P:Int) (hc:c.cabins.length≤maxLen):FnV Tryz.prog 34 [qa c,aI P] (.tup [qa (ji c P).1,aI (ji c P).2]):=by
 have env:Env (fun _=>True) Tryz.prog tyB (tab [(76,qQ true zZ),(79,fnE jc),(88,fnE (U0 P))]):=qH ⟨XA,Ls,eDel,trivial⟩
 refine Fn.of (A:=fun _=>True) (n0:=0) (D:=noD) (Fn0 Tryz.func34 rfl (fun vs w=>by kernel_rfl) (by kernel_rfl)) (by simp) (by simp [AV.ids,AV.idsL,qa,qb,aI]) (fun i o h=>by cases h) (fun _ _ _ _=>trivial) qF ?_
 have ec:(⟨c.cabins,c.secs,c.sold⟩:Chart)=c:=rfl
 have hmx:(100000:Nat)≤maxLen:=by decide
 obtain ⟨e,he⟩:∃ e,zY c=e:=⟨_,rfl⟩
 by_cases h0:e=0
 ·rw [h0] at he
  have hv:=xV he
  have b1:c.cabins.length≤100000:=by have:=hv.car.cabs;omega
  have b2:c.sold.length≤100000:=by have:=hv.many;omega
  have b3:c.sold.length≤100:=by have:=hv.many;omega
  cases ha:c.sold.any (cnB P) with
  |true =>
   have hk:=QhQ ha
   have hA:ji c P=(⟨c.cabins,c.secs,Qv P c.sold⟩,0):=by
    unfold ji
    rw [he,if_neg (by decide),if_neg (by omega)]
   rw [hA]
   have hkl:c.sold.filter (ndB (cnB P))=Qv P c.sold:=rfl
   have d1:decide (((Qv P c.sold).length:Int)=(c.sold.length:Int))=false:=decide_eq_false (by omega)
   repeat' (first|(apply nx;with_reducible constructor)|refine uq (by decide) ?_|((first|refine vx env fun Q hQ=>?_|refine vz fun Q hQ=>?_);simp only [vkt,seval,xM,Ya,aTk,cTk,eTk,rTk,mTk,qd,qa,qb,qp,qm,qy,cnC,zZ,jc,U0,List.length_map,List.map_cons,List.map_nil,cond_true,cond_false,ec,he,hc,b1,b2,b3,ha,hkl,d1,decide_true];(try simp only [ite_and]);(repeat' (first|with_reducible assumption|refine And.intro ?_ ?_|intro hp));all_goals (first|(refine hQ _ ?_;clear hQ Q)|(refine hQ _ (fun h=>?_) (fun h=>?_) <;> clear hQ Q <;> (try simp only [vki,reduceCtorEq] at h))|(refine vq ?_;kernel_rfl)|omega|assumption|with_reducible rfl|skip)))
   (simp only [vrt,Tryz.results34,vkt,seval,xM,Ya,aTk,cTk,eTk,rTk,mTk,qd,qa,qb,qp,qm,qy,cnC,zZ,jc,U0,List.length_map,List.map_cons,List.map_nil,cond_true,cond_false];refine Fin.val rfl ?_;(try simp only [AV.le,AV.leL]))
   all_goals first|rfl|(simp;done)|exact ⟨⟨trivial,trivial,⟨_,_,rfl⟩,trivial⟩,trivial,trivial⟩
  |false =>
   have hA:ji c P=(⟨[],0,[]⟩,3):=by
    unfold ji
    rw [he,if_neg (by decide),QhX ha,if_pos rfl]
   rw [hA]
   repeat' (first|(apply nx;with_reducible constructor)|refine uq (by decide) ?_|((first|refine vx env fun Q hQ=>?_|refine vz fun Q hQ=>?_);simp only [vkt,seval,xM,Ya,aTk,cTk,eTk,rTk,mTk,qd,qa,qb,qp,qm,qy,cnC,zZ,jc,U0,List.length_map,List.map_cons,List.map_nil,cond_true,cond_false,ec,he,hc,b1,b2,b3,ha,decide_true];(try simp only [ite_and]);(repeat' (first|with_reducible assumption|refine And.intro ?_ ?_|intro hp));all_goals (first|(refine hQ _ ?_;clear hQ Q)|(refine hQ _ (fun h=>?_) (fun h=>?_) <;> clear hQ Q <;> (try simp only [vki,reduceCtorEq] at h))|(refine vq ?_;kernel_rfl)|omega|assumption|with_reducible rfl|skip)))
   (simp only [vrt,Tryz.results34,vkt,seval,xM,Ya,aTk,cTk,eTk,rTk,mTk,qd,qa,qb,qp,qm,qy,cnC,zZ,jc,U0,List.length_map,List.map_cons,List.map_nil,cond_true,cond_false];refine Fin.val rfl ?_;(try simp only [AV.le,AV.leL]))
   all_goals first|rfl|(simp;done)
 ·have d0:decide (e=0)=false:=decide_eq_false h0
  have hA:ji c P=(⟨[],0,[]⟩,e):=by
   unfold ji
   rw [he,if_pos h0]
  rw [hA]
  repeat' (first|(apply nx;with_reducible constructor)|refine uq (by decide) ?_|((first|refine vx env fun Q hQ=>?_|refine vz fun Q hQ=>?_);simp only [vkt,seval,xM,Ya,aTk,cTk,eTk,rTk,mTk,qd,qa,qb,qp,qm,qy,cnC,zZ,jc,U0,List.length_map,List.map_cons,List.map_nil,cond_true,cond_false,ec,he,hc,d0];(try simp only [ite_and]);(repeat' (first|with_reducible assumption|refine And.intro ?_ ?_|intro hp));all_goals (first|(refine hQ _ ?_;clear hQ Q)|(refine hQ _ (fun h=>?_) (fun h=>?_) <;> clear hQ Q <;> (try simp only [vki,reduceCtorEq] at h))|(refine vq ?_;kernel_rfl)|omega|assumption|with_reducible rfl|skip)))
  (simp only [vrt,Tryz.results34,vkt,seval,xM,Ya,aTk,cTk,eTk,rTk,mTk,qd,qa,qb,qp,qm,qy,cnC,zZ,jc,U0,List.length_map,List.map_cons,List.map_nil,cond_true,cond_false];refine Fin.val rfl ?_;(try simp only [AV.le,AV.leL]))
  all_goals first|rfl|(simp;done)
def wQ:List AV→Prop × AV
 |[.agg [.sl x0,.v (.int .i64 x1),.sl x2],.v (.int .i64 n)]=>(x0=(x0.map qo).map qg∧x2=(x2.map dTk).map eTk∧((⟨(x0.map qo),x1,(x2.map dTk)⟩:Chart)).cabins.length≤maxLen,.tup [qa (ji ((⟨(x0.map qo),x1,(x2.map dTk)⟩:Chart)) n).1,aI (ji ((⟨(x0.map qo),x1,(x2.map dTk)⟩:Chart)) n).2])
 |_=>(False,.junk)
theorem Qh6 {A:Frm→Prop}:qD A Tryz.prog 34 (qQ false wQ):=qR fun vs hv h=>by
 clear hv
 unfold wQ at h ⊢
 split at h
 ·rename_i x0 x1 x2 n;obtain ⟨q0,q1,k0⟩:=h
  refine ⟨by first|trivial|(simp [AV.plain,AV.plainL,aI,aB,qz,qc,qj,qf,aTk,cTk];done)|(repeat' split) <;> simp [AV.plain,AV.plainL,aI,aB,qz,qc,qj,qf,aTk,cTk],fun h=>absurd h (by decide), ?_⟩
  have:=Qe8 ((⟨(x0.map qo),x1,(x2.map dTk)⟩:Chart)) n k0
  simp only [qM,qa,aI,qj,qb,← q0,← q1] at this
  first|exact this|(simp only [qM,qa,aI,qj,qb,← q0,← q1];exact this)
 ·exact h.elim
end Go.Sym.B
namespace Go.Sym.B
open Go Go.Sym Go.Proofs Go.RowKit
def spI:Sp:=.int .i64
def spB:Sp:=.bool
theorem QjQ (r:List DV) (h:r.length=1) (hs:∀ (j:Nat) (s:Sp) (d:DV),[spI][j]?=some s→r[j]?=some d→D1 s d):∃ a,r=zD a:=by
 obtain ⟨d,rfl⟩:=List.length_eq_one_iff.1 h
 obtain ⟨n,rfl,_⟩:=(hs 0 spI d rfl rfl).int_inv
 exact ⟨n,rfl⟩
theorem QkD (r:List DV) (h:r.length=2) (hs:∀ (j:Nat) (s:Sp) (d:DV),[spI,spB][j]?=some s→r[j]?=some d→D1 s d):∃ a,r=qg a:=by
 match r,h with
 |[a,b],_ =>
  obtain ⟨n,rfl,_⟩:=(hs 0 spI a rfl rfl).int_inv
  obtain ⟨m,rfl⟩:=(hs 1 spB b rfl rfl).bool_inv
  exact ⟨⟨n,m⟩,rfl⟩
theorem eT_of (r:List DV) (h:r.length=7) (hs:∀ (j:Nat) (s:Sp) (d:DV),[spI,spI,spI,spI,spI,spI,spB][j]?=some s→r[j]?=some d→D1 s d):∃ a,r=eTk a:=by
 match r,h with
 |[a,b,c,d,e,f,g],_ =>
  obtain ⟨n1,rfl,_⟩:=(hs 0 spI a rfl rfl).int_inv
  obtain ⟨n2,rfl,_⟩:=(hs 1 spI b rfl rfl).int_inv
  obtain ⟨n3,rfl,_⟩:=(hs 2 spI c rfl rfl).int_inv
  obtain ⟨n4,rfl,_⟩:=(hs 3 spI d rfl rfl).int_inv
  obtain ⟨n5,rfl,_⟩:=(hs 4 spI e rfl rfl).int_inv
  obtain ⟨n6,rfl,_⟩:=(hs 5 spI f rfl rfl).int_inv
  obtain ⟨n7,rfl⟩:=(hs 6 spB g rfl rfl).bool_inv
  exact ⟨⟨n1,n2,n3,n4,n5,n6,n7⟩,rfl⟩
def spC:List Sp:=[.sl [spI,spB],spI,.sl [spI,spI,spI,spI,spI,spI,spB]]
def spA:List Sp:=[spI,spI,spI,.sl [spI],spB]
theorem flI:Fl Tryz.prog 3 [spI]:=Zn (n:=6) (by kernel_rfl)
theorem flN:Fl Tryz.prog 26 [.sl [spI]]:=Zn (n:=6) (by kernel_rfl)
theorem flC:Fl Tryz.prog 25 spC:=Zn (n:=6) (by kernel_rfl)
theorem flA:Fl Tryz.prog 28 spA:=Zn (n:=6) (by kernel_rfl)
variable {H : Type} {enc : TypeId × Value → H} {W : World} {base : Nat} {spare : Nat → Bool} {held : Bool}
theorem QhY {fuel:Nat} {v:Value} {x:DataW H × List MemPlace} (h:DataW.trod enc Tryz.prog W base spare held fuel 3 [v]=some x):∃ n,ARel W (okW W) Xo undef (aI n) v:=by
 obtain ⟨ds,hd⟩:=JR flI h
 obtain ⟨d,rfl,h1,h2⟩:=hd.one_inv
 obtain ⟨n,rfl,_⟩:=h1.int_inv
 exact ⟨n,X7 h2⟩
theorem QgU {fuel:Nat} {v:Value} {x:DataW H × List MemPlace} (h:DataW.trod enc Tryz.prog W base spare held fuel 26 [v]=some x):∃ l:List Int,ARel W (okW W) Xo undef (qz l) v∧l.length≤maxLen:=by
 obtain ⟨ds,hd⟩:=JR flN h
 obtain ⟨d,rfl,h1,h2⟩:=hd.one_inv
 obtain ⟨l,rfl,hl⟩:=h1.sl_inv zD QjQ
 exact ⟨l,X7 h2,hl⟩
theorem QeN {fuel:Nat} {cs:Array Value} {x:DataW H × List MemPlace} (h:DataW.trod enc Tryz.prog W base spare held fuel 25 cs.toList=some x):∃ l:Chart,ARel W (okW W) Xo undef (qa l) (.agg cs):=by
 obtain ⟨ds,hd⟩:=JR flC h
 match ds,hd with
 |[a,b,c],hd =>
  obtain ⟨l1,rfl,_⟩:=(hd.shape 0 _ a rfl rfl).sl_inv qg QkD
  obtain ⟨n,rfl,_⟩:=(hd.shape 1 _ b rfl rfl).int_inv
  obtain ⟨l3,rfl,_⟩:=(hd.shape 2 _ c rfl rfl).sl_inv eTk eT_of
  exact ⟨⟨l1,n,l3⟩,hd.agg⟩
 |[],hd=>exact absurd hd.len (by simp [spC])
 |[_],hd=>exact absurd hd.len (by simp [spC])
 |[_,_],hd=>exact absurd hd.len (by simp [spC])
 |_ :: _ :: _ :: _ :: _,hd=>exact absurd hd.len (by simp [spC])
theorem Qjl {fuel:Nat} {cs:Array Value} {x:DataW H × List MemPlace} (h:DataW.trod enc Tryz.prog W base spare held fuel 28 cs.toList=some x):∃ l:Ask,ARel W (okW W) Xo undef (qx l) (.agg cs)∧l.sexes.length≤maxLen:=by
 obtain ⟨ds,hd⟩:=JR flA h
 match ds,hd with
 |[a,b,c,d,e],hd =>
  obtain ⟨n1,rfl,_⟩:=(hd.shape 0 _ a rfl rfl).int_inv
  obtain ⟨n2,rfl,_⟩:=(hd.shape 1 _ b rfl rfl).int_inv
  obtain ⟨n3,rfl,_⟩:=(hd.shape 2 _ c rfl rfl).int_inv
  obtain ⟨l3,rfl,hl⟩:=(hd.shape 3 _ d rfl rfl).sl_inv zD QjQ
  obtain ⟨n5,rfl⟩:=(hd.shape 4 _ e rfl rfl).bool_inv
  exact ⟨⟨n1,n2,n3,l3,n5⟩,hd.agg,hl⟩
 |[],hd=>exact absurd hd.len (by simp [spA])
 |[_],hd=>exact absurd hd.len (by simp [spA])
 |[_,_],hd=>exact absurd hd.len (by simp [spA])
 |[_,_,_],hd=>exact absurd hd.len (by simp [spA])
 |[_,_,_,_],hd=>exact absurd hd.len (by simp [spA])
 |_ :: _ :: _ :: _ :: _ :: _ :: _,hd=>exact absurd hd.len (by simp [spA])
theorem Rq {v:Value} (h:v.cells.toList.length ≠ 1):∃ cs,v=.agg cs:=by
 cases v <;> first|exact ⟨_,rfl⟩|(simp [Value.cells] at h)
theorem chart_of {v:Value} {d:DataW H} {p:List MemPlace} (h:DataW.Trod enc Tryz.prog W base spare held 25 v d p):∃ l:Chart,ARel W (okW W) Xo undef (qa l) v:=by
 obtain ⟨fuel,hf⟩:=h
 obtain ⟨ds,hd⟩:=JR flC hf
 obtain ⟨cs,rfl⟩:=Rq (v:=v) (by rw [hd.clen];simp [spC])
 exact QeN hf
theorem ask_of {v:Value} {d:DataW H} {p:List MemPlace} (h:DataW.Trod enc Tryz.prog W base spare held 28 v d p):∃ l:Ask,ARel W (okW W) Xo undef (qx l) v∧l.sexes.length≤maxLen:=by
 obtain ⟨fuel,hf⟩:=h
 obtain ⟨ds,hd⟩:=JR flA hf
 obtain ⟨cs,rfl⟩:=Rq (v:=v) (by rw [hd.clen];simp [spA])
 exact Qjl hf
set_option maxRecDepth 100000 in
theorem int_of {v:Value} {d:DataW H} {p:List MemPlace} {r:Reach} {b0:Nat} (h:DataW.Trod enc Tryz.prog W base spare held 3 v d p) (hu:Tryz.prog.underlying 3=some (.int .i64)) (hv:Value.okWide Tryz.prog W r b0 3 v):∃ n:Int,ARel W (okW W) Xo undef (aI n) v:=by
 obtain ⟨fuel,hf⟩:=h
 obtain ⟨n,rfl⟩:=WideShapes.okWide_int hu hv
 exact QhY hf
set_option maxRecDepth 100000 in
theorem ints_of {v:Value} {d:DataW H} {p:List MemPlace} {r:Reach} {b0:Nat} (h:DataW.Trod enc Tryz.prog W base spare held 26 v d p) (hu:Tryz.prog.underlying 26=some (.slice 3)) (hv:Value.okWide Tryz.prog W r b0 26 v):∃ l:List Int,ARel W (okW W) Xo undef (qz l) v∧l.length≤maxLen:=by
 obtain ⟨fuel,hf⟩:=h
 obtain ⟨a,n,c,rfl⟩:=WideShapes.okWide_slice hu hv
 exact QgU hf
end Go.Sym.B
namespace Go.Sym.B
open Go Go.Sym Go.Proofs Go.Sym.C
def jP:List AV→Prop × AV
 |[.agg [.sl x0,.v (.int .i64 x1),.sl x2],.agg [.v (.int .i64 y0),.v (.int .i64 y1),.v (.int .i64 y2),.sl y3,.v (.bool y4)]]=>(x0=(x0.map qo).map qg∧x2=(x2.map dTk).map eTk∧y3=(y3.map za).map zD∧((⟨(x0.map qo),x1,(x2.map dTk)⟩:Chart)).cabins.length≤maxLen∧((⟨y0,y1,y2,(y3.map za),y4⟩:Ask)).sexes.length≤maxLen,.tup [qa (Zg ((⟨(x0.map qo),x1,(x2.map dTk)⟩:Chart)) ((⟨y0,y1,y2,(y3.map za),y4⟩:Ask))).1,aI (Zg ((⟨(x0.map qo),x1,(x2.map dTk)⟩:Chart)) ((⟨y0,y1,y2,(y3.map za),y4⟩:Ask))).2])
 |_=>(False,.junk)
theorem Qks {A:Frm→Prop}:qD A Tryz.prog 32 (qQ false jP):=qR fun vs hv h=>by
 clear hv
 unfold jP at h ⊢
 split at h
 ·rename_i x0 x1 x2 y0 y1 y2 y3 y4;obtain ⟨q0,q1,q2,k0,k1⟩:=h
  refine ⟨by first|trivial|(simp [AV.plain,AV.plainL,aI,aB,qz,qc,qj,qf,aTk,cTk];done)|(repeat' split) <;> simp [AV.plain,AV.plainL,aI,aB,qz,qc,qj,qf,aTk,cTk],fun h=>absurd h (by decide), ?_⟩
  have:=Qi3 ((⟨(x0.map qo),x1,(x2.map dTk)⟩:Chart)) ((⟨y0,y1,y2,(y3.map za),y4⟩:Ask)) k0 k1
  simp only [qx,aB,qM,qa,aI,qz,qj,qh,qb,← q0,← q1,← q2] at this
  first|exact this|(simp only [qx,aB,qM,qa,aI,qz,qj,qh,qb,← q0,← q1,← q2];exact this)
 ·exact h.elim
theorem QhF (c:Chart) (a:Ask):(wG c a).1.length≤1000:=by
 by_cases hb:zq c a=0
 ·rcases Qam hb (plP c a).length (Nat.le_refl _) with ⟨_,h2⟩|⟨h1,h2⟩
  ·rw [show (wG c a).1=[] by unfold wG;rw [if_pos hb,h2];rfl];decide
  ·have:=QgA h2
   have hs:=(QaS (vg hb).2)
   rw [show (wG c a).1=((plP c a).getD (mxK (rsF c a) (plP c a).length).2 default).1 by unfold wG;rw [if_pos hb,h1];rfl]
   omega
 ·rw [show (wG c a).1=[] by unfold wG;rw [if_neg hb]];decide
theorem Qh5 (c:Chart) (a:Ask):(Zg c a).1.cabins.length≤c.cabins.length∧(Zg c a).1.sold.length≤c.sold.length+1000:=by
 have:=QhF c a
 unfold Zg
 split
 ·exact ⟨Nat.zero_le _,Nat.zero_le _⟩
 split
 ·exact ⟨Nat.zero_le _,Nat.zero_le _⟩
 ·refine ⟨Nat.le_refl _, ?_⟩
  show (c.sold++vB a (wG c a).1 (wG c a).1.length).length≤_
  rw [List.length_append,WA];omega
theorem Qe1 (c:Chart) (P:Int):(ji c P).1.cabins.length≤c.cabins.length∧(ji c P).1.sold.length≤c.sold.length:=by
 unfold ji
 split
 ·exact ⟨Nat.zero_le _,Nat.zero_le _⟩
 split
 ·exact ⟨Nat.zero_le _,Nat.zero_le _⟩
 ·exact ⟨Nat.le_refl _,List.length_filter_le _ _⟩
def QG (c C:Chart) (a:Ask) (P own y:Int):St:={ t:=asg [(2,aI P),(4,.ptr 0 0),(5,.ptr 1 0),(9,.ptr 2 0),(10,.ptr 3 0),(11,aI own)],h:=ql [(0,.cells (qb c)),(1,.cells (qh a)),(2,.cells [.v (.int .u64 y)]),(3,.cells (qb C))],n:=4 }
def Qx (CL:List Chart) (AL:List Ask) (NL:List Int) (i:Nat):St:={ t:=asg [(12,.row 9),(13,.row 10),(14,.row 11),(15,aI i)],h:=ql [(9,.row 25 3 (CL.map jg)),(10,.row 28 5 (AL.map Qr)),(11,.row 3 1 (NL.map zD))],n:=12 }
def wE:=vj @ty3 (vj @xh (vj @jG (vj @QV (vj @QF (vj @ty34 (vj @ty37 (vj @QX (vj @ym (vj @ti3.eq_1 (vj @vF.eq_1 (vj @jh.eq_1 (vj @Qn.eq_1 (vj @kY.eq_1 (vj @ti34.eq_1 (vj @ti37.eq_1 (vj @Qc.eq_1 @jS.eq_1))))))))))))))))
def yG:=vj @aI.eq_1 (vj @aB.eq_1 (vj @qz.eq_1 (vj @zD.eq_1 (vj @Kr (vj @Qas (@Q4))))))
set_option maxRecDepth 100000 in
set_option maxHeartbeats 40000000 in
theorem sellsLaw_fn (c:Chart) (a:Ask) (P:Int) (nums:List Int) (hnums:nums.length≤maxLen):FnV Tryz.prog 6 [qa c,qx a,aI P,qz nums] (aB true):=by
 have env:Env (fun _=>True) Tryz.prog tyB (tab [(8,qQ true jK),(10,fnE QZ),(13,fnE zz),(31,fnE pUp),(11,fnE zS),(12,fnE zQ),(14,qQ false jM),(15,qQ false jR),(32,qQ false jP),(33,qQ false jL),(34,qQ false wQ),(35,qQ false zR),(21,qQ true QQ),(22,qQ true QY),(9,qQ true zP)]):=qH ⟨QjV,eBag,QfB,eUp,QfN,QfT,Qku,Qko,Qks,QkU,Qh6,Qf4,eeqC,eeqA,QgW,trivial⟩
 refine Fn.of (A:=fun _=>True) (n0:=0) (D:=noD) (Fn0 Tryz.func6 rfl (fun vs w=>by kernel_rfl) (by kernel_rfl)) (by simp) (by simp [AV.ids,AV.idsL,aI,qz,qa,qb,qx,qh]) (fun i o h=>by cases h) (fun _ _ _ _=>trivial) qF ?_
 cases q0:decide (20 < (c.cabins.length:Int)) with
 |true =>
  repeat' (first|(apply nx;with_reducible constructor)|refine uq (by decide) ?_|((first|refine vx env fun Q hQ=>?_|refine vz fun Q hQ=>?_);simp only [vkt,seval,wE,yG,aTk,cTk,gTk,qg,eTk,jg,Qr,yE,Zy,rTk,qW,mTk,qd,qa,qb,qx,qh,QG,Qx,jK,QZ,zz,pUp,zS,zQ,jM,jR,jP,jL,wQ,zR,QQ,QY,zP,List.length_map,q0,Bool.true_or];(try simp only [ite_and]);(repeat' (first|with_reducible assumption|refine And.intro ?_ ?_|intro hp));all_goals (first|(refine hQ _ ?_;clear hQ Q)|(refine hQ _ (fun h=>?_) (fun h=>?_) <;> clear hQ Q <;> (try simp only [vki,reduceCtorEq] at h))|(refine vq ?_;kernel_rfl)|omega|assumption|with_reducible rfl|skip)))
  (simp only [vrt,Tryz.results6,vkt,seval,wE,yG,aTk,cTk,gTk,qg,eTk,jg,Qr,yE,Zy,rTk,qW,mTk,qd,qa,qb,qx,qh,QG,Qx,jK,QZ,zz,pUp,zS,zQ,jM,jR,jP,jL,wQ,zR,QQ,QY,zP,List.length_map];refine Fin.val rfl ?_;(try simp only [AV.le,AV.leL]))
  all_goals first|rfl|(simp;done)
 |false =>
 cases q1:decide (20 < (c.sold.length:Int)) with
 |true =>
  repeat' (first|(apply nx;with_reducible constructor)|refine uq (by decide) ?_|((first|refine vx env fun Q hQ=>?_|refine vz fun Q hQ=>?_);simp only [vkt,seval,wE,yG,aTk,cTk,gTk,qg,eTk,jg,Qr,yE,Zy,rTk,qW,mTk,qd,qa,qb,qx,qh,QG,Qx,jK,QZ,zz,pUp,zS,zQ,jM,jR,jP,jL,wQ,zR,QQ,QY,zP,List.length_map,q0,q1,Bool.false_or];(try simp only [ite_and]);(repeat' (first|with_reducible assumption|refine And.intro ?_ ?_|intro hp));all_goals (first|(refine hQ _ ?_;clear hQ Q)|(refine hQ _ (fun h=>?_) (fun h=>?_) <;> clear hQ Q <;> (try simp only [vki,reduceCtorEq] at h))|(refine vq ?_;kernel_rfl)|omega|assumption|with_reducible rfl|skip)))
  (simp only [vrt,Tryz.results6,vkt,seval,wE,yG,aTk,cTk,gTk,qg,eTk,jg,Qr,yE,Zy,rTk,qW,mTk,qd,qa,qb,qx,qh,QG,Qx,jK,QZ,zz,pUp,zS,zQ,jM,jR,jP,jL,wQ,zR,QQ,QY,zP,List.length_map];refine Fin.val rfl ?_;(try simp only [AV.le,AV.leL]))
  all_goals first|rfl|(simp;done)
 |false =>
 cases q2:decide (20 < (a.sexes.length:Int)) with
 |true =>
  repeat' (first|(apply nx;with_reducible constructor)|refine uq (by decide) ?_|((first|refine vx env fun Q hQ=>?_|refine vz fun Q hQ=>?_);simp only [vkt,seval,wE,yG,aTk,cTk,gTk,qg,eTk,jg,Qr,yE,Zy,rTk,qW,mTk,qd,qa,qb,qx,qh,QG,Qx,jK,QZ,zz,pUp,zS,zQ,jM,jR,jP,jL,wQ,zR,QQ,QY,zP,List.length_map,q0,q1,q2,Bool.false_or];(try simp only [ite_and]);(repeat' (first|with_reducible assumption|refine And.intro ?_ ?_|intro hp));all_goals (first|(refine hQ _ ?_;clear hQ Q)|(refine hQ _ (fun h=>?_) (fun h=>?_) <;> clear hQ Q <;> (try simp only [vki,reduceCtorEq] at h))|(refine vq ?_;kernel_rfl)|omega|assumption|with_reducible rfl|skip)))
  (simp only [vrt,Tryz.results6,vkt,seval,wE,yG,aTk,cTk,gTk,qg,eTk,jg,Qr,yE,Zy,rTk,qW,mTk,qd,qa,qb,qx,qh,QG,Qx,jK,QZ,zz,pUp,zS,zQ,jM,jR,jP,jL,wQ,zR,QQ,QY,zP,List.length_map];refine Fin.val rfl ?_;(try simp only [AV.le,AV.leL]))
  all_goals first|rfl|(simp;done)
 |false =>
 have g0:=of_decide_eq_false q0
 have g1:=of_decide_eq_false q1
 have g2:=of_decide_eq_false q2
 obtain ⟨x0,hx0⟩:∃ x,nbS nums=x:=⟨_,rfl⟩
 obtain ⟨hC0,hCp,hCs,hCc,hCg⟩:=co_ok (x:=x0) (a:=3) (g:=5) (s:=8) (by decide) (by decide) (by decide)
 obtain ⟨C,hC⟩:∃ C,coC x0 3 5 8=C:=⟨_,rfl⟩
 obtain ⟨x1,hx1⟩:∃ x,coX x0 3 5 8=x:=⟨_,rfl⟩
 rw [hC] at hC0 hCp hCs hCc hCg
 have hsec:=(xV hC0).car.secs
 have h31:(3:Int) - 1=2:=rfl
 have hmx:(100000:Nat)≤maxLen:=by decide
 have c1:C.cabins.length≤maxLen:=by omega
 have c2:C.sold.length≤maxLen:=by omega
 have c3:c.cabins.length≤maxLen:=by omega
 have c4:c.sold.length≤maxLen:=by omega
 have c5:a.sexes.length≤maxLen:=by omega
 have eC:(⟨C.cabins,C.secs,C.sold⟩:Chart)=C:=rfl
 repeat' (first|(apply nx;with_reducible constructor)|refine uq (by decide) ?_)
 ((first|refine vx env fun Q hQ=>?_|refine vz fun Q hQ=>?_);simp only [vkt,seval,wE,yG,aTk,cTk,gTk,qg,eTk,jg,Qr,yE,Zy,rTk,qW,mTk,qd,qa,qb,qx,qh,QG,Qx,jK,QZ,zz,pUp,zS,zQ,jM,jR,jP,jL,wQ,zR,QQ,QY,zP,List.length_map];(try simp only [ite_and]);(repeat' (first|with_reducible assumption|refine And.intro ?_ ?_|intro hp));all_goals (first|(refine hQ _ ?_;clear hQ Q)|(refine hQ _ (fun h=>?_) (fun h=>?_) <;> clear hQ Q <;> (try simp only [vki,reduceCtorEq] at h))|(refine vq ?_;kernel_rfl)|omega|assumption|with_reducible rfl|skip))
 repeat' (first|(apply nx;with_reducible constructor)|refine uq (by decide) ?_)
 ((first|refine vx env fun Q hQ=>?_|refine vz fun Q hQ=>?_);simp only [vkt,seval,wE,yG,aTk,cTk,gTk,qg,eTk,jg,Qr,yE,Zy,rTk,qW,mTk,qd,qa,qb,qx,qh,QG,Qx,jK,QZ,zz,pUp,zS,zQ,jM,jR,jP,jL,wQ,zR,QQ,QY,zP,List.length_map,q0,q1,q2,Bool.false_or];(try simp only [ite_and]);(repeat' (first|with_reducible assumption|refine And.intro ?_ ?_|intro hp));all_goals (first|(refine hQ _ ?_;clear hQ Q)|(refine hQ _ (fun h=>?_) (fun h=>?_) <;> clear hQ Q <;> (try simp only [vki,reduceCtorEq] at h))|(refine vq ?_;kernel_rfl)|omega|assumption|with_reducible rfl|skip))
 repeat' (first|(apply nx;with_reducible constructor)|refine uq (by decide) ?_)
 ((first|refine vx env fun Q hQ=>?_|refine vz fun Q hQ=>?_);simp only [vkt,seval,wE,yG,aTk,cTk,gTk,qg,eTk,jg,Qr,yE,Zy,rTk,qW,mTk,qd,qa,qb,qx,qh,QG,Qx,jK,QZ,zz,pUp,zS,zQ,jM,jR,jP,jL,wQ,zR,QQ,QY,zP,List.length_map];(try simp only [ite_and]);(repeat' (first|with_reducible assumption|refine And.intro ?_ ?_|intro hp));all_goals (first|(refine hQ _ ?_;clear hQ Q)|(refine hQ _ (fun h=>?_) (fun h=>?_) <;> clear hQ Q <;> (try simp only [vki,reduceCtorEq] at h))|(refine vq ?_;kernel_rfl)|omega|assumption|with_reducible rfl|skip))
 repeat' (first|(apply nx;with_reducible constructor)|refine uq (by decide) ?_)
 ((first|refine vx env fun Q hQ=>?_|refine vz fun Q hQ=>?_);simp only [vkt,seval,wE,yG,aTk,cTk,gTk,qg,eTk,jg,Qr,yE,Zy,rTk,qW,mTk,qd,qa,qb,qx,qh,QG,Qx,jK,QZ,zz,pUp,zS,zQ,jM,jR,jP,jL,wQ,zR,QQ,QY,zP,List.length_map,hx0];(try simp only [ite_and]);(repeat' (first|with_reducible assumption|refine And.intro ?_ ?_|intro hp));all_goals (first|(refine hQ _ ?_;clear hQ Q)|(refine hQ _ (fun h=>?_) (fun h=>?_) <;> clear hQ Q <;> (try simp only [vki,reduceCtorEq] at h))|(refine vq ?_;kernel_rfl)|omega|assumption|with_reducible rfl|skip))
 repeat' (first|(apply nx;with_reducible constructor)|refine uq (by decide) ?_)
 ((first|refine vx env fun Q hQ=>?_|refine vz fun Q hQ=>?_);simp only [vkt,seval,wE,yG,aTk,cTk,gTk,qg,eTk,jg,Qr,yE,Zy,rTk,qW,mTk,qd,qa,qb,qx,qh,QG,Qx,jK,QZ,zz,pUp,zS,zQ,jM,jR,jP,jL,wQ,zR,QQ,QY,zP,List.length_map,hC,hx1];(try simp only [ite_and]);(repeat' (first|with_reducible assumption|refine And.intro ?_ ?_|intro hp));all_goals (first|(refine hQ _ ?_;clear hQ Q)|(refine hQ _ (fun h=>?_) (fun h=>?_) <;> clear hQ Q <;> (try simp only [vki,reduceCtorEq] at h))|(refine vq ?_;kernel_rfl)|omega|assumption|with_reducible rfl|skip))
 repeat' (first|(apply nx;with_reducible constructor)|refine uq (by decide) ?_)
 ((first|refine vx env fun Q hQ=>?_|refine vz fun Q hQ=>?_);simp only [vkt,seval,wE,yG,aTk,cTk,gTk,qg,eTk,jg,Qr,yE,Zy,rTk,qW,mTk,qd,qa,qb,qx,qh,QG,Qx,jK,QZ,zz,pUp,zS,zQ,jM,jR,jP,jL,wQ,zR,QQ,QY,zP,List.length_map];(try simp only [ite_and]);(repeat' (first|with_reducible assumption|refine And.intro ?_ ?_|intro hp));all_goals (first|(refine hQ _ ?_;clear hQ Q)|(refine hQ _ (fun h=>?_) (fun h=>?_) <;> clear hQ Q <;> (try simp only [vki,reduceCtorEq] at h))|(refine vq ?_;kernel_rfl)|omega|assumption|with_reducible rfl|skip))
 repeat' (first|(apply nx;with_reducible constructor)|refine uq (by decide) ?_)
 ((first|refine vx env fun Q hQ=>?_|refine vz fun Q hQ=>?_);simp only [vkt,seval,wE,yG,aTk,cTk,gTk,qg,eTk,jg,Qr,yE,Zy,rTk,qW,mTk,qd,qa,qb,qx,qh,QG,Qx,jK,QZ,zz,pUp,zS,zQ,jM,jR,jP,jL,wQ,zR,QQ,QY,zP,List.length_map];(try simp only [ite_and]);(repeat' (first|with_reducible assumption|refine And.intro ?_ ?_|intro hp));all_goals (first|(refine hQ _ ?_;clear hQ Q)|(refine hQ _ (fun h=>?_) (fun h=>?_) <;> clear hQ Q <;> (try simp only [vki,reduceCtorEq] at h))|(refine vq ?_;kernel_rfl)|omega|assumption|with_reducible rfl|skip))
 repeat' (first|(apply nx;with_reducible constructor)|refine uq (by decide) ?_)
 refine Sym.mono (K:=fun e S1=>e=.normal∧∃ own y,Le S1 (QG c C a P own y)) ?_ ?_
 ·by_cases hz:0 < C.sold.length
  ·have d2:decide ((0:Int) < (C.sold.length:Int))=true:=decide_eq_true (by omega)
   obtain ⟨M,hM⟩:∃ M,(C.sold.length:Int) - 1=M:=⟨_,rfl⟩
   have wM:IntKind.wrap .i64 M=M:=wrap64 (by omega) (by omega)
   have hv:=up2 x1 (m:=M) (by omega) (by omega)
   obtain ⟨v,hV⟩:∃ v,upV x1 M=v:=⟨_,rfl⟩
   obtain ⟨y,hY⟩:∃ y,upS x1 M=y:=⟨_,rfl⟩
   rw [hV] at hv
   have hMl:M < 9223372036854775807:=by omega
   have v0:0≤v:=by omega
   have vl:v.toNat < C.sold.length:=by omega
   have hg:=hTk vl
   obtain ⟨t,ht⟩:∃ t,C.sold.getD v.toNat default=t:=⟨_,rfl⟩
   rw [ht] at hg
   repeat' (first|(apply nx;with_reducible constructor)|refine uq (by decide) ?_|((first|refine vx env fun Q hQ=>?_|refine vz fun Q hQ=>?_);simp only [vkt,seval,wE,yG,aTk,cTk,gTk,qg,eTk,jg,Qr,yE,Zy,rTk,qW,mTk,qd,qa,qb,qx,qh,QG,Qx,jK,QZ,zz,pUp,zS,zQ,jM,jR,jP,jL,wQ,zR,QQ,QY,zP,List.length_map,d2,hM,wM,hV,hY,hMl,v0,vl,hg,ht];(try simp only [ite_and]);(repeat' (first|with_reducible assumption|refine And.intro ?_ ?_|intro hp));all_goals (first|(refine hQ _ ?_;clear hQ Q)|(refine hQ _ (fun h=>?_) (fun h=>?_) <;> clear hQ Q <;> (try simp only [vki,reduceCtorEq] at h))|(refine vq ?_;kernel_rfl)|omega|assumption|with_reducible rfl|skip)))
   refine ⟨rfl,t.party,y, ?_⟩
   simp only [QG]
   (refine Le.ok some [] ?_;constructor;all_goals (try simp only [vle,vkt,seval,wE,yG,aTk,cTk,gTk,qg,eTk,jg,Qr,yE,Zy,rTk,qW,mTk,qd,qa,qb,qx,qh,QG,Qx,jK,QZ,zz,pUp,zS,zQ,jM,jR,jP,jL,wQ,zR,QQ,QY,zP,List.length_map]))
   all_goals first|rfl|(simp;done)
  ·have d2:decide ((0:Int) < (C.sold.length:Int))=false:=decide_eq_false (by omega)
   repeat' (first|(apply nx;with_reducible constructor)|refine uq (by decide) ?_|((first|refine vx env fun Q hQ=>?_|refine vz fun Q hQ=>?_);simp only [vkt,seval,wE,yG,aTk,cTk,gTk,qg,eTk,jg,Qr,yE,Zy,rTk,qW,mTk,qd,qa,qb,qx,qh,QG,Qx,jK,QZ,zz,pUp,zS,zQ,jM,jR,jP,jL,wQ,zR,QQ,QY,zP,List.length_map,d2];(try simp only [ite_and]);(repeat' (first|with_reducible assumption|refine And.intro ?_ ?_|intro hp));all_goals (first|(refine hQ _ ?_;clear hQ Q)|(refine hQ _ (fun h=>?_) (fun h=>?_) <;> clear hQ Q <;> (try simp only [vki,reduceCtorEq] at h))|(refine vq ?_;kernel_rfl)|omega|assumption|with_reducible rfl|skip)))
   refine ⟨rfl,0,x1, ?_⟩
   simp only [QG]
   (refine Le.ok some [] ?_;constructor;all_goals (try simp only [vle,vkt,seval,wE,yG,aTk,cTk,gTk,qg,eTk,jg,Qr,yE,Zy,rTk,qW,mTk,qd,qa,qb,qx,qh,QG,Qx,jK,QZ,zz,pUp,zS,zQ,jM,jR,jP,jL,wQ,zR,QQ,QY,zP,List.length_map]))
   all_goals first|rfl|(simp;done)
 rintro e1 S1 ⟨rfl,own,y1,hle⟩
 refine (xW hle ?_:Sym _ _ _ S1 _)
 clear hle S1
 simp only [QG]
 have hu:=up2 y1 (m:=2) (by omega) (by omega)
 obtain ⟨u,hU⟩:∃ u,upV y1 2=u:=⟨_,rfl⟩
 obtain ⟨x2,hx2⟩:∃ x,upS y1 2=x:=⟨_,rfl⟩
 rw [hU] at hu
 obtain ⟨hA0,hA1,hA2⟩:=ao_ok (x:=x2) (n:=1+u) hC0 hCp (by omega)
 obtain ⟨A,hA⟩:∃ A,aoA x2 C.secs (1+u)=A:=⟨_,rfl⟩
 rw [hA] at hA0 hA1 hA2
 have hu1:1≤1+u∧1+u≤3:=by omega
 obtain ⟨CL,hCL⟩:∃ CL,[c,C,C]=CL:=⟨_,rfl⟩
 obtain ⟨AL,hAL⟩:∃ AL,[a,A,a]=AL:=⟨_,rfl⟩
 obtain ⟨NL,hNL⟩:∃ NL,[P,own,P]=NL:=⟨_,rfl⟩
 have hCl:CL.length=3:=by rw [← hCL];rfl
 have hAl:AL.length=3:=by rw [← hAL];rfl
 have hNl:NL.length=3:=by rw [← hNL];rfl
 have hCb:∀ x ∈ CL,x.cabins.length≤20∧x.sold.length≤20:=by
  rw [← hCL]
  intro x hx
  simp only [List.mem_cons,List.not_mem_nil,or_false] at hx
  rcases hx with rfl|rfl|rfl <;> omega
 have hAb:∀ x ∈ AL,x.sexes.length≤20:=by
  rw [← hAL]
  intro x hx
  simp only [List.mem_cons,List.not_mem_nil,or_false] at hx
  rcases hx with rfl|rfl|rfl <;> omega
 repeat' (first|(apply nx;with_reducible constructor)|refine uq (by decide) ?_|((first|refine vx env fun Q hQ=>?_|refine vz fun Q hQ=>?_);simp only [vkt,seval,wE,yG,aTk,cTk,gTk,qg,eTk,jg,Qr,yE,Zy,rTk,qW,mTk,qd,qa,qb,qx,qh,QG,Qx,jK,QZ,zz,pUp,zS,zQ,jM,jR,jP,jL,wQ,zR,QQ,QY,zP,List.length_map,h31,hU,hx2,hu1,hA,hsec,eC,c1,c2,c3,c4,c5];(try simp only [ite_and]);(repeat' (first|with_reducible assumption|refine And.intro ?_ ?_|intro hp));all_goals (first|(refine hQ _ ?_;clear hQ Q)|(refine hQ _ (fun h=>?_) (fun h=>?_) <;> clear hQ Q <;> (try simp only [vki,reduceCtorEq] at h))|(refine vq ?_;kernel_rfl)|omega|assumption|with_reducible rfl|skip)))
 refine qO (fun i:{ i:Nat // i≤CL.length }=>Qx CL AL NL i.1) (fun i=>CL.length - i.1) ⟨0,Nat.zero_le _⟩ ?_ fun ⟨i,hi⟩=>?_
 ·simp only [Qx,← hCL,← hAL,← hNL]
  (refine Le.ok (fun i=>if i=9 then some 4 else if i=10 then some 5 else if i=11 then some 6 else none) [] ?_;constructor;all_goals (try simp only [vle,vkt,seval,wE,yG,aTk,cTk,gTk,qg,eTk,jg,Qr,yE,Zy,rTk,qW,mTk,qd,qa,qb,qx,qh,QG,Qx,jK,QZ,zz,pUp,zS,zQ,jM,jR,jP,jL,wQ,zR,QQ,QY,zP,List.length_map]))
  all_goals first|rfl|(simp;done)
 simp only at hi ⊢
 simp only [Qx]
 by_cases hil:i < CL.length
 ·have d1:decide ((i:Int) < (CL.length:Int))=true:=decide_eq_true (by omega)
  have e9:IntKind.wrap .i64 ((i:Int)+1)=((i+1:Nat):Int):=by rw [wrap64 (by omega) (by omega)];rfl
  have i0:((i:Int)).toNat=i:=rfl
  have hia:i < AL.length:=by omega
  have hin:i < NL.length:=by omega
  have hg:=Qk0 hil
  have hga:=hAsk hia
  have hgn:=hInt hin
  obtain ⟨b1,b2⟩:=hCb _ (ve (d:=default) hil)
  have b3:=hAb _ (ve (d:=default) hia)
  obtain ⟨x,hx⟩:∃ x,CL.getD i default=x:=⟨_,rfl⟩
  obtain ⟨y,hy⟩:∃ y,AL.getD i default=y:=⟨_,rfl⟩
  obtain ⟨n,hn⟩:∃ n,NL.getD i 0=n:=⟨_,rfl⟩
  rw [hx] at hg b1 b2
  rw [hy] at hga b3
  rw [hn] at hgn
  have ex:(⟨x.cabins,x.secs,x.sold⟩:Chart)=x:=rfl
  have ey:(⟨y.party,y.frm,y.to,y.sexes,y.dog⟩:Ask)=y:=rfl
  have b4:x.cabins.length≤maxLen:=by omega
  have b5:x.sold.length≤maxLen:=by omega
  have b6:y.sexes.length≤maxLen:=by omega
  have b7:x.cabins.length≤100000:=by omega
  have b8:x.sold.length≤100000:=by omega
  have b9:y.sexes.length≤100000:=by omega
  obtain ⟨p1,p2⟩:=Qh5 x y
  obtain ⟨p3,p4⟩:=Qe1 x n
  obtain ⟨⟨D,E⟩,hD⟩:∃ p,Zg x y=p:=⟨_,rfl⟩
  obtain ⟨⟨B,F⟩,hB⟩:∃ p,ji x n=p:=⟨_,rfl⟩
  rw [hD] at p1 p2
  rw [hB] at p3 p4
  simp only at p1 p2 p3 p4
  have eD:(⟨D.cabins,D.secs,D.sold⟩:Chart)=D:=rfl
  have eB:(⟨B.cabins,B.secs,B.sold⟩:Chart)=B:=rfl
  have p5:D.cabins.length≤maxLen:=by omega
  have p6:D.sold.length≤maxLen:=by omega
  have p7:B.cabins.length≤maxLen:=by omega
  have p8:B.sold.length≤maxLen:=by omega
  repeat' (first|(apply nx;with_reducible constructor)|refine uq (by decide) ?_|((first|refine vx env fun Q hQ=>?_|refine vz fun Q hQ=>?_);simp only [vkt,seval,wE,yG,aTk,cTk,gTk,qg,eTk,jg,Qr,yE,Zy,rTk,qW,mTk,qd,qa,qb,qx,qh,QG,Qx,jK,QZ,zz,pUp,zS,zQ,jM,jR,jP,jL,wQ,zR,QQ,QY,zP,List.length_map,d1,e9,i0,hil,hia,hin,hg,hga,hgn,hx,hy,hn,ex,ey,b1,b2,b3,b4,b5,b6,b7,b8,b9,hD,hB,eD,eB,p5,p6,p7,p8,decide_true,Bool.not_true,Bool.not_false];(try simp only [ite_and]);(repeat' (first|with_reducible assumption|refine And.intro ?_ ?_|intro hp));all_goals (first|(refine hQ _ ?_;clear hQ Q)|(refine hQ _ (fun h=>?_) (fun h=>?_) <;> clear hQ Q <;> (try simp only [vki,reduceCtorEq] at h))|(refine vq ?_;kernel_rfl)|omega|assumption|with_reducible rfl|skip)))
  refine ⟨⟨i+1,hil⟩,by show CL.length - (i+1) < CL.length - i;omega, ?_⟩
  simp only [Qx]
  (refine Le.ok some [] ?_;constructor;all_goals (try simp only [vle,vkt,seval,wE,yG,aTk,cTk,gTk,qg,eTk,jg,Qr,yE,Zy,rTk,qW,mTk,qd,qa,qb,qx,qh,QG,Qx,jK,QZ,zz,pUp,zS,zQ,jM,jR,jP,jL,wQ,zR,QQ,QY,zP,List.length_map]))
  all_goals first|rfl|(simp;done)
 ·have d1:decide ((i:Int) < (CL.length:Int))=false:=decide_eq_false (by omega)
  repeat' (first|(apply nx;with_reducible constructor)|refine uq (by decide) ?_|((first|refine vx env fun Q hQ=>?_|refine vz fun Q hQ=>?_);simp only [vkt,seval,wE,yG,aTk,cTk,gTk,qg,eTk,jg,Qr,yE,Zy,rTk,qW,mTk,qd,qa,qb,qx,qh,QG,Qx,jK,QZ,zz,pUp,zS,zQ,jM,jR,jP,jL,wQ,zR,QQ,QY,zP,List.length_map,d1];(try simp only [ite_and]);(repeat' (first|with_reducible assumption|refine And.intro ?_ ?_|intro hp));all_goals (first|(refine hQ _ ?_;clear hQ Q)|(refine hQ _ (fun h=>?_) (fun h=>?_) <;> clear hQ Q <;> (try simp only [vki,reduceCtorEq] at h))|(refine vq ?_;kernel_rfl)|omega|assumption|with_reducible rfl|skip)))
  (simp only [vrt,Tryz.results6,vkt,seval,wE,yG,aTk,cTk,gTk,qg,eTk,jg,Qr,yE,Zy,rTk,qW,mTk,qd,qa,qb,qx,qh,QG,Qx,jK,QZ,zz,pUp,zS,zQ,jM,jR,jP,jL,wQ,zR,QQ,QY,zP,List.length_map];refine Fin.val rfl ?_;(try simp only [AV.le,AV.leL]))
  all_goals first|rfl|(simp;done)
end Go.Sym.B
