/- Walks and what they compute, joined: part 2. -/
import Derived.Test.YtfljkbcphmnjkaaGreatYS3
import Derived.Test.YtfljkbcphmnjkaaGreatProg
import Derived.KernelRfl
import Derived.Test.YtfljkbcphmnjkaaGreatYB1
set_option linter.all false
namespace Go.Sym.B
open Go Go.Sym Go.Proofs Go.Sym.C
theorem Qiz {cs:List Cabin} {s:Int} {a:Ask} {m:Nat} (ih:Uw cs s a m):Qcz cs s a m:=by
 intro sold t begun ys hl ans R ok
 obtain ⟨A0,hA0⟩:∃ A0:Frm→Prop,A0=fun F=>F.r=none∧Acb Tryz.prog (qj (qQ 0 [qm cs s 1])) (qj (qQ 0 (g1L cs s a sold begun))) ys (fun j=>nth (hl j)) ans R F:=⟨_,rfl⟩
 have hr:∀ F,A0 F→F.r=none:=fun F h=>by rw [hA0] at h;exact h.1
 have hA:∀ F,A0 F→Acb Tryz.prog (qj (qQ 0 [qm cs s 1])) (qj (qQ 0 (g1L cs s a sold begun))) ys (fun j=>nth (hl j)) ans R F:=fun F h=>by rw [hA0] at h;exact h.2
 have env:Env A0 Tryz.prog tyB (tab [(87,fnE Yz),(132,fnI [qm cs s 1] R (WG cs s a m ys hl ans R))]):=qL ⟨eSell,QkD ih hA,trivial⟩
 refine Fn.of (A:=A0) (n0:=6) (D:=dfE 122 Wv) (Fn0 Tryz.func131 rfl (fun vs w=>by kernel_rfl) (by kernel_rfl)) (by simp) (by simp [AV.ids,AV.idsL,aTk,cTk]) Qgz (fun F hb h0 h1=>by rw [hA0];exact ⟨h1,h0,QfD,hb⟩) Qj9 ?_
 have hle:=ok.rounds.le
 have eR:min (wU cs a m (sold++[t]) begun).length R=R:=by omega
 have hs1:=ok.many
 have hs2:sold.length≤100:=by rw [List.length_append] at hs1;omega
 have et:(⟨t.party,t.sex,t.cab,t.bed,t.frm,t.to,t.dog⟩:Tk)=t:=rfl
 have hgl:(List.map eTk sold++[eTk t]).getLastD []=eTk t:=by simp
 have hma:List.map eTk (sold++[t])=List.map eTk sold++[eTk t]:=by simp
 show Sym _ _ _ (zV [.ptr 0 0,aTk t,.clo 132 [.ptr 2 0,.ptr 3 0,.ptr 4 0,.ptr 5 0]] 6 (qj [(0,qm cs s 1),(1,qp sold),(2,.cells [.ptr 0 0]),(3,.cells (qg a)),(4,.cells [.sl (begun.map qo)]),(5,.cells [.cb])])) (xM tyB _ Tryz.f131 fun S rv=>Fin S rv _ 6 (qj [(0,qm cs s 1),(1,qp sold),(2,.cells [.ptr 0 0]),(3,.cells (qg a)),(4,.cells [.sl (begun.map qo)]),(5,.cells [.cb])]) R)
 repeat' (first|(apply nx;with_reducible constructor)|refine jq (by decide) ?_)
 (refine kz env fun Q hQ=>?_;simp only [vkt,seval,Q7,Vm,aTk,cTk,qg,qM,mTk,qd,qm,qp,qy,QE,g1L,Yz,WG,Wv,dfE,List.length_map,fnI,wy,qU,nth,hwL,Nat.zero_add,Nat.sub_zero];(try simp only [ite_and]);(repeat' (first|with_reducible assumption|refine And.intro ?_ ?_|intro hp));all_goals (first|(refine hQ _ ?_;clear hQ Q)|(refine kx ?_;kernel_rfl)|omega|assumption|with_reducible rfl|skip))
 repeat' (first|(apply nx;with_reducible constructor)|refine jq (by decide) ?_)
 refine Qag hr env rfl rfl rfl fun Q hQ=>?_
 simp only [List.dropLast]
 simp only [vkt,seval,Q7,Vm,aTk,cTk,qg,qM,mTk,qd,qm,qp,qy,QE,g1L,Yz,WG,Wv,dfE,List.length_map,fnI,wy,qU,nth,hwL,Nat.zero_add,Nat.sub_zero,et,hs2]
 repeat' (first|with_reducible assumption|refine And.intro ?_ ?_|intro hp)
 all_goals first|(refine hQ _ _ _ (by simp only [vkt,seval,Q7,Vm,aTk,cTk,qg,qM,mTk,qd,qm,qp,qy,QE,g1L,Yz,WG,Wv,dfE,List.length_map,fnI,wy,qU,nth,hwL,Nat.zero_add,Nat.sub_zero];rfl) ?_;clear hQ Q)|skip
 dsimp only [put]
 repeat' (first|(apply nx;with_reducible constructor)|refine jq (by decide) ?_|((first|refine kz env fun Q hQ=>?_|refine kj fun Q hQ=>?_);simp only [vkt,seval,Q7,Vm,aTk,cTk,qg,qM,mTk,qd,qm,qp,qy,QE,g1L,Yz,WG,Wv,dfE,List.length_map,fnI,wy,qU,nth,hwL,Nat.zero_add,Nat.sub_zero,eR,ok,List.append_nil];(try simp only [ite_and]);(repeat' (first|with_reducible assumption|refine And.intro ?_ ?_|intro hp));all_goals (first|(refine hQ _ ?_;clear hQ Q)|(refine hQ _ (fun h=>?_) (fun h=>?_) <;> clear hQ Q <;> (try simp only [vki,reduceCtorEq] at h))|(refine kx ?_;kernel_rfl)|omega|assumption|with_reducible rfl|skip)))
 simp only [vrt,Tryz.results131,kZ.eq_3,vkt,seval,Q7,Vm,aTk,cTk,qg,qM,mTk,qd,qm,qp,qy,QE,g1L,Yz,WG,Wv,dfE,List.length_map,fnI,wy,qU,nth,hwL,Nat.zero_add,Nat.sub_zero,hgl,hma,Qji]
 refine Fin.ok some [] ?_ ?_ ?_ ?_ ?_ rfl
 all_goals (try simp only [vle,vkt,seval,Q7,Vm,aTk,cTk,qg,qM,mTk,qd,qm,qp,qy,QE,g1L,Yz,WG,Wv,dfE,List.length_map,fnI,wy,qU,nth,hwL,Nat.zero_add,Nat.sub_zero])
 all_goals first|rfl|(simp;done)
def vH (cs:List Cabin) (s:Int) (a:Ask) (m:Nat) (ys:Nat→List AV) (hl:Nat→List AObj) (ans:Nat→Bool) (R:Nat) (S:St):List AV→Option PkI
 |[.ptr c 0,.agg [.v (.int .i64 t0),.v (.int .i64 t1),.v (.int .i64 t2),.v (.int .i64 t3),.v (.int .i64 t4),.v (.int .i64 t5),.v (.bool t6)],.clo f [.ptr p2 0,.ptr p3 0,.ptr p4 0,.ptr p5 0]]=>match S.h p2,S.h p3,S.h p4,S.h p5 with
  |some (.cells [.ptr c' 0]),some (.cells aa),some (.cells [.sl bs]),some (.cells [.cb])=>match S.h c with
   |some (.cells [.sl cc,.v (.int .i64 s'),.row r])=>match S.h r with
    |some (.row _ _ xs)=>some { q:={ pre:=f=132∧c'=c∧cc=cs.map qh∧s'=s∧aa=qg a∧bs=(bs.map zz).map qo∧xs=(xs.map dTk).map eTk∧GrowOk cs s a m (xs.map dTk++[⟨t0,t1,t2,t3,t4,t5,t6⟩]) (bs.map zz) (fun j=>ys (S.j+j)) (fun j=>hl (S.j+j)) (fun j=>ans (S.j+j)) (min (wU cs a m (xs.map dTk++[⟨t0,t1,t2,t3,t4,t5,t6⟩]) (bs.map zz)).length (R - S.j)),hs:=[c,r,p2,p3,p4,p5],ar:=[.ptr 0 0,.agg [.v (.int .i64 t0),.v (.int .i64 t1),.v (.int .i64 t2),.v (.int .i64 t3),.v (.int .i64 t4),.v (.int .i64 t5),.v (.bool t6)],.clo 132 [.ptr 2 0,.ptr 3 0,.ptr 4 0,.ptr 5 0]],L0:=g1L cs s a (xs.map dTk) (bs.map zz),v:=aB (QH (fun j=>ans (S.j+j)) (min (wU cs a m (xs.map dTk++[⟨t0,t1,t2,t3,t4,t5,t6⟩]) (bs.map zz)).length (R - S.j))),L1:=(g1L cs s a (xs.map dTk) (bs.map zz)).map some },dj:=min (wU cs a m (xs.map dTk++[⟨t0,t1,t2,t3,t4,t5,t6⟩]) (bs.map zz)).length (R - S.j) }
    |_=>none
   |_=>none
  |_,_,_,_=>none
 |_=>none
theorem eWith {A:Frm→Prop} {cs:List Cabin} {s:Int} {a:Ask} {m:Nat} {ys:Nat→List AV} {hl:Nat→List AObj} {ans:Nat→Bool} {R:Nat} {h0:Nat→Option AObj} (ih:Qcz cs s a m) (hA:∀ F,A F→Acb Tryz.prog (qj (qQ 0 [qm cs s 1])) h0 ys (fun j=>nth (hl j)) ans R F) :
  qE A Tryz.prog 131 (fnI [qm cs s 1] R (vH cs s a m ys hl ans R)):=RL hA fun S bs q h hp=>by
 unfold vH at h
 split at h
 ·split at h
  ·split at h
   ·split at h
    ·cases h
     obtain ⟨_,_,_,_,_,_,_,h6⟩:=hp
     exact ih _ _ _ _ _ _ _ h6
    ·cases h
   ·cases h
  ·cases h
 ·cases h
theorem QdZ {cs:List Cabin} {s:Int} {l:List Tk}:∀ i o,qj (qQ 0 [qm cs s 1]) i=some o→([0,1]:List Nat)[i]?=some i:=fun i o hi=>by
 rw [jR] at hi
 cases i with
 |zero=>rfl
 |succ i=>simp at hi
def zD:=kk @ty3 (kk @ty4 (kk @yc (kk @Qe (kk @QM (kk @WQ (kk @xJ (kk @yU (kk @YW (kk @J2 (kk @Qjo (kk @ti3.eq_1 (kk @ti4.eq_1 (kk @jM.eq_1 (kk @x8.eq_1 (kk @Qb.eq_1 (kk @ZO.eq_1 (kk @vZ.eq_1 (kk @yA.eq_1 (kk @JZ.eq_1 (kk @ZQ.eq_1 @L9.eq_1))))))))))))))))))))
def Qcl:=kk @aI.eq_1 (@aB.eq_1)
theorem Qd3 (cs:List Cabin) (s:Int) (a:Ask):XI cs s a 0:=by
 intro sold begun ys hl ans R ok
 obtain ⟨A0,hA0⟩:∃ A0:Frm→Prop,A0=Acb Tryz.prog (qj (qQ 0 [qm cs s 1])) (qj (qQ 0 (qy cs s sold))) ys (fun j=>nth (hl j)) ans R:=⟨_,rfl⟩
 have hA:∀ F,A0 F→Acb Tryz.prog (qj (qQ 0 [qm cs s 1])) (qj (qQ 0 (qy cs s sold))) ys (fun j=>nth (hl j)) ans R F:=fun F h=>hA0 ▸ h
 have env:Env A0 Tryz.prog tyB (Go.Sym.tabC (cbX [0,1] ys hl ans R) []):=⟨X4,RN (fun S bs h hS ops o g args tys caps hw ho hg hb=>Va hA (QdZ (l:=sold)) (by simp) h hS hw ho hg hb) trivial,by kernel_rfl⟩
 refine Fn.of (A:=A0) (n0:=2) (D:=noD) (Fn0 Tryz.func104 rfl (fun vs w=>by kernel_rfl) (by kernel_rfl)) (by simp) (by simp [AV.ids,AV.idsL,qx,qg,qc]) Ql (fun F hb h0 _=>hA0 ▸ ⟨h0,QfD,hb⟩) qF ?_
 have hr:=ok.rounds
 have hy:=ok.ys 0 (by simp [wU])
 have hh:=ok.hl 0 (by simp [wU])
 have hsz:=ok.sz
 simp only [wU,List.length_cons,List.length_nil,List.getD_cons_zero] at hr hy hh
 have hR:R=1:=by
  have h1:=hr.le
  have h2:=hr.lt (k:=0) (by omega) (fun j hj=>by omega)
  omega
 subst hR
 rw [qc] at hy
 rw [show QH ans 1=ans 0 by simp [QH]]
 have d1:decide ((begun.length:Int)=(a.sexes.length:Int))=true:=decide_eq_true (by omega)
 show Sym _ _ _ (zV [.ptr 0 0,qx a,qc begun,.cb] 2 (qj [(0,qm cs s 1),(1,qp sold)])) (xM tyB noD Tryz.f104 fun S rv=>Fin S rv _ 2 (qj [(0,qm cs s 1),(1,qp sold)]) 1)
 repeat' (first|(apply nx;with_reducible constructor)|refine jq (by decide) ?_|((first|refine kz env fun Q hQ=>?_|refine kj fun Q hQ=>?_);simp only [vkt,seval,zD,Qcl,qx,qg,qc,qM,mTk,qd,qm,qp,qy,List.length_map,Go.Sym.tabC,cbX,wy,qU,nth,hwL,Nat.zero_add,Nat.sub_zero,hy,hh,d1];(try simp only [ite_and]);(repeat' (first|with_reducible assumption|refine And.intro ?_ ?_|intro hp));all_goals (first|(refine hQ _ ?_;clear hQ Q)|(refine hQ _ (fun h=>?_) (fun h=>?_) <;> clear hQ Q <;> (try simp only [vki,reduceCtorEq] at h))|(refine kx ?_;kernel_rfl)|omega|assumption|with_reducible rfl|skip)))
 (simp only [vrt,Tryz.results104,vkt,seval,zD,Qcl,qx,qg,qc,qM,mTk,qd,qm,qp,qy,List.length_map,Go.Sym.tabC,cbX,wy,qU,nth,hwL,Nat.zero_add,Nat.sub_zero];refine Fin.ok some [] ?_ ?_ ?_ ?_ ?_ rfl;all_goals (try simp only [vle,vkt,seval,zD,Qcl,qx,qg,qc,qM,mTk,qd,qm,qp,qy,List.length_map,Go.Sym.tabC,cbX,wy,qU,nth,hwL,Nat.zero_add,Nat.sub_zero]))
 all_goals first|rfl|(simp;done)|exact fun i hi=>(match i,hi with|0,_=>rfl|1,_=>rfl)
def gbL (cs:List Cabin) (a:Ask) (m:Nat) (sold:List Tk) (begun:List Bunk) (b:Bunk):List (List Bunk × List Tk):=if goB cs a sold begun b then wU cs a m (sold++[Qd a begun.length b]) (begun++[b]) else []
def gsL (cs:List Cabin) (a:Ask) (m:Nat) (sold:List Tk) (begun:List Bunk):List Nat:=(qV cs).map fun b=>(gbL cs a m sold begun b).length
theorem Zf (cs:List Cabin) (a:Ask) (m:Nat) (sold:List Tk) (begun:List Bunk):wU cs a (m+1) sold begun=(qV cs).flatMap (gbL cs a m sold begun):=rfl
theorem Rl (cs:List Cabin) (a:Ask) (m:Nat) (sold:List Tk) (begun:List Bunk):(wU cs a (m+1) sold begun).length=(gsL cs a m sold begun).sum:=by rw [Zf,Qf2];rfl
theorem QdV {cs:List Cabin} {a:Ask} {m:Nat} {sold:List Tk} {begun:List Bunk} {i k:Nat} (hi:i < (qV cs).length) (hk:k < (gbL cs a m sold begun ((qV cs).getD i default)).length) :
  (wU cs a (m+1) sold begun).getD (((gsL cs a m sold begun).take i).sum+k) default=(gbL cs a m sold begun ((qV cs).getD i default)).getD k default:=by
 have:=Qbx (gbL cs a m sold begun) default default (qV cs) i k hi hk
 rw [Zf,gsL,← List.map_take]
 exact this
theorem QhD {cs:List Cabin} {a:Ask} {m:Nat} {sold:List Tk} {begun:List Bunk} {i:Nat} (hi:i < (qV cs).length):(gsL cs a m sold begun).getD i 0=(gbL cs a m sold begun ((qV cs).getD i default)).length:=by
 simp [gsL,List.getD_eq_getElem?_getD,hi]
theorem Qc3 {cs:List Cabin} {i:Nat} (hi:i < (qV cs).length):0≤((qV cs).getD i default).cab∧((qV cs).getD i default).cab.toNat < cs.length:=by
 obtain ⟨x,y,h1,h2,h3⟩:=X6.1 (yB (d:=default) hi)
 rw [h3]
 exact ⟨Int.natCast_nonneg _,by simpa using h1⟩
theorem Qcj {cs:List Cabin} {s:Int} {a:Ask} {m:Nat} {sold:List Tk} {begun:List Bunk} {ys:Nat→List AV} {hl:Nat→List AObj} {ans:Nat→Bool} {R:Nat} (ok:GrowOk cs s a (m+1) sold begun ys hl ans R) {i o:Nat} {b:Bunk} (hi:i < (qV cs).length) (hb:(qV cs).getD i default=b)
  (ho:((gsL cs a m sold begun).take i).sum=o) (hg:goB cs a sold begun b=true) {D:Nat} (hr:Rounds (fun j=>ans (o+j)) D (wU cs a m (sold++[Qd a begun.length b]) (begun++[b])).length) :
  GrowOk cs s a m (sold++[Qd a begun.length b]) (begun++[b]) (fun j=>ys (o+j)) (fun j=>hl (o+j)) (fun j=>ans (o+j)) D:=by
 have hgb:gbL cs a m sold begun b=wU cs a m (sold++[Qd a begun.length b]) (begun++[b]):=by unfold gbL;rw [if_pos hg]
 have hlen:∀ j,j < (wU cs a m (sold++[Qd a begun.length b]) (begun++[b])).length→o+j < (wU cs a (m+1) sold begun).length:=fun j hj=>by
  rw [Rl,← ho]
  have h1:=Yy (g:=gsL cs a m sold begun) (i:=i) (by simpa [gsL] using hi)
  have h2:=QF (g:=gsL cs a m sold begun) (show i+1≤(gsL cs a m sold begun).length by simp [gsL];omega)
  rw [List.take_length] at h2
  rw [QhD hi,hb,hgb] at h1
  omega
 have hget:∀ j,j < (wU cs a m (sold++[Qd a begun.length b]) (begun++[b])).length→(wU cs a (m+1) sold begun).getD (o+j) default=(wU cs a m (sold++[Qd a begun.length b]) (begun++[b])).getD j default:=fun j hj=>by
  rw [← ho,QdV hi (by rw [hb,hgb];exact hj),hb,hgb]
 have h1:=ok.sz
 have h2:=ok.many
 refine ⟨by simp;omega,ok.sx,ok.cab,ok.c100,by simp;omega,fun x hx=>?_,hr,fun j hj=>?_,fun j hj=>?_⟩
 ·rcases List.mem_append.1 hx with hx|hx
  ·exact ok.mem x hx
  ·rw [List.mem_singleton.1 hx,← hb];exact Qc3 hi
 ·show ys (o+j)=_
  rw [ok.ys _ (hlen j hj),hget j hj]
 ·show hl (o+j)=_
  rw [ok.hl _ (hlen j hj),hget j hj]
def gwL:List (Nat × AV):=[(4,.ptr 2 0),(5,.ptr 3 0),(6,.ptr 4 0),(7,.ptr 5 0),(8,.ptr 6 0),(25,.clo 117 [.ptr 7 0])]
def gwH (cs:List Cabin) (s:Int) (a:Ask) (sold:List Tk) (begun:List Bunk):List (Nat × AObj):=[(0,qm cs s 1),(1,qp sold),(2,.cells [.ptr 0 0]),(3,.cells (qg a)),(4,.cells [.sl (begun.map qo)]),(5,.cells [.cb]),(6,.cells [aB false])]
theorem QcP (cs:List Cabin) (s:Int):zk [7] 9 0 [buO cs s]=[(7,buO cs s)]:=rfl
def yz:=kk @aI.eq_1 (kk @aB.eq_1 (kk @QT (kk @XE (@zF.eq_1))))
theorem QeC (cs:List Cabin) (s:Int) (a:Ask) (m:Nat) (ih:Qcz cs s a m):XI cs s a (m+1):=by
 intro sold begun ys hl ans R ok
 obtain ⟨A0,hA0⟩:∃ A0:Frm→Prop,A0=fun F=>F.r=none∧Acb Tryz.prog (qj (qQ 0 [qm cs s 1])) (qj (qQ 0 (qy cs s sold))) ys (fun j=>nth (hl j)) ans R F:=⟨_,rfl⟩
 have hr0:∀ F,A0 F→F.r=none:=fun F h=>by rw [hA0] at h;exact h.1
 have hA:∀ F,A0 F→Acb Tryz.prog (qj (qQ 0 [qm cs s 1])) (qj (qQ 0 (qy cs s sold))) ys (fun j=>nth (hl j)) ans R F:=fun F h=>by rw [hA0] at h;exact h.2
 have env:Env A0 Tryz.prog tyB (tab [(80,fnE zA)]):=qL ⟨QcH,trivial⟩
 refine Fn.of (A:=A0) (n0:=2) (D:=noD) (Fn0 Tryz.func104 rfl (fun vs w=>by kernel_rfl) (by kernel_rfl)) (by simp) (by simp [AV.ids,AV.idsL,qx,qg,qc]) Ql (fun F hb h0 h1=>by rw [hA0];exact ⟨h1,h0,QfD,hb⟩) qF ?_
 have hr:=ok.rounds
 rw [Rl] at hr
 have hsz:=ok.sz
 have hsx:=ok.sx
 have d0:decide ((begun.length:Int)=(a.sexes.length:Int))=false:=decide_eq_false (by omega)
 obtain ⟨RB,ansB,hRB,hN,hend,hres⟩:=nest _ hr
 rw [show (gsL cs a m sold begun).length=(qV cs).length by simp [gsL]] at hRB
 have hRl:=hRB.le
 rw [hres]
 show Sym _ _ _ (zV [.ptr 0 0,qx a,qc begun,.cb] 2 (qj [(0,qm cs s 1),(1,qp sold)])) (xM tyB noD Tryz.f104 fun S rv=>Fin S rv _ 2 (qj [(0,qm cs s 1),(1,qp sold)]) R)
 repeat' (first|(apply nx;with_reducible constructor)|refine jq (by decide) ?_|((first|refine kz env fun Q hQ=>?_|refine kj fun Q hQ=>?_);simp only [vkt,seval,zD,yz,aTk,cTk,qx,qg,qf,qc,qo,qO,qM,mTk,qd,qm,qp,qy,g1L,gwL,gwH,buO,zA,wT,vD,vG,vH,jV,List.length_map,fnI,wy,qU,nth,hwL,Nat.zero_add,Nat.sub_zero,d0];(try simp only [ite_and]);(repeat' (first|with_reducible assumption|refine And.intro ?_ ?_|intro hp));all_goals (first|(refine hQ _ ?_;clear hQ Q)|(refine hQ _ (fun h=>?_) (fun h=>?_) <;> clear hQ Q <;> (try simp only [vki,reduceCtorEq] at h))|(refine kx ?_;kernel_rfl)|omega|assumption|with_reducible rfl|skip)))
 refine kY (S':={ t:=asg gwL,h:=qj (gwH cs s a sold begun++[(7,buO cs s)]),n:=8,j:=0,d:=[],m:=2 }) ?_ ?_
 ·show Le _ { t:=asg [(4,.ptr 2 0),(5,.ptr 3 0),(6,.ptr 4 0),(7,.ptr 5 0),(8,.ptr 6 0),(25,.clo 117 [.ptr 7 0])],h:=qj [(0,qm cs s 1),(1,qp sold),(2,.cells [.ptr 0 0]),(3,.cells (qg a)),(4,.cells [.sl (begun.map qo)]),(5,.cells [.cb]),(6,.cells [aB false]),(7,buO cs s)],n:=8,j:=0,d:=[],m:=2 }
  (refine Le.ok some [] ?_;constructor;all_goals (try simp only [vle,vkt,seval,zD,yz,aTk,cTk,qx,qg,qf,qc,qo,qO,qM,mTk,qd,qm,qp,qy,g1L,gwL,gwH,buO,zA,wT,vD,vG,vH,jV,List.length_map,fnI,wy,qU,nth,hwL,Nat.zero_add,Nat.sub_zero]))
  all_goals first|rfl|(simp;done)
 rw [← QcP cs s]
 have ej:(fun i=>min ((gsL cs a m sold begun).take i).sum R) 0=0:=by simp
 rw [show ({ t:=asg gwL,h:=qj (gwH cs s a sold begun++zk [7] 9 0 [buO cs s]),n:=8,j:=0,d:=[],m:=2 }:St)={ t:=asg gwL,h:=qj ((fun _=>gwH cs s a sold begun) 0++zk [7] (8+1) 0 [buO cs s]),n:=8,j:=(fun i=>min ((gsL cs a m sold begun).take i).sum R) 0,d:=[],m:=2 } by rw [ej]]
 refine xY hr0 1 (L:=gwL) (L':=gwL) (xs:=[]) (hs:=[7]) (n:=8) (nl:=0) (hc:=fun _=>gwH cs s a sold begun) (Lp:=[buO cs s]) (jj:=fun i=>min ((gsL cs a m sold begun).take i).sum R) (d:=[]) (ys:=buY cs) (hl:=fun _=>[buO cs s]) (ans:=ansB) (ex:=.ret) (caps:=[.ptr 7 0]) (caps0:=[.ptr 0 0]) (N:=(qV cs).length) (R:=RB) (A':=fun i=>Acb Tryz.prog (qj (qQ 0 [qm cs s 1])) (qj ((8,.mark) :: gwH cs s a sold begun++[(7,buO cs s)])) (fun k=>ys (min ((gsL cs a m sold begun).take i).sum R+k)) (fun k=>nth (hl (min ((gsL cs a m sold begun).take i).sum R+k))) (fun k=>ans (min ((gsL cs a m sold begun).take i).sum R+k)) (R - min ((gsL cs a m sold begun).take i).sum R)) rfl (Qaq cs s ok.cab) hRB (.inl rfl) ?_ ?_ ?_ rfl (by simp) ?_ (by simp) ?_ ?_ ?_ (fun _ _=>rfl) (fun x hx=>by cases hx) (fun j hj p _ h=>by cases h) ?_ (fun j hj=>?_) ?_ (fun j hj=>?_) (fun hall=>?_) (fun hpos hlast=>?_)
 ·simp [AV.leL,AV.le]
 ·simp [AV.nocbL,AV.nocb]
 ·simp [J4,buO,AObj.nocb,AV.nocbL,AV.nocb,AObj.ids,AV.ids,AV.idsL,AObj.ren,AV.renL,AV.ren,AObj.le,AV.leL,AV.le,yM]
 ·simp [gwH,qj]
 ·intro F hF j hj F' hR
  refine K4 (hA F hF) hR fun i o hi=>?_
  rw [jR] at hi
  cases i with
  |zero=>exact ⟨_,rfl⟩
  |succ i=>simp at hi
 ·simp [gwH,qj]
 ·exact fun _ _ _ _ h=>h
 ·simp [Vt,gwL,AV.ids,AV.idsL]
 ·refine ⟨?_,rfl, ?_, ?_,rfl, ?_⟩
  ·simp [Zp,gwH,AObj.ids,AV.ids,AV.idsL,qm,qp,qg,aB]
  ·simp [Js,buO,AObj.nocb,AV.nocbL,AV.nocb,AObj.ids,AV.ids,AV.idsL]
  ·simp [Xe,buY,qf,AV.nocb,AV.nocbL,AV.ids,AV.idsL]
  ·simp [Zk,J3,zk,qB,gwH,gwL,Qf,AV.ids,AV.idsL,ADf.ids,List.range_succ]
 ·simp [Zp,gwH,AObj.ids,AV.ids,AV.idsL,qm,qp,qg,aB]
 ·have hjl:j < (qV cs).length:=by omega
  obtain ⟨n1,n2,n3,n4⟩:=hN j hj
  obtain ⟨o,ho⟩:∃ o,((gsL cs a m sold begun).take j).sum=o:=⟨_,rfl⟩
  have eo:min o R=o:=by omega
  rw [QhD hjl,ho] at n2 n3 n4
  obtain ⟨b,hb⟩:∃ b,(qV cs).getD j default=b:=⟨_,rfl⟩
  rw [hb] at n2 n3 n4
  have hbi:=Qc3 hjl
  rw [hb] at hbi
  simp only [ho,eo]
  have hst:ym gwL [26] [7] 8 0 (buY cs j) (gwH cs s a sold begun) [buO cs s]={ t:=asg [(26,qf b),(4,.ptr 2 0),(5,.ptr 3 0),(6,.ptr 4 0),(7,.ptr 5 0),(8,.ptr 6 0),(25,.clo 117 [.ptr 7 0])],h:=qj [(8,.mark),(0,qm cs s 1),(1,qp sold),(2,.cells [.ptr 0 0]),(3,.cells (qg a)),(4,.cells [.sl (begun.map qo)]),(5,.cells [.cb]),(6,.cells [aB false]),(7,buO cs s)],n:=9,m:=9 }:=by
   simp only [ym,buY,hb,qf,List.map_cons,List.map_nil,AV.ren,AV.renL,List.zip_cons_cons,List.zip_nil_right,gwH,gwL,We,List.cons_append,List.nil_append,QcP]
   rfl
  show Sym _ _ _ (ym gwL [26] [7] 8 0 (buY cs j) (gwH cs s a sold begun) [buO cs s]) _
  rw [hst]
  obtain ⟨A1,hA1⟩:∃ A1:Frm→Prop,A1=Acb Tryz.prog (qj (qQ 0 [qm cs s 1])) (qj ((8,.mark) :: gwH cs s a sold begun++[(7,buO cs s)])) (fun k=>ys (o+k)) (fun k=>nth (hl (o+k))) (fun k=>ans (o+k)) (R - o):=⟨_,rfl⟩
  rw [← hA1]
  have env:Env A1 Tryz.prog tyB (tab [(128,fnE wT),(129,qX true jV),(130,fnE vD),(81,fnE vG),(131,fnI [qm cs s 1] (R - o) (vH cs s a m (fun k=>ys (o+k)) (fun k=>hl (o+k)) (fun k=>ans (o+k)) (R - o)))]) :=
   qL ⟨QiI,Qj3,eNear,eFits,eWith ih (h0:=qj ((8,.mark) :: gwH cs s a sold begun++[(7,buO cs s)])) fun F hF=>by rw [hA1] at hF;exact hF,trivial⟩
  have hcl:=ok.c100
  have hmany:=ok.many
  obtain ⟨sx,hsx1⟩:∃ x,a.sexes.getD begun.length 0=x:=⟨_,rfl⟩
  have hlt:begun.length < a.sexes.length:=by omega
  have hb1:begun.length≤100:=by omega
  have hb2:begun.length≤100000:=by omega
  have hm:(100:Nat)+1≤maxLen:=by decide
  have hb3:begun.length+1≤maxLen:=by omega
  repeat' (first|(apply nx;with_reducible constructor)|refine jq (by decide) ?_)
  (refine kz env fun Q hQ=>?_;simp only [vkt,seval,zD,yz,aTk,cTk,qx,qg,qf,qc,qo,qO,qM,mTk,qd,qm,qp,qy,g1L,gwL,gwH,buO,zA,wT,vD,vG,vH,jV,List.length_map,fnI,wy,qU,nth,hwL,Nat.zero_add,Nat.sub_zero];(try simp only [ite_and]);(repeat' (first|with_reducible assumption|refine And.intro ?_ ?_|intro hp));all_goals (first|(refine hQ _ ?_;clear hQ Q)|(refine kx ?_;kernel_rfl)|omega|assumption|with_reducible rfl|skip))
  repeat' (first|(apply nx;with_reducible constructor)|refine jq (by decide) ?_)
  (refine kz env fun Q hQ=>?_;simp only [vkt,seval,zD,yz,aTk,cTk,qx,qg,qf,qc,qo,qO,qM,mTk,qd,qm,qp,qy,g1L,gwL,gwH,buO,zA,wT,vD,vG,vH,jV,List.length_map,fnI,wy,qU,nth,hwL,Nat.zero_add,Nat.sub_zero,hsx1,hlt,hb1,hb2,hb3];(try simp only [ite_and]);(repeat' (first|with_reducible assumption|refine And.intro ?_ ?_|intro hp));all_goals (first|(refine hQ _ ?_;clear hQ Q)|(refine kx ?_;kernel_rfl)|omega|assumption|with_reducible rfl|skip))
  repeat' (first|(apply nx;with_reducible constructor)|refine jq (by decide) ?_)
  (refine kz env fun Q hQ=>?_;simp only [vkt,seval,zD,yz,aTk,cTk,qx,qg,qf,qc,qo,qO,qM,mTk,qd,qm,qp,qy,g1L,gwL,gwH,buO,zA,wT,vD,vG,vH,jV,List.length_map,fnI,wy,qU,nth,hwL,Nat.zero_add,Nat.sub_zero,hsx1,hlt,hb1,hb2,hb3];(try simp only [ite_and]);(repeat' (first|with_reducible assumption|refine And.intro ?_ ?_|intro hp));all_goals (first|(refine hQ _ ?_;clear hQ Q)|(refine kx ?_;kernel_rfl)|omega|assumption|with_reducible rfl|skip))
  repeat' (first|(apply nx;with_reducible constructor)|refine jq (by decide) ?_)
  have hma:List.map qo begun++[[DV.v (.int .i64 b.cab),DV.v (.int .i64 b.bed)]]=List.map qo (begun++[b]):=by simp [qo]
  refine kY (S':={ t:=asg [(4,.ptr 2 0),(5,.ptr 3 0),(6,.ptr 4 0),(7,.ptr 5 0),(8,.ptr 6 0),(9,.ptr 9 0),(10,.ptr 10 0),(11,.ptr 11 0)],h:=qj [(8,.mark),(0,qm cs s 1),(1,qp sold),(2,.cells [.ptr 0 0]),(3,.cells (qg a)),(4,.cells [.sl (begun.map qo)]),(5,.cells [.cb]),(6,.cells [aB false]),(7,buO cs s),(9,.cells [.v (.int .i64 b.cab),.v (.int .i64 b.bed)]),(10,.cells [.sl (List.map qo (begun++[b]))]),(11,.cells [.v (.int .i64 a.party),.v (.int .i64 sx),.v (.int .i64 b.cab),.v (.int .i64 b.bed),.v (.int .i64 a.frm),.v (.int .i64 a.to),.v (.bool a.dog)])],n:=12,j:=0,d:=[],m:=9 }) ?_ ?_
  ·(refine Le.ok (fun i=>if i=10 then some 13 else if i=11 then some 14 else some i) [12] ?_;constructor;all_goals (try simp only [vle,vkt,seval,zD,yz,aTk,cTk,qx,qg,qf,qc,qo,qO,qM,mTk,qd,qm,qp,qy,g1L,gwL,gwH,buO,zA,wT,vD,vG,vH,jV,List.length_map,fnI,wy,qU,nth,hwL,Nat.zero_add,Nat.sub_zero]))
   all_goals first|rfl|(simp;done)|(rw [hma];exact ⟨_,_,rfl⟩)|(intro i hi;rw [if_neg (by omega),if_neg (by omega)];done)
  have et:(⟨a.party,sx,b.cab,b.bed,a.frm,a.to,a.dog⟩:Tk)=Qd a begun.length b:=by rw [← hsx1];rfl
  have eb:(⟨b.cab,b.bed⟩:Bunk)=b:=rfl
  have hno:NearOk cs (begun++[b]):=⟨by simp,by simp;omega,hcl,fun x hx=>by
   rcases List.mem_append.1 hx with hx|hx
   ·exact ok.mem x hx
   ·rw [List.mem_singleton.1 hx];exact hbi⟩
  have hs100:sold.length≤100:=by omega
  have stop:goB cs a sold begun b=false→ansB j=true∧min ((gsL cs a m sold begun).take (j+1)).sum R=o:=fun h=>by
   have e0:gbL cs a m sold begun b=[]:=by unfold gbL;rw [h];rfl
   rw [e0] at n3 n4
   simp only [List.length_nil,Nat.zero_min] at n3 n4
   exact ⟨by rw [n3];simp [QH],by rw [n4];rfl⟩
  cases c1:begun.contains b with
  |true =>
   obtain ⟨s1,s2⟩:=stop (by unfold goB;rw [c1];rfl)
   repeat' (first|(apply nx;with_reducible constructor)|refine jq (by decide) ?_|((first|refine kz env fun Q hQ=>?_|refine kj fun Q hQ=>?_);simp only [vkt,seval,zD,yz,aTk,cTk,qx,qg,qf,qc,qo,qO,qM,mTk,qd,qm,qp,qy,g1L,gwL,gwH,buO,zA,wT,vD,vG,vH,jV,List.length_map,fnI,wy,qU,nth,hwL,Nat.zero_add,Nat.sub_zero,hb1,c1,eb,et,hno,hs100];(try simp only [ite_and]);(repeat' (first|with_reducible assumption|refine And.intro ?_ ?_|intro hp));all_goals (first|(refine hQ _ ?_;clear hQ Q)|(refine hQ _ (fun h=>?_) (fun h=>?_) <;> clear hQ Q <;> (try simp only [vki,reduceCtorEq] at h))|(refine kx ?_;kernel_rfl)|omega|assumption|with_reducible rfl|skip)))
   refine ⟨by rw [s1];rfl,by show _=_+0;simp only [s2,ho,eo];rfl,some,_,RFin.okQ some [] ?_⟩
   constructor
   all_goals (try simp only [vle,kV,kC,qB,vkt,seval,zD,yz,aTk,cTk,qx,qg,qf,qc,qo,qO,qM,mTk,qd,qm,qp,qy,g1L,gwL,gwH,buO,zA,wT,vD,vG,vH,jV,List.length_map,fnI,wy,qU,nth,hwL,Nat.zero_add,Nat.sub_zero])
   all_goals first|rfl|(simp;done)
  |false =>
   cases c2:Zl cs (begun++[b]) with
   |false =>
    obtain ⟨s1,s2⟩:=stop (by unfold goB;rw [c1,c2];rfl)
    repeat' (first|(apply nx;with_reducible constructor)|refine jq (by decide) ?_|((first|refine kz env fun Q hQ=>?_|refine kj fun Q hQ=>?_);simp only [vkt,seval,zD,yz,aTk,cTk,qx,qg,qf,qc,qo,qO,qM,mTk,qd,qm,qp,qy,g1L,gwL,gwH,buO,zA,wT,vD,vG,vH,jV,List.length_map,fnI,wy,qU,nth,hwL,Nat.zero_add,Nat.sub_zero,hb1,c1,c2,eb,et,hno,hs100];(try simp only [ite_and]);(repeat' (first|with_reducible assumption|refine And.intro ?_ ?_|intro hp));all_goals (first|(refine hQ _ ?_;clear hQ Q)|(refine hQ _ (fun h=>?_) (fun h=>?_) <;> clear hQ Q <;> (try simp only [vki,reduceCtorEq] at h))|(refine kx ?_;kernel_rfl)|omega|assumption|with_reducible rfl|skip)))
    refine ⟨by rw [s1];rfl,by show _=_+0;simp only [s2,ho,eo];rfl,some,_,RFin.okQ some [] ?_⟩
    constructor
    all_goals (try simp only [vle,kV,kC,qB,vkt,seval,zD,yz,aTk,cTk,qx,qg,qf,qc,qo,qO,qM,mTk,qd,qm,qp,qy,g1L,gwL,gwH,buO,zA,wT,vD,vG,vH,jV,List.length_map,fnI,wy,qU,nth,hwL,Nat.zero_add,Nat.sub_zero])
    all_goals first|rfl|(simp;done)
   |true =>
    cases c3:decide (wh (Qd a begun.length b) sold=0) with
    |false =>
     obtain ⟨s1,s2⟩:=stop (by unfold goB;rw [c1,c2,c3];rfl)
     repeat' (first|(apply nx;with_reducible constructor)|refine jq (by decide) ?_|((first|refine kz env fun Q hQ=>?_|refine kj fun Q hQ=>?_);simp only [vkt,seval,zD,yz,aTk,cTk,qx,qg,qf,qc,qo,qO,qM,mTk,qd,qm,qp,qy,g1L,gwL,gwH,buO,zA,wT,vD,vG,vH,jV,List.length_map,fnI,wy,qU,nth,hwL,Nat.zero_add,Nat.sub_zero,hb1,c1,c2,c3,eb,et,hno,hs100];(try simp only [ite_and]);(repeat' (first|with_reducible assumption|refine And.intro ?_ ?_|intro hp));all_goals (first|(refine hQ _ ?_;clear hQ Q)|(refine hQ _ (fun h=>?_) (fun h=>?_) <;> clear hQ Q <;> (try simp only [vki,reduceCtorEq] at h))|(refine kx ?_;kernel_rfl)|omega|assumption|with_reducible rfl|skip)))
     refine ⟨by rw [s1];rfl,by show _=_+0;simp only [s2,ho,eo];rfl,some,_,RFin.okQ some [] ?_⟩
     constructor
     all_goals (try simp only [vle,kV,kC,qB,vkt,seval,zD,yz,aTk,cTk,qx,qg,qf,qc,qo,qO,qM,mTk,qd,qm,qp,qy,g1L,gwL,gwH,buO,zA,wT,vD,vG,vH,jV,List.length_map,fnI,wy,qU,nth,hwL,Nat.zero_add,Nat.sub_zero])
     all_goals first|rfl|(simp;done)
    |true =>
     have hgo:goB cs a sold begun b=true:=by unfold goB;rw [c1,c2,c3];rfl
     have hgb:gbL cs a m sold begun b=wU cs a m (sold++[Qd a begun.length b]) (begun++[b]):=by unfold gbL;rw [if_pos hgo]
     rw [hgb] at n2 n3 n4
     have hG:=Qcj ok hjl hb ho hgo n2
     obtain ⟨D,hD⟩:∃ D,min (wU cs a m (sold++[Qd a begun.length b]) (begun++[b])).length (R - o)=D:=⟨_,rfl⟩
     rw [hD] at hG n3 n4
     have hDle:D≤R - o:=by omega
     cases hab:ansB j with
     |false =>
      rw [hab] at n3
      have n3:=n3.symm
      repeat' (first|(apply nx;with_reducible constructor)|refine jq (by decide) ?_|((first|refine kz env fun Q hQ=>?_|refine kj fun Q hQ=>?_);simp only [vkt,seval,zD,yz,aTk,cTk,qx,qg,qf,qc,qo,qO,qM,mTk,qd,qm,qp,qy,g1L,gwL,gwH,buO,zA,wT,vD,vG,vH,jV,List.length_map,fnI,wy,qU,nth,hwL,Nat.zero_add,Nat.sub_zero,hb1,c1,c2,c3,eb,et,hno,hs100,hD,hDle,hG,n3];(try simp only [ite_and]);(repeat' (first|with_reducible assumption|refine And.intro ?_ ?_|intro hp));all_goals (first|(refine hQ _ ?_;clear hQ Q)|(refine hQ _ (fun h=>?_) (fun h=>?_) <;> clear hQ Q <;> (try simp only [vki,reduceCtorEq] at h))|(refine kx ?_;kernel_rfl)|omega|assumption|with_reducible rfl|skip)))
      refine ⟨by rw [hab];rfl,by simp only [n4,ho,eo],some,_,RFin.okQ some [] ?_⟩
      constructor
      all_goals (try simp only [vle,kV,kC,qB,vkt,seval,zD,yz,aTk,cTk,qx,qg,qf,qc,qo,qO,qM,mTk,qd,qm,qp,qy,g1L,gwL,gwH,buO,zA,wT,vD,vG,vH,jV,List.length_map,fnI,wy,qU,nth,hwL,Nat.zero_add,Nat.sub_zero])
      all_goals first|rfl|(simp;done)
     |true =>
      rw [hab] at n3
      have n3:=n3.symm
      repeat' (first|(apply nx;with_reducible constructor)|refine jq (by decide) ?_|((first|refine kz env fun Q hQ=>?_|refine kj fun Q hQ=>?_);simp only [vkt,seval,zD,yz,aTk,cTk,qx,qg,qf,qc,qo,qO,qM,mTk,qd,qm,qp,qy,g1L,gwL,gwH,buO,zA,wT,vD,vG,vH,jV,List.length_map,fnI,wy,qU,nth,hwL,Nat.zero_add,Nat.sub_zero,hb1,c1,c2,c3,eb,et,hno,hs100,hD,hDle,hG,n3];(try simp only [ite_and]);(repeat' (first|with_reducible assumption|refine And.intro ?_ ?_|intro hp));all_goals (first|(refine hQ _ ?_;clear hQ Q)|(refine hQ _ (fun h=>?_) (fun h=>?_) <;> clear hQ Q <;> (try simp only [vki,reduceCtorEq] at h))|(refine kx ?_;kernel_rfl)|omega|assumption|with_reducible rfl|skip)))
      refine ⟨by rw [hab];rfl,by simp only [n4,ho,eo],some,_,RFin.okQ some [] ?_⟩
      constructor
      all_goals (try simp only [vle,kV,kC,qB,vkt,seval,zD,yz,aTk,cTk,qx,qg,qf,qc,qo,qO,qM,mTk,qd,qm,qp,qy,g1L,gwL,gwH,buO,zA,wT,vD,vG,vH,jV,List.length_map,fnI,wy,qU,nth,hwL,Nat.zero_add,Nat.sub_zero])
      all_goals first|rfl|(simp;done)
 ·have hR:QH ansB RB=true:=by
   by_cases h0:RB=0
   ·simp [QH,h0]
   ·simp [QH,hall (RB - 1) (by omega)]
  rw [hR,hend]
  have eh:qj ((8,AObj.mark) :: gwH cs s a sold begun++zk [7] (8+1) 0 [buO cs s])=qj [(8,.mark),(0,qm cs s 1),(1,qp sold),(2,.cells [.ptr 0 0]),(3,.cells (qg a)),(4,.cells [.sl (begun.map qo)]),(5,.cells [.cb]),(6,.cells [aB false]),(7,buO cs s)]:=rfl
  rw [eh]
  repeat' (first|(apply nx;with_reducible constructor)|refine jq (by decide) ?_|((first|refine kz env fun Q hQ=>?_|refine kj fun Q hQ=>?_);simp only [vkt,seval,zD,yz,aTk,cTk,qx,qg,qf,qc,qo,qO,qM,mTk,qd,qm,qp,qy,g1L,gwL,gwH,buO,zA,wT,vD,vG,vH,jV,List.length_map,fnI,wy,qU,nth,hwL,Nat.zero_add,Nat.sub_zero];(try simp only [ite_and]);(repeat' (first|with_reducible assumption|refine And.intro ?_ ?_|intro hp));all_goals (first|(refine hQ _ ?_;clear hQ Q)|(refine hQ _ (fun h=>?_) (fun h=>?_) <;> clear hQ Q <;> (try simp only [vki,reduceCtorEq] at h))|(refine kx ?_;kernel_rfl)|omega|assumption|with_reducible rfl|skip)))
  (simp only [vrt,Tryz.results104,vkt,seval,zD,yz,aTk,cTk,qx,qg,qf,qc,qo,qO,qM,mTk,qd,qm,qp,qy,g1L,gwL,gwH,buO,zA,wT,vD,vG,vH,jV,List.length_map,fnI,wy,qU,nth,hwL,Nat.zero_add,Nat.sub_zero];refine Fin.ok some [] ?_ ?_ ?_ ?_ ?_ rfl;all_goals (try simp only [vle,vkt,seval,zD,yz,aTk,cTk,qx,qg,qf,qc,qo,qO,qM,mTk,qd,qm,qp,qy,g1L,gwL,gwH,buO,zA,wT,vD,vG,vH,jV,List.length_map,fnI,wy,qU,nth,hwL,Nat.zero_add,Nat.sub_zero]))
  all_goals first|rfl|(simp;done)|exact fun i hi=>(match i,hi with|0,_=>rfl|1,_=>rfl)
 ·have hR:QH ansB RB=false:=by
   simp [QH,hlast,show ¬ RB=0 by omega]
  rw [hR,hend]
  have eh:qj ((8,AObj.mark) :: gwH cs s a sold begun++zk [7] (8+1) 0 [buO cs s])=qj [(8,.mark),(0,qm cs s 1),(1,qp sold),(2,.cells [.ptr 0 0]),(3,.cells (qg a)),(4,.cells [.sl (begun.map qo)]),(5,.cells [.cb]),(6,.cells [aB false]),(7,buO cs s)]:=rfl
  rw [eh]
  repeat' (first|(apply nx;with_reducible constructor)|refine jq (by decide) ?_|((first|refine kz env fun Q hQ=>?_|refine kj fun Q hQ=>?_);simp only [vkt,seval,zD,yz,aTk,cTk,qx,qg,qf,qc,qo,qO,qM,mTk,qd,qm,qp,qy,g1L,gwL,gwH,buO,zA,wT,vD,vG,vH,jV,List.length_map,fnI,wy,qU,nth,hwL,Nat.zero_add,Nat.sub_zero];(try simp only [ite_and]);(repeat' (first|with_reducible assumption|refine And.intro ?_ ?_|intro hp));all_goals (first|(refine hQ _ ?_;clear hQ Q)|(refine hQ _ (fun h=>?_) (fun h=>?_) <;> clear hQ Q <;> (try simp only [vki,reduceCtorEq] at h))|(refine kx ?_;kernel_rfl)|omega|assumption|with_reducible rfl|skip)))
  (simp only [vrt,Tryz.results104,vkt,seval,zD,yz,aTk,cTk,qx,qg,qf,qc,qo,qO,qM,mTk,qd,qm,qp,qy,g1L,gwL,gwH,buO,zA,wT,vD,vG,vH,jV,List.length_map,fnI,wy,qU,nth,hwL,Nat.zero_add,Nat.sub_zero];refine Fin.ok some [] ?_ ?_ ?_ ?_ ?_ rfl;all_goals (try simp only [vle,vkt,seval,zD,yz,aTk,cTk,qx,qg,qf,qc,qo,qO,qM,mTk,qd,qm,qp,qy,g1L,gwL,gwH,buO,zA,wT,vD,vG,vH,jV,List.length_map,fnI,wy,qU,nth,hwL,Nat.zero_add,Nat.sub_zero]))
  all_goals first|rfl|(simp;done)|exact fun i hi=>(match i,hi with|0,_=>rfl|1,_=>rfl)
theorem Qam (cs:List Cabin) (s:Int) (a:Ask):∀ m,XI cs s a m
 |0=>Qd3 cs s a
 |m+1=>QeC cs s a m (Qiz (Qg6 (Qam cs s a m)))
theorem QiU (a:Ask):PCs (qg a):=⟨by simp [qg,AV.idsL,AV.ids],by simp [qg,AV.leL,AV.le],by simp [qg,AV.renL,AV.ren]⟩
def Vn:=kk @ty3 (kk @QM (kk @yU (kk @ti3.eq_1 (kk @Qb.eq_1 @yA.eq_1))))
def QbR:=kk @aI.eq_1 (@aB.eq_1)
theorem QhP (a:Ask):J9 125 (qg a) (fun x=>decide (x.party=a.party)):=fun x=>by
 have env:Env (fun _=>True) Tryz.prog tyB (tab []):=qL trivial
 refine Fn.of (A:=fun _=>True) (n0:=1) (D:=noD) (Fn0 Tryz.func125 rfl (fun vs w=>by kernel_rfl) (by kernel_rfl)) (by simp) (by simp [AV.ids,AV.idsL,aTk,cTk]) ?_ (fun _ _ _ _=>trivial) qF ?_
 ·intro i o hi
  have h:=qR hi
  simp at h;obtain ⟨rfl,rfl⟩:=h;simp [qg,AObj.ids,AV.ids,AV.idsL]
 repeat' (first|(apply nx;with_reducible constructor)|refine jq (by decide) ?_|((first|refine kz env fun Q hQ=>?_|refine kj fun Q hQ=>?_);simp only [vkt,seval,Vn,QbR,aTk,cTk,qg];(try simp only [ite_and]);(repeat' (first|with_reducible assumption|refine And.intro ?_ ?_|intro hp));all_goals (first|(refine hQ _ ?_;clear hQ Q)|(refine hQ _ (fun h=>?_) (fun h=>?_) <;> clear hQ Q <;> (try simp only [vki,reduceCtorEq] at h))|(refine kx ?_;kernel_rfl)|omega|assumption|with_reducible rfl|skip)))
 all_goals (simp only [vrt,Tryz.results125,vkt,seval,Vn,QbR,aTk,cTk,qg];refine Fin.ok some [] ?_ ?_ ?_ ?_ ?_ rfl;all_goals (try simp only [vle,vkt,seval,Vn,QbR,aTk,cTk,qg]))
 all_goals first|rfl|(simp;done)
def yO (a:Ask) (S:St):List AV→Option Pk
 |[.sl xs,.clo f [.ptr t 0]]=>match S.h t with
  |some (.cells cs')=>some { pre:=f=125∧cs'=qg a∧xs=(xs.map dTk).map eTk∧xs.length≤100,hs:=[t],ar:=[.sl xs,.clo 125 [.ptr 0 0]],L0:=[.cells (qg a)],v:=aB ((xs.map dTk).any fun x=>decide (x.party=a.party)),L1:=[some (.cells (qg a))] }
  |_=>none
 |_=>none
theorem QkF {A:Frm→Prop} {a:Ask}:qE A Tryz.prog 124 (fnE (yO a)):=zY fun S bs q h hp=>by
 unfold yO at h
 split at h
 ·split at h
  ·cases h
   obtain ⟨_,_,h1,h2⟩:=hp
   have:=RY (QiU a) (QhP a) (List.map dTk _) (by rw [List.length_map];exact h2)
   rw [ql,← h1] at this
   exact this
  ·cases h
 ·cases h
def akS (c:Chart) (a:Ask) (k:Nat):St:={ t:=asg [(2,.ptr 0 0),(3,.ptr 1 0),(4,aI 0),(36,.sl (a.sexes.map zF)),(37,aI a.sexes.length),(38,aI k)],h:=qj [(0,.cells (qb c)),(1,.cells (qg a))],n:=2 }
def ZZ (s:Int):Int:=if !inB s 1 2 then 8 else 0
def jl:=kk @ty3 (kk @x9 (kk @yc (kk @Qe (kk @QM (kk @Zc (kk @yU (kk @ti3.eq_1 (kk @xD.eq_1 (kk @jM.eq_1 (kk @x8.eq_1 (kk @Qb.eq_1 (kk @QA.eq_1 @yA.eq_1))))))))))))
def vQ:=kk @aI.eq_1 (kk @aB.eq_1 (kk @zF.eq_1 (kk @XE (@QT))))
theorem QkK (c:Chart) (a:Ask) (hc:c.sold.length≤100) (ha:a.sexes.length≤maxLen):FnV Tryz.prog 92 [qa c,qx a] (aI (vK c a)):=by
 have env:Env (fun _=>True) Tryz.prog tyB (tab [(77,qX true sin),(91,qX true zl),(78,qX true xA),(124,fnE (yO a))]):=qL ⟨ein,LU,eway,QkF,trivial⟩
 refine Fn.of (A:=fun _=>True) (n0:=0) (D:=noD) (Fn0 Tryz.func92 rfl (fun vs w=>by kernel_rfl) (by kernel_rfl)) (by simp) (by simp [AV.ids,AV.idsL,qa,qb,qx,qg]) (fun i o h=>by cases h) (fun _ _ _ _=>trivial) qF ?_
 cases h1:inB a.party 1 99
 ·rw [show vK c a=1 by simp [vK,h1]]
  repeat' (first|(apply nx;with_reducible constructor)|refine jq (by decide) ?_|((first|refine kz env fun Q hQ=>?_|refine kj fun Q hQ=>?_);simp only [vkt,seval,jl,vQ,qa,qb,qx,qg,mTk,qd,akS,sin,zl,xA,yO,List.length_map,h1];(try simp only [ite_and]);(repeat' (first|with_reducible assumption|refine And.intro ?_ ?_|intro hp));all_goals (first|(refine hQ _ ?_;clear hQ Q)|(refine hQ _ (fun h=>?_) (fun h=>?_) <;> clear hQ Q <;> (try simp only [vki,reduceCtorEq] at h))|(refine kx ?_;kernel_rfl)|omega|assumption|with_reducible rfl|skip)))
  (simp only [vrt,Tryz.results92,vkt,seval,jl,vQ,qa,qb,qx,qg,mTk,qd,akS,sin,zl,xA,yO,List.length_map];refine Fin.val rfl ?_;(try simp only [AV.le,AV.leL]))
  all_goals first|rfl|(simp;done)
 cases h2:c.sold.any (fun t=>decide (t.party=a.party))
 case true =>
  rw [show vK c a=4 by simp only [vK,h1,h2];rfl]
  repeat' (first|(apply nx;with_reducible constructor)|refine jq (by decide) ?_|((first|refine kz env fun Q hQ=>?_|refine kj fun Q hQ=>?_);simp only [vkt,seval,jl,vQ,qa,qb,qx,qg,mTk,qd,akS,sin,zl,xA,yO,List.length_map,h1,h2,hc];(try simp only [ite_and]);(repeat' (first|with_reducible assumption|refine And.intro ?_ ?_|intro hp));all_goals (first|(refine hQ _ ?_;clear hQ Q)|(refine hQ _ (fun h=>?_) (fun h=>?_) <;> clear hQ Q <;> (try simp only [vki,reduceCtorEq] at h))|(refine kx ?_;kernel_rfl)|omega|assumption|with_reducible rfl|skip)))
  (simp only [vrt,Tryz.results92,vkt,seval,jl,vQ,qa,qb,qx,qg,mTk,qd,akS,sin,zl,xA,yO,List.length_map];refine Fin.val rfl ?_;(try simp only [AV.le,AV.leL]))
  all_goals first|rfl|(simp;done)
 by_cases h3:QO c.secs a.frm a.to=0
 case neg =>
  rw [show vK c a=QO c.secs a.frm a.to by unfold vK;rw [h1,h2];simp [h3]]
  repeat' (first|(apply nx;with_reducible constructor)|refine jq (by decide) ?_|((first|refine kz env fun Q hQ=>?_|refine kj fun Q hQ=>?_);simp only [vkt,seval,jl,vQ,qa,qb,qx,qg,mTk,qd,akS,sin,zl,xA,yO,List.length_map,h1,h2,h3,hc];(try simp only [ite_and]);(repeat' (first|with_reducible assumption|refine And.intro ?_ ?_|intro hp));all_goals (first|(refine hQ _ ?_;clear hQ Q)|(refine hQ _ (fun h=>?_) (fun h=>?_) <;> clear hQ Q <;> (try simp only [vki,reduceCtorEq] at h))|(refine kx ?_;kernel_rfl)|omega|assumption|with_reducible rfl|skip)))
  (simp only [vrt,Tryz.results92,vkt,seval,jl,vQ,qa,qb,qx,qg,mTk,qd,akS,sin,zl,xA,yO,List.length_map];refine Fin.val rfl ?_;(try simp only [AV.le,AV.leL]))
  all_goals first|rfl|(simp;done)
 by_cases h4:zt a.sexes.length 1 3=0
 case neg =>
  rw [show vK c a=zt a.sexes.length 1 3 by unfold vK;rw [h1,h2,h3];simp [h4]]
  repeat' (first|(apply nx;with_reducible constructor)|refine jq (by decide) ?_|((first|refine kz env fun Q hQ=>?_|refine kj fun Q hQ=>?_);simp only [vkt,seval,jl,vQ,qa,qb,qx,qg,mTk,qd,akS,sin,zl,xA,yO,List.length_map,h1,h2,h3,h4,hc];(try simp only [ite_and]);(repeat' (first|with_reducible assumption|refine And.intro ?_ ?_|intro hp));all_goals (first|(refine hQ _ ?_;clear hQ Q)|(refine hQ _ (fun h=>?_) (fun h=>?_) <;> clear hQ Q <;> (try simp only [vki,reduceCtorEq] at h))|(refine kx ?_;kernel_rfl)|omega|assumption|with_reducible rfl|skip)))
  (simp only [vrt,Tryz.results92,vkt,seval,jl,vQ,qa,qb,qx,qg,mTk,qd,akS,sin,zl,xA,yO,List.length_map];refine Fin.val rfl ?_;(try simp only [AV.le,AV.leL]))
  all_goals first|rfl|(simp;done)
 have hl:a.sexes.length≤3:=by
  unfold zt at h4
  split at h4
  ·exact absurd h4 (by decide)
  ·split at h4
   ·exact absurd h4 (by decide)
   ·omega
 rw [show vK c a=yw (a.sexes.map ZZ) by unfold vK;rw [h1,h2,h3,h4];rfl]
 repeat' (first|(apply nx;with_reducible constructor)|refine jq (by decide) ?_|((first|refine kz env fun Q hQ=>?_|refine kj fun Q hQ=>?_);simp only [vkt,seval,jl,vQ,qa,qb,qx,qg,mTk,qd,akS,sin,zl,xA,yO,List.length_map,h1,h2,h3,h4,hc];(try simp only [ite_and]);(repeat' (first|with_reducible assumption|refine And.intro ?_ ?_|intro hp));all_goals (first|(refine hQ _ ?_;clear hQ Q)|(refine hQ _ (fun h=>?_) (fun h=>?_) <;> clear hQ Q <;> (try simp only [vki,reduceCtorEq] at h))|(refine kx ?_;kernel_rfl)|omega|assumption|with_reducible rfl|skip)))
 refine qN (fun k:{ k:Nat // k≤a.sexes.length∧∀ j,j < k→(a.sexes.map ZZ).getD j 0=0 }=>akS c a k.1) (fun k=>a.sexes.length - k.1) ⟨0,Nat.zero_le _,fun j h=>absurd h (Nat.not_lt_zero _)⟩ ?_ fun ⟨k,hk,hno⟩=>?_
 ·(refine Le.ok some [] ?_;constructor;all_goals (try simp only [vle,vkt,seval,jl,vQ,qa,qb,qx,qg,mTk,qd,akS,sin,zl,xA,yO,List.length_map]))
  all_goals first|rfl|(simp;done)
 ·repeat' (first|(apply nx;with_reducible constructor)|refine jq (by decide) ?_)
  (refine kz env fun Q hQ=>?_;simp only [vkt,seval,jl,vQ,qa,qb,qx,qg,mTk,qd,akS,sin,zl,xA,yO,List.length_map];(try simp only [ite_and]);(repeat' (first|with_reducible assumption|refine And.intro ?_ ?_|intro hp));all_goals (first|(refine hQ _ ?_;clear hQ Q)|(refine kx ?_;kernel_rfl)|omega|assumption|with_reducible rfl|skip))
  repeat' (first|(apply nx;with_reducible constructor)|refine jq (by decide) ?_)
  (refine yY (by simp only [vkt,seval,jl,vQ,qa,qb,qx,qg,mTk,qd,akS,sin,zl,xA,yO,List.length_map];rfl) (fun h=>?_) (fun h=>?_) <;> (try simp only [vki,reduceCtorEq] at h))
  ·have hlt:k < a.sexes.length:=by omega
   have e9:IntKind.wrap .i64 ((k:Int)+1)=((k+1:Nat):Int):=by rw [wrap64 (by omega) (by omega)];rfl
   obtain ⟨x,hx⟩:∃ x,a.sexes.getD k 0=x:=⟨_,rfl⟩
   have hm:(a.sexes.map ZZ).getD k 0=ZZ x:=by rw [mapD hlt];exact congrArg ZZ hx
   cases hb:inB x 1 2
   ·have hE:ZZ x=8:=by simp [ZZ,hb]
    have hf:=kG hno (by simpa using hlt) (by rw [hm,hE];decide)
    rw [hm,hE] at hf
    rw [hf]
    repeat' (first|(apply nx;with_reducible constructor)|refine jq (by decide) ?_|((first|refine kz env fun Q hQ=>?_|refine kj fun Q hQ=>?_);simp only [vkt,seval,jl,vQ,qa,qb,qx,qg,mTk,qd,akS,sin,zl,xA,yO,List.length_map,hx,hb,e9];(try simp only [ite_and]);(repeat' (first|with_reducible assumption|refine And.intro ?_ ?_|intro hp));all_goals (first|(refine hQ _ ?_;clear hQ Q)|(refine hQ _ (fun h=>?_) (fun h=>?_) <;> clear hQ Q <;> (try simp only [vki,reduceCtorEq] at h))|(refine kx ?_;kernel_rfl)|omega|assumption|with_reducible rfl|skip)))
    (simp only [vrt,Tryz.results92,vkt,seval,jl,vQ,qa,qb,qx,qg,mTk,qd,akS,sin,zl,xA,yO,List.length_map];refine Fin.val rfl ?_;(try simp only [AV.le,AV.leL]))
    all_goals first|rfl|(simp;done)
   ·have hE:ZZ x=0:=by simp [ZZ,hb]
    repeat' (first|(apply nx;with_reducible constructor)|refine jq (by decide) ?_|((first|refine kz env fun Q hQ=>?_|refine kj fun Q hQ=>?_);simp only [vkt,seval,jl,vQ,qa,qb,qx,qg,mTk,qd,akS,sin,zl,xA,yO,List.length_map,hx,hb,e9];(try simp only [ite_and]);(repeat' (first|with_reducible assumption|refine And.intro ?_ ?_|intro hp));all_goals (first|(refine hQ _ ?_;clear hQ Q)|(refine hQ _ (fun h=>?_) (fun h=>?_) <;> clear hQ Q <;> (try simp only [vki,reduceCtorEq] at h))|(refine kx ?_;kernel_rfl)|omega|assumption|with_reducible rfl|skip)))
    refine ⟨⟨k+1,hlt,fun j hj=>?_⟩,by show a.sexes.length - (k+1) < a.sexes.length - k;omega, ?_⟩
    ·rcases Nat.lt_or_eq_of_le (Nat.le_of_lt_succ hj) with h2|h2
     ·exact hno j h2
     ·rw [h2,hm,hE]
    ·(refine Le.ok some [] ?_;constructor;all_goals (try simp only [vle,vkt,seval,jl,vQ,qa,qb,qx,qg,mTk,qd,akS,sin,zl,xA,yO,List.length_map]))
     all_goals first|rfl|(simp;done)
  ·have hke:k=a.sexes.length:=by omega
   subst hke
   rw [yo (l:=a.sexes.map ZZ) (by simpa using hno)]
   repeat' (first|(apply nx;with_reducible constructor)|refine jq (by decide) ?_|((first|refine kz env fun Q hQ=>?_|refine kj fun Q hQ=>?_);simp only [vkt,seval,jl,vQ,qa,qb,qx,qg,mTk,qd,akS,sin,zl,xA,yO,List.length_map];(try simp only [ite_and]);(repeat' (first|with_reducible assumption|refine And.intro ?_ ?_|intro hp));all_goals (first|(refine hQ _ ?_;clear hQ Q)|(refine hQ _ (fun h=>?_) (fun h=>?_) <;> clear hQ Q <;> (try simp only [vki,reduceCtorEq] at h))|(refine kx ?_;kernel_rfl)|omega|assumption|with_reducible rfl|skip)))
   (simp only [vrt,Tryz.results92,vkt,seval,jl,vQ,qa,qb,qx,qg,mTk,qd,akS,sin,zl,xA,yO,List.length_map];refine Fin.val rfl ?_;(try simp only [AV.le,AV.leL]))
   all_goals first|rfl|(simp;done)
def Xi:List AV→Prop × AV
 |[.agg [.sl c0,.v (.int .i64 c1),.sl c2],.agg [.v (.int .i64 a0),.v (.int .i64 a1),.v (.int .i64 a2),.sl a3,.v (.bool a4)]]=>(c0=(c0.map qw).map qh∧c2=(c2.map dTk).map eTk∧a3=(a3.map zb).map zF∧c2.length≤100∧a3.length≤maxLen,aI (vK (⟨(c0.map qw),c1,(c2.map dTk)⟩:Chart) (⟨a0,a1,a2,(a3.map zb),a4⟩:Ask)))
 |_=>(False,.junk)
theorem eask {A:Frm→Prop}:qE A Tryz.prog 92 (qX true Xi):=qW fun vs hv h=>by
 clear hv
 unfold Xi at h ⊢
 split at h
 ·rename_i c0 c1 c2 a0 a1 a2 a3 a4;obtain ⟨q0,q1,q2,k0,k1⟩:=h
  refine ⟨by first|trivial|(simp [AV.plain,AV.plainL,aI,aB,qz,qc,ql,qf,aTk,cTk];done)|(repeat' split) <;> simp [AV.plain,AV.plainL,aI,aB,qz,qc,ql,qf,aTk,cTk],fun _=>(by simp [AV.flat,AV.flatL,aI,aB]), ?_⟩
  have:=QkK (⟨(c0.map qw),c1,(c2.map dTk)⟩:Chart) (⟨a0,a1,a2,(a3.map zb),a4⟩:Ask) (by simpa using k0) (by simpa using k1)
  simp only [qx,aB,qY,qa,aI,qz,ql,qg,qb,← q0,← q1,← q2] at this
  first|exact this|(simp only [qx,aB,qY,qa,aI,qz,ql,qg,qb,← q0,← q1,← q2];exact this)
 ·exact h.elim
def y9:=kk @W9 (kk @Jz (kk @ZT.eq_1 @Z4.eq_1))
theorem QeW (xs:List (List DV)) (h1:zJ 2 xs) (h2:xs.length≤100000):Fn noB Tryz.prog 115 [.sl xs] noH (.row 0) (qj [(0,.row 89 2 xs)]) 0:=by
 have env:Env (fun _=>True) Tryz.prog tyB (tab []):=qL trivial
 obtain ⟨b1,b2,b3,b5,b4⟩:=b47 h2
 refine Fn.of (A:=fun _=>True) (n0:=0) (D:=noD) (Fn0 Tryz.func115 rfl (fun vs w=>by kernel_rfl) (by kernel_rfl)) (by simp) (by simp [AV.ids]) (fun i o h=>by cases h) (fun _ _ _ _=>trivial) qF ?_
 repeat' (first|(apply nx;with_reducible constructor)|refine jq (by decide) ?_)
 (refine kz env fun Q hQ=>?_;simp only [vkt,seval,y9,@true_and];(try simp only [ite_and]);(repeat' (first|with_reducible assumption|refine And.intro ?_ ?_|intro hp));all_goals (first|(refine hQ _ ?_;clear hQ Q)|(refine kx ?_;kernel_rfl)|omega|assumption|with_reducible rfl|skip))
 repeat' (first|(apply nx;with_reducible constructor)|refine jq (by decide) ?_)
 refine Zu (d1:=3) (d2:=4) (t:=22) (e:=89) (x:=.tmp 0) (xs:=xs) rfl rfl rfl rfl rfl rfl Tryz.underlying22 rfl fun b hb=>?_
 repeat' (first|(apply nx;with_reducible constructor)|refine jq (by decide) ?_)
 (refine yY (by simp only [vkt,seval,y9,@true_and];rfl) (fun h=>?_) (fun h=>?_) <;> (try simp only [vki,reduceCtorEq] at h))
 ·have hx:=hb h
  subst hx
  repeat' (first|(apply nx;with_reducible constructor)|refine jq (by decide) ?_|((first|refine kz env fun Q hQ=>?_|refine kj fun Q hQ=>?_);simp only [vkt,seval,y9,@true_and];(try simp only [ite_and]);(repeat' (first|with_reducible assumption|refine And.intro ?_ ?_|intro hp));all_goals (first|(refine hQ _ ?_;clear hQ Q)|(refine hQ _ (fun h=>?_) (fun h=>?_) <;> clear hQ Q <;> (try simp only [vki,reduceCtorEq] at h))|(refine kx ?_;kernel_rfl)|omega|assumption|with_reducible rfl|skip)))
  (simp only [vrt,Tryz.results115,vkt,seval,y9,@true_and];refine Fin.ok (fun _=>none) [] ?_ ?_ ?_ ?_ ?_ rfl;all_goals (try simp only [vle,vkt,seval,y9,@true_and]))
  all_goals simp
 ·repeat' (first|(apply nx;with_reducible constructor)|refine jq (by decide) ?_|((first|refine kz env fun Q hQ=>?_|refine kj fun Q hQ=>?_);simp only [vkt,seval,y9,@true_and];(try simp only [ite_and]);(repeat' (first|with_reducible assumption|refine And.intro ?_ ?_|intro hp));all_goals (first|(refine hQ _ ?_;clear hQ Q)|(refine hQ _ (fun h=>?_) (fun h=>?_) <;> clear hQ Q <;> (try simp only [vki,reduceCtorEq] at h))|(refine kx ?_;kernel_rfl)|omega|assumption|with_reducible rfl|skip)))
  (simp only [vrt,Tryz.results115,vkt,seval,y9,@true_and];refine Fin.ok some [] ?_ ?_ ?_ ?_ ?_ rfl;all_goals (try simp only [vle,vkt,seval,y9,@true_and]))
  all_goals simp
def JN (_:St):List AV→Option Pk
 |[.sl xs]=>some { pre:=zJ 2 xs∧xs.length≤100000,ar:=[.sl xs],v:=.row 0,L1:=[some (.row 89 2 xs)] }
 |_=>none
theorem Qil {A:Frm→Prop}:qE A Tryz.prog 115 (fnE JN):=zY fun S bs q h hp=>by
 unfold JN at h
 split at h
 ·cases h;exact QeW _ hp.1 hp.2
 ·cases h
def Ye:=kk @W9 (kk @x9 (kk @yc (kk @yU (kk @Jz (kk @J2 (kk @ZT.eq_1 (kk @xD.eq_1 (kk @jM.eq_1 (kk @yA.eq_1 (kk @Z4.eq_1 @ZQ.eq_1))))))))))
def Qcc:=kk @aI.eq_1 (@aB.eq_1)
theorem Qhw (c:Chart) (h1:c.cabins.length≤100000) (h2:c.sold.length≤100000):Fn noB Tryz.prog 79 [qa c] noH (.ptr 0 0) (qj (wH 0 ((qy c.cabins c.secs c.sold).map some))) 0:=by
 have env:Env (fun _=>True) Tryz.prog tyB (tab [(116,fnE Qw),(115,fnE JN)]):=qL ⟨QcX,Qil,trivial⟩
 refine Fn.of (A:=fun _=>True) (n0:=0) (D:=noD) (Fn0 Tryz.func79 rfl (fun vs w=>by kernel_rfl) (by kernel_rfl)) (by simp) (by simp [AV.ids,AV.idsL,qa,qb]) (fun i o h=>by cases h) (fun _ _ _ _=>trivial) qF ?_
 show Sym _ _ _ (zV [qa c] 0 noH) (xM tyB noD Tryz.f79 fun S rv=>Fin S rv _ 0 (qj [(0,qm c.cabins c.secs 1),(1,qp c.sold)]) 0)
 repeat' (first|(apply nx;with_reducible constructor)|refine jq (by decide) ?_|((first|refine kz env fun Q hQ=>?_|refine kj fun Q hQ=>?_);simp only [vkt,seval,Ye,Qcc,qa,qb,rTk,zf,qm,qp,qy,Qw,JN,List.length_map,h1,h2];(try simp only [ite_and]);(repeat' (first|with_reducible assumption|refine And.intro ?_ ?_|intro hp));all_goals (first|(refine hQ _ ?_;clear hQ Q)|(refine hQ _ (fun h=>?_) (fun h=>?_) <;> clear hQ Q <;> (try simp only [vki,reduceCtorEq] at h))|(refine kx ?_;kernel_rfl)|omega|assumption|with_reducible rfl|skip)))
 all_goals (simp only [vrt,Tryz.results79,vkt,seval,Ye,Qcc,qa,qb,rTk,zf,qm,qp,qy,Qw,JN,List.length_map];refine Fin.ok (fun j=>[3,2][j]?) [1] ?_ ?_ ?_ ?_ ?_ rfl;all_goals (try simp only [vle,vkt,seval,Ye,Qcc,qa,qb,rTk,zf,qm,qp,qy,Qw,JN,List.length_map]))
 all_goals first|rfl|(simp;done)
def Zh (_:St):List AV→Option Pk
 |[.agg [.sl cs,.v (.int .i64 s),.sl ts]]=>some { pre:=cs=(cs.map qw).map qh∧ts=(ts.map dTk).map eTk∧cs.length≤100000∧ts.length≤100000,ar:=[.agg [.sl cs,.v (.int .i64 s),.sl ts]],v:=.ptr 0 0,L1:=(qy (cs.map qw) s (ts.map dTk)).map some }
 |_=>none
theorem QfW {A:Frm→Prop}:qE A Tryz.prog 79 (fnE Zh):=zY fun S bs q h hp=>by
 unfold Zh at h
 split at h
 ·rename_i cs s ts
  cases h
  obtain ⟨h1,h2,h3,h4⟩:=hp
  have:=Qhw ⟨cs.map qw,s,ts.map dTk⟩ (by simpa using h3) (by simpa using h4)
  simp only [qa,qb,← h1,← h2] at this
  exact this
 ·cases h
theorem yK {c:Chart} {a:Ask} (h:zw c a=0):zu c=0∧vK c a=0:=by
 unfold zw at h
 split at h
 ·rename_i h1;exact absurd h h1
 ·rename_i h1;exact ⟨Decidable.not_not.1 h1,h⟩
def xw:=kk @yc (kk @QM (kk @Zc (kk @jM.eq_1 (kk @Qb.eq_1 @QA.eq_1))))
def WI:=kk @aI.eq_1 (kk @aB.eq_1 (@QT))
theorem Qfv (c:Chart) (a:Ask) (h:zw c a=0) (hc:c.cabins.length≤maxLen) (ha:a.sexes.length≤maxLen):Fn noB Tryz.prog 50 [qa c,qx a] noH (.tup [.ptr 0 0,aI 0]) (qj (wH 0 ((qy c.cabins c.secs c.sold).map some))) 0:=by
 have env:Env (fun _=>True) Tryz.prog tyB (tab [(76,qX true w9),(92,qX true Xi),(79,fnE Zh)]):=qL ⟨U5,eask,QfW,trivial⟩
 refine Fn.of (A:=fun _=>True) (n0:=0) (D:=noD) (Fn0 Tryz.func50 rfl (fun vs w=>by kernel_rfl) (by kernel_rfl)) (by simp) (by simp [AV.ids,AV.idsL,qa,qb,qx,qg]) (fun i o h=>by cases h) (fun _ _ _ _=>trivial) qF ?_
 obtain ⟨h1,h2⟩:=yK h
 have hv:=QK h1
 have b1:=hv.car.cabs
 have b2:=hv.many
 have ec:(⟨c.cabins,c.secs,c.sold⟩:Chart)=c:=rfl
 have ea:(⟨a.party,a.frm,a.to,a.sexes,a.dog⟩:Ask)=a:=rfl
 have b3:c.sold.length≤100:=by omega
 have b4:c.sold.length≤100000:=by omega
 have b5:c.cabins.length≤100000:=by omega
 show Sym _ _ _ (zV [qa c,qx a] 0 noH) (xM tyB noD Tryz.f50 fun S rv=>Fin S rv _ 0 (qj [(0,qm c.cabins c.secs 1),(1,qp c.sold)]) 0)
 repeat' (first|(apply nx;with_reducible constructor)|refine jq (by decide) ?_|((first|refine kz env fun Q hQ=>?_|refine kj fun Q hQ=>?_);simp only [vkt,seval,xw,WI,qa,qb,qx,qg,mTk,qd,qm,qp,qy,w9,Xi,Zh,List.length_map,ec,ea,h1,h2,b3,b4,b5];(try simp only [ite_and]);(repeat' (first|with_reducible assumption|refine And.intro ?_ ?_|intro hp));all_goals (first|(refine hQ _ ?_;clear hQ Q)|(refine hQ _ (fun h=>?_) (fun h=>?_) <;> clear hQ Q <;> (try simp only [vki,reduceCtorEq] at h))|(refine kx ?_;kernel_rfl)|omega|assumption|with_reducible rfl|skip)))
 (simp only [vrt,Tryz.results50,vkt,seval,xw,WI,qa,qb,qx,qg,mTk,qd,qm,qp,qy,w9,Xi,Zh,List.length_map];refine Fin.ok (fun j=>[2,3][j]?) [] ?_ ?_ ?_ ?_ ?_ rfl;all_goals (try simp only [vle,vkt,seval,xw,WI,qa,qb,qx,qg,mTk,qd,qm,qp,qy,w9,Xi,Zh,List.length_map]))
 all_goals first|rfl|(simp;done)
theorem QeY (c:Chart) (a:Ask) (h0:zw c a ≠ 0) (hc:c.cabins.length≤maxLen) (ha:a.sexes.length≤maxLen):Fn noB Tryz.prog 50 [qa c,qx a] noH (.tup [.v (.pointer none),aI (zw c a)]) noH 0:=by
 have env:Env (fun _=>True) Tryz.prog tyB (tab [(76,qX true w9),(92,qX true Xi),(79,fnE Zh)]):=qL ⟨U5,eask,QfW,trivial⟩
 refine Fn.of (A:=fun _=>True) (n0:=0) (D:=noD) (Fn0 Tryz.func50 rfl (fun vs w=>by kernel_rfl) (by kernel_rfl)) (by simp) (by simp [AV.ids,AV.idsL,qa,qb,qx,qg]) (fun i o h=>by cases h) (fun _ _ _ _=>trivial) qF ?_
 have ec:(⟨c.cabins,c.secs,c.sold⟩:Chart)=c:=rfl
 have ea:(⟨a.party,a.frm,a.to,a.sexes,a.dog⟩:Ask)=a:=rfl
 by_cases h1:zu c=0
 ·have hE:zw c a=vK c a:=by unfold zw;rw [if_neg (by rw [h1];simp)]
  rw [hE] at h0 ⊢
  have hv:=QK h1
  have b2:=hv.many
  have b3:c.sold.length≤100:=by omega
  repeat' (first|(apply nx;with_reducible constructor)|refine jq (by decide) ?_|((first|refine kz env fun Q hQ=>?_|refine kj fun Q hQ=>?_);simp only [vkt,seval,xw,WI,qa,qb,qx,qg,mTk,qd,qm,qp,qy,w9,Xi,Zh,List.length_map,ec,ea,h1,h0,b3];(try simp only [ite_and]);(repeat' (first|with_reducible assumption|refine And.intro ?_ ?_|intro hp));all_goals (first|(refine hQ _ ?_;clear hQ Q)|(refine hQ _ (fun h=>?_) (fun h=>?_) <;> clear hQ Q <;> (try simp only [vki,reduceCtorEq] at h))|(refine kx ?_;kernel_rfl)|omega|assumption|with_reducible rfl|skip)))
  (simp only [vrt,Tryz.results50,vkt,seval,xw,WI,qa,qb,qx,qg,mTk,qd,qm,qp,qy,w9,Xi,Zh,List.length_map];refine Fin.val rfl ?_;(try simp only [AV.le,AV.leL]))
  all_goals first|rfl|(simp;done)
 ·have hE:zw c a=zu c:=by unfold zw;rw [if_pos h1]
  rw [hE]
  repeat' (first|(apply nx;with_reducible constructor)|refine jq (by decide) ?_|((first|refine kz env fun Q hQ=>?_|refine kj fun Q hQ=>?_);simp only [vkt,seval,xw,WI,qa,qb,qx,qg,mTk,qd,qm,qp,qy,w9,Xi,Zh,List.length_map,ec,ea,h1];(try simp only [ite_and]);(repeat' (first|with_reducible assumption|refine And.intro ?_ ?_|intro hp));all_goals (first|(refine hQ _ ?_;clear hQ Q)|(refine hQ _ (fun h=>?_) (fun h=>?_) <;> clear hQ Q <;> (try simp only [vki,reduceCtorEq] at h))|(refine kx ?_;kernel_rfl)|omega|assumption|with_reducible rfl|skip)))
  (simp only [vrt,Tryz.results50,vkt,seval,xw,WI,qa,qb,qx,qg,mTk,qd,qm,qp,qy,w9,Xi,Zh,List.length_map];refine Fin.val rfl ?_;(try simp only [AV.le,AV.leL]))
  all_goals first|rfl|(simp;done)
def za (_:St):List AV→Option Pk
 |[.agg [.sl cs,.v (.int .i64 s),.sl ts],.agg [.v (.int .i64 p),.v (.int .i64 f),.v (.int .i64 t),.sl xs,.v (.bool d)]] =>
  if zw ⟨cs.map qw,s,ts.map dTk⟩ ⟨p,f,t,xs.map zb,d⟩=0 then
   some { pre:=cs=(cs.map qw).map qh∧ts=(ts.map dTk).map eTk∧xs=(xs.map zb).map zF∧cs.length≤maxLen∧xs.length≤maxLen,ar:=[.agg [.sl cs,.v (.int .i64 s),.sl ts],.agg [.v (.int .i64 p),.v (.int .i64 f),.v (.int .i64 t),.sl xs,.v (.bool d)]],v:=.tup [.ptr 0 0,aI 0],L1:=(qy (cs.map qw) s (ts.map dTk)).map some }
  else some { pre:=cs=(cs.map qw).map qh∧ts=(ts.map dTk).map eTk∧xs=(xs.map zb).map zF∧cs.length≤maxLen∧xs.length≤maxLen,ar:=[.agg [.sl cs,.v (.int .i64 s),.sl ts],.agg [.v (.int .i64 p),.v (.int .i64 f),.v (.int .i64 t),.sl xs,.v (.bool d)]],v:=.tup [.v (.pointer none),aI (zw ⟨cs.map qw,s,ts.map dTk⟩ ⟨p,f,t,xs.map zb,d⟩)] }
 |_=>none
theorem XB {A:Frm→Prop}:qE A Tryz.prog 50 (fnE za):=zY fun S bs q h hp=>by
 unfold za at h
 split at h
 ·rename_i cs s ts p f t xs d
  split at h
  ·rename_i hE
   cases h
   obtain ⟨h1,h2,h3,h4,h5⟩:=hp
   have:=Qfv ⟨cs.map qw,s,ts.map dTk⟩ ⟨p,f,t,xs.map zb,d⟩ hE (by simpa using h4) (by simpa using h5)
   simp only [qa,qb,qx,qg,← h1,← h2,← h3] at this
   exact this
  ·rename_i hE
   cases h
   obtain ⟨h1,h2,h3,h4,h5⟩:=hp
   have:=QeY ⟨cs.map qw,s,ts.map dTk⟩ ⟨p,f,t,xs.map zb,d⟩ hE (by simpa using h4) (by simpa using h5)
   simp only [qa,qb,qx,qg,← h1,← h2,← h3] at this
   exact this
 ·cases h
theorem Qdz {t x:Tk} (h:Vs t x=false):xq t x=false∧QC x t=true:=by
 have e1:decide (t.to≤x.frm)=!decide (x.frm < t.to):=by rw [← decide_not,decide_eq_decide];omega
 have e2:decide (x.to≤t.frm)=!decide (t.frm < x.to):=by rw [← decide_not,decide_eq_decide];omega
 have e3:decide (x.cab ≠ t.cab)=!decide (x.cab=t.cab):=by rw [← decide_not]
 unfold Vs at h
 unfold xq QC xH
 rw [e1,e2] at h
 rw [e3]
 generalize decide (x.cab=t.cab)=A at *
 generalize decide (x.frm < t.to)=B at *
 generalize decide (t.frm < x.to)=C at *
 generalize decide (x.bed=t.bed)=D at *
 generalize decide (x.party=t.party)=E at *
 generalize decide (x.sex=t.sex)=F at *
 generalize x.dog=G at *
 generalize t.dog=H at *
 clear e1 e2 e3
 revert A B C D E F G H
 decide
theorem Qaw {l:List Tk} {t:Tk} (h:WO l t=true):wh t l=0:=by
 have hb:∀ x ∈ l,Vs t x=false:=by
  unfold WO at h
  intro x hx
  have:l.any (Vs t)=false:=by simpa using h
  have:=List.any_eq_false.1 this x hx
  simpa using this
 unfold wh
 rw [if_neg,if_neg]
 ·rw [List.any_eq_true]
  rintro ⟨x,hx,h1⟩
  rw [(Qdz (hb x hx)).2] at h1
  exact absurd h1 (by decide)
 ·rw [List.any_eq_true]
  rintro ⟨x,hx,h1⟩
  rw [(Qdz (hb x hx)).1] at h1
  exact absurd h1 (by decide)
theorem VH {cs:List Cabin} {secs:Int} {t:Tk} {l:List Tk} (h1:1≤t.party∧t.party≤99) (h2:1≤t.sex∧t.sex≤2) (h3:0≤t.cab∧t.cab.toNat < cs.length) (h4:0≤t.bed∧t.bed < (cs.getD t.cab.toNat default).beds) (h5:0≤t.frm∧t.frm < t.to∧t.to≤secs) (h6:wh t l=0) :
  zH ⟨cs,secs,[]⟩ t l=0:=by
 have b1:inB t.party 1 99=true:=wL.2 h1
 have b2:inB t.sex 1 2=true:=wL.2 h2
 have b3:jN cs t.cab t.bed=true:=by
  unfold jN
  rw [wL.2 (by omega),wL.2 (by omega)];rfl
 have b4:QO secs t.frm t.to=0:=by unfold QO;rw [if_neg (by omega)]
 unfold zH
 rw [b1,b2]
 simp only [b3,b4,h6,Bool.not_true,Bool.false_eq_true,if_false,ne_eq,not_true_eq_false]
theorem Qfu {cs:List Cabin} {secs p s1:Int} (hc:1≤cs.length∧cs.length≤3) (hb:∀ x ∈ cs,1≤x.beds∧x.beds≤3) (hs:1≤secs∧secs≤5):(xI cs secs p s1).1.party=p∧(1≤(xI cs secs p s1).1.sex∧(xI cs secs p s1).1.sex≤2)∧(0≤(xI cs secs p s1).1.cab∧(xI cs secs p s1).1.cab.toNat < cs.length) ∧
  (0≤(xI cs secs p s1).1.bed∧(xI cs secs p s1).1.bed < (cs.getD (xI cs secs p s1).1.cab.toNat default).beds)∧0≤(xI cs secs p s1).1.frm∧(xI cs secs p s1).1.frm < (xI cs secs p s1).1.to∧(xI cs secs p s1).1.to≤secs:=by
 have hn:=up2 s1 (m:=(cs.length:Int) - 1) (by omega) (by omega)
 have hnl:(upV s1 ((cs.length:Int) - 1)).toNat < cs.length:=by omega
 have hbb:=hb _ (yB (d:=default) hnl)
 obtain ⟨bb,hbv⟩:∃ q,(cs.getD (upV s1 ((cs.length:Int) - 1)).toNat default).beds=q:=⟨_,rfl⟩
 rw [hbv] at hbb
 have hbd:=up2 (upS (upS s1 ((cs.length:Int) - 1)) 1) (m:=bb - 1) (by omega) (by omega)
 have hf:=up2 (upS (upS (upS s1 ((cs.length:Int) - 1)) 1) (bb - 1)) (m:=secs - 1) (by omega) (by omega)
 have hsx:=Qg8 (upS s1 ((cs.length:Int) - 1))
 unfold sxV at hsx
 unfold xI
 simp only [hbv]
 obtain ⟨f,hfv⟩:∃ q,upV (upS (upS (upS s1 ((cs.length:Int) - 1)) 1) (bb - 1)) (secs - 1)=q:=⟨_,rfl⟩
 rw [hfv] at hf
 simp only [hfv]
 have ht:=up2 (upS (upS (upS (upS (upS s1 ((cs.length:Int) - 1)) 1) (bb - 1)) (secs - 1)) 7) (m:=secs - (f+1)) (by omega) (by omega)
 generalize upV (upS (upS (upS (upS (upS s1 ((cs.length:Int) - 1)) 1) (bb - 1)) (secs - 1)) 7) (secs - (f+1))=tt at ht ⊢
 generalize upV (upS (upS s1 ((cs.length:Int) - 1)) 1) (bb - 1)=bd at hbd ⊢
 refine ⟨trivial,hsx,⟨hn.1,hnl⟩,⟨hbd.1,by omega⟩,hf.1,by omega,by omega⟩
theorem QfH {cs:List Cabin} {secs x:Int} (hc:1≤cs.length∧cs.length≤3) (hb:∀ x ∈ cs,1≤x.beds∧x.beds≤3) (hs:1≤secs∧secs≤5):∀ k,k≤8 →
  (∀ i,i < (tkK cs secs x k).2.1.length→zH ⟨cs,secs,[]⟩ ((tkK cs secs x k).2.1.getD i default) ((tkK cs secs x k).2.1.take i)=0)∧∀ t ∈ (tkK cs secs x k).2.1,t.party≤24
 |0,_=>by simp [tkK]
 |k+1,hk=>by
  obtain ⟨ih1,ih2⟩:=QfH (x:=x) hc hb hs k (by omega)
  obtain ⟨h1,h2,h3⟩:=Uz cs secs x k
  rw [tkK]
  simp only
  obtain ⟨⟨p,l,s⟩,hK⟩:∃ q,tkK cs secs x k=q:=⟨_,rfl⟩
  rw [hK] at ih1 ih2 h1 h2 h3 ⊢
  simp only at ih1 ih2 h1 h2 h3 ⊢
  have h4:=Qjy (s:=s) h1
  obtain ⟨⟨p1,s1⟩,hA⟩:∃ q,pA p s=q:=⟨_,rfl⟩
  rw [hA] at h4 ⊢
  simp only at h4 ⊢
  obtain ⟨g1,g2,g3,g4,g5⟩:=Qfu (p:=p1) (s1:=s1) hc hb hs
  obtain ⟨⟨T,s7⟩,hT⟩:∃ q,xI cs secs p1 s1=q:=⟨_,rfl⟩
  rw [hT] at g1 g2 g3 g4 g5 ⊢
  simp only at g1 g2 g3 g4 g5 ⊢
  split
  ·rename_i hg
   refine ⟨fun i hi=>?_,fun t ht=>?_⟩
   ·rw [List.length_append,List.length_singleton] at hi
    rcases Nat.lt_or_eq_of_le (Nat.le_of_lt_succ hi) with h|h
    ·have:=ih1 i h
     rw [List.getD_eq_getElem?_getD,List.getElem?_append_left h,← List.getD_eq_getElem?_getD,List.take_append_of_le_length (by omega)]
     exact this
    ·subst h
     rw [show (l++[T]).getD l.length default=T by simp [List.getD_eq_getElem?_getD],List.take_append_of_le_length (Nat.le_refl _),List.take_length]
     exact VH (by omega) g2 g3 g4 g5 (Qaw hg)
   ·rcases List.mem_append.1 ht with ht|ht
    ·exact ih2 t ht
    ·rw [List.mem_singleton.1 ht];omega
  ·exact ⟨ih1,ih2⟩
theorem co_ok {x a g s:Int} (ha:1≤a∧a≤3) (hg:1≤g∧g≤5) (hs:0≤s∧s≤8):zu (coC x a g s)=0∧(∀ t ∈ (coC x a g s).sold,t.party≤24)∧((coC x a g s).sold.length:Int)≤s∧((coC x a g s).cabins.length:Int)≤a∧(coC x a g s).secs≤g:=by
 have hsc:=up2 x (m:=g - 1) (by omega) (by omega)
 have hsb:1≤Zj x g∧Zj x g≤g:=by unfold Zj;omega
 have hnc:=up2 (XA x g) (m:=a - 1) (by omega) (by omega)
 have hcab:((xK x g a).1.length:Int)≤a∧1≤(xK x g a).1.length∧∀ c ∈ (xK x g a).1,1≤c.beds∧c.beds≤3:=by
  unfold xK
  obtain ⟨h1,h2⟩:=UG (upS (XA x g) (a - 1)) (1+upV (XA x g) (a - 1)).toNat
  refine ⟨by rw [h1];omega,by rw [h1];omega,h2⟩
 obtain ⟨hc0,hc1,hc2⟩:=hcab
 have hnt:=up2 (xK x g a).2 (m:=s) (by omega) (by omega)
 have htk:(Qel x g a s)=tkK (xK x g a).1 (Zj x g) (upS (xK x g a).2 s) (upV (xK x g a).2 s).toNat:=rfl
 obtain ⟨k1,k2⟩:=QfH (x:=upS (xK x g a).2 s) (cs:=(xK x g a).1) (secs:=Zj x g) (by omega) hc2 (by omega) (upV (xK x g a).2 s).toNat (by omega)
 obtain ⟨k3,k4,k5⟩:=Uz (xK x g a).1 (Zj x g) (upS (xK x g a).2 s) (upV (xK x g a).2 s).toNat
 rw [← htk] at k1 k2 k5
 unfold coC
 simp only
 generalize xK x g a=C at *
 generalize Zj x g=S at *
 generalize (Qel x g a s).2.1=T at *
 refine ⟨?_,k2,by omega,hc0,hsb.2⟩
 have hcar:ZN ⟨C.1,S,T⟩=0:=by
  unfold ZN
  have b1:zt (C.1.length:Int) 1 3=0:=by unfold zt;rw [if_neg (by omega),if_neg (by omega)]
  have b2:yw (C.1.map kI)=0:=yo fun j hj=>by
   rw [List.length_map] at hj
   rw [List.getD_eq_getElem?_getD,List.getElem?_map,List.getElem?_eq_getElem hj]
   have:=hc2 C.1[j] (List.getElem_mem hj)
   show kI C.1[j]=0
   unfold kI
   rw [wL.2 this];rfl
  have b3:inB S 1 5=true:=wL.2 (by omega)
  have b4:zt (T.length:Int) 0 8=0:=by unfold zt;rw [if_neg (by omega),if_neg (by omega)]
  simp only [b1,b2,b3,b4,ne_eq,not_true_eq_false,if_false,Bool.not_true,Bool.false_eq_true]
 unfold zu
 rw [hcar]
 rw [if_neg (by decide)]
 unfold zW
 refine yo fun j hj=>?_
 rw [List.length_map,List.length_range] at hj
 rw [List.getD_eq_getElem?_getD,List.getElem?_map,List.getElem?_range hj]
 exact k1 j hj
theorem ao_ok {x:Int} {c:Chart} {n:Int} (hc:zu c=0) (hp:∀ t ∈ c.sold,t.party≤24) (hn:1≤n∧n≤3):zw c (aoA x c.secs n)=0∧((aoA x c.secs n).sexes.length:Int)≤n∧1≤(aoA x c.secs n).sexes.length:=by
 have hS:=(QK hc).car.secs
 have hpt:=up2 x (m:=39) (by omega) (by omega)
 have hf:=up2 (upS x 39) (m:=c.secs - 1) (by omega) (by omega)
 have hf':upV (upS x 39) (c.secs - 1)=aoF x c.secs:=rfl
 rw [hf'] at hf
 have ht:=up2 (Qez x c.secs) (m:=c.secs - (aoF x c.secs+1)) (by omega) (by omega)
 have ht':aoF x c.secs+1+upV (Qez x c.secs) (c.secs - (aoF x c.secs+1))=aoT x c.secs:=rfl
 have hnp:=up2 (Qbw x c.secs) (m:=n - 1) (by omega) (by omega)
 have hs:((aoS x c.secs n).1.length:Int)≤n∧1≤(aoS x c.secs n).1.length∧∀ c' ∈ (aoS x c.secs n).1,1≤c'∧c'≤2:=by
  unfold aoS
  obtain ⟨h1,h2⟩:=Qce (upS (Qbw x c.secs) (n - 1)) (1+upV (Qbw x c.secs) (n - 1)).toNat
  exact ⟨by rw [h1];omega,by rw [h1];omega,h2⟩
 unfold aoA
 simp only
 refine ⟨?_,hs.1,hs.2.1⟩
 unfold zw
 rw [hc,if_neg (by decide)]
 unfold vK
 simp only
 have b1:inB (60+upV x 39) 1 99=true:=wL.2 (by omega)
 have b2:c.sold.any (fun t=>decide (t.party=60+upV x 39))=false:=List.any_eq_false.2 fun t htm=>by
  have:=hp t htm
  simp only [decide_eq_true_eq];omega
 have b3:QO c.secs (aoF x c.secs) (aoT x c.secs)=0:=by unfold QO;rw [if_neg (by omega)]
 have b4:zt ((aoS x c.secs n).1.length:Int) 1 3=0:=by unfold zt;rw [if_neg (by omega),if_neg (by omega)]
 rw [b1,b2]
 simp only [b3,b4,ne_eq,not_true_eq_false,if_false,Bool.not_true,Bool.false_eq_true]
 refine yo fun j hj=>?_
 rw [List.length_map] at hj
 rw [List.getD_eq_getElem?_getD,List.getElem?_map,List.getElem?_eq_getElem hj]
 have:=hs.2.2 _ (List.getElem_mem hj)
 show (if (!inB (aoS x c.secs n).1[j] 1 2)=true then (8:Int) else 0)=0
 rw [wL.2 this];rfl
theorem YH (L:List AObj):nth L=qj (qQ 0 L):=by
 funext i
 rw [jR]
 simp [nth]
def plL (c:Chart) (a:Ask):List AObj:=[qm c.cabins c.secs 1,qp c.sold,.cells [.ptr 0 0],.cells (qg a)]
def plP (c:Chart) (a:Ask):List (List Bunk × List Tk):=wU c.cabins a a.sexes.length c.sold []
def plY (c:Chart) (a:Ask) (j:Nat):List AV:=[qc ((plP c a).getD j default).1]
def plH (c:Chart) (a:Ask) (j:Nat):List AObj:=qy c.cabins c.secs ((plP c a).getD j default).2
structure PlOk (c:Chart) (a:Ask):Prop where
 val:Val c
 sx:a.sexes.length≤3
theorem pl_ok {c:Chart} {a:Ask} (h:PlOk c a) {ans:Nat→Bool} {R:Nat} (hr:Rounds ans R (plP c a).length):GrowOk c.cabins c.secs a a.sexes.length c.sold [] (plY c a) (plH c a) ans R:=by
 have h1:=h.val.car.cabs
 have h2:=h.val.many
 have h3:=h.sx
 exact ⟨by simp,by omega,⟨by omega,fun x hx=>by have:=h.val.car.beds x hx;omega⟩,by omega,by omega,(by simp),hr,fun _ _=>rfl,fun _ _=>rfl⟩
def Wu (c:Chart) (a:Ask) (ys:Nat→List AV) (hl:Nat→List AObj) (ans:Nat→Bool) (R:Nat) (S:St):List AV→Option PkI
 |[.ptr p 0,.agg aa,.nil,.cb]=>match S.h p with
  |some (.cells [.sl cc,.v (.int .i64 s'),.row r])=>match S.h r with
   |some (.row _ _ xs)=>some { q:={ pre:=cc=c.cabins.map qh∧s'=c.secs∧aa=qg a∧xs=c.sold.map eTk∧S.j=0∧GrowOk c.cabins c.secs a a.sexes.length c.sold [] ys hl ans R,hs:=[p,r],ar:=[.ptr 0 0,qx a,qc [],.cb],L0:=qy c.cabins c.secs c.sold,v:=aB (QH ans R),L1:=(qy c.cabins c.secs c.sold).map some },dj:=R }
   |_=>none
  |_=>none
 |_=>none
theorem QjN {A:Frm→Prop} {c:Chart} {a:Ask} {ys:Nat→List AV} {hl:Nat→List AObj} {ans:Nat→Bool} {R:Nat} {h0:Nat→Option AObj} (hA:∀ F,A F→Acb Tryz.prog (qj (qQ 0 [qm c.cabins c.secs 1])) h0 ys (fun j=>nth (hl j)) ans R F) :
  qE A Tryz.prog 104 (fnI [qm c.cabins c.secs 1] R (Wu c a ys hl ans R)):=RL hA fun S bs q h hp=>by
 unfold Wu at h
 split at h
 ·split at h
  ·split at h
   ·cases h
    obtain ⟨_,_,_,_,h4,h6⟩:=hp
    have:=Qam _ _ _ _ _ _ _ _ _ _ h6
    simp only [h4,Nat.zero_add]
    exact this
   ·cases h
  ·cases h
 ·cases h
theorem UO {c:Chart} {a:Ask}:∀ i o,qj (qQ 0 (plL c a)) i=some o→i < 4∧∀ id ∈ o.ids,id < 4:=by
 intro i o hi
 have h:=qR hi
 simp [qQ,plL] at h
 rcases h with ⟨rfl,rfl⟩|⟨rfl,rfl⟩|⟨rfl,rfl⟩|⟨rfl,rfl⟩ <;> simp [AObj.ids,AV.ids,AV.idsL,qm,qp,qg]
def ZL:=kk @QM (kk @YW (kk @Qb.eq_1 @JZ.eq_1))
def JE:=kk @aI.eq_1 (@aB.eq_1)
theorem JU {c:Chart} {a:Ask} (h:PlOk c a):Qc1 Tryz.prog 103 [.cb,.ptr 2 0,.ptr 3 0] (nth ((plL c a).take 1)) (nth (plL c a)) (plY c a) (plP c a).length (fun j=>nth (plH c a j)) (fun _ _=>.tup []):=by
 intro ans R hr
 have ok:=pl_ok h hr
 rw [YH,YH]
 obtain ⟨A0,hA0⟩:∃ A0:Frm→Prop,A0=Acb Tryz.prog (qj (qQ 0 [qm c.cabins c.secs 1])) (qj (qQ 0 (plL c a))) (plY c a) (fun j=>nth (plH c a j)) ans R:=⟨_,rfl⟩
 have hA:∀ F,A0 F→Acb Tryz.prog (qj (qQ 0 [qm c.cabins c.secs 1])) (qj (qQ 0 (plL c a))) (plY c a) (fun j=>nth (plH c a j)) ans R F:=fun F h=>hA0 ▸ h
 have env:Env A0 Tryz.prog tyB (tab [(104,fnI [qm c.cabins c.secs 1] R (Wu c a (plY c a) (plH c a) ans R))]):=qL ⟨QjN hA,trivial⟩
 refine Fn.of (A:=A0) (n0:=4) (D:=noD) (Fn0 Tryz.func103 rfl (fun vs w=>by kernel_rfl) (by kernel_rfl)) (by simp) (by simp [AV.ids]) UO (fun F hb h0 _=>hA0 ▸ ⟨h0,QfD,hb⟩) qF ?_
 show Sym _ _ _ (zV [.cb,.ptr 2 0,.ptr 3 0] 4 (qj [(0,qm c.cabins c.secs 1),(1,qp c.sold),(2,.cells [.ptr 0 0]),(3,.cells (qg a))])) (xM tyB noD Tryz.f103 fun S rv=>Fin S rv _ 4 (qj [(0,qm c.cabins c.secs 1),(1,qp c.sold),(2,.cells [.ptr 0 0]),(3,.cells (qg a))]) R)
 repeat' (first|(apply nx;with_reducible constructor)|refine jq (by decide) ?_|((first|refine kz env fun Q hQ=>?_|refine kj fun Q hQ=>?_);simp only [vkt,seval,ZL,JE,qx,qg,qc,mTk,qd,qm,qp,qy,plL,Wu,List.length_map,fnI,wy,qU,nth,hwL,Nat.zero_add,Nat.sub_zero,List.map_nil,ok];(try simp only [ite_and]);(repeat' (first|with_reducible assumption|refine And.intro ?_ ?_|intro hp));all_goals (first|(refine hQ _ ?_;clear hQ Q)|(refine hQ _ (fun h=>?_) (fun h=>?_) <;> clear hQ Q <;> (try simp only [vki,reduceCtorEq] at h))|(refine kx ?_;kernel_rfl)|omega|assumption|with_reducible rfl|skip)))
 (simp only [vrt,Tryz.results103,vkt,seval,ZL,JE,qx,qg,qc,mTk,qd,qm,qp,qy,plL,Wu,List.length_map,fnI,wy,qU,nth,hwL,Nat.zero_add,Nat.sub_zero,List.map_nil];refine Fin.ok some [] ?_ ?_ ?_ ?_ ?_ rfl;all_goals (try simp only [vle,vkt,seval,ZL,JE,qx,qg,qc,mTk,qd,qm,qp,qy,plL,Wu,List.length_map,fnI,wy,qU,nth,hwL,Nat.zero_add,Nat.sub_zero,List.map_nil]))
 all_goals first|rfl|(simp;done)
theorem Qec (c:Chart) (a:Ask):Fn noB Tryz.prog 52 [.ptr 0 0,qx a] (qj (qQ 0 (qy c.cabins c.secs c.sold))) (.clo 103 [.ptr 2 0,.ptr 3 0]) (qj (wH 0 ((plL c a).map some))) 0:=by
 have env:Env (fun _=>True) Tryz.prog tyB (tab []):=qL trivial
 refine Fn.of (A:=fun _=>True) (n0:=2) (D:=noD) (Fn0 Tryz.func52 rfl (fun vs w=>by kernel_rfl) (by kernel_rfl)) (by simp) (by simp [AV.ids,AV.idsL,qx,qg]) Ql (fun _ _ _ _=>trivial) qF ?_
 show Sym _ _ _ (zV [.ptr 0 0,qx a] 2 (qj [(0,qm c.cabins c.secs 1),(1,qp c.sold)])) (xM tyB noD Tryz.f52 fun S rv=>Fin S rv _ 2 (qj [(0,qm c.cabins c.secs 1),(1,qp c.sold),(2,.cells [.ptr 0 0]),(3,.cells (qg a))]) 0)
 repeat' (first|(apply nx;with_reducible constructor)|refine jq (by decide) ?_|((first|refine kz env fun Q hQ=>?_|refine kj fun Q hQ=>?_);simp only [vkt,seval,JE,qx,qg,qc,mTk,qd,qm,qp,qy,plL,Wu,List.length_map,fnI,wy,qU,nth,hwL,Nat.zero_add,Nat.sub_zero,List.map_nil];(try simp only [ite_and]);(repeat' (first|with_reducible assumption|refine And.intro ?_ ?_|intro hp));all_goals (first|(refine hQ _ ?_;clear hQ Q)|(refine hQ _ (fun h=>?_) (fun h=>?_) <;> clear hQ Q <;> (try simp only [vki,reduceCtorEq] at h))|(refine kx ?_;kernel_rfl)|omega|assumption|with_reducible rfl|skip)))
 (simp only [vrt,Tryz.results52,vkt,seval,JE,qx,qg,qc,mTk,qd,qm,qp,qy,plL,Wu,List.length_map,fnI,wy,qU,nth,hwL,Nat.zero_add,Nat.sub_zero,List.map_nil];refine Fin.ok some [] ?_ ?_ ?_ ?_ ?_ rfl;all_goals (try simp only [vle,vkt,seval,JE,qx,qg,qc,mTk,qd,qm,qp,qy,plL,Wu,List.length_map,fnI,wy,qU,nth,hwL,Nat.zero_add,Nat.sub_zero,List.map_nil]))
 all_goals first|rfl|(simp;done)|exact fun i hi=>(match i,hi with|0,_=>rfl|1,_=>rfl)
def qK (S:St):List AV→Option Pk
 |[.ptr p 0,.agg [.v (.int .i64 a0),.v (.int .i64 a1),.v (.int .i64 a2),.sl a3,.v (.bool a4)]]=>match S.h p with
  |some (.cells [.sl cs,.v (.int .i64 s),.row r])=>match S.h r with
   |some (.row _ _ xs)=>some { pre:=cs=(cs.map qw).map qh∧xs=(xs.map dTk).map eTk∧a3=(a3.map zb).map zF,hs:=[p,r],ar:=[.ptr 0 0,.agg [.v (.int .i64 a0),.v (.int .i64 a1),.v (.int .i64 a2),.sl a3,.v (.bool a4)]],L0:=qy (cs.map qw) s (xs.map dTk),v:=.clo 103 [.ptr 2 0,.ptr 3 0],L1:=(plL ⟨cs.map qw,s,xs.map dTk⟩ ⟨a0,a1,a2,a3.map zb,a4⟩).map some }
   |_=>none
  |_=>none
 |_=>none
theorem V5 {A:Frm→Prop}:qE A Tryz.prog 52 (fnE qK):=zY fun S bs q h hp=>by
 unfold qK at h
 split at h
 ·rename_i a0 a1 a2 a3 a4
  split at h
  ·split at h
   ·rename_i cs s _ _ _ _ _ xs _
    cases h
    obtain ⟨h1,h2,h3⟩:=hp
    have:=Qec ⟨cs.map qw,s,xs.map dTk⟩ ⟨a0,a1,a2,a3.map zb,a4⟩
    simp only [qx,qg,← h3] at this
    exact this
   ·cases h
  ·cases h
 ·cases h
theorem R7 {N:Nat}:Rounds (fun _=>true) N N:=⟨Nat.le_refl _,fun _ _=>rfl,fun h=>absurd h (Nat.lt_irrefl _)⟩
theorem Qf4 {α β:Type} {f:α→List β} {M:Nat}:∀ {l:List α},(∀ a ∈ l,(f a).length≤M)→(l.flatMap f).length≤l.length * M
 |[],_=>by simp
 |a :: l,h=>by
  have h1:=Qf4 (l:=l) fun b hb=>h b (List.mem_cons_of_mem _ hb)
  have h2:=h a List.mem_cons_self
  rw [List.flatMap_cons,List.length_append,List.length_cons,Nat.succ_mul];omega
theorem LF (cs:List Cabin) (a:Ask) {K:Nat} (hK:(qV cs).length≤K):∀ (m:Nat) (sold:List Tk) (begun:List Bunk),(wU cs a m sold begun).length≤K ^ m
 |0,_,_=>by simp [wU]
 |m+1,sold,begun=>by
  have h1:(wU cs a (m+1) sold begun).length≤(qV cs).length * K ^ m:=Qf4 fun b _=>by
   split
   ·exact LF cs a hK m _ _
   ·simp
  rw [Nat.pow_succ,Nat.mul_comm (K ^ m) K]
  exact Nat.le_trans h1 (Nat.mul_le_mul_right _ hK)
theorem QfL {cs:List Cabin} (h1:cs.length≤3) (h2:∀ x ∈ cs,x.beds≤3):(qV cs).length≤9:=by
 rw [YP]
 refine Nat.le_trans (Qf4 (M:=3) fun i hi=>?_) (by rw [List.length_range];omega)
 rw [List.length_map,List.length_range]
 have:=h2 _ (yB (d:=default) (List.mem_range.1 hi))
 omega
theorem UJ {c:Chart} {a:Ask} (h:PlOk c a):(plP c a).length≤729:=by
 have h1:=LF c.cabins a (QfL h.val.car.cabs.2 fun x hx=>(h.val.car.beds x hx).2) a.sexes.length c.sold []
 refine Nat.le_trans h1 ?_
 have:=h.sx
 exact Nat.le_trans (Nat.pow_le_pow_right (by omega) this) (by decide)
def plR (c:Chart) (a:Ask) (j:Nat):List (List DV):=((plP c a).take j).map fun x=>qA x.1
theorem Qgw {c:Chart} {a:Ask} {j:Nat} (h:j < (plP c a).length):plR c a (j+1)=plR c a j++[qA ((plP c a).getD j default).1]:=by
 unfold plR
 rw [List.take_succ_eq_append_getElem h,List.map_append]
 simp [List.getD_eq_getElem?_getD,h]
theorem Yb (c:Chart) (a:Ask) (j:Nat):zJ 1 (plR c a j)=True:=by
 unfold plR
 exact yQ (f:=fun x:List Bunk × List Tk=>qA x.1) (k:=1) (fun _=>rfl) _
def aqL:List (Nat × AV):=[(2,.ptr 4 0)]
def aqL0:List (Nat × AV):=[(2,.ptr 4 0),(6,.clo 103 [.ptr 2 0,.ptr 3 0])]
def aqH (c:Chart) (a:Ask) (j:Nat):List (Nat × AObj):=[(4,.cells [.row 5]),(5,.row 44 1 (plR c a j))]
theorem QaD (c:Chart) (a:Ask):zk [0,1,2,3] 7 0 (plL c a)=[(0,qm c.cabins c.secs 1),(1,qp c.sold),(2,.cells [.ptr 0 0]),(3,.cells (qg a))]:=by
 simp [zk,plL,qB,AObj.ren,AV.renL,AV.ren,qm,qp,qg]
theorem UU (c:Chart) (a:Ask) (j:Nat):zk [0] 7 0 (plH c a j)=[(0,qm c.cabins c.secs 7),(7,qp ((plP c a).getD j default).2)]:=by
 simp [zk,plH,qy,qB,AObj.ren,AV.renL,AV.ren,qm,qp]
def jU:=kk @QbK (kk @WQ (kk @Kt.eq_1 @ZO.eq_1))
def WB:=kk @aI.eq_1 (@aB.eq_1)
theorem QeV {c:Chart} {a:Ask} (h:PlOk c a):Fn noB Tryz.prog 102 [.nil,.clo 103 [.ptr 2 0,.ptr 3 0]] (qj (qQ 0 (plL c a))) (.row 4) (qj (wH 0 ((plL c a).map some++[some (.row 44 1 (plR c a (plP c a).length))]))) 0:=by
 have env:Env (fun F=>F.r=none) Tryz.prog tyB (tab []):=qL trivial
 refine Fn.of (A:=fun F=>F.r=none) (n0:=4) (D:=noD) (Fn0 Tryz.func102 rfl (fun vs w=>by kernel_rfl) (by kernel_rfl)) (by simp) (by simp [AV.ids,AV.idsL]) UO (fun _ _ _ h=>h) qF ?_
 have hbd:=UJ h
 have hm:(729:Nat)+1≤maxLen:=by decide
 obtain ⟨N,hN⟩:∃ N,(plP c a).length=N:=⟨_,rfl⟩
 rw [hN] at hbd ⊢
 show Sym _ _ _ (zV [.nil,.clo 103 [.ptr 2 0,.ptr 3 0]] 4 (qj [(0,qm c.cabins c.secs 1),(1,qp c.sold),(2,.cells [.ptr 0 0]),(3,.cells (qg a))])) (xM tyB noD Tryz.f102 fun S rv=>Fin S rv _ 4 (qj [(0,qm c.cabins c.secs 1),(1,qp c.sold),(2,.cells [.ptr 0 0]),(3,.cells (qg a)),(4,.row 44 1 (plR c a N))]) 0)
 repeat' (first|(apply nx;with_reducible constructor)|refine jq (by decide) ?_|((first|refine kz env fun Q hQ=>?_|refine kj fun Q hQ=>?_);simp only [vkt,seval,jU,WB,qc,qA,qm,qp,qy,plL,aqL,Yb,List.length_map,nth,hwL,Nat.zero_add,Nat.sub_zero];(try simp only [ite_and]);(repeat' (first|with_reducible assumption|refine And.intro ?_ ?_|intro hp));all_goals (first|(refine hQ _ ?_;clear hQ Q)|(refine hQ _ (fun h=>?_) (fun h=>?_) <;> clear hQ Q <;> (try simp only [vki,reduceCtorEq] at h))|(refine kx ?_;kernel_rfl)|omega|assumption|with_reducible rfl|skip)))
 refine kY (S':={ t:=asg aqL0,h:=qj (aqH c a 0++[(0,qm c.cabins c.secs 1),(1,qp c.sold),(2,.cells [.ptr 0 0]),(3,.cells (qg a))]),n:=6,j:=0,d:=[],m:=4 }) ?_ ?_
 ·show Le _ { t:=asg [(2,.ptr 4 0),(6,.clo 103 [.ptr 2 0,.ptr 3 0])],h:=qj [(4,.cells [.row 5]),(5,.row 44 1 []),(0,qm c.cabins c.secs 1),(1,qp c.sold),(2,.cells [.ptr 0 0]),(3,.cells (qg a))],n:=6,j:=0,d:=[],m:=4 }
  (refine Le.ok (fun i=>if i=5 then none else some i) [] ?_;constructor;all_goals (try simp only [vle,vkt,seval,jU,WB,qc,qA,qm,qp,qy,plL,aqL,Yb,List.length_map,nth,hwL,Nat.zero_add,Nat.sub_zero]))
  all_goals first|rfl|(simp [qg,AV.leL,AV.le,AV.idsL,AV.ids];done)|(intro i hi;rw [if_neg (by omega)];done)
 rw [← QaD c a]
 refine xY (fun F h=>h) 1 (L:=aqL0) (L':=aqL) (xs:=[1,2,3]) (hs:=[0,1,2,3]) (n:=6) (nl:=1) (hc:=aqH c a) (Lp:=plL c a) (jj:=fun _=>0) (d:=[]) (ys:=plY c a) (hl:=plH c a) (ans:=fun _=>true) (ex:=.ret) (caps:=[.ptr 2 0,.ptr 3 0]) (caps0:=[.ptr 2 0,.ptr 3 0]) (N:=(plP c a).length) (R:=N) (A':=fun _ _=>True) rfl (JU h) (by rw [hN];exact R7) (.inl rfl) ?_ ?_ ?_ rfl (by simp) ?_ (by simp) (fun _ _ _ _ _ _=>trivial) ?_ ?_ ?_ ?_ ?_ ?_ (fun j hj=>?_) ?_ (fun j hj=>?_) (fun _=>?_) (fun _ h=>by cases h)
 ·simp [AV.leL,AV.le]
 ·simp [AV.nocbL,AV.nocb]
 ·simp [J4,plL,qm,qp,qg,AObj.nocb,AV.nocbL,AV.nocb,AObj.ids,AV.ids,AV.idsL,AObj.ren,AV.renL,AV.ren,AObj.le,AV.leL,AV.le,qB]
 ·simp [aqH,qj]
 ·simp [aqH,qj]
 ·simp [aqH,AObj.ids,AV.ids,AV.idsL]
 ·simp [LP,aqL,aqL0,asg,upd]
 ·simp [Qbd]
 ·intro j hj
  simp [absent,aqH,UU]
 ·simp [Vt,aqL,AV.ids]
 ·refine ⟨?_,rfl, ?_, ?_,rfl, ?_⟩
  ·simp [Zp,aqH,AObj.ids,AV.ids,AV.idsL]
  ·simp [Js,plH,qy,qm,qp,AObj.nocb,AV.nocbL,AV.nocb,AObj.ids,AV.ids,AV.idsL]
  ·simp [Xe,plY,qc,AV.nocb,AV.ids]
  ·simp [Zk,J3,UU,aqH,aqL,Qf,AV.ids,ADf.ids,List.range_succ]
 ·simp [Zp,aqH,AObj.ids,AV.ids,AV.idsL]
 ·have env:Env (fun _:Frm=>True) Tryz.prog tyB (tab []):=qL trivial
  obtain ⟨x,hx⟩:∃ x,((plP c a).getD j default).1=x:=⟨_,rfl⟩
  have hS:=Qgw (c:=c) (a:=a) (j:=j) (by omega)
  rw [hx] at hS
  have hl:(plR c a j).length≤729:=by simp [plR];omega
  have hl1:(plR c a j).length+1≤maxLen:=by omega
  have hst:ym aqL [7] [0] 6 1 (plY c a j) (aqH c a j) (plH c a j)={ t:=asg [(7,qc x),(2,.ptr 4 0)],h:=qj [(6,.mark),(4,.cells [.row 5]),(5,.row 44 1 (plR c a j)),(0,qm c.cabins c.secs 7),(7,qp ((plP c a).getD j default).2)],n:=8,m:=8 }:=by
   simp only [ym,UU,plY,hx,qc,List.map_cons,List.map_nil,AV.ren,List.zip_cons_cons,List.zip_nil_right,aqH,aqL,We,List.cons_append,List.nil_append]
   rfl
  show Sym _ _ _ (ym aqL [7] [0] 6 1 (plY c a j) (aqH c a j) (plH c a j)) _
  rw [hst]
  obtain ⟨r,hr⟩:∃ r,((plP c a).getD j default).2=r:=⟨_,rfl⟩
  rw [hr]
  repeat' (first|(apply nx;with_reducible constructor)|refine jq (by decide) ?_|((first|refine kz env fun Q hQ=>?_|refine kj fun Q hQ=>?_);simp only [vkt,seval,jU,WB,qc,qA,qm,qp,qy,plL,aqL,Yb,List.length_map,nth,hwL,Nat.zero_add,Nat.sub_zero,hl1];(try simp only [ite_and]);(repeat' (first|with_reducible assumption|refine And.intro ?_ ?_|intro hp));all_goals (first|(refine hQ _ ?_;clear hQ Q)|(refine hQ _ (fun h=>?_) (fun h=>?_) <;> clear hQ Q <;> (try simp only [vki,reduceCtorEq] at h))|(refine kx ?_;kernel_rfl)|omega|assumption|with_reducible rfl|skip)))
  refine ⟨rfl,rfl,(fun i=>if i=5 then some 9 else some i),_,RFin.okQ (fun i=>if i=5 then some 9 else some i) [] ?_⟩
  constructor
  all_goals (try simp only [vle,kV,kC,qB,plH,aqH,hr,hS,qA,vkt,seval,jU,WB,qc,qA,qm,qp,qy,plL,aqL,Yb,List.length_map,nth,hwL,Nat.zero_add,Nat.sub_zero])
  all_goals first|rfl|(simp;done)|(simp [aqL,Qf,AV.ids,ADf.ids,List.range_succ];done)
 ·have eh:qj ((6,AObj.mark) :: aqH c a N++zk [0,1,2,3] (6+1) 0 (plL c a))=qj [(6,.mark),(4,.cells [.row 5]),(5,.row 44 1 (plR c a N)),(0,qm c.cabins c.secs 1),(1,qp c.sold),(2,.cells [.ptr 0 0]),(3,.cells (qg a))]:=by
   rw [show zk [0,1,2,3] (6+1) 0 (plL c a)=zk [0,1,2,3] 7 0 (plL c a) from rfl,QaD];rfl
  rw [eh]
  repeat' (first|(apply nx;with_reducible constructor)|refine jq (by decide) ?_|((first|refine kz env fun Q hQ=>?_|refine kj fun Q hQ=>?_);simp only [vkt,seval,jU,WB,qc,qA,qm,qp,qy,plL,aqL,Yb,List.length_map,nth,hwL,Nat.zero_add,Nat.sub_zero];(try simp only [ite_and]);(repeat' (first|with_reducible assumption|refine And.intro ?_ ?_|intro hp));all_goals (first|(refine hQ _ ?_;clear hQ Q)|(refine hQ _ (fun h=>?_) (fun h=>?_) <;> clear hQ Q <;> (try simp only [vki,reduceCtorEq] at h))|(refine kx ?_;kernel_rfl)|omega|assumption|with_reducible rfl|skip)))
  (simp only [vrt,Tryz.results102,vkt,seval,jU,WB,qc,qA,qm,qp,qy,plL,aqL,Yb,List.length_map,nth,hwL,Nat.zero_add,Nat.sub_zero];refine Fin.ok (fun j=>[0,1,2,3,5][j]?) [] ?_ ?_ ?_ ?_ ?_ rfl;all_goals (try simp only [vle,vkt,seval,jU,WB,qc,qA,qm,qp,qy,plL,aqL,Yb,List.length_map,nth,hwL,Nat.zero_add,Nat.sub_zero]))
  all_goals first|rfl|(simp [qg,AV.leL,AV.le];done)|exact fun i hi=>(match i,hi with|0,_=>rfl|1,_=>rfl|2,_=>rfl|3,_=>rfl)
def JD (c:Chart) (a:Ask) (S:St):List AV→Option Pk
 |[.nil,.clo f [.ptr p2 0,.ptr p3 0]]=>match S.h p2 with
  |some (.cells [.ptr p 0])=>match S.h p with
   |some (.cells [_,_,.row r])=>some { pre:=f=103∧PlOk c a,hs:=[p,r,p2,p3],ar:=[.nil,.clo 103 [.ptr 2 0,.ptr 3 0]],L0:=plL c a,v:=.row 4,L1:=(plL c a).map some++[some (.row 44 1 (plR c a (plP c a).length))] }
   |_=>none
  |_=>none
 |_=>none
theorem Qh4 {A:Frm→Prop} {c:Chart} {a:Ask}:qE A Tryz.prog 102 (fnE (JD c a)):=zY fun S bs q h hp=>by
 unfold JD at h
 split at h
 ·split at h
  ·split at h
   ·cases h;exact QeV hp.2
   ·cases h
  ·cases h
 ·cases h
def R9:=kk @aI.eq_1 (@aB.eq_1)
theorem QbT {c:Chart} {a:Ask} (h:PlOk c a):Fn noB Tryz.prog 51 [.clo 103 [.ptr 2 0,.ptr 3 0]] (qj (qQ 0 (plL c a))) (.row 4) (qj (wH 0 ((plL c a).map some++[some (.row 44 1 (plR c a (plP c a).length))]))) 0:=by
 have env:Env (fun _=>True) Tryz.prog tyB (tab [(102,fnE (JD c a))]):=qL ⟨Qh4,trivial⟩
 refine Fn.of (A:=fun _=>True) (n0:=4) (D:=noD) (Fn0 Tryz.func51 rfl (fun vs w=>by kernel_rfl) (by kernel_rfl)) (by simp) (by simp [AV.ids,AV.idsL]) UO (fun _ _ _ _=>trivial) qF ?_
 obtain ⟨X,hX⟩:∃ X,plR c a (plP c a).length=X:=⟨_,rfl⟩
 rw [hX]
 show Sym _ _ _ (zV [.clo 103 [.ptr 2 0,.ptr 3 0]] 4 (qj [(0,qm c.cabins c.secs 1),(1,qp c.sold),(2,.cells [.ptr 0 0]),(3,.cells (qg a))])) (xM tyB noD Tryz.f51 fun S rv=>Fin S rv _ 4 (qj [(0,qm c.cabins c.secs 1),(1,qp c.sold),(2,.cells [.ptr 0 0]),(3,.cells (qg a)),(4,.row 44 1 X)]) 0)
 repeat' (first|(apply nx;with_reducible constructor)|refine jq (by decide) ?_|((first|refine kz env fun Q hQ=>?_|refine kj fun Q hQ=>?_);simp only [vkt,seval,R9,qg,qm,qp,plL,JD,List.length_map,h,hX];(try simp only [ite_and]);(repeat' (first|with_reducible assumption|refine And.intro ?_ ?_|intro hp));all_goals (first|(refine hQ _ ?_;clear hQ Q)|(refine hQ _ (fun h=>?_) (fun h=>?_) <;> clear hQ Q <;> (try simp only [vki,reduceCtorEq] at h))|(refine kx ?_;kernel_rfl)|omega|assumption|with_reducible rfl|skip)))
 (simp only [vrt,Tryz.results51,vkt,seval,R9,qg,qm,qp,plL,JD,List.length_map];refine Fin.ok some [] ?_ ?_ ?_ ?_ ?_ rfl;all_goals (try simp only [vle,vkt,seval,R9,qg,qm,qp,plL,JD,List.length_map]))
 all_goals first|rfl|(simp [qg,AV.leL,AV.le];done)|exact fun i hi=>(match i,hi with|0,_=>rfl|1,_=>rfl|2,_=>rfl|3,_=>rfl)
def kQ (c:Chart) (a:Ask) (S:St):List AV→Option Pk
 |[.clo f [.ptr p2 0,.ptr p3 0]]=>match S.h p2 with
  |some (.cells [.ptr p 0])=>match S.h p with
   |some (.cells [_,_,.row r])=>some { pre:=f=103∧PlOk c a,hs:=[p,r,p2,p3],ar:=[.clo 103 [.ptr 2 0,.ptr 3 0]],L0:=plL c a,v:=.row 4,L1:=(plL c a).map some++[some (.row 44 1 (plR c a (plP c a).length))] }
   |_=>none
  |_=>none
 |_=>none
theorem Qfo {A:Frm→Prop} {c:Chart} {a:Ask}:qE A Tryz.prog 51 (fnE (kQ c a)):=zY fun S bs q h hp=>by
 unfold kQ at h
 split at h
 ·split at h
  ·split at h
   ·cases h;exact QbT hp.2
   ·cases h
  ·cases h
 ·cases h
theorem Qc5 {c:Chart} {a:Ask} (h:vK c a=0):a.sexes.length≤3∧1≤a.sexes.length:=by
 unfold vK at h
 split at h
 ·exact absurd h (by decide)
 split at h
 ·exact absurd h (by decide)
 split at h
 ·exact absurd h ‹_›
 split at h
 ·exact absurd h ‹_›
 rename_i h4
 have h4:=Decidable.not_not.1 h4
 unfold zt at h4
 split at h4
 ·exact absurd h4 (by decide)
 ·split at h4
  ·exact absurd h4 (by decide)
  ·omega
theorem Zx {c:Chart} {a:Ask} (h:zw c a=0):PlOk c a:=⟨QK (yK h).1,(Qc5 (yK h).2).1⟩
def xP (c:Chart) (a:Ask):List (List Bunk):=if zw c a=0 then (plP c a).map (·.1) else []
def xy:=kk @yc (kk @QM (kk @Zc (kk @jM.eq_1 (kk @Qb.eq_1 @QA.eq_1))))
def JP:=kk @aI.eq_1 (kk @aB.eq_1 (@QT))
theorem QeN (c:Chart) (a:Ask) (hc:c.cabins.length≤maxLen) (ha:a.sexes.length≤maxLen):Fn noB Tryz.prog 16 [qa c,qx a] noH (.tup [.row 0,aI (zw c a)]) (qj [(0,.row 44 1 ((xP c a).map qA))]) 0:=by
 have env:Env (fun _=>True) Tryz.prog tyB (tab [(50,fnE za),(52,fnE qK),(51,fnE (kQ c a))]):=qL ⟨XB,V5,Qfo,trivial⟩
 refine Fn.of (A:=fun _=>True) (n0:=0) (D:=noD) (Fn0 Tryz.func16 rfl (fun vs w=>by kernel_rfl) (by kernel_rfl)) (by simp) (by simp [AV.ids,AV.idsL,qa,qb,qx,qg]) (fun i o h=>by cases h) (fun _ _ _ _=>trivial) qF ?_
 have ec:(⟨c.cabins,c.secs,c.sold⟩:Chart)=c:=rfl
 have ea:(⟨a.party,a.frm,a.to,a.sexes,a.dog⟩:Ask)=a:=rfl
 unfold xP
 by_cases h0:zw c a=0
 ·have hok:=Zx h0
  rw [if_pos h0,h0]
  obtain ⟨X,hX⟩:∃ X,plR c a (plP c a).length=X:=⟨_,rfl⟩
  have hXe:(List.map (fun x=>x.1) (plP c a)).map qA=X:=by rw [← hX];unfold plR;rw [List.take_length,List.map_map];rfl
  rw [hXe]
  repeat' (first|(apply nx;with_reducible constructor)|refine jq (by decide) ?_|((first|refine kz env fun Q hQ=>?_|refine kj fun Q hQ=>?_);simp only [vkt,seval,xy,JP,qa,qb,qx,qg,mTk,qd,qm,qp,qy,plL,za,qK,kQ,List.length_map,ec,ea,h0,hok,hX];(try simp only [ite_and]);(repeat' (first|with_reducible assumption|refine And.intro ?_ ?_|intro hp));all_goals (first|(refine hQ _ ?_;clear hQ Q)|(refine hQ _ (fun h=>?_) (fun h=>?_) <;> clear hQ Q <;> (try simp only [vki,reduceCtorEq] at h))|(refine kx ?_;kernel_rfl)|omega|assumption|with_reducible rfl|skip)))
  (simp only [vrt,Tryz.results16,vkt,seval,xy,JP,qa,qb,qx,qg,mTk,qd,qm,qp,qy,plL,za,qK,kQ,List.length_map];refine Fin.ok (fun j=>[6][j]?) [] ?_ ?_ ?_ ?_ ?_ rfl;all_goals (try simp only [vle,vkt,seval,xy,JP,qa,qb,qx,qg,mTk,qd,qm,qp,qy,plL,za,qK,kQ,List.length_map]))
  all_goals first|rfl|(simp;done)
 ·rw [if_neg h0]
  repeat' (first|(apply nx;with_reducible constructor)|refine jq (by decide) ?_|((first|refine kz env fun Q hQ=>?_|refine kj fun Q hQ=>?_);simp only [vkt,seval,xy,JP,qa,qb,qx,qg,mTk,qd,qm,qp,qy,plL,za,qK,kQ,List.length_map,ec,ea,h0];(try simp only [ite_and]);(repeat' (first|with_reducible assumption|refine And.intro ?_ ?_|intro hp));all_goals (first|(refine hQ _ ?_;clear hQ Q)|(refine hQ _ (fun h=>?_) (fun h=>?_) <;> clear hQ Q <;> (try simp only [vki,reduceCtorEq] at h))|(refine kx ?_;kernel_rfl)|omega|assumption|with_reducible rfl|skip)))
  (simp only [vrt,Tryz.results16,vkt,seval,xy,JP,qa,qb,qx,qg,mTk,qd,qm,qp,qy,plL,za,qK,kQ,List.length_map];refine Fin.ok (fun _=>none) [] ?_ ?_ ?_ ?_ ?_ rfl;all_goals (try simp only [vle,vkt,seval,xy,JP,qa,qb,qx,qg,mTk,qd,qm,qp,qy,plL,za,qK,kQ,List.length_map]))
  all_goals first|rfl|(simp;done)
def aU (n:Int):AV:=.v (.int .u64 n)
def QgN (a b:Int):Int:=IntKind.wrap .u64 (BitVec.ofInt IntKind.u64.bits a ||| BitVec.ofInt IntKind.u64.bits (IntKind.wrap .u64 (1 * 2 ^ min b.toNat IntKind.u64.bits))).toNat
def Vy:=kk @Qf0 @KJ.eq_1
def Qc9:=kk @aI.eq_1 (kk @aB.eq_1 (@aU.eq_1))
theorem Qhg (a b:Int) (hb:0≤b):FnV Tryz.prog 96 [aU a,aI b] (aU (QgN a b)):=by
 have env:Env (fun _=>True) Tryz.prog tyB (tab []):=qL trivial
 refine Fn.of (A:=fun _=>True) (n0:=0) (D:=noD) (Fn0 Tryz.func96 rfl (fun vs w=>by kernel_rfl) (by kernel_rfl)) (by simp) (by simp [AV.ids,AV.idsL,aU,aI]) (fun i o h=>by cases h) (fun _ _ _ _=>trivial) qF ?_
 repeat' (first|(apply nx;with_reducible constructor)|refine jq (by decide) ?_|((first|refine kz env fun Q hQ=>?_|refine kj fun Q hQ=>?_);simp only [vkt,seval,Vy,Qc9,hb];(try simp only [ite_and]);(repeat' (first|with_reducible assumption|refine And.intro ?_ ?_|intro hp));all_goals (first|(refine hQ _ ?_;clear hQ Q)|(refine hQ _ (fun h=>?_) (fun h=>?_) <;> clear hQ Q <;> (try simp only [vki,reduceCtorEq] at h))|(refine kx ?_;kernel_rfl)|omega|assumption|with_reducible rfl|skip)))
 (simp only [vrt,Tryz.results96,vkt,seval,Vy,Qc9];refine Fin.val rfl ?_;(try simp only [AV.le,AV.leL]))
 all_goals first|rfl|(simp;done)
def Qi:List AV→Prop × AV
 |[.v (.int .u64 a),.v (.int .i64 b)]=>(0≤b,aU (QgN a b))
 |_=>(False,.junk)
theorem QkA {A:Frm→Prop}:qE A Tryz.prog 96 (qX true Qi):=qW fun vs hv h=>by
 clear hv
 unfold Qi at h ⊢
 split at h
 ·exact ⟨by simp [aU,AV.plain],fun _=>by simp [aU,AV.flat],Qhg _ _ h⟩
 ·exact h.elim
theorem jG (p:List Int):(p.map aU).all yM=true:=by simp [aU,yM]
theorem wF:∀ p:List Int,AV.idsL (p.map aU)=[]
 |[]=>rfl
 |x :: p=>by rw [List.map_cons,AV.idsL,wF p];rfl
theorem jQ (h:Nat→Option AObj) (σ:Nat→Option Nat):∀ p:List Int,AV.leL h σ (p.map aU) (p.map aU)=True
 |[]=>by simp [AV.leL]
 |x :: p=>by simp [AV.leL,AV.le,aU,jQ h σ p]
theorem jr (τ:Nat→Nat):∀ p:List Int,AV.renL τ (p.map aU)=p.map aU
 |[]=>rfl
 |x :: p=>by simp [AV.renL,AV.ren,aU,jr τ p]
theorem zL:∀ p:List Int,AV.plainL (p.map aU)=True
 |[]=>by simp [AV.plainL]
 |x :: p=>by simp [AV.plainL,AV.plain,aU,zL p]
theorem wz:∀ p:List Int,AV.flatL (p.map aU)=True
 |[]=>by simp [AV.flatL]
 |x :: p=>by simp [AV.flatL,AV.flat,aU,wz p]
theorem Qhl {p:List Int} {i:Nat} (h:i < p.length):(((p.map aU).drop i).take 1).headD .junk=aU (p.getD i 0):=by
 rw [List.drop_eq_getElem_cons (by simpa using h)]
 simp [List.getD_eq_getElem?_getD,h]
theorem Qkr {p:List Int} {i:Nat} {n:Int} (h:i < p.length):(p.map aU).take i++[aU n]++(p.map aU).drop (i+1)=(p.set i n).map aU:=by
 apply List.ext_getElem?
 intro j
 rw [List.set_eq_take_append_cons_drop,if_pos h]
 simp
structure Van (c:Chart):Prop where
 car:CarOk c
 many:c.sold.length≤100
 tk:∀ t ∈ c.sold,TkOk c t
theorem Val.van {c:Chart} (h:Val c):Van c:=⟨h.car,by have:=h.many;omega,h.tk⟩
def WY (s:Int) (h:List Int) (t:Tk):List Int:=if inB s t.frm (t.to - 1) then h.set t.cab.toNat (QgN (h.getD t.cab.toNat 0) t.bed) else h
def ZV (l:List Tk) (s:Int) (k:Nat):List Int:=(l.take k).foldl (WY s) [0,0,0]
theorem Yf {l:List Tk} {s:Int} {k:Nat} (h:k < l.length):ZV l s (k+1)=WY s (ZV l s k) (l.getD k default):=by
 unfold ZV
 rw [List.take_succ_eq_append_getElem h,List.foldl_append]
 simp [List.getD_eq_getElem?_getD,h]
theorem Q4 (l:List Tk) (s:Int):∀ k,k≤l.length→(ZV l s k).length=3
 |0,_=>rfl
 |k+1,h=>by
  rw [Yf (by omega),WY]
  split
  ·rw [List.length_set];exact Q4 l s k (by omega)
  ·exact Q4 l s k (by omega)
def heT (c:Chart) (s:Int) (k:Nat):St:={ t:=asg [(1,aI s),(4,.ptr 1 0),(5,.ptr 2 0),(10,ql c.sold),(11,aI c.sold.length),(12,aI k)],h:=qj [(0,.cells (qb c)),(1,.cells [aU 0,aU 0,aU 0]),(2,.cells ((ZV c.sold s k).map aU))],n:=3 }
def jC:=kk @ty3 (kk @x9 (kk @yc (kk @xJ (kk @yU (kk @Qf0 (kk @QjA (kk @ti3.eq_1 (kk @xD.eq_1 (kk @jM.eq_1 (kk @vZ.eq_1 (kk @yA.eq_1 (kk @KJ.eq_1 @QaA.eq_1))))))))))))
def Qu:=kk @aI.eq_1 (kk @aB.eq_1 (@aU.eq_1))
theorem QeQ (c:Chart) (s:Int) (hv:Van c):FnV Tryz.prog 107 [qa c,aI s] (.agg ((ZV c.sold s c.sold.length).map aU)):=by
 have env:Env (fun _=>True) Tryz.prog tyB (tab [(77,qX true sin),(96,qX true Qi)]):=qL ⟨ein,QkA,trivial⟩
 refine Fn.of (A:=fun _=>True) (n0:=0) (D:=noD) (Fn0 Tryz.func107 rfl (fun vs w=>by kernel_rfl) (by kernel_rfl)) (by simp) (by simp [AV.ids,AV.idsL,qa,qb,aI]) (fun i o h=>by cases h) (fun _ _ _ _=>trivial) qF ?_
 have hsl:=hv.many
 repeat' (first|(apply nx;with_reducible constructor)|refine jq (by decide) ?_|((first|refine kz env fun Q hQ=>?_|refine kj fun Q hQ=>?_);simp only [vkt,seval,jC,Qu,ql,qa,qb,eTk,gTk,heT,sin,Qi,jG,wF,jQ,jr,zL,wz,List.length_map,Nat.mul_one];(try simp only [ite_and]);(repeat' (first|with_reducible assumption|refine And.intro ?_ ?_|intro hp));all_goals (first|(refine hQ _ ?_;clear hQ Q)|(refine hQ _ (fun h=>?_) (fun h=>?_) <;> clear hQ Q <;> (try simp only [vki,reduceCtorEq] at h))|(refine kx ?_;kernel_rfl)|omega|assumption|with_reducible rfl|skip)))
 refine qN (fun k:{ k:Nat // k≤c.sold.length }=>heT c s k.1) (fun k=>c.sold.length - k.1) ⟨0,Nat.zero_le _⟩ ?_ fun ⟨k,hk⟩=>?_
 ·(refine Le.ok some [] ?_;constructor;all_goals (try simp only [vle,vkt,seval,jC,Qu,ql,qa,qb,eTk,gTk,heT,sin,Qi,jG,wF,jQ,jr,zL,wz,List.length_map,Nat.mul_one]))
  all_goals first|rfl|(simp [ZV,AV.leL,AV.le,aU];done)
 ·repeat' (first|(apply nx;with_reducible constructor)|refine jq (by decide) ?_)
  (refine kz env fun Q hQ=>?_;simp only [vkt,seval,jC,Qu,ql,qa,qb,eTk,gTk,heT,sin,Qi,jG,wF,jQ,jr,zL,wz,List.length_map,Nat.mul_one];(try simp only [ite_and]);(repeat' (first|with_reducible assumption|refine And.intro ?_ ?_|intro hp));all_goals (first|(refine hQ _ ?_;clear hQ Q)|(refine kx ?_;kernel_rfl)|omega|assumption|with_reducible rfl|skip))
  repeat' (first|(apply nx;with_reducible constructor)|refine jq (by decide) ?_)
  (refine yY (by simp only [vkt,seval,jC,Qu,ql,qa,qb,eTk,gTk,heT,sin,Qi,jG,wF,jQ,jr,zL,wz,List.length_map,Nat.mul_one];rfl) (fun h=>?_) (fun h=>?_) <;> (try simp only [vki,reduceCtorEq] at h))
  ·have hlt:k < c.sold.length:=by omega
   have e9:IntKind.wrap .i64 ((k:Int)+1)=((k+1:Nat):Int):=by rw [wrap64 (by omega) (by omega)];rfl
   obtain ⟨x,hx⟩:∃ x,c.sold.getD k default=x:=⟨_,rfl⟩
   have hS:=Yf (s:=s) hlt
   rw [hx] at hS
   have hok:=hv.tk x (hx ▸ yB hlt)
   have hcl:=hv.car.cabs
   obtain ⟨⟨g1,g2⟩,g3,g4,g5,g6⟩:=(⟨hok.cab,hok.bed.1,hok.frm,hok.way,hok.to⟩:_∧_∧_∧_∧_)
   have gs:=hv.car.secs
   have w1:IntKind.wrap .i64 (x.to - 1)=x.to - 1:=wrap64 (by omega) (by omega)
   obtain ⟨i,hi⟩:∃ i:Nat,x.cab=(i:Int):=⟨x.cab.toNat,by omega⟩
   have hi3:i < 3:=by omega
   have hi3':(i:Int) < 3:=by omega
   have i0:(0:Int)≤(i:Int):=by omega
   obtain ⟨P,hP⟩:∃ P,ZV c.sold s k=P:=⟨_,rfl⟩
   have hPl:P.length=3:=by rw [← hP];exact Q4 _ _ _ hk
   rw [hP,WY,hi,Int.toNat_natCast] at hS
   try simp only [heT,hP]
   have hiP:i < P.length:=by omega
   have hiP1:i+1≤P.length:=by omega
   have pg:=Qhl hiP
   have ps:=Qkr (n:=QgN (P.getD i 0) x.bed) hiP
   cases hb:inB s x.frm (x.to - 1) with
   |false =>
    rw [hb] at hS
    repeat' (first|(apply nx;with_reducible constructor)|refine jq (by decide) ?_|((first|refine kz env fun Q hQ=>?_|refine kj fun Q hQ=>?_);simp only [vkt,seval,jC,Qu,ql,qa,qb,eTk,gTk,heT,sin,Qi,jG,wF,jQ,jr,zL,wz,List.length_map,Nat.mul_one,hx,hb,w1,e9];(try simp only [ite_and]);(repeat' (first|with_reducible assumption|refine And.intro ?_ ?_|intro hp));all_goals (first|(refine hQ _ ?_;clear hQ Q)|(refine hQ _ (fun h=>?_) (fun h=>?_) <;> clear hQ Q <;> (try simp only [vki,reduceCtorEq] at h))|(refine kx ?_;kernel_rfl)|omega|assumption|with_reducible rfl|skip)))
    refine ⟨⟨k+1,hlt⟩,by show c.sold.length - (k+1) < c.sold.length - k;omega, ?_⟩
    simp only [heT,hS]
    (refine Le.ok some [] ?_;constructor;all_goals (try simp only [vle,vkt,seval,jC,Qu,ql,qa,qb,eTk,gTk,heT,sin,Qi,jG,wF,jQ,jr,zL,wz,List.length_map,Nat.mul_one]))
    all_goals first|rfl|(simp [jQ];done)
   |true =>
    rw [hb] at hS
    simp only [if_true] at hS
    simp only [aU] at pg ps
    repeat' (first|(apply nx;with_reducible constructor)|refine jq (by decide) ?_|((first|refine kz env fun Q hQ=>?_|refine kj fun Q hQ=>?_);simp only [vkt,seval,jC,Qu,ql,qa,qb,eTk,gTk,heT,sin,Qi,jG,wF,jQ,jr,zL,wz,List.length_map,Nat.mul_one,hx,hb,w1,e9,hi,hi3',i0,hiP1,hPl,pg,ps,g3];(try simp only [ite_and]);(repeat' (first|with_reducible assumption|refine And.intro ?_ ?_|intro hp));all_goals (first|(refine hQ _ ?_;clear hQ Q)|(refine hQ _ (fun h=>?_) (fun h=>?_) <;> clear hQ Q <;> (try simp only [vki,reduceCtorEq] at h))|(refine kx ?_;kernel_rfl)|omega|assumption|with_reducible rfl|skip)))
    refine ⟨⟨k+1,hlt⟩,by show c.sold.length - (k+1) < c.sold.length - k;omega, ?_⟩
    simp only [heT,hS]
    (refine Le.ok some [] ?_;constructor;all_goals (try simp only [vle,vkt,seval,jC,Qu,ql,qa,qb,eTk,gTk,heT,sin,Qi,jG,wF,jQ,jr,zL,wz,List.length_map,Nat.mul_one]))
    all_goals first|rfl|(simp [jQ];done)
  ·have hke:k=c.sold.length:=by omega
   subst hke
   obtain ⟨P,hP⟩:∃ P,ZV c.sold s c.sold.length=P:=⟨_,rfl⟩
   have hPl:P.length=3:=by rw [← hP];exact Q4 _ _ _ (Nat.le_refl _)
   try simp only [heT,hP]
   have tP:(P.map aU).take 3=P.map aU:=List.take_of_length_le (by simp [hPl])
   repeat' (first|(apply nx;with_reducible constructor)|refine jq (by decide) ?_|((first|refine kz env fun Q hQ=>?_|refine kj fun Q hQ=>?_);simp only [vkt,seval,jC,Qu,ql,qa,qb,eTk,gTk,heT,sin,Qi,jG,wF,jQ,jr,zL,wz,List.length_map,Nat.mul_one,hPl,tP];(try simp only [ite_and]);(repeat' (first|with_reducible assumption|refine And.intro ?_ ?_|intro hp));all_goals (first|(refine hQ _ ?_;clear hQ Q)|(refine hQ _ (fun h=>?_) (fun h=>?_) <;> clear hQ Q <;> (try simp only [vki,reduceCtorEq] at h))|(refine kx ?_;kernel_rfl)|omega|assumption|with_reducible rfl|skip)))
   (simp only [vrt,Tryz.results107,hPl,tP,vkt,seval,jC,Qu,ql,qa,qb,eTk,gTk,heT,sin,Qi,jG,wF,jQ,jr,zL,wz,List.length_map,Nat.mul_one];refine Fin.val rfl ?_;(try simp only [AV.le,AV.leL]))
   all_goals first|rfl|(simp [jQ];done)
def j5:List AV→Prop × AV
 |[.agg [.sl cs,.v (.int .i64 n),.sl ts],.v (.int .i64 s)]=>(cs=(cs.map qw).map qh∧ts=(ts.map dTk).map eTk∧Van ⟨cs.map qw,n,ts.map dTk⟩,.agg ((ZV (ts.map dTk) s ts.length).map aU))
 |_=>(False,.junk)
theorem Qi0 {A:Frm→Prop}:qE A Tryz.prog 107 (qX true j5):=qW fun vs hv h=>by
 clear hv
 unfold j5 at h ⊢
 split at h
 ·rename_i cs n ts s
  obtain ⟨h1,h2,h3⟩:=h
  refine ⟨by simp only [AV.plain,zL],fun _=>by simp only [AV.flat,wz], ?_⟩
  have:=QeQ ⟨cs.map qw,n,ts.map dTk⟩ s h3
  simp only [qa,qb,← h1,← h2,List.length_map] at this
  exact this
 ·exact h.elim
theorem wrapU {n:Int} (h0:0≤n) (h1:n < 18446744073709551616):IntKind.wrap .u64 n=n:=by
 rw [show IntKind.wrap .u64 n=n % 18446744073709551616 from rfl];omega
theorem Qj4 (x y:BitVec 64) (hy:y ≠ 0):IntKind.wrap .u64 ((x ||| y).toNat:Int) ≠ 0:=fun h=>by
 have hlt:=(x ||| y).isLt
 rw [wrapU (by omega) (by omega)] at h
 have h1:(x ||| y)=0:=by apply BitVec.eq_of_toNat_eq;rw [show (x ||| y).toNat=0 by omega];rfl
 exact hy (BitVec.or_eq_zero_iff.1 h1).2
theorem QhW {a b:Int} (h0:0≤b) (h3:b≤3):QgN a b ≠ 0:=by
 refine Qj4 (BitVec.ofInt 64 a) (BitVec.ofInt 64 (IntKind.wrap .u64 (1 * 2 ^ min b.toNat 64))) ?_
 rcases (by omega:b=0∨b=1∨b=2∨b=3) with rfl|rfl|rfl|rfl <;> decide
theorem X3 {l:List Tk} {s:Int} (hl:∀ t ∈ l,0≤t.cab∧t.cab < 3∧0≤t.bed∧t.bed≤3) {i:Nat} (hi:i < 3):∀ k,k≤l.length→decide ((ZV l s k).getD i 0=0)=(l.take k).all fun t=>!(atB s t && decide (t.cab=(i:Int)))
 |0,_=>by
  rw [List.take_zero]
  match i,hi with
  |0,_=>rfl
  |1,_=>rfl
  |2,_=>rfl
 |k+1,hk=>by
  have hkl:k < l.length:=by omega
  have ih:=X3 (s:=s) hl hi k (by omega)
  have hlen:=Q4 l s k (by omega)
  obtain ⟨g1,g2,g3,g4⟩:=hl _ (yB (d:=default) hkl)
  rw [Yf hkl,List.take_succ_eq_append_getElem hkl,List.all_append,← ih]
  rw [show l[k]=l.getD k default by simp [List.getD_eq_getElem?_getD,hkl]]
  generalize l.getD k default=t at *
  have ha:inB s t.frm (t.to - 1)=atB s t:=by
   unfold inB atB
   rw [show decide (s≤t.to - 1)=decide (s < t.to) by rw [decide_eq_decide];omega]
  unfold WY
  rw [ha]
  simp only [List.all_cons,List.all_nil,Bool.and_true]
  cases atB s t with
  |false=>simp
  |true =>
   simp only [if_true,Bool.true_and]
   by_cases hc:t.cab=(i:Int)
   ·have e:t.cab.toNat=i:=by omega
    rw [e,decide_eq_true hc,List.getD_eq_getElem?_getD,List.getElem?_set_self (by omega),Option.getD_some,decide_eq_false (QhW g3 g4)]
    simp
   ·have e:t.cab.toNat ≠ i:=by omega
    rw [decide_eq_false hc,List.getD_eq_getElem?_getD,List.getElem?_set_ne e,← List.getD_eq_getElem?_getD]
    simp
def rcN (c:Chart) (s i:Nat):Nat:=((List.range i).filter fun (j:Nat)=>Vv c.sold s j).length
def rtN (c:Chart) (s:Nat):Nat:=((List.range s).map fun s=>rcN c s c.cabins.length).sum
theorem Qg9 (c:Chart) (s i:Nat):rcN c s (i+1)=rcN c s i+if Vv c.sold s i then 1 else 0:=by
 unfold rcN
 rw [List.range_succ,List.filter_append,List.length_append]
 cases h:Vv c.sold s i <;> simp [h]
theorem QaF (c:Chart) (s:Nat):rtN c (s+1)=rtN c s+rcN c s c.cabins.length:=by
 unfold rtN
 rw [List.range_succ,List.map_append,List.sum_append]
 simp
theorem QfY (c:Chart) (s i:Nat):rcN c s i≤i:=by
 unfold rcN
 exact Nat.le_trans (List.length_filter_le _ _) (by simp)
theorem Qgb (c:Chart):∀ s,rtN c s≤s * c.cabins.length
 |0=>by simp [rtN]
 |s+1=>by
  have:=Qgb c s
  have:=QfY c s c.cabins.length
  rw [QaF,Nat.succ_mul];omega
theorem Qfi (c:Chart):WP c.cabins c.secs c.sold=(rtN c c.secs.toNat:Int):=by
 unfold WP rtN
 rw [List.length_flatMap]
 rfl
def rsO (c:Chart) (s:Nat):St:={ t:=asg [(1,.ptr 0 0),(2,aI 0),(3,aI (rtN c s:Nat)),(8,aI c.secs),(9,aI s)],h:=qj [(0,.cells (qb c))],n:=1 }
def rsI (c:Chart) (s i:Nat):St:={ t:=asg [(1,.ptr 0 0),(2,aI 0),(3,aI (rtN c s+rcN c s i:Nat)),(4,aI s),(5,.ptr 1 0),(8,aI c.secs),(9,aI s),(17,aI c.cabins.length),(18,aI i)],h:=qj [(0,.cells (qb c)),(1,.cells ((ZV c.sold s c.sold.length).map aU))],n:=2 }
def wI:=kk @ty3 (kk @W9 (kk @yc (kk @Jz (kk @Qf0 (kk @QjA (kk @ti3.eq_1 (kk @ZT.eq_1 (kk @jM.eq_1 (kk @Z4.eq_1 (kk @KJ.eq_1 @QaA.eq_1))))))))))
def yV:=kk @aI.eq_1 (@aB.eq_1)
theorem QhM (c:Chart) (hv:Van c):FnV Tryz.prog 58 [qa c] (aI (WP c.cabins c.secs c.sold)):=by
 have env:Env (fun _=>True) Tryz.prog tyB (tab [(107,qX true j5)]):=qL ⟨Qi0,trivial⟩
 refine Fn.of (A:=fun _=>True) (n0:=0) (D:=noD) (Fn0 Tryz.func58 rfl (fun vs w=>by kernel_rfl) (by kernel_rfl)) (by simp) (by simp [AV.ids,AV.idsL,qa,qb]) (fun i o h=>by cases h) (fun _ _ _ _=>trivial) qF ?_
 have hcl:=hv.car.cabs
 have hsec:=hv.car.secs
 have ec:(⟨c.cabins,c.secs,c.sold⟩:Chart)=c:=rfl
 have htk:∀ t ∈ c.sold,0≤t.cab∧t.cab < 3∧0≤t.bed∧t.bed≤3:=fun t ht=>by
  have h1:=hv.tk t ht
  have h2:=h1.cab
  have h3:=h1.bed
  have h4:=(hv.car.beds _ (yB (d:=default) h2.2)).2
  omega
 rw [Qfi]
 repeat' (first|(apply nx;with_reducible constructor)|refine jq (by decide) ?_|((first|refine kz env fun Q hQ=>?_|refine kj fun Q hQ=>?_);simp only [vkt,seval,wI,yV,qa,qb,qd,mTk,j5,jG,wF,jQ,jr,zL,wz,rsO,rsI,List.length_map,Nat.mul_one];(try simp only [ite_and]);(repeat' (first|with_reducible assumption|refine And.intro ?_ ?_|intro hp));all_goals (first|(refine hQ _ ?_;clear hQ Q)|(refine hQ _ (fun h=>?_) (fun h=>?_) <;> clear hQ Q <;> (try simp only [vki,reduceCtorEq] at h))|(refine kx ?_;kernel_rfl)|omega|assumption|with_reducible rfl|skip)))
 refine qN (fun s:{ s:Nat // s≤c.secs.toNat }=>rsO c s.1) (fun s=>c.secs.toNat - s.1) ⟨0,Nat.zero_le _⟩ ?_ fun ⟨s,hs⟩=>?_
 ·(refine Le.ok some [] ?_;constructor;all_goals (try simp only [vle,vkt,seval,wI,yV,qa,qb,qd,mTk,j5,jG,wF,jQ,jr,zL,wz,rsO,rsI,List.length_map,Nat.mul_one]))
  all_goals first|rfl|(simp [rtN];done)
 simp only at hs ⊢
 repeat' (first|(apply nx;with_reducible constructor)|refine jq (by decide) ?_)
 (refine kz env fun Q hQ=>?_;simp only [vkt,seval,wI,yV,qa,qb,qd,mTk,j5,jG,wF,jQ,jr,zL,wz,rsO,rsI,List.length_map,Nat.mul_one];(try simp only [ite_and]);(repeat' (first|with_reducible assumption|refine And.intro ?_ ?_|intro hp));all_goals (first|(refine hQ _ ?_;clear hQ Q)|(refine kx ?_;kernel_rfl)|omega|assumption|with_reducible rfl|skip))
 repeat' (first|(apply nx;with_reducible constructor)|refine jq (by decide) ?_)
 (refine yY (by simp only [vkt,seval,wI,yV,qa,qb,qd,mTk,j5,jG,wF,jQ,jr,zL,wz,rsO,rsI,List.length_map,Nat.mul_one];rfl) (fun h=>?_) (fun h=>?_) <;> (try simp only [vki,reduceCtorEq] at h))
 ·have hlt:s < c.secs.toNat:=by omega
  have hT:=Qgb c s
  have hT3:rtN c s≤s * 3:=Nat.le_trans hT (Nat.mul_le_mul_left _ hcl.2)
  have e9:IntKind.wrap .i64 ((s:Int)+1)=((s+1:Nat):Int):=by rw [wrap64 (by omega) (by omega)];rfl
  obtain ⟨P,hP⟩:∃ P,ZV c.sold s c.sold.length=P:=⟨_,rfl⟩
  have hPl:P.length=3:=by rw [← hP];exact Q4 _ _ _ (Nat.le_refl _)
  repeat' (first|(apply nx;with_reducible constructor)|refine jq (by decide) ?_|((first|refine kz env fun Q hQ=>?_|refine kj fun Q hQ=>?_);simp only [vkt,seval,wI,yV,qa,qb,qd,mTk,j5,jG,wF,jQ,jr,zL,wz,rsO,rsI,List.length_map,Nat.mul_one,ec,hv,hP];(try simp only [ite_and]);(repeat' (first|with_reducible assumption|refine And.intro ?_ ?_|intro hp));all_goals (first|(refine hQ _ ?_;clear hQ Q)|(refine hQ _ (fun h=>?_) (fun h=>?_) <;> clear hQ Q <;> (try simp only [vki,reduceCtorEq] at h))|(refine kx ?_;kernel_rfl)|omega|assumption|with_reducible rfl|skip)))
  refine qN (fun i:{ i:Nat // i≤c.cabins.length }=>rsI c s i.1) (fun i=>c.cabins.length - i.1) ⟨0,Nat.zero_le _⟩ ?_ fun ⟨i,hi⟩=>?_
  ·simp only [rsI,hP,rcN,List.range_zero,List.filter_nil,List.length_nil,Nat.add_zero]
   (refine Le.ok some [] ?_;constructor;all_goals (try simp only [vle,vkt,seval,wI,yV,qa,qb,qd,mTk,j5,jG,wF,jQ,jr,zL,wz,rsO,rsI,List.length_map,Nat.mul_one]))
   all_goals first|rfl|(simp [jQ];done)|(simp [hPl,jQ];done)
  simp only at hi ⊢
  repeat' (first|(apply nx;with_reducible constructor)|refine jq (by decide) ?_)
  (refine kz env fun Q hQ=>?_;simp only [vkt,seval,wI,yV,qa,qb,qd,mTk,j5,jG,wF,jQ,jr,zL,wz,rsO,rsI,List.length_map,Nat.mul_one];(try simp only [ite_and]);(repeat' (first|with_reducible assumption|refine And.intro ?_ ?_|intro hp));all_goals (first|(refine hQ _ ?_;clear hQ Q)|(refine kx ?_;kernel_rfl)|omega|assumption|with_reducible rfl|skip))
  repeat' (first|(apply nx;with_reducible constructor)|refine jq (by decide) ?_)
  (refine yY (by simp only [vkt,seval,wI,yV,qa,qb,qd,mTk,j5,jG,wF,jQ,jr,zL,wz,rsO,rsI,List.length_map,Nat.mul_one];rfl) (fun h=>?_) (fun h=>?_) <;> (try simp only [vki,reduceCtorEq] at h))
  ·have hil:i < c.cabins.length:=by omega
   have hC:=QfY c s i
   have e8:IntKind.wrap .i64 ((i:Int)+1)=((i+1:Nat):Int):=by rw [wrap64 (by omega) (by omega)];rfl
   have e7:IntKind.wrap .i64 (((rtN c s+rcN c s i:Nat):Int)+1)=((rtN c s+rcN c s i+1:Nat):Int):=by rw [wrap64 (by omega) (by omega)];rfl
   have hz:=X3 (s:=(s:Int)) htk (show i < 3 by omega) c.sold.length (Nat.le_refl _)
   rw [List.take_length,hP] at hz
   have hz:decide (P.getD i 0=0)=Vv c.sold s i:=hz
   have hS:=Qg9 c s i
   have i3:(i:Int) < 3:=by omega
   have hiP:i < P.length:=by omega
   have hiP1:i+1≤P.length:=by omega
   have pg:=Qhl hiP
   simp only [aU] at pg
   cases hE:Vv c.sold s i with
   |true =>
    rw [hE] at hz hS
    simp only [if_true] at hS
    repeat' (first|(apply nx;with_reducible constructor)|refine jq (by decide) ?_|((first|refine kz env fun Q hQ=>?_|refine kj fun Q hQ=>?_);simp only [vkt,seval,wI,yV,qa,qb,qd,mTk,j5,jG,wF,jQ,jr,zL,wz,rsO,rsI,List.length_map,Nat.mul_one,hP,hPl,pg,hz,i3,hiP1,e8,e7];(try simp only [ite_and]);(repeat' (first|with_reducible assumption|refine And.intro ?_ ?_|intro hp));all_goals (first|(refine hQ _ ?_;clear hQ Q)|(refine hQ _ (fun h=>?_) (fun h=>?_) <;> clear hQ Q <;> (try simp only [vki,reduceCtorEq] at h))|(refine kx ?_;kernel_rfl)|omega|assumption|with_reducible rfl|skip)))
    refine ⟨⟨i+1,hil⟩,by show c.cabins.length - (i+1) < c.cabins.length - i;omega, ?_⟩
    simp only [rsI,hP,hS,← Nat.add_assoc]
    (refine Le.ok some [] ?_;constructor;all_goals (try simp only [vle,vkt,seval,wI,yV,qa,qb,qd,mTk,j5,jG,wF,jQ,jr,zL,wz,rsO,rsI,List.length_map,Nat.mul_one]))
    all_goals first|rfl|(simp [jQ];done)
   |false =>
    rw [hE] at hz hS
    simp only [Bool.false_eq_true,if_false,Nat.add_zero] at hS
    repeat' (first|(apply nx;with_reducible constructor)|refine jq (by decide) ?_|((first|refine kz env fun Q hQ=>?_|refine kj fun Q hQ=>?_);simp only [vkt,seval,wI,yV,qa,qb,qd,mTk,j5,jG,wF,jQ,jr,zL,wz,rsO,rsI,List.length_map,Nat.mul_one,hP,hPl,pg,hz,i3,hiP1,e8,e7];(try simp only [ite_and]);(repeat' (first|with_reducible assumption|refine And.intro ?_ ?_|intro hp));all_goals (first|(refine hQ _ ?_;clear hQ Q)|(refine hQ _ (fun h=>?_) (fun h=>?_) <;> clear hQ Q <;> (try simp only [vki,reduceCtorEq] at h))|(refine kx ?_;kernel_rfl)|omega|assumption|with_reducible rfl|skip)))
    refine ⟨⟨i+1,hil⟩,by show c.cabins.length - (i+1) < c.cabins.length - i;omega, ?_⟩
    simp only [rsI,hP,hS]
    (refine Le.ok some [] ?_;constructor;all_goals (try simp only [vle,vkt,seval,wI,yV,qa,qb,qd,mTk,j5,jG,wF,jQ,jr,zL,wz,rsO,rsI,List.length_map,Nat.mul_one]))
    all_goals first|rfl|(simp [jQ];done)
  ·have hie:i=c.cabins.length:=by omega
   subst hie
   have hS:=QaF c s
   repeat' (first|(apply nx;with_reducible constructor)|refine jq (by decide) ?_|((first|refine kz env fun Q hQ=>?_|refine kj fun Q hQ=>?_);simp only [vkt,seval,wI,yV,qa,qb,qd,mTk,j5,jG,wF,jQ,jr,zL,wz,rsO,rsI,List.length_map,Nat.mul_one,hP,e9];(try simp only [ite_and]);(repeat' (first|with_reducible assumption|refine And.intro ?_ ?_|intro hp));all_goals (first|(refine hQ _ ?_;clear hQ Q)|(refine hQ _ (fun h=>?_) (fun h=>?_) <;> clear hQ Q <;> (try simp only [vki,reduceCtorEq] at h))|(refine kx ?_;kernel_rfl)|omega|assumption|with_reducible rfl|skip)))
   refine ⟨⟨s+1,hlt⟩,by show c.secs.toNat - (s+1) < c.secs.toNat - s;omega, ?_⟩
   simp only [rsO,hS]
   (refine Le.ok some [] ?_;constructor;all_goals (try simp only [vle,vkt,seval,wI,yV,qa,qb,qd,mTk,j5,jG,wF,jQ,jr,zL,wz,rsO,rsI,List.length_map,Nat.mul_one]))
   all_goals first|rfl|(simp;done)
 ·have hse:s=c.secs.toNat:=by omega
  subst hse
  repeat' (first|(apply nx;with_reducible constructor)|refine jq (by decide) ?_|((first|refine kz env fun Q hQ=>?_|refine kj fun Q hQ=>?_);simp only [vkt,seval,wI,yV,qa,qb,qd,mTk,j5,jG,wF,jQ,jr,zL,wz,rsO,rsI,List.length_map,Nat.mul_one];(try simp only [ite_and]);(repeat' (first|with_reducible assumption|refine And.intro ?_ ?_|intro hp));all_goals (first|(refine hQ _ ?_;clear hQ Q)|(refine hQ _ (fun h=>?_) (fun h=>?_) <;> clear hQ Q <;> (try simp only [vki,reduceCtorEq] at h))|(refine kx ?_;kernel_rfl)|omega|assumption|with_reducible rfl|skip)))
  (simp only [vrt,Tryz.results58,vkt,seval,wI,yV,qa,qb,qd,mTk,j5,jG,wF,jQ,jr,zL,wz,rsO,rsI,List.length_map,Nat.mul_one];refine Fin.val rfl ?_;(try simp only [AV.le,AV.leL]))
  all_goals first|rfl|(simp;done)
def Jk:List AV→Prop × AV
 |[.agg [.sl cs,.v (.int .i64 n),.sl ts]]=>(cs=(cs.map qw).map qh∧ts=(ts.map dTk).map eTk∧Van ⟨cs.map qw,n,ts.map dTk⟩,aI (WP (cs.map qw) n (ts.map dTk)))
 |_=>(False,.junk)
theorem Qjh {A:Frm→Prop}:qE A Tryz.prog 58 (qX true Jk):=qW fun vs hv h=>by
 clear hv
 unfold Jk at h ⊢
 split at h
 ·rename_i cs n ts
  obtain ⟨h1,h2,h3⟩:=h
  refine ⟨by simp [aI,AV.plain],fun _=>by simp [aI,AV.flat], ?_⟩
  have:=QhM ⟨cs.map qw,n,ts.map dTk⟩ h3
  simp only [qa,qb,← h1,← h2] at this
  exact this
 ·exact h.elim
def QcN (c:Chart):Int:=if zu c=0 then WP c.cabins c.secs c.sold else 0
def Wn:=kk @yc (kk @Zc (kk @jM.eq_1 @QA.eq_1))
def VY:=kk @aI.eq_1 (@aB.eq_1)
theorem Qin (c:Chart) (hc:c.cabins.length≤maxLen):FnV Tryz.prog 42 [qa c] (.tup [aI (QcN c),aI (zu c)]):=by
 have env:Env (fun _=>True) Tryz.prog tyB (tab [(76,qX true w9),(58,qX true Jk)]):=qL ⟨U5,Qjh,trivial⟩
 refine Fn.of (A:=fun _=>True) (n0:=0) (D:=noD) (Fn0 Tryz.func42 rfl (fun vs w=>by kernel_rfl) (by kernel_rfl)) (by simp) (by simp [AV.ids,AV.idsL,qa,qb]) (fun i o h=>by cases h) (fun _ _ _ _=>trivial) qF ?_
 have ec:(⟨c.cabins,c.secs,c.sold⟩:Chart)=c:=rfl
 unfold QcN
 by_cases h1:zu c=0
 ·have hv:=(QK h1).van
  rw [if_pos h1,h1]
  repeat' (first|(apply nx;with_reducible constructor)|refine jq (by decide) ?_|((first|refine kz env fun Q hQ=>?_|refine kj fun Q hQ=>?_);simp only [vkt,seval,Wn,VY,qa,qb,qd,mTk,w9,Jk,List.length_map,ec,h1,hv];(try simp only [ite_and]);(repeat' (first|with_reducible assumption|refine And.intro ?_ ?_|intro hp));all_goals (first|(refine hQ _ ?_;clear hQ Q)|(refine hQ _ (fun h=>?_) (fun h=>?_) <;> clear hQ Q <;> (try simp only [vki,reduceCtorEq] at h))|(refine kx ?_;kernel_rfl)|omega|assumption|with_reducible rfl|skip)))
  (simp only [vrt,Tryz.results42,vkt,seval,Wn,VY,qa,qb,qd,mTk,w9,Jk,List.length_map];refine Fin.val rfl ?_;(try simp only [AV.le,AV.leL]))
  all_goals first|rfl|(simp;done)
 ·rw [if_neg h1]
  repeat' (first|(apply nx;with_reducible constructor)|refine jq (by decide) ?_|((first|refine kz env fun Q hQ=>?_|refine kj fun Q hQ=>?_);simp only [vkt,seval,Wn,VY,qa,qb,qd,mTk,w9,Jk,List.length_map,ec,h1];(try simp only [ite_and]);(repeat' (first|with_reducible assumption|refine And.intro ?_ ?_|intro hp));all_goals (first|(refine hQ _ ?_;clear hQ Q)|(refine hQ _ (fun h=>?_) (fun h=>?_) <;> clear hQ Q <;> (try simp only [vki,reduceCtorEq] at h))|(refine kx ?_;kernel_rfl)|omega|assumption|with_reducible rfl|skip)))
  (simp only [vrt,Tryz.results42,vkt,seval,Wn,VY,qa,qb,qd,mTk,w9,Jk,List.length_map];refine Fin.val rfl ?_;(try simp only [AV.le,AV.leL]))
  all_goals first|rfl|(simp;done)
def bL3 (cs:List Cabin) (s:Int) (l:List Tk):List AObj:=[qm cs s 2,.cells [.ptr 0 0],qp l]
def Xw:=kk @yc (kk @YW (kk @J2 (kk @jM.eq_1 (kk @JZ.eq_1 @ZQ.eq_1))))
def RO:=kk @aI.eq_1 (@aB.eq_1)
theorem bb_fn (cs:List Cabin) (s:Int) (l:List Tk) (hv:Van ⟨cs,s,l⟩):Fn noB Tryz.prog 57 [.ptr 1 0] (qj (qQ 0 (bL3 cs s l))) (aI (WP cs s l)) (qj (wH 0 ((bL3 cs s l).map some))) 0:=by
 have env:Env (fun _=>True) Tryz.prog tyB (tab [(58,qX true Jk)]):=qL ⟨Qjh,trivial⟩
 refine Fn.of (A:=fun _=>True) (n0:=3) (D:=noD) (Fn0 Tryz.func57 rfl (fun vs w=>by kernel_rfl) (by kernel_rfl)) (by simp) (by simp [AV.ids]) ?_ (fun _ _ _ _=>trivial) qF ?_
 ·intro i o hi
  have h:=qR hi
  simp [qQ,bL3] at h
  rcases h with ⟨rfl,rfl⟩|⟨rfl,rfl⟩|⟨rfl,rfl⟩ <;> simp [AObj.ids,AV.ids,AV.idsL,qm,qp]
 show Sym _ _ _ (zV [.ptr 1 0] 3 (qj [(0,qm cs s 2),(1,.cells [.ptr 0 0]),(2,qp l)])) (xM tyB noD Tryz.f57 fun S rv=>Fin S rv _ 3 (qj [(0,qm cs s 2),(1,.cells [.ptr 0 0]),(2,qp l)]) 0)
 repeat' (first|(apply nx;with_reducible constructor)|refine jq (by decide) ?_|((first|refine kz env fun Q hQ=>?_|refine kj fun Q hQ=>?_);simp only [vkt,seval,Xw,RO,qd,mTk,qm,qp,bL3,Jk,List.length_map,hv];(try simp only [ite_and]);(repeat' (first|with_reducible assumption|refine And.intro ?_ ?_|intro hp));all_goals (first|(refine hQ _ ?_;clear hQ Q)|(refine hQ _ (fun h=>?_) (fun h=>?_) <;> clear hQ Q <;> (try simp only [vki,reduceCtorEq] at h))|(refine kx ?_;kernel_rfl)|omega|assumption|with_reducible rfl|skip)))
 (simp only [vrt,Tryz.results57,vkt,seval,Xw,RO,qd,mTk,qm,qp,bL3,Jk,List.length_map];refine Fin.ok some [] ?_ ?_ ?_ ?_ ?_ rfl;all_goals (try simp only [vle,vkt,seval,Xw,RO,qd,mTk,qm,qp,bL3,Jk,List.length_map]))
 all_goals first|rfl|(simp;done)|exact fun i hi=>(match i,hi with|0,_=>rfl|1,_=>rfl|2,_=>rfl)
def yx (c:Chart) (a:Ask):List AObj:=[qm c.cabins c.secs 2,.cells [.ptr 0 0],qp c.sold,.cells (qg a)]
def vV (c:Chart) (a:Ask) (j:Nat):List AV:=[.agg [qc ((plP c a).getD j default).1,.clo 57 [.ptr 1 0]]]
def yS (c:Chart) (a:Ask) (j:Nat):List AObj:=bL3 c.cabins c.secs ((plP c a).getD j default).2
def bgL0:List (Nat × AV):=[(1,.ptr 1 0),(3,.ptr 4 0),(7,.clo 103 [.ptr 5 0,.ptr 6 0])]
def bgL:List (Nat × AV):=[(1,.ptr 1 0),(3,.ptr 4 0)]
def bgH (a:Ask):List (Nat × AObj):=[(1,.cells [.ptr 0 0]),(3,.cells (qg a)),(4,.cells [.cb])]
theorem Xf (c:Chart) (a:Ask):zk [0,2,5,6] 8 0 (plL c a)=[(0,qm c.cabins c.secs 2),(2,qp c.sold),(5,.cells [.ptr 0 0]),(6,.cells (qg a))]:=by
 simp [zk,plL,qB,AObj.ren,AV.renL,AV.ren,qm,qp,qg]
theorem RX (c:Chart) (a:Ask) (j:Nat):zk [0] 8 0 (plH c a j)=[(0,qm c.cabins c.secs 8),(8,qp ((plP c a).getD j default).2)]:=by
 simp [zk,plH,qy,qB,AObj.ren,AV.renL,AV.ren,qm,qp]
def vE:=kk @QM (kk @YW (kk @ty104 (kk @Qje (kk @Qb.eq_1 (kk @JZ.eq_1 (kk @Qdt.eq_1 @La.eq_1))))))
def xV:=kk @aI.eq_1 (kk @aB.eq_1 (@QT))
theorem Qg0 {c:Chart} {a:Ask} (h:PlOk c a):Qc1 Tryz.prog 56 [.cb,.ptr 1 0,.ptr 3 0] (nth ((yx c a).take 2)) (nth (yx c a)) (vV c a) (plP c a).length (fun j=>nth (yS c a j)) (fun _ _=>.tup []):=by
 intro ans R hr
 rw [YH,YH]
 obtain ⟨A0,hA0⟩:∃ A0:Frm→Prop,A0=fun F=>F.r=none∧Acb Tryz.prog (qj (qQ 0 ((yx c a).take 2))) (qj (qQ 0 (yx c a))) (vV c a) (fun j=>nth (yS c a j)) ans R F:=⟨_,rfl⟩
 have hr0:∀ F,A0 F→F.r=none:=fun F h=>by rw [hA0] at h;exact h.1
 have hA:∀ F,A0 F→Acb Tryz.prog (qj (qQ 0 ((yx c a).take 2))) (qj (qQ 0 (yx c a))) (vV c a) (fun j=>nth (yS c a j)) ans R F:=fun F h=>by rw [hA0] at h;exact h.2
 have hp2:∀ i o,qj (qQ 0 ((yx c a).take 2)) i=some o→i=0∨i=1:=fun i o hi=>by
  rw [jR,if_neg (by omega)] at hi
  have:=(List.getElem?_eq_some_iff.1 hi).1
  simp [yx] at this
  omega
 have env:Env A0 Tryz.prog tyB (tab [(52,fnE qK)]):=qL ⟨V5,trivial⟩
 refine Fn.of (A:=A0) (n0:=4) (D:=noD) (Fn0 Tryz.func56 rfl (fun vs w=>by kernel_rfl) (by kernel_rfl)) (by simp) (by simp [AV.ids]) ?_ (fun F hb h0 h1=>by rw [hA0];exact ⟨h1,h0,fun i o hi=>(by rcases hp2 i o hi with rfl|rfl <;> exact ⟨_,rfl⟩),hb⟩) qF ?_
 ·intro i o hi
  have h:=qR hi
  simp [qQ,yx] at h
  rcases h with ⟨rfl,rfl⟩|⟨rfl,rfl⟩|⟨rfl,rfl⟩|⟨rfl,rfl⟩ <;> simp [AObj.ids,AV.ids,AV.idsL,qm,qp,qg]
 show Sym _ _ _ (zV [.cb,.ptr 1 0,.ptr 3 0] 4 (qj [(0,qm c.cabins c.secs 2),(1,.cells [.ptr 0 0]),(2,qp c.sold),(3,.cells (qg a))])) (xM tyB noD Tryz.f56 fun S rv=>Fin S rv _ 4 (qj [(0,qm c.cabins c.secs 2),(1,.cells [.ptr 0 0]),(2,qp c.sold),(3,.cells (qg a))]) R)
 repeat' (first|(apply nx;with_reducible constructor)|refine jq (by decide) ?_|((first|refine kz env fun Q hQ=>?_|refine kj fun Q hQ=>?_);simp only [vkt,seval,vE,xV,qx,qg,qc,mTk,qd,qm,qp,qy,plL,bgL,qK,bL3,vV,yS,List.length_map,Go.Sym.tabC,cbX,wy,qU,nth,hwL,Nat.zero_add,Nat.sub_zero,Nat.add_zero];(try simp only [ite_and]);(repeat' (first|with_reducible assumption|refine And.intro ?_ ?_|intro hp));all_goals (first|(refine hQ _ ?_;clear hQ Q)|(refine hQ _ (fun h=>?_) (fun h=>?_) <;> clear hQ Q <;> (try simp only [vki,reduceCtorEq] at h))|(refine kx ?_;kernel_rfl)|omega|assumption|with_reducible rfl|skip)))
 refine kY (S':={ t:=asg bgL0,h:=qj (bgH a++[(0,qm c.cabins c.secs 2),(2,qp c.sold),(5,.cells [.ptr 0 0]),(6,.cells (qg a))]),n:=7,j:=0,d:=[],m:=4 }) ?_ ?_
 ·show Le _ { t:=asg [(1,.ptr 1 0),(3,.ptr 4 0),(7,.clo 103 [.ptr 5 0,.ptr 6 0])],h:=qj [(1,.cells [.ptr 0 0]),(3,.cells (qg a)),(4,.cells [.cb]),(0,qm c.cabins c.secs 2),(2,qp c.sold),(5,.cells [.ptr 0 0]),(6,.cells (qg a))],n:=7,j:=0,d:=[],m:=4 }
  (refine Le.ok some [] ?_;constructor;all_goals (try simp only [vle,vkt,seval,vE,xV,qx,qg,qc,mTk,qd,qm,qp,qy,plL,bgL,qK,bL3,vV,yS,List.length_map,Go.Sym.tabC,cbX,wy,qU,nth,hwL,Nat.zero_add,Nat.sub_zero,Nat.add_zero]))
  all_goals first|rfl|(simp;done)
 rw [← Xf c a]
 refine xY hr0 1 (L:=bgL0) (L':=bgL) (xs:=[2]) (hs:=[0,2,5,6]) (n:=7) (nl:=1) (hc:=fun _=>bgH a) (Lp:=plL c a) (jj:=fun j=>j) (d:=[]) (ys:=plY c a) (hl:=plH c a) (ans:=ans) (ex:=.ret) (caps:=[.ptr 5 0,.ptr 6 0]) (caps0:=[.ptr 2 0,.ptr 3 0]) (N:=(plP c a).length) (R:=R) (A':=fun j=>Acb Tryz.prog (qj (qQ 0 ((yx c a).take 2))) (qj ((7,.mark) :: bgH a++zk [0] 8 0 (plH c a j))) (fun k=>vV c a (j+k)) (fun k=>nth (yS c a (j+k))) (fun k=>ans (j+k)) (R - j)) rfl (JU h) hr (.inl rfl) ?_ ?_ ?_ rfl (by simp) ?_ (by simp) ?_ ?_ ?_ ?_ ?_ ?_ ?_ (fun j hj=>?_) ?_ (fun j hj=>?_) (fun _=>?_) (fun hpos hlast=>?_)
 ·simp [AV.leL,AV.le]
 ·simp [AV.nocbL,AV.nocb]
 ·simp [J4,plL,qm,qp,qg,AObj.nocb,AV.nocbL,AV.nocb,AObj.ids,AV.ids,AV.idsL,AObj.ren,AV.renL,AV.ren,AObj.le,AV.leL,AV.le,qB]
 ·simp [bgH,qj]
 ·intro F hF j hj F' hR
  refine K4 (hA F hF) hR fun i o hi=>?_
  rcases hp2 i o hi with rfl|rfl
  ·exact ⟨_,rfl⟩
  ·exact ⟨_,rfl⟩
 ·simp [bgH,qj]
 ·simp [bgH,AObj.ids,AV.ids,AV.idsL,qg]
 ·simp [LP,bgL,bgL0,asg,upd]
 ·simp [Qbd]
 ·intro j hj
  simp [absent,bgH,RX]
 ·simp [Vt,bgL,AV.ids]
 ·refine ⟨?_,rfl, ?_, ?_,rfl, ?_⟩
  ·simp [Zp,bgH,AObj.ids,AV.ids,AV.idsL,qg]
  ·simp [Js,plH,qy,qm,qp,AObj.nocb,AV.nocbL,AV.nocb,AObj.ids,AV.ids,AV.idsL]
  ·simp [Xe,plY,qc,AV.nocb,AV.ids]
  ·simp [Zk,J3,RX,bgH,bgL,Qf,AV.ids,ADf.ids,List.range_succ]
 ·simp [Zp,bgH,AObj.ids,AV.ids,AV.idsL,qg]
 ·obtain ⟨x,hx⟩:∃ x,((plP c a).getD j default).1=x:=⟨_,rfl⟩
  obtain ⟨r,hr2⟩:∃ r,((plP c a).getD j default).2=r:=⟨_,rfl⟩
  obtain ⟨A1,hA1⟩:∃ A1:Frm→Prop,A1=Acb Tryz.prog (qj (qQ 0 ((yx c a).take 2))) (qj ((7,.mark) :: bgH a++zk [0] 8 0 (plH c a j))) (fun k=>vV c a (j+k)) (fun k=>nth (yS c a (j+k))) (fun k=>ans (j+k)) (R - j):=⟨_,rfl⟩
  rw [← hA1]
  have hB:∀ F,A1 F→Acb Tryz.prog (qj (qQ 0 ((yx c a).take 2))) (qj ((7,.mark) :: bgH a++zk [0] 8 0 (plH c a j))) (fun k=>vV c a (j+k)) (fun k=>nth (yS c a (j+k))) (fun k=>ans (j+k)) (R - j) F:=fun F h=>hA1 ▸ h
  have env:Env A1 Tryz.prog tyB (Go.Sym.tabC (cbX [0,1,8] (fun k=>vV c a (j+k)) (fun k=>yS c a (j+k)) (fun k=>ans (j+k)) (R - j)) []):=⟨X4,RN (fun S bs h hS ops o g args tys caps hw ho hg hb=>Va hB (fun i o hi=>by rcases hp2 i o hi with rfl|rfl <;> rfl) (by simp) h hS hw ho hg hb) trivial,by kernel_rfl⟩
  have hst:ym bgL [8] [0] 7 1 (plY c a j) (bgH a) (plH c a j)={ t:=asg [(8,qc x),(1,.ptr 1 0),(3,.ptr 4 0)],h:=qj [(7,.mark),(1,.cells [.ptr 0 0]),(3,.cells (qg a)),(4,.cells [.cb]),(0,qm c.cabins c.secs 8),(8,qp r)],n:=9,m:=9 }:=by
   simp only [ym,Nat.reduceAdd,RX,plY,hx,hr2,qc,List.map_cons,List.map_nil,AV.ren,List.zip_cons_cons,List.zip_nil_right,bgH,bgL,We,List.cons_append,List.nil_append]
   rfl
  show Sym _ _ _ (ym bgL [8] [0] 7 1 (plY c a j) (bgH a) (plH c a j)) _
  rw [hst]
  have hjR:0 < R - j:=by omega
  cases hb:ans j with
  |true =>
   repeat' (first|(apply nx;with_reducible constructor)|refine jq (by decide) ?_|((first|refine kz env fun Q hQ=>?_|refine kj fun Q hQ=>?_);simp only [vkt,seval,vE,xV,qx,qg,qc,mTk,qd,qm,qp,qy,plL,bgL,qK,bL3,vV,yS,List.length_map,Go.Sym.tabC,cbX,wy,qU,nth,hwL,Nat.zero_add,Nat.sub_zero,Nat.add_zero,hx,hr2,hjR,hb];(try simp only [ite_and]);(repeat' (first|with_reducible assumption|refine And.intro ?_ ?_|intro hp));all_goals (first|(refine hQ _ ?_;clear hQ Q)|(refine hQ _ (fun h=>?_) (fun h=>?_) <;> clear hQ Q <;> (try simp only [vki,reduceCtorEq] at h))|(refine kx ?_;kernel_rfl)|omega|assumption|with_reducible rfl|skip)))
   refine ⟨by rw [hb];rfl,rfl,some,_,RFin.okQ some [] ?_⟩
   constructor
   all_goals (try simp only [vle,kV,kC,qB,plH,bgH,hr2,vkt,seval,vE,xV,qx,qg,qc,mTk,qd,qm,qp,qy,plL,bgL,qK,bL3,vV,yS,List.length_map,Go.Sym.tabC,cbX,wy,qU,nth,hwL,Nat.zero_add,Nat.sub_zero,Nat.add_zero])
   all_goals first|rfl|(simp;done)|(simp [qg,AV.leL,AV.le];done)
  |false =>
   repeat' (first|(apply nx;with_reducible constructor)|refine jq (by decide) ?_|((first|refine kz env fun Q hQ=>?_|refine kj fun Q hQ=>?_);simp only [vkt,seval,vE,xV,qx,qg,qc,mTk,qd,qm,qp,qy,plL,bgL,qK,bL3,vV,yS,List.length_map,Go.Sym.tabC,cbX,wy,qU,nth,hwL,Nat.zero_add,Nat.sub_zero,Nat.add_zero,hx,hr2,hjR,hb];(try simp only [ite_and]);(repeat' (first|with_reducible assumption|refine And.intro ?_ ?_|intro hp));all_goals (first|(refine hQ _ ?_;clear hQ Q)|(refine hQ _ (fun h=>?_) (fun h=>?_) <;> clear hQ Q <;> (try simp only [vki,reduceCtorEq] at h))|(refine kx ?_;kernel_rfl)|omega|assumption|with_reducible rfl|skip)))
   refine ⟨by rw [hb];rfl,rfl,some,_,RFin.okQ some [] ?_⟩
   constructor
   all_goals (try simp only [vle,kV,kC,qB,plH,bgH,hr2,vkt,seval,vE,xV,qx,qg,qc,mTk,qd,qm,qp,qy,plL,bgL,qK,bL3,vV,yS,List.length_map,Go.Sym.tabC,cbX,wy,qU,nth,hwL,Nat.zero_add,Nat.sub_zero,Nat.add_zero])
   all_goals first|rfl|(simp;done)|(simp [qg,AV.leL,AV.le];done)
 ·have eh:qj ((7,AObj.mark) :: bgH a++zk [0,2,5,6] (7+1) 0 (plL c a))=qj [(7,.mark),(1,.cells [.ptr 0 0]),(3,.cells (qg a)),(4,.cells [.cb]),(0,qm c.cabins c.secs 2),(2,qp c.sold),(5,.cells [.ptr 0 0]),(6,.cells (qg a))]:=by
   rw [show zk [0,2,5,6] (7+1) 0 (plL c a)=zk [0,2,5,6] 8 0 (plL c a) from rfl,Xf];rfl
  rw [eh]
  repeat' (first|(apply nx;with_reducible constructor)|refine jq (by decide) ?_|((first|refine kz env fun Q hQ=>?_|refine kj fun Q hQ=>?_);simp only [vkt,seval,vE,xV,qx,qg,qc,mTk,qd,qm,qp,qy,plL,bgL,qK,bL3,vV,yS,List.length_map,Go.Sym.tabC,cbX,wy,qU,nth,hwL,Nat.zero_add,Nat.sub_zero,Nat.add_zero];(try simp only [ite_and]);(repeat' (first|with_reducible assumption|refine And.intro ?_ ?_|intro hp));all_goals (first|(refine hQ _ ?_;clear hQ Q)|(refine hQ _ (fun h=>?_) (fun h=>?_) <;> clear hQ Q <;> (try simp only [vki,reduceCtorEq] at h))|(refine kx ?_;kernel_rfl)|omega|assumption|with_reducible rfl|skip)))
  (simp only [vrt,Tryz.results56,vkt,seval,vE,xV,qx,qg,qc,mTk,qd,qm,qp,qy,plL,bgL,qK,bL3,vV,yS,List.length_map,Go.Sym.tabC,cbX,wy,qU,nth,hwL,Nat.zero_add,Nat.sub_zero,Nat.add_zero];refine Fin.ok some [] ?_ ?_ ?_ ?_ ?_ rfl;all_goals (try simp only [vle,vkt,seval,vE,xV,qx,qg,qc,mTk,qd,qm,qp,qy,plL,bgL,qK,bL3,vV,yS,List.length_map,Go.Sym.tabC,cbX,wy,qU,nth,hwL,Nat.zero_add,Nat.sub_zero,Nat.add_zero]))
  all_goals first|rfl|(simp [qg,AV.leL,AV.le];done)|exact fun i hi=>(match i,hi with|0,_=>rfl|1,_=>rfl|2,_=>rfl|3,_=>rfl)
 ·have eh:qj ((7,AObj.mark) :: bgH a++zk [0,2,5,6] (7+1) 0 (plL c a))=qj [(7,.mark),(1,.cells [.ptr 0 0]),(3,.cells (qg a)),(4,.cells [.cb]),(0,qm c.cabins c.secs 2),(2,qp c.sold),(5,.cells [.ptr 0 0]),(6,.cells (qg a))]:=by
   rw [show zk [0,2,5,6] (7+1) 0 (plL c a)=zk [0,2,5,6] 8 0 (plL c a) from rfl,Xf];rfl
  rw [eh]
  repeat' (first|(apply nx;with_reducible constructor)|refine jq (by decide) ?_|((first|refine kz env fun Q hQ=>?_|refine kj fun Q hQ=>?_);simp only [vkt,seval,vE,xV,qx,qg,qc,mTk,qd,qm,qp,qy,plL,bgL,qK,bL3,vV,yS,List.length_map,Go.Sym.tabC,cbX,wy,qU,nth,hwL,Nat.zero_add,Nat.sub_zero,Nat.add_zero];(try simp only [ite_and]);(repeat' (first|with_reducible assumption|refine And.intro ?_ ?_|intro hp));all_goals (first|(refine hQ _ ?_;clear hQ Q)|(refine hQ _ (fun h=>?_) (fun h=>?_) <;> clear hQ Q <;> (try simp only [vki,reduceCtorEq] at h))|(refine kx ?_;kernel_rfl)|omega|assumption|with_reducible rfl|skip)))
  (simp only [vrt,Tryz.results56,vkt,seval,vE,xV,qx,qg,qc,mTk,qd,qm,qp,qy,plL,bgL,qK,bL3,vV,yS,List.length_map,Go.Sym.tabC,cbX,wy,qU,nth,hwL,Nat.zero_add,Nat.sub_zero,Nat.add_zero];refine Fin.ok some [] ?_ ?_ ?_ ?_ ?_ rfl;all_goals (try simp only [vle,vkt,seval,vE,xV,qx,qg,qc,mTk,qd,qm,qp,qy,plL,bgL,qK,bL3,vV,yS,List.length_map,Go.Sym.tabC,cbX,wy,qU,nth,hwL,Nat.zero_add,Nat.sub_zero,Nat.add_zero]))
  all_goals first|rfl|(simp [qg,AV.leL,AV.le];done)|exact fun i hi=>(match i,hi with|0,_=>rfl|1,_=>rfl|2,_=>rfl|3,_=>rfl)
theorem KF {cs:List Cabin} {a:Ask} {p:Tk→Prop}:∀ (m:Nat) (sold:List Tk) (begun:List Bunk),(∀ t ∈ sold,p t)→(∀ i b,i < begun.length+m→b ∈ qV cs→p (Qd a i b))→∀ x ∈ wU cs a m sold begun,(∀ t ∈ x.2,p t)∧x.2.length=sold.length+m
 |0,sold,begun,h1,_,x,hx=>by
  simp only [wU,List.mem_singleton] at hx
  subst hx
  exact ⟨h1,rfl⟩
 |m+1,sold,begun,h1,h2,x,hx=>by
  rw [Zf,List.mem_flatMap] at hx
  obtain ⟨b,hb,hx⟩:=hx
  unfold gbL at hx
  split at hx
  ·obtain ⟨g1,g2⟩:=KF m _ _ (fun t ht=>by
    rcases List.mem_append.1 ht with ht|ht
    ·exact h1 t ht
    ·rw [List.mem_singleton.1 ht];exact h2 _ _ (by omega) hb) (fun i b' hi hb'=>h2 i b' (by simp at hi;omega) hb') x hx
   exact ⟨g1,by rw [g2];simp;omega⟩
  ·simp at hx
theorem Qcd {c:Chart} {a:Ask} (h:zw c a=0) {i:Nat} (hi:i < a.sexes.length) {b:Bunk} (hb:b ∈ qV c.cabins):TkOk c (Qd a i b):=by
 have hk:=(yK h).2
 unfold vK at hk
 split at hk
 ·exact absurd hk (by decide)
 rename_i h1
 split at hk
 ·exact absurd hk (by decide)
 split at hk
 ·exact absurd hk ‹_›
 rename_i h3
 split at hk
 ·exact absurd hk ‹_›
 have g1:inB a.party 1 99=true:=by simpa using h1
 obtain ⟨w1,w2,w3⟩:=UC (Decidable.not_not.1 h3)
 have gs:=Zw hk _ (List.mem_map.2 ⟨a.sexes.getD i 0,yB hi,rfl⟩)
 have g2:inB (a.sexes.getD i 0) 1 2=true:=by
  cases hq:inB (a.sexes.getD i 0) 1 2 with
  |true=>rfl
  |false=>rw [hq] at gs;exact absurd gs (by decide)
 obtain ⟨x,y,b1,b2,rfl⟩:=X6.1 hb
 refine ⟨wL.1 g1,wL.1 g2,⟨Int.natCast_nonneg _,by simpa [Qd] using b1⟩,⟨Int.natCast_nonneg _, ?_⟩,w1,w2,w3⟩
 show (y:Int) < (c.cabins.getD ((x:Int)).toNat default).beds
 rw [Int.toNat_natCast]
 omega
theorem Qkb {c:Chart} {a:Ask} (h:zw c a=0) {j:Nat} (hj:j < (plP c a).length):Van ⟨c.cabins,c.secs,((plP c a).getD j default).2⟩:=by
 have hv:=QK (yK h).1
 have hs:=(Qc5 (yK h).2).1
 obtain ⟨g1,g2⟩:=KF (p:=TkOk c) a.sexes.length c.sold [] hv.tk (fun i b hi hb=>Qcd h (by simpa using hi) hb) _ (yB (d:=default) hj)
 have hm:=hv.many
 exact ⟨⟨hv.car.cabs,hv.car.beds,hv.car.secs⟩,by show ((plP c a).getD j default).2.length≤100;rw [show ((plP c a).getD j default).2.length=c.sold.length+a.sexes.length from g2];omega,fun t ht=>⟨(g1 t ht).party,(g1 t ht).sex,(g1 t ht).cab,(g1 t ht).bed,(g1 t ht).frm,(g1 t ht).way,(g1 t ht).to⟩⟩
def pBb (S:St):List AV→Option Pk
 |[.ptr q 0]=>match S.h q with
  |some (.cells [.ptr p 0])=>match S.h p with
   |some (.cells [.sl cs,.v (.int .i64 s),.row r])=>match S.h r with
    |some (.row _ _ xs)=>some { pre:=cs=(cs.map qw).map qh∧xs=(xs.map dTk).map eTk∧Van ⟨cs.map qw,s,xs.map dTk⟩,hs:=[p,q,r],ar:=[.ptr 1 0],L0:=bL3 (cs.map qw) s (xs.map dTk),v:=aI (WP (cs.map qw) s (xs.map dTk)),L1:=(bL3 (cs.map qw) s (xs.map dTk)).map some }
    |_=>none
   |_=>none
  |_=>none
 |_=>none
theorem eBb {A:Frm→Prop}:qE A Tryz.prog 57 (fnE pBb):=zY fun S bs q h hp=>by
 unfold pBb at h
 split at h
 ·split at h
  ·split at h
   ·split at h
    ·cases h;exact bb_fn _ _ _ hp.2.2
    ·cases h
   ·cases h
  ·cases h
 ·cases h
def bsK (c:Chart) (a:Ask):Nat→Bool × List Bunk × Int
 |0=>(false,[],0)
 |j+1=>if !(bsK c a j).1 || decide ((bsK c a j).2.2 < WP c.cabins c.secs ((plP c a).getD j default).2) then (true,((plP c a).getD j default).1,WP c.cabins c.secs ((plP c a).getD j default).2) else bsK c a j
def beL0:List (Nat × AV):=[(2,.ptr 4 0),(3,.ptr 5 0),(4,.ptr 6 0),(7,.clo 56 [.ptr 1 0,.ptr 3 0])]
def beL:List (Nat × AV):=[(2,.ptr 4 0),(3,.ptr 5 0),(4,.ptr 6 0)]
def beH (c:Chart) (a:Ask) (j:Nat):List (Nat × AObj):=[(4,.cells [.sl ((bsK c a j).2.1.map qo)]),(5,.cells [aB (bsK c a j).1]),(6,.cells [aI (bsK c a j).2.2])]
theorem Xm (c:Chart) (a:Ask):zk [0,1,2,3] 8 0 (yx c a)=[(0,qm c.cabins c.secs 2),(1,.cells [.ptr 0 0]),(2,qp c.sold),(3,.cells (qg a))]:=by
 simp [zk,yx,qB,AObj.ren,AV.renL,AV.ren,qm,qp,qg]
theorem Uk (c:Chart) (a:Ask) (j:Nat):zk [0,1] 8 0 (yS c a j)=[(0,qm c.cabins c.secs 8),(1,.cells [.ptr 0 0]),(8,qp ((plP c a).getD j default).2)]:=by
 simp [zk,yS,bL3,qB,AObj.ren,AV.renL,AV.ren,qm,qp]
def yn:=kk @ty3 (kk @ty4 (kk @WQ (kk @xJ (kk @ty108 (kk @Qje (kk @ti3.eq_1 (kk @ti4.eq_1 (kk @ZO.eq_1 (kk @vZ.eq_1 (kk @Qc2.eq_1 @La.eq_1))))))))))
def kP:=kk @aI.eq_1 (@aB.eq_1)
theorem Qie {c:Chart} {a:Ask} (h:zw c a=0):Fn noB Tryz.prog 55 [.clo 56 [.ptr 1 0,.ptr 3 0]] (qj (qQ 0 (yx c a))) (.tup [.sl ((bsK c a (plP c a).length).2.1.map qo),aB (bsK c a (plP c a).length).1]) (qj (wH 0 ((yx c a).map some))) 0:=by
 have hok:=Zx h
 have env:Env (fun F=>F.r=none) Tryz.prog tyB (tab []):=qL trivial
 refine Fn.of (A:=fun F=>F.r=none) (n0:=4) (D:=noD) (Fn0 Tryz.func55 rfl (fun vs w=>by kernel_rfl) (by kernel_rfl)) (by simp) (by simp [AV.ids,AV.idsL]) ?_ (fun _ _ _ h=>h) qF ?_
 ·intro i o hi
  have h:=qR hi
  simp [qQ,yx] at h
  rcases h with ⟨rfl,rfl⟩|⟨rfl,rfl⟩|⟨rfl,rfl⟩|⟨rfl,rfl⟩ <;> simp [AObj.ids,AV.ids,AV.idsL,qm,qp,qg]
 obtain ⟨N,hN⟩:∃ N,(plP c a).length=N:=⟨_,rfl⟩
 rw [hN]
 show Sym _ _ _ (zV [.clo 56 [.ptr 1 0,.ptr 3 0]] 4 (qj [(0,qm c.cabins c.secs 2),(1,.cells [.ptr 0 0]),(2,qp c.sold),(3,.cells (qg a))])) (xM tyB noD Tryz.f55 fun S rv=>Fin S rv _ 4 (qj [(0,qm c.cabins c.secs 2),(1,.cells [.ptr 0 0]),(2,qp c.sold),(3,.cells (qg a))]) 0)
 repeat' (first|(apply nx;with_reducible constructor)|refine jq (by decide) ?_|((first|refine kz env fun Q hQ=>?_|refine kj fun Q hQ=>?_);simp only [vkt,seval,yn,kP,qc,mTk,qd,qm,qp,bL3,pBb,beL,List.length_map,nth,hwL,Nat.zero_add,Nat.sub_zero];(try simp only [ite_and]);(repeat' (first|with_reducible assumption|refine And.intro ?_ ?_|intro hp));all_goals (first|(refine hQ _ ?_;clear hQ Q)|(refine hQ _ (fun h=>?_) (fun h=>?_) <;> clear hQ Q <;> (try simp only [vki,reduceCtorEq] at h))|(refine kx ?_;kernel_rfl)|omega|assumption|with_reducible rfl|skip)))
 refine kY (S':={ t:=asg beL0,h:=qj (beH c a 0++[(0,qm c.cabins c.secs 2),(1,.cells [.ptr 0 0]),(2,qp c.sold),(3,.cells (qg a))]),n:=7,j:=0,d:=[],m:=4 }) ?_ ?_
 ·show Le _ { t:=asg [(2,.ptr 4 0),(3,.ptr 5 0),(4,.ptr 6 0),(7,.clo 56 [.ptr 1 0,.ptr 3 0])],h:=qj [(4,.cells [.sl []]),(5,.cells [aB false]),(6,.cells [aI 0]),(0,qm c.cabins c.secs 2),(1,.cells [.ptr 0 0]),(2,qp c.sold),(3,.cells (qg a))],n:=7,j:=0,d:=[],m:=4 }
  (refine Le.ok some [] ?_;constructor;all_goals (try simp only [vle,vkt,seval,yn,kP,qc,mTk,qd,qm,qp,bL3,pBb,beL,List.length_map,nth,hwL,Nat.zero_add,Nat.sub_zero]))
  all_goals first|rfl|(simp [qg,AV.leL,AV.le,AV.idsL,AV.ids];done)
 rw [← Xm c a]
 refine xY (fun F h=>h) 2 (L:=beL0) (L':=beL) (xs:=[2,3]) (hs:=[0,1,2,3]) (n:=7) (nl:=1) (hc:=beH c a) (Lp:=yx c a) (jj:=fun _=>0) (d:=[]) (ys:=vV c a) (hl:=yS c a) (ans:=fun _=>true) (ex:=.ret) (caps:=[.ptr 1 0,.ptr 3 0]) (caps0:=[.ptr 1 0,.ptr 3 0]) (N:=(plP c a).length) (R:=N) (A':=fun _ _=>True) rfl (Qg0 hok) (by rw [hN];exact R7) (.inl rfl) ?_ ?_ ?_ rfl (by simp) ?_ (by simp) (fun _ _ _ _ _ _=>trivial) ?_ ?_ ?_ ?_ ?_ ?_ (fun j hj=>?_) ?_ (fun j hj=>?_) (fun _=>?_) (fun _ h=>by cases h)
 ·simp [AV.leL,AV.le]
 ·simp [AV.nocbL,AV.nocb]
 ·simp [J4,yx,qm,qp,qg,AObj.nocb,AV.nocbL,AV.nocb,AObj.ids,AV.ids,AV.idsL,AObj.ren,AV.renL,AV.ren,AObj.le,AV.leL,AV.le,qB]
 ·simp [beH,qj]
 ·simp [beH,qj]
 ·simp [beH,AObj.ids,AV.ids,AV.idsL,aB,aI]
 ·simp [LP,beL,beL0,asg,upd]
 ·simp [Qbd]
 ·intro j hj
  simp [absent,beH,Uk]
 ·simp [Vt,beL,AV.ids]
 ·refine ⟨?_,rfl, ?_, ?_,rfl, ?_⟩
  ·simp [Zp,beH,AObj.ids,AV.ids,AV.idsL,aB,aI]
  ·simp [Js,yS,bL3,qm,qp,AObj.nocb,AV.nocbL,AV.nocb,AObj.ids,AV.ids,AV.idsL]
  ·simp [Xe,vV,qc,AV.nocb,AV.nocbL,AV.ids,AV.idsL]
  ·simp [Zk,J3,Uk,beH,beL,Qf,AV.ids,ADf.ids,List.range_succ]
 ·simp [Zp,beH,AObj.ids,AV.ids,AV.idsL,aB,aI]
 ·have env:Env (fun _:Frm=>True) Tryz.prog tyB (tab [(57,fnE pBb)]):=qL ⟨eBb,trivial⟩
  have hvan:=Qkb h (j:=j) (by omega)
  have hS:bsK c a (j+1)=if !(bsK c a j).1 || decide ((bsK c a j).2.2 < WP c.cabins c.secs ((plP c a).getD j default).2) then (true,((plP c a).getD j default).1,WP c.cabins c.secs ((plP c a).getD j default).2) else bsK c a j:=rfl
  obtain ⟨⟨x,r⟩,hx⟩:∃ x,(plP c a).getD j default=x:=⟨_,rfl⟩
  obtain ⟨⟨f,p,v⟩,hK⟩:∃ x,bsK c a j=x:=⟨_,rfl⟩
  simp only [hx,hK] at hS hvan
  obtain ⟨w,hw⟩:∃ w,WP c.cabins c.secs r=w:=⟨_,rfl⟩
  rw [hw] at hS
  have hst:ym beL [8] [0,1] 7 1 (vV c a j) (beH c a j) (yS c a j)={ t:=asg [(8,.agg [qc x,.clo 57 [.ptr 1 0]]),(2,.ptr 4 0),(3,.ptr 5 0),(4,.ptr 6 0)],h:=qj [(7,.mark),(4,.cells [.sl (p.map qo)]),(5,.cells [aB f]),(6,.cells [aI v]),(0,qm c.cabins c.secs 8),(1,.cells [.ptr 0 0]),(8,qp r)],n:=9,m:=9 }:=by
   simp only [ym,Nat.reduceAdd,Uk,vV,hx,hK,qc,List.map_cons,List.map_nil,AV.ren,AV.renL,List.zip_cons_cons,List.zip_nil_right,beH,beL,We,List.cons_append,List.nil_append]
   rfl
  show Sym _ _ _ (ym beL [8] [0,1] 7 1 (vV c a j) (beH c a j) (yS c a j)) _
  rw [hst]
  cases f with
  |false =>
   simp only [Bool.not_false,Bool.true_or,if_true] at hS
   repeat' (first|(apply nx;with_reducible constructor)|refine jq (by decide) ?_|((first|refine kz env fun Q hQ=>?_|refine kj fun Q hQ=>?_);simp only [vkt,seval,yn,kP,qc,mTk,qd,qm,qp,bL3,pBb,beL,List.length_map,nth,hwL,Nat.zero_add,Nat.sub_zero,hvan,hw];(try simp only [ite_and]);(repeat' (first|with_reducible assumption|refine And.intro ?_ ?_|intro hp));all_goals (first|(refine hQ _ ?_;clear hQ Q)|(refine hQ _ (fun h=>?_) (fun h=>?_) <;> clear hQ Q <;> (try simp only [vki,reduceCtorEq] at h))|(refine kx ?_;kernel_rfl)|omega|assumption|with_reducible rfl|skip)))
   all_goals (refine ⟨rfl,rfl,some,_,RFin.okQ some [] ?_⟩;constructor)
   all_goals (try simp only [vle,kV,kC,qB,yS,beH,hx,hS,vkt,seval,yn,kP,qc,mTk,qd,qm,qp,bL3,pBb,beL,List.length_map,nth,hwL,Nat.zero_add,Nat.sub_zero])
   all_goals first|rfl|(simp;done)|(simp [beL,Qf,AV.ids,ADf.ids,List.range_succ];done)
  |true =>
   cases hd:decide (v < w) with
   |true =>
    simp only [hd,Bool.not_true,Bool.false_or,if_true] at hS
    repeat' (first|(apply nx;with_reducible constructor)|refine jq (by decide) ?_|((first|refine kz env fun Q hQ=>?_|refine kj fun Q hQ=>?_);simp only [vkt,seval,yn,kP,qc,mTk,qd,qm,qp,bL3,pBb,beL,List.length_map,nth,hwL,Nat.zero_add,Nat.sub_zero,hvan,hw,hd];(try simp only [ite_and]);(repeat' (first|with_reducible assumption|refine And.intro ?_ ?_|intro hp));all_goals (first|(refine hQ _ ?_;clear hQ Q)|(refine hQ _ (fun h=>?_) (fun h=>?_) <;> clear hQ Q <;> (try simp only [vki,reduceCtorEq] at h))|(refine kx ?_;kernel_rfl)|omega|assumption|with_reducible rfl|skip)))
    all_goals (refine ⟨rfl,rfl,some,_,RFin.okQ some [] ?_⟩;constructor)
    all_goals (try simp only [vle,kV,kC,qB,yS,beH,hx,hS,vkt,seval,yn,kP,qc,mTk,qd,qm,qp,bL3,pBb,beL,List.length_map,nth,hwL,Nat.zero_add,Nat.sub_zero])
    all_goals first|rfl|(simp;done)|(simp [beL,Qf,AV.ids,ADf.ids,List.range_succ];done)
   |false =>
    simp only [hd,Bool.not_true,Bool.false_or,Bool.false_eq_true,if_false] at hS
    repeat' (first|(apply nx;with_reducible constructor)|refine jq (by decide) ?_|((first|refine kz env fun Q hQ=>?_|refine kj fun Q hQ=>?_);simp only [vkt,seval,yn,kP,qc,mTk,qd,qm,qp,bL3,pBb,beL,List.length_map,nth,hwL,Nat.zero_add,Nat.sub_zero,hvan,hw,hd];(try simp only [ite_and]);(repeat' (first|with_reducible assumption|refine And.intro ?_ ?_|intro hp));all_goals (first|(refine hQ _ ?_;clear hQ Q)|(refine hQ _ (fun h=>?_) (fun h=>?_) <;> clear hQ Q <;> (try simp only [vki,reduceCtorEq] at h))|(refine kx ?_;kernel_rfl)|omega|assumption|with_reducible rfl|skip)))
    all_goals (refine ⟨rfl,rfl,some,_,RFin.okQ some [] ?_⟩;constructor)
    all_goals (try simp only [vle,kV,kC,qB,yS,beH,hx,hS,vkt,seval,yn,kP,qc,mTk,qd,qm,qp,bL3,pBb,beL,List.length_map,nth,hwL,Nat.zero_add,Nat.sub_zero])
    all_goals first|rfl|(simp;done)|(simp [beL,Qf,AV.ids,ADf.ids,List.range_succ];done)
 ·have eh:qj ((7,AObj.mark) :: beH c a N++zk [0,1,2,3] (7+1) 0 (yx c a))=qj [(7,.mark),(4,.cells [.sl ((bsK c a N).2.1.map qo)]),(5,.cells [aB (bsK c a N).1]),(6,.cells [aI (bsK c a N).2.2]),(0,qm c.cabins c.secs 2),(1,.cells [.ptr 0 0]),(2,qp c.sold),(3,.cells (qg a))]:=by
   rw [show zk [0,1,2,3] (7+1) 0 (yx c a)=zk [0,1,2,3] 8 0 (yx c a) from rfl,Xm];rfl
  rw [eh,Xm c a]
  repeat' (first|(apply nx;with_reducible constructor)|refine jq (by decide) ?_|((first|refine kz env fun Q hQ=>?_|refine kj fun Q hQ=>?_);simp only [vkt,seval,yn,kP,qc,mTk,qd,qm,qp,bL3,pBb,beL,List.length_map,nth,hwL,Nat.zero_add,Nat.sub_zero];(try simp only [ite_and]);(repeat' (first|with_reducible assumption|refine And.intro ?_ ?_|intro hp));all_goals (first|(refine hQ _ ?_;clear hQ Q)|(refine hQ _ (fun h=>?_) (fun h=>?_) <;> clear hQ Q <;> (try simp only [vki,reduceCtorEq] at h))|(refine kx ?_;kernel_rfl)|omega|assumption|with_reducible rfl|skip)))
  (simp only [vrt,Tryz.results55,vkt,seval,yn,kP,qc,mTk,qd,qm,qp,bL3,pBb,beL,List.length_map,nth,hwL,Nat.zero_add,Nat.sub_zero];refine Fin.ok some [] ?_ ?_ ?_ ?_ ?_ rfl;all_goals (try simp only [vle,vkt,seval,yn,kP,qc,mTk,qd,qm,qp,bL3,pBb,beL,List.length_map,nth,hwL,Nat.zero_add,Nat.sub_zero]))
  all_goals first|rfl|(simp [qg,AV.leL,AV.le];done)|exact fun i hi=>(match i,hi with|0,_=>rfl|1,_=>rfl|2,_=>rfl|3,_=>rfl)
def YC (c:Chart) (a:Ask) (S:St):List AV→Option Pk
 |[.clo f [.ptr q 0,.ptr p3 0]]=>match S.h q with
  |some (.cells [.ptr p 0])=>match S.h p with
   |some (.cells [_,_,.row r])=>some { pre:=f=56∧zw c a=0,hs:=[p,q,r,p3],ar:=[.clo 56 [.ptr 1 0,.ptr 3 0]],L0:=yx c a,v:=.tup [.sl ((bsK c a (plP c a).length).2.1.map qo),aB (bsK c a (plP c a).length).1],L1:=(yx c a).map some }
   |_=>none
  |_=>none
 |_=>none
theorem eBest {A:Frm→Prop} {c:Chart} {a:Ask}:qE A Tryz.prog 55 (fnE (YC c a)):=zY fun S bs q h hp=>by
 unfold YC at h
 split at h
 ·split at h
  ·split at h
   ·cases h;exact Qie hp.2
   ·cases h
  ·cases h
 ·cases h
def JA (c:Chart) (a:Ask):List Bunk × Int:=if zw c a=0 then (if (bsK c a (plP c a).length).1 then ((bsK c a (plP c a).length).2.1,0) else ([],11)) else ([],zw c a)
def Qk:=kk @yc (kk @QM (kk @Zc (kk @YW (kk @jM.eq_1 (kk @Qb.eq_1 (kk @QA.eq_1 @JZ.eq_1))))))
def JS:=kk @aI.eq_1 (kk @aB.eq_1 (@QT))
theorem QiX (c:Chart) (a:Ask) (hc:c.cabins.length≤maxLen) (ha:a.sexes.length≤maxLen):FnV Tryz.prog 18 [qa c,qx a] (.tup [.sl ((JA c a).1.map qo),aI (JA c a).2]):=by
 have env:Env (fun _=>True) Tryz.prog tyB (tab [(50,fnE za),(55,fnE (YC c a))]):=qL ⟨XB,eBest,trivial⟩
 refine Fn.of (A:=fun _=>True) (n0:=0) (D:=noD) (Fn0 Tryz.func18 rfl (fun vs w=>by kernel_rfl) (by kernel_rfl)) (by simp) (by simp [AV.ids,AV.idsL,qa,qb,qx,qg]) (fun i o h=>by cases h) (fun _ _ _ _=>trivial) qF ?_
 have ec:(⟨c.cabins,c.secs,c.sold⟩:Chart)=c:=rfl
 have ea:(⟨a.party,a.frm,a.to,a.sexes,a.dog⟩:Ask)=a:=rfl
 by_cases h0:zw c a=0
 ·obtain ⟨⟨f,p,v⟩,hK⟩:∃ x,bsK c a (plP c a).length=x:=⟨_,rfl⟩
  cases f with
  |true =>
   rw [show JA c a=(p,0) by unfold JA;rw [if_pos h0,hK];rfl]
   repeat' (first|(apply nx;with_reducible constructor)|refine jq (by decide) ?_|((first|refine kz env fun Q hQ=>?_|refine kj fun Q hQ=>?_);simp only [vkt,seval,Qk,JS,qa,qb,qx,qg,mTk,qd,qm,qp,qy,yx,za,YC,List.length_map,ec,ea,h0,hK];(try simp only [ite_and]);(repeat' (first|with_reducible assumption|refine And.intro ?_ ?_|intro hp));all_goals (first|(refine hQ _ ?_;clear hQ Q)|(refine hQ _ (fun h=>?_) (fun h=>?_) <;> clear hQ Q <;> (try simp only [vki,reduceCtorEq] at h))|(refine kx ?_;kernel_rfl)|omega|assumption|with_reducible rfl|skip)))
   (simp only [vrt,Tryz.results18,vkt,seval,Qk,JS,qa,qb,qx,qg,mTk,qd,qm,qp,qy,yx,za,YC,List.length_map];refine Fin.val rfl ?_;(try simp only [AV.le,AV.leL]))
   all_goals first|rfl|(simp;done)
  |false =>
   rw [show JA c a=([],11) by unfold JA;rw [if_pos h0,hK];rfl]
   repeat' (first|(apply nx;with_reducible constructor)|refine jq (by decide) ?_|((first|refine kz env fun Q hQ=>?_|refine kj fun Q hQ=>?_);simp only [vkt,seval,Qk,JS,qa,qb,qx,qg,mTk,qd,qm,qp,qy,yx,za,YC,List.length_map,ec,ea,h0,hK];(try simp only [ite_and]);(repeat' (first|with_reducible assumption|refine And.intro ?_ ?_|intro hp));all_goals (first|(refine hQ _ ?_;clear hQ Q)|(refine hQ _ (fun h=>?_) (fun h=>?_) <;> clear hQ Q <;> (try simp only [vki,reduceCtorEq] at h))|(refine kx ?_;kernel_rfl)|omega|assumption|with_reducible rfl|skip)))
   (simp only [vrt,Tryz.results18,vkt,seval,Qk,JS,qa,qb,qx,qg,mTk,qd,qm,qp,qy,yx,za,YC,List.length_map];refine Fin.val rfl ?_;(try simp only [AV.le,AV.leL]))
   all_goals first|rfl|(simp;done)
 ·rw [show JA c a=([],zw c a) by unfold JA;rw [if_neg h0]]
  repeat' (first|(apply nx;with_reducible constructor)|refine jq (by decide) ?_|((first|refine kz env fun Q hQ=>?_|refine kj fun Q hQ=>?_);simp only [vkt,seval,Qk,JS,qa,qb,qx,qg,mTk,qd,qm,qp,qy,yx,za,YC,List.length_map,ec,ea,h0];(try simp only [ite_and]);(repeat' (first|with_reducible assumption|refine And.intro ?_ ?_|intro hp));all_goals (first|(refine hQ _ ?_;clear hQ Q)|(refine hQ _ (fun h=>?_) (fun h=>?_) <;> clear hQ Q <;> (try simp only [vki,reduceCtorEq] at h))|(refine kx ?_;kernel_rfl)|omega|assumption|with_reducible rfl|skip)))
  (simp only [vrt,Tryz.results18,vkt,seval,Qk,JS,qa,qb,qx,qg,mTk,qd,qm,qp,qy,yx,za,YC,List.length_map];refine Fin.val rfl ?_;(try simp only [AV.le,AV.leL]))
  all_goals first|rfl|(simp;done)
def XJ:=kk @xJ @vZ.eq_1
def Qdc:=kk @aI.eq_1 (@aB.eq_1)
theorem Qio (a b:Int):FnV Tryz.prog 46 [aI a,aI b] (qf ⟨a,b⟩):=by
 have env:Env (fun _=>True) Tryz.prog tyB (tab []):=qL trivial
 refine Fn.of (A:=fun _=>True) (n0:=0) (D:=noD) (Fn0 Tryz.func46 rfl (fun vs w=>by kernel_rfl) (by kernel_rfl)) (by simp) (by simp [AV.ids,aI]) (fun i o h=>by cases h) (fun _ _ _ _=>trivial) qF ?_
 repeat' (first|(apply nx;with_reducible constructor)|refine jq (by decide) ?_|((first|refine kz env fun Q hQ=>?_|refine kj fun Q hQ=>?_);simp only [vkt,seval,XJ,Qdc,qf];(try simp only [ite_and]);(repeat' (first|with_reducible assumption|refine And.intro ?_ ?_|intro hp));all_goals (first|(refine hQ _ ?_;clear hQ Q)|(refine hQ _ (fun h=>?_) (fun h=>?_) <;> clear hQ Q <;> (try simp only [vki,reduceCtorEq] at h))|(refine kx ?_;kernel_rfl)|omega|assumption|with_reducible rfl|skip)))
 (simp only [vrt,Tryz.results46,vkt,seval,XJ,Qdc,qf];refine Fin.val rfl ?_;(try simp only [AV.le,AV.leL]))
 all_goals first|rfl|(simp;done)
def Zn:List AV→Prop × AV
 |[.v (.int .i64 a),.v (.int .i64 b)]=>(True,qf ⟨a,b⟩)
 |_=>(False,.junk)
theorem QjG {A:Frm→Prop}:qE A Tryz.prog 46 (qX false Zn):=qW fun vs hv h=>by
 clear hv
 unfold Zn at h ⊢
 split at h
 ·rename_i a b;clear h
  refine ⟨by first|trivial|(simp [AV.plain,AV.plainL,aI,aB,qz,qc,ql,qf,aTk,cTk];done)|(repeat' split) <;> simp [AV.plain,AV.plainL,aI,aB,qz,qc,ql,qf,aTk,cTk],fun h=>absurd h (by decide), ?_⟩
  have:=Qio a b
  simp only [aI] at this
  first|exact this|(simp only [aI];exact this)
 ·exact h.elim
def XD:=kk @yU @yA.eq_1
def QdB:=kk @aI.eq_1 (@aB.eq_1)
theorem Qi3 (p x c b f t:Int):FnV Tryz.prog 101 [aI p,aI x,aI c,aI b,aI f,aI t] (aTk ⟨p,x,c,b,f,t,false⟩):=by
 have env:Env (fun _=>True) Tryz.prog tyB (tab [(46,qX false Zn)]):=qL ⟨QjG,trivial⟩
 refine Fn.of (A:=fun _=>True) (n0:=0) (D:=noD) (Fn0 Tryz.func101 rfl (fun vs w=>by kernel_rfl) (by kernel_rfl)) (by simp) (by simp [AV.ids,aI]) (fun i o h=>by cases h) (fun _ _ _ _=>trivial) qF ?_
 repeat' (first|(apply nx;with_reducible constructor)|refine jq (by decide) ?_|((first|refine kz env fun Q hQ=>?_|refine kj fun Q hQ=>?_);simp only [vkt,seval,XD,QdB,qf,aTk,cTk,Zn];(try simp only [ite_and]);(repeat' (first|with_reducible assumption|refine And.intro ?_ ?_|intro hp));all_goals (first|(refine hQ _ ?_;clear hQ Q)|(refine hQ _ (fun h=>?_) (fun h=>?_) <;> clear hQ Q <;> (try simp only [vki,reduceCtorEq] at h))|(refine kx ?_;kernel_rfl)|omega|assumption|with_reducible rfl|skip)))
 (simp only [vrt,Tryz.results101,vkt,seval,XD,QdB,qf,aTk,cTk,Zn];refine Fin.val rfl ?_;(try simp only [AV.le,AV.leL]))
 all_goals first|rfl|(simp;done)
def Yr:List AV→Prop × AV
 |[.v (.int .i64 p),.v (.int .i64 x),.v (.int .i64 c),.v (.int .i64 b),.v (.int .i64 f),.v (.int .i64 t)]=>(True,aTk ⟨p,x,c,b,f,t,false⟩)
 |_=>(False,.junk)
theorem Qjk {A:Frm→Prop}:qE A Tryz.prog 101 (qX false Yr):=qW fun vs hv h=>by
 clear hv
 unfold Yr at h ⊢
 split at h
 ·rename_i p x c b f t;clear h
  refine ⟨by first|trivial|(simp [AV.plain,AV.plainL,aI,aB,qz,qc,ql,qf,aTk,cTk];done)|(repeat' split) <;> simp [AV.plain,AV.plainL,aI,aB,qz,qc,ql,qf,aTk,cTk],fun h=>absurd h (by decide), ?_⟩
  have:=Qi3 p x c b f t
  simp only [aI] at this
  first|exact this|(simp only [aI];exact this)
 ·exact h.elim
theorem Z9 {α:Type} [Inhabited α] {l m:List α} (h0:l.length=m.length) (h:∀ j,j < l.length→l.getD j default=m.getD j default):l=m:=by
 apply List.ext_getElem h0
 intro j h1 h2
 have:=h j h1
 simpa [List.getD_eq_getElem?_getD,h1,h2] using this
def eqS (l m:List Bunk) (k:Nat):St:={ t:=asg [(0,qc l),(1,qc m),(4,aB false),(5,aI k)],h:=qj [],n:=0 }
def jS:=kk @ty3 (kk @WQ (kk @xJ (kk @ti3.eq_1 (kk @ZO.eq_1 @vZ.eq_1))))
def vY:=kk @aI.eq_1 (@aB.eq_1)
theorem Qkh (l m:List Bunk) (hl:l.length≤1000) (hm:m.length≤1000):FnV Tryz.prog 20 [qc l,qc m] (aB (decide (l=m))):=by
 have env:Env (fun _=>True) Tryz.prog tyB (tab []):=qL trivial
 refine Fn.of (A:=fun _=>True) (n0:=0) (D:=noD) (Fn0 Tryz.func20 rfl (fun vs w=>by kernel_rfl) (by kernel_rfl)) (by simp) (by simp [AV.ids,qc]) (fun i o h=>by cases h) (fun _ _ _ _=>trivial) qF ?_
 by_cases h0:l.length=m.length
 ·have d0:decide ((l.length:Int)=(m.length:Int))=true:=decide_eq_true (by omega)
  repeat' (first|(apply nx;with_reducible constructor)|refine jq (by decide) ?_|((first|refine kz env fun Q hQ=>?_|refine kj fun Q hQ=>?_);simp only [vkt,seval,jS,vY,qc,qo,qD,eqS,Bool.true_and,Bool.false_and,d0];(try simp only [ite_and]);(repeat' (first|with_reducible assumption|refine And.intro ?_ ?_|intro hp));all_goals (first|(refine hQ _ ?_;clear hQ Q)|(refine hQ _ (fun h=>?_) (fun h=>?_) <;> clear hQ Q <;> (try simp only [vki,reduceCtorEq] at h))|(refine kx ?_;kernel_rfl)|omega|assumption|with_reducible rfl|skip)))
  refine qN (fun k:{ k:Nat // k≤l.length∧∀ j,j < k→l.getD j default=m.getD j default }=>eqS l m k.1) (fun k=>l.length - k.1) ⟨0,Nat.zero_le _,fun j h=>absurd h (Nat.not_lt_zero _)⟩ ?_ fun ⟨k,hk,hno⟩=>?_
  ·(refine Le.ok some [] ?_;constructor;all_goals (try simp only [vle,vkt,seval,jS,vY,qc,qo,qD,eqS,Bool.true_and,Bool.false_and]))
   all_goals first|rfl|(simp;done)
  ·repeat' (first|(apply nx;with_reducible constructor)|refine jq (by decide) ?_)
   (refine kz env fun Q hQ=>?_;simp only [vkt,seval,jS,vY,qc,qo,qD,eqS,Bool.true_and,Bool.false_and];(try simp only [ite_and]);(repeat' (first|with_reducible assumption|refine And.intro ?_ ?_|intro hp));all_goals (first|(refine hQ _ ?_;clear hQ Q)|(refine kx ?_;kernel_rfl)|omega|assumption|with_reducible rfl|skip))
   repeat' (first|(apply nx;with_reducible constructor)|refine jq (by decide) ?_)
   (refine yY (by simp only [vkt,seval,jS,vY,qc,qo,qD,eqS,Bool.true_and,Bool.false_and];rfl) (fun h=>?_) (fun h=>?_) <;> (try simp only [vki,reduceCtorEq] at h))
   ·have hlt:k < l.length:=by omega
    have hlm:k < m.length:=by omega
    have e9:IntKind.wrap .i64 ((k:Int)+1)=((k+1:Nat):Int):=by rw [wrap64 (by omega) (by omega)];rfl
    obtain ⟨x,hx⟩:∃ x,l.getD k default=x:=⟨_,rfl⟩
    obtain ⟨y,hy⟩:∃ x,m.getD k default=x:=⟨_,rfl⟩
    have hxy:(x=y)=(x.cab=y.cab∧x.bed=y.bed):=by cases x;cases y;simp
    have hne:¬ x=y→decide (l=m)=false:=fun h=>decide_eq_false fun e=>h (by rw [← hx,← hy,e])
    cases q1:decide (x.cab=y.cab)
    ·rw [hne (by rw [hxy];exact fun h=>of_decide_eq_false q1 h.1)]
     repeat' (first|(apply nx;with_reducible constructor)|refine jq (by decide) ?_|((first|refine kz env fun Q hQ=>?_|refine kj fun Q hQ=>?_);simp only [vkt,seval,jS,vY,qc,qo,qD,eqS,Bool.true_and,Bool.false_and,hx,hy,q1,hlm,e9];(try simp only [ite_and]);(repeat' (first|with_reducible assumption|refine And.intro ?_ ?_|intro hp));all_goals (first|(refine hQ _ ?_;clear hQ Q)|(refine hQ _ (fun h=>?_) (fun h=>?_) <;> clear hQ Q <;> (try simp only [vki,reduceCtorEq] at h))|(refine kx ?_;kernel_rfl)|omega|assumption|with_reducible rfl|skip)))
     (simp only [vrt,Tryz.results20,vkt,seval,jS,vY,qc,qo,qD,eqS,Bool.true_and,Bool.false_and];refine Fin.val rfl ?_;(try simp only [AV.le,AV.leL]))
     all_goals first|rfl|(simp;done)
    ·cases q2:decide (x.bed=y.bed)
     ·rw [hne (by rw [hxy];exact fun h=>of_decide_eq_false q2 h.2)]
      repeat' (first|(apply nx;with_reducible constructor)|refine jq (by decide) ?_|((first|refine kz env fun Q hQ=>?_|refine kj fun Q hQ=>?_);simp only [vkt,seval,jS,vY,qc,qo,qD,eqS,Bool.true_and,Bool.false_and,hx,hy,q1,q2,hlm,e9];(try simp only [ite_and]);(repeat' (first|with_reducible assumption|refine And.intro ?_ ?_|intro hp));all_goals (first|(refine hQ _ ?_;clear hQ Q)|(refine hQ _ (fun h=>?_) (fun h=>?_) <;> clear hQ Q <;> (try simp only [vki,reduceCtorEq] at h))|(refine kx ?_;kernel_rfl)|omega|assumption|with_reducible rfl|skip)))
      (simp only [vrt,Tryz.results20,vkt,seval,jS,vY,qc,qo,qD,eqS,Bool.true_and,Bool.false_and];refine Fin.val rfl ?_;(try simp only [AV.le,AV.leL]))
      all_goals first|rfl|(simp;done)
     ·have he:x=y:=by rw [hxy];exact ⟨of_decide_eq_true q1,of_decide_eq_true q2⟩
      repeat' (first|(apply nx;with_reducible constructor)|refine jq (by decide) ?_|((first|refine kz env fun Q hQ=>?_|refine kj fun Q hQ=>?_);simp only [vkt,seval,jS,vY,qc,qo,qD,eqS,Bool.true_and,Bool.false_and,hx,hy,q1,q2,hlm,e9];(try simp only [ite_and]);(repeat' (first|with_reducible assumption|refine And.intro ?_ ?_|intro hp));all_goals (first|(refine hQ _ ?_;clear hQ Q)|(refine hQ _ (fun h=>?_) (fun h=>?_) <;> clear hQ Q <;> (try simp only [vki,reduceCtorEq] at h))|(refine kx ?_;kernel_rfl)|omega|assumption|with_reducible rfl|skip)))
      refine ⟨⟨k+1,hlt,fun j hj=>?_⟩,by show l.length - (k+1) < l.length - k;omega, ?_⟩
      ·rcases Nat.lt_or_eq_of_le (Nat.le_of_lt_succ hj) with h1|h1
       ·exact hno j h1
       ·rw [h1,hx,hy];exact he
      ·(refine Le.ok some [] ?_;constructor;all_goals (try simp only [vle,vkt,seval,jS,vY,qc,qo,qD,eqS,Bool.true_and,Bool.false_and]))
       all_goals first|rfl|(simp;done)
   ·have hke:k=l.length:=by omega
    subst hke
    rw [decide_eq_true (Z9 h0 hno)]
    repeat' (first|(apply nx;with_reducible constructor)|refine jq (by decide) ?_|((first|refine kz env fun Q hQ=>?_|refine kj fun Q hQ=>?_);simp only [vkt,seval,jS,vY,qc,qo,qD,eqS,Bool.true_and,Bool.false_and];(try simp only [ite_and]);(repeat' (first|with_reducible assumption|refine And.intro ?_ ?_|intro hp));all_goals (first|(refine hQ _ ?_;clear hQ Q)|(refine hQ _ (fun h=>?_) (fun h=>?_) <;> clear hQ Q <;> (try simp only [vki,reduceCtorEq] at h))|(refine kx ?_;kernel_rfl)|omega|assumption|with_reducible rfl|skip)))
    (simp only [vrt,Tryz.results20,vkt,seval,jS,vY,qc,qo,qD,eqS,Bool.true_and,Bool.false_and];refine Fin.val rfl ?_;(try simp only [AV.le,AV.leL]))
    all_goals first|rfl|(simp;done)
 ·have d0:decide ((l.length:Int)=(m.length:Int))=false:=decide_eq_false (by omega)
  rw [decide_eq_false (fun e=>h0 (by rw [e]))]
  repeat' (first|(apply nx;with_reducible constructor)|refine jq (by decide) ?_|((first|refine kz env fun Q hQ=>?_|refine kj fun Q hQ=>?_);simp only [vkt,seval,jS,vY,qc,qo,qD,eqS,Bool.true_and,Bool.false_and,d0];(try simp only [ite_and]);(repeat' (first|with_reducible assumption|refine And.intro ?_ ?_|intro hp));all_goals (first|(refine hQ _ ?_;clear hQ Q)|(refine hQ _ (fun h=>?_) (fun h=>?_) <;> clear hQ Q <;> (try simp only [vki,reduceCtorEq] at h))|(refine kx ?_;kernel_rfl)|omega|assumption|with_reducible rfl|skip)))
  (simp only [vrt,Tryz.results20,vkt,seval,jS,vY,qc,qo,qD,eqS,Bool.true_and,Bool.false_and];refine Fin.val rfl ?_;(try simp only [AV.le,AV.leL]))
  all_goals first|rfl|(simp;done)
def seqB:List AV→Prop × AV
 |[.sl l,.sl m]=>(l=(l.map zz).map qo∧m=(m.map zz).map qo∧(l.map zz).length≤1000∧(m.map zz).length≤1000,aB (decide ((l.map zz)=(m.map zz))))
 |_=>(False,.junk)
theorem eeqB {A:Frm→Prop}:qE A Tryz.prog 20 (qX true seqB):=qW fun vs hv h=>by
 clear hv
 unfold seqB at h ⊢
 split at h
 ·rename_i l m;obtain ⟨q0,q1,k0,k1⟩:=h
  refine ⟨by first|trivial|(simp [AV.plain,AV.plainL,aI,aB,qz,qc,ql,qf,aTk,cTk];done)|(repeat' split) <;> simp [AV.plain,AV.plainL,aI,aB,qz,qc,ql,qf,aTk,cTk],fun _=>(by simp [AV.flat,AV.flatL,aI,aB]), ?_⟩
  have:=Qkh (l.map zz) (m.map zz) k0 k1
  simp only [qc,← q0,← q1] at this
  first|exact this|(simp only [qc,← q0,← q1];exact this)
 ·exact h.elim
def yN (more:List Tk):Chart:=⟨[⟨2,true⟩,⟨2,false⟩,⟨1,false⟩],4,⟨1,1,0,0,0,2,false⟩ :: ⟨2,2,1,0,1,4,false⟩ :: more⟩
def JC:=kk @W9 (kk @x9 (kk @yc (kk @yU (kk @Jz (kk @ZT.eq_1 (kk @xD.eq_1 (kk @jM.eq_1 (kk @yA.eq_1 @Z4.eq_1))))))))
def UM:=kk @aI.eq_1 (@aB.eq_1)
theorem QhF (more:List Tk) (hm:more.length≤100):FnV Tryz.prog 43 [ql more] (qa (yN more)):=by
 have env:Env (fun _=>True) Tryz.prog tyB (tab [(101,qX false Yr)]):=qL ⟨Qjk,trivial⟩
 refine Fn.of (A:=fun _=>True) (n0:=0) (D:=noD) (Fn0 Tryz.func43 rfl (fun vs w=>by kernel_rfl) (by kernel_rfl)) (by simp) (by simp [AV.ids,ql]) (fun i o h=>by cases h) (fun _ _ _ _=>trivial) qF ?_
 have hx:(100:Nat)+2≤maxLen:=by decide
 have h1:more.length+2≤maxLen:=by omega
 have h2:2+more.length≤maxLen:=by omega
 show Sym _ _ _ (zV [ql more] 0 noH) (xM tyB noD Tryz.f43 fun S rv=>Fin S rv _ 0 (qj []) 0)
 repeat' (first|(apply nx;with_reducible constructor)|refine jq (by decide) ?_|((first|refine kz env fun Q hQ=>?_|refine kj fun Q hQ=>?_);simp only [vkt,seval,JC,UM,aTk,cTk,ql,eTk,rTk,mTk,Yr,yN,qa,qb,qh,List.length_map,hm,h1,h2];(try simp only [ite_and]);(repeat' (first|with_reducible assumption|refine And.intro ?_ ?_|intro hp));all_goals (first|(refine hQ _ ?_;clear hQ Q)|(refine hQ _ (fun h=>?_) (fun h=>?_) <;> clear hQ Q <;> (try simp only [vki,reduceCtorEq] at h))|(refine kx ?_;kernel_rfl)|omega|assumption|with_reducible rfl|skip)))
 simp only [yN,qa,qb,qh,List.map_cons,List.map_nil]
 (simp only [vrt,Tryz.results43,vkt,seval,JC,UM,aTk,cTk,ql,eTk,rTk,mTk,Yr,yN,qa,qb,qh,List.length_map];refine Fin.ok some [1,3] ?_ ?_ ?_ ?_ ?_ rfl;all_goals (try simp only [vle,vkt,seval,JC,UM,aTk,cTk,ql,eTk,rTk,mTk,Yr,yN,qa,qb,qh,List.length_map]))
 all_goals first|rfl|(simp [eTk];done)
def Xv:=kk @QM @Qb.eq_1
def QdF:=kk @aI.eq_1 (kk @aB.eq_1 (@qz.eq_1))
theorem QhL (f t:Int) (d:Bool) (l:List Int):FnV Tryz.prog 44 [aI f,aI t,aB d,qz l] (qx ⟨9,f,t,l,d⟩):=by
 have env:Env (fun _=>True) Tryz.prog tyB (tab []):=qL trivial
 refine Fn.of (A:=fun _=>True) (n0:=0) (D:=noD) (Fn0 Tryz.func44 rfl (fun vs w=>by kernel_rfl) (by kernel_rfl)) (by simp) (by simp [AV.ids,aI,aB,qz]) (fun i o h=>by cases h) (fun _ _ _ _=>trivial) qF ?_
 repeat' (first|(apply nx;with_reducible constructor)|refine jq (by decide) ?_|((first|refine kz env fun Q hQ=>?_|refine kj fun Q hQ=>?_);simp only [vkt,seval,Xv,QdF,qx,qg,List.length_map];(try simp only [ite_and]);(repeat' (first|with_reducible assumption|refine And.intro ?_ ?_|intro hp));all_goals (first|(refine hQ _ ?_;clear hQ Q)|(refine hQ _ (fun h=>?_) (fun h=>?_) <;> clear hQ Q <;> (try simp only [vki,reduceCtorEq] at h))|(refine kx ?_;kernel_rfl)|omega|assumption|with_reducible rfl|skip)))
 (simp only [vrt,Tryz.results44,vkt,seval,Xv,QdF,qx,qg,List.length_map];refine Fin.val rfl ?_;(try simp only [AV.le,AV.leL]))
 all_goals first|rfl|(simp;done)
def pkK (f:Bunk→Int) (l:List Bunk):Nat→Bunk × Int
 |0=>(⟨0,0⟩,0)
 |i+1=>if i=0∨f (l.getD i default) < (pkK f l i).2 then (l.getD i default,f (l.getD i default)) else pkK f l i
def y7:List (List Bunk)→Bunk→Bunk × Int
 |[],_=>(⟨0,0⟩,0)
 |l :: rest,b=>pkK (fun y=>(y7 rest y).2+if y=b then 0 else 1) l l.length
def nxF (L:List (List Bunk)) (at_:Nat) (b y:Bunk):Int:=(y7 (L.drop (at_+1)) y).2+if y=b then 0 else 1
theorem Qhe {L:List (List Bunk)} {i:Nat} (h:i < L.length) (b:Bunk):y7 (L.drop i) b=pkK (nxF L i b) (L.getD i []) (L.getD i []).length:=by
 rw [List.drop_eq_getElem_cons h,y7]
 rw [show L.getD i []=L[i] by simp [List.getD_eq_getElem?_getD,h]]
 rfl
def Xb:List (List Bunk)→Bunk→List Bunk
 |[],_=>[]
 |l :: rest,b=>(y7 (l :: rest) b).1 :: Xb rest (y7 (l :: rest) b).1
theorem QgC {f:Bunk→Int} {l:List Bunk} {n:Int} (hn:0≤n) (h:∀ b ∈ l,0≤f b∧f b≤n):∀ i,i≤l.length→0≤(pkK f l i).2∧(pkK f l i).2≤n
 |0,_=>⟨Int.le_refl 0,hn⟩
 |i+1,hi=>by
  rw [pkK]
  split
  ·exact h _ (yB hi)
  ·exact QgC hn h i (by omega)
theorem XU:∀ (L:List (List Bunk)) (b:Bunk),0≤(y7 L b).2∧(y7 L b).2≤(L.length:Int)
 |[],_=>by simp [y7]
 |l :: rest,b=>by
  rw [y7]
  refine QgC (by omega) (fun y _=>?_) _ (Nat.le_refl _)
  have:=XU rest y
  rw [List.length_cons]
  split <;> omega
theorem QjL (L:List (List Bunk)) (i:Nat) (b y:Bunk):0≤nxF L i b y∧nxF L i b y≤(L.length:Int)+1:=by
 have h:=XU (L.drop (i+1)) y
 rw [List.length_drop] at h
 unfold nxF
 split <;> omega
def wkK (L:List (List Bunk)):Nat→List Bunk
 |0=>[]
 |i+1=>wkK L i++[(y7 (L.drop i) (if i=0 then ⟨-1,0⟩ else (wkK L i).getD (i - 1) default)).1]
theorem R4 (L:List (List Bunk)):∀ i,(wkK L i).length=i
 |0=>rfl
 |i+1=>by rw [wkK,List.length_append,R4 L i];rfl
def wkB (L:List (List Bunk)) (i:Nat):Bunk:=if i=0 then ⟨-1,0⟩ else (wkK L i).getD (i - 1) default
theorem X7 (L:List (List Bunk)) (i:Nat):wkK L (i+1)=wkK L i++[(y7 (L.drop i) (wkB L i)).1]:=rfl
theorem QfT (L:List (List Bunk)) (i:Nat):wkB L (i+1)=(y7 (L.drop i) (wkB L i)).1:=by
 unfold wkB
 rw [if_neg (by omega),X7]
 have h:=R4 L i
 rw [show i+1 - 1=i by omega,List.getD_eq_getElem?_getD,List.getElem?_append_right (by omega),h]
 simp
 rfl
theorem Qdf (L:List (List Bunk)):∀ i,i≤L.length→Xb L ⟨-1,0⟩=wkK L i++Xb (L.drop i) (wkB L i)
 |0,_=>by simp [wkK,wkB]
 |i+1,h=>by
  rw [Qdf L i (by omega),X7,QfT]
  conv=>lhs;rw [List.drop_eq_getElem_cons (show i < L.length by omega),Xb]
  rw [← List.drop_eq_getElem_cons (show i < L.length by omega)]
  simp
theorem Qks (L:List (List Bunk)):wkK L L.length=Xb L ⟨-1,0⟩:=by
 rw [Qdf L L.length (Nat.le_refl _),List.drop_length,Xb,List.append_nil]
def Kr (a:Ask) (s:Int):Ask:=⟨a.party,s,s+1,a.sexes,a.dog⟩
def ku (c:Chart) (a:Ask) (s:Int):List Bunk:=(plP c (Kr a s)).map fun x=>x.1.getD 0 default
def ZG (c:Chart) (a:Ask) (k:Nat):List (List Bunk):=(List.range k).map fun (i:Nat)=>ku c a (a.frm+i)
def Jt (c:Chart) (a:Ask):List (List Bunk):=ZG c a (a.to - a.frm).toNat
theorem QbQ (c:Chart) (a:Ask) (k:Nat):ZG c a (k+1)=ZG c a k++[ku c a (a.frm+k)]:=by
 unfold ZG;rw [List.range_succ,List.map_append];rfl
def Zz (c:Chart) (a:Ask):List Bunk × Int × Int :=
 if zw c a ≠ 0 then ([],0,zw c a) else if 1 < a.sexes.length then ([],0,6) else if a.dog then ([],0,9) else
 if (Jt c a).any (·.isEmpty) then ([],0,11) else (Xb (Jt c a) ⟨-1,0⟩,(y7 (Jt c a) ⟨-1,0⟩).2 - 1,0)
def ZP (i:Int) (b:Bunk):Value:=.agg #[.int .i64 i,.int .i64 b.cab,.int .i64 b.bed]
theorem Qal {i j:Int} {b c:Bunk} (h:ZP i b=ZP j c):i=j∧b=c:=by
 cases b;cases c
 simp [ZP] at h
 obtain ⟨rfl,rfl,rfl⟩:=h
 exact ⟨rfl,rfl⟩
def Qdu:KeyInfo:={ kd:=.agg [some .i64,some .i64,some .i64],z:=.v (.int .i64 0),agg:=false }
def RP (es:List (Value × Value)) (kv:Value) (n:Int):Prop:=∃ b,vJ Qdu (yZ es kv)=(True,.v (.int .i64 n),b)
theorem Qe3 {es:List (Value × Value)} {kv:Value} (h:yZ es kv=none):RP es kv 0:=by
 refine ⟨false, ?_⟩
 rw [h]
 show (_,_,_)=_
 simp [Qdu,AV.ids]
theorem QeK {es:List (Value × Value)} {kv:Value} {n:Int} (h:yZ es kv=some (.int .i64 n)):RP es kv n:=by
 refine ⟨true, ?_⟩
 rw [h]
 show (_,_,_)=_
 simp [Qdu,KC,Value.oneCell',vAV]
theorem QeJ {es:List (Value × Value)} {kv:Value} {n:Int}:RP (xf es kv (.int .i64 n)) kv n:=QeK (by rw [Yv,if_pos rfl])
theorem QdD {es:List (Value × Value)} {kv kv' v:Value} {n:Int} (hne:kv ≠ kv') (h:RP es kv' n):RP (xf es kv v) kv' n:=by
 unfold RP
 rw [Yv,if_neg hne]
 exact h
theorem YA {es:List (Value × Value)} {k v:Value}:(xf es k v).length≤es.length+1:=by
 induction es with
 |nil=>simp [xf]
 |cons p es ih =>
  rw [xf]
  split
  ·simp
  ·rw [List.length_cons,List.length_cons];omega
abbrev QjF:Value→Prop:=KD.Q (.agg [some .i64,some .i64,some .i64])
theorem spotQ (i:Int) (b:Bunk):QjF (ZP i b):=⟨⟨_,rfl⟩,⟨_,rfl⟩,⟨_,rfl⟩,trivial⟩
structure BhOk (L:List (List Bunk)) (es:List (Value × Value)) (at_:Nat):Prop where
 ok:MOK QjF es
 look:∀ j,at_≤j→j < L.length→∀ x ∈ L.getD j [],RP es (ZP j x) (y7 (L.drop (j+1)) x).2
theorem QjW (L:List (List Bunk)):BhOk L [] (L.length - 1):=⟨MOK.nil _,fun j h1 h2 x _=>by
 rw [List.drop_eq_nil_iff.2 (by omega)]
 exact Qe3 rfl⟩
structure BhIn (L:List (List Bunk)) (es:List (Value × Value)) (at_ i:Nat):Prop where
 bh:BhOk L es (at_+1)
 cur:∀ k,k < i→k < (L.getD at_ []).length→RP es (ZP at_ ((L.getD at_ []).getD k default)) (y7 (L.drop (at_+1)) ((L.getD at_ []).getD k default)).2
theorem BhOk.inn {L:List (List Bunk)} {es:List (Value × Value)} {i:Nat} (h:BhOk L es (i+1)):BhIn L es i 0:=⟨h,fun k hk=>absurd hk (Nat.not_lt_zero _)⟩
theorem BhIn.step {L:List (List Bunk)} {es:List (Value × Value)} {at_ i:Nat} (h:BhIn L es at_ i) {b:Bunk} (hb:(L.getD at_ []).getD i default=b) {n:Int} (hn:(y7 (L.drop (at_+1)) b).2=n) :
  BhIn L (xf es (ZP at_ b) (.int .i64 n)) at_ (i+1):=by
 refine ⟨⟨h.bh.ok.set (spotQ _ _),fun j h1 h2 x hx=>QdD (fun e=>?_) (h.bh.look j h1 h2 x hx)⟩,fun k hk hl=>?_⟩
 ·have:=(Qal e).1;omega
 ·obtain ⟨x,hx⟩:∃ x,(L.getD at_ []).getD k default=x:=⟨_,rfl⟩
  rw [hx]
  by_cases hxb:b=x
  ·subst hxb;rw [hn];exact QeJ
  ·have hki:k < i:=by
    rcases Nat.lt_or_eq_of_le (Nat.le_of_lt_succ hk) with h1|h1
    ·exact h1
    ·subst h1;exact absurd (hb.symm.trans hx) hxb
   have:=h.cur k hki hl
   rw [hx] at this
   exact QdD (fun e=>hxb (Qal e).2) this
theorem BhIn.out {L:List (List Bunk)} {es:List (Value × Value)} {i:Nat} (h:BhIn L es i (L.getD i []).length):BhOk L es i:=⟨h.bh.ok,fun j h1 h2 x hx=>by
 rcases Nat.lt_or_eq_of_le h1 with h3|h3
 ·exact h.bh.look j h3 h2 x hx
 ·subst h3
  obtain ⟨k,hk,rfl⟩:=List.mem_iff_getElem.1 hx
  have:=h.cur k hk hk
  rwa [show (L.getD i []).getD k default=(L.getD i [])[k] by rw [List.getD_eq_getElem?_getD,List.getElem?_eq_getElem hk];rfl] at this⟩
structure NxOk (L:List (List Bunk)) (es:List (Value × Value)) (i:Nat):Prop where
 len:L.length≤100
 lt:i < L.length
 each:∀ l ∈ L,l.length≤1000
 bh:BhOk L es i
def nxL (L:List (List Bunk)) (es:List (Value × Value)):List AObj:=[.cells [.row 2],.cells [.mp 3],.row 44 1 (L.map qA),.map es]
theorem Qib {L:List (List Bunk)} {es:List (Value × Value)}:∀ i o,qj (qQ 0 (nxL L es)) i=some o→i < 4∧∀ id ∈ o.ids,id < 4:=by
 intro i o hi
 have h:=qR hi
 simp [qQ,nxL] at h
 rcases h with ⟨rfl,rfl⟩|⟨rfl,rfl⟩|⟨rfl,rfl⟩|⟨rfl,rfl⟩ <;> simp [AObj.ids,AV.ids,AV.idsL]
def ncS (L:List (List Bunk)) (es:List (Value × Value)) (i:Nat) (b:Bunk) (l:List Bunk) (k:Nat) (o:Bunk) (n:Int):St:={ t:=asg [(0,aI i),(2,.ptr 0 0),(3,.ptr 1 0),(5,.ptr 4 0),(6,.ptr 5 0),(7,aI n),(14,qc l),(15,aI l.length),(16,aI k)],h:=qj [(0,.cells [.row 2]),(1,.cells [.mp 3]),(2,.row 44 1 (L.map qA)),(3,.map es),(4,.cells [.v (.int .i64 b.cab),.v (.int .i64 b.bed)]),(5,.cells [.v (.int .i64 o.cab),.v (.int .i64 o.bed)])],n:=6,m:=4 }
def wE:=kk @ty3 (kk @QbK (kk @WQ (kk @xJ (kk @Qjw (kk @Qjg (kk @ti3.eq_1 (kk @Kt.eq_1 (kk @ZO.eq_1 (kk @vZ.eq_1 (kk @Qat.eq_1 @QaS.eq_1))))))))))
def j6:=kk @aI.eq_1 (@aB.eq_1)
set_option maxHeartbeats 2000000 in
theorem QkJ (L:List (List Bunk)) (es:List (Value × Value)) (i:Nat) (b:Bunk) (ok:NxOk L es i):Fn noB Tryz.prog 72 [aI i,qf b,.ptr 0 0,.ptr 1 0] (qj (qQ 0 (nxL L es))) (.tup [qf (y7 (L.drop i) b).1,aI (y7 (L.drop i) b).2]) (qj (wH 0 ((nxL L es).map some))) 0:=by
 have env:Env (fun _=>True) Tryz.prog tyB (tab []):=qL trivial
 refine Fn.of (A:=fun _=>True) (n0:=4) (D:=noD) (Fn0 Tryz.func72 rfl (fun vs w=>by kernel_rfl) (by kernel_rfl)) (by simp) (by simp [AV.ids,AV.idsL,aI,qf]) Qib (fun _ _ _ _=>trivial) qF ?_
 have hlen:=ok.len
 have hlt:=ok.lt
 have hbd:=QjL L i b
 rw [Qhe hlt]
 obtain ⟨l,hl⟩:∃ l,L.getD i []=l:=⟨_,rfl⟩
 have hll:l.length≤1000:=ok.each l (by rw [← hl];exact yB hlt)
 have hlook:∀ x ∈ l,RP es (ZP i x) (y7 (L.drop (i+1)) x).2:=fun x hx=>ok.bh.look i (Nat.le_refl _) hlt x (by rw [hl];exact hx)
 have hM:MOK (KD.Q (.agg [some .i64,some .i64,some .i64])) es:=ok.bh.ok
 rw [hl]
 show Sym _ _ _ (zV [aI i,qf b,.ptr 0 0,.ptr 1 0] 4 (qj [(0,.cells [.row 2]),(1,.cells [.mp 3]),(2,.row 44 1 (L.map qA)),(3,.map es)])) (xM tyB noD Tryz.f72 fun S rv=>Fin S rv _ 4 (qj [(0,.cells [.row 2]),(1,.cells [.mp 3]),(2,.row 44 1 (L.map qA)),(3,.map es)]) 0)
 have i0:((i:Int)).toNat=i:=rfl
 have hg:=V7 hlt
 rw [hl] at hg
 repeat' (first|(apply nx;with_reducible constructor)|refine jq (by decide) ?_|((first|refine kz env fun Q hQ=>?_|refine kj fun Q hQ=>?_);simp only [vkt,seval,wE,j6,qf,qc,qo,qA,qD,qH,qG,ncS,List.length_map,hg,hl,hlt,i0];(try simp only [ite_and]);(repeat' (first|with_reducible assumption|refine And.intro ?_ ?_|intro hp));all_goals (first|(refine hQ _ ?_;clear hQ Q)|(refine hQ _ (fun h=>?_) (fun h=>?_) <;> clear hQ Q <;> (try simp only [vki,reduceCtorEq] at h))|(refine kx ?_;kernel_rfl)|omega|assumption|with_reducible rfl|skip)))
 refine qN (fun k:{ k:Nat // k≤l.length }=>ncS L es i b l k.1 (pkK (nxF L i b) l k.1).1 (pkK (nxF L i b) l k.1).2) (fun k=>l.length - k.1) ⟨0,Nat.zero_le _⟩ ?_ fun ⟨k,hk⟩=>?_
 ·(refine Le.ok some [] ?_;constructor;all_goals (try simp only [vle,vkt,seval,wE,j6,qf,qc,qo,qA,qD,qH,qG,ncS,List.length_map]))
  all_goals first|rfl|(simp [pkK];done)
 simp only at hk ⊢
 obtain ⟨⟨o,n⟩,hon⟩:∃ z,pkK (nxF L i b) l k=z:=⟨_,rfl⟩
 have hS:pkK (nxF L i b) l (k+1)=if k=0∨nxF L i b (l.getD k default) < n then (l.getD k default,nxF L i b (l.getD k default)) else (o,n):=by rw [pkK,hon]
 rw [hon]
 repeat' (first|(apply nx;with_reducible constructor)|refine jq (by decide) ?_)
 (refine kz env fun Q hQ=>?_;simp only [vkt,seval,wE,j6,qf,qc,qo,qA,qD,qH,qG,ncS,List.length_map];(try simp only [ite_and]);(repeat' (first|with_reducible assumption|refine And.intro ?_ ?_|intro hp));all_goals (first|(refine hQ _ ?_;clear hQ Q)|(refine kx ?_;kernel_rfl)|omega|assumption|with_reducible rfl|skip))
 repeat' (first|(apply nx;with_reducible constructor)|refine jq (by decide) ?_)
 (refine yY (by simp only [vkt,seval,wE,j6,qf,qc,qo,qA,qD,qH,qG,ncS,List.length_map];rfl) (fun h=>?_) (fun h=>?_) <;> (try simp only [vki,reduceCtorEq] at h))
 ·have hkl:k < l.length:=by omega
  have e9:IntKind.wrap .i64 ((k:Int)+1)=((k+1:Nat):Int):=by rw [wrap64 (by omega) (by omega)];rfl
  obtain ⟨x,hx⟩:∃ x,l.getD k default=x:=⟨_,rfl⟩
  obtain ⟨v,hv⟩:∃ v,(y7 (L.drop (i+1)) x).2=v:=⟨_,rfl⟩
  obtain ⟨bb,hlk⟩:=hlook x (by rw [← hx];exact yB hkl)
  rw [hv] at hlk
  simp only [Qdu,ZP] at hlk
  have hF:nxF L i b x=v+if x=b then 0 else 1:=by unfold nxF;rw [hv]
  have hb:=hbd x
  rw [hx] at hS
  obtain ⟨f,hf⟩:∃ f,nxF L i b x=f:=⟨_,rfl⟩
  rw [hf] at hS hF hb
  have key:∀ (o':Bunk) (n':Int),pkK (nxF L i b) l (k+1)=(o',n')→ncS L es i b l (k+1) (pkK (nxF L i b) l (k+1)).1 (pkK (nxF L i b) l (k+1)).2=ncS L es i b l (k+1) o' n':=fun o' n' h=>by rw [h]
  have fin:∀ (S:St) (o':Bunk) (n':Int),pkK (nxF L i b) l (k+1)=(o',n')→Le S (ncS L es i b l (k+1) o' n')→∃ y:{ k:Nat // k≤l.length },(l.length - y.1 < l.length - k)∧Le S (ncS L es i b l y.1 (pkK (nxF L i b) l y.1).1 (pkK (nxF L i b) l y.1).2):=fun S o' n' h hle=>⟨⟨k+1,hkl⟩,by show l.length - (k+1) < l.length - k;omega,by rw [key o' n' h];exact hle⟩
  by_cases hxb:x=b
  ·subst hxb
   rw [if_pos rfl,Int.add_zero] at hF
   subst hF
   have xx:((x.cab == x.cab) && (x.bed == x.bed))=true:=by simp
   by_cases hk0:k=0
   ·rw [if_pos (.inl hk0)] at hS
    have d0:decide ((k:Int)=0)=true:=decide_eq_true (by omega)
    repeat' (first|(apply nx;with_reducible constructor)|refine jq (by decide) ?_|((first|refine kz env fun Q hQ=>?_|refine kj fun Q hQ=>?_);simp only [vkt,seval,wE,j6,qf,qc,qo,qA,qD,qH,qG,ncS,List.length_map,hx,e9,hlk,hM,d0];(try simp only [ite_and]);(repeat' (first|with_reducible assumption|refine And.intro ?_ ?_|intro hp));all_goals (first|(refine hQ _ ?_;clear hQ Q)|(refine hQ _ (fun h=>?_) (fun h=>?_) <;> clear hQ Q <;> (try simp only [vki,reduceCtorEq] at h))|(refine kx ?_;kernel_rfl)|omega|assumption|with_reducible rfl|skip)))
    refine fin _ _ _ hS ?_
    (refine Le.ok some [] ?_;constructor;all_goals (try simp only [vle,vkt,seval,wE,j6,qf,qc,qo,qA,qD,qH,qG,ncS,List.length_map]))
    all_goals first|rfl|(simp;done)
   ·have d0:decide ((k:Int)=0)=false:=decide_eq_false (by omega)
    by_cases hc:f < n
    ·rw [if_pos (.inr hc)] at hS
     have d1:decide (f < n)=true:=decide_eq_true hc
     repeat' (first|(apply nx;with_reducible constructor)|refine jq (by decide) ?_|((first|refine kz env fun Q hQ=>?_|refine kj fun Q hQ=>?_);simp only [vkt,seval,wE,j6,qf,qc,qo,qA,qD,qH,qG,ncS,List.length_map,hx,e9,hlk,hM,d0,d1];(try simp only [ite_and]);(repeat' (first|with_reducible assumption|refine And.intro ?_ ?_|intro hp));all_goals (first|(refine hQ _ ?_;clear hQ Q)|(refine hQ _ (fun h=>?_) (fun h=>?_) <;> clear hQ Q <;> (try simp only [vki,reduceCtorEq] at h))|(refine kx ?_;kernel_rfl)|omega|assumption|with_reducible rfl|skip)))
     refine fin _ _ _ hS ?_
     (refine Le.ok some [] ?_;constructor;all_goals (try simp only [vle,vkt,seval,wE,j6,qf,qc,qo,qA,qD,qH,qG,ncS,List.length_map]))
     all_goals first|rfl|(simp;done)
    ·rw [if_neg (by omega)] at hS
     have d1:decide (f < n)=false:=decide_eq_false hc
     repeat' (first|(apply nx;with_reducible constructor)|refine jq (by decide) ?_|((first|refine kz env fun Q hQ=>?_|refine kj fun Q hQ=>?_);simp only [vkt,seval,wE,j6,qf,qc,qo,qA,qD,qH,qG,ncS,List.length_map,hx,e9,hlk,hM,d0,d1];(try simp only [ite_and]);(repeat' (first|with_reducible assumption|refine And.intro ?_ ?_|intro hp));all_goals (first|(refine hQ _ ?_;clear hQ Q)|(refine hQ _ (fun h=>?_) (fun h=>?_) <;> clear hQ Q <;> (try simp only [vki,reduceCtorEq] at h))|(refine kx ?_;kernel_rfl)|omega|assumption|with_reducible rfl|skip)))
     refine fin _ _ _ hS ?_
     (refine Le.ok some [] ?_;constructor;all_goals (try simp only [vle,vkt,seval,wE,j6,qf,qc,qo,qA,qD,qH,qG,ncS,List.length_map]))
     all_goals first|rfl|(simp;done)
  ·rw [if_neg hxb] at hF
   have w1:IntKind.wrap .i64 (v+1)=f:=by rw [wrap64 (by omega) (by omega)];exact hF.symm
   have hne:(decide (x.cab=b.cab) && decide (x.bed=b.bed))=false:=by
    cases x;cases b
    simp at hxb ⊢
    exact hxb
   by_cases hk0:k=0
   ·rw [if_pos (.inl hk0)] at hS
    have d0:decide ((k:Int)=0)=true:=decide_eq_true (by omega)
    repeat' (first|(apply nx;with_reducible constructor)|refine jq (by decide) ?_|((first|refine kz env fun Q hQ=>?_|refine kj fun Q hQ=>?_);simp only [vkt,seval,wE,j6,qf,qc,qo,qA,qD,qH,qG,ncS,List.length_map,hx,e9,hlk,hM,hne,w1,d0];(try simp only [ite_and]);(repeat' (first|with_reducible assumption|refine And.intro ?_ ?_|intro hp));all_goals (first|(refine hQ _ ?_;clear hQ Q)|(refine hQ _ (fun h=>?_) (fun h=>?_) <;> clear hQ Q <;> (try simp only [vki,reduceCtorEq] at h))|(refine kx ?_;kernel_rfl)|omega|assumption|with_reducible rfl|skip)))
    refine fin _ _ _ hS ?_
    (refine Le.ok some [] ?_;constructor;all_goals (try simp only [vle,vkt,seval,wE,j6,qf,qc,qo,qA,qD,qH,qG,ncS,List.length_map]))
    all_goals first|rfl|(simp;done)
   ·have d0:decide ((k:Int)=0)=false:=decide_eq_false (by omega)
    by_cases hc:f < n
    ·rw [if_pos (.inr hc)] at hS
     have d1:decide (f < n)=true:=decide_eq_true hc
     repeat' (first|(apply nx;with_reducible constructor)|refine jq (by decide) ?_|((first|refine kz env fun Q hQ=>?_|refine kj fun Q hQ=>?_);simp only [vkt,seval,wE,j6,qf,qc,qo,qA,qD,qH,qG,ncS,List.length_map,hx,e9,hlk,hM,hne,w1,d0,d1];(try simp only [ite_and]);(repeat' (first|with_reducible assumption|refine And.intro ?_ ?_|intro hp));all_goals (first|(refine hQ _ ?_;clear hQ Q)|(refine hQ _ (fun h=>?_) (fun h=>?_) <;> clear hQ Q <;> (try simp only [vki,reduceCtorEq] at h))|(refine kx ?_;kernel_rfl)|omega|assumption|with_reducible rfl|skip)))
     refine fin _ _ _ hS ?_
     (refine Le.ok some [] ?_;constructor;all_goals (try simp only [vle,vkt,seval,wE,j6,qf,qc,qo,qA,qD,qH,qG,ncS,List.length_map]))
     all_goals first|rfl|(simp;done)
    ·rw [if_neg (by omega)] at hS
     have d1:decide (f < n)=false:=decide_eq_false hc
     repeat' (first|(apply nx;with_reducible constructor)|refine jq (by decide) ?_|((first|refine kz env fun Q hQ=>?_|refine kj fun Q hQ=>?_);simp only [vkt,seval,wE,j6,qf,qc,qo,qA,qD,qH,qG,ncS,List.length_map,hx,e9,hlk,hM,hne,w1,d0,d1];(try simp only [ite_and]);(repeat' (first|with_reducible assumption|refine And.intro ?_ ?_|intro hp));all_goals (first|(refine hQ _ ?_;clear hQ Q)|(refine hQ _ (fun h=>?_) (fun h=>?_) <;> clear hQ Q <;> (try simp only [vki,reduceCtorEq] at h))|(refine kx ?_;kernel_rfl)|omega|assumption|with_reducible rfl|skip)))
     refine fin _ _ _ hS ?_
     (refine Le.ok some [] ?_;constructor;all_goals (try simp only [vle,vkt,seval,wE,j6,qf,qc,qo,qA,qD,qH,qG,ncS,List.length_map]))
     all_goals first|rfl|(simp;done)
 ·have hke:k=l.length:=by omega
  subst hke
  repeat' (first|(apply nx;with_reducible constructor)|refine jq (by decide) ?_|((first|refine kz env fun Q hQ=>?_|refine kj fun Q hQ=>?_);simp only [vkt,seval,wE,j6,qf,qc,qo,qA,qD,qH,qG,ncS,List.length_map];(try simp only [ite_and]);(repeat' (first|with_reducible assumption|refine And.intro ?_ ?_|intro hp));all_goals (first|(refine hQ _ ?_;clear hQ Q)|(refine hQ _ (fun h=>?_) (fun h=>?_) <;> clear hQ Q <;> (try simp only [vki,reduceCtorEq] at h))|(refine kx ?_;kernel_rfl)|omega|assumption|with_reducible rfl|skip)))
  (simp only [vrt,Tryz.results72,vkt,seval,wE,j6,qf,qc,qo,qA,qD,qH,qG,ncS,List.length_map];refine Fin.ok some [] ?_ ?_ ?_ ?_ ?_ rfl;all_goals (try simp only [vle,vkt,seval,wE,j6,qf,qc,qo,qA,qD,qH,qG,ncS,List.length_map]))
  all_goals first|rfl|(simp;done)|(rw [hon];exact ⟨⟨rfl,rfl⟩,rfl⟩)
def vS (S:St):List AV→Option Pk
 |[.v (.int .i64 i),.agg [.v (.int .i64 c),.v (.int .i64 d)],.ptr p 0,.ptr q 0]=>match S.h p,S.h q with
  |some (.cells [.row r]),some (.cells [.mp m])=>match S.h r,S.h m with
   |some (.row _ _ xs),some (.map es)=>some { pre:=xs=(xs.map Jn).map qA∧i=(i.toNat:Int)∧NxOk (xs.map Jn) es i.toNat,hs:=[p,q,r,m],ar:=[.v (.int .i64 i),.agg [.v (.int .i64 c),.v (.int .i64 d)],.ptr 0 0,.ptr 1 0],L0:=nxL (xs.map Jn) es,v:=.tup [qf (y7 ((xs.map Jn).drop i.toNat) ⟨c,d⟩).1,aI (y7 ((xs.map Jn).drop i.toNat) ⟨c,d⟩).2],L1:=(nxL (xs.map Jn) es).map some }
   |_,_=>none
  |_,_=>none
 |_=>none
theorem QhN:∀ S bs q,vS S bs=some q→q.pre→Fn noB Tryz.prog 72 q.ar (qj (qQ 0 q.L0)) q.v (qj (wH 0 q.L1)) 0:=fun S bs q h hp=>by
 unfold vS at h
 split at h
 ·rename_i i c d p q
  split at h
  ·split at h
   ·rename_i m _ _ _ _ _ xs es _ _
    cases h
    obtain ⟨h1,h2,h3⟩:=hp
    have:=QkJ _ _ _ ⟨c,d⟩ h3
    rw [aI,← h2] at this
    exact this
   ·cases h
  ·cases h
 ·cases h
theorem eNx1 {A:Frm→Prop}:qE A Tryz.prog 72 (fnQ vS):=Qka QhN
def QI (n:Nat):Nat→List Int→Nat→List (List Int)
 |0,l,_=>[l]
 |m+1,l,f=>(List.range (n - f)).flatMap fun k=>QI n m (l++[((f+k:Nat):Int)]) (f+k+1)
def kU (sold:List Tk) (p:Int):Nat:=sold.countP fun t=>decide (t.party=p)
def zS (sold:List Tk):List Int:=((List.range sold.length).filter fun i=>decide (kU sold (sold.getD i default).party=1)).map fun (i:Nat)=>(i:Int)
def vw (sold:List Tk) (n:Nat) (b:Bunk):List Tk:=sold.set n ⟨(sold.getD n default).party,(sold.getD n default).sex,b.cab,b.bed,(sold.getD n default).frm,(sold.getD n default).to,(sold.getD n default).dog⟩
def wP (cs:List Cabin) (s:Int) (a:Ask):List Int→List Tk→Option (List Tr)
 |[],sold=>if zu ⟨cs,s,sold⟩=0∧plP ⟨cs,s,sold⟩ a ≠ [] then some [] else none
 |n :: r,sold=>(qV cs).findSome? fun b=>if b=(sold.getD n.toNat default).bunk then none else (wP cs s a r (vw sold n.toNat b)).map (⟨n,b.cab,b.bed⟩ :: ·)
def jf (c:Chart) (l:List Int):List Int:=l.map fun i=>(zS c.sold).getD i.toNat 0
def yP (c:Chart) (a:Ask) (m:Nat):Option (List Tr):=(QI (zS c.sold).length m [] 0).findSome? fun l=>wP c.cabins c.secs a (jf c l) c.sold
def wV (c:Chart) (a:Ask):List Tr × Int :=
 if zw c a ≠ 0 then ([],zw c a) else match (List.range 3).findSome? (yP c a) with
 |some t=>(t,0)
 |none=>([],11)
def QfE:KeyInfo:={ kd:=.one (.int .i64),z:=.v (.int .i64 0),agg:=false }
def KN (es:List (Value × Value)) (p n:Int):Prop:=∃ b,vJ QfE (yZ es (.int .i64 p))=(True,.v (.int .i64 n),b)
theorem QbY {es:List (Value × Value)} {p:Int} (h:yZ es (.int .i64 p)=none):KN es p 0:=by
 refine ⟨false, ?_⟩
 rw [h]
 show (_,_,_)=_
 simp [QfE,AV.ids]
theorem Qbq {es:List (Value × Value)} {p n:Int} (h:yZ es (.int .i64 p)=some (.int .i64 n)):KN es p n:=by
 refine ⟨true, ?_⟩
 rw [h]
 show (_,_,_)=_
 simp [QfE,KC,Value.oneCell',vAV]
theorem QdT {es:List (Value × Value)} {p q n m:Int} (h:p ≠ q→KN es q m) (h2:p=q→n=m):KN (xf es (.int .i64 p) (.int .i64 n)) q m:=by
 by_cases hpq:p=q
 ·subst hpq
  rw [← h2 rfl]
  exact Qbq (by rw [Yv,if_pos rfl])
 ·unfold KN
  rw [Yv,if_neg (by simpa using hpq)]
  exact h hpq
structure LnOk (sold:List Tk) (es:List (Value × Value)) (k:Nat):Prop where
 ok:MOK (KD.Q (.one (.int .i64))) es
 look:∀ p,KN es p (kU (sold.take k) p)
 len:es.length≤k
theorem Qj1 (sold:List Tk):LnOk sold [] 0:=⟨MOK.nil _,fun p=>by rw [List.take_zero];exact QbY rfl,Nat.le_refl _⟩
theorem VD {sold:List Tk} {k:Nat} (h:k < sold.length) (p:Int):kU (sold.take (k+1)) p=kU (sold.take k) p+if (sold.getD k default).party=p then 1 else 0:=by
 unfold kU
 rw [List.take_succ_eq_append_getElem h,List.countP_append]
 rw [show sold.getD k default=sold[k] by simp [List.getD_eq_getElem?_getD,h]]
 simp
theorem LnOk.step {sold:List Tk} {es:List (Value × Value)} {k:Nat} (h:LnOk sold es k) (hk:k < sold.length) {p:Int} (hp:(sold.getD k default).party=p) {n:Nat} (hn:kU (sold.take k) p=n) :
  LnOk sold (xf es (.int .i64 p) (.int .i64 ((n+1:Nat):Int))) (k+1):=by
 refine ⟨h.ok.set rfl,fun q=>?_, ?_⟩
 ·rw [VD hk,hp]
  refine QdT (fun hne=>?_) fun e=>?_
  ·rw [if_neg hne,Nat.add_zero];exact h.look q
  ·subst e;rw [if_pos rfl,hn]
 ·have:=YA (es:=es) (k:=.int .i64 p) (v:=.int .i64 ((n+1:Nat):Int))
  have:=h.len
  omega
theorem K8 (sold:List Tk) (p:Int):kU sold p≤sold.length:=List.countP_le_length
def lnK (sold:List Tk) (k:Nat):List Int:=((List.range k).filter fun i=>decide (kU sold (sold.getD i default).party=1)).map fun (i:Nat)=>(i:Int)
theorem Qaj (sold:List Tk) (k:Nat):lnK sold (k+1)=if kU sold (sold.getD k default).party=1 then lnK sold k++[(k:Int)] else lnK sold k:=by
 unfold lnK
 rw [List.range_succ,List.filter_append,List.map_append]
 split
 ·rename_i h;simp [-List.getD_eq_getElem?_getD,h]
 ·rename_i h;simp [-List.getD_eq_getElem?_getD,h]
theorem Uf (sold:List Tk) (k:Nat):(lnK sold k).length≤k:=by
 unfold lnK
 rw [List.length_map]
 exact Nat.le_trans (List.length_filter_le _ _) (by simp)
theorem Qdb (sold:List Tk):lnK sold sold.length=zS sold:=rfl
def lnA (c:Chart) (es:List (Value × Value)) (k:Nat):St:={ t:=asg [(1,.ptr 0 0),(3,.mp 1),(11,ql c.sold),(12,aI c.sold.length),(13,aI k)],h:=qj [(0,.cells (qb c)),(1,.map es)],n:=2 }
def lnB (c:Chart) (es:List (Value × Value)) (k:Nat):St:={ t:=asg [(3,.mp 1),(6,.row 2),(24,ql c.sold),(25,aI c.sold.length),(26,aI k)],h:=qj [(1,.map es),(2,.row 3 1 ((lnK c.sold k).map zF))],n:=3 }
def jy:=kk @ty3 (kk @x9 (kk @yc (kk @Qe (kk @yU (kk @ty169 (kk @ti3.eq_1 (kk @xD.eq_1 (kk @jM.eq_1 (kk @x8.eq_1 (kk @yA.eq_1 @Qc6.eq_1))))))))))
def xF:=kk @aI.eq_1 (kk @aB.eq_1 (kk @zF.eq_1 (kk @Kv (@qz.eq_1))))
theorem QhZ (c:Chart) (hc:c.sold.length≤100):FnV Tryz.prog 63 [qa c] (qz (zS c.sold)):=by
 have env:Env (fun _=>True) Tryz.prog tyB (tab []):=qL trivial
 refine Fn.of (A:=fun _=>True) (n0:=0) (D:=noD) (Fn0 Tryz.func63 rfl (fun vs w=>by kernel_rfl) (by kernel_rfl)) (by simp) (by simp [AV.ids,AV.idsL,qa,qb]) (fun i o h=>by cases h) (fun _ _ _ _=>trivial) qF ?_
 have hmx:(100000:Nat)≤maxLen:=by decide
 repeat' (first|(apply nx;with_reducible constructor)|refine jq (by decide) ?_|((first|refine kz env fun Q hQ=>?_|refine kj fun Q hQ=>?_);simp only [vkt,seval,jy,xF,ql,eTk,gTk,qa,qb,lnA,lnB,MapKept.IsKey,List.length_map];(try simp only [ite_and]);(repeat' (first|with_reducible assumption|refine And.intro ?_ ?_|intro hp));all_goals (first|(refine hQ _ ?_;clear hQ Q)|(refine hQ _ (fun h=>?_) (fun h=>?_) <;> clear hQ Q <;> (try simp only [vki,reduceCtorEq] at h))|(refine kx ?_;kernel_rfl)|omega|assumption|with_reducible rfl|skip)))
 refine qN (fun x:{ x:Nat × List (Value × Value) // x.1≤c.sold.length∧LnOk c.sold x.2 x.1 }=>lnA c x.1.2 x.1.1) (fun x=>c.sold.length - x.1.1) ⟨(0,[]),Nat.zero_le _,Qj1 _⟩ ?_ fun ⟨(k,es),hk,hL⟩=>?_
 ·(refine Le.ok some [] ?_;constructor;all_goals (try simp only [vle,vkt,seval,jy,xF,ql,eTk,gTk,qa,qb,lnA,lnB,MapKept.IsKey,List.length_map]))
  all_goals first|rfl|(simp;done)
 simp only at hk hL ⊢
 by_cases hkl:k < c.sold.length
 ·have d1:decide ((k:Int) < (c.sold.length:Int))=true:=decide_eq_true (by omega)
  have e9:IntKind.wrap .i64 ((k:Int)+1)=((k+1:Nat):Int):=by rw [wrap64 (by omega) (by omega)];rfl
  obtain ⟨x,hx⟩:∃ x,c.sold.getD k default=x:=⟨_,rfl⟩
  obtain ⟨n,hn⟩:∃ n,kU (c.sold.take k) x.party=n:=⟨_,rfl⟩
  have hnb:=K8 (c.sold.take k) x.party
  rw [hn,List.length_take] at hnb
  obtain ⟨b,hl⟩:=hL.look x.party
  rw [hn] at hl
  simp only [QfE] at hl
  have hM:=hL.ok
  have w1:IntKind.wrap .i64 ((n:Int)+1)=((n+1:Nat):Int):=by rw [wrap64 (by omega) (by omega)];rfl
  have hml:(xf es (.int .i64 x.party) (.int .i64 ((n+1:Nat):Int))).length≤maxLen:=by
   have h1:=YA (es:=es) (k:=.int .i64 x.party) (v:=.int .i64 ((n+1:Nat):Int))
   have h2:=hL.len
   omega
  repeat' (first|(apply nx;with_reducible constructor)|refine jq (by decide) ?_|((first|refine kz env fun Q hQ=>?_|refine kj fun Q hQ=>?_);simp only [vkt,seval,jy,xF,ql,eTk,gTk,qa,qb,lnA,lnB,MapKept.IsKey,List.length_map,d1,e9,hx,hl,hM,w1,hml];(try simp only [ite_and]);(repeat' (first|with_reducible assumption|refine And.intro ?_ ?_|intro hp));all_goals (first|(refine hQ _ ?_;clear hQ Q)|(refine hQ _ (fun h=>?_) (fun h=>?_) <;> clear hQ Q <;> (try simp only [vki,reduceCtorEq] at h))|(refine kx ?_;kernel_rfl)|omega|assumption|with_reducible rfl|skip)))
  refine ⟨⟨(k+1,xf es (.int .i64 x.party) (.int .i64 ((n+1:Nat):Int))),hkl,hL.step hkl (by rw [hx]) hn⟩,by show c.sold.length - (k+1) < c.sold.length - k;omega, ?_⟩
  (refine Le.ok some [] ?_;constructor;all_goals (try simp only [vle,vkt,seval,jy,xF,ql,eTk,gTk,qa,qb,lnA,lnB,MapKept.IsKey,List.length_map]))
  all_goals first|rfl|(simp;done)
 ·have d1:decide ((k:Int) < (c.sold.length:Int))=false:=decide_eq_false (by omega)
  obtain rfl:k=c.sold.length:=by omega
  repeat' (first|(apply nx;with_reducible constructor)|refine jq (by decide) ?_|((first|refine kz env fun Q hQ=>?_|refine kj fun Q hQ=>?_);simp only [vkt,seval,jy,xF,ql,eTk,gTk,qa,qb,lnA,lnB,MapKept.IsKey,List.length_map,d1];(try simp only [ite_and]);(repeat' (first|with_reducible assumption|refine And.intro ?_ ?_|intro hp));all_goals (first|(refine hQ _ ?_;clear hQ Q)|(refine hQ _ (fun h=>?_) (fun h=>?_) <;> clear hQ Q <;> (try simp only [vki,reduceCtorEq] at h))|(refine kx ?_;kernel_rfl)|omega|assumption|with_reducible rfl|skip)))
  refine qN (fun k:{ k:Nat // k≤c.sold.length }=>lnB c es k.1) (fun k=>c.sold.length - k.1) ⟨0,Nat.zero_le _⟩ ?_ fun ⟨k,hk⟩=>?_
  ·(refine Le.ok (fun i=>if i=2 then none else some i) [] ?_;constructor;all_goals (try simp only [vle,vkt,seval,jy,xF,ql,eTk,gTk,qa,qb,lnA,lnB,MapKept.IsKey,List.length_map]))
   all_goals first|rfl|(simp [lnK];done)|(intro i hi;rw [if_neg (by omega)];done)
  simp only at hk ⊢
  by_cases hkl:k < c.sold.length
  ·have d1:decide ((k:Int) < (c.sold.length:Int))=true:=decide_eq_true (by omega)
   have e9:IntKind.wrap .i64 ((k:Int)+1)=((k+1:Nat):Int):=by rw [wrap64 (by omega) (by omega)];rfl
   obtain ⟨x,hx⟩:∃ x,c.sold.getD k default=x:=⟨_,rfl⟩
   obtain ⟨n,hn⟩:∃ n,kU c.sold x.party=n:=⟨_,rfl⟩
   obtain ⟨b,hl⟩:=hL.look x.party
   rw [List.take_length,hn] at hl
   simp only [QfE] at hl
   have hM:=hL.ok
   have hS:=Qaj c.sold k
   have hkn:=Uf c.sold k
   have hkm:(lnK c.sold k).length+1≤maxLen:=by omega
   rw [hx,hn] at hS
   by_cases h1:n=1
   ·rw [if_pos h1] at hS
    rw [show (n:Int)=1 by omega] at hl
    repeat' (first|(apply nx;with_reducible constructor)|refine jq (by decide) ?_|((first|refine kz env fun Q hQ=>?_|refine kj fun Q hQ=>?_);simp only [vkt,seval,jy,xF,ql,eTk,gTk,qa,qb,lnA,lnB,MapKept.IsKey,List.length_map,d1,e9,hx,hl,hM,hkm,decide_true];(try simp only [ite_and]);(repeat' (first|with_reducible assumption|refine And.intro ?_ ?_|intro hp));all_goals (first|(refine hQ _ ?_;clear hQ Q)|(refine hQ _ (fun h=>?_) (fun h=>?_) <;> clear hQ Q <;> (try simp only [vki,reduceCtorEq] at h))|(refine kx ?_;kernel_rfl)|omega|assumption|with_reducible rfl|skip)))
    refine ⟨⟨k+1,hkl⟩,by show c.sold.length - (k+1) < c.sold.length - k;omega, ?_⟩
    show Le _ (lnB c es (k+1))
    unfold lnB
    rw [hS]
    (refine Le.ok (fun i=>if i=2 then some 5 else some i) [] ?_;constructor;all_goals (try simp only [vle,vkt,seval,jy,xF,ql,eTk,gTk,qa,qb,lnA,lnB,MapKept.IsKey,List.length_map]))
    all_goals first|rfl|(rw [List.map_append];rfl)|(simp;done)|(intro i hi;rw [if_neg (by omega)];done)
   ·rw [if_neg h1] at hS
    have d2:decide ((n:Int)=1)=false:=decide_eq_false (by omega)
    repeat' (first|(apply nx;with_reducible constructor)|refine jq (by decide) ?_|((first|refine kz env fun Q hQ=>?_|refine kj fun Q hQ=>?_);simp only [vkt,seval,jy,xF,ql,eTk,gTk,qa,qb,lnA,lnB,MapKept.IsKey,List.length_map,d1,e9,hx,hl,hM,d2];(try simp only [ite_and]);(repeat' (first|with_reducible assumption|refine And.intro ?_ ?_|intro hp));all_goals (first|(refine hQ _ ?_;clear hQ Q)|(refine hQ _ (fun h=>?_) (fun h=>?_) <;> clear hQ Q <;> (try simp only [vki,reduceCtorEq] at h))|(refine kx ?_;kernel_rfl)|omega|assumption|with_reducible rfl|skip)))
    refine ⟨⟨k+1,hkl⟩,by show c.sold.length - (k+1) < c.sold.length - k;omega, ?_⟩
    show Le _ (lnB c es (k+1))
    unfold lnB
    rw [hS]
    (refine Le.ok some [] ?_;constructor;all_goals (try simp only [vle,vkt,seval,jy,xF,ql,eTk,gTk,qa,qb,lnA,lnB,MapKept.IsKey,List.length_map]))
    all_goals first|rfl|(simp;done)
  ·have d1:decide ((k:Int) < (c.sold.length:Int))=false:=decide_eq_false (by omega)
   obtain rfl:k=c.sold.length:=by omega
   have hall:=Qdb c.sold
   repeat' (first|(apply nx;with_reducible constructor)|refine jq (by decide) ?_|((first|refine kz env fun Q hQ=>?_|refine kj fun Q hQ=>?_);simp only [vkt,seval,jy,xF,ql,eTk,gTk,qa,qb,lnA,lnB,MapKept.IsKey,List.length_map,d1,hall];(try simp only [ite_and]);(repeat' (first|with_reducible assumption|refine And.intro ?_ ?_|intro hp));all_goals (first|(refine hQ _ ?_;clear hQ Q)|(refine hQ _ (fun h=>?_) (fun h=>?_) <;> clear hQ Q <;> (try simp only [vki,reduceCtorEq] at h))|(refine kx ?_;kernel_rfl)|omega|assumption|with_reducible rfl|skip)))
   simp only [vrt,Tryz.results63,vkt,seval,jy,xF,ql,eTk,gTk,qa,qb,lnA,lnB,MapKept.IsKey,List.length_map]
   show Fin _ _ _ 0 (qj []) 0
   refine Fin.ok some [2] ?_ ?_ ?_ ?_ ?_ rfl
   all_goals (try simp only [vle,vkt,seval,jy,xF,ql,eTk,gTk,qa,qb,lnA,lnB,MapKept.IsKey,List.length_map])
   all_goals first|rfl|(simp;done)
def Z7:List AV→Prop × AV
 |[.agg [.sl c0,.v (.int .i64 c1),.sl c2]]=>(c0=(c0.map qw).map qh∧c2=(c2.map dTk).map eTk∧((⟨(c0.map qw),c1,(c2.map dTk)⟩:Chart)).sold.length≤100,qz (zS ((⟨(c0.map qw),c1,(c2.map dTk)⟩:Chart)).sold))
 |_=>(False,.junk)
theorem elone {A:Frm→Prop}:qE A Tryz.prog 63 (qX false Z7):=qW fun vs hv h=>by
 clear hv
 unfold Z7 at h ⊢
 split at h
 ·rename_i c0 c1 c2;obtain ⟨q0,q1,k0⟩:=h
  refine ⟨by first|trivial|(simp [AV.plain,AV.plainL,aI,aB,qz,qc,ql,qf,aTk,cTk];done)|(repeat' split) <;> simp [AV.plain,AV.plainL,aI,aB,qz,qc,ql,qf,aTk,cTk],fun h=>absurd h (by decide), ?_⟩
  have:=QhZ ((⟨(c0.map qw),c1,(c2.map dTk)⟩:Chart)) k0
  simp only [qY,qa,aI,ql,qb,← q0,← q1] at this
  first|exact this|(simp only [qY,qa,aI,ql,qb,← q0,← q1];exact this)
 ·exact h.elim
theorem V6 (sold:List Tk) (n:Nat) (b:Bunk) {x:Tk} (hx:sold.getD n default=x):(vw sold n b).map eTk=(sold.map eTk).set n [.v (.int .i64 x.party),.v (.int .i64 x.sex),.v (.int .i64 b.cab),.v (.int .i64 b.bed),.v (.int .i64 x.frm),.v (.int .i64 x.to),.v (.bool x.dog)]:=by
 unfold vw
 rw [hx,List.map_set]
 rfl
theorem Z0 (sold:List Tk) (n:Nat) (b:Bunk):(vw sold n b).length=sold.length:=by simp [vw]
theorem Qf5 (sold:List Tk) (n:Nat) (b d:Bunk) (h:n < sold.length):vw (vw sold n b) n d=vw sold n d:=by
 unfold vw
 rw [show (sold.set n ⟨(sold.getD n default).party,(sold.getD n default).sex,b.cab,b.bed,(sold.getD n default).frm,(sold.getD n default).to,(sold.getD n default).dog⟩).getD n default=⟨(sold.getD n default).party,(sold.getD n default).sex,b.cab,b.bed,(sold.getD n default).frm,(sold.getD n default).to,(sold.getD n default).dog⟩ by simp [List.getD_eq_getElem?_getD,h]]
 simp
theorem Qep (sold:List Tk) (n:Nat) (h:n < sold.length):vw sold n (sold.getD n default).bunk=sold:=by
 unfold vw Tk.bunk
 rw [show (⟨(sold.getD n default).party,(sold.getD n default).sex,(sold.getD n default).cab,(sold.getD n default).bed,(sold.getD n default).frm,(sold.getD n default).to,(sold.getD n default).dog⟩:Tk)=sold[n] by simp [List.getD_eq_getElem?_getD,h]]
 exact List.set_getElem_self h
def s1L (cs:List Cabin) (s:Int) (sold:List Tk) (was:Bunk) (n:Nat):List AObj:=[qm cs s 1,qp sold,.cells [.ptr 0 0],.cells [.v (.int .i64 was.cab),.v (.int .i64 was.bed)],.cells [aI n]]
def WC:=kk @ty3 (kk @x9 (kk @yc (kk @xJ (kk @yU (kk @YW (kk @J2 (kk @ti3.eq_1 (kk @xD.eq_1 (kk @jM.eq_1 (kk @vZ.eq_1 (kk @yA.eq_1 (kk @JZ.eq_1 @ZQ.eq_1))))))))))))
def UE:=kk @aI.eq_1 (@aB.eq_1)
theorem Qe9 (cs:List Cabin) (s:Int) (sold:List Tk) (was:Bunk) (n:Nat) (hn:n < sold.length):FnD Tryz.prog 111 [.ptr 3 0,.ptr 2 0,.ptr 4 0] (qj (qQ 0 (s1L cs s sold was n))) (.tup []) (qj (wH 0 ((s1L cs s (vw sold n was) was n).map some))):=by
 have env:Env (fun F=>F.r=none) Tryz.prog tyB (tab []):=qL trivial
 refine FnD.of (n0:=5) (Fn0 Tryz.func111 rfl (fun vs w=>by kernel_rfl) (by kernel_rfl)) (by simp) (by simp [AV.ids,AV.idsL]) ?_ ?_
 ·intro i o hi
  have h:=qR hi
  simp [qQ,s1L] at h
  rcases h with ⟨rfl,rfl⟩|⟨rfl,rfl⟩|⟨rfl,rfl⟩|⟨rfl,rfl⟩|⟨rfl,rfl⟩ <;> simp [AObj.ids,AV.ids,AV.idsL,qm,qp,aI]
 obtain ⟨x,hx⟩:∃ x,sold.getD n default=x:=⟨_,rfl⟩
 have hp:=V6 sold n was hx
 have hg:=hTk hn
 rw [hx] at hg
 have i0:((n:Int)).toNat=n:=rfl
 show Sym _ _ _ (zV [.ptr 3 0,.ptr 2 0,.ptr 4 0] 5 (qj [(0,qm cs s 1),(1,qp sold),(2,.cells [.ptr 0 0]),(3,.cells [.v (.int .i64 was.cab),.v (.int .i64 was.bed)]),(4,.cells [aI n])])) (Qfz tyB Tryz.f111 fun S rv=>Fin S rv _ 5 (qj [(0,qm cs s 1),(1,.row 64 7 ((vw sold n was).map eTk)),(2,.cells [.ptr 0 0]),(3,.cells [.v (.int .i64 was.cab),.v (.int .i64 was.bed)]),(4,.cells [aI n])]) 0)
 rw [hp]
 repeat' (first|(apply nx;with_reducible constructor)|refine jq (by decide) ?_|((first|refine kz env fun Q hQ=>?_|refine kj fun Q hQ=>?_);simp only [vkt,seval,WC,UE,eTk,qm,qp,s1L,List.length_map,hg,i0,hn];(try simp only [ite_and]);(repeat' (first|with_reducible assumption|refine And.intro ?_ ?_|intro hp));all_goals (first|(refine hQ _ ?_;clear hQ Q)|(refine hQ _ (fun h=>?_) (fun h=>?_) <;> clear hQ Q <;> (try simp only [vki,reduceCtorEq] at h))|(refine kx ?_;kernel_rfl)|omega|assumption|with_reducible rfl|skip)))
 simp only [Qfz.eq_1]
 refine ⟨trivial, ?_⟩
 (simp only [vrt,Tryz.results111,vkt,seval,WC,UE,eTk,qm,qp,s1L,List.length_map];refine Fin.ok some [] ?_ ?_ ?_ ?_ ?_ rfl;all_goals (try simp only [vle,vkt,seval,WC,UE,eTk,qm,qp,s1L,List.length_map]))
 all_goals first|rfl|(simp;done)
def jb (S:St):List AV→Option Pk
 |[.ptr w 0,.ptr q 0,.ptr m 0]=>match S.h w,S.h q,S.h m with
  |some (.cells [.v (.int .i64 a),.v (.int .i64 b)]),some (.cells [.ptr c 0]),some (.cells [.v (.int .i64 n)])=>match S.h c with
   |some (.cells [.sl cs,.v (.int .i64 s),.row r])=>match S.h r with
    |some (.row _ _ xs)=>some { pre:=cs=(cs.map qw).map qh∧xs=(xs.map dTk).map eTk∧n=(n.toNat:Int)∧n.toNat < (xs.map dTk).length,hs:=[c,r,q,w,m],ar:=[.ptr 3 0,.ptr 2 0,.ptr 4 0],L0:=s1L (cs.map qw) s (xs.map dTk) ⟨a,b⟩ n.toNat,v:=.tup [],L1:=(s1L (cs.map qw) s (vw (xs.map dTk) n.toNat ⟨a,b⟩) ⟨a,b⟩ n.toNat).map some }
    |_=>none
   |_=>none
  |_,_,_=>none
 |_=>none
theorem QiR {A:Frm→Prop}:ZB.OK A Tryz.prog (dfE 111 jb):=QgJ fun S bs q h hp=>by
 unfold jb at h
 split at h
 ·split at h
  ·split at h
   ·split at h
    ·cases h
     obtain ⟨h1,h2,h3,h4⟩:=hp
     exact Qe9 _ _ _ _ _ h4
    ·cases h
   ·cases h
  ·cases h
 ·cases h
theorem QcV (f:Bunk→Option (List Tr)):∀ l:List Bunk,∃ R,R≤l.length∧(∀ j,j+1 < R→f (l.getD j default)=none)∧(R < l.length→0 < R∧f (l.getD (R - 1) default) ≠ none)∧l.findSome? f=if R=0 then none else f (l.getD (R - 1) default)
 |[]=>⟨0,Nat.le_refl _,fun _ h=>absurd h (Nat.not_lt_zero _),fun h=>absurd h (Nat.lt_irrefl _),rfl⟩
 |b :: l=>by
  cases hb:f b with
  |some t =>
   refine ⟨1,by simp,fun j h=>by omega,fun _=>⟨by omega, ?_⟩, ?_⟩
   ·show f b ≠ none
    rw [hb];simp
   ·rw [List.findSome?_cons,hb,if_neg (by omega)]
    exact hb.symm
  |none =>
   obtain ⟨R,h1,h2,h3,h4⟩:=QcV f l
   refine ⟨R+1,by simpa using h1,fun j hj=>?_,fun hlt=>?_, ?_⟩
   ·cases j with
    |zero=>exact hb
    |succ j=>exact h2 j (by omega)
   ·obtain ⟨g1,g2⟩:=h3 (by simpa using hlt)
    refine ⟨by omega, ?_⟩
    rw [show R+1 - 1=(R - 1)+1 by omega]
    exact g2
   ·rw [List.findSome?_cons,hb,if_neg (by omega)]
    simp only
    rw [h4]
    by_cases hR:R=0
    ·subst hR;rw [if_pos rfl];exact hb.symm
    ·rw [if_neg hR,show R+1 - 1=(R - 1)+1 by omega];rfl
def shF (cs:List Cabin) (s:Int) (a:Ask) (r:List Int) (sold:List Tk) (k:Nat) (b:Bunk):Option (List Tr):=if b=(sold.getD k default).bunk then none else (wP cs s a r (vw sold k b)).map (⟨(k:Int),b.cab,b.bed⟩ :: ·)
theorem Qau (cs:List Cabin) (s:Int) (a:Ask) (r:List Int) (sold:List Tk) (k:Nat):wP cs s a ((k:Int) :: r) sold=(qV cs).findSome? (shF cs s a r sold k):=rfl
def JV (cs:List Cabin) (sold:List Tk) (k:Nat):Nat→List Tk
 |0=>sold
 |j+1=>if (qV cs).getD j default=(sold.getD k default).bunk then JV cs sold k j else vw sold k ((qV cs).getD j default)
theorem Ru (cs:List Cabin) (sold:List Tk) (k:Nat) (h:k < sold.length):∀ j,(JV cs sold k j).length=sold.length∧∀ d,vw (JV cs sold k j) k d=vw sold k d
 |0=>⟨rfl,fun _=>rfl⟩
 |j+1=>by
  rw [JV]
  split
  ·exact Ru cs sold k h j
  ·exact ⟨Z0 _ _ _,fun d=>Qf5 _ _ _ _ h⟩
structure ShOk (cs:List Cabin) (s:Int) (a:Ask) (sold:List Tk) (ts:List Int):Prop where
 cabs:1≤cs.length∧cs.length≤3
 beds:∀ x ∈ cs,1≤x.beds∧x.beds≤3
 many:sold.length≤8
 sx:a.sexes.length≤3
 lenT:ts.length≤3
 ts:∀ n ∈ ts,0≤n∧n.toNat < sold.length
theorem ShOk.tail {cs:List Cabin} {s:Int} {a:Ask} {sold:List Tk} {n:Int} {r:List Int} (h:ShOk cs s a sold (n :: r)) (m:Nat) (b:Bunk):ShOk cs s a (vw sold m b) r:=by
 refine ⟨h.cabs,h.beds,by rw [Z0];exact h.many,h.sx,by have:=h.lenT;simp at this;omega,fun n hn=>?_⟩
 rw [Z0]
 exact h.ts n (List.mem_cons_of_mem _ hn)
theorem XZ {cs:List Cabin} {s:Int} {a:Ask}:∀ {ts:List Int} {sold:List Tk} {l:List Tr},wP cs s a ts sold=some l→l.length=ts.length
 |[],sold,l,h=>by
  unfold wP at h
  split at h
  ·cases h;rfl
  ·cases h
 |n :: r,sold,l,h=>by
  unfold wP at h
  obtain ⟨b,hb⟩:∃ b,(if b=(sold.getD n.toNat default).bunk then none else (wP cs s a r (vw sold n.toNat b)).map (⟨n,b.cab,b.bed⟩ :: ·))=some l:=by
   obtain ⟨b,_,hb⟩:=List.exists_of_findSome?_eq_some h
   exact ⟨b,hb⟩
  split at hb
  ·cases hb
  ·obtain ⟨l',hl',rfl⟩:=Option.map_eq_some_iff.1 hb
   rw [List.length_cons,XZ hl',List.length_cons]
def QfJ (cs:List Cabin) (s:Int) (a:Ask) (m:Nat):Prop:=∀ (sold:List Tk) (ts:List Int),ts.length=m→ShOk cs s a sold ts →
 Fn noB Tryz.prog 66 [.ptr 0 0,qz ts,qx a] (qj (qQ 0 (qy cs s sold))) (.tup [qI ((wP cs s a ts sold).getD []),aB (wP cs s a ts sold).isSome]) (qj (wH 0 ((qy cs s sold).map some))) 0
def s0L0:List (Nat × AV):=[(6,.ptr 5 0),(7,.ptr 6 0),(24,.clo 103 [.ptr 7 0,.ptr 8 0])]
def s0L:List (Nat × AV):=[(6,.ptr 5 0),(7,.ptr 6 0)]
def s0H (k:Nat):List (Nat × AObj):=[(5,.cells [.nil]),(6,.cells [aB (decide (0 < k))])]
theorem Xk (c:Chart) (a:Ask):zk [0,1,7,8] 10 0 (plL c a)=[(0,qm c.cabins c.secs 1),(1,qp c.sold),(7,.cells [.ptr 0 0]),(8,.cells (qg a))]:=by
 simp [zk,plL,qB,AObj.ren,AV.renL,AV.ren,qm,qp,qg]
theorem UI (c:Chart) (a:Ask) (j:Nat):zk [0] 10 0 (plH c a j)=[(0,qm c.cabins c.secs 10),(10,qp ((plP c a).getD j default).2)]:=by
 simp [zk,plH,qy,qB,AObj.ren,AV.renL,AV.ren,qm,qp]
def wY:=kk @ty3 (kk @ty4 (kk @x9 (kk @yc (kk @Qe (kk @QM (kk @Zc (kk @UZ (kk @xJ (kk @yU (kk @Uc (kk @YW (kk @J2 (kk @ti3.eq_1 (kk @ti4.eq_1 (kk @xD.eq_1 (kk @jM.eq_1 (kk @x8.eq_1 (kk @Qb.eq_1 (kk @QA.eq_1 (kk @VL.eq_1 (kk @vZ.eq_1 (kk @yA.eq_1 (kk @VQ.eq_1 (kk @JZ.eq_1 @ZQ.eq_1))))))))))))))))))))))))
def xG:=kk @aI.eq_1 (kk @aB.eq_1 (kk @qz.eq_1 (@QT)))
set_option maxHeartbeats 2000000 in
theorem Qa7 (cs:List Cabin) (s:Int) (a:Ask):QfJ cs s a 0:=by
 intro sold ts ht ok
 obtain rfl:=List.eq_nil_of_length_eq_zero ht
 have env:Env (fun F=>F.r=none) Tryz.prog tyB (tab [(76,qX true w9),(52,fnE qK)]):=qL ⟨U5,V5,trivial⟩
 refine Fn.of (A:=fun F=>F.r=none) (n0:=2) (D:=noD) (Fn0 Tryz.func66 rfl (fun vs w=>by kernel_rfl) (by kernel_rfl)) (by simp) (by simp [AV.ids,AV.idsL,qz,qx,qg]) Ql (fun _ _ _ h=>h) qF ?_
 obtain ⟨c,hc⟩:∃ c:Chart,(⟨cs,s,sold⟩:Chart)=c:=⟨_,rfl⟩
 have e1:cs=c.cabins:=by rw [← hc]
 have e2:s=c.secs:=by rw [← hc]
 have e3:sold=c.sold:=by rw [← hc]
 have hcm:c.cabins.length≤maxLen:=by
  have h1:=ok.cabs
  have h2:(3:Nat)≤maxLen:=by decide
  rw [← e1];omega
 show Sym _ _ _ (zV [.ptr 0 0,qz [],qx a] 2 (qj [(0,qm cs s 1),(1,qp sold)])) (xM tyB noD Tryz.f66 fun S rv=>Fin S rv (.tup [qI ((if zu ⟨cs,s,sold⟩=0∧plP ⟨cs,s,sold⟩ a ≠ [] then some [] else none:Option (List Tr)).getD []),aB (if zu ⟨cs,s,sold⟩=0∧plP ⟨cs,s,sold⟩ a ≠ [] then some [] else none:Option (List Tr)).isSome]) 2 (qj [(0,qm cs s 1),(1,qp sold)]) 0)
 rw [e1,e2,e3] at hc ⊢
 rw [hc]
 by_cases h0:zu c=0
 ·have hpo:PlOk c a:=⟨QK h0,ok.sx⟩
  repeat' (first|(apply nx;with_reducible constructor)|refine jq (by decide) ?_|refine wX ?_|refine jK ?_|refine jJ ?_|refine jF ?_|((first|refine kz env fun Q hQ=>?_|refine kj fun Q hQ=>?_);simp only [vkt,seval,wY,xG,qI,qx,qg,qd,mTk,qm,qp,qy,plL,s0L,s0H,w9,qK,List.length_map,List.map_nil,nth,hwL,Nat.zero_add,Nat.sub_zero,hc,h0,decide_true];(try simp only [ite_and]);(repeat' (first|with_reducible assumption|refine And.intro ?_ ?_|intro hp));all_goals (first|(refine hQ _ ?_;clear hQ Q)|(refine hQ _ (fun h=>?_) (fun h=>?_) <;> clear hQ Q <;> (try simp only [vki,reduceCtorEq] at h))|(refine kx ?_;kernel_rfl)|omega|assumption|with_reducible rfl|skip)))
  refine kY (S':={ t:=asg s0L0,h:=qj (s0H 0++[(0,qm c.cabins c.secs 1),(1,qp c.sold),(7,.cells [.ptr 0 0]),(8,.cells (qg a))]),n:=9,j:=0,d:=[],m:=2 }) ?_ ?_
  ·show Le _ { t:=asg [(6,.ptr 5 0),(7,.ptr 6 0),(24,.clo 103 [.ptr 7 0,.ptr 8 0])],h:=qj [(5,.cells [.nil]),(6,.cells [aB false]),(0,qm c.cabins c.secs 1),(1,qp c.sold),(7,.cells [.ptr 0 0]),(8,.cells (qg a))],n:=9,j:=0,d:=[],m:=2 }
   (refine Le.ok some [] ?_;constructor;all_goals (try simp only [vle,vkt,seval,wY,xG,qI,qx,qg,qd,mTk,qm,qp,qy,plL,s0L,s0H,w9,qK,List.length_map,List.map_nil,nth,hwL,Nat.zero_add,Nat.sub_zero]))
   all_goals first|rfl|(simp [qg,AV.leL,AV.le,AV.idsL,AV.ids];done)
  rw [← Xk c a]
  obtain ⟨N,hN⟩:∃ N,(plP c a).length=N:=⟨_,rfl⟩
  obtain ⟨R,hR⟩:∃ R,(if N=0 then 0 else 1)=R:=⟨_,rfl⟩
  have hRo:Rounds (fun _=>false) R N:=by
   by_cases hN0:N=0
   ·rw [if_pos hN0] at hR
    exact ⟨by omega,fun j hj=>by omega,fun h=>by omega⟩
   ·rw [if_neg hN0] at hR
    exact ⟨by omega,fun j hj=>by omega,fun h=>⟨by omega,rfl⟩⟩
  have hR1:∀ j,j < R→j=0∧R=1:=fun j hj=>by
   by_cases hN0:N=0
   ·rw [if_pos hN0] at hR;omega
   ·rw [if_neg hN0] at hR;omega
  refine xY (fun F h=>h) 1 (L:=s0L0) (L':=s0L) (xs:=[1,7,8]) (hs:=[0,1,7,8]) (n:=9) (nl:=1) (hc:=s0H) (Lp:=plL c a) (jj:=fun _=>0) (d:=[]) (ys:=plY c a) (hl:=plH c a) (ans:=fun _=>false) (ex:=.ret) (caps:=[.ptr 7 0,.ptr 8 0]) (caps0:=[.ptr 2 0,.ptr 3 0]) (N:=(plP c a).length) (R:=R) (A':=fun _ _=>True) rfl (JU hpo) (by rw [hN];exact hRo) (.inl rfl) ?_ ?_ ?_ rfl (by simp) ?_ (by simp) (fun _ _ _ _ _ _=>trivial) ?_ ?_ ?_ ?_ ?_ ?_ (fun j hj=>?_) ?_ (fun j hj=>?_) (fun hall=>?_) (fun hpos _=>?_)
  ·simp [AV.leL,AV.le]
  ·simp [AV.nocbL,AV.nocb]
  ·simp [J4,plL,qm,qp,qg,AObj.nocb,AV.nocbL,AV.nocb,AObj.ids,AV.ids,AV.idsL,AObj.ren,AV.renL,AV.ren,AObj.le,AV.leL,AV.le,qB]
  ·simp [s0H,qj]
  ·simp [s0H,qj]
  ·simp [s0H,AObj.ids,AV.ids,AV.idsL,aB]
  ·simp [LP,s0L,s0L0,asg,upd]
  ·simp [Qbd]
  ·intro j hj
   simp [absent,s0H,UI]
  ·simp [Vt,s0L,AV.ids]
  ·refine ⟨?_,rfl, ?_, ?_,rfl, ?_⟩
   ·simp [Zp,s0H,AObj.ids,AV.ids,AV.idsL,aB]
   ·simp [Js,plH,qy,qm,qp,AObj.nocb,AV.nocbL,AV.nocb,AObj.ids,AV.ids,AV.idsL]
   ·simp [Xe,plY,qc,AV.nocb,AV.ids]
   ·simp [Zk,J3,UI,s0H,s0L,Qf,AV.ids,ADf.ids,List.range_succ]
  ·simp [Zp,s0H,AObj.ids,AV.ids,AV.idsL,aB]
  ·obtain ⟨rfl,hR1⟩:=hR1 j hj
   have env:Env (fun _:Frm=>True) Tryz.prog tyB (tab []):=qL trivial
   obtain ⟨x,hx⟩:∃ x,((plP c a).getD 0 default).1=x:=⟨_,rfl⟩
   obtain ⟨r,hr⟩:∃ r,((plP c a).getD 0 default).2=r:=⟨_,rfl⟩
   have hst:ym s0L [25] [0] 9 1 (plY c a 0) (s0H 0) (plH c a 0)={ t:=asg [(25,qc x),(6,.ptr 5 0),(7,.ptr 6 0)],h:=qj [(9,.mark),(5,.cells [.nil]),(6,.cells [aB false]),(0,qm c.cabins c.secs 10),(10,qp r)],n:=11,m:=11 }:=by
    simp only [ym,Nat.reduceAdd,UI,plY,hx,hr,qc,List.map_cons,List.map_nil,AV.ren,List.zip_cons_cons,List.zip_nil_right,s0H,s0L,We,List.cons_append,List.nil_append]
    rfl
   show Sym _ _ _ (ym s0L [25] [0] 9 1 (plY c a 0) (s0H 0) (plH c a 0)) _
   rw [hst]
   repeat' (first|(apply nx;with_reducible constructor)|refine jq (by decide) ?_|refine wX ?_|refine jK ?_|refine jJ ?_|refine jF ?_|((first|refine kz env fun Q hQ=>?_|refine kj fun Q hQ=>?_);simp only [vkt,seval,wY,xG,qI,qx,qg,qd,mTk,qm,qp,qy,plL,s0L,s0H,w9,qK,List.length_map,List.map_nil,nth,hwL,Nat.zero_add,Nat.sub_zero];(try simp only [ite_and]);(repeat' (first|with_reducible assumption|refine And.intro ?_ ?_|intro hp));all_goals (first|(refine hQ _ ?_;clear hQ Q)|(refine hQ _ (fun h=>?_) (fun h=>?_) <;> clear hQ Q <;> (try simp only [vki,reduceCtorEq] at h))|(refine kx ?_;kernel_rfl)|omega|assumption|with_reducible rfl|skip)))
   refine ⟨rfl,rfl,some,_,RFin.okQ some [] ?_⟩
   constructor
   all_goals (try simp only [vle,kV,kC,qB,plH,hr,vkt,seval,wY,xG,qI,qx,qg,qd,mTk,qm,qp,qy,plL,s0L,s0H,w9,qK,List.length_map,List.map_nil,nth,hwL,Nat.zero_add,Nat.sub_zero])
   all_goals first|rfl|(simp;done)
  ·have hR0:R=0:=by
    by_cases h:R=0
    ·exact h
    ·exact absurd (hall 0 (by omega)) (by simp)
   have hN0:N=0:=by
    by_cases h:N=0
    ·exact h
    ·rw [if_neg h] at hR;omega
   have hpe:plP c a=[]:=List.eq_nil_of_length_eq_zero (by rw [hN];exact hN0)
   have eh:qj ((9,AObj.mark) :: s0H R++zk [0,1,7,8] (9+1) 0 (plL c a))=qj [(9,.mark),(5,.cells [.nil]),(6,.cells [aB false]),(0,qm c.cabins c.secs 1),(1,qp c.sold),(7,.cells [.ptr 0 0]),(8,.cells (qg a))]:=by
    rw [show zk [0,1,7,8] (9+1) 0 (plL c a)=zk [0,1,7,8] 10 0 (plL c a) from rfl,Xk,hR0];rfl
   rw [eh,if_neg (by simp [hpe])]
   repeat' (first|(apply nx;with_reducible constructor)|refine jq (by decide) ?_|refine wX ?_|refine jK ?_|refine jJ ?_|refine jF ?_|((first|refine kz env fun Q hQ=>?_|refine kj fun Q hQ=>?_);simp only [vkt,seval,wY,xG,qI,qx,qg,qd,mTk,qm,qp,qy,plL,s0L,s0H,w9,qK,List.length_map,List.map_nil,nth,hwL,Nat.zero_add,Nat.sub_zero];(try simp only [ite_and]);(repeat' (first|with_reducible assumption|refine And.intro ?_ ?_|intro hp));all_goals (first|(refine hQ _ ?_;clear hQ Q)|(refine hQ _ (fun h=>?_) (fun h=>?_) <;> clear hQ Q <;> (try simp only [vki,reduceCtorEq] at h))|(refine kx ?_;kernel_rfl)|omega|assumption|with_reducible rfl|skip)))
   (simp only [vrt,Tryz.results66,vkt,seval,wY,xG,qI,qx,qg,qd,mTk,qm,qp,qy,plL,s0L,s0H,w9,qK,List.length_map,List.map_nil,nth,hwL,Nat.zero_add,Nat.sub_zero];refine Fin.ok some [] ?_ ?_ ?_ ?_ ?_ rfl;all_goals (try simp only [vle,vkt,seval,wY,xG,qI,qx,qg,qd,mTk,qm,qp,qy,plL,s0L,s0H,w9,qK,List.length_map,List.map_nil,nth,hwL,Nat.zero_add,Nat.sub_zero]))
   all_goals first|rfl|(simp [qg,AV.leL,AV.le];done)|exact fun i hi=>(match i,hi with|0,_=>rfl|1,_=>rfl)
  ·have hRe:=(hR1 0 hpos).2
   have hN0:¬ N=0:=fun h=>by rw [if_pos h] at hR;omega
   have hpe:plP c a ≠ []:=fun h=>by rw [h] at hN;exact hN0 hN.symm
   have eh:qj ((9,AObj.mark) :: s0H R++zk [0,1,7,8] (9+1) 0 (plL c a))=qj [(9,.mark),(5,.cells [.nil]),(6,.cells [aB true]),(0,qm c.cabins c.secs 1),(1,qp c.sold),(7,.cells [.ptr 0 0]),(8,.cells (qg a))]:=by
    rw [show zk [0,1,7,8] (9+1) 0 (plL c a)=zk [0,1,7,8] 10 0 (plL c a) from rfl,Xk,hRe];rfl
   rw [eh,if_pos ⟨h0,hpe⟩]
   repeat' (first|(apply nx;with_reducible constructor)|refine jq (by decide) ?_|refine wX ?_|refine jK ?_|refine jJ ?_|refine jF ?_|((first|refine kz env fun Q hQ=>?_|refine kj fun Q hQ=>?_);simp only [vkt,seval,wY,xG,qI,qx,qg,qd,mTk,qm,qp,qy,plL,s0L,s0H,w9,qK,List.length_map,List.map_nil,nth,hwL,Nat.zero_add,Nat.sub_zero];(try simp only [ite_and]);(repeat' (first|with_reducible assumption|refine And.intro ?_ ?_|intro hp));all_goals (first|(refine hQ _ ?_;clear hQ Q)|(refine hQ _ (fun h=>?_) (fun h=>?_) <;> clear hQ Q <;> (try simp only [vki,reduceCtorEq] at h))|(refine kx ?_;kernel_rfl)|omega|assumption|with_reducible rfl|skip)))
   (simp only [vrt,Tryz.results66,vkt,seval,wY,xG,qI,qx,qg,qd,mTk,qm,qp,qy,plL,s0L,s0H,w9,qK,List.length_map,List.map_nil,nth,hwL,Nat.zero_add,Nat.sub_zero];refine Fin.ok some [] ?_ ?_ ?_ ?_ ?_ rfl;all_goals (try simp only [vle,vkt,seval,wY,xG,qI,qx,qg,qd,mTk,qm,qp,qy,plL,s0L,s0H,w9,qK,List.length_map,List.map_nil,nth,hwL,Nat.zero_add,Nat.sub_zero]))
   all_goals first|rfl|(simp [qg,AV.leL,AV.le];done)|exact fun i hi=>(match i,hi with|0,_=>rfl|1,_=>rfl)
 ·rw [if_neg (fun h=>h0 h.1)]
  repeat' (first|(apply nx;with_reducible constructor)|refine jq (by decide) ?_|refine wX ?_|refine jK ?_|refine jJ ?_|refine jF ?_|((first|refine kz env fun Q hQ=>?_|refine kj fun Q hQ=>?_);simp only [vkt,seval,wY,xG,qI,qx,qg,qd,mTk,qm,qp,qy,plL,s0L,s0H,w9,qK,List.length_map,List.map_nil,nth,hwL,Nat.zero_add,Nat.sub_zero,hc,h0,decide_true];(try simp only [ite_and]);(repeat' (first|with_reducible assumption|refine And.intro ?_ ?_|intro hp));all_goals (first|(refine hQ _ ?_;clear hQ Q)|(refine hQ _ (fun h=>?_) (fun h=>?_) <;> clear hQ Q <;> (try simp only [vki,reduceCtorEq] at h))|(refine kx ?_;kernel_rfl)|omega|assumption|with_reducible rfl|skip)))
  (simp only [vrt,Tryz.results66,vkt,seval,wY,xG,qI,qx,qg,qd,mTk,qm,qp,qy,plL,s0L,s0H,w9,qK,List.length_map,List.map_nil,nth,hwL,Nat.zero_add,Nat.sub_zero];refine Fin.ok some [] ?_ ?_ ?_ ?_ ?_ rfl;all_goals (try simp only [vle,vkt,seval,wY,xG,qI,qx,qg,qd,mTk,qm,qp,qy,plL,s0L,s0H,w9,qK,List.length_map,List.map_nil,nth,hwL,Nat.zero_add,Nat.sub_zero]))
  all_goals first|rfl|(simp [qg,AV.leL,AV.le];done)
def yu (cs:List Cabin) (s:Int) (a:Ask) (m:Nat) (S:St):List AV→Option Pk
 |[.ptr p 0,.sl ts,.agg aa]=>match S.h p with
  |some (.cells [.sl cc,.v (.int .i64 s'),.row r])=>match S.h r with
   |some (.row _ _ xs)=>some { pre:=cc=cs.map qh∧s'=s∧aa=qg a∧ts=(ts.map zb).map zF∧xs=(xs.map dTk).map eTk∧(ts.map zb).length=m∧ShOk cs s a (xs.map dTk) (ts.map zb),hs:=[p,r],ar:=[.ptr 0 0,.sl ts,.agg aa],L0:=qy cs s (xs.map dTk),v:=.tup [qI ((wP cs s a (ts.map zb) (xs.map dTk)).getD []),aB (wP cs s a (ts.map zb) (xs.map dTk)).isSome],L1:=(qy cs s (xs.map dTk)).map some }
   |_=>none
  |_=>none
 |_=>none
theorem Qkx {A:Frm→Prop} {cs:List Cabin} {s:Int} {a:Ask} {m:Nat} (ih:QfJ cs s a m):qE A Tryz.prog 66 (fnE (yu cs s a m)):=zY fun S bs q h hp=>by
 unfold yu at h
 split at h
 ·split at h
  ·split at h
   ·cases h
    obtain ⟨_,_,h3,h4,_,h6,h7⟩:=hp
    have:=ih _ _ h6 h7
    rw [qz,← h4,qx,← h3] at this
    exact this
   ·cases h
  ·cases h
 ·cases h
def shT:List (Nat × AV):=[(3,.ptr 2 0),(4,.ptr 3 0),(5,.ptr 4 0),(6,.ptr 5 0),(7,.ptr 6 0),(8,.ptr 7 0),(9,.ptr 8 0)]
def shT0:List (Nat × AV):=shT++[(43,.clo 117 [.ptr 9 0])]
def JY (cs:List Cabin) (s:Int) (a:Ask) (r:List Int) (sold:List Tk) (k j:Nat):Option (List Tr):=if j=0 then none else shF cs s a r sold k ((qV cs).getD (j - 1) default)
def shH (cs:List Cabin) (s:Int) (a:Ask) (ts:List Int) (k:Nat) (was:Bunk) (T:List Tk) (o:Option (List Tr)):List (Nat × AObj):=[(0,qm cs s 1),(1,qp T),(2,.cells [.ptr 0 0]),(3,.cells [.sl (ts.map zF)]),(4,.cells (qg a)),(5,.cells [.sl ((o.getD []).map eTr)]),(6,.cells [aB o.isSome]),(7,.cells [aI k]),(8,.cells [.v (.int .i64 was.cab),.v (.int .i64 was.bed)])]
theorem V3 (cs:List Cabin) (s:Int):zk [9] 11 0 [buO cs s]=[(9,buO cs s)]:=by
 simp [zk,qB,buO,AObj.ren,AV.renL,AV.ren]
def zy:=kk @ty3 (kk @ty4 (kk @x9 (kk @yc (kk @Qe (kk @QM (kk @Zc (kk @UZ (kk @xJ (kk @yU (kk @Uc (kk @YW (kk @J2 (kk @ti3.eq_1 (kk @ti4.eq_1 (kk @xD.eq_1 (kk @jM.eq_1 (kk @x8.eq_1 (kk @Qb.eq_1 (kk @QA.eq_1 (kk @VL.eq_1 (kk @vZ.eq_1 (kk @yA.eq_1 (kk @VQ.eq_1 (kk @JZ.eq_1 @ZQ.eq_1))))))))))))))))))))))))
def jO:=kk @aI.eq_1 (kk @aB.eq_1 (kk @qz.eq_1 (kk @QT (kk @Kv (@zF.eq_1)))))
end Go.Sym.B
