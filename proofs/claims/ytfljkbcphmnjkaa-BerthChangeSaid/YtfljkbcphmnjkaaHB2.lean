/- Walks and what they compute, joined: part 2. -/
import Derived.Test.YtfljkbcphmnjkaaHS3
import Derived.Test.YtfljkbcphmnjkaaProg
import Derived.KernelRfl
import Derived.Test.YtfljkbcphmnjkaaHB1
set_option linter.all false
namespace Go.Sym.B
open Go Go.Sym Go.Proofs Go.Sym.C
theorem with_fn {cs:List Cabin} {s:Int} {a:Ask} {m:Nat} (ih:Grow1Fn cs s a m):WithFn cs s a m:=by
  intro sold t begun ys hl ans R ok
  obtain ⟨A0,hA0⟩:∃ A0:Frm→Prop,A0=fun F=>F.r=none∧Acb Try.prog (hasg (enumA 0 [carC cs s 1])) (hasg (enumA 0 (g1L cs s a sold begun))) ys (fun j=>nth (hl j)) ans R F:=⟨_,rfl⟩
  have hr:∀ F,A0 F→F.r=none:=fun F h=>by rw [hA0] at h;exact h.1
  have hA:∀ F,A0 F→Acb Try.prog (hasg (enumA 0 [carC cs s 1])) (hasg (enumA 0 (g1L cs s a sold begun))) ys (fun j=>nth (hl j)) ans R F:=fun F h=>by rw [hA0] at h;exact h.2
  have env:Env A0 Try.prog tyB (tab [(96,fnE pSell),(136,fnI [carC cs s 1] R (pGrow1 cs s a m ys hl ans R))]):=mkEnv ⟨eSell,eGrow1 ih hA,trivial⟩
  refine Fn.of (A:=A0) (n0:=6) (D:=dfE 125 pSell1) (Fn0 Try.func135 rfl (fun vs w=>by kernel_rfl) (by kernel_rfl)) (by simp) (by simp [AV.ids,AV.idsL,aTk,cTk]) g1_ids (fun F hb h0 h1=>by rw [hA0];exact ⟨h1,h0,pin0,hb⟩) dSell1 ?_
  have hle:=ok.rounds.le
  have eR:min (growP cs a m (sold++[t]) begun).length R=R:=by omega
  have hs1:=ok.many
  have hs2:sold.length≤100:=by rw [List.length_append] at hs1;omega
  have et:(⟨t.party,t.sex,t.cab,t.bed,t.frm,t.to,t.dog⟩:Tk)=t:=rfl
  have hgl:(List.map eTk sold++[eTk t]).getLastD []=eTk t:=by simp
  have hma:List.map eTk (sold++[t])=List.map eTk sold++[eTk t]:=by simp
  show Sym _ _ _ (startS [.ptr 0 0,aTk t,.clo 136 [.ptr 2 0,.ptr 3 0,.ptr 4 0,.ptr 5 0]] 6 (hasg [(0,carC cs s 1),(1,rowT sold),(2,.cells [.ptr 0 0]),(3,.cells (cAsk a)),(4,.cells [.sl (begun.map eBunk)]),(5,.cells [.cb])])) (retK tyB _ Try.f135 fun S rv=>Fin S rv _ 6 (hasg [(0,carC cs s 1),(1,rowT sold),(2,.cells [.ptr 0 0]),(3,.cells (cAsk a)),(4,.cells [.sl (begun.map eBunk)]),(5,.cells [.cb])]) R)
  repeat' (first|(apply nx;with_reducible constructor)|refine jq (by decide) ?_)
  (refine kz env fun Q hQ=>?_;simp only [vkt,seval,tbD7_with,xbD7_2,aTk,cTk,cAsk,mBunk,mTk,mCabin,carC,rowT,lent2,soldL,g1L,pSell,pGrow1,pSell1,dfE,List.length_map,fnI,pinB,lentOK,nth,hwL,Nat.zero_add,Nat.sub_zero];(try simp only [ite_and]);(repeat' (first|with_reducible assumption|refine And.intro ?_ ?_|intro hp));all_goals (first|(refine hQ _ ?_;clear hQ Q)|(refine kx ?_;kernel_rfl)|omega|assumption|with_reducible rfl|skip))
  repeat' (first|(apply nx;with_reducible constructor)|refine jq (by decide) ?_)
  refine sym_regD hr env rfl rfl rfl fun Q hQ=>?_
  simp only [List.dropLast]
  simp only [vkt,seval,tbD7_with,xbD7_2,aTk,cTk,cAsk,mBunk,mTk,mCabin,carC,rowT,lent2,soldL,g1L,pSell,pGrow1,pSell1,dfE,List.length_map,fnI,pinB,lentOK,nth,hwL,Nat.zero_add,Nat.sub_zero,et,hs2]
  repeat' (first|with_reducible assumption|refine And.intro ?_ ?_|intro hp)
  all_goals first|(refine hQ _ _ _ (by simp only [vkt,seval,tbD7_with,xbD7_2,aTk,cTk,cAsk,mBunk,mTk,mCabin,carC,rowT,lent2,soldL,g1L,pSell,pGrow1,pSell1,dfE,List.length_map,fnI,pinB,lentOK,nth,hwL,Nat.zero_add,Nat.sub_zero];rfl) ?_;clear hQ Q)|skip
  dsimp only [put]
  repeat' (first|(apply nx;with_reducible constructor)|refine jq (by decide) ?_|((first|refine kz env fun Q hQ=>?_|refine kj fun Q hQ=>?_);simp only [vkt,seval,tbD7_with,xbD7_2,aTk,cTk,cAsk,mBunk,mTk,mCabin,carC,rowT,lent2,soldL,g1L,pSell,pGrow1,pSell1,dfE,List.length_map,fnI,pinB,lentOK,nth,hwL,Nat.zero_add,Nat.sub_zero,eR,ok,List.append_nil];(try simp only [ite_and]);(repeat' (first|with_reducible assumption|refine And.intro ?_ ?_|intro hp));all_goals (first|(refine hQ _ ?_;clear hQ Q)|(refine hQ _ (fun h=>?_) (fun h=>?_) <;> clear hQ Q <;> (try simp only [vki,reduceCtorEq] at h))|(refine kx ?_;kernel_rfl)|omega|assumption|with_reducible rfl|skip)))
  simp only [vrt,Try.results135,leaveA.eq_3,vkt,seval,tbD7_with,xbD7_2,aTk,cTk,cAsk,mBunk,mTk,mCabin,carC,rowT,lent2,soldL,g1L,pSell,pGrow1,pSell1,dfE,List.length_map,fnI,pinB,lentOK,nth,hwL,Nat.zero_add,Nat.sub_zero,hgl,hma,dTk_e]
  refine Fin.ok some [] ?_ ?_ ?_ ?_ ?_ rfl
  all_goals (try simp only [vle,vkt,seval,tbD7_with,xbD7_2,aTk,cTk,cAsk,mBunk,mTk,mCabin,carC,rowT,lent2,soldL,g1L,pSell,pGrow1,pSell1,dfE,List.length_map,fnI,pinB,lentOK,nth,hwL,Nat.zero_add,Nat.sub_zero])
  all_goals first|rfl|(simp;done)
end Go.Sym.B
namespace Go.Sym.B
open Go Go.Sym Go.Proofs Go.Sym.C
def pWith (cs:List Cabin) (s:Int) (a:Ask) (m:Nat) (ys:Nat→List AV) (hl:Nat→List AObj) (ans:Nat→Bool) (R:Nat) (S:St):List AV→Option PkI
  |[.ptr c 0,.agg [.v (.int .i64 t0),.v (.int .i64 t1),.v (.int .i64 t2),.v (.int .i64 t3),.v (.int .i64 t4),.v (.int .i64 t5),.v (.bool t6)],.clo f [.ptr p2 0,.ptr p3 0,.ptr p4 0,.ptr p5 0]]=>match S.h p2,S.h p3,S.h p4,S.h p5 with
    |some (.cells [.ptr c' 0]),some (.cells aa),some (.cells [.sl bs]),some (.cells [.cb])=>match S.h c with
      |some (.cells [.sl cc,.v (.int .i64 s'),.row r])=>match S.h r with
        |some (.row _ _ xs)=>some { q:={ pre:=f=136∧c'=c∧cc=cs.map eCabin∧s'=s∧aa=cAsk a∧bs=(bs.map dBunk).map eBunk∧xs=(xs.map dTk).map eTk∧GrowOk cs s a m (xs.map dTk++[⟨t0,t1,t2,t3,t4,t5,t6⟩]) (bs.map dBunk) (fun j=>ys (S.j+j)) (fun j=>hl (S.j+j)) (fun j=>ans (S.j+j)) (min (growP cs a m (xs.map dTk++[⟨t0,t1,t2,t3,t4,t5,t6⟩]) (bs.map dBunk)).length (R - S.j)),hs:=[c,r,p2,p3,p4,p5],ar:=[.ptr 0 0,.agg [.v (.int .i64 t0),.v (.int .i64 t1),.v (.int .i64 t2),.v (.int .i64 t3),.v (.int .i64 t4),.v (.int .i64 t5),.v (.bool t6)],.clo 136 [.ptr 2 0,.ptr 3 0,.ptr 4 0,.ptr 5 0]],L0:=g1L cs s a (xs.map dTk) (bs.map dBunk),v:=aB (resB (fun j=>ans (S.j+j)) (min (growP cs a m (xs.map dTk++[⟨t0,t1,t2,t3,t4,t5,t6⟩]) (bs.map dBunk)).length (R - S.j))),L1:=(g1L cs s a (xs.map dTk) (bs.map dBunk)).map some },dj:=min (growP cs a m (xs.map dTk++[⟨t0,t1,t2,t3,t4,t5,t6⟩]) (bs.map dBunk)).length (R - S.j) }
        |_=>none
      |_=>none
    |_,_,_,_=>none
  |_=>none
theorem eWith {A:Frm→Prop} {cs:List Cabin} {s:Int} {a:Ask} {m:Nat} {ys:Nat→List AV} {hl:Nat→List AObj} {ans:Nat→Bool} {R:Nat} {h0:Nat→Option AObj} (ih:WithFn cs s a m) (hA:∀ F,A F→Acb Try.prog (hasg (enumA 0 [carC cs s 1])) h0 ys (fun j=>nth (hl j)) ans R F) :
    EntryOK A Try.prog 135 (fnI [carC cs s 1] R (pWith cs s a m ys hl ans R)):=fnI_ok hA fun S bs q h hp=>by
  unfold pWith at h
  split at h
  · split at h
    · split at h
      · split at h
        · cases h
          obtain ⟨_,_,_,_,_,_,_,h6⟩:=hp
          exact ih _ _ _ _ _ _ _ h6
        · cases h
      · cases h
    · cases h
  · cases h
theorem lent2_pin {cs:List Cabin} {s:Int} {l:List Tk}:∀ i o,hasg (enumA 0 [carC cs s 1]) i=some o→([0,1]:List Nat)[i]?=some i:=fun i o hi=>by
  rw [enumA_get] at hi
  cases i with
  |zero=>rfl
  |succ i=>simp at hi
def tbD8_grow:=kk @ty3 (kk @ty4 (kk @ty22 (kk @ty28 (kk @ty31 (kk @ty37 (kk @ty49 (kk @ty81 (kk @ty106 (kk @ty118 (kk @ty168 (kk @ti3.eq_1 (kk @ti4.eq_1 (kk @ti22.eq_1 (kk @ti28.eq_1 (kk @ti31.eq_1 (kk @ti37.eq_1 (kk @ti49.eq_1 (kk @ti81.eq_1 (kk @ti106.eq_1 (kk @ti118.eq_1 @ti168.eq_1))))))))))))))))))))
def xbD8_1:=kk @aI.eq_1 (@aB.eq_1)
theorem grow_zero (cs:List Cabin) (s:Int) (a:Ask):GrowFn cs s a 0:=by
  intro sold begun ys hl ans R ok
  obtain ⟨A0,hA0⟩:∃ A0:Frm→Prop,A0=Acb Try.prog (hasg (enumA 0 [carC cs s 1])) (hasg (enumA 0 (lent2 cs s sold))) ys (fun j=>nth (hl j)) ans R:=⟨_,rfl⟩
  have hA:∀ F,A0 F→Acb Try.prog (hasg (enumA 0 [carC cs s 1])) (hasg (enumA 0 (lent2 cs s sold))) ys (fun j=>nth (hl j)) ans R F:=fun F h=>hA0 ▸ h
  have env:Env A0 Try.prog tyB (Go.Sym.tabC (cbX [0,1] ys hl ans R) []):=⟨tyB_ok,tabC_ok (fun S bs h hS ops o g args tys caps hw ho hg hb=>cbX_sound hA (lent2_pin (l:=sold)) (by simp) h hS hw ho hg hb) trivial,by kernel_rfl⟩
  refine Fn.of (A:=A0) (n0:=2) (D:=noD) (Fn0 Try.func115 rfl (fun vs w=>by kernel_rfl) (by kernel_rfl)) (by simp) (by simp [AV.ids,AV.idsL,aAsk,cAsk,aBunks]) lent2_ids (fun F hb h0 _=>hA0 ▸ ⟨h0,pin0,hb⟩) noD_ok ?_
  have hr:=ok.rounds
  have hy:=ok.ys 0 (by simp [growP])
  have hh:=ok.hl 0 (by simp [growP])
  have hsz:=ok.sz
  simp only [growP,List.length_cons,List.length_nil,List.getD_cons_zero] at hr hy hh
  have hR:R=1:=by
    have h1:=hr.le
    have h2:=hr.lt (k:=0) (by omega) (fun j hj=>by omega)
    omega
  subst hR
  rw [aBunks] at hy
  rw [show resB ans 1=ans 0 by simp [resB]]
  have d1:decide ((begun.length:Int)=(a.sexes.length:Int))=true:=decide_eq_true (by omega)
  show Sym _ _ _ (startS [.ptr 0 0,aAsk a,aBunks begun,.cb] 2 (hasg [(0,carC cs s 1),(1,rowT sold)])) (retK tyB noD Try.f115 fun S rv=>Fin S rv _ 2 (hasg [(0,carC cs s 1),(1,rowT sold)]) 1)
  repeat' (first|(apply nx;with_reducible constructor)|refine jq (by decide) ?_|((first|refine kz env fun Q hQ=>?_|refine kj fun Q hQ=>?_);simp only [vkt,seval,tbD8_grow,xbD8_1,aAsk,cAsk,aBunks,mBunk,mTk,mCabin,carC,rowT,lent2,List.length_map,Go.Sym.tabC,cbX,pinB,lentOK,nth,hwL,Nat.zero_add,Nat.sub_zero,hy,hh,d1];(try simp only [ite_and]);(repeat' (first|with_reducible assumption|refine And.intro ?_ ?_|intro hp));all_goals (first|(refine hQ _ ?_;clear hQ Q)|(refine hQ _ (fun h=>?_) (fun h=>?_) <;> clear hQ Q <;> (try simp only [vki,reduceCtorEq] at h))|(refine kx ?_;kernel_rfl)|omega|assumption|with_reducible rfl|skip)))
  (simp only [vrt,Try.results115,vkt,seval,tbD8_grow,xbD8_1,aAsk,cAsk,aBunks,mBunk,mTk,mCabin,carC,rowT,lent2,List.length_map,Go.Sym.tabC,cbX,pinB,lentOK,nth,hwL,Nat.zero_add,Nat.sub_zero];refine Fin.ok some [] ?_ ?_ ?_ ?_ ?_ rfl;all_goals (try simp only [vle,vkt,seval,tbD8_grow,xbD8_1,aAsk,cAsk,aBunks,mBunk,mTk,mCabin,carC,rowT,lent2,List.length_map,Go.Sym.tabC,cbX,pinB,lentOK,nth,hwL,Nat.zero_add,Nat.sub_zero]))
  all_goals first|rfl|(simp;done)|exact fun i hi=>(match i,hi with|0,_=>rfl|1,_=>rfl)
def gbL (cs:List Cabin) (a:Ask) (m:Nat) (sold:List Tk) (begun:List Bunk) (b:Bunk):List (List Bunk × List Tk):=if goB cs a sold begun b then growP cs a m (sold++[tkOf a begun.length b]) (begun++[b]) else []
def gsL (cs:List Cabin) (a:Ask) (m:Nat) (sold:List Tk) (begun:List Bunk):List Nat:=(bunksL cs).map fun b=>(gbL cs a m sold begun b).length
theorem growP_succ (cs:List Cabin) (a:Ask) (m:Nat) (sold:List Tk) (begun:List Bunk):growP cs a (m+1) sold begun=(bunksL cs).flatMap (gbL cs a m sold begun):=rfl
theorem growP_len (cs:List Cabin) (a:Ask) (m:Nat) (sold:List Tk) (begun:List Bunk):(growP cs a (m+1) sold begun).length=(gsL cs a m sold begun).sum:=by rw [growP_succ,fm_len];rfl
theorem growP_get {cs:List Cabin} {a:Ask} {m:Nat} {sold:List Tk} {begun:List Bunk} {i k:Nat} (hi:i < (bunksL cs).length) (hk:k < (gbL cs a m sold begun ((bunksL cs).getD i default)).length) :
    (growP cs a (m+1) sold begun).getD (((gsL cs a m sold begun).take i).sum+k) default=(gbL cs a m sold begun ((bunksL cs).getD i default)).getD k default:=by
  have:=fm_get (gbL cs a m sold begun) default default (bunksL cs) i k hi hk
  rw [growP_succ,gsL,← List.map_take]
  exact this
theorem gs_get {cs:List Cabin} {a:Ask} {m:Nat} {sold:List Tk} {begun:List Bunk} {i:Nat} (hi:i < (bunksL cs).length):(gsL cs a m sold begun).getD i 0=(gbL cs a m sold begun ((bunksL cs).getD i default)).length:=by
  simp [gsL,List.getD_eq_getElem?_getD,hi]
theorem bunk_in {cs:List Cabin} {i:Nat} (hi:i < (bunksL cs).length):0≤((bunksL cs).getD i default).cab∧((bunksL cs).getD i default).cab.toNat < cs.length:=by
  obtain ⟨x,y,h1,h2,h3⟩:=bunk_mem.1 (gMem (d:=default) hi)
  rw [h3]
  exact ⟨Int.natCast_nonneg _,by simpa using h1⟩
theorem grow_round {cs:List Cabin} {s:Int} {a:Ask} {m:Nat} {sold:List Tk} {begun:List Bunk} {ys:Nat→List AV} {hl:Nat→List AObj} {ans:Nat→Bool} {R:Nat} (ok:GrowOk cs s a (m+1) sold begun ys hl ans R) {i o:Nat} {b:Bunk} (hi:i < (bunksL cs).length) (hb:(bunksL cs).getD i default=b)
    (ho:((gsL cs a m sold begun).take i).sum=o) (hg:goB cs a sold begun b=true) {D:Nat} (hr:Rounds (fun j=>ans (o+j)) D (growP cs a m (sold++[tkOf a begun.length b]) (begun++[b])).length) :
    GrowOk cs s a m (sold++[tkOf a begun.length b]) (begun++[b]) (fun j=>ys (o+j)) (fun j=>hl (o+j)) (fun j=>ans (o+j)) D:=by
  have hgb:gbL cs a m sold begun b=growP cs a m (sold++[tkOf a begun.length b]) (begun++[b]):=by unfold gbL;rw [if_pos hg]
  have hlen:∀ j,j < (growP cs a m (sold++[tkOf a begun.length b]) (begun++[b])).length→o+j < (growP cs a (m+1) sold begun).length:=fun j hj=>by
    rw [growP_len,← ho]
    have h1:=take_sum (g:=gsL cs a m sold begun) (i:=i) (by simpa [gsL] using hi)
    have h2:=take_sum_le (g:=gsL cs a m sold begun) (show i+1≤(gsL cs a m sold begun).length by simp [gsL];omega)
    rw [List.take_length] at h2
    rw [gs_get hi,hb,hgb] at h1
    omega
  have hget:∀ j,j < (growP cs a m (sold++[tkOf a begun.length b]) (begun++[b])).length→(growP cs a (m+1) sold begun).getD (o+j) default=(growP cs a m (sold++[tkOf a begun.length b]) (begun++[b])).getD j default:=fun j hj=>by
    rw [← ho,growP_get hi (by rw [hb,hgb];exact hj),hb,hgb]
  have h1:=ok.sz
  have h2:=ok.many
  refine ⟨by simp;omega,ok.sx,ok.cab,ok.c100,by simp;omega,fun x hx=>?_,hr,fun j hj=>?_,fun j hj=>?_⟩
  · rcases List.mem_append.1 hx with hx|hx
    · exact ok.mem x hx
    · rw [List.mem_singleton.1 hx,← hb];exact bunk_in hi
  · show ys (o+j)=_
    rw [ok.ys _ (hlen j hj),hget j hj]
  · show hl (o+j)=_
    rw [ok.hl _ (hlen j hj),hget j hj]
def gwL:List (Nat × AV):=[(4,.ptr 2 0),(5,.ptr 3 0),(6,.ptr 4 0),(7,.ptr 5 0),(8,.ptr 6 0),(25,.clo 123 [.ptr 7 0])]
def gwH (cs:List Cabin) (s:Int) (a:Ask) (sold:List Tk) (begun:List Bunk):List (Nat × AObj):=[(0,carC cs s 1),(1,rowT sold),(2,.cells [.ptr 0 0]),(3,.cells (cAsk a)),(4,.cells [.sl (begun.map eBunk)]),(5,.cells [.cb]),(6,.cells [aB false])]
theorem gw_lent (cs:List Cabin) (s:Int):lentA [7] 9 0 [buO cs s]=[(7,buO cs s)]:=rfl
def xbD8_2:=kk @aI.eq_1 (kk @aB.eq_1 (kk @mInt (kk @gInt (@eInt.eq_1))))
theorem grow_succ (cs:List Cabin) (s:Int) (a:Ask) (m:Nat) (ih:WithFn cs s a m):GrowFn cs s a (m+1):=by
  intro sold begun ys hl ans R ok
  obtain ⟨A0,hA0⟩:∃ A0:Frm→Prop,A0=fun F=>F.r=none∧Acb Try.prog (hasg (enumA 0 [carC cs s 1])) (hasg (enumA 0 (lent2 cs s sold))) ys (fun j=>nth (hl j)) ans R F:=⟨_,rfl⟩
  have hr0:∀ F,A0 F→F.r=none:=fun F h=>by rw [hA0] at h;exact h.1
  have hA:∀ F,A0 F→Acb Try.prog (hasg (enumA 0 [carC cs s 1])) (hasg (enumA 0 (lent2 cs s sold))) ys (fun j=>nth (hl j)) ans R F:=fun F h=>by rw [hA0] at h;exact h.2
  have env:Env A0 Try.prog tyB (tab [(94,fnE pBunks)]):=mkEnv ⟨eBunksF,trivial⟩
  refine Fn.of (A:=A0) (n0:=2) (D:=noD) (Fn0 Try.func115 rfl (fun vs w=>by kernel_rfl) (by kernel_rfl)) (by simp) (by simp [AV.ids,AV.idsL,aAsk,cAsk,aBunks]) lent2_ids (fun F hb h0 h1=>by rw [hA0];exact ⟨h1,h0,pin0,hb⟩) noD_ok ?_
  have hr:=ok.rounds
  rw [growP_len] at hr
  have hsz:=ok.sz
  have hsx:=ok.sx
  have d0:decide ((begun.length:Int)=(a.sexes.length:Int))=false:=decide_eq_false (by omega)
  obtain ⟨RB,ansB,hRB,hN,hend,hres⟩:=nest _ hr
  rw [show (gsL cs a m sold begun).length=(bunksL cs).length by simp [gsL]] at hRB
  have hRl:=hRB.le
  rw [hres]
  show Sym _ _ _ (startS [.ptr 0 0,aAsk a,aBunks begun,.cb] 2 (hasg [(0,carC cs s 1),(1,rowT sold)])) (retK tyB noD Try.f115 fun S rv=>Fin S rv _ 2 (hasg [(0,carC cs s 1),(1,rowT sold)]) R)
  repeat' (first|(apply nx;with_reducible constructor)|refine jq (by decide) ?_|((first|refine kz env fun Q hQ=>?_|refine kj fun Q hQ=>?_);simp only [vkt,seval,tbD8_grow,xbD8_2,aTk,cTk,aAsk,cAsk,aBunk,aBunks,eBunk,rBunk,mBunk,mTk,mCabin,carC,rowT,lent2,g1L,gwL,gwH,buO,pBunks,pCloneB,pNear,pFits,pWith,scontB,List.length_map,fnI,pinB,lentOK,nth,hwL,Nat.zero_add,Nat.sub_zero,d0];(try simp only [ite_and]);(repeat' (first|with_reducible assumption|refine And.intro ?_ ?_|intro hp));all_goals (first|(refine hQ _ ?_;clear hQ Q)|(refine hQ _ (fun h=>?_) (fun h=>?_) <;> clear hQ Q <;> (try simp only [vki,reduceCtorEq] at h))|(refine kx ?_;kernel_rfl)|omega|assumption|with_reducible rfl|skip)))
  refine sym_le (S':={ t:=asg gwL,h:=hasg (gwH cs s a sold begun++[(7,buO cs s)]),n:=8,j:=0,d:=[],m:=2 }) ?_ ?_
  · show Le _ { t:=asg [(4,.ptr 2 0),(5,.ptr 3 0),(6,.ptr 4 0),(7,.ptr 5 0),(8,.ptr 6 0),(25,.clo 123 [.ptr 7 0])],h:=hasg [(0,carC cs s 1),(1,rowT sold),(2,.cells [.ptr 0 0]),(3,.cells (cAsk a)),(4,.cells [.sl (begun.map eBunk)]),(5,.cells [.cb]),(6,.cells [aB false]),(7,buO cs s)],n:=8,j:=0,d:=[],m:=2 }
    (refine Le.ok some [] ?_;constructor;all_goals (try simp only [vle,vkt,seval,tbD8_grow,xbD8_2,aTk,cTk,aAsk,cAsk,aBunk,aBunks,eBunk,rBunk,mBunk,mTk,mCabin,carC,rowT,lent2,g1L,gwL,gwH,buO,pBunks,pCloneB,pNear,pFits,pWith,scontB,List.length_map,fnI,pinB,lentOK,nth,hwL,Nat.zero_add,Nat.sub_zero]))
    all_goals first|rfl|(simp;done)
  rw [← gw_lent cs s]
  have ej:(fun i=>min ((gsL cs a m sold begun).take i).sum R) 0=0:=by simp
  rw [show ({ t:=asg gwL,h:=hasg (gwH cs s a sold begun++lentA [7] 9 0 [buO cs s]),n:=8,j:=0,d:=[],m:=2 }:St)={ t:=asg gwL,h:=hasg ((fun _=>gwH cs s a sold begun) 0++lentA [7] (8+1) 0 [buO cs s]),n:=8,j:=(fun i=>min ((gsL cs a m sold begun).take i).sum R) 0,d:=[],m:=2 } by rw [ej]]
  refine sym_rangeP hr0 1 (L:=gwL) (L':=gwL) (xs:=[]) (hs:=[7]) (n:=8) (nl:=0) (hc:=fun _=>gwH cs s a sold begun) (Lp:=[buO cs s]) (jj:=fun i=>min ((gsL cs a m sold begun).take i).sum R) (d:=[]) (ys:=buY cs) (hl:=fun _=>[buO cs s]) (ans:=ansB) (ex:=.ret) (caps:=[.ptr 7 0]) (caps0:=[.ptr 0 0]) (N:=(bunksL cs).length) (R:=RB) (A':=fun i=>Acb Try.prog (hasg (enumA 0 [carC cs s 1])) (hasg ((8,.mark) :: gwH cs s a sold begun++[(7,buO cs s)])) (fun k=>ys (min ((gsL cs a m sold begun).take i).sum R+k)) (fun k=>nth (hl (min ((gsL cs a m sold begun).take i).sum R+k))) (fun k=>ans (min ((gsL cs a m sold begun).take i).sum R+k)) (R - min ((gsL cs a m sold begun).take i).sum R)) rfl (bunks_it cs s ok.cab) hRB (.inl rfl) ?_ ?_ ?_ rfl (by simp) ?_ (by simp) ?_ ?_ ?_ (fun _ _=>rfl) (fun x hx=>by cases hx) (fun j hj p _ h=>by cases h) ?_ (fun j hj=>?_) ?_ (fun j hj=>?_) (fun hall=>?_) (fun hpos hlast=>?_)
  · simp [AV.leL,AV.le]
  · simp [AV.nocbL,AV.nocb]
  · simp [lentP,buO,AObj.nocb,AV.nocbL,AV.nocb,AObj.ids,AV.ids,AV.idsL,AObj.ren,AV.renL,AV.ren,AObj.le,AV.leL,AV.le,oneB]
  · simp [gwH,hasg]
  · intro F hF j hj F' hR
    refine acb_round (hA F hF) hR fun i o hi=>?_
    rw [enumA_get] at hi
    cases i with
    |zero=>exact ⟨_,rfl⟩
    |succ i=>simp at hi
  · simp [gwH,hasg]
  · exact fun _ _ _ _ h=>h
  · simp [idsT,gwL,AV.ids,AV.idsL]
  · refine ⟨?_,rfl, ?_, ?_,rfl, ?_⟩
    · simp [idsH,gwH,AObj.ids,AV.ids,AV.idsL,carC,rowT,cAsk,aB]
    · simp [lentQ,buO,AObj.nocb,AV.nocbL,AV.nocb,AObj.ids,AV.ids,AV.idsL]
    · simp [argQ,buY,aBunk,AV.nocb,AV.nocbL,AV.ids,AV.idsL]
    · simp [keysIn,keyIn,lentA,callRen,gwH,gwL,idsTL,AV.ids,AV.idsL,ADf.ids,List.range_succ]
  · simp [idsH,gwH,AObj.ids,AV.ids,AV.idsL,carC,rowT,cAsk,aB]
  · have hjl:j < (bunksL cs).length:=by omega
    obtain ⟨n1,n2,n3,n4⟩:=hN j hj
    obtain ⟨o,ho⟩:∃ o,((gsL cs a m sold begun).take j).sum=o:=⟨_,rfl⟩
    have eo:min o R=o:=by omega
    rw [gs_get hjl,ho] at n2 n3 n4
    obtain ⟨b,hb⟩:∃ b,(bunksL cs).getD j default=b:=⟨_,rfl⟩
    rw [hb] at n2 n3 n4
    have hbi:=bunk_in hjl
    rw [hb] at hbi
    simp only [ho,eo]
    have hst:rStart gwL [26] [7] 8 0 (buY cs j) (gwH cs s a sold begun) [buO cs s]={ t:=asg [(26,aBunk b),(4,.ptr 2 0),(5,.ptr 3 0),(6,.ptr 4 0),(7,.ptr 5 0),(8,.ptr 6 0),(25,.clo 123 [.ptr 7 0])],h:=hasg [(8,.mark),(0,carC cs s 1),(1,rowT sold),(2,.cells [.ptr 0 0]),(3,.cells (cAsk a)),(4,.cells [.sl (begun.map eBunk)]),(5,.cells [.cb]),(6,.cells [aB false]),(7,buO cs s)],n:=9,m:=9 }:=by
      simp only [rStart,buY,hb,aBunk,List.map_cons,List.map_nil,AV.ren,AV.renL,List.zip_cons_cons,List.zip_nil_right,gwH,gwL,putsL,List.cons_append,List.nil_append,gw_lent]
      rfl
    show Sym _ _ _ (rStart gwL [26] [7] 8 0 (buY cs j) (gwH cs s a sold begun) [buO cs s]) _
    rw [hst]
    obtain ⟨A1,hA1⟩:∃ A1:Frm→Prop,A1=Acb Try.prog (hasg (enumA 0 [carC cs s 1])) (hasg ((8,.mark) :: gwH cs s a sold begun++[(7,buO cs s)])) (fun k=>ys (o+k)) (fun k=>nth (hl (o+k))) (fun k=>ans (o+k)) (R - o):=⟨_,rfl⟩
    rw [← hA1]
    have env:Env A1 Try.prog tyB (tab [(132,fnE pCloneB),(133,valE true scontB),(134,fnE pNear),(95,fnE pFits),(135,fnI [carC cs s 1] (R - o) (pWith cs s a m (fun k=>ys (o+k)) (fun k=>hl (o+k)) (fun k=>ans (o+k)) (R - o)))]) :=
      mkEnv ⟨eCloneB,econtB,eNear,eFits,eWith ih (h0:=hasg ((8,.mark) :: gwH cs s a sold begun++[(7,buO cs s)])) fun F hF=>by rw [hA1] at hF;exact hF,trivial⟩
    have hcl:=ok.c100
    have hmany:=ok.many
    obtain ⟨sx,hsx1⟩:∃ x,a.sexes.getD begun.length 0=x:=⟨_,rfl⟩
    have hlt:begun.length < a.sexes.length:=by omega
    have hb1:begun.length≤100:=by omega
    have hb2:begun.length≤100000:=by omega
    have hm:(100:Nat)+1≤maxLen:=by decide
    have hb3:begun.length+1≤maxLen:=by omega
    repeat' (first|(apply nx;with_reducible constructor)|refine jq (by decide) ?_)
    (refine kz env fun Q hQ=>?_;simp only [vkt,seval,tbD8_grow,xbD8_2,aTk,cTk,aAsk,cAsk,aBunk,aBunks,eBunk,rBunk,mBunk,mTk,mCabin,carC,rowT,lent2,g1L,gwL,gwH,buO,pBunks,pCloneB,pNear,pFits,pWith,scontB,List.length_map,fnI,pinB,lentOK,nth,hwL,Nat.zero_add,Nat.sub_zero];(try simp only [ite_and]);(repeat' (first|with_reducible assumption|refine And.intro ?_ ?_|intro hp));all_goals (first|(refine hQ _ ?_;clear hQ Q)|(refine kx ?_;kernel_rfl)|omega|assumption|with_reducible rfl|skip))
    repeat' (first|(apply nx;with_reducible constructor)|refine jq (by decide) ?_)
    (refine kz env fun Q hQ=>?_;simp only [vkt,seval,tbD8_grow,xbD8_2,aTk,cTk,aAsk,cAsk,aBunk,aBunks,eBunk,rBunk,mBunk,mTk,mCabin,carC,rowT,lent2,g1L,gwL,gwH,buO,pBunks,pCloneB,pNear,pFits,pWith,scontB,List.length_map,fnI,pinB,lentOK,nth,hwL,Nat.zero_add,Nat.sub_zero,hsx1,hlt,hb1,hb2,hb3];(try simp only [ite_and]);(repeat' (first|with_reducible assumption|refine And.intro ?_ ?_|intro hp));all_goals (first|(refine hQ _ ?_;clear hQ Q)|(refine kx ?_;kernel_rfl)|omega|assumption|with_reducible rfl|skip))
    repeat' (first|(apply nx;with_reducible constructor)|refine jq (by decide) ?_)
    (refine kz env fun Q hQ=>?_;simp only [vkt,seval,tbD8_grow,xbD8_2,aTk,cTk,aAsk,cAsk,aBunk,aBunks,eBunk,rBunk,mBunk,mTk,mCabin,carC,rowT,lent2,g1L,gwL,gwH,buO,pBunks,pCloneB,pNear,pFits,pWith,scontB,List.length_map,fnI,pinB,lentOK,nth,hwL,Nat.zero_add,Nat.sub_zero,hsx1,hlt,hb1,hb2,hb3];(try simp only [ite_and]);(repeat' (first|with_reducible assumption|refine And.intro ?_ ?_|intro hp));all_goals (first|(refine hQ _ ?_;clear hQ Q)|(refine kx ?_;kernel_rfl)|omega|assumption|with_reducible rfl|skip))
    repeat' (first|(apply nx;with_reducible constructor)|refine jq (by decide) ?_)
    have hma:List.map eBunk begun++[[DV.v (.int .i64 b.cab),DV.v (.int .i64 b.bed)]]=List.map eBunk (begun++[b]):=by simp [eBunk]
    refine sym_le (S':={ t:=asg [(4,.ptr 2 0),(5,.ptr 3 0),(6,.ptr 4 0),(7,.ptr 5 0),(8,.ptr 6 0),(9,.ptr 9 0),(10,.ptr 10 0),(11,.ptr 11 0)],h:=hasg [(8,.mark),(0,carC cs s 1),(1,rowT sold),(2,.cells [.ptr 0 0]),(3,.cells (cAsk a)),(4,.cells [.sl (begun.map eBunk)]),(5,.cells [.cb]),(6,.cells [aB false]),(7,buO cs s),(9,.cells [.v (.int .i64 b.cab),.v (.int .i64 b.bed)]),(10,.cells [.sl (List.map eBunk (begun++[b]))]),(11,.cells [.v (.int .i64 a.party),.v (.int .i64 sx),.v (.int .i64 b.cab),.v (.int .i64 b.bed),.v (.int .i64 a.frm),.v (.int .i64 a.to),.v (.bool a.dog)])],n:=12,j:=0,d:=[],m:=9 }) ?_ ?_
    · (refine Le.ok (fun i=>if i=10 then some 13 else if i=11 then some 14 else some i) [12] ?_;constructor;all_goals (try simp only [vle,vkt,seval,tbD8_grow,xbD8_2,aTk,cTk,aAsk,cAsk,aBunk,aBunks,eBunk,rBunk,mBunk,mTk,mCabin,carC,rowT,lent2,g1L,gwL,gwH,buO,pBunks,pCloneB,pNear,pFits,pWith,scontB,List.length_map,fnI,pinB,lentOK,nth,hwL,Nat.zero_add,Nat.sub_zero]))
      all_goals first|rfl|(simp;done)|(rw [hma];exact ⟨_,_,rfl⟩)|(intro i hi;rw [if_neg (by omega),if_neg (by omega)];done)
    have et:(⟨a.party,sx,b.cab,b.bed,a.frm,a.to,a.dog⟩:Tk)=tkOf a begun.length b:=by rw [← hsx1];rfl
    have eb:(⟨b.cab,b.bed⟩:Bunk)=b:=rfl
    have hno:NearOk cs (begun++[b]):=⟨by simp,by simp;omega,hcl,fun x hx=>by
      rcases List.mem_append.1 hx with hx|hx
      · exact ok.mem x hx
      · rw [List.mem_singleton.1 hx];exact hbi⟩
    have hs100:sold.length≤100:=by omega
    have stop:goB cs a sold begun b=false→ansB j=true∧min ((gsL cs a m sold begun).take (j+1)).sum R=o:=fun h=>by
      have e0:gbL cs a m sold begun b=[]:=by unfold gbL;rw [h];rfl
      rw [e0] at n3 n4
      simp only [List.length_nil,Nat.zero_min] at n3 n4
      exact ⟨by rw [n3];simp [resB],by rw [n4];rfl⟩
    cases c1:begun.contains b with
    |true =>
      obtain ⟨s1,s2⟩:=stop (by unfold goB;rw [c1];rfl)
      repeat' (first|(apply nx;with_reducible constructor)|refine jq (by decide) ?_|((first|refine kz env fun Q hQ=>?_|refine kj fun Q hQ=>?_);simp only [vkt,seval,tbD8_grow,xbD8_2,aTk,cTk,aAsk,cAsk,aBunk,aBunks,eBunk,rBunk,mBunk,mTk,mCabin,carC,rowT,lent2,g1L,gwL,gwH,buO,pBunks,pCloneB,pNear,pFits,pWith,scontB,List.length_map,fnI,pinB,lentOK,nth,hwL,Nat.zero_add,Nat.sub_zero,hb1,c1,eb,et,hno,hs100];(try simp only [ite_and]);(repeat' (first|with_reducible assumption|refine And.intro ?_ ?_|intro hp));all_goals (first|(refine hQ _ ?_;clear hQ Q)|(refine hQ _ (fun h=>?_) (fun h=>?_) <;> clear hQ Q <;> (try simp only [vki,reduceCtorEq] at h))|(refine kx ?_;kernel_rfl)|omega|assumption|with_reducible rfl|skip)))
      refine ⟨by rw [s1];rfl,by show _=_+0;simp only [s2,ho,eo];rfl,some,_,RFin.okQ some [] ?_⟩
      constructor
      all_goals (try simp only [vle,lentR,rensL,callRen,vkt,seval,tbD8_grow,xbD8_2,aTk,cTk,aAsk,cAsk,aBunk,aBunks,eBunk,rBunk,mBunk,mTk,mCabin,carC,rowT,lent2,g1L,gwL,gwH,buO,pBunks,pCloneB,pNear,pFits,pWith,scontB,List.length_map,fnI,pinB,lentOK,nth,hwL,Nat.zero_add,Nat.sub_zero])
      all_goals first|rfl|(simp;done)
    |false =>
      cases c2:nearB cs (begun++[b]) with
      |false =>
        obtain ⟨s1,s2⟩:=stop (by unfold goB;rw [c1,c2];rfl)
        repeat' (first|(apply nx;with_reducible constructor)|refine jq (by decide) ?_|((first|refine kz env fun Q hQ=>?_|refine kj fun Q hQ=>?_);simp only [vkt,seval,tbD8_grow,xbD8_2,aTk,cTk,aAsk,cAsk,aBunk,aBunks,eBunk,rBunk,mBunk,mTk,mCabin,carC,rowT,lent2,g1L,gwL,gwH,buO,pBunks,pCloneB,pNear,pFits,pWith,scontB,List.length_map,fnI,pinB,lentOK,nth,hwL,Nat.zero_add,Nat.sub_zero,hb1,c1,c2,eb,et,hno,hs100];(try simp only [ite_and]);(repeat' (first|with_reducible assumption|refine And.intro ?_ ?_|intro hp));all_goals (first|(refine hQ _ ?_;clear hQ Q)|(refine hQ _ (fun h=>?_) (fun h=>?_) <;> clear hQ Q <;> (try simp only [vki,reduceCtorEq] at h))|(refine kx ?_;kernel_rfl)|omega|assumption|with_reducible rfl|skip)))
        refine ⟨by rw [s1];rfl,by show _=_+0;simp only [s2,ho,eo];rfl,some,_,RFin.okQ some [] ?_⟩
        constructor
        all_goals (try simp only [vle,lentR,rensL,callRen,vkt,seval,tbD8_grow,xbD8_2,aTk,cTk,aAsk,cAsk,aBunk,aBunks,eBunk,rBunk,mBunk,mTk,mCabin,carC,rowT,lent2,g1L,gwL,gwH,buO,pBunks,pCloneB,pNear,pFits,pWith,scontB,List.length_map,fnI,pinB,lentOK,nth,hwL,Nat.zero_add,Nat.sub_zero])
        all_goals first|rfl|(simp;done)
      |true =>
        cases c3:decide (besideE (tkOf a begun.length b) sold=0) with
        |false =>
          obtain ⟨s1,s2⟩:=stop (by unfold goB;rw [c1,c2,c3];rfl)
          repeat' (first|(apply nx;with_reducible constructor)|refine jq (by decide) ?_|((first|refine kz env fun Q hQ=>?_|refine kj fun Q hQ=>?_);simp only [vkt,seval,tbD8_grow,xbD8_2,aTk,cTk,aAsk,cAsk,aBunk,aBunks,eBunk,rBunk,mBunk,mTk,mCabin,carC,rowT,lent2,g1L,gwL,gwH,buO,pBunks,pCloneB,pNear,pFits,pWith,scontB,List.length_map,fnI,pinB,lentOK,nth,hwL,Nat.zero_add,Nat.sub_zero,hb1,c1,c2,c3,eb,et,hno,hs100];(try simp only [ite_and]);(repeat' (first|with_reducible assumption|refine And.intro ?_ ?_|intro hp));all_goals (first|(refine hQ _ ?_;clear hQ Q)|(refine hQ _ (fun h=>?_) (fun h=>?_) <;> clear hQ Q <;> (try simp only [vki,reduceCtorEq] at h))|(refine kx ?_;kernel_rfl)|omega|assumption|with_reducible rfl|skip)))
          refine ⟨by rw [s1];rfl,by show _=_+0;simp only [s2,ho,eo];rfl,some,_,RFin.okQ some [] ?_⟩
          constructor
          all_goals (try simp only [vle,lentR,rensL,callRen,vkt,seval,tbD8_grow,xbD8_2,aTk,cTk,aAsk,cAsk,aBunk,aBunks,eBunk,rBunk,mBunk,mTk,mCabin,carC,rowT,lent2,g1L,gwL,gwH,buO,pBunks,pCloneB,pNear,pFits,pWith,scontB,List.length_map,fnI,pinB,lentOK,nth,hwL,Nat.zero_add,Nat.sub_zero])
          all_goals first|rfl|(simp;done)
        |true =>
          have hgo:goB cs a sold begun b=true:=by unfold goB;rw [c1,c2,c3];rfl
          have hgb:gbL cs a m sold begun b=growP cs a m (sold++[tkOf a begun.length b]) (begun++[b]):=by unfold gbL;rw [if_pos hgo]
          rw [hgb] at n2 n3 n4
          have hG:=grow_round ok hjl hb ho hgo n2
          obtain ⟨D,hD⟩:∃ D,min (growP cs a m (sold++[tkOf a begun.length b]) (begun++[b])).length (R - o)=D:=⟨_,rfl⟩
          rw [hD] at hG n3 n4
          have hDle:D≤R - o:=by omega
          cases hab:ansB j with
          |false =>
            rw [hab] at n3
            have n3:=n3.symm
            repeat' (first|(apply nx;with_reducible constructor)|refine jq (by decide) ?_|((first|refine kz env fun Q hQ=>?_|refine kj fun Q hQ=>?_);simp only [vkt,seval,tbD8_grow,xbD8_2,aTk,cTk,aAsk,cAsk,aBunk,aBunks,eBunk,rBunk,mBunk,mTk,mCabin,carC,rowT,lent2,g1L,gwL,gwH,buO,pBunks,pCloneB,pNear,pFits,pWith,scontB,List.length_map,fnI,pinB,lentOK,nth,hwL,Nat.zero_add,Nat.sub_zero,hb1,c1,c2,c3,eb,et,hno,hs100,hD,hDle,hG,n3];(try simp only [ite_and]);(repeat' (first|with_reducible assumption|refine And.intro ?_ ?_|intro hp));all_goals (first|(refine hQ _ ?_;clear hQ Q)|(refine hQ _ (fun h=>?_) (fun h=>?_) <;> clear hQ Q <;> (try simp only [vki,reduceCtorEq] at h))|(refine kx ?_;kernel_rfl)|omega|assumption|with_reducible rfl|skip)))
            refine ⟨by rw [hab];rfl,by simp only [n4,ho,eo],some,_,RFin.okQ some [] ?_⟩
            constructor
            all_goals (try simp only [vle,lentR,rensL,callRen,vkt,seval,tbD8_grow,xbD8_2,aTk,cTk,aAsk,cAsk,aBunk,aBunks,eBunk,rBunk,mBunk,mTk,mCabin,carC,rowT,lent2,g1L,gwL,gwH,buO,pBunks,pCloneB,pNear,pFits,pWith,scontB,List.length_map,fnI,pinB,lentOK,nth,hwL,Nat.zero_add,Nat.sub_zero])
            all_goals first|rfl|(simp;done)
          |true =>
            rw [hab] at n3
            have n3:=n3.symm
            repeat' (first|(apply nx;with_reducible constructor)|refine jq (by decide) ?_|((first|refine kz env fun Q hQ=>?_|refine kj fun Q hQ=>?_);simp only [vkt,seval,tbD8_grow,xbD8_2,aTk,cTk,aAsk,cAsk,aBunk,aBunks,eBunk,rBunk,mBunk,mTk,mCabin,carC,rowT,lent2,g1L,gwL,gwH,buO,pBunks,pCloneB,pNear,pFits,pWith,scontB,List.length_map,fnI,pinB,lentOK,nth,hwL,Nat.zero_add,Nat.sub_zero,hb1,c1,c2,c3,eb,et,hno,hs100,hD,hDle,hG,n3];(try simp only [ite_and]);(repeat' (first|with_reducible assumption|refine And.intro ?_ ?_|intro hp));all_goals (first|(refine hQ _ ?_;clear hQ Q)|(refine hQ _ (fun h=>?_) (fun h=>?_) <;> clear hQ Q <;> (try simp only [vki,reduceCtorEq] at h))|(refine kx ?_;kernel_rfl)|omega|assumption|with_reducible rfl|skip)))
            refine ⟨by rw [hab];rfl,by simp only [n4,ho,eo],some,_,RFin.okQ some [] ?_⟩
            constructor
            all_goals (try simp only [vle,lentR,rensL,callRen,vkt,seval,tbD8_grow,xbD8_2,aTk,cTk,aAsk,cAsk,aBunk,aBunks,eBunk,rBunk,mBunk,mTk,mCabin,carC,rowT,lent2,g1L,gwL,gwH,buO,pBunks,pCloneB,pNear,pFits,pWith,scontB,List.length_map,fnI,pinB,lentOK,nth,hwL,Nat.zero_add,Nat.sub_zero])
            all_goals first|rfl|(simp;done)
  · have hR:resB ansB RB=true:=by
      by_cases h0:RB=0
      · simp [resB,h0]
      · simp [resB,hall (RB - 1) (by omega)]
    rw [hR,hend]
    have eh:hasg ((8,AObj.mark) :: gwH cs s a sold begun++lentA [7] (8+1) 0 [buO cs s])=hasg [(8,.mark),(0,carC cs s 1),(1,rowT sold),(2,.cells [.ptr 0 0]),(3,.cells (cAsk a)),(4,.cells [.sl (begun.map eBunk)]),(5,.cells [.cb]),(6,.cells [aB false]),(7,buO cs s)]:=rfl
    rw [eh]
    repeat' (first|(apply nx;with_reducible constructor)|refine jq (by decide) ?_|((first|refine kz env fun Q hQ=>?_|refine kj fun Q hQ=>?_);simp only [vkt,seval,tbD8_grow,xbD8_2,aTk,cTk,aAsk,cAsk,aBunk,aBunks,eBunk,rBunk,mBunk,mTk,mCabin,carC,rowT,lent2,g1L,gwL,gwH,buO,pBunks,pCloneB,pNear,pFits,pWith,scontB,List.length_map,fnI,pinB,lentOK,nth,hwL,Nat.zero_add,Nat.sub_zero];(try simp only [ite_and]);(repeat' (first|with_reducible assumption|refine And.intro ?_ ?_|intro hp));all_goals (first|(refine hQ _ ?_;clear hQ Q)|(refine hQ _ (fun h=>?_) (fun h=>?_) <;> clear hQ Q <;> (try simp only [vki,reduceCtorEq] at h))|(refine kx ?_;kernel_rfl)|omega|assumption|with_reducible rfl|skip)))
    (simp only [vrt,Try.results115,vkt,seval,tbD8_grow,xbD8_2,aTk,cTk,aAsk,cAsk,aBunk,aBunks,eBunk,rBunk,mBunk,mTk,mCabin,carC,rowT,lent2,g1L,gwL,gwH,buO,pBunks,pCloneB,pNear,pFits,pWith,scontB,List.length_map,fnI,pinB,lentOK,nth,hwL,Nat.zero_add,Nat.sub_zero];refine Fin.ok some [] ?_ ?_ ?_ ?_ ?_ rfl;all_goals (try simp only [vle,vkt,seval,tbD8_grow,xbD8_2,aTk,cTk,aAsk,cAsk,aBunk,aBunks,eBunk,rBunk,mBunk,mTk,mCabin,carC,rowT,lent2,g1L,gwL,gwH,buO,pBunks,pCloneB,pNear,pFits,pWith,scontB,List.length_map,fnI,pinB,lentOK,nth,hwL,Nat.zero_add,Nat.sub_zero]))
    all_goals first|rfl|(simp;done)|exact fun i hi=>(match i,hi with|0,_=>rfl|1,_=>rfl)
  · have hR:resB ansB RB=false:=by
      simp [resB,hlast,show ¬ RB=0 by omega]
    rw [hR,hend]
    have eh:hasg ((8,AObj.mark) :: gwH cs s a sold begun++lentA [7] (8+1) 0 [buO cs s])=hasg [(8,.mark),(0,carC cs s 1),(1,rowT sold),(2,.cells [.ptr 0 0]),(3,.cells (cAsk a)),(4,.cells [.sl (begun.map eBunk)]),(5,.cells [.cb]),(6,.cells [aB false]),(7,buO cs s)]:=rfl
    rw [eh]
    repeat' (first|(apply nx;with_reducible constructor)|refine jq (by decide) ?_|((first|refine kz env fun Q hQ=>?_|refine kj fun Q hQ=>?_);simp only [vkt,seval,tbD8_grow,xbD8_2,aTk,cTk,aAsk,cAsk,aBunk,aBunks,eBunk,rBunk,mBunk,mTk,mCabin,carC,rowT,lent2,g1L,gwL,gwH,buO,pBunks,pCloneB,pNear,pFits,pWith,scontB,List.length_map,fnI,pinB,lentOK,nth,hwL,Nat.zero_add,Nat.sub_zero];(try simp only [ite_and]);(repeat' (first|with_reducible assumption|refine And.intro ?_ ?_|intro hp));all_goals (first|(refine hQ _ ?_;clear hQ Q)|(refine hQ _ (fun h=>?_) (fun h=>?_) <;> clear hQ Q <;> (try simp only [vki,reduceCtorEq] at h))|(refine kx ?_;kernel_rfl)|omega|assumption|with_reducible rfl|skip)))
    (simp only [vrt,Try.results115,vkt,seval,tbD8_grow,xbD8_2,aTk,cTk,aAsk,cAsk,aBunk,aBunks,eBunk,rBunk,mBunk,mTk,mCabin,carC,rowT,lent2,g1L,gwL,gwH,buO,pBunks,pCloneB,pNear,pFits,pWith,scontB,List.length_map,fnI,pinB,lentOK,nth,hwL,Nat.zero_add,Nat.sub_zero];refine Fin.ok some [] ?_ ?_ ?_ ?_ ?_ rfl;all_goals (try simp only [vle,vkt,seval,tbD8_grow,xbD8_2,aTk,cTk,aAsk,cAsk,aBunk,aBunks,eBunk,rBunk,mBunk,mTk,mCabin,carC,rowT,lent2,g1L,gwL,gwH,buO,pBunks,pCloneB,pNear,pFits,pWith,scontB,List.length_map,fnI,pinB,lentOK,nth,hwL,Nat.zero_add,Nat.sub_zero]))
    all_goals first|rfl|(simp;done)|exact fun i hi=>(match i,hi with|0,_=>rfl|1,_=>rfl)
theorem grow_all (cs:List Cabin) (s:Int) (a:Ask):∀ m,GrowFn cs s a m
  |0=>grow_zero cs s a
  |m+1=>grow_succ cs s a m (with_fn (grow1_fn (grow_all cs s a m)))
end Go.Sym.B
namespace Go.Sym.B
open Go Go.Sym Go.Proofs Go.Sym.C
theorem pcs_ask (a:Ask):PCs (cAsk a):=⟨by simp [cAsk,AV.idsL,AV.ids],by simp [cAsk,AV.leL,AV.le],by simp [cAsk,AV.renL,AV.ren]⟩
def tbD9_ask1:=kk @ty3 (kk @ty31 (kk @ty81 (kk @ti3.eq_1 (kk @ti31.eq_1 @ti81.eq_1))))
def xbD9_1:=kk @aI.eq_1 (@aB.eq_1)
theorem ask1_fn (a:Ask):PredFn 128 (cAsk a) (fun x=>decide (x.party=a.party)):=fun x=>by
  have env:Env (fun _=>True) Try.prog tyB (tab []):=mkEnv trivial
  refine Fn.of (A:=fun _=>True) (n0:=1) (D:=noD) (Fn0 Try.func128 rfl (fun vs w=>by kernel_rfl) (by kernel_rfl)) (by simp) (by simp [AV.ids,AV.idsL,aTk,cTk]) ?_ (fun _ _ _ _=>trivial) noD_ok ?_
  · intro i o hi
    have h:=hasg_mem hi
    simp at h;obtain ⟨rfl,rfl⟩:=h;simp [cAsk,AObj.ids,AV.ids,AV.idsL]
  repeat' (first|(apply nx;with_reducible constructor)|refine jq (by decide) ?_|((first|refine kz env fun Q hQ=>?_|refine kj fun Q hQ=>?_);simp only [vkt,seval,tbD9_ask1,xbD9_1,aTk,cTk,cAsk];(try simp only [ite_and]);(repeat' (first|with_reducible assumption|refine And.intro ?_ ?_|intro hp));all_goals (first|(refine hQ _ ?_;clear hQ Q)|(refine hQ _ (fun h=>?_) (fun h=>?_) <;> clear hQ Q <;> (try simp only [vki,reduceCtorEq] at h))|(refine kx ?_;kernel_rfl)|omega|assumption|with_reducible rfl|skip)))
  all_goals (simp only [vrt,Try.results128,vkt,seval,tbD9_ask1,xbD9_1,aTk,cTk,cAsk];refine Fin.ok some [] ?_ ?_ ?_ ?_ ?_ rfl;all_goals (try simp only [vle,vkt,seval,tbD9_ask1,xbD9_1,aTk,cTk,cAsk]))
  all_goals first|rfl|(simp;done)
def pContA (a:Ask) (S:St):List AV→Option Pk
  |[.sl xs,.clo f [.ptr t 0]]=>match S.h t with
    |some (.cells cs')=>some { pre:=f=128∧cs'=cAsk a∧xs=(xs.map dTk).map eTk∧xs.length≤100,hs:=[t],ar:=[.sl xs,.clo 128 [.ptr 0 0]],L0:=[.cells (cAsk a)],v:=aB ((xs.map dTk).any fun x=>decide (x.party=a.party)),L1:=[some (.cells (cAsk a))] }
    |_=>none
  |_=>none
theorem eContA {A:Frm→Prop} {a:Ask}:EntryOK A Try.prog 127 (fnE (pContA a)):=fnE_ok fun S bs q h hp=>by
  unfold pContA at h
  split at h
  · split at h
    · cases h
      obtain ⟨_,_,h1,h2⟩:=hp
      have:=cont_fn (pcs_ask a) (ask1_fn a) (List.map dTk _) (by rw [List.length_map];exact h2)
      rw [aTks,← h1] at this
      exact this
    · cases h
  · cases h
def akS (c:Chart) (a:Ask) (k:Nat):St:={ t:=asg [(2,.ptr 0 0),(3,.ptr 1 0),(4,aI 0),(36,.sl (a.sexes.map eInt)),(37,aI a.sexes.length),(38,aI k)],h:=hasg [(0,.cells (cChart c)),(1,.cells (cAsk a))],n:=2 }
def sexE (s:Int):Int:=if !inB s 1 2 then 8 else 0
def tbD9_ask:=kk @ty3 (kk @ty22 (kk @ty26 (kk @ty28 (kk @ty31 (kk @ty34 (kk @ty81 (kk @ti3.eq_1 (kk @ti22.eq_1 (kk @ti26.eq_1 (kk @ti28.eq_1 (kk @ti31.eq_1 (kk @ti34.eq_1 @ti81.eq_1))))))))))))
def xbD9_2:=kk @aI.eq_1 (kk @aB.eq_1 (kk @eInt.eq_1 (kk @gInt (@mInt))))
theorem ask_fn (c:Chart) (a:Ask) (hc:c.sold.length≤100) (ha:a.sexes.length≤maxLen):FnV Try.prog 102 [aChart c,aAsk a] (aI (askE c a)):=by
  have env:Env (fun _=>True) Try.prog tyB (tab [(91,valE true sin),(101,valE true scounted),(92,valE true sway),(127,fnE (pContA a))]):=mkEnv ⟨ein,ecounted,eway,eContA,trivial⟩
  refine Fn.of (A:=fun _=>True) (n0:=0) (D:=noD) (Fn0 Try.func102 rfl (fun vs w=>by kernel_rfl) (by kernel_rfl)) (by simp) (by simp [AV.ids,AV.idsL,aChart,cChart,aAsk,cAsk]) (fun i o h=>by cases h) (fun _ _ _ _=>trivial) noD_ok ?_
  cases h1:inB a.party 1 99
  · rw [show askE c a=1 by simp [askE,h1]]
    repeat' (first|(apply nx;with_reducible constructor)|refine jq (by decide) ?_|((first|refine kz env fun Q hQ=>?_|refine kj fun Q hQ=>?_);simp only [vkt,seval,tbD9_ask,xbD9_2,aChart,cChart,aAsk,cAsk,mTk,mCabin,akS,sin,scounted,sway,pContA,List.length_map,h1];(try simp only [ite_and]);(repeat' (first|with_reducible assumption|refine And.intro ?_ ?_|intro hp));all_goals (first|(refine hQ _ ?_;clear hQ Q)|(refine hQ _ (fun h=>?_) (fun h=>?_) <;> clear hQ Q <;> (try simp only [vki,reduceCtorEq] at h))|(refine kx ?_;kernel_rfl)|omega|assumption|with_reducible rfl|skip)))
    (simp only [vrt,Try.results102,vkt,seval,tbD9_ask,xbD9_2,aChart,cChart,aAsk,cAsk,mTk,mCabin,akS,sin,scounted,sway,pContA,List.length_map];refine Fin.val rfl ?_;(try simp only [AV.le,AV.leL]))
    all_goals first|rfl|(simp;done)
  cases h2:c.sold.any (fun t=>decide (t.party=a.party))
  case true =>
    rw [show askE c a=4 by simp only [askE,h1,h2];rfl]
    repeat' (first|(apply nx;with_reducible constructor)|refine jq (by decide) ?_|((first|refine kz env fun Q hQ=>?_|refine kj fun Q hQ=>?_);simp only [vkt,seval,tbD9_ask,xbD9_2,aChart,cChart,aAsk,cAsk,mTk,mCabin,akS,sin,scounted,sway,pContA,List.length_map,h1,h2,hc];(try simp only [ite_and]);(repeat' (first|with_reducible assumption|refine And.intro ?_ ?_|intro hp));all_goals (first|(refine hQ _ ?_;clear hQ Q)|(refine hQ _ (fun h=>?_) (fun h=>?_) <;> clear hQ Q <;> (try simp only [vki,reduceCtorEq] at h))|(refine kx ?_;kernel_rfl)|omega|assumption|with_reducible rfl|skip)))
    (simp only [vrt,Try.results102,vkt,seval,tbD9_ask,xbD9_2,aChart,cChart,aAsk,cAsk,mTk,mCabin,akS,sin,scounted,sway,pContA,List.length_map];refine Fin.val rfl ?_;(try simp only [AV.le,AV.leL]))
    all_goals first|rfl|(simp;done)
  by_cases h3:wayE c.secs a.frm a.to=0
  case neg =>
    rw [show askE c a=wayE c.secs a.frm a.to by unfold askE;rw [h1,h2];simp [h3]]
    repeat' (first|(apply nx;with_reducible constructor)|refine jq (by decide) ?_|((first|refine kz env fun Q hQ=>?_|refine kj fun Q hQ=>?_);simp only [vkt,seval,tbD9_ask,xbD9_2,aChart,cChart,aAsk,cAsk,mTk,mCabin,akS,sin,scounted,sway,pContA,List.length_map,h1,h2,h3,hc];(try simp only [ite_and]);(repeat' (first|with_reducible assumption|refine And.intro ?_ ?_|intro hp));all_goals (first|(refine hQ _ ?_;clear hQ Q)|(refine hQ _ (fun h=>?_) (fun h=>?_) <;> clear hQ Q <;> (try simp only [vki,reduceCtorEq] at h))|(refine kx ?_;kernel_rfl)|omega|assumption|with_reducible rfl|skip)))
    (simp only [vrt,Try.results102,vkt,seval,tbD9_ask,xbD9_2,aChart,cChart,aAsk,cAsk,mTk,mCabin,akS,sin,scounted,sway,pContA,List.length_map];refine Fin.val rfl ?_;(try simp only [AV.le,AV.leL]))
    all_goals first|rfl|(simp;done)
  by_cases h4:countedE a.sexes.length 1 3=0
  case neg =>
    rw [show askE c a=countedE a.sexes.length 1 3 by unfold askE;rw [h1,h2,h3];simp [h4]]
    repeat' (first|(apply nx;with_reducible constructor)|refine jq (by decide) ?_|((first|refine kz env fun Q hQ=>?_|refine kj fun Q hQ=>?_);simp only [vkt,seval,tbD9_ask,xbD9_2,aChart,cChart,aAsk,cAsk,mTk,mCabin,akS,sin,scounted,sway,pContA,List.length_map,h1,h2,h3,h4,hc];(try simp only [ite_and]);(repeat' (first|with_reducible assumption|refine And.intro ?_ ?_|intro hp));all_goals (first|(refine hQ _ ?_;clear hQ Q)|(refine hQ _ (fun h=>?_) (fun h=>?_) <;> clear hQ Q <;> (try simp only [vki,reduceCtorEq] at h))|(refine kx ?_;kernel_rfl)|omega|assumption|with_reducible rfl|skip)))
    (simp only [vrt,Try.results102,vkt,seval,tbD9_ask,xbD9_2,aChart,cChart,aAsk,cAsk,mTk,mCabin,akS,sin,scounted,sway,pContA,List.length_map];refine Fin.val rfl ?_;(try simp only [AV.le,AV.leL]))
    all_goals first|rfl|(simp;done)
  have hl:a.sexes.length≤3:=by
    unfold countedE at h4
    split at h4
    · exact absurd h4 (by decide)
    · split at h4
      · exact absurd h4 (by decide)
      · omega
  rw [show askE c a=firstE (a.sexes.map sexE) by unfold askE;rw [h1,h2,h3,h4];rfl]
  repeat' (first|(apply nx;with_reducible constructor)|refine jq (by decide) ?_|((first|refine kz env fun Q hQ=>?_|refine kj fun Q hQ=>?_);simp only [vkt,seval,tbD9_ask,xbD9_2,aChart,cChart,aAsk,cAsk,mTk,mCabin,akS,sin,scounted,sway,pContA,List.length_map,h1,h2,h3,h4,hc];(try simp only [ite_and]);(repeat' (first|with_reducible assumption|refine And.intro ?_ ?_|intro hp));all_goals (first|(refine hQ _ ?_;clear hQ Q)|(refine hQ _ (fun h=>?_) (fun h=>?_) <;> clear hQ Q <;> (try simp only [vki,reduceCtorEq] at h))|(refine kx ?_;kernel_rfl)|omega|assumption|with_reducible rfl|skip)))
  refine sym_loop (fun k:{ k:Nat // k≤a.sexes.length∧∀ j,j < k→(a.sexes.map sexE).getD j 0=0 }=>akS c a k.1) (fun k=>a.sexes.length - k.1) ⟨0,Nat.zero_le _,fun j h=>absurd h (Nat.not_lt_zero _)⟩ ?_ fun ⟨k,hk,hno⟩=>?_
  · (refine Le.ok some [] ?_;constructor;all_goals (try simp only [vle,vkt,seval,tbD9_ask,xbD9_2,aChart,cChart,aAsk,cAsk,mTk,mCabin,akS,sin,scounted,sway,pContA,List.length_map]))
    all_goals first|rfl|(simp;done)
  · repeat' (first|(apply nx;with_reducible constructor)|refine jq (by decide) ?_)
    (refine kz env fun Q hQ=>?_;simp only [vkt,seval,tbD9_ask,xbD9_2,aChart,cChart,aAsk,cAsk,mTk,mCabin,akS,sin,scounted,sway,pContA,List.length_map];(try simp only [ite_and]);(repeat' (first|with_reducible assumption|refine And.intro ?_ ?_|intro hp));all_goals (first|(refine hQ _ ?_;clear hQ Q)|(refine kx ?_;kernel_rfl)|omega|assumption|with_reducible rfl|skip))
    repeat' (first|(apply nx;with_reducible constructor)|refine jq (by decide) ?_)
    (refine sym_cd (by simp only [vkt,seval,tbD9_ask,xbD9_2,aChart,cChart,aAsk,cAsk,mTk,mCabin,akS,sin,scounted,sway,pContA,List.length_map];rfl) (fun h=>?_) (fun h=>?_) <;> (try simp only [vki,reduceCtorEq] at h))
    · have hlt:k < a.sexes.length:=by omega
      have e9:IntKind.wrap .i64 ((k:Int)+1)=((k+1:Nat):Int):=by rw [wrap64 (by omega) (by omega)];rfl
      obtain ⟨x,hx⟩:∃ x,a.sexes.getD k 0=x:=⟨_,rfl⟩
      have hm:(a.sexes.map sexE).getD k 0=sexE x:=by rw [mapD hlt];exact congrArg sexE hx
      cases hb:inB x 1 2
      · have hE:sexE x=8:=by simp [sexE,hb]
        have hf:=firstE_take hno (by simpa using hlt) (by rw [hm,hE];decide)
        rw [hm,hE] at hf
        rw [hf]
        repeat' (first|(apply nx;with_reducible constructor)|refine jq (by decide) ?_|((first|refine kz env fun Q hQ=>?_|refine kj fun Q hQ=>?_);simp only [vkt,seval,tbD9_ask,xbD9_2,aChart,cChart,aAsk,cAsk,mTk,mCabin,akS,sin,scounted,sway,pContA,List.length_map,hx,hb,e9];(try simp only [ite_and]);(repeat' (first|with_reducible assumption|refine And.intro ?_ ?_|intro hp));all_goals (first|(refine hQ _ ?_;clear hQ Q)|(refine hQ _ (fun h=>?_) (fun h=>?_) <;> clear hQ Q <;> (try simp only [vki,reduceCtorEq] at h))|(refine kx ?_;kernel_rfl)|omega|assumption|with_reducible rfl|skip)))
        (simp only [vrt,Try.results102,vkt,seval,tbD9_ask,xbD9_2,aChart,cChart,aAsk,cAsk,mTk,mCabin,akS,sin,scounted,sway,pContA,List.length_map];refine Fin.val rfl ?_;(try simp only [AV.le,AV.leL]))
        all_goals first|rfl|(simp;done)
      · have hE:sexE x=0:=by simp [sexE,hb]
        repeat' (first|(apply nx;with_reducible constructor)|refine jq (by decide) ?_|((first|refine kz env fun Q hQ=>?_|refine kj fun Q hQ=>?_);simp only [vkt,seval,tbD9_ask,xbD9_2,aChart,cChart,aAsk,cAsk,mTk,mCabin,akS,sin,scounted,sway,pContA,List.length_map,hx,hb,e9];(try simp only [ite_and]);(repeat' (first|with_reducible assumption|refine And.intro ?_ ?_|intro hp));all_goals (first|(refine hQ _ ?_;clear hQ Q)|(refine hQ _ (fun h=>?_) (fun h=>?_) <;> clear hQ Q <;> (try simp only [vki,reduceCtorEq] at h))|(refine kx ?_;kernel_rfl)|omega|assumption|with_reducible rfl|skip)))
        refine ⟨⟨k+1,hlt,fun j hj=>?_⟩,by show a.sexes.length - (k+1) < a.sexes.length - k;omega, ?_⟩
        · rcases Nat.lt_or_eq_of_le (Nat.le_of_lt_succ hj) with h2|h2
          · exact hno j h2
          · rw [h2,hm,hE]
        · (refine Le.ok some [] ?_;constructor;all_goals (try simp only [vle,vkt,seval,tbD9_ask,xbD9_2,aChart,cChart,aAsk,cAsk,mTk,mCabin,akS,sin,scounted,sway,pContA,List.length_map]))
          all_goals first|rfl|(simp;done)
    · have hke:k=a.sexes.length:=by omega
      subst hke
      rw [firstE_all (l:=a.sexes.map sexE) (by simpa using hno)]
      repeat' (first|(apply nx;with_reducible constructor)|refine jq (by decide) ?_|((first|refine kz env fun Q hQ=>?_|refine kj fun Q hQ=>?_);simp only [vkt,seval,tbD9_ask,xbD9_2,aChart,cChart,aAsk,cAsk,mTk,mCabin,akS,sin,scounted,sway,pContA,List.length_map];(try simp only [ite_and]);(repeat' (first|with_reducible assumption|refine And.intro ?_ ?_|intro hp));all_goals (first|(refine hQ _ ?_;clear hQ Q)|(refine hQ _ (fun h=>?_) (fun h=>?_) <;> clear hQ Q <;> (try simp only [vki,reduceCtorEq] at h))|(refine kx ?_;kernel_rfl)|omega|assumption|with_reducible rfl|skip)))
      (simp only [vrt,Try.results102,vkt,seval,tbD9_ask,xbD9_2,aChart,cChart,aAsk,cAsk,mTk,mCabin,akS,sin,scounted,sway,pContA,List.length_map];refine Fin.val rfl ?_;(try simp only [AV.le,AV.leL]))
      all_goals first|rfl|(simp;done)
def sask:List AV→Prop × AV
  |[.agg [.sl c0,.v (.int .i64 c1),.sl c2],.agg [.v (.int .i64 a0),.v (.int .i64 a1),.v (.int .i64 a2),.sl a3,.v (.bool a4)]]=>(c0=(c0.map dCabin).map eCabin∧c2=(c2.map dTk).map eTk∧a3=(a3.map dInt).map eInt∧c2.length≤100∧a3.length≤maxLen,aI (askE (⟨(c0.map dCabin),c1,(c2.map dTk)⟩:Chart) (⟨a0,a1,a2,(a3.map dInt),a4⟩:Ask)))
  |_=>(False,.junk)
theorem eask {A:Frm→Prop}:EntryOK A Try.prog 102 (valE true sask):=valE_ok fun vs hv h=>by
  clear hv
  unfold sask at h ⊢
  split at h
  · rename_i c0 c1 c2 a0 a1 a2 a3 a4;obtain ⟨q0,q1,q2,k0,k1⟩:=h
    refine ⟨by first|trivial|(simp [AV.plain,AV.plainL,aI,aB,aInts,aBunks,aTks,aBunk,aTk,cTk];done)|(repeat' split) <;> simp [AV.plain,AV.plainL,aI,aB,aInts,aBunks,aTks,aBunk,aTk,cTk],fun _=>(by simp [AV.flat,AV.flatL,aI,aB]), ?_⟩
    have:=ask_fn (⟨(c0.map dCabin),c1,(c2.map dTk)⟩:Chart) (⟨a0,a1,a2,(a3.map dInt),a4⟩:Ask) (by simpa using k0) (by simpa using k1)
    simp only [aAsk,aB,aCabins,aChart,aI,aInts,aTks,cAsk,cChart,← q0,← q1,← q2] at this
    first|exact this|(simp only [aAsk,aB,aCabins,aChart,aI,aInts,aTks,cAsk,cChart,← q0,← q1,← q2];exact this)
  · exact h.elim
def tbD9_cloneC:=kk @ty25 (kk @ty51 (kk @ti25.eq_1 @ti51.eq_1))
theorem cloneC_fn (xs:List (List DV)) (h1:rowsOK 2 xs) (h2:xs.length≤100000):Fn noB Try.prog 121 [.sl xs] noH (.row 0) (hasg [(0,.row 51 2 xs)]) 0:=by
  have env:Env (fun _=>True) Try.prog tyB (tab []):=mkEnv trivial
  obtain ⟨b1,b2,b3,b5,b4⟩:=b47 h2
  refine Fn.of (A:=fun _=>True) (n0:=0) (D:=noD) (Fn0 Try.func121 rfl (fun vs w=>by kernel_rfl) (by kernel_rfl)) (by simp) (by simp [AV.ids]) (fun i o h=>by cases h) (fun _ _ _ _=>trivial) noD_ok ?_
  repeat' (first|(apply nx;with_reducible constructor)|refine jq (by decide) ?_)
  (refine kz env fun Q hQ=>?_;simp only [vkt,seval,tbD9_cloneC,@true_and];(try simp only [ite_and]);(repeat' (first|with_reducible assumption|refine And.intro ?_ ?_|intro hp));all_goals (first|(refine hQ _ ?_;clear hQ Q)|(refine kx ?_;kernel_rfl)|omega|assumption|with_reducible rfl|skip))
  repeat' (first|(apply nx;with_reducible constructor)|refine jq (by decide) ?_)
  refine sym_niltest (d1:=3) (d2:=4) (t:=25) (e:=51) (x:=.tmp 0) (xs:=xs) rfl rfl rfl rfl rfl rfl Try.underlying25 rfl fun b hb=>?_
  repeat' (first|(apply nx;with_reducible constructor)|refine jq (by decide) ?_)
  (refine sym_cd (by simp only [vkt,seval,tbD9_cloneC,@true_and];rfl) (fun h=>?_) (fun h=>?_) <;> (try simp only [vki,reduceCtorEq] at h))
  · have hx:=hb h
    subst hx
    repeat' (first|(apply nx;with_reducible constructor)|refine jq (by decide) ?_|((first|refine kz env fun Q hQ=>?_|refine kj fun Q hQ=>?_);simp only [vkt,seval,tbD9_cloneC,@true_and];(try simp only [ite_and]);(repeat' (first|with_reducible assumption|refine And.intro ?_ ?_|intro hp));all_goals (first|(refine hQ _ ?_;clear hQ Q)|(refine hQ _ (fun h=>?_) (fun h=>?_) <;> clear hQ Q <;> (try simp only [vki,reduceCtorEq] at h))|(refine kx ?_;kernel_rfl)|omega|assumption|with_reducible rfl|skip)))
    (simp only [vrt,Try.results121,vkt,seval,tbD9_cloneC,@true_and];refine Fin.ok (fun _=>none) [] ?_ ?_ ?_ ?_ ?_ rfl;all_goals (try simp only [vle,vkt,seval,tbD9_cloneC,@true_and]))
    all_goals simp
  · repeat' (first|(apply nx;with_reducible constructor)|refine jq (by decide) ?_|((first|refine kz env fun Q hQ=>?_|refine kj fun Q hQ=>?_);simp only [vkt,seval,tbD9_cloneC,@true_and];(try simp only [ite_and]);(repeat' (first|with_reducible assumption|refine And.intro ?_ ?_|intro hp));all_goals (first|(refine hQ _ ?_;clear hQ Q)|(refine hQ _ (fun h=>?_) (fun h=>?_) <;> clear hQ Q <;> (try simp only [vki,reduceCtorEq] at h))|(refine kx ?_;kernel_rfl)|omega|assumption|with_reducible rfl|skip)))
    (simp only [vrt,Try.results121,vkt,seval,tbD9_cloneC,@true_and];refine Fin.ok some [] ?_ ?_ ?_ ?_ ?_ rfl;all_goals (try simp only [vle,vkt,seval,tbD9_cloneC,@true_and]))
    all_goals simp
def pCloneC (_:St):List AV→Option Pk
  |[.sl xs]=>some { pre:=rowsOK 2 xs∧xs.length≤100000,ar:=[.sl xs],v:=.row 0,L1:=[some (.row 51 2 xs)] }
  |_=>none
theorem eCloneC {A:Frm→Prop}:EntryOK A Try.prog 121 (fnE pCloneC):=fnE_ok fun S bs q h hp=>by
  unfold pCloneC at h
  split at h
  · cases h;exact cloneC_fn _ hp.1 hp.2
  · cases h
def tbD9_carOf:=kk @ty25 (kk @ty26 (kk @ty28 (kk @ty51 (kk @ty81 (kk @ty118 (kk @ti25.eq_1 (kk @ti26.eq_1 (kk @ti28.eq_1 (kk @ti51.eq_1 (kk @ti81.eq_1 @ti118.eq_1))))))))))
def xbD9_4:=kk @aI.eq_1 (@aB.eq_1)
theorem carOf_fn (c:Chart) (h1:c.cabins.length≤100000) (h2:c.sold.length≤100000):Fn noB Try.prog 93 [aChart c] noH (.ptr 0 0) (hasg (enumO 0 ((lent2 c.cabins c.secs c.sold).map some))) 0:=by
  have env:Env (fun _=>True) Try.prog tyB (tab [(122,fnE pCloneT),(121,fnE pCloneC)]):=mkEnv ⟨eCloneT,eCloneC,trivial⟩
  refine Fn.of (A:=fun _=>True) (n0:=0) (D:=noD) (Fn0 Try.func93 rfl (fun vs w=>by kernel_rfl) (by kernel_rfl)) (by simp) (by simp [AV.ids,AV.idsL,aChart,cChart]) (fun i o h=>by cases h) (fun _ _ _ _=>trivial) noD_ok ?_
  show Sym _ _ _ (startS [aChart c] 0 noH) (retK tyB noD Try.f93 fun S rv=>Fin S rv _ 0 (hasg [(0,carC c.cabins c.secs 1),(1,rowT c.sold)]) 0)
  repeat' (first|(apply nx;with_reducible constructor)|refine jq (by decide) ?_|((first|refine kz env fun Q hQ=>?_|refine kj fun Q hQ=>?_);simp only [vkt,seval,tbD9_carOf,xbD9_4,aChart,cChart,rTk,rCabin,carC,rowT,lent2,pCloneT,pCloneC,List.length_map,h1,h2];(try simp only [ite_and]);(repeat' (first|with_reducible assumption|refine And.intro ?_ ?_|intro hp));all_goals (first|(refine hQ _ ?_;clear hQ Q)|(refine hQ _ (fun h=>?_) (fun h=>?_) <;> clear hQ Q <;> (try simp only [vki,reduceCtorEq] at h))|(refine kx ?_;kernel_rfl)|omega|assumption|with_reducible rfl|skip)))
  all_goals (simp only [vrt,Try.results93,vkt,seval,tbD9_carOf,xbD9_4,aChart,cChart,rTk,rCabin,carC,rowT,lent2,pCloneT,pCloneC,List.length_map];refine Fin.ok (fun j=>[3,2][j]?) [1] ?_ ?_ ?_ ?_ ?_ rfl;all_goals (try simp only [vle,vkt,seval,tbD9_carOf,xbD9_4,aChart,cChart,rTk,rCabin,carC,rowT,lent2,pCloneT,pCloneC,List.length_map]))
  all_goals first|rfl|(simp;done)
end Go.Sym.B
namespace Go.Sym.B
open Go Go.Sym Go.Proofs Go.Sym.C
def pCarOf (_:St):List AV→Option Pk
  |[.agg [.sl cs,.v (.int .i64 s),.sl ts]]=>some { pre:=cs=(cs.map dCabin).map eCabin∧ts=(ts.map dTk).map eTk∧cs.length≤100000∧ts.length≤100000,ar:=[.agg [.sl cs,.v (.int .i64 s),.sl ts]],v:=.ptr 0 0,L1:=(lent2 (cs.map dCabin) s (ts.map dTk)).map some }
  |_=>none
theorem eCarOf {A:Frm→Prop}:EntryOK A Try.prog 93 (fnE pCarOf):=fnE_ok fun S bs q h hp=>by
  unfold pCarOf at h
  split at h
  · rename_i cs s ts
    cases h
    obtain ⟨h1,h2,h3,h4⟩:=hp
    have:=carOf_fn ⟨cs.map dCabin,s,ts.map dTk⟩ (by simpa using h3) (by simpa using h4)
    simp only [aChart,cChart,← h1,← h2] at this
    exact this
  · cases h
theorem both_ok {c:Chart} {a:Ask} (h:bothE c a=0):checkE c=0∧askE c a=0:=by
  unfold bothE at h
  split at h
  · rename_i h1;exact absurd h h1
  · rename_i h1;exact ⟨Decidable.not_not.1 h1,h⟩
def tbD10_asked:=kk @ty28 (kk @ty31 (kk @ty34 (kk @ti28.eq_1 (kk @ti31.eq_1 @ti34.eq_1))))
def xbD10_1:=kk @aI.eq_1 (kk @aB.eq_1 (@mInt))
theorem asked_ok (c:Chart) (a:Ask) (h:bothE c a=0) (hc:c.cabins.length≤maxLen) (ha:a.sexes.length≤maxLen):Fn noB Try.prog 66 [aChart c,aAsk a] noH (.tup [.ptr 0 0,aI 0]) (hasg (enumO 0 ((lent2 c.cabins c.secs c.sold).map some))) 0:=by
  have env:Env (fun _=>True) Try.prog tyB (tab [(44,valE true scheck),(102,valE true sask),(93,fnE pCarOf)]):=mkEnv ⟨echeck,eask,eCarOf,trivial⟩
  refine Fn.of (A:=fun _=>True) (n0:=0) (D:=noD) (Fn0 Try.func66 rfl (fun vs w=>by kernel_rfl) (by kernel_rfl)) (by simp) (by simp [AV.ids,AV.idsL,aChart,cChart,aAsk,cAsk]) (fun i o h=>by cases h) (fun _ _ _ _=>trivial) noD_ok ?_
  obtain ⟨h1,h2⟩:=both_ok h
  have hv:=val_of h1
  have b1:=hv.car.cabs
  have b2:=hv.many
  have ec:(⟨c.cabins,c.secs,c.sold⟩:Chart)=c:=rfl
  have ea:(⟨a.party,a.frm,a.to,a.sexes,a.dog⟩:Ask)=a:=rfl
  have b3:c.sold.length≤100:=by omega
  have b4:c.sold.length≤100000:=by omega
  have b5:c.cabins.length≤100000:=by omega
  show Sym _ _ _ (startS [aChart c,aAsk a] 0 noH) (retK tyB noD Try.f66 fun S rv=>Fin S rv _ 0 (hasg [(0,carC c.cabins c.secs 1),(1,rowT c.sold)]) 0)
  repeat' (first|(apply nx;with_reducible constructor)|refine jq (by decide) ?_|((first|refine kz env fun Q hQ=>?_|refine kj fun Q hQ=>?_);simp only [vkt,seval,tbD10_asked,xbD10_1,aChart,cChart,aAsk,cAsk,mTk,mCabin,carC,rowT,lent2,scheck,sask,pCarOf,List.length_map,ec,ea,h1,h2,b3,b4,b5];(try simp only [ite_and]);(repeat' (first|with_reducible assumption|refine And.intro ?_ ?_|intro hp));all_goals (first|(refine hQ _ ?_;clear hQ Q)|(refine hQ _ (fun h=>?_) (fun h=>?_) <;> clear hQ Q <;> (try simp only [vki,reduceCtorEq] at h))|(refine kx ?_;kernel_rfl)|omega|assumption|with_reducible rfl|skip)))
  (simp only [vrt,Try.results66,vkt,seval,tbD10_asked,xbD10_1,aChart,cChart,aAsk,cAsk,mTk,mCabin,carC,rowT,lent2,scheck,sask,pCarOf,List.length_map];refine Fin.ok (fun j=>[2,3][j]?) [] ?_ ?_ ?_ ?_ ?_ rfl;all_goals (try simp only [vle,vkt,seval,tbD10_asked,xbD10_1,aChart,cChart,aAsk,cAsk,mTk,mCabin,carC,rowT,lent2,scheck,sask,pCarOf,List.length_map]))
  all_goals first|rfl|(simp;done)
theorem asked_err (c:Chart) (a:Ask) (h0:bothE c a ≠ 0) (hc:c.cabins.length≤maxLen) (ha:a.sexes.length≤maxLen):Fn noB Try.prog 66 [aChart c,aAsk a] noH (.tup [.v (.pointer none),aI (bothE c a)]) noH 0:=by
  have env:Env (fun _=>True) Try.prog tyB (tab [(44,valE true scheck),(102,valE true sask),(93,fnE pCarOf)]):=mkEnv ⟨echeck,eask,eCarOf,trivial⟩
  refine Fn.of (A:=fun _=>True) (n0:=0) (D:=noD) (Fn0 Try.func66 rfl (fun vs w=>by kernel_rfl) (by kernel_rfl)) (by simp) (by simp [AV.ids,AV.idsL,aChart,cChart,aAsk,cAsk]) (fun i o h=>by cases h) (fun _ _ _ _=>trivial) noD_ok ?_
  have ec:(⟨c.cabins,c.secs,c.sold⟩:Chart)=c:=rfl
  have ea:(⟨a.party,a.frm,a.to,a.sexes,a.dog⟩:Ask)=a:=rfl
  by_cases h1:checkE c=0
  · have hE:bothE c a=askE c a:=by unfold bothE;rw [if_neg (by rw [h1];simp)]
    rw [hE] at h0 ⊢
    have hv:=val_of h1
    have b2:=hv.many
    have b3:c.sold.length≤100:=by omega
    repeat' (first|(apply nx;with_reducible constructor)|refine jq (by decide) ?_|((first|refine kz env fun Q hQ=>?_|refine kj fun Q hQ=>?_);simp only [vkt,seval,tbD10_asked,xbD10_1,aChart,cChart,aAsk,cAsk,mTk,mCabin,carC,rowT,lent2,scheck,sask,pCarOf,List.length_map,ec,ea,h1,h0,b3];(try simp only [ite_and]);(repeat' (first|with_reducible assumption|refine And.intro ?_ ?_|intro hp));all_goals (first|(refine hQ _ ?_;clear hQ Q)|(refine hQ _ (fun h=>?_) (fun h=>?_) <;> clear hQ Q <;> (try simp only [vki,reduceCtorEq] at h))|(refine kx ?_;kernel_rfl)|omega|assumption|with_reducible rfl|skip)))
    (simp only [vrt,Try.results66,vkt,seval,tbD10_asked,xbD10_1,aChart,cChart,aAsk,cAsk,mTk,mCabin,carC,rowT,lent2,scheck,sask,pCarOf,List.length_map];refine Fin.val rfl ?_;(try simp only [AV.le,AV.leL]))
    all_goals first|rfl|(simp;done)
  · have hE:bothE c a=checkE c:=by unfold bothE;rw [if_pos h1]
    rw [hE]
    repeat' (first|(apply nx;with_reducible constructor)|refine jq (by decide) ?_|((first|refine kz env fun Q hQ=>?_|refine kj fun Q hQ=>?_);simp only [vkt,seval,tbD10_asked,xbD10_1,aChart,cChart,aAsk,cAsk,mTk,mCabin,carC,rowT,lent2,scheck,sask,pCarOf,List.length_map,ec,ea,h1];(try simp only [ite_and]);(repeat' (first|with_reducible assumption|refine And.intro ?_ ?_|intro hp));all_goals (first|(refine hQ _ ?_;clear hQ Q)|(refine hQ _ (fun h=>?_) (fun h=>?_) <;> clear hQ Q <;> (try simp only [vki,reduceCtorEq] at h))|(refine kx ?_;kernel_rfl)|omega|assumption|with_reducible rfl|skip)))
    (simp only [vrt,Try.results66,vkt,seval,tbD10_asked,xbD10_1,aChart,cChart,aAsk,cAsk,mTk,mCabin,carC,rowT,lent2,scheck,sask,pCarOf,List.length_map];refine Fin.val rfl ?_;(try simp only [AV.le,AV.leL]))
    all_goals first|rfl|(simp;done)
def pAsked (_:St):List AV→Option Pk
  |[.agg [.sl cs,.v (.int .i64 s),.sl ts],.agg [.v (.int .i64 p),.v (.int .i64 f),.v (.int .i64 t),.sl xs,.v (.bool d)]] =>
    if bothE ⟨cs.map dCabin,s,ts.map dTk⟩ ⟨p,f,t,xs.map dInt,d⟩=0 then
      some { pre:=cs=(cs.map dCabin).map eCabin∧ts=(ts.map dTk).map eTk∧xs=(xs.map dInt).map eInt∧cs.length≤maxLen∧xs.length≤maxLen,ar:=[.agg [.sl cs,.v (.int .i64 s),.sl ts],.agg [.v (.int .i64 p),.v (.int .i64 f),.v (.int .i64 t),.sl xs,.v (.bool d)]],v:=.tup [.ptr 0 0,aI 0],L1:=(lent2 (cs.map dCabin) s (ts.map dTk)).map some }
    else some { pre:=cs=(cs.map dCabin).map eCabin∧ts=(ts.map dTk).map eTk∧xs=(xs.map dInt).map eInt∧cs.length≤maxLen∧xs.length≤maxLen,ar:=[.agg [.sl cs,.v (.int .i64 s),.sl ts],.agg [.v (.int .i64 p),.v (.int .i64 f),.v (.int .i64 t),.sl xs,.v (.bool d)]],v:=.tup [.v (.pointer none),aI (bothE ⟨cs.map dCabin,s,ts.map dTk⟩ ⟨p,f,t,xs.map dInt,d⟩)] }
  |_=>none
theorem eAsked {A:Frm→Prop}:EntryOK A Try.prog 66 (fnE pAsked):=fnE_ok fun S bs q h hp=>by
  unfold pAsked at h
  split at h
  · rename_i cs s ts p f t xs d
    split at h
    · rename_i hE
      cases h
      obtain ⟨h1,h2,h3,h4,h5⟩:=hp
      have:=asked_ok ⟨cs.map dCabin,s,ts.map dTk⟩ ⟨p,f,t,xs.map dInt,d⟩ hE (by simpa using h4) (by simpa using h5)
      simp only [aChart,cChart,aAsk,cAsk,← h1,← h2,← h3] at this
      exact this
    · rename_i hE
      cases h
      obtain ⟨h1,h2,h3,h4,h5⟩:=hp
      have:=asked_err ⟨cs.map dCabin,s,ts.map dTk⟩ ⟨p,f,t,xs.map dInt,d⟩ hE (by simpa using h4) (by simpa using h5)
      simp only [aChart,cChart,aAsk,cAsk,← h1,← h2,← h3] at this
      exact this
  · cases h
end Go.Sym.B
namespace Go.Sym.B
open Go Go.Sym Go.Proofs Go.Sym.C
theorem bad_not {t x:Tk} (h:badX t x=false):twiceB t x=false∧togB x t=true:=by
  have e1:decide (t.to≤x.frm)=!decide (x.frm < t.to):=by rw [← decide_not,decide_eq_decide];omega
  have e2:decide (x.to≤t.frm)=!decide (t.frm < x.to):=by rw [← decide_not,decide_eq_decide];omega
  have e3:decide (x.cab ≠ t.cab)=!decide (x.cab=t.cab):=by rw [← decide_not]
  unfold badX at h
  unfold twiceB togB meetB
  rw [e1,e2] at h
  rw [e3]
  generalize decide (x.cab=t.cab)=A at *
  generalize decide (x.frm < t.to)=B at *
  generalize decide (t.frm < x.to)=C at *
  generalize decide (x.bed=t.bed)=D at *
  generalize decide (x.party=t.party)=E at *
  generalize decide (x.sex=t.sex)=F at *
  generalize x.dog=G at *
  generalize t.dog=H at *
  clear e1 e2 e3
  revert A B C D E F G H
  decide
theorem goes_beside {l:List Tk} {t:Tk} (h:goesB l t=true):besideE t l=0:=by
  have hb:∀ x ∈ l,badX t x=false:=by
    unfold goesB at h
    intro x hx
    have:l.any (badX t)=false:=by simpa using h
    have:=List.any_eq_false.1 this x hx
    simpa using this
  unfold besideE
  rw [if_neg,if_neg]
  · rw [List.any_eq_true]
    rintro ⟨x,hx,h1⟩
    rw [(bad_not (hb x hx)).2] at h1
    exact absurd h1 (by decide)
  · rw [List.any_eq_true]
    rintro ⟨x,hx,h1⟩
    rw [(bad_not (hb x hx)).1] at h1
    exact absurd h1 (by decide)
theorem ticket_zero {cs:List Cabin} {secs:Int} {t:Tk} {l:List Tk} (h1:1≤t.party∧t.party≤99) (h2:1≤t.sex∧t.sex≤2) (h3:0≤t.cab∧t.cab.toNat < cs.length) (h4:0≤t.bed∧t.bed < (cs.getD t.cab.toNat default).beds) (h5:0≤t.frm∧t.frm < t.to∧t.to≤secs) (h6:besideE t l=0) :
    ticketE ⟨cs,secs,[]⟩ t l=0:=by
  have b1:inB t.party 1 99=true:=inB_iff.2 h1
  have b2:inB t.sex 1 2=true:=inB_iff.2 h2
  have b3:isBunkB cs t.cab t.bed=true:=by
    unfold isBunkB
    rw [inB_iff.2 (by omega),inB_iff.2 (by omega)];rfl
  have b4:wayE secs t.frm t.to=0:=by unfold wayE;rw [if_neg (by omega)]
  unfold ticketE
  rw [b1,b2]
  simp only [b3,b4,h6,Bool.not_true,Bool.false_eq_true,if_false,ne_eq,not_true_eq_false]
theorem tkNew_ok {cs:List Cabin} {secs p s1:Int} (hc:1≤cs.length∧cs.length≤3) (hb:∀ x ∈ cs,1≤x.beds∧x.beds≤3) (hs:1≤secs∧secs≤5):(tkNew cs secs p s1).1.party=p∧(1≤(tkNew cs secs p s1).1.sex∧(tkNew cs secs p s1).1.sex≤2)∧(0≤(tkNew cs secs p s1).1.cab∧(tkNew cs secs p s1).1.cab.toNat < cs.length) ∧
    (0≤(tkNew cs secs p s1).1.bed∧(tkNew cs secs p s1).1.bed < (cs.getD (tkNew cs secs p s1).1.cab.toNat default).beds)∧0≤(tkNew cs secs p s1).1.frm∧(tkNew cs secs p s1).1.frm < (tkNew cs secs p s1).1.to∧(tkNew cs secs p s1).1.to≤secs:=by
  have hn:=up2 s1 (m:=(cs.length:Int) - 1) (by omega) (by omega)
  have hnl:(upV s1 ((cs.length:Int) - 1)).toNat < cs.length:=by omega
  have hbb:=hb _ (gMem (d:=default) hnl)
  obtain ⟨bb,hbv⟩:∃ q,(cs.getD (upV s1 ((cs.length:Int) - 1)).toNat default).beds=q:=⟨_,rfl⟩
  rw [hbv] at hbb
  have hbd:=up2 (upS (upS s1 ((cs.length:Int) - 1)) 1) (m:=bb - 1) (by omega) (by omega)
  have hf:=up2 (upS (upS (upS s1 ((cs.length:Int) - 1)) 1) (bb - 1)) (m:=secs - 1) (by omega) (by omega)
  have hsx:=sxV_bd (upS s1 ((cs.length:Int) - 1))
  unfold sxV at hsx
  unfold tkNew
  simp only [hbv]
  obtain ⟨f,hfv⟩:∃ q,upV (upS (upS (upS s1 ((cs.length:Int) - 1)) 1) (bb - 1)) (secs - 1)=q:=⟨_,rfl⟩
  rw [hfv] at hf
  simp only [hfv]
  have ht:=up2 (upS (upS (upS (upS (upS s1 ((cs.length:Int) - 1)) 1) (bb - 1)) (secs - 1)) 7) (m:=secs - (f+1)) (by omega) (by omega)
  generalize upV (upS (upS (upS (upS (upS s1 ((cs.length:Int) - 1)) 1) (bb - 1)) (secs - 1)) 7) (secs - (f+1))=tt at ht ⊢
  generalize upV (upS (upS s1 ((cs.length:Int) - 1)) 1) (bb - 1)=bd at hbd ⊢
  refine ⟨trivial,hsx,⟨hn.1,hnl⟩,⟨hbd.1,by omega⟩,hf.1,by omega,by omega⟩
theorem tkK_ok {cs:List Cabin} {secs x:Int} (hc:1≤cs.length∧cs.length≤3) (hb:∀ x ∈ cs,1≤x.beds∧x.beds≤3) (hs:1≤secs∧secs≤5):∀ k,k≤8 →
    (∀ i,i < (tkK cs secs x k).2.1.length→ticketE ⟨cs,secs,[]⟩ ((tkK cs secs x k).2.1.getD i default) ((tkK cs secs x k).2.1.take i)=0)∧∀ t ∈ (tkK cs secs x k).2.1,t.party≤24
  |0,_=>by simp [tkK]
  |k+1,hk=>by
    obtain ⟨ih1,ih2⟩:=tkK_ok (x:=x) hc hb hs k (by omega)
    obtain ⟨h1,h2,h3⟩:=tkK_bd cs secs x k
    rw [tkK]
    simp only
    obtain ⟨⟨p,l,s⟩,hK⟩:∃ q,tkK cs secs x k=q:=⟨_,rfl⟩
    rw [hK] at ih1 ih2 h1 h2 h3 ⊢
    simp only at ih1 ih2 h1 h2 h3 ⊢
    have h4:=pA_bd (s:=s) h1
    obtain ⟨⟨p1,s1⟩,hA⟩:∃ q,pA p s=q:=⟨_,rfl⟩
    rw [hA] at h4 ⊢
    simp only at h4 ⊢
    obtain ⟨g1,g2,g3,g4,g5⟩:=tkNew_ok (p:=p1) (s1:=s1) hc hb hs
    obtain ⟨⟨T,s7⟩,hT⟩:∃ q,tkNew cs secs p1 s1=q:=⟨_,rfl⟩
    rw [hT] at g1 g2 g3 g4 g5 ⊢
    simp only at g1 g2 g3 g4 g5 ⊢
    split
    · rename_i hg
      refine ⟨fun i hi=>?_,fun t ht=>?_⟩
      · rw [List.length_append,List.length_singleton] at hi
        rcases Nat.lt_or_eq_of_le (Nat.le_of_lt_succ hi) with h|h
        · have:=ih1 i h
          rw [List.getD_eq_getElem?_getD,List.getElem?_append_left h,← List.getD_eq_getElem?_getD,List.take_append_of_le_length (by omega)]
          exact this
        · subst h
          rw [show (l++[T]).getD l.length default=T by simp [List.getD_eq_getElem?_getD],List.take_append_of_le_length (Nat.le_refl _),List.take_length]
          exact ticket_zero (by omega) g2 g3 g4 g5 (goes_beside hg)
      · rcases List.mem_append.1 ht with ht|ht
        · exact ih2 t ht
        · rw [List.mem_singleton.1 ht];omega
    · exact ⟨ih1,ih2⟩
theorem co_ok {x a g s:Int} (ha:1≤a∧a≤3) (hg:1≤g∧g≤5) (hs:0≤s∧s≤8):checkE (coC x a g s)=0∧(∀ t ∈ (coC x a g s).sold,t.party≤24)∧((coC x a g s).sold.length:Int)≤s∧((coC x a g s).cabins.length:Int)≤a∧(coC x a g s).secs≤g:=by
  have hsc:=up2 x (m:=g - 1) (by omega) (by omega)
  have hsb:1≤coSec x g∧coSec x g≤g:=by unfold coSec;omega
  have hnc:=up2 (coX1 x g) (m:=a - 1) (by omega) (by omega)
  have hcab:((coCab x g a).1.length:Int)≤a∧1≤(coCab x g a).1.length∧∀ c ∈ (coCab x g a).1,1≤c.beds∧c.beds≤3:=by
    unfold coCab
    obtain ⟨h1,h2⟩:=cabS_bd (upS (coX1 x g) (a - 1)) (1+upV (coX1 x g) (a - 1)).toNat
    refine ⟨by rw [h1];omega,by rw [h1];omega,h2⟩
  obtain ⟨hc0,hc1,hc2⟩:=hcab
  have hnt:=up2 (coCab x g a).2 (m:=s) (by omega) (by omega)
  have htk:(coTk x g a s)=tkK (coCab x g a).1 (coSec x g) (upS (coCab x g a).2 s) (upV (coCab x g a).2 s).toNat:=rfl
  obtain ⟨k1,k2⟩:=tkK_ok (x:=upS (coCab x g a).2 s) (cs:=(coCab x g a).1) (secs:=coSec x g) (by omega) hc2 (by omega) (upV (coCab x g a).2 s).toNat (by omega)
  obtain ⟨k3,k4,k5⟩:=tkK_bd (coCab x g a).1 (coSec x g) (upS (coCab x g a).2 s) (upV (coCab x g a).2 s).toNat
  rw [← htk] at k1 k2 k5
  unfold coC
  simp only
  generalize coCab x g a=C at *
  generalize coSec x g=S at *
  generalize (coTk x g a s).2.1=T at *
  refine ⟨?_,k2,by omega,hc0,hsb.2⟩
  have hcar:carE ⟨C.1,S,T⟩=0:=by
    unfold carE
    have b1:countedE (C.1.length:Int) 1 3=0:=by unfold countedE;rw [if_neg (by omega),if_neg (by omega)]
    have b2:firstE (C.1.map cabE)=0:=firstE_all fun j hj=>by
      rw [List.length_map] at hj
      rw [List.getD_eq_getElem?_getD,List.getElem?_map,List.getElem?_eq_getElem hj]
      have:=hc2 C.1[j] (List.getElem_mem hj)
      show cabE C.1[j]=0
      unfold cabE
      rw [inB_iff.2 this];rfl
    have b3:inB S 1 5=true:=inB_iff.2 (by omega)
    have b4:countedE (T.length:Int) 0 8=0:=by unfold countedE;rw [if_neg (by omega),if_neg (by omega)]
    simp only [b1,b2,b3,b4,ne_eq,not_true_eq_false,if_false,Bool.not_true,Bool.false_eq_true]
  unfold checkE
  rw [hcar]
  rw [if_neg (by decide)]
  unfold ticketsE
  refine firstE_all fun j hj=>?_
  rw [List.length_map,List.length_range] at hj
  rw [List.getD_eq_getElem?_getD,List.getElem?_map,List.getElem?_range hj]
  exact k1 j hj
theorem ao_ok {x:Int} {c:Chart} {n:Int} (hc:checkE c=0) (hp:∀ t ∈ c.sold,t.party≤24) (hn:1≤n∧n≤3):bothE c (aoA x c.secs n)=0∧((aoA x c.secs n).sexes.length:Int)≤n∧1≤(aoA x c.secs n).sexes.length:=by
  have hS:=(val_of hc).car.secs
  have hpt:=up2 x (m:=39) (by omega) (by omega)
  have hf:=up2 (upS x 39) (m:=c.secs - 1) (by omega) (by omega)
  have hf':upV (upS x 39) (c.secs - 1)=aoF x c.secs:=rfl
  rw [hf'] at hf
  have ht:=up2 (aoX3 x c.secs) (m:=c.secs - (aoF x c.secs+1)) (by omega) (by omega)
  have ht':aoF x c.secs+1+upV (aoX3 x c.secs) (c.secs - (aoF x c.secs+1))=aoT x c.secs:=rfl
  have hnp:=up2 (aoX4 x c.secs) (m:=n - 1) (by omega) (by omega)
  have hs:((aoS x c.secs n).1.length:Int)≤n∧1≤(aoS x c.secs n).1.length∧∀ c' ∈ (aoS x c.secs n).1,1≤c'∧c'≤2:=by
    unfold aoS
    obtain ⟨h1,h2⟩:=sxK_bd (upS (aoX4 x c.secs) (n - 1)) (1+upV (aoX4 x c.secs) (n - 1)).toNat
    exact ⟨by rw [h1];omega,by rw [h1];omega,h2⟩
  unfold aoA
  simp only
  refine ⟨?_,hs.1,hs.2.1⟩
  unfold bothE
  rw [hc,if_neg (by decide)]
  unfold askE
  simp only
  have b1:inB (60+upV x 39) 1 99=true:=inB_iff.2 (by omega)
  have b2:c.sold.any (fun t=>decide (t.party=60+upV x 39))=false:=List.any_eq_false.2 fun t htm=>by
    have:=hp t htm
    simp only [decide_eq_true_eq];omega
  have b3:wayE c.secs (aoF x c.secs) (aoT x c.secs)=0:=by unfold wayE;rw [if_neg (by omega)]
  have b4:countedE ((aoS x c.secs n).1.length:Int) 1 3=0:=by unfold countedE;rw [if_neg (by omega),if_neg (by omega)]
  rw [b1,b2]
  simp only [b3,b4,ne_eq,not_true_eq_false,if_false,Bool.not_true,Bool.false_eq_true]
  refine firstE_all fun j hj=>?_
  rw [List.length_map] at hj
  rw [List.getD_eq_getElem?_getD,List.getElem?_map,List.getElem?_eq_getElem hj]
  have:=hs.2.2 _ (List.getElem_mem hj)
  show (if (!inB (aoS x c.secs n).1[j] 1 2)=true then (8:Int) else 0)=0
  rw [inB_iff.2 this];rfl
end Go.Sym.B
namespace Go.Sym.B
open Go Go.Sym Go.Proofs Go.Sym.C
theorem nth_enum (L:List AObj):nth L=hasg (enumA 0 L):=by
  funext i
  rw [enumA_get]
  simp [nth]
def plL (c:Chart) (a:Ask):List AObj:=[carC c.cabins c.secs 1,rowT c.sold,.cells [.ptr 0 0],.cells (cAsk a)]
def plP (c:Chart) (a:Ask):List (List Bunk × List Tk):=growP c.cabins a a.sexes.length c.sold []
def plY (c:Chart) (a:Ask) (j:Nat):List AV:=[aBunks ((plP c a).getD j default).1]
def plH (c:Chart) (a:Ask) (j:Nat):List AObj:=lent2 c.cabins c.secs ((plP c a).getD j default).2
structure PlOk (c:Chart) (a:Ask):Prop where
  val:Val c
  sx:a.sexes.length≤3
theorem pl_ok {c:Chart} {a:Ask} (h:PlOk c a) {ans:Nat→Bool} {R:Nat} (hr:Rounds ans R (plP c a).length):GrowOk c.cabins c.secs a a.sexes.length c.sold [] (plY c a) (plH c a) ans R:=by
  have h1:=h.val.car.cabs
  have h2:=h.val.many
  have h3:=h.sx
  exact ⟨by simp,by omega,⟨by omega,fun x hx=>by have:=h.val.car.beds x hx;omega⟩,by omega,by omega,(by simp),hr,fun _ _=>rfl,fun _ _=>rfl⟩
def pGrow0 (c:Chart) (a:Ask) (ys:Nat→List AV) (hl:Nat→List AObj) (ans:Nat→Bool) (R:Nat) (S:St):List AV→Option PkI
  |[.ptr p 0,.agg aa,.nil,.cb]=>match S.h p with
    |some (.cells [.sl cc,.v (.int .i64 s'),.row r])=>match S.h r with
      |some (.row _ _ xs)=>some { q:={ pre:=cc=c.cabins.map eCabin∧s'=c.secs∧aa=cAsk a∧xs=c.sold.map eTk∧S.j=0∧GrowOk c.cabins c.secs a a.sexes.length c.sold [] ys hl ans R,hs:=[p,r],ar:=[.ptr 0 0,aAsk a,aBunks [],.cb],L0:=lent2 c.cabins c.secs c.sold,v:=aB (resB ans R),L1:=(lent2 c.cabins c.secs c.sold).map some },dj:=R }
      |_=>none
    |_=>none
  |_=>none
theorem eGrow0 {A:Frm→Prop} {c:Chart} {a:Ask} {ys:Nat→List AV} {hl:Nat→List AObj} {ans:Nat→Bool} {R:Nat} {h0:Nat→Option AObj} (hA:∀ F,A F→Acb Try.prog (hasg (enumA 0 [carC c.cabins c.secs 1])) h0 ys (fun j=>nth (hl j)) ans R F) :
    EntryOK A Try.prog 115 (fnI [carC c.cabins c.secs 1] R (pGrow0 c a ys hl ans R)):=fnI_ok hA fun S bs q h hp=>by
  unfold pGrow0 at h
  split at h
  · split at h
    · split at h
      · cases h
        obtain ⟨_,_,_,_,h4,h6⟩:=hp
        have:=grow_all _ _ _ _ _ _ _ _ _ _ h6
        simp only [h4,Nat.zero_add]
        exact this
      · cases h
    · cases h
  · cases h
theorem plL_ids {c:Chart} {a:Ask}:∀ i o,hasg (enumA 0 (plL c a)) i=some o→i < 4∧∀ id ∈ o.ids,id < 4:=by
  intro i o hi
  have h:=hasg_mem hi
  simp [enumA,plL] at h
  rcases h with ⟨rfl,rfl⟩|⟨rfl,rfl⟩|⟨rfl,rfl⟩|⟨rfl,rfl⟩ <;> simp [AObj.ids,AV.ids,AV.idsL,carC,rowT,cAsk]
def tbD11_places1:=kk @ty31 (kk @ty106 (kk @ti31.eq_1 @ti106.eq_1))
def xbD11_1:=kk @aI.eq_1 (@aB.eq_1)
theorem places_it {c:Chart} {a:Ask} (h:PlOk c a):IterP Try.prog 114 [.cb,.ptr 2 0,.ptr 3 0] (nth ((plL c a).take 1)) (nth (plL c a)) (plY c a) (plP c a).length (fun j=>nth (plH c a j)) (fun _ _=>.tup []):=by
  intro ans R hr
  have ok:=pl_ok h hr
  rw [nth_enum,nth_enum]
  obtain ⟨A0,hA0⟩:∃ A0:Frm→Prop,A0=Acb Try.prog (hasg (enumA 0 [carC c.cabins c.secs 1])) (hasg (enumA 0 (plL c a))) (plY c a) (fun j=>nth (plH c a j)) ans R:=⟨_,rfl⟩
  have hA:∀ F,A0 F→Acb Try.prog (hasg (enumA 0 [carC c.cabins c.secs 1])) (hasg (enumA 0 (plL c a))) (plY c a) (fun j=>nth (plH c a j)) ans R F:=fun F h=>hA0 ▸ h
  have env:Env A0 Try.prog tyB (tab [(115,fnI [carC c.cabins c.secs 1] R (pGrow0 c a (plY c a) (plH c a) ans R))]):=mkEnv ⟨eGrow0 hA,trivial⟩
  refine Fn.of (A:=A0) (n0:=4) (D:=noD) (Fn0 Try.func114 rfl (fun vs w=>by kernel_rfl) (by kernel_rfl)) (by simp) (by simp [AV.ids]) plL_ids (fun F hb h0 _=>hA0 ▸ ⟨h0,pin0,hb⟩) noD_ok ?_
  show Sym _ _ _ (startS [.cb,.ptr 2 0,.ptr 3 0] 4 (hasg [(0,carC c.cabins c.secs 1),(1,rowT c.sold),(2,.cells [.ptr 0 0]),(3,.cells (cAsk a))])) (retK tyB noD Try.f114 fun S rv=>Fin S rv _ 4 (hasg [(0,carC c.cabins c.secs 1),(1,rowT c.sold),(2,.cells [.ptr 0 0]),(3,.cells (cAsk a))]) R)
  repeat' (first|(apply nx;with_reducible constructor)|refine jq (by decide) ?_|((first|refine kz env fun Q hQ=>?_|refine kj fun Q hQ=>?_);simp only [vkt,seval,tbD11_places1,xbD11_1,aAsk,cAsk,aBunks,mTk,mCabin,carC,rowT,lent2,plL,pGrow0,List.length_map,fnI,pinB,lentOK,nth,hwL,Nat.zero_add,Nat.sub_zero,List.map_nil,ok];(try simp only [ite_and]);(repeat' (first|with_reducible assumption|refine And.intro ?_ ?_|intro hp));all_goals (first|(refine hQ _ ?_;clear hQ Q)|(refine hQ _ (fun h=>?_) (fun h=>?_) <;> clear hQ Q <;> (try simp only [vki,reduceCtorEq] at h))|(refine kx ?_;kernel_rfl)|omega|assumption|with_reducible rfl|skip)))
  (simp only [vrt,Try.results114,vkt,seval,tbD11_places1,xbD11_1,aAsk,cAsk,aBunks,mTk,mCabin,carC,rowT,lent2,plL,pGrow0,List.length_map,fnI,pinB,lentOK,nth,hwL,Nat.zero_add,Nat.sub_zero,List.map_nil];refine Fin.ok some [] ?_ ?_ ?_ ?_ ?_ rfl;all_goals (try simp only [vle,vkt,seval,tbD11_places1,xbD11_1,aAsk,cAsk,aBunks,mTk,mCabin,carC,rowT,lent2,plL,pGrow0,List.length_map,fnI,pinB,lentOK,nth,hwL,Nat.zero_add,Nat.sub_zero,List.map_nil]))
  all_goals first|rfl|(simp;done)
theorem places_fn (c:Chart) (a:Ask):Fn noB Try.prog 68 [.ptr 0 0,aAsk a] (hasg (enumA 0 (lent2 c.cabins c.secs c.sold))) (.clo 114 [.ptr 2 0,.ptr 3 0]) (hasg (enumO 0 ((plL c a).map some))) 0:=by
  have env:Env (fun _=>True) Try.prog tyB (tab []):=mkEnv trivial
  refine Fn.of (A:=fun _=>True) (n0:=2) (D:=noD) (Fn0 Try.func68 rfl (fun vs w=>by kernel_rfl) (by kernel_rfl)) (by simp) (by simp [AV.ids,AV.idsL,aAsk,cAsk]) lent2_ids (fun _ _ _ _=>trivial) noD_ok ?_
  show Sym _ _ _ (startS [.ptr 0 0,aAsk a] 2 (hasg [(0,carC c.cabins c.secs 1),(1,rowT c.sold)])) (retK tyB noD Try.f68 fun S rv=>Fin S rv _ 2 (hasg [(0,carC c.cabins c.secs 1),(1,rowT c.sold),(2,.cells [.ptr 0 0]),(3,.cells (cAsk a))]) 0)
  repeat' (first|(apply nx;with_reducible constructor)|refine jq (by decide) ?_|((first|refine kz env fun Q hQ=>?_|refine kj fun Q hQ=>?_);simp only [vkt,seval,xbD11_1,aAsk,cAsk,aBunks,mTk,mCabin,carC,rowT,lent2,plL,pGrow0,List.length_map,fnI,pinB,lentOK,nth,hwL,Nat.zero_add,Nat.sub_zero,List.map_nil];(try simp only [ite_and]);(repeat' (first|with_reducible assumption|refine And.intro ?_ ?_|intro hp));all_goals (first|(refine hQ _ ?_;clear hQ Q)|(refine hQ _ (fun h=>?_) (fun h=>?_) <;> clear hQ Q <;> (try simp only [vki,reduceCtorEq] at h))|(refine kx ?_;kernel_rfl)|omega|assumption|with_reducible rfl|skip)))
  (simp only [vrt,Try.results68,vkt,seval,xbD11_1,aAsk,cAsk,aBunks,mTk,mCabin,carC,rowT,lent2,plL,pGrow0,List.length_map,fnI,pinB,lentOK,nth,hwL,Nat.zero_add,Nat.sub_zero,List.map_nil];refine Fin.ok some [] ?_ ?_ ?_ ?_ ?_ rfl;all_goals (try simp only [vle,vkt,seval,xbD11_1,aAsk,cAsk,aBunks,mTk,mCabin,carC,rowT,lent2,plL,pGrow0,List.length_map,fnI,pinB,lentOK,nth,hwL,Nat.zero_add,Nat.sub_zero,List.map_nil]))
  all_goals first|rfl|(simp;done)|exact fun i hi=>(match i,hi with|0,_=>rfl|1,_=>rfl)
def pPlaces (S:St):List AV→Option Pk
  |[.ptr p 0,.agg [.v (.int .i64 a0),.v (.int .i64 a1),.v (.int .i64 a2),.sl a3,.v (.bool a4)]]=>match S.h p with
    |some (.cells [.sl cs,.v (.int .i64 s),.row r])=>match S.h r with
      |some (.row _ _ xs)=>some { pre:=cs=(cs.map dCabin).map eCabin∧xs=(xs.map dTk).map eTk∧a3=(a3.map dInt).map eInt,hs:=[p,r],ar:=[.ptr 0 0,.agg [.v (.int .i64 a0),.v (.int .i64 a1),.v (.int .i64 a2),.sl a3,.v (.bool a4)]],L0:=lent2 (cs.map dCabin) s (xs.map dTk),v:=.clo 114 [.ptr 2 0,.ptr 3 0],L1:=(plL ⟨cs.map dCabin,s,xs.map dTk⟩ ⟨a0,a1,a2,a3.map dInt,a4⟩).map some }
      |_=>none
    |_=>none
  |_=>none
theorem ePlaces {A:Frm→Prop}:EntryOK A Try.prog 68 (fnE pPlaces):=fnE_ok fun S bs q h hp=>by
  unfold pPlaces at h
  split at h
  · rename_i a0 a1 a2 a3 a4
    split at h
    · split at h
      · rename_i cs s _ _ _ _ _ xs _
        cases h
        obtain ⟨h1,h2,h3⟩:=hp
        have:=places_fn ⟨cs.map dCabin,s,xs.map dTk⟩ ⟨a0,a1,a2,a3.map dInt,a4⟩
        simp only [aAsk,cAsk,← h3] at this
        exact this
      · cases h
    · cases h
  · cases h
end Go.Sym.B
namespace Go.Sym.B
open Go Go.Sym Go.Proofs Go.Sym.C
theorem all_yes {N:Nat}:Rounds (fun _=>true) N N:=⟨Nat.le_refl _,fun _ _=>rfl,fun h=>absurd h (Nat.lt_irrefl _)⟩
theorem fm_le {α β:Type} {f:α→List β} {M:Nat}:∀ {l:List α},(∀ a ∈ l,(f a).length≤M)→(l.flatMap f).length≤l.length * M
  |[],_=>by simp
  |a :: l,h=>by
    have h1:=fm_le (l:=l) fun b hb=>h b (List.mem_cons_of_mem _ hb)
    have h2:=h a List.mem_cons_self
    rw [List.flatMap_cons,List.length_append,List.length_cons,Nat.succ_mul];omega
theorem growP_bd (cs:List Cabin) (a:Ask) {K:Nat} (hK:(bunksL cs).length≤K):∀ (m:Nat) (sold:List Tk) (begun:List Bunk),(growP cs a m sold begun).length≤K ^ m
  |0,_,_=>by simp [growP]
  |m+1,sold,begun=>by
    have h1:(growP cs a (m+1) sold begun).length≤(bunksL cs).length * K ^ m:=fm_le fun b _=>by
      split
      · exact growP_bd cs a hK m _ _
      · simp
    rw [Nat.pow_succ,Nat.mul_comm (K ^ m) K]
    exact Nat.le_trans h1 (Nat.mul_le_mul_right _ hK)
theorem bunks_bd {cs:List Cabin} (h1:cs.length≤3) (h2:∀ x ∈ cs,x.beds≤3):(bunksL cs).length≤9:=by
  rw [bunks_eq]
  refine Nat.le_trans (fm_le (M:=3) fun i hi=>?_) (by rw [List.length_range];omega)
  rw [List.length_map,List.length_range]
  have:=h2 _ (gMem (d:=default) (List.mem_range.1 hi))
  omega
theorem plP_bd {c:Chart} {a:Ask} (h:PlOk c a):(plP c a).length≤729:=by
  have h1:=growP_bd c.cabins a (bunks_bd h.val.car.cabs.2 fun x hx=>(h.val.car.beds x hx).2) a.sexes.length c.sold []
  refine Nat.le_trans h1 ?_
  have:=h.sx
  exact Nat.le_trans (Nat.pow_le_pow_right (by omega) this) (by decide)
def plR (c:Chart) (a:Ask) (j:Nat):List (List DV):=((plP c a).take j).map fun x=>eBunks x.1
theorem plR_succ {c:Chart} {a:Ask} {j:Nat} (h:j < (plP c a).length):plR c a (j+1)=plR c a j++[eBunks ((plP c a).getD j default).1]:=by
  unfold plR
  rw [List.take_succ_eq_append_getElem h,List.map_append]
  simp [List.getD_eq_getElem?_getD,h]
theorem plR_ok (c:Chart) (a:Ask) (j:Nat):rowsOK 1 (plR c a j)=True:=by
  unfold plR
  exact rowsOK_map (f:=fun x:List Bunk × List Tk=>eBunks x.1) (k:=1) (fun _=>rfl) _
def aqL:List (Nat × AV):=[(2,.ptr 4 0)]
def aqL0:List (Nat × AV):=[(2,.ptr 4 0),(6,.clo 114 [.ptr 2 0,.ptr 3 0])]
def aqH (c:Chart) (a:Ask) (j:Nat):List (Nat × AObj):=[(4,.cells [.row 5]),(5,.row 37 1 (plR c a j))]
theorem aq_lent0 (c:Chart) (a:Ask):lentA [0,1,2,3] 7 0 (plL c a)=[(0,carC c.cabins c.secs 1),(1,rowT c.sold),(2,.cells [.ptr 0 0]),(3,.cells (cAsk a))]:=by
  simp [lentA,plL,callRen,AObj.ren,AV.renL,AV.ren,carC,rowT,cAsk]
theorem aq_lent (c:Chart) (a:Ask) (j:Nat):lentA [0] 7 0 (plH c a j)=[(0,carC c.cabins c.secs 7),(7,rowT ((plP c a).getD j default).2)]:=by
  simp [lentA,plH,lent2,callRen,AObj.ren,AV.renL,AV.ren,carC,rowT]
def tbD12_appendSeq:=kk @ty33 (kk @ty37 (kk @ti33.eq_1 @ti37.eq_1))
def xbD12_1:=kk @aI.eq_1 (@aB.eq_1)
theorem append_fn {c:Chart} {a:Ask} (h:PlOk c a):Fn noB Try.prog 113 [.nil,.clo 114 [.ptr 2 0,.ptr 3 0]] (hasg (enumA 0 (plL c a))) (.row 4) (hasg (enumO 0 ((plL c a).map some++[some (.row 37 1 (plR c a (plP c a).length))]))) 0:=by
  have env:Env (fun F=>F.r=none) Try.prog tyB (tab []):=mkEnv trivial
  refine Fn.of (A:=fun F=>F.r=none) (n0:=4) (D:=noD) (Fn0 Try.func113 rfl (fun vs w=>by kernel_rfl) (by kernel_rfl)) (by simp) (by simp [AV.ids,AV.idsL]) plL_ids (fun _ _ _ h=>h) noD_ok ?_
  have hbd:=plP_bd h
  have hm:(729:Nat)+1≤maxLen:=by decide
  obtain ⟨N,hN⟩:∃ N,(plP c a).length=N:=⟨_,rfl⟩
  rw [hN] at hbd ⊢
  show Sym _ _ _ (startS [.nil,.clo 114 [.ptr 2 0,.ptr 3 0]] 4 (hasg [(0,carC c.cabins c.secs 1),(1,rowT c.sold),(2,.cells [.ptr 0 0]),(3,.cells (cAsk a))])) (retK tyB noD Try.f113 fun S rv=>Fin S rv _ 4 (hasg [(0,carC c.cabins c.secs 1),(1,rowT c.sold),(2,.cells [.ptr 0 0]),(3,.cells (cAsk a)),(4,.row 37 1 (plR c a N))]) 0)
  repeat' (first|(apply nx;with_reducible constructor)|refine jq (by decide) ?_|((first|refine kz env fun Q hQ=>?_|refine kj fun Q hQ=>?_);simp only [vkt,seval,tbD12_appendSeq,xbD12_1,aBunks,eBunks,carC,rowT,lent2,plL,aqL,plR_ok,List.length_map,nth,hwL,Nat.zero_add,Nat.sub_zero];(try simp only [ite_and]);(repeat' (first|with_reducible assumption|refine And.intro ?_ ?_|intro hp));all_goals (first|(refine hQ _ ?_;clear hQ Q)|(refine hQ _ (fun h=>?_) (fun h=>?_) <;> clear hQ Q <;> (try simp only [vki,reduceCtorEq] at h))|(refine kx ?_;kernel_rfl)|omega|assumption|with_reducible rfl|skip)))
  refine sym_le (S':={ t:=asg aqL0,h:=hasg (aqH c a 0++[(0,carC c.cabins c.secs 1),(1,rowT c.sold),(2,.cells [.ptr 0 0]),(3,.cells (cAsk a))]),n:=6,j:=0,d:=[],m:=4 }) ?_ ?_
  · show Le _ { t:=asg [(2,.ptr 4 0),(6,.clo 114 [.ptr 2 0,.ptr 3 0])],h:=hasg [(4,.cells [.row 5]),(5,.row 37 1 []),(0,carC c.cabins c.secs 1),(1,rowT c.sold),(2,.cells [.ptr 0 0]),(3,.cells (cAsk a))],n:=6,j:=0,d:=[],m:=4 }
    (refine Le.ok (fun i=>if i=5 then none else some i) [] ?_;constructor;all_goals (try simp only [vle,vkt,seval,tbD12_appendSeq,xbD12_1,aBunks,eBunks,carC,rowT,lent2,plL,aqL,plR_ok,List.length_map,nth,hwL,Nat.zero_add,Nat.sub_zero]))
    all_goals first|rfl|(simp [cAsk,AV.leL,AV.le,AV.idsL,AV.ids];done)|(intro i hi;rw [if_neg (by omega)];done)
  rw [← aq_lent0 c a]
  refine sym_rangeP (fun F h=>h) 1 (L:=aqL0) (L':=aqL) (xs:=[1,2,3]) (hs:=[0,1,2,3]) (n:=6) (nl:=1) (hc:=aqH c a) (Lp:=plL c a) (jj:=fun _=>0) (d:=[]) (ys:=plY c a) (hl:=plH c a) (ans:=fun _=>true) (ex:=.ret) (caps:=[.ptr 2 0,.ptr 3 0]) (caps0:=[.ptr 2 0,.ptr 3 0]) (N:=(plP c a).length) (R:=N) (A':=fun _ _=>True) rfl (places_it h) (by rw [hN];exact all_yes) (.inl rfl) ?_ ?_ ?_ rfl (by simp) ?_ (by simp) (fun _ _ _ _ _ _=>trivial) ?_ ?_ ?_ ?_ ?_ ?_ (fun j hj=>?_) ?_ (fun j hj=>?_) (fun _=>?_) (fun _ h=>by cases h)
  · simp [AV.leL,AV.le]
  · simp [AV.nocbL,AV.nocb]
  · simp [lentP,plL,carC,rowT,cAsk,AObj.nocb,AV.nocbL,AV.nocb,AObj.ids,AV.ids,AV.idsL,AObj.ren,AV.renL,AV.ren,AObj.le,AV.leL,AV.le,callRen]
  · simp [aqH,hasg]
  · simp [aqH,hasg]
  · simp [aqH,AObj.ids,AV.ids,AV.idsL]
  · simp [subL,aqL,aqL0,asg,upd]
  · simp [xsOK]
  · intro j hj
    simp [absent,aqH,aq_lent]
  · simp [idsT,aqL,AV.ids]
  · refine ⟨?_,rfl, ?_, ?_,rfl, ?_⟩
    · simp [idsH,aqH,AObj.ids,AV.ids,AV.idsL]
    · simp [lentQ,plH,lent2,carC,rowT,AObj.nocb,AV.nocbL,AV.nocb,AObj.ids,AV.ids,AV.idsL]
    · simp [argQ,plY,aBunks,AV.nocb,AV.ids]
    · simp [keysIn,keyIn,aq_lent,aqH,aqL,idsTL,AV.ids,ADf.ids,List.range_succ]
  · simp [idsH,aqH,AObj.ids,AV.ids,AV.idsL]
  · have env:Env (fun _:Frm=>True) Try.prog tyB (tab []):=mkEnv trivial
    obtain ⟨x,hx⟩:∃ x,((plP c a).getD j default).1=x:=⟨_,rfl⟩
    have hS:=plR_succ (c:=c) (a:=a) (j:=j) (by omega)
    rw [hx] at hS
    have hl:(plR c a j).length≤729:=by simp [plR];omega
    have hl1:(plR c a j).length+1≤maxLen:=by omega
    have hst:rStart aqL [7] [0] 6 1 (plY c a j) (aqH c a j) (plH c a j)={ t:=asg [(7,aBunks x),(2,.ptr 4 0)],h:=hasg [(6,.mark),(4,.cells [.row 5]),(5,.row 37 1 (plR c a j)),(0,carC c.cabins c.secs 7),(7,rowT ((plP c a).getD j default).2)],n:=8,m:=8 }:=by
      simp only [rStart,aq_lent,plY,hx,aBunks,List.map_cons,List.map_nil,AV.ren,List.zip_cons_cons,List.zip_nil_right,aqH,aqL,putsL,List.cons_append,List.nil_append]
      rfl
    show Sym _ _ _ (rStart aqL [7] [0] 6 1 (plY c a j) (aqH c a j) (plH c a j)) _
    rw [hst]
    obtain ⟨r,hr⟩:∃ r,((plP c a).getD j default).2=r:=⟨_,rfl⟩
    rw [hr]
    repeat' (first|(apply nx;with_reducible constructor)|refine jq (by decide) ?_|((first|refine kz env fun Q hQ=>?_|refine kj fun Q hQ=>?_);simp only [vkt,seval,tbD12_appendSeq,xbD12_1,aBunks,eBunks,carC,rowT,lent2,plL,aqL,plR_ok,List.length_map,nth,hwL,Nat.zero_add,Nat.sub_zero,hl1];(try simp only [ite_and]);(repeat' (first|with_reducible assumption|refine And.intro ?_ ?_|intro hp));all_goals (first|(refine hQ _ ?_;clear hQ Q)|(refine hQ _ (fun h=>?_) (fun h=>?_) <;> clear hQ Q <;> (try simp only [vki,reduceCtorEq] at h))|(refine kx ?_;kernel_rfl)|omega|assumption|with_reducible rfl|skip)))
    refine ⟨rfl,rfl,(fun i=>if i=5 then some 9 else some i),_,RFin.okQ (fun i=>if i=5 then some 9 else some i) [] ?_⟩
    constructor
    all_goals (try simp only [vle,lentR,rensL,callRen,plH,aqH,hr,hS,eBunks,vkt,seval,tbD12_appendSeq,xbD12_1,aBunks,eBunks,carC,rowT,lent2,plL,aqL,plR_ok,List.length_map,nth,hwL,Nat.zero_add,Nat.sub_zero])
    all_goals first|rfl|(simp;done)|(simp [aqL,idsTL,AV.ids,ADf.ids,List.range_succ];done)
  · have eh:hasg ((6,AObj.mark) :: aqH c a N++lentA [0,1,2,3] (6+1) 0 (plL c a))=hasg [(6,.mark),(4,.cells [.row 5]),(5,.row 37 1 (plR c a N)),(0,carC c.cabins c.secs 1),(1,rowT c.sold),(2,.cells [.ptr 0 0]),(3,.cells (cAsk a))]:=by
      rw [show lentA [0,1,2,3] (6+1) 0 (plL c a)=lentA [0,1,2,3] 7 0 (plL c a) from rfl,aq_lent0];rfl
    rw [eh]
    repeat' (first|(apply nx;with_reducible constructor)|refine jq (by decide) ?_|((first|refine kz env fun Q hQ=>?_|refine kj fun Q hQ=>?_);simp only [vkt,seval,tbD12_appendSeq,xbD12_1,aBunks,eBunks,carC,rowT,lent2,plL,aqL,plR_ok,List.length_map,nth,hwL,Nat.zero_add,Nat.sub_zero];(try simp only [ite_and]);(repeat' (first|with_reducible assumption|refine And.intro ?_ ?_|intro hp));all_goals (first|(refine hQ _ ?_;clear hQ Q)|(refine hQ _ (fun h=>?_) (fun h=>?_) <;> clear hQ Q <;> (try simp only [vki,reduceCtorEq] at h))|(refine kx ?_;kernel_rfl)|omega|assumption|with_reducible rfl|skip)))
    (simp only [vrt,Try.results113,vkt,seval,tbD12_appendSeq,xbD12_1,aBunks,eBunks,carC,rowT,lent2,plL,aqL,plR_ok,List.length_map,nth,hwL,Nat.zero_add,Nat.sub_zero];refine Fin.ok (fun j=>[0,1,2,3,5][j]?) [] ?_ ?_ ?_ ?_ ?_ rfl;all_goals (try simp only [vle,vkt,seval,tbD12_appendSeq,xbD12_1,aBunks,eBunks,carC,rowT,lent2,plL,aqL,plR_ok,List.length_map,nth,hwL,Nat.zero_add,Nat.sub_zero]))
    all_goals first|rfl|(simp [cAsk,AV.leL,AV.le];done)|exact fun i hi=>(match i,hi with|0,_=>rfl|1,_=>rfl|2,_=>rfl|3,_=>rfl)
end Go.Sym.B
namespace Go.Sym.B
open Go Go.Sym Go.Proofs Go.Sym.C
def pAppend (c:Chart) (a:Ask) (S:St):List AV→Option Pk
  |[.nil,.clo f [.ptr p2 0,.ptr p3 0]]=>match S.h p2 with
    |some (.cells [.ptr p 0])=>match S.h p with
      |some (.cells [_,_,.row r])=>some { pre:=f=114∧PlOk c a,hs:=[p,r,p2,p3],ar:=[.nil,.clo 114 [.ptr 2 0,.ptr 3 0]],L0:=plL c a,v:=.row 4,L1:=(plL c a).map some++[some (.row 37 1 (plR c a (plP c a).length))] }
      |_=>none
    |_=>none
  |_=>none
theorem eAppend {A:Frm→Prop} {c:Chart} {a:Ask}:EntryOK A Try.prog 113 (fnE (pAppend c a)):=fnE_ok fun S bs q h hp=>by
  unfold pAppend at h
  split at h
  · split at h
    · split at h
      · cases h;exact append_fn hp.2
      · cases h
    · cases h
  · cases h
def xbD13_1:=kk @aI.eq_1 (@aB.eq_1)
theorem collect_fn {c:Chart} {a:Ask} (h:PlOk c a):Fn noB Try.prog 67 [.clo 114 [.ptr 2 0,.ptr 3 0]] (hasg (enumA 0 (plL c a))) (.row 4) (hasg (enumO 0 ((plL c a).map some++[some (.row 37 1 (plR c a (plP c a).length))]))) 0:=by
  have env:Env (fun _=>True) Try.prog tyB (tab [(113,fnE (pAppend c a))]):=mkEnv ⟨eAppend,trivial⟩
  refine Fn.of (A:=fun _=>True) (n0:=4) (D:=noD) (Fn0 Try.func67 rfl (fun vs w=>by kernel_rfl) (by kernel_rfl)) (by simp) (by simp [AV.ids,AV.idsL]) plL_ids (fun _ _ _ _=>trivial) noD_ok ?_
  obtain ⟨X,hX⟩:∃ X,plR c a (plP c a).length=X:=⟨_,rfl⟩
  rw [hX]
  show Sym _ _ _ (startS [.clo 114 [.ptr 2 0,.ptr 3 0]] 4 (hasg [(0,carC c.cabins c.secs 1),(1,rowT c.sold),(2,.cells [.ptr 0 0]),(3,.cells (cAsk a))])) (retK tyB noD Try.f67 fun S rv=>Fin S rv _ 4 (hasg [(0,carC c.cabins c.secs 1),(1,rowT c.sold),(2,.cells [.ptr 0 0]),(3,.cells (cAsk a)),(4,.row 37 1 X)]) 0)
  repeat' (first|(apply nx;with_reducible constructor)|refine jq (by decide) ?_|((first|refine kz env fun Q hQ=>?_|refine kj fun Q hQ=>?_);simp only [vkt,seval,xbD13_1,cAsk,carC,rowT,plL,pAppend,List.length_map,h,hX];(try simp only [ite_and]);(repeat' (first|with_reducible assumption|refine And.intro ?_ ?_|intro hp));all_goals (first|(refine hQ _ ?_;clear hQ Q)|(refine hQ _ (fun h=>?_) (fun h=>?_) <;> clear hQ Q <;> (try simp only [vki,reduceCtorEq] at h))|(refine kx ?_;kernel_rfl)|omega|assumption|with_reducible rfl|skip)))
  (simp only [vrt,Try.results67,vkt,seval,xbD13_1,cAsk,carC,rowT,plL,pAppend,List.length_map];refine Fin.ok some [] ?_ ?_ ?_ ?_ ?_ rfl;all_goals (try simp only [vle,vkt,seval,xbD13_1,cAsk,carC,rowT,plL,pAppend,List.length_map]))
  all_goals first|rfl|(simp [cAsk,AV.leL,AV.le];done)|exact fun i hi=>(match i,hi with|0,_=>rfl|1,_=>rfl|2,_=>rfl|3,_=>rfl)
def pCollect (c:Chart) (a:Ask) (S:St):List AV→Option Pk
  |[.clo f [.ptr p2 0,.ptr p3 0]]=>match S.h p2 with
    |some (.cells [.ptr p 0])=>match S.h p with
      |some (.cells [_,_,.row r])=>some { pre:=f=114∧PlOk c a,hs:=[p,r,p2,p3],ar:=[.clo 114 [.ptr 2 0,.ptr 3 0]],L0:=plL c a,v:=.row 4,L1:=(plL c a).map some++[some (.row 37 1 (plR c a (plP c a).length))] }
      |_=>none
    |_=>none
  |_=>none
theorem eCollect {A:Frm→Prop} {c:Chart} {a:Ask}:EntryOK A Try.prog 67 (fnE (pCollect c a)):=fnE_ok fun S bs q h hp=>by
  unfold pCollect at h
  split at h
  · split at h
    · split at h
      · cases h;exact collect_fn hp.2
      · cases h
    · cases h
  · cases h
theorem sx_of {c:Chart} {a:Ask} (h:askE c a=0):a.sexes.length≤3∧1≤a.sexes.length:=by
  unfold askE at h
  split at h
  · exact absurd h (by decide)
  split at h
  · exact absurd h (by decide)
  split at h
  · exact absurd h ‹_›
  split at h
  · exact absurd h ‹_›
  rename_i h4
  have h4:=Decidable.not_not.1 h4
  unfold countedE at h4
  split at h4
  · exact absurd h4 (by decide)
  · split at h4
    · exact absurd h4 (by decide)
    · omega
theorem plOk_of {c:Chart} {a:Ask} (h:bothE c a=0):PlOk c a:=⟨val_of (both_ok h).1,(sx_of (both_ok h).2).1⟩
def placesA (c:Chart) (a:Ask):List (List Bunk):=if bothE c a=0 then (plP c a).map (·.1) else []
def tbD13_Places:=kk @ty28 (kk @ty31 (kk @ty34 (kk @ti28.eq_1 (kk @ti31.eq_1 @ti34.eq_1))))
def xbD13_2:=kk @aI.eq_1 (kk @aB.eq_1 (@mInt))
theorem Places_ok (c:Chart) (a:Ask) (hc:c.cabins.length≤maxLen) (ha:a.sexes.length≤maxLen):Fn noB Try.prog 18 [aChart c,aAsk a] noH (.tup [.row 0,aI (bothE c a)]) (hasg [(0,.row 37 1 ((placesA c a).map eBunks))]) 0:=by
  have env:Env (fun _=>True) Try.prog tyB (tab [(66,fnE pAsked),(68,fnE pPlaces),(67,fnE (pCollect c a))]):=mkEnv ⟨eAsked,ePlaces,eCollect,trivial⟩
  refine Fn.of (A:=fun _=>True) (n0:=0) (D:=noD) (Fn0 Try.func18 rfl (fun vs w=>by kernel_rfl) (by kernel_rfl)) (by simp) (by simp [AV.ids,AV.idsL,aChart,cChart,aAsk,cAsk]) (fun i o h=>by cases h) (fun _ _ _ _=>trivial) noD_ok ?_
  have ec:(⟨c.cabins,c.secs,c.sold⟩:Chart)=c:=rfl
  have ea:(⟨a.party,a.frm,a.to,a.sexes,a.dog⟩:Ask)=a:=rfl
  unfold placesA
  by_cases h0:bothE c a=0
  · have hok:=plOk_of h0
    rw [if_pos h0,h0]
    obtain ⟨X,hX⟩:∃ X,plR c a (plP c a).length=X:=⟨_,rfl⟩
    have hXe:(List.map (fun x=>x.1) (plP c a)).map eBunks=X:=by rw [← hX];unfold plR;rw [List.take_length,List.map_map];rfl
    rw [hXe]
    repeat' (first|(apply nx;with_reducible constructor)|refine jq (by decide) ?_|((first|refine kz env fun Q hQ=>?_|refine kj fun Q hQ=>?_);simp only [vkt,seval,tbD13_Places,xbD13_2,aChart,cChart,aAsk,cAsk,mTk,mCabin,carC,rowT,lent2,plL,pAsked,pPlaces,pCollect,List.length_map,ec,ea,h0,hok,hX];(try simp only [ite_and]);(repeat' (first|with_reducible assumption|refine And.intro ?_ ?_|intro hp));all_goals (first|(refine hQ _ ?_;clear hQ Q)|(refine hQ _ (fun h=>?_) (fun h=>?_) <;> clear hQ Q <;> (try simp only [vki,reduceCtorEq] at h))|(refine kx ?_;kernel_rfl)|omega|assumption|with_reducible rfl|skip)))
    (simp only [vrt,Try.results18,vkt,seval,tbD13_Places,xbD13_2,aChart,cChart,aAsk,cAsk,mTk,mCabin,carC,rowT,lent2,plL,pAsked,pPlaces,pCollect,List.length_map];refine Fin.ok (fun j=>[6][j]?) [] ?_ ?_ ?_ ?_ ?_ rfl;all_goals (try simp only [vle,vkt,seval,tbD13_Places,xbD13_2,aChart,cChart,aAsk,cAsk,mTk,mCabin,carC,rowT,lent2,plL,pAsked,pPlaces,pCollect,List.length_map]))
    all_goals first|rfl|(simp;done)
  · rw [if_neg h0]
    repeat' (first|(apply nx;with_reducible constructor)|refine jq (by decide) ?_|((first|refine kz env fun Q hQ=>?_|refine kj fun Q hQ=>?_);simp only [vkt,seval,tbD13_Places,xbD13_2,aChart,cChart,aAsk,cAsk,mTk,mCabin,carC,rowT,lent2,plL,pAsked,pPlaces,pCollect,List.length_map,ec,ea,h0];(try simp only [ite_and]);(repeat' (first|with_reducible assumption|refine And.intro ?_ ?_|intro hp));all_goals (first|(refine hQ _ ?_;clear hQ Q)|(refine hQ _ (fun h=>?_) (fun h=>?_) <;> clear hQ Q <;> (try simp only [vki,reduceCtorEq] at h))|(refine kx ?_;kernel_rfl)|omega|assumption|with_reducible rfl|skip)))
    (simp only [vrt,Try.results18,vkt,seval,tbD13_Places,xbD13_2,aChart,cChart,aAsk,cAsk,mTk,mCabin,carC,rowT,lent2,plL,pAsked,pPlaces,pCollect,List.length_map];refine Fin.ok (fun _=>none) [] ?_ ?_ ?_ ?_ ?_ rfl;all_goals (try simp only [vle,vkt,seval,tbD13_Places,xbD13_2,aChart,cChart,aAsk,cAsk,mTk,mCabin,carC,rowT,lent2,plL,pAsked,pPlaces,pCollect,List.length_map]))
    all_goals first|rfl|(simp;done)
end Go.Sym.B
namespace Go.Sym.B
open Go Go.Sym Go.Proofs Go.Sym.C
def aU (n:Int):AV:=.v (.int .u64 n)
def bedE (a b:Int):Int:=IntKind.wrap .u64 (BitVec.ofInt IntKind.u64.bits a ||| BitVec.ofInt IntKind.u64.bits (IntKind.wrap .u64 (1 * 2 ^ min b.toNat IntKind.u64.bits))).toNat
def tbD14_withB:=kk @ty158 @ti158.eq_1
def xbD14_1:=kk @aI.eq_1 (kk @aB.eq_1 (@aU.eq_1))
theorem withB_fn (a b:Int) (hb:0≤b):FnV Try.prog 106 [aU a,aI b] (aU (bedE a b)):=by
  have env:Env (fun _=>True) Try.prog tyB (tab []):=mkEnv trivial
  refine Fn.of (A:=fun _=>True) (n0:=0) (D:=noD) (Fn0 Try.func106 rfl (fun vs w=>by kernel_rfl) (by kernel_rfl)) (by simp) (by simp [AV.ids,AV.idsL,aU,aI]) (fun i o h=>by cases h) (fun _ _ _ _=>trivial) noD_ok ?_
  repeat' (first|(apply nx;with_reducible constructor)|refine jq (by decide) ?_|((first|refine kz env fun Q hQ=>?_|refine kj fun Q hQ=>?_);simp only [vkt,seval,tbD14_withB,xbD14_1,hb];(try simp only [ite_and]);(repeat' (first|with_reducible assumption|refine And.intro ?_ ?_|intro hp));all_goals (first|(refine hQ _ ?_;clear hQ Q)|(refine hQ _ (fun h=>?_) (fun h=>?_) <;> clear hQ Q <;> (try simp only [vki,reduceCtorEq] at h))|(refine kx ?_;kernel_rfl)|omega|assumption|with_reducible rfl|skip)))
  (simp only [vrt,Try.results106,vkt,seval,tbD14_withB,xbD14_1];refine Fin.val rfl ?_;(try simp only [AV.le,AV.leL]))
  all_goals first|rfl|(simp;done)
def swithB:List AV→Prop × AV
  |[.v (.int .u64 a),.v (.int .i64 b)]=>(0≤b,aU (bedE a b))
  |_=>(False,.junk)
theorem ewithB {A:Frm→Prop}:EntryOK A Try.prog 106 (valE true swithB):=valE_ok fun vs hv h=>by
  clear hv
  unfold swithB at h ⊢
  split at h
  · exact ⟨by simp [aU,AV.plain],fun _=>by simp [aU,AV.flat],withB_fn _ _ h⟩
  · exact h.elim
theorem us_one (p:List Int):(p.map aU).all oneB=true:=by simp [aU,oneB]
theorem us_idsL:∀ p:List Int,AV.idsL (p.map aU)=[]
  |[]=>rfl
  |x :: p=>by rw [List.map_cons,AV.idsL,us_idsL p];rfl
theorem us_le (h:Nat→Option AObj) (σ:Nat→Option Nat):∀ p:List Int,AV.leL h σ (p.map aU) (p.map aU)=True
  |[]=>by simp [AV.leL]
  |x :: p=>by simp [AV.leL,AV.le,aU,us_le h σ p]
theorem us_ren (τ:Nat→Nat):∀ p:List Int,AV.renL τ (p.map aU)=p.map aU
  |[]=>rfl
  |x :: p=>by simp [AV.renL,AV.ren,aU,us_ren τ p]
theorem us_plain:∀ p:List Int,AV.plainL (p.map aU)=True
  |[]=>by simp [AV.plainL]
  |x :: p=>by simp [AV.plainL,AV.plain,aU,us_plain p]
theorem us_flat:∀ p:List Int,AV.flatL (p.map aU)=True
  |[]=>by simp [AV.flatL]
  |x :: p=>by simp [AV.flatL,AV.flat,aU,us_flat p]
theorem us_get {p:List Int} {i:Nat} (h:i < p.length):(((p.map aU).drop i).take 1).headD .junk=aU (p.getD i 0):=by
  rw [List.drop_eq_getElem_cons (by simpa using h)]
  simp [List.getD_eq_getElem?_getD,h]
theorem us_set {p:List Int} {i:Nat} {n:Int} (h:i < p.length):(p.map aU).take i++[aU n]++(p.map aU).drop (i+1)=(p.set i n).map aU:=by
  apply List.ext_getElem?
  intro j
  rw [List.set_eq_take_append_cons_drop,if_pos h]
  simp
structure Van (c:Chart):Prop where
  car:CarOk c
  many:c.sold.length≤100
  tk:∀ t ∈ c.sold,TkOk c t
theorem Val.van {c:Chart} (h:Val c):Van c:=⟨h.car,by have:=h.many;omega,h.tk⟩
def heldStep (s:Int) (h:List Int) (t:Tk):List Int:=if inB s t.frm (t.to - 1) then h.set t.cab.toNat (bedE (h.getD t.cab.toNat 0) t.bed) else h
def heldK (l:List Tk) (s:Int) (k:Nat):List Int:=(l.take k).foldl (heldStep s) [0,0,0]
theorem heldK_succ {l:List Tk} {s:Int} {k:Nat} (h:k < l.length):heldK l s (k+1)=heldStep s (heldK l s k) (l.getD k default):=by
  unfold heldK
  rw [List.take_succ_eq_append_getElem h,List.foldl_append]
  simp [List.getD_eq_getElem?_getD,h]
theorem heldK_len (l:List Tk) (s:Int):∀ k,k≤l.length→(heldK l s k).length=3
  |0,_=>rfl
  |k+1,h=>by
    rw [heldK_succ (by omega),heldStep]
    split
    · rw [List.length_set];exact heldK_len l s k (by omega)
    · exact heldK_len l s k (by omega)
def heT (c:Chart) (s:Int) (k:Nat):St:={ t:=asg [(1,aI s),(4,.ptr 1 0),(5,.ptr 2 0),(10,aTks c.sold),(11,aI c.sold.length),(12,aI k)],h:=hasg [(0,.cells (cChart c)),(1,.cells [aU 0,aU 0,aU 0]),(2,.cells ((heldK c.sold s k).map aU))],n:=3 }
def tbD14_heldIn:=kk @ty3 (kk @ty26 (kk @ty28 (kk @ty49 (kk @ty81 (kk @ty158 (kk @ty164 (kk @ti3.eq_1 (kk @ti26.eq_1 (kk @ti28.eq_1 (kk @ti49.eq_1 (kk @ti81.eq_1 (kk @ti158.eq_1 @ti164.eq_1))))))))))))
def xbD14_2:=kk @aI.eq_1 (kk @aB.eq_1 (@aU.eq_1))
theorem heldIn_fn (c:Chart) (s:Int) (hv:Van c):FnV Try.prog 108 [aChart c,aI s] (.agg ((heldK c.sold s c.sold.length).map aU)):=by
  have env:Env (fun _=>True) Try.prog tyB (tab [(91,valE true sin),(106,valE true swithB)]):=mkEnv ⟨ein,ewithB,trivial⟩
  refine Fn.of (A:=fun _=>True) (n0:=0) (D:=noD) (Fn0 Try.func108 rfl (fun vs w=>by kernel_rfl) (by kernel_rfl)) (by simp) (by simp [AV.ids,AV.idsL,aChart,cChart,aI]) (fun i o h=>by cases h) (fun _ _ _ _=>trivial) noD_ok ?_
  have hsl:=hv.many
  repeat' (first|(apply nx;with_reducible constructor)|refine jq (by decide) ?_|((first|refine kz env fun Q hQ=>?_|refine kj fun Q hQ=>?_);simp only [vkt,seval,tbD14_heldIn,xbD14_2,aTks,aChart,cChart,eTk,gTk,heT,sin,swithB,us_one,us_idsL,us_le,us_ren,us_plain,us_flat,List.length_map,Nat.mul_one];(try simp only [ite_and]);(repeat' (first|with_reducible assumption|refine And.intro ?_ ?_|intro hp));all_goals (first|(refine hQ _ ?_;clear hQ Q)|(refine hQ _ (fun h=>?_) (fun h=>?_) <;> clear hQ Q <;> (try simp only [vki,reduceCtorEq] at h))|(refine kx ?_;kernel_rfl)|omega|assumption|with_reducible rfl|skip)))
  refine sym_loop (fun k:{ k:Nat // k≤c.sold.length }=>heT c s k.1) (fun k=>c.sold.length - k.1) ⟨0,Nat.zero_le _⟩ ?_ fun ⟨k,hk⟩=>?_
  · (refine Le.ok some [] ?_;constructor;all_goals (try simp only [vle,vkt,seval,tbD14_heldIn,xbD14_2,aTks,aChart,cChart,eTk,gTk,heT,sin,swithB,us_one,us_idsL,us_le,us_ren,us_plain,us_flat,List.length_map,Nat.mul_one]))
    all_goals first|rfl|(simp [heldK,AV.leL,AV.le,aU];done)
  · repeat' (first|(apply nx;with_reducible constructor)|refine jq (by decide) ?_)
    (refine kz env fun Q hQ=>?_;simp only [vkt,seval,tbD14_heldIn,xbD14_2,aTks,aChart,cChart,eTk,gTk,heT,sin,swithB,us_one,us_idsL,us_le,us_ren,us_plain,us_flat,List.length_map,Nat.mul_one];(try simp only [ite_and]);(repeat' (first|with_reducible assumption|refine And.intro ?_ ?_|intro hp));all_goals (first|(refine hQ _ ?_;clear hQ Q)|(refine kx ?_;kernel_rfl)|omega|assumption|with_reducible rfl|skip))
    repeat' (first|(apply nx;with_reducible constructor)|refine jq (by decide) ?_)
    (refine sym_cd (by simp only [vkt,seval,tbD14_heldIn,xbD14_2,aTks,aChart,cChart,eTk,gTk,heT,sin,swithB,us_one,us_idsL,us_le,us_ren,us_plain,us_flat,List.length_map,Nat.mul_one];rfl) (fun h=>?_) (fun h=>?_) <;> (try simp only [vki,reduceCtorEq] at h))
    · have hlt:k < c.sold.length:=by omega
      have e9:IntKind.wrap .i64 ((k:Int)+1)=((k+1:Nat):Int):=by rw [wrap64 (by omega) (by omega)];rfl
      obtain ⟨x,hx⟩:∃ x,c.sold.getD k default=x:=⟨_,rfl⟩
      have hS:=heldK_succ (s:=s) hlt
      rw [hx] at hS
      have hok:=hv.tk x (hx ▸ gMem hlt)
      have hcl:=hv.car.cabs
      obtain ⟨⟨g1,g2⟩,g3,g4,g5,g6⟩:=(⟨hok.cab,hok.bed.1,hok.frm,hok.way,hok.to⟩:_∧_∧_∧_∧_)
      have gs:=hv.car.secs
      have w1:IntKind.wrap .i64 (x.to - 1)=x.to - 1:=wrap64 (by omega) (by omega)
      obtain ⟨i,hi⟩:∃ i:Nat,x.cab=(i:Int):=⟨x.cab.toNat,by omega⟩
      have hi3:i < 3:=by omega
      have hi3':(i:Int) < 3:=by omega
      have i0:(0:Int)≤(i:Int):=by omega
      obtain ⟨P,hP⟩:∃ P,heldK c.sold s k=P:=⟨_,rfl⟩
      have hPl:P.length=3:=by rw [← hP];exact heldK_len _ _ _ hk
      rw [hP,heldStep,hi,Int.toNat_natCast] at hS
      try simp only [heT,hP]
      have hiP:i < P.length:=by omega
      have hiP1:i+1≤P.length:=by omega
      have pg:=us_get hiP
      have ps:=us_set (n:=bedE (P.getD i 0) x.bed) hiP
      cases hb:inB s x.frm (x.to - 1) with
      |false =>
        rw [hb] at hS
        repeat' (first|(apply nx;with_reducible constructor)|refine jq (by decide) ?_|((first|refine kz env fun Q hQ=>?_|refine kj fun Q hQ=>?_);simp only [vkt,seval,tbD14_heldIn,xbD14_2,aTks,aChart,cChart,eTk,gTk,heT,sin,swithB,us_one,us_idsL,us_le,us_ren,us_plain,us_flat,List.length_map,Nat.mul_one,hx,hb,w1,e9];(try simp only [ite_and]);(repeat' (first|with_reducible assumption|refine And.intro ?_ ?_|intro hp));all_goals (first|(refine hQ _ ?_;clear hQ Q)|(refine hQ _ (fun h=>?_) (fun h=>?_) <;> clear hQ Q <;> (try simp only [vki,reduceCtorEq] at h))|(refine kx ?_;kernel_rfl)|omega|assumption|with_reducible rfl|skip)))
        refine ⟨⟨k+1,hlt⟩,by show c.sold.length - (k+1) < c.sold.length - k;omega, ?_⟩
        simp only [heT,hS]
        (refine Le.ok some [] ?_;constructor;all_goals (try simp only [vle,vkt,seval,tbD14_heldIn,xbD14_2,aTks,aChart,cChart,eTk,gTk,heT,sin,swithB,us_one,us_idsL,us_le,us_ren,us_plain,us_flat,List.length_map,Nat.mul_one]))
        all_goals first|rfl|(simp [us_le];done)
      |true =>
        rw [hb] at hS
        simp only [if_true] at hS
        simp only [aU] at pg ps
        repeat' (first|(apply nx;with_reducible constructor)|refine jq (by decide) ?_|((first|refine kz env fun Q hQ=>?_|refine kj fun Q hQ=>?_);simp only [vkt,seval,tbD14_heldIn,xbD14_2,aTks,aChart,cChart,eTk,gTk,heT,sin,swithB,us_one,us_idsL,us_le,us_ren,us_plain,us_flat,List.length_map,Nat.mul_one,hx,hb,w1,e9,hi,hi3',i0,hiP1,hPl,pg,ps,g3];(try simp only [ite_and]);(repeat' (first|with_reducible assumption|refine And.intro ?_ ?_|intro hp));all_goals (first|(refine hQ _ ?_;clear hQ Q)|(refine hQ _ (fun h=>?_) (fun h=>?_) <;> clear hQ Q <;> (try simp only [vki,reduceCtorEq] at h))|(refine kx ?_;kernel_rfl)|omega|assumption|with_reducible rfl|skip)))
        refine ⟨⟨k+1,hlt⟩,by show c.sold.length - (k+1) < c.sold.length - k;omega, ?_⟩
        simp only [heT,hS]
        (refine Le.ok some [] ?_;constructor;all_goals (try simp only [vle,vkt,seval,tbD14_heldIn,xbD14_2,aTks,aChart,cChart,eTk,gTk,heT,sin,swithB,us_one,us_idsL,us_le,us_ren,us_plain,us_flat,List.length_map,Nat.mul_one]))
        all_goals first|rfl|(simp [us_le];done)
    · have hke:k=c.sold.length:=by omega
      subst hke
      obtain ⟨P,hP⟩:∃ P,heldK c.sold s c.sold.length=P:=⟨_,rfl⟩
      have hPl:P.length=3:=by rw [← hP];exact heldK_len _ _ _ (Nat.le_refl _)
      try simp only [heT,hP]
      have tP:(P.map aU).take 3=P.map aU:=List.take_of_length_le (by simp [hPl])
      repeat' (first|(apply nx;with_reducible constructor)|refine jq (by decide) ?_|((first|refine kz env fun Q hQ=>?_|refine kj fun Q hQ=>?_);simp only [vkt,seval,tbD14_heldIn,xbD14_2,aTks,aChart,cChart,eTk,gTk,heT,sin,swithB,us_one,us_idsL,us_le,us_ren,us_plain,us_flat,List.length_map,Nat.mul_one,hPl,tP];(try simp only [ite_and]);(repeat' (first|with_reducible assumption|refine And.intro ?_ ?_|intro hp));all_goals (first|(refine hQ _ ?_;clear hQ Q)|(refine hQ _ (fun h=>?_) (fun h=>?_) <;> clear hQ Q <;> (try simp only [vki,reduceCtorEq] at h))|(refine kx ?_;kernel_rfl)|omega|assumption|with_reducible rfl|skip)))
      (simp only [vrt,Try.results108,hPl,tP,vkt,seval,tbD14_heldIn,xbD14_2,aTks,aChart,cChart,eTk,gTk,heT,sin,swithB,us_one,us_idsL,us_le,us_ren,us_plain,us_flat,List.length_map,Nat.mul_one];refine Fin.val rfl ?_;(try simp only [AV.le,AV.leL]))
      all_goals first|rfl|(simp [us_le];done)
def sheldIn:List AV→Prop × AV
  |[.agg [.sl cs,.v (.int .i64 n),.sl ts],.v (.int .i64 s)]=>(cs=(cs.map dCabin).map eCabin∧ts=(ts.map dTk).map eTk∧Van ⟨cs.map dCabin,n,ts.map dTk⟩,.agg ((heldK (ts.map dTk) s ts.length).map aU))
  |_=>(False,.junk)
theorem eheldIn {A:Frm→Prop}:EntryOK A Try.prog 108 (valE true sheldIn):=valE_ok fun vs hv h=>by
  clear hv
  unfold sheldIn at h ⊢
  split at h
  · rename_i cs n ts s
    obtain ⟨h1,h2,h3⟩:=h
    refine ⟨by simp only [AV.plain,us_plain],fun _=>by simp only [AV.flat,us_flat], ?_⟩
    have:=heldIn_fn ⟨cs.map dCabin,n,ts.map dTk⟩ s h3
    simp only [aChart,cChart,← h1,← h2,List.length_map] at this
    exact this
  · exact h.elim
theorem wrapU {n:Int} (h0:0≤n) (h1:n < 18446744073709551616):IntKind.wrap .u64 n=n:=by
  rw [show IntKind.wrap .u64 n=n % 18446744073709551616 from rfl];omega
theorem orE_ne (x y:BitVec 64) (hy:y ≠ 0):IntKind.wrap .u64 ((x ||| y).toNat:Int) ≠ 0:=fun h=>by
  have hlt:=(x ||| y).isLt
  rw [wrapU (by omega) (by omega)] at h
  have h1:(x ||| y)=0:=by apply BitVec.eq_of_toNat_eq;rw [show (x ||| y).toNat=0 by omega];rfl
  exact hy (BitVec.or_eq_zero_iff.1 h1).2
theorem bedE_ne {a b:Int} (h0:0≤b) (h3:b≤3):bedE a b ≠ 0:=by
  refine orE_ne (BitVec.ofInt 64 a) (BitVec.ofInt 64 (IntKind.wrap .u64 (1 * 2 ^ min b.toNat 64))) ?_
  rcases (by omega:b=0∨b=1∨b=2∨b=3) with rfl|rfl|rfl|rfl <;> decide
theorem heldK_zero {l:List Tk} {s:Int} (hl:∀ t ∈ l,0≤t.cab∧t.cab < 3∧0≤t.bed∧t.bed≤3) {i:Nat} (hi:i < 3):∀ k,k≤l.length→decide ((heldK l s k).getD i 0=0)=(l.take k).all fun t=>!(atB s t && decide (t.cab=(i:Int)))
  |0,_=>by
    rw [List.take_zero]
    match i,hi with
    |0,_=>rfl
    |1,_=>rfl
    |2,_=>rfl
  |k+1,hk=>by
    have hkl:k < l.length:=by omega
    have ih:=heldK_zero (s:=s) hl hi k (by omega)
    have hlen:=heldK_len l s k (by omega)
    obtain ⟨g1,g2,g3,g4⟩:=hl _ (gMem (d:=default) hkl)
    rw [heldK_succ hkl,List.take_succ_eq_append_getElem hkl,List.all_append,← ih]
    rw [show l[k]=l.getD k default by simp [List.getD_eq_getElem?_getD,hkl]]
    generalize l.getD k default=t at *
    have ha:inB s t.frm (t.to - 1)=atB s t:=by
      unfold inB atB
      rw [show decide (s≤t.to - 1)=decide (s < t.to) by rw [decide_eq_decide];omega]
    unfold heldStep
    rw [ha]
    simp only [List.all_cons,List.all_nil,Bool.and_true]
    cases atB s t with
    |false=>simp
    |true =>
      simp only [if_true,Bool.true_and]
      by_cases hc:t.cab=(i:Int)
      · have e:t.cab.toNat=i:=by omega
        rw [e,decide_eq_true hc,List.getD_eq_getElem?_getD,List.getElem?_set_self (by omega),Option.getD_some,decide_eq_false (bedE_ne g3 g4)]
        simp
      · have e:t.cab.toNat ≠ i:=by omega
        rw [decide_eq_false hc,List.getD_eq_getElem?_getD,List.getElem?_set_ne e,← List.getD_eq_getElem?_getD]
        simp
end Go.Sym.B
namespace Go.Sym.B
open Go Go.Sym Go.Proofs Go.Sym.C
def rcN (c:Chart) (s i:Nat):Nat:=((List.range i).filter fun (j:Nat)=>emptyB c.sold s j).length
def rtN (c:Chart) (s:Nat):Nat:=((List.range s).map fun s=>rcN c s c.cabins.length).sum
theorem rcN_succ (c:Chart) (s i:Nat):rcN c s (i+1)=rcN c s i+if emptyB c.sold s i then 1 else 0:=by
  unfold rcN
  rw [List.range_succ,List.filter_append,List.length_append]
  cases h:emptyB c.sold s i <;> simp [h]
theorem rtN_succ (c:Chart) (s:Nat):rtN c (s+1)=rtN c s+rcN c s c.cabins.length:=by
  unfold rtN
  rw [List.range_succ,List.map_append,List.sum_append]
  simp
theorem rcN_le (c:Chart) (s i:Nat):rcN c s i≤i:=by
  unfold rcN
  exact Nat.le_trans (List.length_filter_le _ _) (by simp)
theorem rtN_le (c:Chart):∀ s,rtN c s≤s * c.cabins.length
  |0=>by simp [rtN]
  |s+1=>by
    have:=rtN_le c s
    have:=rcN_le c s c.cabins.length
    rw [rtN_succ,Nat.succ_mul];omega
theorem restN_eq (c:Chart):restN c.cabins c.secs c.sold=(rtN c c.secs.toNat:Int):=by
  unfold restN rtN
  rw [List.length_flatMap]
  rfl
def rsO (c:Chart) (s:Nat):St:={ t:=asg [(1,.ptr 0 0),(2,aI 0),(3,aI (rtN c s:Nat)),(8,aI c.secs),(9,aI s)],h:=hasg [(0,.cells (cChart c))],n:=1 }
def rsI (c:Chart) (s i:Nat):St:={ t:=asg [(1,.ptr 0 0),(2,aI 0),(3,aI (rtN c s+rcN c s i:Nat)),(4,aI s),(5,.ptr 1 0),(8,aI c.secs),(9,aI s),(17,aI c.cabins.length),(18,aI i)],h:=hasg [(0,.cells (cChart c)),(1,.cells ((heldK c.sold s c.sold.length).map aU))],n:=2 }
def tbD15_rest:=kk @ty3 (kk @ty25 (kk @ty28 (kk @ty51 (kk @ty158 (kk @ty164 (kk @ti3.eq_1 (kk @ti25.eq_1 (kk @ti28.eq_1 (kk @ti51.eq_1 (kk @ti158.eq_1 @ti164.eq_1))))))))))
def xbD15_1:=kk @aI.eq_1 (@aB.eq_1)
theorem rest_fn (c:Chart) (hv:Van c):FnV Try.prog 72 [aChart c] (aI (restN c.cabins c.secs c.sold)):=by
  have env:Env (fun _=>True) Try.prog tyB (tab [(108,valE true sheldIn)]):=mkEnv ⟨eheldIn,trivial⟩
  refine Fn.of (A:=fun _=>True) (n0:=0) (D:=noD) (Fn0 Try.func72 rfl (fun vs w=>by kernel_rfl) (by kernel_rfl)) (by simp) (by simp [AV.ids,AV.idsL,aChart,cChart]) (fun i o h=>by cases h) (fun _ _ _ _=>trivial) noD_ok ?_
  have hcl:=hv.car.cabs
  have hsec:=hv.car.secs
  have ec:(⟨c.cabins,c.secs,c.sold⟩:Chart)=c:=rfl
  have htk:∀ t ∈ c.sold,0≤t.cab∧t.cab < 3∧0≤t.bed∧t.bed≤3:=fun t ht=>by
    have h1:=hv.tk t ht
    have h2:=h1.cab
    have h3:=h1.bed
    have h4:=(hv.car.beds _ (gMem (d:=default) h2.2)).2
    omega
  rw [restN_eq]
  repeat' (first|(apply nx;with_reducible constructor)|refine jq (by decide) ?_|((first|refine kz env fun Q hQ=>?_|refine kj fun Q hQ=>?_);simp only [vkt,seval,tbD15_rest,xbD15_1,aChart,cChart,mCabin,mTk,sheldIn,us_one,us_idsL,us_le,us_ren,us_plain,us_flat,rsO,rsI,List.length_map,Nat.mul_one];(try simp only [ite_and]);(repeat' (first|with_reducible assumption|refine And.intro ?_ ?_|intro hp));all_goals (first|(refine hQ _ ?_;clear hQ Q)|(refine hQ _ (fun h=>?_) (fun h=>?_) <;> clear hQ Q <;> (try simp only [vki,reduceCtorEq] at h))|(refine kx ?_;kernel_rfl)|omega|assumption|with_reducible rfl|skip)))
  refine sym_loop (fun s:{ s:Nat // s≤c.secs.toNat }=>rsO c s.1) (fun s=>c.secs.toNat - s.1) ⟨0,Nat.zero_le _⟩ ?_ fun ⟨s,hs⟩=>?_
  · (refine Le.ok some [] ?_;constructor;all_goals (try simp only [vle,vkt,seval,tbD15_rest,xbD15_1,aChart,cChart,mCabin,mTk,sheldIn,us_one,us_idsL,us_le,us_ren,us_plain,us_flat,rsO,rsI,List.length_map,Nat.mul_one]))
    all_goals first|rfl|(simp [rtN];done)
  simp only at hs ⊢
  repeat' (first|(apply nx;with_reducible constructor)|refine jq (by decide) ?_)
  (refine kz env fun Q hQ=>?_;simp only [vkt,seval,tbD15_rest,xbD15_1,aChart,cChart,mCabin,mTk,sheldIn,us_one,us_idsL,us_le,us_ren,us_plain,us_flat,rsO,rsI,List.length_map,Nat.mul_one];(try simp only [ite_and]);(repeat' (first|with_reducible assumption|refine And.intro ?_ ?_|intro hp));all_goals (first|(refine hQ _ ?_;clear hQ Q)|(refine kx ?_;kernel_rfl)|omega|assumption|with_reducible rfl|skip))
  repeat' (first|(apply nx;with_reducible constructor)|refine jq (by decide) ?_)
  (refine sym_cd (by simp only [vkt,seval,tbD15_rest,xbD15_1,aChart,cChart,mCabin,mTk,sheldIn,us_one,us_idsL,us_le,us_ren,us_plain,us_flat,rsO,rsI,List.length_map,Nat.mul_one];rfl) (fun h=>?_) (fun h=>?_) <;> (try simp only [vki,reduceCtorEq] at h))
  · have hlt:s < c.secs.toNat:=by omega
    have hT:=rtN_le c s
    have hT3:rtN c s≤s * 3:=Nat.le_trans hT (Nat.mul_le_mul_left _ hcl.2)
    have e9:IntKind.wrap .i64 ((s:Int)+1)=((s+1:Nat):Int):=by rw [wrap64 (by omega) (by omega)];rfl
    obtain ⟨P,hP⟩:∃ P,heldK c.sold s c.sold.length=P:=⟨_,rfl⟩
    have hPl:P.length=3:=by rw [← hP];exact heldK_len _ _ _ (Nat.le_refl _)
    repeat' (first|(apply nx;with_reducible constructor)|refine jq (by decide) ?_|((first|refine kz env fun Q hQ=>?_|refine kj fun Q hQ=>?_);simp only [vkt,seval,tbD15_rest,xbD15_1,aChart,cChart,mCabin,mTk,sheldIn,us_one,us_idsL,us_le,us_ren,us_plain,us_flat,rsO,rsI,List.length_map,Nat.mul_one,ec,hv,hP];(try simp only [ite_and]);(repeat' (first|with_reducible assumption|refine And.intro ?_ ?_|intro hp));all_goals (first|(refine hQ _ ?_;clear hQ Q)|(refine hQ _ (fun h=>?_) (fun h=>?_) <;> clear hQ Q <;> (try simp only [vki,reduceCtorEq] at h))|(refine kx ?_;kernel_rfl)|omega|assumption|with_reducible rfl|skip)))
    refine sym_loop (fun i:{ i:Nat // i≤c.cabins.length }=>rsI c s i.1) (fun i=>c.cabins.length - i.1) ⟨0,Nat.zero_le _⟩ ?_ fun ⟨i,hi⟩=>?_
    · simp only [rsI,hP,rcN,List.range_zero,List.filter_nil,List.length_nil,Nat.add_zero]
      (refine Le.ok some [] ?_;constructor;all_goals (try simp only [vle,vkt,seval,tbD15_rest,xbD15_1,aChart,cChart,mCabin,mTk,sheldIn,us_one,us_idsL,us_le,us_ren,us_plain,us_flat,rsO,rsI,List.length_map,Nat.mul_one]))
      all_goals first|rfl|(simp [us_le];done)|(simp [hPl,us_le];done)
    simp only at hi ⊢
    repeat' (first|(apply nx;with_reducible constructor)|refine jq (by decide) ?_)
    (refine kz env fun Q hQ=>?_;simp only [vkt,seval,tbD15_rest,xbD15_1,aChart,cChart,mCabin,mTk,sheldIn,us_one,us_idsL,us_le,us_ren,us_plain,us_flat,rsO,rsI,List.length_map,Nat.mul_one];(try simp only [ite_and]);(repeat' (first|with_reducible assumption|refine And.intro ?_ ?_|intro hp));all_goals (first|(refine hQ _ ?_;clear hQ Q)|(refine kx ?_;kernel_rfl)|omega|assumption|with_reducible rfl|skip))
    repeat' (first|(apply nx;with_reducible constructor)|refine jq (by decide) ?_)
    (refine sym_cd (by simp only [vkt,seval,tbD15_rest,xbD15_1,aChart,cChart,mCabin,mTk,sheldIn,us_one,us_idsL,us_le,us_ren,us_plain,us_flat,rsO,rsI,List.length_map,Nat.mul_one];rfl) (fun h=>?_) (fun h=>?_) <;> (try simp only [vki,reduceCtorEq] at h))
    · have hil:i < c.cabins.length:=by omega
      have hC:=rcN_le c s i
      have e8:IntKind.wrap .i64 ((i:Int)+1)=((i+1:Nat):Int):=by rw [wrap64 (by omega) (by omega)];rfl
      have e7:IntKind.wrap .i64 (((rtN c s+rcN c s i:Nat):Int)+1)=((rtN c s+rcN c s i+1:Nat):Int):=by rw [wrap64 (by omega) (by omega)];rfl
      have hz:=heldK_zero (s:=(s:Int)) htk (show i < 3 by omega) c.sold.length (Nat.le_refl _)
      rw [List.take_length,hP] at hz
      have hz:decide (P.getD i 0=0)=emptyB c.sold s i:=hz
      have hS:=rcN_succ c s i
      have i3:(i:Int) < 3:=by omega
      have hiP:i < P.length:=by omega
      have hiP1:i+1≤P.length:=by omega
      have pg:=us_get hiP
      simp only [aU] at pg
      cases hE:emptyB c.sold s i with
      |true =>
        rw [hE] at hz hS
        simp only [if_true] at hS
        repeat' (first|(apply nx;with_reducible constructor)|refine jq (by decide) ?_|((first|refine kz env fun Q hQ=>?_|refine kj fun Q hQ=>?_);simp only [vkt,seval,tbD15_rest,xbD15_1,aChart,cChart,mCabin,mTk,sheldIn,us_one,us_idsL,us_le,us_ren,us_plain,us_flat,rsO,rsI,List.length_map,Nat.mul_one,hP,hPl,pg,hz,i3,hiP1,e8,e7];(try simp only [ite_and]);(repeat' (first|with_reducible assumption|refine And.intro ?_ ?_|intro hp));all_goals (first|(refine hQ _ ?_;clear hQ Q)|(refine hQ _ (fun h=>?_) (fun h=>?_) <;> clear hQ Q <;> (try simp only [vki,reduceCtorEq] at h))|(refine kx ?_;kernel_rfl)|omega|assumption|with_reducible rfl|skip)))
        refine ⟨⟨i+1,hil⟩,by show c.cabins.length - (i+1) < c.cabins.length - i;omega, ?_⟩
        simp only [rsI,hP,hS,← Nat.add_assoc]
        (refine Le.ok some [] ?_;constructor;all_goals (try simp only [vle,vkt,seval,tbD15_rest,xbD15_1,aChart,cChart,mCabin,mTk,sheldIn,us_one,us_idsL,us_le,us_ren,us_plain,us_flat,rsO,rsI,List.length_map,Nat.mul_one]))
        all_goals first|rfl|(simp [us_le];done)
      |false =>
        rw [hE] at hz hS
        simp only [Bool.false_eq_true,if_false,Nat.add_zero] at hS
        repeat' (first|(apply nx;with_reducible constructor)|refine jq (by decide) ?_|((first|refine kz env fun Q hQ=>?_|refine kj fun Q hQ=>?_);simp only [vkt,seval,tbD15_rest,xbD15_1,aChart,cChart,mCabin,mTk,sheldIn,us_one,us_idsL,us_le,us_ren,us_plain,us_flat,rsO,rsI,List.length_map,Nat.mul_one,hP,hPl,pg,hz,i3,hiP1,e8,e7];(try simp only [ite_and]);(repeat' (first|with_reducible assumption|refine And.intro ?_ ?_|intro hp));all_goals (first|(refine hQ _ ?_;clear hQ Q)|(refine hQ _ (fun h=>?_) (fun h=>?_) <;> clear hQ Q <;> (try simp only [vki,reduceCtorEq] at h))|(refine kx ?_;kernel_rfl)|omega|assumption|with_reducible rfl|skip)))
        refine ⟨⟨i+1,hil⟩,by show c.cabins.length - (i+1) < c.cabins.length - i;omega, ?_⟩
        simp only [rsI,hP,hS]
        (refine Le.ok some [] ?_;constructor;all_goals (try simp only [vle,vkt,seval,tbD15_rest,xbD15_1,aChart,cChart,mCabin,mTk,sheldIn,us_one,us_idsL,us_le,us_ren,us_plain,us_flat,rsO,rsI,List.length_map,Nat.mul_one]))
        all_goals first|rfl|(simp [us_le];done)
    · have hie:i=c.cabins.length:=by omega
      subst hie
      have hS:=rtN_succ c s
      repeat' (first|(apply nx;with_reducible constructor)|refine jq (by decide) ?_|((first|refine kz env fun Q hQ=>?_|refine kj fun Q hQ=>?_);simp only [vkt,seval,tbD15_rest,xbD15_1,aChart,cChart,mCabin,mTk,sheldIn,us_one,us_idsL,us_le,us_ren,us_plain,us_flat,rsO,rsI,List.length_map,Nat.mul_one,hP,e9];(try simp only [ite_and]);(repeat' (first|with_reducible assumption|refine And.intro ?_ ?_|intro hp));all_goals (first|(refine hQ _ ?_;clear hQ Q)|(refine hQ _ (fun h=>?_) (fun h=>?_) <;> clear hQ Q <;> (try simp only [vki,reduceCtorEq] at h))|(refine kx ?_;kernel_rfl)|omega|assumption|with_reducible rfl|skip)))
      refine ⟨⟨s+1,hlt⟩,by show c.secs.toNat - (s+1) < c.secs.toNat - s;omega, ?_⟩
      simp only [rsO,hS]
      (refine Le.ok some [] ?_;constructor;all_goals (try simp only [vle,vkt,seval,tbD15_rest,xbD15_1,aChart,cChart,mCabin,mTk,sheldIn,us_one,us_idsL,us_le,us_ren,us_plain,us_flat,rsO,rsI,List.length_map,Nat.mul_one]))
      all_goals first|rfl|(simp;done)
  · have hse:s=c.secs.toNat:=by omega
    subst hse
    repeat' (first|(apply nx;with_reducible constructor)|refine jq (by decide) ?_|((first|refine kz env fun Q hQ=>?_|refine kj fun Q hQ=>?_);simp only [vkt,seval,tbD15_rest,xbD15_1,aChart,cChart,mCabin,mTk,sheldIn,us_one,us_idsL,us_le,us_ren,us_plain,us_flat,rsO,rsI,List.length_map,Nat.mul_one];(try simp only [ite_and]);(repeat' (first|with_reducible assumption|refine And.intro ?_ ?_|intro hp));all_goals (first|(refine hQ _ ?_;clear hQ Q)|(refine hQ _ (fun h=>?_) (fun h=>?_) <;> clear hQ Q <;> (try simp only [vki,reduceCtorEq] at h))|(refine kx ?_;kernel_rfl)|omega|assumption|with_reducible rfl|skip)))
    (simp only [vrt,Try.results72,vkt,seval,tbD15_rest,xbD15_1,aChart,cChart,mCabin,mTk,sheldIn,us_one,us_idsL,us_le,us_ren,us_plain,us_flat,rsO,rsI,List.length_map,Nat.mul_one];refine Fin.val rfl ?_;(try simp only [AV.le,AV.leL]))
    all_goals first|rfl|(simp;done)
def srest:List AV→Prop × AV
  |[.agg [.sl cs,.v (.int .i64 n),.sl ts]]=>(cs=(cs.map dCabin).map eCabin∧ts=(ts.map dTk).map eTk∧Van ⟨cs.map dCabin,n,ts.map dTk⟩,aI (restN (cs.map dCabin) n (ts.map dTk)))
  |_=>(False,.junk)
theorem erest {A:Frm→Prop}:EntryOK A Try.prog 72 (valE true srest):=valE_ok fun vs hv h=>by
  clear hv
  unfold srest at h ⊢
  split at h
  · rename_i cs n ts
    obtain ⟨h1,h2,h3⟩:=h
    refine ⟨by simp [aI,AV.plain],fun _=>by simp [aI,AV.flat], ?_⟩
    have:=rest_fn ⟨cs.map dCabin,n,ts.map dTk⟩ h3
    simp only [aChart,cChart,← h1,← h2] at this
    exact this
  · exact h.elim
def restA (c:Chart):Int:=if checkE c=0 then restN c.cabins c.secs c.sold else 0
def tbD15_Rest:=kk @ty28 (kk @ty34 (kk @ti28.eq_1 @ti34.eq_1))
def xbD15_2:=kk @aI.eq_1 (@aB.eq_1)
theorem Rest_fn (c:Chart) (hc:c.cabins.length≤maxLen):FnV Try.prog 26 [aChart c] (.tup [aI (restA c),aI (checkE c)]):=by
  have env:Env (fun _=>True) Try.prog tyB (tab [(44,valE true scheck),(72,valE true srest)]):=mkEnv ⟨echeck,erest,trivial⟩
  refine Fn.of (A:=fun _=>True) (n0:=0) (D:=noD) (Fn0 Try.func26 rfl (fun vs w=>by kernel_rfl) (by kernel_rfl)) (by simp) (by simp [AV.ids,AV.idsL,aChart,cChart]) (fun i o h=>by cases h) (fun _ _ _ _=>trivial) noD_ok ?_
  have ec:(⟨c.cabins,c.secs,c.sold⟩:Chart)=c:=rfl
  unfold restA
  by_cases h1:checkE c=0
  · have hv:=(val_of h1).van
    rw [if_pos h1,h1]
    repeat' (first|(apply nx;with_reducible constructor)|refine jq (by decide) ?_|((first|refine kz env fun Q hQ=>?_|refine kj fun Q hQ=>?_);simp only [vkt,seval,tbD15_Rest,xbD15_2,aChart,cChart,mCabin,mTk,scheck,srest,List.length_map,ec,h1,hv];(try simp only [ite_and]);(repeat' (first|with_reducible assumption|refine And.intro ?_ ?_|intro hp));all_goals (first|(refine hQ _ ?_;clear hQ Q)|(refine hQ _ (fun h=>?_) (fun h=>?_) <;> clear hQ Q <;> (try simp only [vki,reduceCtorEq] at h))|(refine kx ?_;kernel_rfl)|omega|assumption|with_reducible rfl|skip)))
    (simp only [vrt,Try.results26,vkt,seval,tbD15_Rest,xbD15_2,aChart,cChart,mCabin,mTk,scheck,srest,List.length_map];refine Fin.val rfl ?_;(try simp only [AV.le,AV.leL]))
    all_goals first|rfl|(simp;done)
  · rw [if_neg h1]
    repeat' (first|(apply nx;with_reducible constructor)|refine jq (by decide) ?_|((first|refine kz env fun Q hQ=>?_|refine kj fun Q hQ=>?_);simp only [vkt,seval,tbD15_Rest,xbD15_2,aChart,cChart,mCabin,mTk,scheck,srest,List.length_map,ec,h1];(try simp only [ite_and]);(repeat' (first|with_reducible assumption|refine And.intro ?_ ?_|intro hp));all_goals (first|(refine hQ _ ?_;clear hQ Q)|(refine hQ _ (fun h=>?_) (fun h=>?_) <;> clear hQ Q <;> (try simp only [vki,reduceCtorEq] at h))|(refine kx ?_;kernel_rfl)|omega|assumption|with_reducible rfl|skip)))
    (simp only [vrt,Try.results26,vkt,seval,tbD15_Rest,xbD15_2,aChart,cChart,mCabin,mTk,scheck,srest,List.length_map];refine Fin.val rfl ?_;(try simp only [AV.le,AV.leL]))
    all_goals first|rfl|(simp;done)
end Go.Sym.B
namespace Go.Sym.B
open Go Go.Sym Go.Proofs Go.Sym.C
def bL3 (cs:List Cabin) (s:Int) (l:List Tk):List AObj:=[carC cs s 2,.cells [.ptr 0 0],rowT l]
def tbD16_bb:=kk @ty28 (kk @ty106 (kk @ty118 (kk @ti28.eq_1 (kk @ti106.eq_1 @ti118.eq_1))))
def xbD16_1:=kk @aI.eq_1 (@aB.eq_1)
theorem bb_fn (cs:List Cabin) (s:Int) (l:List Tk) (hv:Van ⟨cs,s,l⟩):Fn noB Try.prog 71 [.ptr 1 0] (hasg (enumA 0 (bL3 cs s l))) (aI (restN cs s l)) (hasg (enumO 0 ((bL3 cs s l).map some))) 0:=by
  have env:Env (fun _=>True) Try.prog tyB (tab [(72,valE true srest)]):=mkEnv ⟨erest,trivial⟩
  refine Fn.of (A:=fun _=>True) (n0:=3) (D:=noD) (Fn0 Try.func71 rfl (fun vs w=>by kernel_rfl) (by kernel_rfl)) (by simp) (by simp [AV.ids]) ?_ (fun _ _ _ _=>trivial) noD_ok ?_
  · intro i o hi
    have h:=hasg_mem hi
    simp [enumA,bL3] at h
    rcases h with ⟨rfl,rfl⟩|⟨rfl,rfl⟩|⟨rfl,rfl⟩ <;> simp [AObj.ids,AV.ids,AV.idsL,carC,rowT]
  show Sym _ _ _ (startS [.ptr 1 0] 3 (hasg [(0,carC cs s 2),(1,.cells [.ptr 0 0]),(2,rowT l)])) (retK tyB noD Try.f71 fun S rv=>Fin S rv _ 3 (hasg [(0,carC cs s 2),(1,.cells [.ptr 0 0]),(2,rowT l)]) 0)
  repeat' (first|(apply nx;with_reducible constructor)|refine jq (by decide) ?_|((first|refine kz env fun Q hQ=>?_|refine kj fun Q hQ=>?_);simp only [vkt,seval,tbD16_bb,xbD16_1,mCabin,mTk,carC,rowT,bL3,srest,List.length_map,hv];(try simp only [ite_and]);(repeat' (first|with_reducible assumption|refine And.intro ?_ ?_|intro hp));all_goals (first|(refine hQ _ ?_;clear hQ Q)|(refine hQ _ (fun h=>?_) (fun h=>?_) <;> clear hQ Q <;> (try simp only [vki,reduceCtorEq] at h))|(refine kx ?_;kernel_rfl)|omega|assumption|with_reducible rfl|skip)))
  (simp only [vrt,Try.results71,vkt,seval,tbD16_bb,xbD16_1,mCabin,mTk,carC,rowT,bL3,srest,List.length_map];refine Fin.ok some [] ?_ ?_ ?_ ?_ ?_ rfl;all_goals (try simp only [vle,vkt,seval,tbD16_bb,xbD16_1,mCabin,mTk,carC,rowT,bL3,srest,List.length_map]))
  all_goals first|rfl|(simp;done)|exact fun i hi=>(match i,hi with|0,_=>rfl|1,_=>rfl|2,_=>rfl)
def bestL (c:Chart) (a:Ask):List AObj:=[carC c.cabins c.secs 2,.cells [.ptr 0 0],rowT c.sold,.cells (cAsk a)]
def bestY (c:Chart) (a:Ask) (j:Nat):List AV:=[.agg [aBunks ((plP c a).getD j default).1,.clo 71 [.ptr 1 0]]]
def bestH (c:Chart) (a:Ask) (j:Nat):List AObj:=bL3 c.cabins c.secs ((plP c a).getD j default).2
def bgL0:List (Nat × AV):=[(1,.ptr 1 0),(3,.ptr 4 0),(7,.clo 114 [.ptr 5 0,.ptr 6 0])]
def bgL:List (Nat × AV):=[(1,.ptr 1 0),(3,.ptr 4 0)]
def bgH (a:Ask):List (Nat × AObj):=[(1,.cells [.ptr 0 0]),(3,.cells (cAsk a)),(4,.cells [.cb])]
theorem bg_lent0 (c:Chart) (a:Ask):lentA [0,2,5,6] 8 0 (plL c a)=[(0,carC c.cabins c.secs 2),(2,rowT c.sold),(5,.cells [.ptr 0 0]),(6,.cells (cAsk a))]:=by
  simp [lentA,plL,callRen,AObj.ren,AV.renL,AV.ren,carC,rowT,cAsk]
theorem bg_lent (c:Chart) (a:Ask) (j:Nat):lentA [0] 8 0 (plH c a j)=[(0,carC c.cabins c.secs 8),(8,rowT ((plP c a).getD j default).2)]:=by
  simp [lentA,plH,lent2,callRen,AObj.ren,AV.renL,AV.ren,carC,rowT]
def tbD16_b1:=kk @ty31 (kk @ty106 (kk @ty115 (kk @ty121 (kk @ti31.eq_1 (kk @ti106.eq_1 (kk @ti115.eq_1 @ti121.eq_1))))))
def xbD16_2:=kk @aI.eq_1 (kk @aB.eq_1 (@mInt))
theorem best1_it {c:Chart} {a:Ask} (h:PlOk c a):IterP Try.prog 70 [.cb,.ptr 1 0,.ptr 3 0] (nth ((bestL c a).take 2)) (nth (bestL c a)) (bestY c a) (plP c a).length (fun j=>nth (bestH c a j)) (fun _ _=>.tup []):=by
  intro ans R hr
  rw [nth_enum,nth_enum]
  obtain ⟨A0,hA0⟩:∃ A0:Frm→Prop,A0=fun F=>F.r=none∧Acb Try.prog (hasg (enumA 0 ((bestL c a).take 2))) (hasg (enumA 0 (bestL c a))) (bestY c a) (fun j=>nth (bestH c a j)) ans R F:=⟨_,rfl⟩
  have hr0:∀ F,A0 F→F.r=none:=fun F h=>by rw [hA0] at h;exact h.1
  have hA:∀ F,A0 F→Acb Try.prog (hasg (enumA 0 ((bestL c a).take 2))) (hasg (enumA 0 (bestL c a))) (bestY c a) (fun j=>nth (bestH c a j)) ans R F:=fun F h=>by rw [hA0] at h;exact h.2
  have hp2:∀ i o,hasg (enumA 0 ((bestL c a).take 2)) i=some o→i=0∨i=1:=fun i o hi=>by
    rw [enumA_get,if_neg (by omega)] at hi
    have:=(List.getElem?_eq_some_iff.1 hi).1
    simp [bestL] at this
    omega
  have env:Env A0 Try.prog tyB (tab [(68,fnE pPlaces)]):=mkEnv ⟨ePlaces,trivial⟩
  refine Fn.of (A:=A0) (n0:=4) (D:=noD) (Fn0 Try.func70 rfl (fun vs w=>by kernel_rfl) (by kernel_rfl)) (by simp) (by simp [AV.ids]) ?_ (fun F hb h0 h1=>by rw [hA0];exact ⟨h1,h0,fun i o hi=>(by rcases hp2 i o hi with rfl|rfl <;> exact ⟨_,rfl⟩),hb⟩) noD_ok ?_
  · intro i o hi
    have h:=hasg_mem hi
    simp [enumA,bestL] at h
    rcases h with ⟨rfl,rfl⟩|⟨rfl,rfl⟩|⟨rfl,rfl⟩|⟨rfl,rfl⟩ <;> simp [AObj.ids,AV.ids,AV.idsL,carC,rowT,cAsk]
  show Sym _ _ _ (startS [.cb,.ptr 1 0,.ptr 3 0] 4 (hasg [(0,carC c.cabins c.secs 2),(1,.cells [.ptr 0 0]),(2,rowT c.sold),(3,.cells (cAsk a))])) (retK tyB noD Try.f70 fun S rv=>Fin S rv _ 4 (hasg [(0,carC c.cabins c.secs 2),(1,.cells [.ptr 0 0]),(2,rowT c.sold),(3,.cells (cAsk a))]) R)
  repeat' (first|(apply nx;with_reducible constructor)|refine jq (by decide) ?_|((first|refine kz env fun Q hQ=>?_|refine kj fun Q hQ=>?_);simp only [vkt,seval,tbD16_b1,xbD16_2,aAsk,cAsk,aBunks,mTk,mCabin,carC,rowT,lent2,plL,bgL,pPlaces,bL3,bestY,bestH,List.length_map,Go.Sym.tabC,cbX,pinB,lentOK,nth,hwL,Nat.zero_add,Nat.sub_zero,Nat.add_zero];(try simp only [ite_and]);(repeat' (first|with_reducible assumption|refine And.intro ?_ ?_|intro hp));all_goals (first|(refine hQ _ ?_;clear hQ Q)|(refine hQ _ (fun h=>?_) (fun h=>?_) <;> clear hQ Q <;> (try simp only [vki,reduceCtorEq] at h))|(refine kx ?_;kernel_rfl)|omega|assumption|with_reducible rfl|skip)))
  refine sym_le (S':={ t:=asg bgL0,h:=hasg (bgH a++[(0,carC c.cabins c.secs 2),(2,rowT c.sold),(5,.cells [.ptr 0 0]),(6,.cells (cAsk a))]),n:=7,j:=0,d:=[],m:=4 }) ?_ ?_
  · show Le _ { t:=asg [(1,.ptr 1 0),(3,.ptr 4 0),(7,.clo 114 [.ptr 5 0,.ptr 6 0])],h:=hasg [(1,.cells [.ptr 0 0]),(3,.cells (cAsk a)),(4,.cells [.cb]),(0,carC c.cabins c.secs 2),(2,rowT c.sold),(5,.cells [.ptr 0 0]),(6,.cells (cAsk a))],n:=7,j:=0,d:=[],m:=4 }
    (refine Le.ok some [] ?_;constructor;all_goals (try simp only [vle,vkt,seval,tbD16_b1,xbD16_2,aAsk,cAsk,aBunks,mTk,mCabin,carC,rowT,lent2,plL,bgL,pPlaces,bL3,bestY,bestH,List.length_map,Go.Sym.tabC,cbX,pinB,lentOK,nth,hwL,Nat.zero_add,Nat.sub_zero,Nat.add_zero]))
    all_goals first|rfl|(simp;done)
  rw [← bg_lent0 c a]
  refine sym_rangeP hr0 1 (L:=bgL0) (L':=bgL) (xs:=[2]) (hs:=[0,2,5,6]) (n:=7) (nl:=1) (hc:=fun _=>bgH a) (Lp:=plL c a) (jj:=fun j=>j) (d:=[]) (ys:=plY c a) (hl:=plH c a) (ans:=ans) (ex:=.ret) (caps:=[.ptr 5 0,.ptr 6 0]) (caps0:=[.ptr 2 0,.ptr 3 0]) (N:=(plP c a).length) (R:=R) (A':=fun j=>Acb Try.prog (hasg (enumA 0 ((bestL c a).take 2))) (hasg ((7,.mark) :: bgH a++lentA [0] 8 0 (plH c a j))) (fun k=>bestY c a (j+k)) (fun k=>nth (bestH c a (j+k))) (fun k=>ans (j+k)) (R - j)) rfl (places_it h) hr (.inl rfl) ?_ ?_ ?_ rfl (by simp) ?_ (by simp) ?_ ?_ ?_ ?_ ?_ ?_ ?_ (fun j hj=>?_) ?_ (fun j hj=>?_) (fun _=>?_) (fun hpos hlast=>?_)
  · simp [AV.leL,AV.le]
  · simp [AV.nocbL,AV.nocb]
  · simp [lentP,plL,carC,rowT,cAsk,AObj.nocb,AV.nocbL,AV.nocb,AObj.ids,AV.ids,AV.idsL,AObj.ren,AV.renL,AV.ren,AObj.le,AV.leL,AV.le,callRen]
  · simp [bgH,hasg]
  · intro F hF j hj F' hR
    refine acb_round (hA F hF) hR fun i o hi=>?_
    rcases hp2 i o hi with rfl|rfl
    · exact ⟨_,rfl⟩
    · exact ⟨_,rfl⟩
  · simp [bgH,hasg]
  · simp [bgH,AObj.ids,AV.ids,AV.idsL,cAsk]
  · simp [subL,bgL,bgL0,asg,upd]
  · simp [xsOK]
  · intro j hj
    simp [absent,bgH,bg_lent]
  · simp [idsT,bgL,AV.ids]
  · refine ⟨?_,rfl, ?_, ?_,rfl, ?_⟩
    · simp [idsH,bgH,AObj.ids,AV.ids,AV.idsL,cAsk]
    · simp [lentQ,plH,lent2,carC,rowT,AObj.nocb,AV.nocbL,AV.nocb,AObj.ids,AV.ids,AV.idsL]
    · simp [argQ,plY,aBunks,AV.nocb,AV.ids]
    · simp [keysIn,keyIn,bg_lent,bgH,bgL,idsTL,AV.ids,ADf.ids,List.range_succ]
  · simp [idsH,bgH,AObj.ids,AV.ids,AV.idsL,cAsk]
  · obtain ⟨x,hx⟩:∃ x,((plP c a).getD j default).1=x:=⟨_,rfl⟩
    obtain ⟨r,hr2⟩:∃ r,((plP c a).getD j default).2=r:=⟨_,rfl⟩
    obtain ⟨A1,hA1⟩:∃ A1:Frm→Prop,A1=Acb Try.prog (hasg (enumA 0 ((bestL c a).take 2))) (hasg ((7,.mark) :: bgH a++lentA [0] 8 0 (plH c a j))) (fun k=>bestY c a (j+k)) (fun k=>nth (bestH c a (j+k))) (fun k=>ans (j+k)) (R - j):=⟨_,rfl⟩
    rw [← hA1]
    have hB:∀ F,A1 F→Acb Try.prog (hasg (enumA 0 ((bestL c a).take 2))) (hasg ((7,.mark) :: bgH a++lentA [0] 8 0 (plH c a j))) (fun k=>bestY c a (j+k)) (fun k=>nth (bestH c a (j+k))) (fun k=>ans (j+k)) (R - j) F:=fun F h=>hA1 ▸ h
    have env:Env A1 Try.prog tyB (Go.Sym.tabC (cbX [0,1,8] (fun k=>bestY c a (j+k)) (fun k=>bestH c a (j+k)) (fun k=>ans (j+k)) (R - j)) []):=⟨tyB_ok,tabC_ok (fun S bs h hS ops o g args tys caps hw ho hg hb=>cbX_sound hB (fun i o hi=>by rcases hp2 i o hi with rfl|rfl <;> rfl) (by simp) h hS hw ho hg hb) trivial,by kernel_rfl⟩
    have hst:rStart bgL [8] [0] 7 1 (plY c a j) (bgH a) (plH c a j)={ t:=asg [(8,aBunks x),(1,.ptr 1 0),(3,.ptr 4 0)],h:=hasg [(7,.mark),(1,.cells [.ptr 0 0]),(3,.cells (cAsk a)),(4,.cells [.cb]),(0,carC c.cabins c.secs 8),(8,rowT r)],n:=9,m:=9 }:=by
      simp only [rStart,Nat.reduceAdd,bg_lent,plY,hx,hr2,aBunks,List.map_cons,List.map_nil,AV.ren,List.zip_cons_cons,List.zip_nil_right,bgH,bgL,putsL,List.cons_append,List.nil_append]
      rfl
    show Sym _ _ _ (rStart bgL [8] [0] 7 1 (plY c a j) (bgH a) (plH c a j)) _
    rw [hst]
    have hjR:0 < R - j:=by omega
    cases hb:ans j with
    |true =>
      repeat' (first|(apply nx;with_reducible constructor)|refine jq (by decide) ?_|((first|refine kz env fun Q hQ=>?_|refine kj fun Q hQ=>?_);simp only [vkt,seval,tbD16_b1,xbD16_2,aAsk,cAsk,aBunks,mTk,mCabin,carC,rowT,lent2,plL,bgL,pPlaces,bL3,bestY,bestH,List.length_map,Go.Sym.tabC,cbX,pinB,lentOK,nth,hwL,Nat.zero_add,Nat.sub_zero,Nat.add_zero,hx,hr2,hjR,hb];(try simp only [ite_and]);(repeat' (first|with_reducible assumption|refine And.intro ?_ ?_|intro hp));all_goals (first|(refine hQ _ ?_;clear hQ Q)|(refine hQ _ (fun h=>?_) (fun h=>?_) <;> clear hQ Q <;> (try simp only [vki,reduceCtorEq] at h))|(refine kx ?_;kernel_rfl)|omega|assumption|with_reducible rfl|skip)))
      refine ⟨by rw [hb];rfl,rfl,some,_,RFin.okQ some [] ?_⟩
      constructor
      all_goals (try simp only [vle,lentR,rensL,callRen,plH,bgH,hr2,vkt,seval,tbD16_b1,xbD16_2,aAsk,cAsk,aBunks,mTk,mCabin,carC,rowT,lent2,plL,bgL,pPlaces,bL3,bestY,bestH,List.length_map,Go.Sym.tabC,cbX,pinB,lentOK,nth,hwL,Nat.zero_add,Nat.sub_zero,Nat.add_zero])
      all_goals first|rfl|(simp;done)|(simp [cAsk,AV.leL,AV.le];done)
    |false =>
      repeat' (first|(apply nx;with_reducible constructor)|refine jq (by decide) ?_|((first|refine kz env fun Q hQ=>?_|refine kj fun Q hQ=>?_);simp only [vkt,seval,tbD16_b1,xbD16_2,aAsk,cAsk,aBunks,mTk,mCabin,carC,rowT,lent2,plL,bgL,pPlaces,bL3,bestY,bestH,List.length_map,Go.Sym.tabC,cbX,pinB,lentOK,nth,hwL,Nat.zero_add,Nat.sub_zero,Nat.add_zero,hx,hr2,hjR,hb];(try simp only [ite_and]);(repeat' (first|with_reducible assumption|refine And.intro ?_ ?_|intro hp));all_goals (first|(refine hQ _ ?_;clear hQ Q)|(refine hQ _ (fun h=>?_) (fun h=>?_) <;> clear hQ Q <;> (try simp only [vki,reduceCtorEq] at h))|(refine kx ?_;kernel_rfl)|omega|assumption|with_reducible rfl|skip)))
      refine ⟨by rw [hb];rfl,rfl,some,_,RFin.okQ some [] ?_⟩
      constructor
      all_goals (try simp only [vle,lentR,rensL,callRen,plH,bgH,hr2,vkt,seval,tbD16_b1,xbD16_2,aAsk,cAsk,aBunks,mTk,mCabin,carC,rowT,lent2,plL,bgL,pPlaces,bL3,bestY,bestH,List.length_map,Go.Sym.tabC,cbX,pinB,lentOK,nth,hwL,Nat.zero_add,Nat.sub_zero,Nat.add_zero])
      all_goals first|rfl|(simp;done)|(simp [cAsk,AV.leL,AV.le];done)
  · have eh:hasg ((7,AObj.mark) :: bgH a++lentA [0,2,5,6] (7+1) 0 (plL c a))=hasg [(7,.mark),(1,.cells [.ptr 0 0]),(3,.cells (cAsk a)),(4,.cells [.cb]),(0,carC c.cabins c.secs 2),(2,rowT c.sold),(5,.cells [.ptr 0 0]),(6,.cells (cAsk a))]:=by
      rw [show lentA [0,2,5,6] (7+1) 0 (plL c a)=lentA [0,2,5,6] 8 0 (plL c a) from rfl,bg_lent0];rfl
    rw [eh]
    repeat' (first|(apply nx;with_reducible constructor)|refine jq (by decide) ?_|((first|refine kz env fun Q hQ=>?_|refine kj fun Q hQ=>?_);simp only [vkt,seval,tbD16_b1,xbD16_2,aAsk,cAsk,aBunks,mTk,mCabin,carC,rowT,lent2,plL,bgL,pPlaces,bL3,bestY,bestH,List.length_map,Go.Sym.tabC,cbX,pinB,lentOK,nth,hwL,Nat.zero_add,Nat.sub_zero,Nat.add_zero];(try simp only [ite_and]);(repeat' (first|with_reducible assumption|refine And.intro ?_ ?_|intro hp));all_goals (first|(refine hQ _ ?_;clear hQ Q)|(refine hQ _ (fun h=>?_) (fun h=>?_) <;> clear hQ Q <;> (try simp only [vki,reduceCtorEq] at h))|(refine kx ?_;kernel_rfl)|omega|assumption|with_reducible rfl|skip)))
    (simp only [vrt,Try.results70,vkt,seval,tbD16_b1,xbD16_2,aAsk,cAsk,aBunks,mTk,mCabin,carC,rowT,lent2,plL,bgL,pPlaces,bL3,bestY,bestH,List.length_map,Go.Sym.tabC,cbX,pinB,lentOK,nth,hwL,Nat.zero_add,Nat.sub_zero,Nat.add_zero];refine Fin.ok some [] ?_ ?_ ?_ ?_ ?_ rfl;all_goals (try simp only [vle,vkt,seval,tbD16_b1,xbD16_2,aAsk,cAsk,aBunks,mTk,mCabin,carC,rowT,lent2,plL,bgL,pPlaces,bL3,bestY,bestH,List.length_map,Go.Sym.tabC,cbX,pinB,lentOK,nth,hwL,Nat.zero_add,Nat.sub_zero,Nat.add_zero]))
    all_goals first|rfl|(simp [cAsk,AV.leL,AV.le];done)|exact fun i hi=>(match i,hi with|0,_=>rfl|1,_=>rfl|2,_=>rfl|3,_=>rfl)
  · have eh:hasg ((7,AObj.mark) :: bgH a++lentA [0,2,5,6] (7+1) 0 (plL c a))=hasg [(7,.mark),(1,.cells [.ptr 0 0]),(3,.cells (cAsk a)),(4,.cells [.cb]),(0,carC c.cabins c.secs 2),(2,rowT c.sold),(5,.cells [.ptr 0 0]),(6,.cells (cAsk a))]:=by
      rw [show lentA [0,2,5,6] (7+1) 0 (plL c a)=lentA [0,2,5,6] 8 0 (plL c a) from rfl,bg_lent0];rfl
    rw [eh]
    repeat' (first|(apply nx;with_reducible constructor)|refine jq (by decide) ?_|((first|refine kz env fun Q hQ=>?_|refine kj fun Q hQ=>?_);simp only [vkt,seval,tbD16_b1,xbD16_2,aAsk,cAsk,aBunks,mTk,mCabin,carC,rowT,lent2,plL,bgL,pPlaces,bL3,bestY,bestH,List.length_map,Go.Sym.tabC,cbX,pinB,lentOK,nth,hwL,Nat.zero_add,Nat.sub_zero,Nat.add_zero];(try simp only [ite_and]);(repeat' (first|with_reducible assumption|refine And.intro ?_ ?_|intro hp));all_goals (first|(refine hQ _ ?_;clear hQ Q)|(refine hQ _ (fun h=>?_) (fun h=>?_) <;> clear hQ Q <;> (try simp only [vki,reduceCtorEq] at h))|(refine kx ?_;kernel_rfl)|omega|assumption|with_reducible rfl|skip)))
    (simp only [vrt,Try.results70,vkt,seval,tbD16_b1,xbD16_2,aAsk,cAsk,aBunks,mTk,mCabin,carC,rowT,lent2,plL,bgL,pPlaces,bL3,bestY,bestH,List.length_map,Go.Sym.tabC,cbX,pinB,lentOK,nth,hwL,Nat.zero_add,Nat.sub_zero,Nat.add_zero];refine Fin.ok some [] ?_ ?_ ?_ ?_ ?_ rfl;all_goals (try simp only [vle,vkt,seval,tbD16_b1,xbD16_2,aAsk,cAsk,aBunks,mTk,mCabin,carC,rowT,lent2,plL,bgL,pPlaces,bL3,bestY,bestH,List.length_map,Go.Sym.tabC,cbX,pinB,lentOK,nth,hwL,Nat.zero_add,Nat.sub_zero,Nat.add_zero]))
    all_goals first|rfl|(simp [cAsk,AV.leL,AV.le];done)|exact fun i hi=>(match i,hi with|0,_=>rfl|1,_=>rfl|2,_=>rfl|3,_=>rfl)
end Go.Sym.B
namespace Go.Sym.B
open Go Go.Sym Go.Proofs Go.Sym.C
theorem growP_mem {cs:List Cabin} {a:Ask} {p:Tk→Prop}:∀ (m:Nat) (sold:List Tk) (begun:List Bunk),(∀ t ∈ sold,p t)→(∀ i b,i < begun.length+m→b ∈ bunksL cs→p (tkOf a i b))→∀ x ∈ growP cs a m sold begun,(∀ t ∈ x.2,p t)∧x.2.length=sold.length+m
  |0,sold,begun,h1,_,x,hx=>by
    simp only [growP,List.mem_singleton] at hx
    subst hx
    exact ⟨h1,rfl⟩
  |m+1,sold,begun,h1,h2,x,hx=>by
    rw [growP_succ,List.mem_flatMap] at hx
    obtain ⟨b,hb,hx⟩:=hx
    unfold gbL at hx
    split at hx
    · obtain ⟨g1,g2⟩:=growP_mem m _ _ (fun t ht=>by
        rcases List.mem_append.1 ht with ht|ht
        · exact h1 t ht
        · rw [List.mem_singleton.1 ht];exact h2 _ _ (by omega) hb) (fun i b' hi hb'=>h2 i b' (by simp at hi;omega) hb') x hx
      exact ⟨g1,by rw [g2];simp;omega⟩
    · simp at hx
theorem ask_tk {c:Chart} {a:Ask} (h:bothE c a=0) {i:Nat} (hi:i < a.sexes.length) {b:Bunk} (hb:b ∈ bunksL c.cabins):TkOk c (tkOf a i b):=by
  have hk:=(both_ok h).2
  unfold askE at hk
  split at hk
  · exact absurd hk (by decide)
  rename_i h1
  split at hk
  · exact absurd hk (by decide)
  split at hk
  · exact absurd hk ‹_›
  rename_i h3
  split at hk
  · exact absurd hk ‹_›
  have g1:inB a.party 1 99=true:=by simpa using h1
  obtain ⟨w1,w2,w3⟩:=wayE_ok (Decidable.not_not.1 h3)
  have gs:=firstE_zero hk _ (List.mem_map.2 ⟨a.sexes.getD i 0,gMem hi,rfl⟩)
  have g2:inB (a.sexes.getD i 0) 1 2=true:=by
    cases hq:inB (a.sexes.getD i 0) 1 2 with
    |true=>rfl
    |false=>rw [hq] at gs;exact absurd gs (by decide)
  obtain ⟨x,y,b1,b2,rfl⟩:=bunk_mem.1 hb
  refine ⟨inB_iff.1 g1,inB_iff.1 g2,⟨Int.natCast_nonneg _,by simpa [tkOf] using b1⟩,⟨Int.natCast_nonneg _, ?_⟩,w1,w2,w3⟩
  show (y:Int) < (c.cabins.getD ((x:Int)).toNat default).beds
  rw [Int.toNat_natCast]
  omega
theorem pl_van {c:Chart} {a:Ask} (h:bothE c a=0) {j:Nat} (hj:j < (plP c a).length):Van ⟨c.cabins,c.secs,((plP c a).getD j default).2⟩:=by
  have hv:=val_of (both_ok h).1
  have hs:=(sx_of (both_ok h).2).1
  obtain ⟨g1,g2⟩:=growP_mem (p:=TkOk c) a.sexes.length c.sold [] hv.tk (fun i b hi hb=>ask_tk h (by simpa using hi) hb) _ (gMem (d:=default) hj)
  have hm:=hv.many
  exact ⟨⟨hv.car.cabs,hv.car.beds,hv.car.secs⟩,by show ((plP c a).getD j default).2.length≤100;rw [show ((plP c a).getD j default).2.length=c.sold.length+a.sexes.length from g2];omega,fun t ht=>⟨(g1 t ht).party,(g1 t ht).sex,(g1 t ht).cab,(g1 t ht).bed,(g1 t ht).frm,(g1 t ht).way,(g1 t ht).to⟩⟩
def pBb (S:St):List AV→Option Pk
  |[.ptr q 0]=>match S.h q with
    |some (.cells [.ptr p 0])=>match S.h p with
      |some (.cells [.sl cs,.v (.int .i64 s),.row r])=>match S.h r with
        |some (.row _ _ xs)=>some { pre:=cs=(cs.map dCabin).map eCabin∧xs=(xs.map dTk).map eTk∧Van ⟨cs.map dCabin,s,xs.map dTk⟩,hs:=[p,q,r],ar:=[.ptr 1 0],L0:=bL3 (cs.map dCabin) s (xs.map dTk),v:=aI (restN (cs.map dCabin) s (xs.map dTk)),L1:=(bL3 (cs.map dCabin) s (xs.map dTk)).map some }
        |_=>none
      |_=>none
    |_=>none
  |_=>none
theorem eBb {A:Frm→Prop}:EntryOK A Try.prog 71 (fnE pBb):=fnE_ok fun S bs q h hp=>by
  unfold pBb at h
  split at h
  · split at h
    · split at h
      · split at h
        · cases h;exact bb_fn _ _ _ hp.2.2
        · cases h
      · cases h
    · cases h
  · cases h
def bsK (c:Chart) (a:Ask):Nat→Bool × List Bunk × Int
  |0=>(false,[],0)
  |j+1=>if !(bsK c a j).1 || decide ((bsK c a j).2.2 < restN c.cabins c.secs ((plP c a).getD j default).2) then (true,((plP c a).getD j default).1,restN c.cabins c.secs ((plP c a).getD j default).2) else bsK c a j
end Go.Sym.B
namespace Go.Sym.B
open Go Go.Sym Go.Proofs Go.Sym.C
def beL0:List (Nat × AV):=[(2,.ptr 4 0),(3,.ptr 5 0),(4,.ptr 6 0),(7,.clo 70 [.ptr 1 0,.ptr 3 0])]
def beL:List (Nat × AV):=[(2,.ptr 4 0),(3,.ptr 5 0),(4,.ptr 6 0)]
def beH (c:Chart) (a:Ask) (j:Nat):List (Nat × AObj):=[(4,.cells [.sl ((bsK c a j).2.1.map eBunk)]),(5,.cells [aB (bsK c a j).1]),(6,.cells [aI (bsK c a j).2.2])]
theorem be_lent0 (c:Chart) (a:Ask):lentA [0,1,2,3] 8 0 (bestL c a)=[(0,carC c.cabins c.secs 2),(1,.cells [.ptr 0 0]),(2,rowT c.sold),(3,.cells (cAsk a))]:=by
  simp [lentA,bestL,callRen,AObj.ren,AV.renL,AV.ren,carC,rowT,cAsk]
theorem be_lent (c:Chart) (a:Ask) (j:Nat):lentA [0,1] 8 0 (bestH c a j)=[(0,carC c.cabins c.secs 8),(1,.cells [.ptr 0 0]),(8,rowT ((plP c a).getD j default).2)]:=by
  simp [lentA,bestH,bL3,callRen,AObj.ren,AV.renL,AV.ren,carC,rowT]
def tbD18_best:=kk @ty3 (kk @ty4 (kk @ty37 (kk @ty49 (kk @ty119 (kk @ty121 (kk @ti3.eq_1 (kk @ti4.eq_1 (kk @ti37.eq_1 (kk @ti49.eq_1 (kk @ti119.eq_1 @ti121.eq_1))))))))))
def xbD18_1:=kk @aI.eq_1 (@aB.eq_1)
theorem best_fn {c:Chart} {a:Ask} (h:bothE c a=0):Fn noB Try.prog 69 [.clo 70 [.ptr 1 0,.ptr 3 0]] (hasg (enumA 0 (bestL c a))) (.tup [.sl ((bsK c a (plP c a).length).2.1.map eBunk),aB (bsK c a (plP c a).length).1]) (hasg (enumO 0 ((bestL c a).map some))) 0:=by
  have hok:=plOk_of h
  have env:Env (fun F=>F.r=none) Try.prog tyB (tab []):=mkEnv trivial
  refine Fn.of (A:=fun F=>F.r=none) (n0:=4) (D:=noD) (Fn0 Try.func69 rfl (fun vs w=>by kernel_rfl) (by kernel_rfl)) (by simp) (by simp [AV.ids,AV.idsL]) ?_ (fun _ _ _ h=>h) noD_ok ?_
  · intro i o hi
    have h:=hasg_mem hi
    simp [enumA,bestL] at h
    rcases h with ⟨rfl,rfl⟩|⟨rfl,rfl⟩|⟨rfl,rfl⟩|⟨rfl,rfl⟩ <;> simp [AObj.ids,AV.ids,AV.idsL,carC,rowT,cAsk]
  obtain ⟨N,hN⟩:∃ N,(plP c a).length=N:=⟨_,rfl⟩
  rw [hN]
  show Sym _ _ _ (startS [.clo 70 [.ptr 1 0,.ptr 3 0]] 4 (hasg [(0,carC c.cabins c.secs 2),(1,.cells [.ptr 0 0]),(2,rowT c.sold),(3,.cells (cAsk a))])) (retK tyB noD Try.f69 fun S rv=>Fin S rv _ 4 (hasg [(0,carC c.cabins c.secs 2),(1,.cells [.ptr 0 0]),(2,rowT c.sold),(3,.cells (cAsk a))]) 0)
  repeat' (first|(apply nx;with_reducible constructor)|refine jq (by decide) ?_|((first|refine kz env fun Q hQ=>?_|refine kj fun Q hQ=>?_);simp only [vkt,seval,tbD18_best,xbD18_1,aBunks,mTk,mCabin,carC,rowT,bL3,pBb,beL,List.length_map,nth,hwL,Nat.zero_add,Nat.sub_zero];(try simp only [ite_and]);(repeat' (first|with_reducible assumption|refine And.intro ?_ ?_|intro hp));all_goals (first|(refine hQ _ ?_;clear hQ Q)|(refine hQ _ (fun h=>?_) (fun h=>?_) <;> clear hQ Q <;> (try simp only [vki,reduceCtorEq] at h))|(refine kx ?_;kernel_rfl)|omega|assumption|with_reducible rfl|skip)))
  refine sym_le (S':={ t:=asg beL0,h:=hasg (beH c a 0++[(0,carC c.cabins c.secs 2),(1,.cells [.ptr 0 0]),(2,rowT c.sold),(3,.cells (cAsk a))]),n:=7,j:=0,d:=[],m:=4 }) ?_ ?_
  · show Le _ { t:=asg [(2,.ptr 4 0),(3,.ptr 5 0),(4,.ptr 6 0),(7,.clo 70 [.ptr 1 0,.ptr 3 0])],h:=hasg [(4,.cells [.sl []]),(5,.cells [aB false]),(6,.cells [aI 0]),(0,carC c.cabins c.secs 2),(1,.cells [.ptr 0 0]),(2,rowT c.sold),(3,.cells (cAsk a))],n:=7,j:=0,d:=[],m:=4 }
    (refine Le.ok some [] ?_;constructor;all_goals (try simp only [vle,vkt,seval,tbD18_best,xbD18_1,aBunks,mTk,mCabin,carC,rowT,bL3,pBb,beL,List.length_map,nth,hwL,Nat.zero_add,Nat.sub_zero]))
    all_goals first|rfl|(simp [cAsk,AV.leL,AV.le,AV.idsL,AV.ids];done)
  rw [← be_lent0 c a]
  refine sym_rangeP (fun F h=>h) 2 (L:=beL0) (L':=beL) (xs:=[2,3]) (hs:=[0,1,2,3]) (n:=7) (nl:=1) (hc:=beH c a) (Lp:=bestL c a) (jj:=fun _=>0) (d:=[]) (ys:=bestY c a) (hl:=bestH c a) (ans:=fun _=>true) (ex:=.ret) (caps:=[.ptr 1 0,.ptr 3 0]) (caps0:=[.ptr 1 0,.ptr 3 0]) (N:=(plP c a).length) (R:=N) (A':=fun _ _=>True) rfl (best1_it hok) (by rw [hN];exact all_yes) (.inl rfl) ?_ ?_ ?_ rfl (by simp) ?_ (by simp) (fun _ _ _ _ _ _=>trivial) ?_ ?_ ?_ ?_ ?_ ?_ (fun j hj=>?_) ?_ (fun j hj=>?_) (fun _=>?_) (fun _ h=>by cases h)
  · simp [AV.leL,AV.le]
  · simp [AV.nocbL,AV.nocb]
  · simp [lentP,bestL,carC,rowT,cAsk,AObj.nocb,AV.nocbL,AV.nocb,AObj.ids,AV.ids,AV.idsL,AObj.ren,AV.renL,AV.ren,AObj.le,AV.leL,AV.le,callRen]
  · simp [beH,hasg]
  · simp [beH,hasg]
  · simp [beH,AObj.ids,AV.ids,AV.idsL,aB,aI]
  · simp [subL,beL,beL0,asg,upd]
  · simp [xsOK]
  · intro j hj
    simp [absent,beH,be_lent]
  · simp [idsT,beL,AV.ids]
  · refine ⟨?_,rfl, ?_, ?_,rfl, ?_⟩
    · simp [idsH,beH,AObj.ids,AV.ids,AV.idsL,aB,aI]
    · simp [lentQ,bestH,bL3,carC,rowT,AObj.nocb,AV.nocbL,AV.nocb,AObj.ids,AV.ids,AV.idsL]
    · simp [argQ,bestY,aBunks,AV.nocb,AV.nocbL,AV.ids,AV.idsL]
    · simp [keysIn,keyIn,be_lent,beH,beL,idsTL,AV.ids,ADf.ids,List.range_succ]
  · simp [idsH,beH,AObj.ids,AV.ids,AV.idsL,aB,aI]
  · have env:Env (fun _:Frm=>True) Try.prog tyB (tab [(71,fnE pBb)]):=mkEnv ⟨eBb,trivial⟩
    have hvan:=pl_van h (j:=j) (by omega)
    have hS:bsK c a (j+1)=if !(bsK c a j).1 || decide ((bsK c a j).2.2 < restN c.cabins c.secs ((plP c a).getD j default).2) then (true,((plP c a).getD j default).1,restN c.cabins c.secs ((plP c a).getD j default).2) else bsK c a j:=rfl
    obtain ⟨⟨x,r⟩,hx⟩:∃ x,(plP c a).getD j default=x:=⟨_,rfl⟩
    obtain ⟨⟨f,p,v⟩,hK⟩:∃ x,bsK c a j=x:=⟨_,rfl⟩
    simp only [hx,hK] at hS hvan
    obtain ⟨w,hw⟩:∃ w,restN c.cabins c.secs r=w:=⟨_,rfl⟩
    rw [hw] at hS
    have hst:rStart beL [8] [0,1] 7 1 (bestY c a j) (beH c a j) (bestH c a j)={ t:=asg [(8,.agg [aBunks x,.clo 71 [.ptr 1 0]]),(2,.ptr 4 0),(3,.ptr 5 0),(4,.ptr 6 0)],h:=hasg [(7,.mark),(4,.cells [.sl (p.map eBunk)]),(5,.cells [aB f]),(6,.cells [aI v]),(0,carC c.cabins c.secs 8),(1,.cells [.ptr 0 0]),(8,rowT r)],n:=9,m:=9 }:=by
      simp only [rStart,Nat.reduceAdd,be_lent,bestY,hx,hK,aBunks,List.map_cons,List.map_nil,AV.ren,AV.renL,List.zip_cons_cons,List.zip_nil_right,beH,beL,putsL,List.cons_append,List.nil_append]
      rfl
    show Sym _ _ _ (rStart beL [8] [0,1] 7 1 (bestY c a j) (beH c a j) (bestH c a j)) _
    rw [hst]
    cases f with
    |false =>
      simp only [Bool.not_false,Bool.true_or,if_true] at hS
      repeat' (first|(apply nx;with_reducible constructor)|refine jq (by decide) ?_|((first|refine kz env fun Q hQ=>?_|refine kj fun Q hQ=>?_);simp only [vkt,seval,tbD18_best,xbD18_1,aBunks,mTk,mCabin,carC,rowT,bL3,pBb,beL,List.length_map,nth,hwL,Nat.zero_add,Nat.sub_zero,hvan,hw];(try simp only [ite_and]);(repeat' (first|with_reducible assumption|refine And.intro ?_ ?_|intro hp));all_goals (first|(refine hQ _ ?_;clear hQ Q)|(refine hQ _ (fun h=>?_) (fun h=>?_) <;> clear hQ Q <;> (try simp only [vki,reduceCtorEq] at h))|(refine kx ?_;kernel_rfl)|omega|assumption|with_reducible rfl|skip)))
      all_goals (refine ⟨rfl,rfl,some,_,RFin.okQ some [] ?_⟩;constructor)
      all_goals (try simp only [vle,lentR,rensL,callRen,bestH,beH,hx,hS,vkt,seval,tbD18_best,xbD18_1,aBunks,mTk,mCabin,carC,rowT,bL3,pBb,beL,List.length_map,nth,hwL,Nat.zero_add,Nat.sub_zero])
      all_goals first|rfl|(simp;done)|(simp [beL,idsTL,AV.ids,ADf.ids,List.range_succ];done)
    |true =>
      cases hd:decide (v < w) with
      |true =>
        simp only [hd,Bool.not_true,Bool.false_or,if_true] at hS
        repeat' (first|(apply nx;with_reducible constructor)|refine jq (by decide) ?_|((first|refine kz env fun Q hQ=>?_|refine kj fun Q hQ=>?_);simp only [vkt,seval,tbD18_best,xbD18_1,aBunks,mTk,mCabin,carC,rowT,bL3,pBb,beL,List.length_map,nth,hwL,Nat.zero_add,Nat.sub_zero,hvan,hw,hd];(try simp only [ite_and]);(repeat' (first|with_reducible assumption|refine And.intro ?_ ?_|intro hp));all_goals (first|(refine hQ _ ?_;clear hQ Q)|(refine hQ _ (fun h=>?_) (fun h=>?_) <;> clear hQ Q <;> (try simp only [vki,reduceCtorEq] at h))|(refine kx ?_;kernel_rfl)|omega|assumption|with_reducible rfl|skip)))
        all_goals (refine ⟨rfl,rfl,some,_,RFin.okQ some [] ?_⟩;constructor)
        all_goals (try simp only [vle,lentR,rensL,callRen,bestH,beH,hx,hS,vkt,seval,tbD18_best,xbD18_1,aBunks,mTk,mCabin,carC,rowT,bL3,pBb,beL,List.length_map,nth,hwL,Nat.zero_add,Nat.sub_zero])
        all_goals first|rfl|(simp;done)|(simp [beL,idsTL,AV.ids,ADf.ids,List.range_succ];done)
      |false =>
        simp only [hd,Bool.not_true,Bool.false_or,Bool.false_eq_true,if_false] at hS
        repeat' (first|(apply nx;with_reducible constructor)|refine jq (by decide) ?_|((first|refine kz env fun Q hQ=>?_|refine kj fun Q hQ=>?_);simp only [vkt,seval,tbD18_best,xbD18_1,aBunks,mTk,mCabin,carC,rowT,bL3,pBb,beL,List.length_map,nth,hwL,Nat.zero_add,Nat.sub_zero,hvan,hw,hd];(try simp only [ite_and]);(repeat' (first|with_reducible assumption|refine And.intro ?_ ?_|intro hp));all_goals (first|(refine hQ _ ?_;clear hQ Q)|(refine hQ _ (fun h=>?_) (fun h=>?_) <;> clear hQ Q <;> (try simp only [vki,reduceCtorEq] at h))|(refine kx ?_;kernel_rfl)|omega|assumption|with_reducible rfl|skip)))
        all_goals (refine ⟨rfl,rfl,some,_,RFin.okQ some [] ?_⟩;constructor)
        all_goals (try simp only [vle,lentR,rensL,callRen,bestH,beH,hx,hS,vkt,seval,tbD18_best,xbD18_1,aBunks,mTk,mCabin,carC,rowT,bL3,pBb,beL,List.length_map,nth,hwL,Nat.zero_add,Nat.sub_zero])
        all_goals first|rfl|(simp;done)|(simp [beL,idsTL,AV.ids,ADf.ids,List.range_succ];done)
  · have eh:hasg ((7,AObj.mark) :: beH c a N++lentA [0,1,2,3] (7+1) 0 (bestL c a))=hasg [(7,.mark),(4,.cells [.sl ((bsK c a N).2.1.map eBunk)]),(5,.cells [aB (bsK c a N).1]),(6,.cells [aI (bsK c a N).2.2]),(0,carC c.cabins c.secs 2),(1,.cells [.ptr 0 0]),(2,rowT c.sold),(3,.cells (cAsk a))]:=by
      rw [show lentA [0,1,2,3] (7+1) 0 (bestL c a)=lentA [0,1,2,3] 8 0 (bestL c a) from rfl,be_lent0];rfl
    rw [eh,be_lent0 c a]
    repeat' (first|(apply nx;with_reducible constructor)|refine jq (by decide) ?_|((first|refine kz env fun Q hQ=>?_|refine kj fun Q hQ=>?_);simp only [vkt,seval,tbD18_best,xbD18_1,aBunks,mTk,mCabin,carC,rowT,bL3,pBb,beL,List.length_map,nth,hwL,Nat.zero_add,Nat.sub_zero];(try simp only [ite_and]);(repeat' (first|with_reducible assumption|refine And.intro ?_ ?_|intro hp));all_goals (first|(refine hQ _ ?_;clear hQ Q)|(refine hQ _ (fun h=>?_) (fun h=>?_) <;> clear hQ Q <;> (try simp only [vki,reduceCtorEq] at h))|(refine kx ?_;kernel_rfl)|omega|assumption|with_reducible rfl|skip)))
    (simp only [vrt,Try.results69,vkt,seval,tbD18_best,xbD18_1,aBunks,mTk,mCabin,carC,rowT,bL3,pBb,beL,List.length_map,nth,hwL,Nat.zero_add,Nat.sub_zero];refine Fin.ok some [] ?_ ?_ ?_ ?_ ?_ rfl;all_goals (try simp only [vle,vkt,seval,tbD18_best,xbD18_1,aBunks,mTk,mCabin,carC,rowT,bL3,pBb,beL,List.length_map,nth,hwL,Nat.zero_add,Nat.sub_zero]))
    all_goals first|rfl|(simp [cAsk,AV.leL,AV.le];done)|exact fun i hi=>(match i,hi with|0,_=>rfl|1,_=>rfl|2,_=>rfl|3,_=>rfl)
end Go.Sym.B
namespace Go.Sym.B
open Go Go.Sym Go.Proofs Go.Sym.C
def pBest (c:Chart) (a:Ask) (S:St):List AV→Option Pk
  |[.clo f [.ptr q 0,.ptr p3 0]]=>match S.h q with
    |some (.cells [.ptr p 0])=>match S.h p with
      |some (.cells [_,_,.row r])=>some { pre:=f=70∧bothE c a=0,hs:=[p,q,r,p3],ar:=[.clo 70 [.ptr 1 0,.ptr 3 0]],L0:=bestL c a,v:=.tup [.sl ((bsK c a (plP c a).length).2.1.map eBunk),aB (bsK c a (plP c a).length).1],L1:=(bestL c a).map some }
      |_=>none
    |_=>none
  |_=>none
theorem eBest {A:Frm→Prop} {c:Chart} {a:Ask}:EntryOK A Try.prog 69 (fnE (pBest c a)):=fnE_ok fun S bs q h hp=>by
  unfold pBest at h
  split at h
  · split at h
    · split at h
      · cases h;exact best_fn hp.2
      · cases h
    · cases h
  · cases h
def bestA (c:Chart) (a:Ask):List Bunk × Int:=if bothE c a=0 then (if (bsK c a (plP c a).length).1 then ((bsK c a (plP c a).length).2.1,0) else ([],11)) else ([],bothE c a)
def tbD19_Best:=kk @ty28 (kk @ty31 (kk @ty34 (kk @ty106 (kk @ti28.eq_1 (kk @ti31.eq_1 (kk @ti34.eq_1 @ti106.eq_1))))))
def xbD19_1:=kk @aI.eq_1 (kk @aB.eq_1 (@mInt))
theorem Best_fn (c:Chart) (a:Ask) (hc:c.cabins.length≤maxLen) (ha:a.sexes.length≤maxLen):FnV Try.prog 19 [aChart c,aAsk a] (.tup [.sl ((bestA c a).1.map eBunk),aI (bestA c a).2]):=by
  have env:Env (fun _=>True) Try.prog tyB (tab [(66,fnE pAsked),(69,fnE (pBest c a))]):=mkEnv ⟨eAsked,eBest,trivial⟩
  refine Fn.of (A:=fun _=>True) (n0:=0) (D:=noD) (Fn0 Try.func19 rfl (fun vs w=>by kernel_rfl) (by kernel_rfl)) (by simp) (by simp [AV.ids,AV.idsL,aChart,cChart,aAsk,cAsk]) (fun i o h=>by cases h) (fun _ _ _ _=>trivial) noD_ok ?_
  have ec:(⟨c.cabins,c.secs,c.sold⟩:Chart)=c:=rfl
  have ea:(⟨a.party,a.frm,a.to,a.sexes,a.dog⟩:Ask)=a:=rfl
  by_cases h0:bothE c a=0
  · obtain ⟨⟨f,p,v⟩,hK⟩:∃ x,bsK c a (plP c a).length=x:=⟨_,rfl⟩
    cases f with
    |true =>
      rw [show bestA c a=(p,0) by unfold bestA;rw [if_pos h0,hK];rfl]
      repeat' (first|(apply nx;with_reducible constructor)|refine jq (by decide) ?_|((first|refine kz env fun Q hQ=>?_|refine kj fun Q hQ=>?_);simp only [vkt,seval,tbD19_Best,xbD19_1,aChart,cChart,aAsk,cAsk,mTk,mCabin,carC,rowT,lent2,bestL,pAsked,pBest,List.length_map,ec,ea,h0,hK];(try simp only [ite_and]);(repeat' (first|with_reducible assumption|refine And.intro ?_ ?_|intro hp));all_goals (first|(refine hQ _ ?_;clear hQ Q)|(refine hQ _ (fun h=>?_) (fun h=>?_) <;> clear hQ Q <;> (try simp only [vki,reduceCtorEq] at h))|(refine kx ?_;kernel_rfl)|omega|assumption|with_reducible rfl|skip)))
      (simp only [vrt,Try.results19,vkt,seval,tbD19_Best,xbD19_1,aChart,cChart,aAsk,cAsk,mTk,mCabin,carC,rowT,lent2,bestL,pAsked,pBest,List.length_map];refine Fin.val rfl ?_;(try simp only [AV.le,AV.leL]))
      all_goals first|rfl|(simp;done)
    |false =>
      rw [show bestA c a=([],11) by unfold bestA;rw [if_pos h0,hK];rfl]
      repeat' (first|(apply nx;with_reducible constructor)|refine jq (by decide) ?_|((first|refine kz env fun Q hQ=>?_|refine kj fun Q hQ=>?_);simp only [vkt,seval,tbD19_Best,xbD19_1,aChart,cChart,aAsk,cAsk,mTk,mCabin,carC,rowT,lent2,bestL,pAsked,pBest,List.length_map,ec,ea,h0,hK];(try simp only [ite_and]);(repeat' (first|with_reducible assumption|refine And.intro ?_ ?_|intro hp));all_goals (first|(refine hQ _ ?_;clear hQ Q)|(refine hQ _ (fun h=>?_) (fun h=>?_) <;> clear hQ Q <;> (try simp only [vki,reduceCtorEq] at h))|(refine kx ?_;kernel_rfl)|omega|assumption|with_reducible rfl|skip)))
      (simp only [vrt,Try.results19,vkt,seval,tbD19_Best,xbD19_1,aChart,cChart,aAsk,cAsk,mTk,mCabin,carC,rowT,lent2,bestL,pAsked,pBest,List.length_map];refine Fin.val rfl ?_;(try simp only [AV.le,AV.leL]))
      all_goals first|rfl|(simp;done)
  · rw [show bestA c a=([],bothE c a) by unfold bestA;rw [if_neg h0]]
    repeat' (first|(apply nx;with_reducible constructor)|refine jq (by decide) ?_|((first|refine kz env fun Q hQ=>?_|refine kj fun Q hQ=>?_);simp only [vkt,seval,tbD19_Best,xbD19_1,aChart,cChart,aAsk,cAsk,mTk,mCabin,carC,rowT,lent2,bestL,pAsked,pBest,List.length_map,ec,ea,h0];(try simp only [ite_and]);(repeat' (first|with_reducible assumption|refine And.intro ?_ ?_|intro hp));all_goals (first|(refine hQ _ ?_;clear hQ Q)|(refine hQ _ (fun h=>?_) (fun h=>?_) <;> clear hQ Q <;> (try simp only [vki,reduceCtorEq] at h))|(refine kx ?_;kernel_rfl)|omega|assumption|with_reducible rfl|skip)))
    (simp only [vrt,Try.results19,vkt,seval,tbD19_Best,xbD19_1,aChart,cChart,aAsk,cAsk,mTk,mCabin,carC,rowT,lent2,bestL,pAsked,pBest,List.length_map];refine Fin.val rfl ?_;(try simp only [AV.le,AV.leL]))
    all_goals first|rfl|(simp;done)
end Go.Sym.B
namespace Go.Sym.B
open Go Go.Sym Go.Proofs Go.Sym.C
def tbD20_bunk:=kk @ty49 @ti49.eq_1
def xbD20_1:=kk @aI.eq_1 (@aB.eq_1)
theorem bunk_fn (a b:Int):FnV Try.prog 28 [aI a,aI b] (aBunk ⟨a,b⟩):=by
  have env:Env (fun _=>True) Try.prog tyB (tab []):=mkEnv trivial
  refine Fn.of (A:=fun _=>True) (n0:=0) (D:=noD) (Fn0 Try.func28 rfl (fun vs w=>by kernel_rfl) (by kernel_rfl)) (by simp) (by simp [AV.ids,aI]) (fun i o h=>by cases h) (fun _ _ _ _=>trivial) noD_ok ?_
  repeat' (first|(apply nx;with_reducible constructor)|refine jq (by decide) ?_|((first|refine kz env fun Q hQ=>?_|refine kj fun Q hQ=>?_);simp only [vkt,seval,tbD20_bunk,xbD20_1,aBunk];(try simp only [ite_and]);(repeat' (first|with_reducible assumption|refine And.intro ?_ ?_|intro hp));all_goals (first|(refine hQ _ ?_;clear hQ Q)|(refine hQ _ (fun h=>?_) (fun h=>?_) <;> clear hQ Q <;> (try simp only [vki,reduceCtorEq] at h))|(refine kx ?_;kernel_rfl)|omega|assumption|with_reducible rfl|skip)))
  (simp only [vrt,Try.results28,vkt,seval,tbD20_bunk,xbD20_1,aBunk];refine Fin.val rfl ?_;(try simp only [AV.le,AV.leL]))
  all_goals first|rfl|(simp;done)
def sbunk:List AV→Prop × AV
  |[.v (.int .i64 a),.v (.int .i64 b)]=>(True,aBunk ⟨a,b⟩)
  |_=>(False,.junk)
theorem ebunk {A:Frm→Prop}:EntryOK A Try.prog 28 (valE false sbunk):=valE_ok fun vs hv h=>by
  clear hv
  unfold sbunk at h ⊢
  split at h
  · rename_i a b;clear h
    refine ⟨by first|trivial|(simp [AV.plain,AV.plainL,aI,aB,aInts,aBunks,aTks,aBunk,aTk,cTk];done)|(repeat' split) <;> simp [AV.plain,AV.plainL,aI,aB,aInts,aBunks,aTks,aBunk,aTk,cTk],fun h=>absurd h (by decide), ?_⟩
    have:=bunk_fn a b
    simp only [aI] at this
    first|exact this|(simp only [aI];exact this)
  · exact h.elim
def tbD20_sold:=kk @ty81 @ti81.eq_1
def xbD20_2:=kk @aI.eq_1 (@aB.eq_1)
theorem sold_fn (p x c b f t:Int):FnV Try.prog 117 [aI p,aI x,aI c,aI b,aI f,aI t] (aTk ⟨p,x,c,b,f,t,false⟩):=by
  have env:Env (fun _=>True) Try.prog tyB (tab [(28,valE false sbunk)]):=mkEnv ⟨ebunk,trivial⟩
  refine Fn.of (A:=fun _=>True) (n0:=0) (D:=noD) (Fn0 Try.func117 rfl (fun vs w=>by kernel_rfl) (by kernel_rfl)) (by simp) (by simp [AV.ids,aI]) (fun i o h=>by cases h) (fun _ _ _ _=>trivial) noD_ok ?_
  repeat' (first|(apply nx;with_reducible constructor)|refine jq (by decide) ?_|((first|refine kz env fun Q hQ=>?_|refine kj fun Q hQ=>?_);simp only [vkt,seval,tbD20_sold,xbD20_2,aBunk,aTk,cTk,sbunk];(try simp only [ite_and]);(repeat' (first|with_reducible assumption|refine And.intro ?_ ?_|intro hp));all_goals (first|(refine hQ _ ?_;clear hQ Q)|(refine hQ _ (fun h=>?_) (fun h=>?_) <;> clear hQ Q <;> (try simp only [vki,reduceCtorEq] at h))|(refine kx ?_;kernel_rfl)|omega|assumption|with_reducible rfl|skip)))
  (simp only [vrt,Try.results117,vkt,seval,tbD20_sold,xbD20_2,aBunk,aTk,cTk,sbunk];refine Fin.val rfl ?_;(try simp only [AV.le,AV.leL]))
  all_goals first|rfl|(simp;done)
def ssold:List AV→Prop × AV
  |[.v (.int .i64 p),.v (.int .i64 x),.v (.int .i64 c),.v (.int .i64 b),.v (.int .i64 f),.v (.int .i64 t)]=>(True,aTk ⟨p,x,c,b,f,t,false⟩)
  |_=>(False,.junk)
theorem esold {A:Frm→Prop}:EntryOK A Try.prog 117 (valE false ssold):=valE_ok fun vs hv h=>by
  clear hv
  unfold ssold at h ⊢
  split at h
  · rename_i p x c b f t;clear h
    refine ⟨by first|trivial|(simp [AV.plain,AV.plainL,aI,aB,aInts,aBunks,aTks,aBunk,aTk,cTk];done)|(repeat' split) <;> simp [AV.plain,AV.plainL,aI,aB,aInts,aBunks,aTks,aBunk,aTk,cTk],fun h=>absurd h (by decide), ?_⟩
    have:=sold_fn p x c b f t
    simp only [aI] at this
    first|exact this|(simp only [aI];exact this)
  · exact h.elim
end Go.Sym.B
namespace Go.Sym.B
open Go Go.Sym Go.Proofs Go.Sym.C
theorem list_ext {α:Type} [Inhabited α] {l m:List α} (h0:l.length=m.length) (h:∀ j,j < l.length→l.getD j default=m.getD j default):l=m:=by
  apply List.ext_getElem h0
  intro j h1 h2
  have:=h j h1
  simpa [List.getD_eq_getElem?_getD,h1,h2] using this
def eqS (l m:List Bunk) (k:Nat):St:={ t:=asg [(0,aBunks l),(1,aBunks m),(4,aB false),(5,aI k)],h:=hasg [],n:=0 }
def tbD21_eqB:=kk @ty3 (kk @ty37 (kk @ty49 (kk @ti3.eq_1 (kk @ti37.eq_1 @ti49.eq_1))))
def xbD21_1:=kk @aI.eq_1 (@aB.eq_1)
theorem eqB_fn (l m:List Bunk) (hl:l.length≤1000) (hm:m.length≤1000):FnV Try.prog 24 [aBunks l,aBunks m] (aB (decide (l=m))):=by
  have env:Env (fun _=>True) Try.prog tyB (tab []):=mkEnv trivial
  refine Fn.of (A:=fun _=>True) (n0:=0) (D:=noD) (Fn0 Try.func24 rfl (fun vs w=>by kernel_rfl) (by kernel_rfl)) (by simp) (by simp [AV.ids,aBunks]) (fun i o h=>by cases h) (fun _ _ _ _=>trivial) noD_ok ?_
  by_cases h0:l.length=m.length
  · have d0:decide ((l.length:Int)=(m.length:Int))=true:=decide_eq_true (by omega)
    repeat' (first|(apply nx;with_reducible constructor)|refine jq (by decide) ?_|((first|refine kz env fun Q hQ=>?_|refine kj fun Q hQ=>?_);simp only [vkt,seval,tbD21_eqB,xbD21_1,aBunks,eBunk,gBunk,eqS,Bool.true_and,Bool.false_and,d0];(try simp only [ite_and]);(repeat' (first|with_reducible assumption|refine And.intro ?_ ?_|intro hp));all_goals (first|(refine hQ _ ?_;clear hQ Q)|(refine hQ _ (fun h=>?_) (fun h=>?_) <;> clear hQ Q <;> (try simp only [vki,reduceCtorEq] at h))|(refine kx ?_;kernel_rfl)|omega|assumption|with_reducible rfl|skip)))
    refine sym_loop (fun k:{ k:Nat // k≤l.length∧∀ j,j < k→l.getD j default=m.getD j default }=>eqS l m k.1) (fun k=>l.length - k.1) ⟨0,Nat.zero_le _,fun j h=>absurd h (Nat.not_lt_zero _)⟩ ?_ fun ⟨k,hk,hno⟩=>?_
    · (refine Le.ok some [] ?_;constructor;all_goals (try simp only [vle,vkt,seval,tbD21_eqB,xbD21_1,aBunks,eBunk,gBunk,eqS,Bool.true_and,Bool.false_and]))
      all_goals first|rfl|(simp;done)
    · repeat' (first|(apply nx;with_reducible constructor)|refine jq (by decide) ?_)
      (refine kz env fun Q hQ=>?_;simp only [vkt,seval,tbD21_eqB,xbD21_1,aBunks,eBunk,gBunk,eqS,Bool.true_and,Bool.false_and];(try simp only [ite_and]);(repeat' (first|with_reducible assumption|refine And.intro ?_ ?_|intro hp));all_goals (first|(refine hQ _ ?_;clear hQ Q)|(refine kx ?_;kernel_rfl)|omega|assumption|with_reducible rfl|skip))
      repeat' (first|(apply nx;with_reducible constructor)|refine jq (by decide) ?_)
      (refine sym_cd (by simp only [vkt,seval,tbD21_eqB,xbD21_1,aBunks,eBunk,gBunk,eqS,Bool.true_and,Bool.false_and];rfl) (fun h=>?_) (fun h=>?_) <;> (try simp only [vki,reduceCtorEq] at h))
      · have hlt:k < l.length:=by omega
        have hlm:k < m.length:=by omega
        have e9:IntKind.wrap .i64 ((k:Int)+1)=((k+1:Nat):Int):=by rw [wrap64 (by omega) (by omega)];rfl
        obtain ⟨x,hx⟩:∃ x,l.getD k default=x:=⟨_,rfl⟩
        obtain ⟨y,hy⟩:∃ x,m.getD k default=x:=⟨_,rfl⟩
        have hxy:(x=y)=(x.cab=y.cab∧x.bed=y.bed):=by cases x;cases y;simp
        have hne:¬ x=y→decide (l=m)=false:=fun h=>decide_eq_false fun e=>h (by rw [← hx,← hy,e])
        cases q1:decide (x.cab=y.cab)
        · rw [hne (by rw [hxy];exact fun h=>of_decide_eq_false q1 h.1)]
          repeat' (first|(apply nx;with_reducible constructor)|refine jq (by decide) ?_|((first|refine kz env fun Q hQ=>?_|refine kj fun Q hQ=>?_);simp only [vkt,seval,tbD21_eqB,xbD21_1,aBunks,eBunk,gBunk,eqS,Bool.true_and,Bool.false_and,hx,hy,q1,hlm,e9];(try simp only [ite_and]);(repeat' (first|with_reducible assumption|refine And.intro ?_ ?_|intro hp));all_goals (first|(refine hQ _ ?_;clear hQ Q)|(refine hQ _ (fun h=>?_) (fun h=>?_) <;> clear hQ Q <;> (try simp only [vki,reduceCtorEq] at h))|(refine kx ?_;kernel_rfl)|omega|assumption|with_reducible rfl|skip)))
          (simp only [vrt,Try.results24,vkt,seval,tbD21_eqB,xbD21_1,aBunks,eBunk,gBunk,eqS,Bool.true_and,Bool.false_and];refine Fin.val rfl ?_;(try simp only [AV.le,AV.leL]))
          all_goals first|rfl|(simp;done)
        · cases q2:decide (x.bed=y.bed)
          · rw [hne (by rw [hxy];exact fun h=>of_decide_eq_false q2 h.2)]
            repeat' (first|(apply nx;with_reducible constructor)|refine jq (by decide) ?_|((first|refine kz env fun Q hQ=>?_|refine kj fun Q hQ=>?_);simp only [vkt,seval,tbD21_eqB,xbD21_1,aBunks,eBunk,gBunk,eqS,Bool.true_and,Bool.false_and,hx,hy,q1,q2,hlm,e9];(try simp only [ite_and]);(repeat' (first|with_reducible assumption|refine And.intro ?_ ?_|intro hp));all_goals (first|(refine hQ _ ?_;clear hQ Q)|(refine hQ _ (fun h=>?_) (fun h=>?_) <;> clear hQ Q <;> (try simp only [vki,reduceCtorEq] at h))|(refine kx ?_;kernel_rfl)|omega|assumption|with_reducible rfl|skip)))
            (simp only [vrt,Try.results24,vkt,seval,tbD21_eqB,xbD21_1,aBunks,eBunk,gBunk,eqS,Bool.true_and,Bool.false_and];refine Fin.val rfl ?_;(try simp only [AV.le,AV.leL]))
            all_goals first|rfl|(simp;done)
          · have he:x=y:=by rw [hxy];exact ⟨of_decide_eq_true q1,of_decide_eq_true q2⟩
            repeat' (first|(apply nx;with_reducible constructor)|refine jq (by decide) ?_|((first|refine kz env fun Q hQ=>?_|refine kj fun Q hQ=>?_);simp only [vkt,seval,tbD21_eqB,xbD21_1,aBunks,eBunk,gBunk,eqS,Bool.true_and,Bool.false_and,hx,hy,q1,q2,hlm,e9];(try simp only [ite_and]);(repeat' (first|with_reducible assumption|refine And.intro ?_ ?_|intro hp));all_goals (first|(refine hQ _ ?_;clear hQ Q)|(refine hQ _ (fun h=>?_) (fun h=>?_) <;> clear hQ Q <;> (try simp only [vki,reduceCtorEq] at h))|(refine kx ?_;kernel_rfl)|omega|assumption|with_reducible rfl|skip)))
            refine ⟨⟨k+1,hlt,fun j hj=>?_⟩,by show l.length - (k+1) < l.length - k;omega, ?_⟩
            · rcases Nat.lt_or_eq_of_le (Nat.le_of_lt_succ hj) with h1|h1
              · exact hno j h1
              · rw [h1,hx,hy];exact he
            · (refine Le.ok some [] ?_;constructor;all_goals (try simp only [vle,vkt,seval,tbD21_eqB,xbD21_1,aBunks,eBunk,gBunk,eqS,Bool.true_and,Bool.false_and]))
              all_goals first|rfl|(simp;done)
      · have hke:k=l.length:=by omega
        subst hke
        rw [decide_eq_true (list_ext h0 hno)]
        repeat' (first|(apply nx;with_reducible constructor)|refine jq (by decide) ?_|((first|refine kz env fun Q hQ=>?_|refine kj fun Q hQ=>?_);simp only [vkt,seval,tbD21_eqB,xbD21_1,aBunks,eBunk,gBunk,eqS,Bool.true_and,Bool.false_and];(try simp only [ite_and]);(repeat' (first|with_reducible assumption|refine And.intro ?_ ?_|intro hp));all_goals (first|(refine hQ _ ?_;clear hQ Q)|(refine hQ _ (fun h=>?_) (fun h=>?_) <;> clear hQ Q <;> (try simp only [vki,reduceCtorEq] at h))|(refine kx ?_;kernel_rfl)|omega|assumption|with_reducible rfl|skip)))
        (simp only [vrt,Try.results24,vkt,seval,tbD21_eqB,xbD21_1,aBunks,eBunk,gBunk,eqS,Bool.true_and,Bool.false_and];refine Fin.val rfl ?_;(try simp only [AV.le,AV.leL]))
        all_goals first|rfl|(simp;done)
  · have d0:decide ((l.length:Int)=(m.length:Int))=false:=decide_eq_false (by omega)
    rw [decide_eq_false (fun e=>h0 (by rw [e]))]
    repeat' (first|(apply nx;with_reducible constructor)|refine jq (by decide) ?_|((first|refine kz env fun Q hQ=>?_|refine kj fun Q hQ=>?_);simp only [vkt,seval,tbD21_eqB,xbD21_1,aBunks,eBunk,gBunk,eqS,Bool.true_and,Bool.false_and,d0];(try simp only [ite_and]);(repeat' (first|with_reducible assumption|refine And.intro ?_ ?_|intro hp));all_goals (first|(refine hQ _ ?_;clear hQ Q)|(refine hQ _ (fun h=>?_) (fun h=>?_) <;> clear hQ Q <;> (try simp only [vki,reduceCtorEq] at h))|(refine kx ?_;kernel_rfl)|omega|assumption|with_reducible rfl|skip)))
    (simp only [vrt,Try.results24,vkt,seval,tbD21_eqB,xbD21_1,aBunks,eBunk,gBunk,eqS,Bool.true_and,Bool.false_and];refine Fin.val rfl ?_;(try simp only [AV.le,AV.leL]))
    all_goals first|rfl|(simp;done)
def seqB:List AV→Prop × AV
  |[.sl l,.sl m]=>(l=(l.map dBunk).map eBunk∧m=(m.map dBunk).map eBunk∧(l.map dBunk).length≤1000∧(m.map dBunk).length≤1000,aB (decide ((l.map dBunk)=(m.map dBunk))))
  |_=>(False,.junk)
theorem eeqB {A:Frm→Prop}:EntryOK A Try.prog 24 (valE true seqB):=valE_ok fun vs hv h=>by
  clear hv
  unfold seqB at h ⊢
  split at h
  · rename_i l m;obtain ⟨q0,q1,k0,k1⟩:=h
    refine ⟨by first|trivial|(simp [AV.plain,AV.plainL,aI,aB,aInts,aBunks,aTks,aBunk,aTk,cTk];done)|(repeat' split) <;> simp [AV.plain,AV.plainL,aI,aB,aInts,aBunks,aTks,aBunk,aTk,cTk],fun _=>(by simp [AV.flat,AV.flatL,aI,aB]), ?_⟩
    have:=eqB_fn (l.map dBunk) (m.map dBunk) k0 k1
    simp only [aBunks,← q0,← q1] at this
    first|exact this|(simp only [aBunks,← q0,← q1];exact this)
  · exact h.elim
end Go.Sym.B
namespace Go.Sym.B
open Go Go.Sym Go.Proofs Go.Sym.C
def sampleC (more:List Tk):Chart:=⟨[⟨2,true⟩,⟨2,false⟩,⟨1,false⟩],4,⟨1,1,0,0,0,2,false⟩ :: ⟨2,2,1,0,1,4,false⟩ :: more⟩
def tbD22_chart:=kk @ty25 (kk @ty26 (kk @ty28 (kk @ty51 (kk @ty81 (kk @ti25.eq_1 (kk @ti26.eq_1 (kk @ti28.eq_1 (kk @ti51.eq_1 @ti81.eq_1))))))))
def xbD22_1:=kk @aI.eq_1 (@aB.eq_1)
theorem chart_fn (more:List Tk) (hm:more.length≤100):FnV Try.prog 77 [aTks more] (aChart (sampleC more)):=by
  have env:Env (fun _=>True) Try.prog tyB (tab [(117,valE false ssold)]):=mkEnv ⟨esold,trivial⟩
  refine Fn.of (A:=fun _=>True) (n0:=0) (D:=noD) (Fn0 Try.func77 rfl (fun vs w=>by kernel_rfl) (by kernel_rfl)) (by simp) (by simp [AV.ids,aTks]) (fun i o h=>by cases h) (fun _ _ _ _=>trivial) noD_ok ?_
  have hx:(100:Nat)+2≤maxLen:=by decide
  have h1:more.length+2≤maxLen:=by omega
  have h2:2+more.length≤maxLen:=by omega
  show Sym _ _ _ (startS [aTks more] 0 noH) (retK tyB noD Try.f77 fun S rv=>Fin S rv _ 0 (hasg []) 0)
  repeat' (first|(apply nx;with_reducible constructor)|refine jq (by decide) ?_|((first|refine kz env fun Q hQ=>?_|refine kj fun Q hQ=>?_);simp only [vkt,seval,tbD22_chart,xbD22_1,aTk,cTk,aTks,eTk,rTk,mTk,ssold,sampleC,aChart,cChart,eCabin,List.length_map,hm,h1,h2];(try simp only [ite_and]);(repeat' (first|with_reducible assumption|refine And.intro ?_ ?_|intro hp));all_goals (first|(refine hQ _ ?_;clear hQ Q)|(refine hQ _ (fun h=>?_) (fun h=>?_) <;> clear hQ Q <;> (try simp only [vki,reduceCtorEq] at h))|(refine kx ?_;kernel_rfl)|omega|assumption|with_reducible rfl|skip)))
  simp only [sampleC,aChart,cChart,eCabin,List.map_cons,List.map_nil]
  (simp only [vrt,Try.results77,vkt,seval,tbD22_chart,xbD22_1,aTk,cTk,aTks,eTk,rTk,mTk,ssold,sampleC,aChart,cChart,eCabin,List.length_map];refine Fin.ok some [1,3] ?_ ?_ ?_ ?_ ?_ rfl;all_goals (try simp only [vle,vkt,seval,tbD22_chart,xbD22_1,aTk,cTk,aTks,eTk,rTk,mTk,ssold,sampleC,aChart,cChart,eCabin,List.length_map]))
  all_goals first|rfl|(simp [eTk];done)
def tbD22_lask:=kk @ty31 @ti31.eq_1
def xbD22_2:=kk @aI.eq_1 (kk @aB.eq_1 (@aInts.eq_1))
theorem lask_fn (f t:Int) (d:Bool) (l:List Int):FnV Try.prog 78 [aI f,aI t,aB d,aInts l] (aAsk ⟨9,f,t,l,d⟩):=by
  have env:Env (fun _=>True) Try.prog tyB (tab []):=mkEnv trivial
  refine Fn.of (A:=fun _=>True) (n0:=0) (D:=noD) (Fn0 Try.func78 rfl (fun vs w=>by kernel_rfl) (by kernel_rfl)) (by simp) (by simp [AV.ids,aI,aB,aInts]) (fun i o h=>by cases h) (fun _ _ _ _=>trivial) noD_ok ?_
  repeat' (first|(apply nx;with_reducible constructor)|refine jq (by decide) ?_|((first|refine kz env fun Q hQ=>?_|refine kj fun Q hQ=>?_);simp only [vkt,seval,tbD22_lask,xbD22_2,aAsk,cAsk,List.length_map];(try simp only [ite_and]);(repeat' (first|with_reducible assumption|refine And.intro ?_ ?_|intro hp));all_goals (first|(refine hQ _ ?_;clear hQ Q)|(refine hQ _ (fun h=>?_) (fun h=>?_) <;> clear hQ Q <;> (try simp only [vki,reduceCtorEq] at h))|(refine kx ?_;kernel_rfl)|omega|assumption|with_reducible rfl|skip)))
  (simp only [vrt,Try.results78,vkt,seval,tbD22_lask,xbD22_2,aAsk,cAsk,List.length_map];refine Fin.val rfl ?_;(try simp only [AV.le,AV.leL]))
  all_goals first|rfl|(simp;done)
end Go.Sym.B
namespace Go.Sym.B
open Go Go.Sym Go.Proofs Go.Sym.C
def pkK (f:Bunk→Int) (l:List Bunk):Nat→Bunk × Int
  |0=>(⟨0,0⟩,0)
  |i+1=>if i=0∨f (l.getD i default) < (pkK f l i).2 then (l.getD i default,f (l.getD i default)) else pkK f l i
def nextA:List (List Bunk)→Bunk→Bunk × Int
  |[],_=>(⟨0,0⟩,0)
  |l :: rest,b=>pkK (fun y=>(nextA rest y).2+if y=b then 0 else 1) l l.length
def nxF (L:List (List Bunk)) (at_:Nat) (b y:Bunk):Int:=(nextA (L.drop (at_+1)) y).2+if y=b then 0 else 1
theorem nextA_at {L:List (List Bunk)} {i:Nat} (h:i < L.length) (b:Bunk):nextA (L.drop i) b=pkK (nxF L i b) (L.getD i []) (L.getD i []).length:=by
  rw [List.drop_eq_getElem_cons h,nextA]
  rw [show L.getD i []=L[i] by simp [List.getD_eq_getElem?_getD,h]]
  rfl
def walkB:List (List Bunk)→Bunk→List Bunk
  |[],_=>[]
  |l :: rest,b=>(nextA (l :: rest) b).1 :: walkB rest (nextA (l :: rest) b).1
theorem pkK_bd {f:Bunk→Int} {l:List Bunk} {n:Int} (hn:0≤n) (h:∀ b ∈ l,0≤f b∧f b≤n):∀ i,i≤l.length→0≤(pkK f l i).2∧(pkK f l i).2≤n
  |0,_=>⟨Int.le_refl 0,hn⟩
  |i+1,hi=>by
    rw [pkK]
    split
    · exact h _ (gMem hi)
    · exact pkK_bd hn h i (by omega)
theorem nextA_bd:∀ (L:List (List Bunk)) (b:Bunk),0≤(nextA L b).2∧(nextA L b).2≤(L.length:Int)
  |[],_=>by simp [nextA]
  |l :: rest,b=>by
    rw [nextA]
    refine pkK_bd (by omega) (fun y _=>?_) _ (Nat.le_refl _)
    have:=nextA_bd rest y
    rw [List.length_cons]
    split <;> omega
theorem nxF_bd (L:List (List Bunk)) (i:Nat) (b y:Bunk):0≤nxF L i b y∧nxF L i b y≤(L.length:Int)+1:=by
  have h:=nextA_bd (L.drop (i+1)) y
  rw [List.length_drop] at h
  unfold nxF
  split <;> omega
theorem walkB_len:∀ (L:List (List Bunk)) (b:Bunk),(walkB L b).length=L.length
  |[],_=>rfl
  |l :: rest,b=>by rw [walkB,List.length_cons,List.length_cons,walkB_len rest]
def wkK (L:List (List Bunk)):Nat→List Bunk
  |0=>[]
  |i+1=>wkK L i++[(nextA (L.drop i) (if i=0 then ⟨-1,0⟩ else (wkK L i).getD (i - 1) default)).1]
theorem wkK_len (L:List (List Bunk)):∀ i,(wkK L i).length=i
  |0=>rfl
  |i+1=>by rw [wkK,List.length_append,wkK_len L i];rfl
def wkB (L:List (List Bunk)) (i:Nat):Bunk:=if i=0 then ⟨-1,0⟩ else (wkK L i).getD (i - 1) default
theorem wkK_succ (L:List (List Bunk)) (i:Nat):wkK L (i+1)=wkK L i++[(nextA (L.drop i) (wkB L i)).1]:=rfl
theorem wkB_succ (L:List (List Bunk)) (i:Nat):wkB L (i+1)=(nextA (L.drop i) (wkB L i)).1:=by
  unfold wkB
  rw [if_neg (by omega),wkK_succ]
  have h:=wkK_len L i
  rw [show i+1 - 1=i by omega,List.getD_eq_getElem?_getD,List.getElem?_append_right (by omega),h]
  simp
  rfl
theorem wk_walk (L:List (List Bunk)):∀ i,i≤L.length→walkB L ⟨-1,0⟩=wkK L i++walkB (L.drop i) (wkB L i)
  |0,_=>by simp [wkK,wkB]
  |i+1,h=>by
    rw [wk_walk L i (by omega),wkK_succ,wkB_succ]
    conv=>lhs;rw [List.drop_eq_getElem_cons (show i < L.length by omega),walkB]
    rw [← List.drop_eq_getElem_cons (show i < L.length by omega)]
    simp
theorem wk_all (L:List (List Bunk)):wkK L L.length=walkB L ⟨-1,0⟩:=by
  rw [wk_walk L L.length (Nat.le_refl _),List.drop_length,walkB,List.append_nil]
def oneA (a:Ask) (s:Int):Ask:=⟨a.party,s,s+1,a.sexes,a.dog⟩
def openAt (c:Chart) (a:Ask) (s:Int):List Bunk:=(plP c (oneA a s)).map fun x=>x.1.getD 0 default
def openK (c:Chart) (a:Ask) (k:Nat):List (List Bunk):=(List.range k).map fun (i:Nat)=>openAt c a (a.frm+i)
def openL (c:Chart) (a:Ask):List (List Bunk):=openK c a (a.to - a.frm).toNat
theorem openK_succ (c:Chart) (a:Ask) (k:Nat):openK c a (k+1)=openK c a k++[openAt c a (a.frm+k)]:=by
  unfold openK;rw [List.range_succ,List.map_append];rfl
def changeA (c:Chart) (a:Ask):List Bunk × Int × Int :=
  if bothE c a ≠ 0 then ([],0,bothE c a) else if 1 < a.sexes.length then ([],0,6) else if a.dog then ([],0,9) else
  if (openL c a).any (·.isEmpty) then ([],0,11) else (walkB (openL c a) ⟨-1,0⟩,(nextA (openL c a) ⟨-1,0⟩).2 - 1,0)
def spotV (i:Int) (b:Bunk):Value:=.agg #[.int .i64 i,.int .i64 b.cab,.int .i64 b.bed]
theorem spot_inj {i j:Int} {b c:Bunk} (h:spotV i b=spotV j c):i=j∧b=c:=by
  cases b;cases c
  simp [spotV] at h
  obtain ⟨rfl,rfl,rfl⟩:=h
  exact ⟨rfl,rfl⟩
def qSpot:KeyInfo:={ kd:=.agg [some .i64,some .i64,some .i64],z:=.v (.int .i64 0),agg:=false }
def Look (es:List (Value × Value)) (kv:Value) (n:Int):Prop:=∃ b,lookR qSpot (mget es kv)=(True,.v (.int .i64 n),b)
theorem look_none {es:List (Value × Value)} {kv:Value} (h:mget es kv=none):Look es kv 0:=by
  refine ⟨false, ?_⟩
  rw [h]
  show (_,_,_)=_
  simp [qSpot,AV.ids]
theorem look_some {es:List (Value × Value)} {kv:Value} {n:Int} (h:mget es kv=some (.int .i64 n)):Look es kv n:=by
  refine ⟨true, ?_⟩
  rw [h]
  show (_,_,_)=_
  simp [qSpot,vokB,Value.oneCell',vAV]
theorem look_same {es:List (Value × Value)} {kv:Value} {n:Int}:Look (mset es kv (.int .i64 n)) kv n:=look_some (by rw [mget_set,if_pos rfl])
theorem look_ne {es:List (Value × Value)} {kv kv' v:Value} {n:Int} (hne:kv ≠ kv') (h:Look es kv' n):Look (mset es kv v) kv' n:=by
  unfold Look
  rw [mget_set,if_neg hne]
  exact h
theorem mset_len {es:List (Value × Value)} {k v:Value}:(mset es k v).length≤es.length+1:=by
  induction es with
  |nil=>simp [mset]
  |cons p es ih =>
    rw [mset]
    split
    · simp
    · rw [List.length_cons,List.length_cons];omega
abbrev KSpot:Value→Prop:=KD.Q (.agg [some .i64,some .i64,some .i64])
theorem spotQ (i:Int) (b:Bunk):KSpot (spotV i b):=⟨⟨_,rfl⟩,⟨_,rfl⟩,⟨_,rfl⟩,trivial⟩
structure BhOk (L:List (List Bunk)) (es:List (Value × Value)) (at_:Nat):Prop where
  ok:MOK KSpot es
  look:∀ j,at_≤j→j < L.length→∀ x ∈ L.getD j [],Look es (spotV j x) (nextA (L.drop (j+1)) x).2
theorem bh_nil (L:List (List Bunk)):BhOk L [] (L.length - 1):=⟨MOK.nil _,fun j h1 h2 x _=>by
  rw [List.drop_eq_nil_iff.2 (by omega)]
  exact look_none rfl⟩
structure BhIn (L:List (List Bunk)) (es:List (Value × Value)) (at_ i:Nat):Prop where
  bh:BhOk L es (at_+1)
  cur:∀ k,k < i→k < (L.getD at_ []).length→Look es (spotV at_ ((L.getD at_ []).getD k default)) (nextA (L.drop (at_+1)) ((L.getD at_ []).getD k default)).2
theorem BhOk.inn {L:List (List Bunk)} {es:List (Value × Value)} {i:Nat} (h:BhOk L es (i+1)):BhIn L es i 0:=⟨h,fun k hk=>absurd hk (Nat.not_lt_zero _)⟩
theorem BhIn.step {L:List (List Bunk)} {es:List (Value × Value)} {at_ i:Nat} (h:BhIn L es at_ i) {b:Bunk} (hb:(L.getD at_ []).getD i default=b) {n:Int} (hn:(nextA (L.drop (at_+1)) b).2=n) :
    BhIn L (mset es (spotV at_ b) (.int .i64 n)) at_ (i+1):=by
  refine ⟨⟨h.bh.ok.set (spotQ _ _),fun j h1 h2 x hx=>look_ne (fun e=>?_) (h.bh.look j h1 h2 x hx)⟩,fun k hk hl=>?_⟩
  · have:=(spot_inj e).1;omega
  · obtain ⟨x,hx⟩:∃ x,(L.getD at_ []).getD k default=x:=⟨_,rfl⟩
    rw [hx]
    by_cases hxb:b=x
    · subst hxb;rw [hn];exact look_same
    · have hki:k < i:=by
        rcases Nat.lt_or_eq_of_le (Nat.le_of_lt_succ hk) with h1|h1
        · exact h1
        · subst h1;exact absurd (hb.symm.trans hx) hxb
      have:=h.cur k hki hl
      rw [hx] at this
      exact look_ne (fun e=>hxb (spot_inj e).2) this
theorem BhIn.out {L:List (List Bunk)} {es:List (Value × Value)} {i:Nat} (h:BhIn L es i (L.getD i []).length):BhOk L es i:=⟨h.bh.ok,fun j h1 h2 x hx=>by
  rcases Nat.lt_or_eq_of_le h1 with h3|h3
  · exact h.bh.look j h3 h2 x hx
  · subst h3
    obtain ⟨k,hk,rfl⟩:=List.mem_iff_getElem.1 hx
    have:=h.cur k hk hk
    rwa [show (L.getD i []).getD k default=(L.getD i [])[k] by rw [List.getD_eq_getElem?_getD,List.getElem?_eq_getElem hk];rfl] at this⟩
end Go.Sym.B
namespace Go.Sym.B
open Go Go.Sym Go.Proofs Go.Sym.C
structure NxOk (L:List (List Bunk)) (es:List (Value × Value)) (i:Nat):Prop where
  len:L.length≤100
  lt:i < L.length
  each:∀ l ∈ L,l.length≤1000
  bh:BhOk L es i
def nxL (L:List (List Bunk)) (es:List (Value × Value)):List AObj:=[.cells [.row 2],.cells [.mp 3],.row 37 1 (L.map eBunks),.map es]
theorem nxL_ids {L:List (List Bunk)} {es:List (Value × Value)}:∀ i o,hasg (enumA 0 (nxL L es)) i=some o→i < 4∧∀ id ∈ o.ids,id < 4:=by
  intro i o hi
  have h:=hasg_mem hi
  simp [enumA,nxL] at h
  rcases h with ⟨rfl,rfl⟩|⟨rfl,rfl⟩|⟨rfl,rfl⟩|⟨rfl,rfl⟩ <;> simp [AObj.ids,AV.ids,AV.idsL]
def ncS (L:List (List Bunk)) (es:List (Value × Value)) (i:Nat) (b:Bunk) (l:List Bunk) (k:Nat) (o:Bunk) (n:Int):St:={ t:=asg [(0,aI i),(2,.ptr 0 0),(3,.ptr 1 0),(5,.ptr 4 0),(6,.ptr 5 0),(7,aI n),(14,aBunks l),(15,aI l.length),(16,aI k)],h:=hasg [(0,.cells [.row 2]),(1,.cells [.mp 3]),(2,.row 37 1 (L.map eBunks)),(3,.map es),(4,.cells [.v (.int .i64 b.cab),.v (.int .i64 b.bed)]),(5,.cells [.v (.int .i64 o.cab),.v (.int .i64 o.bed)])],n:=6,m:=4 }
def tbD23_nx1:=kk @ty3 (kk @ty33 (kk @ty37 (kk @ty49 (kk @ty132 (kk @ty134 (kk @ti3.eq_1 (kk @ti33.eq_1 (kk @ti37.eq_1 (kk @ti49.eq_1 (kk @ti132.eq_1 @ti134.eq_1))))))))))
def xbD23_1:=kk @aI.eq_1 (@aB.eq_1)
set_option maxHeartbeats 2000000 in
theorem nx1_fn (L:List (List Bunk)) (es:List (Value × Value)) (i:Nat) (b:Bunk) (ok:NxOk L es i):Fn noB Try.prog 82 [aI i,aBunk b,.ptr 0 0,.ptr 1 0] (hasg (enumA 0 (nxL L es))) (.tup [aBunk (nextA (L.drop i) b).1,aI (nextA (L.drop i) b).2]) (hasg (enumO 0 ((nxL L es).map some))) 0:=by
  have env:Env (fun _=>True) Try.prog tyB (tab []):=mkEnv trivial
  refine Fn.of (A:=fun _=>True) (n0:=4) (D:=noD) (Fn0 Try.func82 rfl (fun vs w=>by kernel_rfl) (by kernel_rfl)) (by simp) (by simp [AV.ids,AV.idsL,aI,aBunk]) nxL_ids (fun _ _ _ _=>trivial) noD_ok ?_
  have hlen:=ok.len
  have hlt:=ok.lt
  have hbd:=nxF_bd L i b
  rw [nextA_at hlt]
  obtain ⟨l,hl⟩:∃ l,L.getD i []=l:=⟨_,rfl⟩
  have hll:l.length≤1000:=ok.each l (by rw [← hl];exact gMem hlt)
  have hlook:∀ x ∈ l,Look es (spotV i x) (nextA (L.drop (i+1)) x).2:=fun x hx=>ok.bh.look i (Nat.le_refl _) hlt x (by rw [hl];exact hx)
  have hM:MOK (KD.Q (.agg [some .i64,some .i64,some .i64])) es:=ok.bh.ok
  rw [hl]
  show Sym _ _ _ (startS [aI i,aBunk b,.ptr 0 0,.ptr 1 0] 4 (hasg [(0,.cells [.row 2]),(1,.cells [.mp 3]),(2,.row 37 1 (L.map eBunks)),(3,.map es)])) (retK tyB noD Try.f82 fun S rv=>Fin S rv _ 4 (hasg [(0,.cells [.row 2]),(1,.cells [.mp 3]),(2,.row 37 1 (L.map eBunks)),(3,.map es)]) 0)
  have i0:((i:Int)).toNat=i:=rfl
  have hg:=hBunks hlt
  rw [hl] at hg
  repeat' (first|(apply nx;with_reducible constructor)|refine jq (by decide) ?_|((first|refine kz env fun Q hQ=>?_|refine kj fun Q hQ=>?_);simp only [vkt,seval,tbD23_nx1,xbD23_1,aBunk,aBunks,eBunk,eBunks,gBunk,gBunks,rBunks,ncS,List.length_map,hg,hl,hlt,i0];(try simp only [ite_and]);(repeat' (first|with_reducible assumption|refine And.intro ?_ ?_|intro hp));all_goals (first|(refine hQ _ ?_;clear hQ Q)|(refine hQ _ (fun h=>?_) (fun h=>?_) <;> clear hQ Q <;> (try simp only [vki,reduceCtorEq] at h))|(refine kx ?_;kernel_rfl)|omega|assumption|with_reducible rfl|skip)))
  refine sym_loop (fun k:{ k:Nat // k≤l.length }=>ncS L es i b l k.1 (pkK (nxF L i b) l k.1).1 (pkK (nxF L i b) l k.1).2) (fun k=>l.length - k.1) ⟨0,Nat.zero_le _⟩ ?_ fun ⟨k,hk⟩=>?_
  · (refine Le.ok some [] ?_;constructor;all_goals (try simp only [vle,vkt,seval,tbD23_nx1,xbD23_1,aBunk,aBunks,eBunk,eBunks,gBunk,gBunks,rBunks,ncS,List.length_map]))
    all_goals first|rfl|(simp [pkK];done)
  simp only at hk ⊢
  obtain ⟨⟨o,n⟩,hon⟩:∃ z,pkK (nxF L i b) l k=z:=⟨_,rfl⟩
  have hS:pkK (nxF L i b) l (k+1)=if k=0∨nxF L i b (l.getD k default) < n then (l.getD k default,nxF L i b (l.getD k default)) else (o,n):=by rw [pkK,hon]
  rw [hon]
  repeat' (first|(apply nx;with_reducible constructor)|refine jq (by decide) ?_)
  (refine kz env fun Q hQ=>?_;simp only [vkt,seval,tbD23_nx1,xbD23_1,aBunk,aBunks,eBunk,eBunks,gBunk,gBunks,rBunks,ncS,List.length_map];(try simp only [ite_and]);(repeat' (first|with_reducible assumption|refine And.intro ?_ ?_|intro hp));all_goals (first|(refine hQ _ ?_;clear hQ Q)|(refine kx ?_;kernel_rfl)|omega|assumption|with_reducible rfl|skip))
  repeat' (first|(apply nx;with_reducible constructor)|refine jq (by decide) ?_)
  (refine sym_cd (by simp only [vkt,seval,tbD23_nx1,xbD23_1,aBunk,aBunks,eBunk,eBunks,gBunk,gBunks,rBunks,ncS,List.length_map];rfl) (fun h=>?_) (fun h=>?_) <;> (try simp only [vki,reduceCtorEq] at h))
  · have hkl:k < l.length:=by omega
    have e9:IntKind.wrap .i64 ((k:Int)+1)=((k+1:Nat):Int):=by rw [wrap64 (by omega) (by omega)];rfl
    obtain ⟨x,hx⟩:∃ x,l.getD k default=x:=⟨_,rfl⟩
    obtain ⟨v,hv⟩:∃ v,(nextA (L.drop (i+1)) x).2=v:=⟨_,rfl⟩
    obtain ⟨bb,hlk⟩:=hlook x (by rw [← hx];exact gMem hkl)
    rw [hv] at hlk
    simp only [qSpot,spotV] at hlk
    have hF:nxF L i b x=v+if x=b then 0 else 1:=by unfold nxF;rw [hv]
    have hb:=hbd x
    rw [hx] at hS
    obtain ⟨f,hf⟩:∃ f,nxF L i b x=f:=⟨_,rfl⟩
    rw [hf] at hS hF hb
    have key:∀ (o':Bunk) (n':Int),pkK (nxF L i b) l (k+1)=(o',n')→ncS L es i b l (k+1) (pkK (nxF L i b) l (k+1)).1 (pkK (nxF L i b) l (k+1)).2=ncS L es i b l (k+1) o' n':=fun o' n' h=>by rw [h]
    have fin:∀ (S:St) (o':Bunk) (n':Int),pkK (nxF L i b) l (k+1)=(o',n')→Le S (ncS L es i b l (k+1) o' n')→∃ y:{ k:Nat // k≤l.length },(l.length - y.1 < l.length - k)∧Le S (ncS L es i b l y.1 (pkK (nxF L i b) l y.1).1 (pkK (nxF L i b) l y.1).2):=fun S o' n' h hle=>⟨⟨k+1,hkl⟩,by show l.length - (k+1) < l.length - k;omega,by rw [key o' n' h];exact hle⟩
    by_cases hxb:x=b
    · subst hxb
      rw [if_pos rfl,Int.add_zero] at hF
      subst hF
      have xx:((x.cab == x.cab) && (x.bed == x.bed))=true:=by simp
      by_cases hk0:k=0
      · rw [if_pos (.inl hk0)] at hS
        have d0:decide ((k:Int)=0)=true:=decide_eq_true (by omega)
        repeat' (first|(apply nx;with_reducible constructor)|refine jq (by decide) ?_|((first|refine kz env fun Q hQ=>?_|refine kj fun Q hQ=>?_);simp only [vkt,seval,tbD23_nx1,xbD23_1,aBunk,aBunks,eBunk,eBunks,gBunk,gBunks,rBunks,ncS,List.length_map,hx,e9,hlk,hM,d0];(try simp only [ite_and]);(repeat' (first|with_reducible assumption|refine And.intro ?_ ?_|intro hp));all_goals (first|(refine hQ _ ?_;clear hQ Q)|(refine hQ _ (fun h=>?_) (fun h=>?_) <;> clear hQ Q <;> (try simp only [vki,reduceCtorEq] at h))|(refine kx ?_;kernel_rfl)|omega|assumption|with_reducible rfl|skip)))
        refine fin _ _ _ hS ?_
        (refine Le.ok some [] ?_;constructor;all_goals (try simp only [vle,vkt,seval,tbD23_nx1,xbD23_1,aBunk,aBunks,eBunk,eBunks,gBunk,gBunks,rBunks,ncS,List.length_map]))
        all_goals first|rfl|(simp;done)
      · have d0:decide ((k:Int)=0)=false:=decide_eq_false (by omega)
        by_cases hc:f < n
        · rw [if_pos (.inr hc)] at hS
          have d1:decide (f < n)=true:=decide_eq_true hc
          repeat' (first|(apply nx;with_reducible constructor)|refine jq (by decide) ?_|((first|refine kz env fun Q hQ=>?_|refine kj fun Q hQ=>?_);simp only [vkt,seval,tbD23_nx1,xbD23_1,aBunk,aBunks,eBunk,eBunks,gBunk,gBunks,rBunks,ncS,List.length_map,hx,e9,hlk,hM,d0,d1];(try simp only [ite_and]);(repeat' (first|with_reducible assumption|refine And.intro ?_ ?_|intro hp));all_goals (first|(refine hQ _ ?_;clear hQ Q)|(refine hQ _ (fun h=>?_) (fun h=>?_) <;> clear hQ Q <;> (try simp only [vki,reduceCtorEq] at h))|(refine kx ?_;kernel_rfl)|omega|assumption|with_reducible rfl|skip)))
          refine fin _ _ _ hS ?_
          (refine Le.ok some [] ?_;constructor;all_goals (try simp only [vle,vkt,seval,tbD23_nx1,xbD23_1,aBunk,aBunks,eBunk,eBunks,gBunk,gBunks,rBunks,ncS,List.length_map]))
          all_goals first|rfl|(simp;done)
        · rw [if_neg (by omega)] at hS
          have d1:decide (f < n)=false:=decide_eq_false hc
          repeat' (first|(apply nx;with_reducible constructor)|refine jq (by decide) ?_|((first|refine kz env fun Q hQ=>?_|refine kj fun Q hQ=>?_);simp only [vkt,seval,tbD23_nx1,xbD23_1,aBunk,aBunks,eBunk,eBunks,gBunk,gBunks,rBunks,ncS,List.length_map,hx,e9,hlk,hM,d0,d1];(try simp only [ite_and]);(repeat' (first|with_reducible assumption|refine And.intro ?_ ?_|intro hp));all_goals (first|(refine hQ _ ?_;clear hQ Q)|(refine hQ _ (fun h=>?_) (fun h=>?_) <;> clear hQ Q <;> (try simp only [vki,reduceCtorEq] at h))|(refine kx ?_;kernel_rfl)|omega|assumption|with_reducible rfl|skip)))
          refine fin _ _ _ hS ?_
          (refine Le.ok some [] ?_;constructor;all_goals (try simp only [vle,vkt,seval,tbD23_nx1,xbD23_1,aBunk,aBunks,eBunk,eBunks,gBunk,gBunks,rBunks,ncS,List.length_map]))
          all_goals first|rfl|(simp;done)
    · rw [if_neg hxb] at hF
      have w1:IntKind.wrap .i64 (v+1)=f:=by rw [wrap64 (by omega) (by omega)];exact hF.symm
      have hne:(decide (x.cab=b.cab) && decide (x.bed=b.bed))=false:=by
        cases x;cases b
        simp at hxb ⊢
        exact hxb
      by_cases hk0:k=0
      · rw [if_pos (.inl hk0)] at hS
        have d0:decide ((k:Int)=0)=true:=decide_eq_true (by omega)
        repeat' (first|(apply nx;with_reducible constructor)|refine jq (by decide) ?_|((first|refine kz env fun Q hQ=>?_|refine kj fun Q hQ=>?_);simp only [vkt,seval,tbD23_nx1,xbD23_1,aBunk,aBunks,eBunk,eBunks,gBunk,gBunks,rBunks,ncS,List.length_map,hx,e9,hlk,hM,hne,w1,d0];(try simp only [ite_and]);(repeat' (first|with_reducible assumption|refine And.intro ?_ ?_|intro hp));all_goals (first|(refine hQ _ ?_;clear hQ Q)|(refine hQ _ (fun h=>?_) (fun h=>?_) <;> clear hQ Q <;> (try simp only [vki,reduceCtorEq] at h))|(refine kx ?_;kernel_rfl)|omega|assumption|with_reducible rfl|skip)))
        refine fin _ _ _ hS ?_
        (refine Le.ok some [] ?_;constructor;all_goals (try simp only [vle,vkt,seval,tbD23_nx1,xbD23_1,aBunk,aBunks,eBunk,eBunks,gBunk,gBunks,rBunks,ncS,List.length_map]))
        all_goals first|rfl|(simp;done)
      · have d0:decide ((k:Int)=0)=false:=decide_eq_false (by omega)
        by_cases hc:f < n
        · rw [if_pos (.inr hc)] at hS
          have d1:decide (f < n)=true:=decide_eq_true hc
          repeat' (first|(apply nx;with_reducible constructor)|refine jq (by decide) ?_|((first|refine kz env fun Q hQ=>?_|refine kj fun Q hQ=>?_);simp only [vkt,seval,tbD23_nx1,xbD23_1,aBunk,aBunks,eBunk,eBunks,gBunk,gBunks,rBunks,ncS,List.length_map,hx,e9,hlk,hM,hne,w1,d0,d1];(try simp only [ite_and]);(repeat' (first|with_reducible assumption|refine And.intro ?_ ?_|intro hp));all_goals (first|(refine hQ _ ?_;clear hQ Q)|(refine hQ _ (fun h=>?_) (fun h=>?_) <;> clear hQ Q <;> (try simp only [vki,reduceCtorEq] at h))|(refine kx ?_;kernel_rfl)|omega|assumption|with_reducible rfl|skip)))
          refine fin _ _ _ hS ?_
          (refine Le.ok some [] ?_;constructor;all_goals (try simp only [vle,vkt,seval,tbD23_nx1,xbD23_1,aBunk,aBunks,eBunk,eBunks,gBunk,gBunks,rBunks,ncS,List.length_map]))
          all_goals first|rfl|(simp;done)
        · rw [if_neg (by omega)] at hS
          have d1:decide (f < n)=false:=decide_eq_false hc
          repeat' (first|(apply nx;with_reducible constructor)|refine jq (by decide) ?_|((first|refine kz env fun Q hQ=>?_|refine kj fun Q hQ=>?_);simp only [vkt,seval,tbD23_nx1,xbD23_1,aBunk,aBunks,eBunk,eBunks,gBunk,gBunks,rBunks,ncS,List.length_map,hx,e9,hlk,hM,hne,w1,d0,d1];(try simp only [ite_and]);(repeat' (first|with_reducible assumption|refine And.intro ?_ ?_|intro hp));all_goals (first|(refine hQ _ ?_;clear hQ Q)|(refine hQ _ (fun h=>?_) (fun h=>?_) <;> clear hQ Q <;> (try simp only [vki,reduceCtorEq] at h))|(refine kx ?_;kernel_rfl)|omega|assumption|with_reducible rfl|skip)))
          refine fin _ _ _ hS ?_
          (refine Le.ok some [] ?_;constructor;all_goals (try simp only [vle,vkt,seval,tbD23_nx1,xbD23_1,aBunk,aBunks,eBunk,eBunks,gBunk,gBunks,rBunks,ncS,List.length_map]))
          all_goals first|rfl|(simp;done)
  · have hke:k=l.length:=by omega
    subst hke
    repeat' (first|(apply nx;with_reducible constructor)|refine jq (by decide) ?_|((first|refine kz env fun Q hQ=>?_|refine kj fun Q hQ=>?_);simp only [vkt,seval,tbD23_nx1,xbD23_1,aBunk,aBunks,eBunk,eBunks,gBunk,gBunks,rBunks,ncS,List.length_map];(try simp only [ite_and]);(repeat' (first|with_reducible assumption|refine And.intro ?_ ?_|intro hp));all_goals (first|(refine hQ _ ?_;clear hQ Q)|(refine hQ _ (fun h=>?_) (fun h=>?_) <;> clear hQ Q <;> (try simp only [vki,reduceCtorEq] at h))|(refine kx ?_;kernel_rfl)|omega|assumption|with_reducible rfl|skip)))
    (simp only [vrt,Try.results82,vkt,seval,tbD23_nx1,xbD23_1,aBunk,aBunks,eBunk,eBunks,gBunk,gBunks,rBunks,ncS,List.length_map];refine Fin.ok some [] ?_ ?_ ?_ ?_ ?_ rfl;all_goals (try simp only [vle,vkt,seval,tbD23_nx1,xbD23_1,aBunk,aBunks,eBunk,eBunks,gBunk,gBunks,rBunks,ncS,List.length_map]))
    all_goals first|rfl|(simp;done)|(rw [hon];exact ⟨⟨rfl,rfl⟩,rfl⟩)
def pNx1 (S:St):List AV→Option Pk
  |[.v (.int .i64 i),.agg [.v (.int .i64 c),.v (.int .i64 d)],.ptr p 0,.ptr q 0]=>match S.h p,S.h q with
    |some (.cells [.row r]),some (.cells [.mp m])=>match S.h r,S.h m with
      |some (.row _ _ xs),some (.map es)=>some { pre:=xs=(xs.map dBunks).map eBunks∧i=(i.toNat:Int)∧NxOk (xs.map dBunks) es i.toNat,hs:=[p,q,r,m],ar:=[.v (.int .i64 i),.agg [.v (.int .i64 c),.v (.int .i64 d)],.ptr 0 0,.ptr 1 0],L0:=nxL (xs.map dBunks) es,v:=.tup [aBunk (nextA ((xs.map dBunks).drop i.toNat) ⟨c,d⟩).1,aI (nextA ((xs.map dBunks).drop i.toNat) ⟨c,d⟩).2],L1:=(nxL (xs.map dBunks) es).map some }
      |_,_=>none
    |_,_=>none
  |_=>none
theorem pNx1_ok:∀ S bs q,pNx1 S bs=some q→q.pre→Fn noB Try.prog 82 q.ar (hasg (enumA 0 q.L0)) q.v (hasg (enumO 0 q.L1)) 0:=fun S bs q h hp=>by
  unfold pNx1 at h
  split at h
  · rename_i i c d p q
    split at h
    · split at h
      · rename_i m _ _ _ _ _ xs es _ _
        cases h
        obtain ⟨h1,h2,h3⟩:=hp
        have:=nx1_fn _ _ _ ⟨c,d⟩ h3
        rw [aI,← h2] at this
        exact this
      · cases h
    · cases h
  · cases h
theorem eNx1 {A:Frm→Prop}:EntryOK A Try.prog 82 (fnQ pNx1):=fnQ_ok pNx1_ok
end Go.Sym.B
namespace Go.Sym.B
open Go Go.Sym Go.Proofs Go.Sym.C
def subsF (n:Nat):Nat→List Int→Nat→List (List Int)
  |0,l,_=>[l]
  |m+1,l,f=>(List.range (n - f)).flatMap fun k=>subsF n m (l++[((f+k:Nat):Int)]) (f+k+1)
def partyN (sold:List Tk) (p:Int):Nat:=sold.countP fun t=>decide (t.party=p)
def loneL (sold:List Tk):List Int:=((List.range sold.length).filter fun i=>decide (partyN sold (sold.getD i default).party=1)).map fun (i:Nat)=>(i:Int)
def putB (sold:List Tk) (n:Nat) (b:Bunk):List Tk:=sold.set n ⟨(sold.getD n default).party,(sold.getD n default).sex,b.cab,b.bed,(sold.getD n default).frm,(sold.getD n default).to,(sold.getD n default).dog⟩
def shiftA (cs:List Cabin) (s:Int) (a:Ask):List Int→List Tk→Option (List Tr)
  |[],sold=>if checkE ⟨cs,s,sold⟩=0∧plP ⟨cs,s,sold⟩ a ≠ [] then some [] else none
  |n :: r,sold=>(bunksL cs).findSome? fun b=>if b=(sold.getD n.toNat default).bunk then none else (shiftA cs s a r (putB sold n.toNat b)).map (⟨n,b.cab,b.bed⟩ :: ·)
def someT (c:Chart) (l:List Int):List Int:=l.map fun i=>(loneL c.sold).getD i.toNat 0
def movedN (c:Chart) (a:Ask) (m:Nat):Option (List Tr):=(subsF (loneL c.sold).length m [] 0).findSome? fun l=>shiftA c.cabins c.secs a (someT c l) c.sold
def movedA (c:Chart) (a:Ask):List Tr × Int :=
  if bothE c a ≠ 0 then ([],bothE c a) else match (List.range 3).findSome? (movedN c a) with
  |some t=>(t,0)
  |none=>([],11)
end Go.Sym.B
namespace Go.Sym.B
open Go Go.Sym Go.Proofs Go.Sym.C
def qInt:KeyInfo:={ kd:=.one (.int .i64),z:=.v (.int .i64 0),agg:=false }
def LookI (es:List (Value × Value)) (p n:Int):Prop:=∃ b,lookR qInt (mget es (.int .i64 p))=(True,.v (.int .i64 n),b)
theorem lookI_none {es:List (Value × Value)} {p:Int} (h:mget es (.int .i64 p)=none):LookI es p 0:=by
  refine ⟨false, ?_⟩
  rw [h]
  show (_,_,_)=_
  simp [qInt,AV.ids]
theorem lookI_some {es:List (Value × Value)} {p n:Int} (h:mget es (.int .i64 p)=some (.int .i64 n)):LookI es p n:=by
  refine ⟨true, ?_⟩
  rw [h]
  show (_,_,_)=_
  simp [qInt,vokB,Value.oneCell',vAV]
theorem lookI_set {es:List (Value × Value)} {p q n m:Int} (h:p ≠ q→LookI es q m) (h2:p=q→n=m):LookI (mset es (.int .i64 p) (.int .i64 n)) q m:=by
  by_cases hpq:p=q
  · subst hpq
    rw [← h2 rfl]
    exact lookI_some (by rw [mget_set,if_pos rfl])
  · unfold LookI
    rw [mget_set,if_neg (by simpa using hpq)]
    exact h hpq
structure LnOk (sold:List Tk) (es:List (Value × Value)) (k:Nat):Prop where
  ok:MOK (KD.Q (.one (.int .i64))) es
  look:∀ p,LookI es p (partyN (sold.take k) p)
  len:es.length≤k
theorem ln_nil (sold:List Tk):LnOk sold [] 0:=⟨MOK.nil _,fun p=>by rw [List.take_zero];exact lookI_none rfl,Nat.le_refl _⟩
theorem partyN_succ {sold:List Tk} {k:Nat} (h:k < sold.length) (p:Int):partyN (sold.take (k+1)) p=partyN (sold.take k) p+if (sold.getD k default).party=p then 1 else 0:=by
  unfold partyN
  rw [List.take_succ_eq_append_getElem h,List.countP_append]
  rw [show sold.getD k default=sold[k] by simp [List.getD_eq_getElem?_getD,h]]
  simp
theorem LnOk.step {sold:List Tk} {es:List (Value × Value)} {k:Nat} (h:LnOk sold es k) (hk:k < sold.length) {p:Int} (hp:(sold.getD k default).party=p) {n:Nat} (hn:partyN (sold.take k) p=n) :
    LnOk sold (mset es (.int .i64 p) (.int .i64 ((n+1:Nat):Int))) (k+1):=by
  refine ⟨h.ok.set rfl,fun q=>?_, ?_⟩
  · rw [partyN_succ hk,hp]
    refine lookI_set (fun hne=>?_) fun e=>?_
    · rw [if_neg hne,Nat.add_zero];exact h.look q
    · subst e;rw [if_pos rfl,hn]
  · have:=mset_len (es:=es) (k:=.int .i64 p) (v:=.int .i64 ((n+1:Nat):Int))
    have:=h.len
    omega
theorem partyN_le (sold:List Tk) (p:Int):partyN sold p≤sold.length:=List.countP_le_length
def lnK (sold:List Tk) (k:Nat):List Int:=((List.range k).filter fun i=>decide (partyN sold (sold.getD i default).party=1)).map fun (i:Nat)=>(i:Int)
theorem lnK_succ (sold:List Tk) (k:Nat):lnK sold (k+1)=if partyN sold (sold.getD k default).party=1 then lnK sold k++[(k:Int)] else lnK sold k:=by
  unfold lnK
  rw [List.range_succ,List.filter_append,List.map_append]
  split
  · rename_i h;simp [-List.getD_eq_getElem?_getD,h]
  · rename_i h;simp [-List.getD_eq_getElem?_getD,h]
theorem lnK_len (sold:List Tk) (k:Nat):(lnK sold k).length≤k:=by
  unfold lnK
  rw [List.length_map]
  exact Nat.le_trans (List.length_filter_le _ _) (by simp)
theorem lnK_all (sold:List Tk):lnK sold sold.length=loneL sold:=rfl
def lnA (c:Chart) (es:List (Value × Value)) (k:Nat):St:={ t:=asg [(1,.ptr 0 0),(3,.mp 1),(11,aTks c.sold),(12,aI c.sold.length),(13,aI k)],h:=hasg [(0,.cells (cChart c)),(1,.map es)],n:=2 }
def lnB (c:Chart) (es:List (Value × Value)) (k:Nat):St:={ t:=asg [(3,.mp 1),(6,.row 2),(24,aTks c.sold),(25,aI c.sold.length),(26,aI k)],h:=hasg [(1,.map es),(2,.row 3 1 ((lnK c.sold k).map eInt))],n:=3 }
def tbD25_lone:=kk @ty3 (kk @ty22 (kk @ty26 (kk @ty28 (kk @ty81 (kk @ty172 (kk @ti3.eq_1 (kk @ti22.eq_1 (kk @ti26.eq_1 (kk @ti28.eq_1 (kk @ti81.eq_1 @ti172.eq_1))))))))))
def xbD25_1:=kk @aI.eq_1 (kk @aB.eq_1 (kk @eInt.eq_1 (kk @rInt (@aInts.eq_1))))
theorem lone_fn (c:Chart) (hc:c.sold.length≤100):FnV Try.prog 84 [aChart c] (aInts (loneL c.sold)):=by
  have env:Env (fun _=>True) Try.prog tyB (tab []):=mkEnv trivial
  refine Fn.of (A:=fun _=>True) (n0:=0) (D:=noD) (Fn0 Try.func84 rfl (fun vs w=>by kernel_rfl) (by kernel_rfl)) (by simp) (by simp [AV.ids,AV.idsL,aChart,cChart]) (fun i o h=>by cases h) (fun _ _ _ _=>trivial) noD_ok ?_
  have hmx:(100000:Nat)≤maxLen:=by decide
  repeat' (first|(apply nx;with_reducible constructor)|refine jq (by decide) ?_|((first|refine kz env fun Q hQ=>?_|refine kj fun Q hQ=>?_);simp only [vkt,seval,tbD25_lone,xbD25_1,aTks,eTk,gTk,aChart,cChart,lnA,lnB,MapKept.IsKey,List.length_map];(try simp only [ite_and]);(repeat' (first|with_reducible assumption|refine And.intro ?_ ?_|intro hp));all_goals (first|(refine hQ _ ?_;clear hQ Q)|(refine hQ _ (fun h=>?_) (fun h=>?_) <;> clear hQ Q <;> (try simp only [vki,reduceCtorEq] at h))|(refine kx ?_;kernel_rfl)|omega|assumption|with_reducible rfl|skip)))
  refine sym_loop (fun x:{ x:Nat × List (Value × Value) // x.1≤c.sold.length∧LnOk c.sold x.2 x.1 }=>lnA c x.1.2 x.1.1) (fun x=>c.sold.length - x.1.1) ⟨(0,[]),Nat.zero_le _,ln_nil _⟩ ?_ fun ⟨(k,es),hk,hL⟩=>?_
  · (refine Le.ok some [] ?_;constructor;all_goals (try simp only [vle,vkt,seval,tbD25_lone,xbD25_1,aTks,eTk,gTk,aChart,cChart,lnA,lnB,MapKept.IsKey,List.length_map]))
    all_goals first|rfl|(simp;done)
  simp only at hk hL ⊢
  by_cases hkl:k < c.sold.length
  · have d1:decide ((k:Int) < (c.sold.length:Int))=true:=decide_eq_true (by omega)
    have e9:IntKind.wrap .i64 ((k:Int)+1)=((k+1:Nat):Int):=by rw [wrap64 (by omega) (by omega)];rfl
    obtain ⟨x,hx⟩:∃ x,c.sold.getD k default=x:=⟨_,rfl⟩
    obtain ⟨n,hn⟩:∃ n,partyN (c.sold.take k) x.party=n:=⟨_,rfl⟩
    have hnb:=partyN_le (c.sold.take k) x.party
    rw [hn,List.length_take] at hnb
    obtain ⟨b,hl⟩:=hL.look x.party
    rw [hn] at hl
    simp only [qInt] at hl
    have hM:=hL.ok
    have w1:IntKind.wrap .i64 ((n:Int)+1)=((n+1:Nat):Int):=by rw [wrap64 (by omega) (by omega)];rfl
    have hml:(mset es (.int .i64 x.party) (.int .i64 ((n+1:Nat):Int))).length≤maxLen:=by
      have h1:=mset_len (es:=es) (k:=.int .i64 x.party) (v:=.int .i64 ((n+1:Nat):Int))
      have h2:=hL.len
      omega
    repeat' (first|(apply nx;with_reducible constructor)|refine jq (by decide) ?_|((first|refine kz env fun Q hQ=>?_|refine kj fun Q hQ=>?_);simp only [vkt,seval,tbD25_lone,xbD25_1,aTks,eTk,gTk,aChart,cChart,lnA,lnB,MapKept.IsKey,List.length_map,d1,e9,hx,hl,hM,w1,hml];(try simp only [ite_and]);(repeat' (first|with_reducible assumption|refine And.intro ?_ ?_|intro hp));all_goals (first|(refine hQ _ ?_;clear hQ Q)|(refine hQ _ (fun h=>?_) (fun h=>?_) <;> clear hQ Q <;> (try simp only [vki,reduceCtorEq] at h))|(refine kx ?_;kernel_rfl)|omega|assumption|with_reducible rfl|skip)))
    refine ⟨⟨(k+1,mset es (.int .i64 x.party) (.int .i64 ((n+1:Nat):Int))),hkl,hL.step hkl (by rw [hx]) hn⟩,by show c.sold.length - (k+1) < c.sold.length - k;omega, ?_⟩
    (refine Le.ok some [] ?_;constructor;all_goals (try simp only [vle,vkt,seval,tbD25_lone,xbD25_1,aTks,eTk,gTk,aChart,cChart,lnA,lnB,MapKept.IsKey,List.length_map]))
    all_goals first|rfl|(simp;done)
  · have d1:decide ((k:Int) < (c.sold.length:Int))=false:=decide_eq_false (by omega)
    obtain rfl:k=c.sold.length:=by omega
    repeat' (first|(apply nx;with_reducible constructor)|refine jq (by decide) ?_|((first|refine kz env fun Q hQ=>?_|refine kj fun Q hQ=>?_);simp only [vkt,seval,tbD25_lone,xbD25_1,aTks,eTk,gTk,aChart,cChart,lnA,lnB,MapKept.IsKey,List.length_map,d1];(try simp only [ite_and]);(repeat' (first|with_reducible assumption|refine And.intro ?_ ?_|intro hp));all_goals (first|(refine hQ _ ?_;clear hQ Q)|(refine hQ _ (fun h=>?_) (fun h=>?_) <;> clear hQ Q <;> (try simp only [vki,reduceCtorEq] at h))|(refine kx ?_;kernel_rfl)|omega|assumption|with_reducible rfl|skip)))
    refine sym_loop (fun k:{ k:Nat // k≤c.sold.length }=>lnB c es k.1) (fun k=>c.sold.length - k.1) ⟨0,Nat.zero_le _⟩ ?_ fun ⟨k,hk⟩=>?_
    · (refine Le.ok (fun i=>if i=2 then none else some i) [] ?_;constructor;all_goals (try simp only [vle,vkt,seval,tbD25_lone,xbD25_1,aTks,eTk,gTk,aChart,cChart,lnA,lnB,MapKept.IsKey,List.length_map]))
      all_goals first|rfl|(simp [lnK];done)|(intro i hi;rw [if_neg (by omega)];done)
    simp only at hk ⊢
    by_cases hkl:k < c.sold.length
    · have d1:decide ((k:Int) < (c.sold.length:Int))=true:=decide_eq_true (by omega)
      have e9:IntKind.wrap .i64 ((k:Int)+1)=((k+1:Nat):Int):=by rw [wrap64 (by omega) (by omega)];rfl
      obtain ⟨x,hx⟩:∃ x,c.sold.getD k default=x:=⟨_,rfl⟩
      obtain ⟨n,hn⟩:∃ n,partyN c.sold x.party=n:=⟨_,rfl⟩
      obtain ⟨b,hl⟩:=hL.look x.party
      rw [List.take_length,hn] at hl
      simp only [qInt] at hl
      have hM:=hL.ok
      have hS:=lnK_succ c.sold k
      have hkn:=lnK_len c.sold k
      have hkm:(lnK c.sold k).length+1≤maxLen:=by omega
      rw [hx,hn] at hS
      by_cases h1:n=1
      · rw [if_pos h1] at hS
        rw [show (n:Int)=1 by omega] at hl
        repeat' (first|(apply nx;with_reducible constructor)|refine jq (by decide) ?_|((first|refine kz env fun Q hQ=>?_|refine kj fun Q hQ=>?_);simp only [vkt,seval,tbD25_lone,xbD25_1,aTks,eTk,gTk,aChart,cChart,lnA,lnB,MapKept.IsKey,List.length_map,d1,e9,hx,hl,hM,hkm,decide_true];(try simp only [ite_and]);(repeat' (first|with_reducible assumption|refine And.intro ?_ ?_|intro hp));all_goals (first|(refine hQ _ ?_;clear hQ Q)|(refine hQ _ (fun h=>?_) (fun h=>?_) <;> clear hQ Q <;> (try simp only [vki,reduceCtorEq] at h))|(refine kx ?_;kernel_rfl)|omega|assumption|with_reducible rfl|skip)))
        refine ⟨⟨k+1,hkl⟩,by show c.sold.length - (k+1) < c.sold.length - k;omega, ?_⟩
        show Le _ (lnB c es (k+1))
        unfold lnB
        rw [hS]
        (refine Le.ok (fun i=>if i=2 then some 5 else some i) [] ?_;constructor;all_goals (try simp only [vle,vkt,seval,tbD25_lone,xbD25_1,aTks,eTk,gTk,aChart,cChart,lnA,lnB,MapKept.IsKey,List.length_map]))
        all_goals first|rfl|(rw [List.map_append];rfl)|(simp;done)|(intro i hi;rw [if_neg (by omega)];done)
      · rw [if_neg h1] at hS
        have d2:decide ((n:Int)=1)=false:=decide_eq_false (by omega)
        repeat' (first|(apply nx;with_reducible constructor)|refine jq (by decide) ?_|((first|refine kz env fun Q hQ=>?_|refine kj fun Q hQ=>?_);simp only [vkt,seval,tbD25_lone,xbD25_1,aTks,eTk,gTk,aChart,cChart,lnA,lnB,MapKept.IsKey,List.length_map,d1,e9,hx,hl,hM,d2];(try simp only [ite_and]);(repeat' (first|with_reducible assumption|refine And.intro ?_ ?_|intro hp));all_goals (first|(refine hQ _ ?_;clear hQ Q)|(refine hQ _ (fun h=>?_) (fun h=>?_) <;> clear hQ Q <;> (try simp only [vki,reduceCtorEq] at h))|(refine kx ?_;kernel_rfl)|omega|assumption|with_reducible rfl|skip)))
        refine ⟨⟨k+1,hkl⟩,by show c.sold.length - (k+1) < c.sold.length - k;omega, ?_⟩
        show Le _ (lnB c es (k+1))
        unfold lnB
        rw [hS]
        (refine Le.ok some [] ?_;constructor;all_goals (try simp only [vle,vkt,seval,tbD25_lone,xbD25_1,aTks,eTk,gTk,aChart,cChart,lnA,lnB,MapKept.IsKey,List.length_map]))
        all_goals first|rfl|(simp;done)
    · have d1:decide ((k:Int) < (c.sold.length:Int))=false:=decide_eq_false (by omega)
      obtain rfl:k=c.sold.length:=by omega
      have hall:=lnK_all c.sold
      repeat' (first|(apply nx;with_reducible constructor)|refine jq (by decide) ?_|((first|refine kz env fun Q hQ=>?_|refine kj fun Q hQ=>?_);simp only [vkt,seval,tbD25_lone,xbD25_1,aTks,eTk,gTk,aChart,cChart,lnA,lnB,MapKept.IsKey,List.length_map,d1,hall];(try simp only [ite_and]);(repeat' (first|with_reducible assumption|refine And.intro ?_ ?_|intro hp));all_goals (first|(refine hQ _ ?_;clear hQ Q)|(refine hQ _ (fun h=>?_) (fun h=>?_) <;> clear hQ Q <;> (try simp only [vki,reduceCtorEq] at h))|(refine kx ?_;kernel_rfl)|omega|assumption|with_reducible rfl|skip)))
      simp only [vrt,Try.results84,vkt,seval,tbD25_lone,xbD25_1,aTks,eTk,gTk,aChart,cChart,lnA,lnB,MapKept.IsKey,List.length_map]
      show Fin _ _ _ 0 (hasg []) 0
      refine Fin.ok some [2] ?_ ?_ ?_ ?_ ?_ rfl
      all_goals (try simp only [vle,vkt,seval,tbD25_lone,xbD25_1,aTks,eTk,gTk,aChart,cChart,lnA,lnB,MapKept.IsKey,List.length_map])
      all_goals first|rfl|(simp;done)
def slone:List AV→Prop × AV
  |[.agg [.sl c0,.v (.int .i64 c1),.sl c2]]=>(c0=(c0.map dCabin).map eCabin∧c2=(c2.map dTk).map eTk∧((⟨(c0.map dCabin),c1,(c2.map dTk)⟩:Chart)).sold.length≤100,aInts (loneL ((⟨(c0.map dCabin),c1,(c2.map dTk)⟩:Chart)).sold))
  |_=>(False,.junk)
theorem elone {A:Frm→Prop}:EntryOK A Try.prog 84 (valE false slone):=valE_ok fun vs hv h=>by
  clear hv
  unfold slone at h ⊢
  split at h
  · rename_i c0 c1 c2;obtain ⟨q0,q1,k0⟩:=h
    refine ⟨by first|trivial|(simp [AV.plain,AV.plainL,aI,aB,aInts,aBunks,aTks,aBunk,aTk,cTk];done)|(repeat' split) <;> simp [AV.plain,AV.plainL,aI,aB,aInts,aBunks,aTks,aBunk,aTk,cTk],fun h=>absurd h (by decide), ?_⟩
    have:=lone_fn ((⟨(c0.map dCabin),c1,(c2.map dTk)⟩:Chart)) k0
    simp only [aCabins,aChart,aI,aTks,cChart,← q0,← q1] at this
    first|exact this|(simp only [aCabins,aChart,aI,aTks,cChart,← q0,← q1];exact this)
  · exact h.elim
end Go.Sym.B
namespace Go.Sym.B
open Go Go.Sym Go.Proofs Go.Sym.C
theorem putB_map (sold:List Tk) (n:Nat) (b:Bunk) {x:Tk} (hx:sold.getD n default=x):(putB sold n b).map eTk=(sold.map eTk).set n [.v (.int .i64 x.party),.v (.int .i64 x.sex),.v (.int .i64 b.cab),.v (.int .i64 b.bed),.v (.int .i64 x.frm),.v (.int .i64 x.to),.v (.bool x.dog)]:=by
  unfold putB
  rw [hx,List.map_set]
  rfl
theorem putB_len (sold:List Tk) (n:Nat) (b:Bunk):(putB sold n b).length=sold.length:=by simp [putB]
theorem putB_put (sold:List Tk) (n:Nat) (b d:Bunk) (h:n < sold.length):putB (putB sold n b) n d=putB sold n d:=by
  unfold putB
  rw [show (sold.set n ⟨(sold.getD n default).party,(sold.getD n default).sex,b.cab,b.bed,(sold.getD n default).frm,(sold.getD n default).to,(sold.getD n default).dog⟩).getD n default=⟨(sold.getD n default).party,(sold.getD n default).sex,b.cab,b.bed,(sold.getD n default).frm,(sold.getD n default).to,(sold.getD n default).dog⟩ by simp [List.getD_eq_getElem?_getD,h]]
  simp
theorem putB_self (sold:List Tk) (n:Nat) (h:n < sold.length):putB sold n (sold.getD n default).bunk=sold:=by
  unfold putB Tk.bunk
  rw [show (⟨(sold.getD n default).party,(sold.getD n default).sex,(sold.getD n default).cab,(sold.getD n default).bed,(sold.getD n default).frm,(sold.getD n default).to,(sold.getD n default).dog⟩:Tk)=sold[n] by simp [List.getD_eq_getElem?_getD,h]]
  exact List.set_getElem_self h
def s1L (cs:List Cabin) (s:Int) (sold:List Tk) (was:Bunk) (n:Nat):List AObj:=[carC cs s 1,rowT sold,.cells [.ptr 0 0],.cells [.v (.int .i64 was.cab),.v (.int .i64 was.bed)],.cells [aI n]]
def tbD26_shift1:=kk @ty3 (kk @ty26 (kk @ty28 (kk @ty49 (kk @ty81 (kk @ty106 (kk @ty118 (kk @ti3.eq_1 (kk @ti26.eq_1 (kk @ti28.eq_1 (kk @ti49.eq_1 (kk @ti81.eq_1 (kk @ti106.eq_1 @ti118.eq_1))))))))))))
def xbD26_1:=kk @aI.eq_1 (@aB.eq_1)
theorem shift1_fn (cs:List Cabin) (s:Int) (sold:List Tk) (was:Bunk) (n:Nat) (hn:n < sold.length):FnD Try.prog 120 [.ptr 3 0,.ptr 2 0,.ptr 4 0] (hasg (enumA 0 (s1L cs s sold was n))) (.tup []) (hasg (enumO 0 ((s1L cs s (putB sold n was) was n).map some))):=by
  have env:Env (fun F=>F.r=none) Try.prog tyB (tab []):=mkEnv trivial
  refine FnD.of (n0:=5) (Fn0 Try.func120 rfl (fun vs w=>by kernel_rfl) (by kernel_rfl)) (by simp) (by simp [AV.ids,AV.idsL]) ?_ ?_
  · intro i o hi
    have h:=hasg_mem hi
    simp [enumA,s1L] at h
    rcases h with ⟨rfl,rfl⟩|⟨rfl,rfl⟩|⟨rfl,rfl⟩|⟨rfl,rfl⟩|⟨rfl,rfl⟩ <;> simp [AObj.ids,AV.ids,AV.idsL,carC,rowT,aI]
  obtain ⟨x,hx⟩:∃ x,sold.getD n default=x:=⟨_,rfl⟩
  have hp:=putB_map sold n was hx
  have hg:=hTk hn
  rw [hx] at hg
  have i0:((n:Int)).toNat=n:=rfl
  show Sym _ _ _ (startS [.ptr 3 0,.ptr 2 0,.ptr 4 0] 5 (hasg [(0,carC cs s 1),(1,rowT sold),(2,.cells [.ptr 0 0]),(3,.cells [.v (.int .i64 was.cab),.v (.int .i64 was.bed)]),(4,.cells [aI n])])) (retD tyB Try.f120 fun S rv=>Fin S rv _ 5 (hasg [(0,carC cs s 1),(1,.row 81 7 ((putB sold n was).map eTk)),(2,.cells [.ptr 0 0]),(3,.cells [.v (.int .i64 was.cab),.v (.int .i64 was.bed)]),(4,.cells [aI n])]) 0)
  rw [hp]
  repeat' (first|(apply nx;with_reducible constructor)|refine jq (by decide) ?_|((first|refine kz env fun Q hQ=>?_|refine kj fun Q hQ=>?_);simp only [vkt,seval,tbD26_shift1,xbD26_1,eTk,carC,rowT,s1L,List.length_map,hg,i0,hn];(try simp only [ite_and]);(repeat' (first|with_reducible assumption|refine And.intro ?_ ?_|intro hp));all_goals (first|(refine hQ _ ?_;clear hQ Q)|(refine hQ _ (fun h=>?_) (fun h=>?_) <;> clear hQ Q <;> (try simp only [vki,reduceCtorEq] at h))|(refine kx ?_;kernel_rfl)|omega|assumption|with_reducible rfl|skip)))
  simp only [retD.eq_1]
  refine ⟨trivial, ?_⟩
  (simp only [vrt,Try.results120,vkt,seval,tbD26_shift1,xbD26_1,eTk,carC,rowT,s1L,List.length_map];refine Fin.ok some [] ?_ ?_ ?_ ?_ ?_ rfl;all_goals (try simp only [vle,vkt,seval,tbD26_shift1,xbD26_1,eTk,carC,rowT,s1L,List.length_map]))
  all_goals first|rfl|(simp;done)
def pShift1 (S:St):List AV→Option Pk
  |[.ptr w 0,.ptr q 0,.ptr m 0]=>match S.h w,S.h q,S.h m with
    |some (.cells [.v (.int .i64 a),.v (.int .i64 b)]),some (.cells [.ptr c 0]),some (.cells [.v (.int .i64 n)])=>match S.h c with
      |some (.cells [.sl cs,.v (.int .i64 s),.row r])=>match S.h r with
        |some (.row _ _ xs)=>some { pre:=cs=(cs.map dCabin).map eCabin∧xs=(xs.map dTk).map eTk∧n=(n.toNat:Int)∧n.toNat < (xs.map dTk).length,hs:=[c,r,q,w,m],ar:=[.ptr 3 0,.ptr 2 0,.ptr 4 0],L0:=s1L (cs.map dCabin) s (xs.map dTk) ⟨a,b⟩ n.toNat,v:=.tup [],L1:=(s1L (cs.map dCabin) s (putB (xs.map dTk) n.toNat ⟨a,b⟩) ⟨a,b⟩ n.toNat).map some }
        |_=>none
      |_=>none
    |_,_,_=>none
  |_=>none
theorem dShift1 {A:Frm→Prop}:DCall.OK A Try.prog (dfE 120 pShift1):=dfE_ok fun S bs q h hp=>by
  unfold pShift1 at h
  split at h
  · split at h
    · split at h
      · split at h
        · cases h
          obtain ⟨h1,h2,h3,h4⟩:=hp
          exact shift1_fn _ _ _ _ _ h4
        · cases h
      · cases h
    · cases h
  · cases h
end Go.Sym.B
namespace Go.Sym.B
open Go Go.Sym Go.Proofs Go.Sym.C
theorem fs_spec (f:Bunk→Option (List Tr)):∀ l:List Bunk,∃ R,R≤l.length∧(∀ j,j+1 < R→f (l.getD j default)=none)∧(R < l.length→0 < R∧f (l.getD (R - 1) default) ≠ none)∧l.findSome? f=if R=0 then none else f (l.getD (R - 1) default)
  |[]=>⟨0,Nat.le_refl _,fun _ h=>absurd h (Nat.not_lt_zero _),fun h=>absurd h (Nat.lt_irrefl _),rfl⟩
  |b :: l=>by
    cases hb:f b with
    |some t =>
      refine ⟨1,by simp,fun j h=>by omega,fun _=>⟨by omega, ?_⟩, ?_⟩
      · show f b ≠ none
        rw [hb];simp
      · rw [List.findSome?_cons,hb,if_neg (by omega)]
        exact hb.symm
    |none =>
      obtain ⟨R,h1,h2,h3,h4⟩:=fs_spec f l
      refine ⟨R+1,by simpa using h1,fun j hj=>?_,fun hlt=>?_, ?_⟩
      · cases j with
        |zero=>exact hb
        |succ j=>exact h2 j (by omega)
      · obtain ⟨g1,g2⟩:=h3 (by simpa using hlt)
        refine ⟨by omega, ?_⟩
        rw [show R+1 - 1=(R - 1)+1 by omega]
        exact g2
      · rw [List.findSome?_cons,hb,if_neg (by omega)]
        simp only
        rw [h4]
        by_cases hR:R=0
        · subst hR;rw [if_pos rfl];exact hb.symm
        · rw [if_neg hR,show R+1 - 1=(R - 1)+1 by omega];rfl
def shF (cs:List Cabin) (s:Int) (a:Ask) (r:List Int) (sold:List Tk) (k:Nat) (b:Bunk):Option (List Tr):=if b=(sold.getD k default).bunk then none else (shiftA cs s a r (putB sold k b)).map (⟨(k:Int),b.cab,b.bed⟩ :: ·)
theorem shiftA_cons (cs:List Cabin) (s:Int) (a:Ask) (r:List Int) (sold:List Tk) (k:Nat):shiftA cs s a ((k:Int) :: r) sold=(bunksL cs).findSome? (shF cs s a r sold k):=rfl
def curK (cs:List Cabin) (sold:List Tk) (k:Nat):Nat→List Tk
  |0=>sold
  |j+1=>if (bunksL cs).getD j default=(sold.getD k default).bunk then curK cs sold k j else putB sold k ((bunksL cs).getD j default)
theorem curK_spec (cs:List Cabin) (sold:List Tk) (k:Nat) (h:k < sold.length):∀ j,(curK cs sold k j).length=sold.length∧∀ d,putB (curK cs sold k j) k d=putB sold k d
  |0=>⟨rfl,fun _=>rfl⟩
  |j+1=>by
    rw [curK]
    split
    · exact curK_spec cs sold k h j
    · exact ⟨putB_len _ _ _,fun d=>putB_put _ _ _ _ h⟩
structure ShOk (cs:List Cabin) (s:Int) (a:Ask) (sold:List Tk) (ts:List Int):Prop where
  cabs:1≤cs.length∧cs.length≤3
  beds:∀ x ∈ cs,1≤x.beds∧x.beds≤3
  many:sold.length≤8
  sx:a.sexes.length≤3
  lenT:ts.length≤3
  ts:∀ n ∈ ts,0≤n∧n.toNat < sold.length
theorem ShOk.tail {cs:List Cabin} {s:Int} {a:Ask} {sold:List Tk} {n:Int} {r:List Int} (h:ShOk cs s a sold (n :: r)) (m:Nat) (b:Bunk):ShOk cs s a (putB sold m b) r:=by
  refine ⟨h.cabs,h.beds,by rw [putB_len];exact h.many,h.sx,by have:=h.lenT;simp at this;omega,fun n hn=>?_⟩
  rw [putB_len]
  exact h.ts n (List.mem_cons_of_mem _ hn)
theorem shiftA_len {cs:List Cabin} {s:Int} {a:Ask}:∀ {ts:List Int} {sold:List Tk} {l:List Tr},shiftA cs s a ts sold=some l→l.length=ts.length
  |[],sold,l,h=>by
    unfold shiftA at h
    split at h
    · cases h;rfl
    · cases h
  |n :: r,sold,l,h=>by
    unfold shiftA at h
    obtain ⟨b,hb⟩:∃ b,(if b=(sold.getD n.toNat default).bunk then none else (shiftA cs s a r (putB sold n.toNat b)).map (⟨n,b.cab,b.bed⟩ :: ·))=some l:=by
      obtain ⟨b,_,hb⟩:=List.exists_of_findSome?_eq_some h
      exact ⟨b,hb⟩
    split at hb
    · cases hb
    · obtain ⟨l',hl',rfl⟩:=Option.map_eq_some_iff.1 hb
      rw [List.length_cons,shiftA_len hl',List.length_cons]
end Go.Sym.B
namespace Go.Sym.B
open Go Go.Sym Go.Proofs Go.Sym.C
def ShFn (cs:List Cabin) (s:Int) (a:Ask) (m:Nat):Prop:=∀ (sold:List Tk) (ts:List Int),ts.length=m→ShOk cs s a sold ts →
  Fn noB Try.prog 87 [.ptr 0 0,aInts ts,aAsk a] (hasg (enumA 0 (lent2 cs s sold))) (.tup [aTrs ((shiftA cs s a ts sold).getD []),aB (shiftA cs s a ts sold).isSome]) (hasg (enumO 0 ((lent2 cs s sold).map some))) 0
def s0L0:List (Nat × AV):=[(6,.ptr 5 0),(7,.ptr 6 0),(24,.clo 114 [.ptr 7 0,.ptr 8 0])]
def s0L:List (Nat × AV):=[(6,.ptr 5 0),(7,.ptr 6 0)]
def s0H (k:Nat):List (Nat × AObj):=[(5,.cells [.nil]),(6,.cells [aB (decide (0 < k))])]
theorem s0_lent0 (c:Chart) (a:Ask):lentA [0,1,7,8] 10 0 (plL c a)=[(0,carC c.cabins c.secs 1),(1,rowT c.sold),(7,.cells [.ptr 0 0]),(8,.cells (cAsk a))]:=by
  simp [lentA,plL,callRen,AObj.ren,AV.renL,AV.ren,carC,rowT,cAsk]
theorem s0_lent (c:Chart) (a:Ask) (j:Nat):lentA [0] 10 0 (plH c a j)=[(0,carC c.cabins c.secs 10),(10,rowT ((plP c a).getD j default).2)]:=by
  simp [lentA,plH,lent2,callRen,AObj.ren,AV.renL,AV.ren,carC,rowT]
def tbD27_shift:=kk @ty3 (kk @ty4 (kk @ty22 (kk @ty26 (kk @ty28 (kk @ty31 (kk @ty34 (kk @ty49 (kk @ty58 (kk @ty65 (kk @ty81 (kk @ty106 (kk @ty118 (kk @ti3.eq_1 (kk @ti4.eq_1 (kk @ti22.eq_1 (kk @ti26.eq_1 (kk @ti28.eq_1 (kk @ti31.eq_1 (kk @ti34.eq_1 (kk @ti49.eq_1 (kk @ti58.eq_1 (kk @ti65.eq_1 (kk @ti81.eq_1 (kk @ti106.eq_1 @ti118.eq_1))))))))))))))))))))))))
def xbD27_1:=kk @aI.eq_1 (kk @aB.eq_1 (kk @aInts.eq_1 (@mInt)))
set_option maxHeartbeats 2000000 in
theorem shift_zero (cs:List Cabin) (s:Int) (a:Ask):ShFn cs s a 0:=by
  intro sold ts ht ok
  obtain rfl:=List.eq_nil_of_length_eq_zero ht
  have env:Env (fun F=>F.r=none) Try.prog tyB (tab [(44,valE true scheck),(68,fnE pPlaces)]):=mkEnv ⟨echeck,ePlaces,trivial⟩
  refine Fn.of (A:=fun F=>F.r=none) (n0:=2) (D:=noD) (Fn0 Try.func87 rfl (fun vs w=>by kernel_rfl) (by kernel_rfl)) (by simp) (by simp [AV.ids,AV.idsL,aInts,aAsk,cAsk]) lent2_ids (fun _ _ _ h=>h) noD_ok ?_
  obtain ⟨c,hc⟩:∃ c:Chart,(⟨cs,s,sold⟩:Chart)=c:=⟨_,rfl⟩
  have e1:cs=c.cabins:=by rw [← hc]
  have e2:s=c.secs:=by rw [← hc]
  have e3:sold=c.sold:=by rw [← hc]
  have hcm:c.cabins.length≤maxLen:=by
    have h1:=ok.cabs
    have h2:(3:Nat)≤maxLen:=by decide
    rw [← e1];omega
  show Sym _ _ _ (startS [.ptr 0 0,aInts [],aAsk a] 2 (hasg [(0,carC cs s 1),(1,rowT sold)])) (retK tyB noD Try.f87 fun S rv=>Fin S rv (.tup [aTrs ((if checkE ⟨cs,s,sold⟩=0∧plP ⟨cs,s,sold⟩ a ≠ [] then some [] else none:Option (List Tr)).getD []),aB (if checkE ⟨cs,s,sold⟩=0∧plP ⟨cs,s,sold⟩ a ≠ [] then some [] else none:Option (List Tr)).isSome]) 2 (hasg [(0,carC cs s 1),(1,rowT sold)]) 0)
  rw [e1,e2,e3] at hc ⊢
  rw [hc]
  by_cases h0:checkE c=0
  · have hpo:PlOk c a:=⟨val_of h0,ok.sx⟩
    repeat' (first|(apply nx;with_reducible constructor)|refine jq (by decide) ?_|refine sym_scope ?_|refine scopeK_n ?_|refine scopeK_x ?_|refine scopeK_r ?_|((first|refine kz env fun Q hQ=>?_|refine kj fun Q hQ=>?_);simp only [vkt,seval,tbD27_shift,xbD27_1,aTrs,aAsk,cAsk,mCabin,mTk,carC,rowT,lent2,plL,s0L,s0H,scheck,pPlaces,List.length_map,List.map_nil,nth,hwL,Nat.zero_add,Nat.sub_zero,hc,h0,decide_true];(try simp only [ite_and]);(repeat' (first|with_reducible assumption|refine And.intro ?_ ?_|intro hp));all_goals (first|(refine hQ _ ?_;clear hQ Q)|(refine hQ _ (fun h=>?_) (fun h=>?_) <;> clear hQ Q <;> (try simp only [vki,reduceCtorEq] at h))|(refine kx ?_;kernel_rfl)|omega|assumption|with_reducible rfl|skip)))
    refine sym_le (S':={ t:=asg s0L0,h:=hasg (s0H 0++[(0,carC c.cabins c.secs 1),(1,rowT c.sold),(7,.cells [.ptr 0 0]),(8,.cells (cAsk a))]),n:=9,j:=0,d:=[],m:=2 }) ?_ ?_
    · show Le _ { t:=asg [(6,.ptr 5 0),(7,.ptr 6 0),(24,.clo 114 [.ptr 7 0,.ptr 8 0])],h:=hasg [(5,.cells [.nil]),(6,.cells [aB false]),(0,carC c.cabins c.secs 1),(1,rowT c.sold),(7,.cells [.ptr 0 0]),(8,.cells (cAsk a))],n:=9,j:=0,d:=[],m:=2 }
      (refine Le.ok some [] ?_;constructor;all_goals (try simp only [vle,vkt,seval,tbD27_shift,xbD27_1,aTrs,aAsk,cAsk,mCabin,mTk,carC,rowT,lent2,plL,s0L,s0H,scheck,pPlaces,List.length_map,List.map_nil,nth,hwL,Nat.zero_add,Nat.sub_zero]))
      all_goals first|rfl|(simp [cAsk,AV.leL,AV.le,AV.idsL,AV.ids];done)
    rw [← s0_lent0 c a]
    obtain ⟨N,hN⟩:∃ N,(plP c a).length=N:=⟨_,rfl⟩
    obtain ⟨R,hR⟩:∃ R,(if N=0 then 0 else 1)=R:=⟨_,rfl⟩
    have hRo:Rounds (fun _=>false) R N:=by
      by_cases hN0:N=0
      · rw [if_pos hN0] at hR
        exact ⟨by omega,fun j hj=>by omega,fun h=>by omega⟩
      · rw [if_neg hN0] at hR
        exact ⟨by omega,fun j hj=>by omega,fun h=>⟨by omega,rfl⟩⟩
    have hR1:∀ j,j < R→j=0∧R=1:=fun j hj=>by
      by_cases hN0:N=0
      · rw [if_pos hN0] at hR;omega
      · rw [if_neg hN0] at hR;omega
    refine sym_rangeP (fun F h=>h) 1 (L:=s0L0) (L':=s0L) (xs:=[1,7,8]) (hs:=[0,1,7,8]) (n:=9) (nl:=1) (hc:=s0H) (Lp:=plL c a) (jj:=fun _=>0) (d:=[]) (ys:=plY c a) (hl:=plH c a) (ans:=fun _=>false) (ex:=.ret) (caps:=[.ptr 7 0,.ptr 8 0]) (caps0:=[.ptr 2 0,.ptr 3 0]) (N:=(plP c a).length) (R:=R) (A':=fun _ _=>True) rfl (places_it hpo) (by rw [hN];exact hRo) (.inl rfl) ?_ ?_ ?_ rfl (by simp) ?_ (by simp) (fun _ _ _ _ _ _=>trivial) ?_ ?_ ?_ ?_ ?_ ?_ (fun j hj=>?_) ?_ (fun j hj=>?_) (fun hall=>?_) (fun hpos _=>?_)
    · simp [AV.leL,AV.le]
    · simp [AV.nocbL,AV.nocb]
    · simp [lentP,plL,carC,rowT,cAsk,AObj.nocb,AV.nocbL,AV.nocb,AObj.ids,AV.ids,AV.idsL,AObj.ren,AV.renL,AV.ren,AObj.le,AV.leL,AV.le,callRen]
    · simp [s0H,hasg]
    · simp [s0H,hasg]
    · simp [s0H,AObj.ids,AV.ids,AV.idsL,aB]
    · simp [subL,s0L,s0L0,asg,upd]
    · simp [xsOK]
    · intro j hj
      simp [absent,s0H,s0_lent]
    · simp [idsT,s0L,AV.ids]
    · refine ⟨?_,rfl, ?_, ?_,rfl, ?_⟩
      · simp [idsH,s0H,AObj.ids,AV.ids,AV.idsL,aB]
      · simp [lentQ,plH,lent2,carC,rowT,AObj.nocb,AV.nocbL,AV.nocb,AObj.ids,AV.ids,AV.idsL]
      · simp [argQ,plY,aBunks,AV.nocb,AV.ids]
      · simp [keysIn,keyIn,s0_lent,s0H,s0L,idsTL,AV.ids,ADf.ids,List.range_succ]
    · simp [idsH,s0H,AObj.ids,AV.ids,AV.idsL,aB]
    · obtain ⟨rfl,hR1⟩:=hR1 j hj
      have env:Env (fun _:Frm=>True) Try.prog tyB (tab []):=mkEnv trivial
      obtain ⟨x,hx⟩:∃ x,((plP c a).getD 0 default).1=x:=⟨_,rfl⟩
      obtain ⟨r,hr⟩:∃ r,((plP c a).getD 0 default).2=r:=⟨_,rfl⟩
      have hst:rStart s0L [25] [0] 9 1 (plY c a 0) (s0H 0) (plH c a 0)={ t:=asg [(25,aBunks x),(6,.ptr 5 0),(7,.ptr 6 0)],h:=hasg [(9,.mark),(5,.cells [.nil]),(6,.cells [aB false]),(0,carC c.cabins c.secs 10),(10,rowT r)],n:=11,m:=11 }:=by
        simp only [rStart,Nat.reduceAdd,s0_lent,plY,hx,hr,aBunks,List.map_cons,List.map_nil,AV.ren,List.zip_cons_cons,List.zip_nil_right,s0H,s0L,putsL,List.cons_append,List.nil_append]
        rfl
      show Sym _ _ _ (rStart s0L [25] [0] 9 1 (plY c a 0) (s0H 0) (plH c a 0)) _
      rw [hst]
      repeat' (first|(apply nx;with_reducible constructor)|refine jq (by decide) ?_|refine sym_scope ?_|refine scopeK_n ?_|refine scopeK_x ?_|refine scopeK_r ?_|((first|refine kz env fun Q hQ=>?_|refine kj fun Q hQ=>?_);simp only [vkt,seval,tbD27_shift,xbD27_1,aTrs,aAsk,cAsk,mCabin,mTk,carC,rowT,lent2,plL,s0L,s0H,scheck,pPlaces,List.length_map,List.map_nil,nth,hwL,Nat.zero_add,Nat.sub_zero];(try simp only [ite_and]);(repeat' (first|with_reducible assumption|refine And.intro ?_ ?_|intro hp));all_goals (first|(refine hQ _ ?_;clear hQ Q)|(refine hQ _ (fun h=>?_) (fun h=>?_) <;> clear hQ Q <;> (try simp only [vki,reduceCtorEq] at h))|(refine kx ?_;kernel_rfl)|omega|assumption|with_reducible rfl|skip)))
      refine ⟨rfl,rfl,some,_,RFin.okQ some [] ?_⟩
      constructor
      all_goals (try simp only [vle,lentR,rensL,callRen,plH,hr,vkt,seval,tbD27_shift,xbD27_1,aTrs,aAsk,cAsk,mCabin,mTk,carC,rowT,lent2,plL,s0L,s0H,scheck,pPlaces,List.length_map,List.map_nil,nth,hwL,Nat.zero_add,Nat.sub_zero])
      all_goals first|rfl|(simp;done)
    · have hR0:R=0:=by
        by_cases h:R=0
        · exact h
        · exact absurd (hall 0 (by omega)) (by simp)
      have hN0:N=0:=by
        by_cases h:N=0
        · exact h
        · rw [if_neg h] at hR;omega
      have hpe:plP c a=[]:=List.eq_nil_of_length_eq_zero (by rw [hN];exact hN0)
      have eh:hasg ((9,AObj.mark) :: s0H R++lentA [0,1,7,8] (9+1) 0 (plL c a))=hasg [(9,.mark),(5,.cells [.nil]),(6,.cells [aB false]),(0,carC c.cabins c.secs 1),(1,rowT c.sold),(7,.cells [.ptr 0 0]),(8,.cells (cAsk a))]:=by
        rw [show lentA [0,1,7,8] (9+1) 0 (plL c a)=lentA [0,1,7,8] 10 0 (plL c a) from rfl,s0_lent0,hR0];rfl
      rw [eh,if_neg (by simp [hpe])]
      repeat' (first|(apply nx;with_reducible constructor)|refine jq (by decide) ?_|refine sym_scope ?_|refine scopeK_n ?_|refine scopeK_x ?_|refine scopeK_r ?_|((first|refine kz env fun Q hQ=>?_|refine kj fun Q hQ=>?_);simp only [vkt,seval,tbD27_shift,xbD27_1,aTrs,aAsk,cAsk,mCabin,mTk,carC,rowT,lent2,plL,s0L,s0H,scheck,pPlaces,List.length_map,List.map_nil,nth,hwL,Nat.zero_add,Nat.sub_zero];(try simp only [ite_and]);(repeat' (first|with_reducible assumption|refine And.intro ?_ ?_|intro hp));all_goals (first|(refine hQ _ ?_;clear hQ Q)|(refine hQ _ (fun h=>?_) (fun h=>?_) <;> clear hQ Q <;> (try simp only [vki,reduceCtorEq] at h))|(refine kx ?_;kernel_rfl)|omega|assumption|with_reducible rfl|skip)))
      (simp only [vrt,Try.results87,vkt,seval,tbD27_shift,xbD27_1,aTrs,aAsk,cAsk,mCabin,mTk,carC,rowT,lent2,plL,s0L,s0H,scheck,pPlaces,List.length_map,List.map_nil,nth,hwL,Nat.zero_add,Nat.sub_zero];refine Fin.ok some [] ?_ ?_ ?_ ?_ ?_ rfl;all_goals (try simp only [vle,vkt,seval,tbD27_shift,xbD27_1,aTrs,aAsk,cAsk,mCabin,mTk,carC,rowT,lent2,plL,s0L,s0H,scheck,pPlaces,List.length_map,List.map_nil,nth,hwL,Nat.zero_add,Nat.sub_zero]))
      all_goals first|rfl|(simp [cAsk,AV.leL,AV.le];done)|exact fun i hi=>(match i,hi with|0,_=>rfl|1,_=>rfl)
    · have hRe:=(hR1 0 hpos).2
      have hN0:¬ N=0:=fun h=>by rw [if_pos h] at hR;omega
      have hpe:plP c a ≠ []:=fun h=>by rw [h] at hN;exact hN0 hN.symm
      have eh:hasg ((9,AObj.mark) :: s0H R++lentA [0,1,7,8] (9+1) 0 (plL c a))=hasg [(9,.mark),(5,.cells [.nil]),(6,.cells [aB true]),(0,carC c.cabins c.secs 1),(1,rowT c.sold),(7,.cells [.ptr 0 0]),(8,.cells (cAsk a))]:=by
        rw [show lentA [0,1,7,8] (9+1) 0 (plL c a)=lentA [0,1,7,8] 10 0 (plL c a) from rfl,s0_lent0,hRe];rfl
      rw [eh,if_pos ⟨h0,hpe⟩]
      repeat' (first|(apply nx;with_reducible constructor)|refine jq (by decide) ?_|refine sym_scope ?_|refine scopeK_n ?_|refine scopeK_x ?_|refine scopeK_r ?_|((first|refine kz env fun Q hQ=>?_|refine kj fun Q hQ=>?_);simp only [vkt,seval,tbD27_shift,xbD27_1,aTrs,aAsk,cAsk,mCabin,mTk,carC,rowT,lent2,plL,s0L,s0H,scheck,pPlaces,List.length_map,List.map_nil,nth,hwL,Nat.zero_add,Nat.sub_zero];(try simp only [ite_and]);(repeat' (first|with_reducible assumption|refine And.intro ?_ ?_|intro hp));all_goals (first|(refine hQ _ ?_;clear hQ Q)|(refine hQ _ (fun h=>?_) (fun h=>?_) <;> clear hQ Q <;> (try simp only [vki,reduceCtorEq] at h))|(refine kx ?_;kernel_rfl)|omega|assumption|with_reducible rfl|skip)))
      (simp only [vrt,Try.results87,vkt,seval,tbD27_shift,xbD27_1,aTrs,aAsk,cAsk,mCabin,mTk,carC,rowT,lent2,plL,s0L,s0H,scheck,pPlaces,List.length_map,List.map_nil,nth,hwL,Nat.zero_add,Nat.sub_zero];refine Fin.ok some [] ?_ ?_ ?_ ?_ ?_ rfl;all_goals (try simp only [vle,vkt,seval,tbD27_shift,xbD27_1,aTrs,aAsk,cAsk,mCabin,mTk,carC,rowT,lent2,plL,s0L,s0H,scheck,pPlaces,List.length_map,List.map_nil,nth,hwL,Nat.zero_add,Nat.sub_zero]))
      all_goals first|rfl|(simp [cAsk,AV.leL,AV.le];done)|exact fun i hi=>(match i,hi with|0,_=>rfl|1,_=>rfl)
  · rw [if_neg (fun h=>h0 h.1)]
    repeat' (first|(apply nx;with_reducible constructor)|refine jq (by decide) ?_|refine sym_scope ?_|refine scopeK_n ?_|refine scopeK_x ?_|refine scopeK_r ?_|((first|refine kz env fun Q hQ=>?_|refine kj fun Q hQ=>?_);simp only [vkt,seval,tbD27_shift,xbD27_1,aTrs,aAsk,cAsk,mCabin,mTk,carC,rowT,lent2,plL,s0L,s0H,scheck,pPlaces,List.length_map,List.map_nil,nth,hwL,Nat.zero_add,Nat.sub_zero,hc,h0,decide_true];(try simp only [ite_and]);(repeat' (first|with_reducible assumption|refine And.intro ?_ ?_|intro hp));all_goals (first|(refine hQ _ ?_;clear hQ Q)|(refine hQ _ (fun h=>?_) (fun h=>?_) <;> clear hQ Q <;> (try simp only [vki,reduceCtorEq] at h))|(refine kx ?_;kernel_rfl)|omega|assumption|with_reducible rfl|skip)))
    (simp only [vrt,Try.results87,vkt,seval,tbD27_shift,xbD27_1,aTrs,aAsk,cAsk,mCabin,mTk,carC,rowT,lent2,plL,s0L,s0H,scheck,pPlaces,List.length_map,List.map_nil,nth,hwL,Nat.zero_add,Nat.sub_zero];refine Fin.ok some [] ?_ ?_ ?_ ?_ ?_ rfl;all_goals (try simp only [vle,vkt,seval,tbD27_shift,xbD27_1,aTrs,aAsk,cAsk,mCabin,mTk,carC,rowT,lent2,plL,s0L,s0H,scheck,pPlaces,List.length_map,List.map_nil,nth,hwL,Nat.zero_add,Nat.sub_zero]))
    all_goals first|rfl|(simp [cAsk,AV.leL,AV.le];done)
end Go.Sym.B
namespace Go.Sym.B
open Go Go.Sym Go.Proofs Go.Sym.C
def pShift (cs:List Cabin) (s:Int) (a:Ask) (m:Nat) (S:St):List AV→Option Pk
  |[.ptr p 0,.sl ts,.agg aa]=>match S.h p with
    |some (.cells [.sl cc,.v (.int .i64 s'),.row r])=>match S.h r with
      |some (.row _ _ xs)=>some { pre:=cc=cs.map eCabin∧s'=s∧aa=cAsk a∧ts=(ts.map dInt).map eInt∧xs=(xs.map dTk).map eTk∧(ts.map dInt).length=m∧ShOk cs s a (xs.map dTk) (ts.map dInt),hs:=[p,r],ar:=[.ptr 0 0,.sl ts,.agg aa],L0:=lent2 cs s (xs.map dTk),v:=.tup [aTrs ((shiftA cs s a (ts.map dInt) (xs.map dTk)).getD []),aB (shiftA cs s a (ts.map dInt) (xs.map dTk)).isSome],L1:=(lent2 cs s (xs.map dTk)).map some }
      |_=>none
    |_=>none
  |_=>none
theorem eShift {A:Frm→Prop} {cs:List Cabin} {s:Int} {a:Ask} {m:Nat} (ih:ShFn cs s a m):EntryOK A Try.prog 87 (fnE (pShift cs s a m)):=fnE_ok fun S bs q h hp=>by
  unfold pShift at h
  split at h
  · split at h
    · split at h
      · cases h
        obtain ⟨_,_,h3,h4,_,h6,h7⟩:=hp
        have:=ih _ _ h6 h7
        rw [aInts,← h4,aAsk,← h3] at this
        exact this
      · cases h
    · cases h
  · cases h
def shT:List (Nat × AV):=[(3,.ptr 2 0),(4,.ptr 3 0),(5,.ptr 4 0),(6,.ptr 5 0),(7,.ptr 6 0),(8,.ptr 7 0),(9,.ptr 8 0)]
def shT0:List (Nat × AV):=shT++[(43,.clo 123 [.ptr 9 0])]
def outK (cs:List Cabin) (s:Int) (a:Ask) (r:List Int) (sold:List Tk) (k j:Nat):Option (List Tr):=if j=0 then none else shF cs s a r sold k ((bunksL cs).getD (j - 1) default)
def shH (cs:List Cabin) (s:Int) (a:Ask) (ts:List Int) (k:Nat) (was:Bunk) (T:List Tk) (o:Option (List Tr)):List (Nat × AObj):=[(0,carC cs s 1),(1,rowT T),(2,.cells [.ptr 0 0]),(3,.cells [.sl (ts.map eInt)]),(4,.cells (cAsk a)),(5,.cells [.sl ((o.getD []).map eTr)]),(6,.cells [aB o.isSome]),(7,.cells [aI k]),(8,.cells [.v (.int .i64 was.cab),.v (.int .i64 was.bed)])]
theorem sh_lent (cs:List Cabin) (s:Int):lentA [9] 11 0 [buO cs s]=[(9,buO cs s)]:=by
  simp [lentA,callRen,buO,AObj.ren,AV.renL,AV.ren]
def tbD28_shift:=kk @ty3 (kk @ty4 (kk @ty22 (kk @ty26 (kk @ty28 (kk @ty31 (kk @ty34 (kk @ty49 (kk @ty58 (kk @ty65 (kk @ty81 (kk @ty106 (kk @ty118 (kk @ti3.eq_1 (kk @ti4.eq_1 (kk @ti22.eq_1 (kk @ti26.eq_1 (kk @ti28.eq_1 (kk @ti31.eq_1 (kk @ti34.eq_1 (kk @ti49.eq_1 (kk @ti58.eq_1 (kk @ti65.eq_1 (kk @ti81.eq_1 (kk @ti106.eq_1 @ti118.eq_1))))))))))))))))))))))))
def xbD28_1:=kk @aI.eq_1 (kk @aB.eq_1 (kk @aInts.eq_1 (kk @mInt (kk @rInt (@eInt.eq_1)))))
end Go.Sym.B
