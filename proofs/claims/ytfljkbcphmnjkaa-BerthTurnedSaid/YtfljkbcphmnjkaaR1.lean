/- Walks and what they compute, joined: part 1. -/
import Derived.Test.YtfljkbcphmnjkaaB3
set_option linter.all false
namespace Go.Sym.B
open Go Go.Sym Go.Proofs Go.Sym.C
theorem _root_.Go.Sym.vj {a b:Prop} (x:a) (y:b):a∧b:=⟨x,y⟩
def _root_.Go.Sym.uq:=@blockK_miss
def _root_.Go.Sym.ux:=@blockK_hit
def _root_.Go.Sym.uz:=@blockK_n
def _root_.Go.Sym.uj:=@blockK_r
def _root_.Go.Sym.uk:=@thenK_x
def _root_.Go.Sym.uw:=@thenK_r
def _root_.Go.Sym.uv:=@thenK_n
def _root_.Go.Sym.vq:=@drawB_of
def _root_.Go.Sym.vx:=@sym_reg
def _root_.Go.Sym.vz:=@sym_cz
end Go.Sym.B
namespace Go.Sym.B
open Go Go.Sym Go.Proofs Go.Sym.C
end Go.Sym.B
namespace Go.Sym.B
open Go Go.Sym Go.Proofs Go.Sym.C
def slTk (a:Ask) (l:List Bunk) (k:Nat):List Tk:=(List.range k).map fun i=>tkOf a i (l.getD i default)
theorem tks_succ (a:Ask) (l:List Bunk) (k:Nat):slTk a l (k+1)=slTk a l k++[tkOf a k (l.getD k default)]:=by
  unfold slTk
  rw [List.range_succ,List.map_append];rfl
end Go.Sym.B
namespace Go.Sym.B
open Go Go.Sym Go.Proofs Go.Sym.C
def rmT (sex frm to:Int) (b:Bunk):Tk:=⟨0,sex,b.cab,b.bed,frm,to,false⟩
def rmB (c:Chart) (sex frm to:Int) (b:Bunk):Bool:=decide (besideE (rmT sex frm to b) c.sold=0)
def rmN (c:Chart) (sex frm to:Int) (j:Nat):Nat:=(((bunksL c.cabins).take j).filter (rmB c sex frm to)).length
theorem rmN_succ (c:Chart) (sex frm to:Int) {j:Nat} (h:j < (bunksL c.cabins).length):rmN c sex frm to (j+1)=rmN c sex frm to j+if rmB c sex frm to ((bunksL c.cabins).getD j default) then 1 else 0:=by
  unfold rmN
  rw [List.take_succ_eq_append_getElem h,List.filter_append,List.length_append,List.getD_eq_getElem?_getD,List.getElem?_eq_getElem h]
  show _+(List.filter _ [_]).length=_
  cases hb:rmB c sex frm to (bunksL c.cabins)[j] <;> simp [hb]
theorem rmN_le (c:Chart) (sex frm to:Int) (j:Nat):rmN c sex frm to j≤j:=by
  unfold rmN
  exact Nat.le_trans (List.length_filter_le _ _) (by rw [List.length_take];omega)
def roomN (c:Chart) (sex frm to:Int):Nat:=rmN c sex frm to (bunksL c.cabins).length
def roomA (c:Chart) (sex frm to:Int):Int × Int:=if checkE c ≠ 0 then (0,checkE c) else if inB sex 1 2=false then (0,8) else if wayE c.secs frm to ≠ 0 then (0,wayE c.secs frm to) else ((roomN c sex frm to:Int),0)
theorem bunks_3 {cs:List Cabin} (h2:∀ x ∈ cs,1≤x.beds∧x.beds≤3):(bunksL cs).length≤3 * cs.length:=by
  rw [bunks_len]
  induction cs with
  |nil=>simp [bdsL]
  |cons x l ih =>
    have h3:=ih fun y hy=>h2 y (List.mem_cons_of_mem _ hy)
    have h4:=h2 x (List.mem_cons_self ..)
    simp only [bdsL,List.map_cons,List.sum_cons,List.length_cons] at h3 ⊢
    omega
theorem bunks_n {cs:List Cabin} (h1:cs.length≤3) (h2:∀ x ∈ cs,1≤x.beds∧x.beds≤3):(bunksL cs).length≤9:=by
  have:=bunks_3 h2
  omega
def rmL:List (Nat × AV):=[(5,.ptr 1 0),(6,.ptr 2 0),(7,.ptr 3 0),(12,.ptr 6 0),(13,.ptr 7 0),(33,.clo 123 [.ptr 8 0])]
def rmH (c:Chart) (sex frm to:Int) (j:Nat):List (Nat × AObj):=[(1,.cells [aI sex]),(2,.cells [aI frm]),(3,.cells [aI to]),(4,carC c.cabins c.secs 5),(5,rowT c.sold),(6,.cells [.ptr 4 0]),(7,.cells [aI (rmN c sex frm to j)])]
theorem rm_lent (cs:List Cabin) (s:Int):lentA [8] 10 0 [buO cs s]=[(8,buO cs s)]:=rfl
def tbE8_Room:=vj @ty3 (vj @ty28 (vj @ty34 (vj @ty49 (vj @ty81 (vj @ty106 (vj @ti3.eq_1 (vj @ti28.eq_1 (vj @ti34.eq_1 (vj @ti49.eq_1 (vj @ti81.eq_1 @ti106.eq_1))))))))))
def xbE8_1:=vj @aI.eq_1 (vj @aB.eq_1 (vj @mInt (@gInt)))
set_option maxHeartbeats 4000000 in
theorem Room_fn (c:Chart) (sex frm to:Int) (hc:c.cabins.length≤maxLen):FnV Try.prog 42 [aChart c,aI sex,aI frm,aI to] (.tup [aI (roomA c sex frm to).1,aI (roomA c sex frm to).2]):=by
  have env:Env (fun F=>F.r=none) Try.prog tyB (tab [(44,valE true scheck),(91,valE true sin),(92,valE true sway),(93,fnE pCarOf),(94,fnE pBunks)]):=mkEnv ⟨echeck,ein,eway,eCarOf,eBunksF,trivial⟩
  refine Fn.of (A:=fun F=>F.r=none) (n0:=0) (D:=noD) (Fn0 Try.func42 rfl (fun vs w=>by kernel_rfl) (by kernel_rfl)) (by simp) (by simp [AV.ids,AV.idsL,aChart,cChart,aI]) (fun i o h=>by cases h) (fun _ _ _ h=>h) noD_ok ?_
  have ec:(⟨c.cabins,c.secs,c.sold⟩:Chart)=c:=rfl
  by_cases h0:checkE c=0
  · cases h1:inB sex 1 2 with
    |false =>
      have hr:roomA c sex frm to=(0,8):=by unfold roomA;rw [if_neg (fun h=>h h0),if_pos h1]
      rw [hr]
      repeat' (first|(apply nx;with_reducible constructor)|refine uq (by decide) ?_|refine sym_scope ?_|refine scopeK_n ?_|refine scopeK_x ?_|refine scopeK_r ?_|((first|refine vx env fun Q hQ=>?_|refine vz fun Q hQ=>?_);simp only [vkt,seval,tbE8_Room,xbE8_1,aBunk,aTk,cTk,mTk,mCabin,aChart,cChart,carC,rowT,lent2,buO,rmL,rmH,scheck,sin,sway,pCarOf,pBunks,pFits,List.length_map,ec,h0,h1,decide_true];(try simp only [ite_and]);(repeat' (first|with_reducible assumption|refine And.intro ?_ ?_|intro hp));all_goals (first|(refine hQ _ ?_;clear hQ Q)|(refine hQ _ (fun h=>?_) (fun h=>?_) <;> clear hQ Q <;> (try simp only [vki,reduceCtorEq] at h))|(refine vq ?_;kernel_rfl)|omega|assumption|with_reducible rfl|skip)))
      (simp only [vrt,Try.results42,vkt,seval,tbE8_Room,xbE8_1,aBunk,aTk,cTk,mTk,mCabin,aChart,cChart,carC,rowT,lent2,buO,rmL,rmH,scheck,sin,sway,pCarOf,pBunks,pFits,List.length_map];refine Fin.val rfl ?_;(try simp only [AV.le,AV.leL]))
      all_goals first|rfl|(simp;done)
    |true =>
      obtain ⟨w,hw⟩:∃ w,wayE c.secs frm to=w:=⟨_,rfl⟩
      by_cases h2:w=0
      · rw [h2] at hw
        have hr:roomA c sex frm to=((roomN c sex frm to:Int),0):=by unfold roomA;rw [if_neg (fun h=>h h0),if_neg (by rw [h1];decide),if_neg (fun h=>h hw)]
        rw [hr]
        have hv:=val_of h0
        have b1:=hv.car.cabs
        have b2:=hv.many
        have b3:c.sold.length≤100000:=by omega
        have b4:c.cabins.length≤100000:=by omega
        have b5:c.sold.length≤100:=by omega
        have b6:=bunks_n b1.2 hv.car.beds
        repeat' (first|(apply nx;with_reducible constructor)|refine uq (by decide) ?_|refine sym_scope ?_|refine scopeK_n ?_|refine scopeK_x ?_|refine scopeK_r ?_|((first|refine vx env fun Q hQ=>?_|refine vz fun Q hQ=>?_);simp only [vkt,seval,tbE8_Room,xbE8_1,aBunk,aTk,cTk,mTk,mCabin,aChart,cChart,carC,rowT,lent2,buO,rmL,rmH,scheck,sin,sway,pCarOf,pBunks,pFits,List.length_map,ec,h0,h1,hw,b3,b4,decide_true];(try simp only [ite_and]);(repeat' (first|with_reducible assumption|refine And.intro ?_ ?_|intro hp));all_goals (first|(refine hQ _ ?_;clear hQ Q)|(refine hQ _ (fun h=>?_) (fun h=>?_) <;> clear hQ Q <;> (try simp only [vki,reduceCtorEq] at h))|(refine vq ?_;kernel_rfl)|omega|assumption|with_reducible rfl|skip)))
        refine sym_le (S':={ t:=asg rmL,h:=hasg (rmH c sex frm to 0++[(8,buO c.cabins c.secs)]),n:=9,j:=0,d:=[],m:=0 }) ?_ ?_
        · show Le _ { t:=asg [(5,.ptr 1 0),(6,.ptr 2 0),(7,.ptr 3 0),(12,.ptr 6 0),(13,.ptr 7 0),(33,.clo 123 [.ptr 8 0])],h:=hasg [(1,.cells [aI sex]),(2,.cells [aI frm]),(3,.cells [aI to]),(4,carC c.cabins c.secs 5),(5,rowT c.sold),(6,.cells [.ptr 4 0]),(7,.cells [aI 0]),(8,buO c.cabins c.secs)],n:=9,j:=0,d:=[],m:=0 }
          (refine Le.ok some [] ?_;constructor;all_goals (try simp only [vle,vkt,seval,tbE8_Room,xbE8_1,aBunk,aTk,cTk,mTk,mCabin,aChart,cChart,carC,rowT,lent2,buO,rmL,rmH,scheck,sin,sway,pCarOf,pBunks,pFits,List.length_map]))
          all_goals first|rfl|(simp;done)
        rw [← rm_lent c.cabins c.secs]
        have hRo:Rounds (fun _=>true) (bunksL c.cabins).length (bunksL c.cabins).length:=⟨Nat.le_refl _,fun _ _=>rfl,fun h=>absurd h (Nat.lt_irrefl _)⟩
        refine sym_rangeP (fun F h=>h) 1 (L:=rmL) (L':=rmL) (xs:=[]) (hs:=[8]) (n:=9) (nl:=0) (hc:=rmH c sex frm to) (Lp:=[buO c.cabins c.secs]) (jj:=fun _=>0) (d:=[]) (ys:=buY c.cabins) (hl:=fun _=>[buO c.cabins c.secs]) (ans:=fun _=>true) (ex:=.ret) (caps:=[.ptr 8 0]) (caps0:=[.ptr 0 0]) (N:=(bunksL c.cabins).length) (R:=(bunksL c.cabins).length) (A':=fun _ _=>True) rfl (bunks_it c.cabins c.secs ⟨by omega,fun x hx=>by have:=hv.car.beds x hx;omega⟩) hRo (.inl rfl) ?_ ?_ ?_ rfl (by simp) ?_ (by simp) (fun _ _ _ _ _ _=>trivial) ?_ ?_ (fun _ _=>rfl) (fun x hx=>by cases hx) (fun j hj p _ h=>by cases h) ?_ (fun j hj=>?_) ?_ (fun j hj=>?_) (fun hall=>?_) (fun hpos hlast=>by cases hlast)
        · simp [AV.leL,AV.le]
        · simp [AV.nocbL,AV.nocb]
        · simp [lentP,buO,AObj.nocb,AV.nocbL,AV.nocb,AObj.ids,AV.ids,AV.idsL,AObj.ren,AV.renL,AV.ren,AObj.le,AV.leL,AV.le,oneB]
        · simp [rmH,hasg]
        · simp [rmH,hasg]
        · simp [rmH,AObj.ids,AV.ids,AV.idsL,carC,rowT,aI]
        · simp [idsT,rmL,AV.ids,AV.idsL]
        · refine ⟨?_,rfl, ?_, ?_,rfl, ?_⟩
          · simp [idsH,rmH,AObj.ids,AV.ids,AV.idsL,carC,rowT,aI]
          · simp [lentQ,buO,AObj.nocb,AV.nocbL,AV.nocb,AObj.ids,AV.ids,AV.idsL]
          · simp [argQ,buY,aBunk,AV.nocb,AV.nocbL,AV.ids,AV.idsL]
          · simp [keysIn,keyIn,lentA,callRen,rmH,rmL,idsTL,AV.ids,AV.idsL,ADf.ids,List.range_succ]
        · simp [idsH,rmH,AObj.ids,AV.ids,AV.idsL,carC,rowT,aI]
        · have env:Env (fun _:Frm=>True) Try.prog tyB (tab [(95,fnE pFits)]):=mkEnv ⟨eFits,trivial⟩
          have hs:=rmN_succ c sex frm to hj
          have hle:=rmN_le c sex frm to j
          obtain ⟨b,hb⟩:∃ b,(bunksL c.cabins).getD j default=b:=⟨_,rfl⟩
          obtain ⟨n,hn⟩:∃ n,rmN c sex frm to j=n:=⟨_,rfl⟩
          rw [hb,hn] at hs
          rw [hn] at hle
          have et:(⟨0,sex,b.cab,b.bed,frm,to,false⟩:Tk)=rmT sex frm to b:=rfl
          have hrb:rmB c sex frm to b=decide (besideE (rmT sex frm to b) c.sold=0):=rfl
          have w1:IntKind.wrap .i64 ((n:Int)+1)=((n+1:Nat):Int):=by rw [wrap64 (by omega) (by omega)];rfl
          have hst:rStart rmL [34] [8] 9 0 (buY c.cabins j) (rmH c sex frm to j) [buO c.cabins c.secs]={ t:=asg [(34,aBunk b),(5,.ptr 1 0),(6,.ptr 2 0),(7,.ptr 3 0),(12,.ptr 6 0),(13,.ptr 7 0),(33,.clo 123 [.ptr 8 0])],h:=hasg [(9,.mark),(1,.cells [aI sex]),(2,.cells [aI frm]),(3,.cells [aI to]),(4,carC c.cabins c.secs 5),(5,rowT c.sold),(6,.cells [.ptr 4 0]),(7,.cells [aI n]),(8,buO c.cabins c.secs)],n:=10,m:=10 }:=by
            simp only [rStart,buY,hb,aBunk,List.map_cons,List.map_nil,AV.ren,AV.renL,List.zip_cons_cons,List.zip_nil_right,rmH,hn,rmL,putsL,List.cons_append,List.nil_append,rm_lent]
            rfl
          show Sym _ _ _ (rStart rmL [34] [8] 9 0 (buY c.cabins j) (rmH c sex frm to j) [buO c.cabins c.secs]) _
          rw [hst]
          cases hq:rmB c sex frm to b with
          |true =>
            rw [hq] at hs hrb
            have hrb:=hrb.symm
            have hs:rmN c sex frm to (j+1)=n+1:=hs
            repeat' (first|(apply nx;with_reducible constructor)|refine uq (by decide) ?_|refine sym_scope ?_|refine scopeK_n ?_|refine scopeK_x ?_|refine scopeK_r ?_|((first|refine vx env fun Q hQ=>?_|refine vz fun Q hQ=>?_);simp only [vkt,seval,tbE8_Room,xbE8_1,aBunk,aTk,cTk,mTk,mCabin,aChart,cChart,carC,rowT,lent2,buO,rmL,rmH,scheck,sin,sway,pCarOf,pBunks,pFits,List.length_map,et,hrb,b5,w1];(try simp only [ite_and]);(repeat' (first|with_reducible assumption|refine And.intro ?_ ?_|intro hp));all_goals (first|(refine hQ _ ?_;clear hQ Q)|(refine hQ _ (fun h=>?_) (fun h=>?_) <;> clear hQ Q <;> (try simp only [vki,reduceCtorEq] at h))|(refine vq ?_;kernel_rfl)|omega|assumption|with_reducible rfl|skip)))
            refine ⟨rfl,rfl,some,_,RFin.okQ some [] ?_⟩
            constructor
            all_goals (try simp only [vle,lentR,rensL,callRen,hs,vkt,seval,tbE8_Room,xbE8_1,aBunk,aTk,cTk,mTk,mCabin,aChart,cChart,carC,rowT,lent2,buO,rmL,rmH,scheck,sin,sway,pCarOf,pBunks,pFits,List.length_map])
            all_goals first|rfl|(simp;done)
          |false =>
            rw [hq] at hs hrb
            have hrb:=hrb.symm
            have hs:rmN c sex frm to (j+1)=n:=hs
            repeat' (first|(apply nx;with_reducible constructor)|refine uq (by decide) ?_|refine sym_scope ?_|refine scopeK_n ?_|refine scopeK_x ?_|refine scopeK_r ?_|((first|refine vx env fun Q hQ=>?_|refine vz fun Q hQ=>?_);simp only [vkt,seval,tbE8_Room,xbE8_1,aBunk,aTk,cTk,mTk,mCabin,aChart,cChart,carC,rowT,lent2,buO,rmL,rmH,scheck,sin,sway,pCarOf,pBunks,pFits,List.length_map,et,hrb,b5];(try simp only [ite_and]);(repeat' (first|with_reducible assumption|refine And.intro ?_ ?_|intro hp));all_goals (first|(refine hQ _ ?_;clear hQ Q)|(refine hQ _ (fun h=>?_) (fun h=>?_) <;> clear hQ Q <;> (try simp only [vki,reduceCtorEq] at h))|(refine vq ?_;kernel_rfl)|omega|assumption|with_reducible rfl|skip)))
            refine ⟨rfl,rfl,some,_,RFin.okQ some [] ?_⟩
            constructor
            all_goals (try simp only [vle,lentR,rensL,callRen,hs,vkt,seval,tbE8_Room,xbE8_1,aBunk,aTk,cTk,mTk,mCabin,aChart,cChart,carC,rowT,lent2,buO,rmL,rmH,scheck,sin,sway,pCarOf,pBunks,pFits,List.length_map])
            all_goals first|rfl|(simp;done)
        · have eh:hasg ((9,AObj.mark) :: rmH c sex frm to (bunksL c.cabins).length++lentA [8] (9+1) 0 [buO c.cabins c.secs])=hasg [(9,.mark),(7,.cells [aI (roomN c sex frm to)]),(1,.cells [aI sex]),(2,.cells [aI frm]),(3,.cells [aI to]),(4,carC c.cabins c.secs 5),(5,rowT c.sold),(6,.cells [.ptr 4 0]),(8,buO c.cabins c.secs)]:=by
            rw [show lentA [8] (9+1) 0 [buO c.cabins c.secs]=lentA [8] 10 0 [buO c.cabins c.secs] from rfl,rm_lent]
            funext i
            simp only [rmH,List.cons_append,List.nil_append,hasg,roomN]
            repeat' split
            all_goals first|rfl|omega
          rw [eh]
          simp only [rmL]
          repeat' (first|(apply nx;with_reducible constructor)|refine uq (by decide) ?_|refine sym_scope ?_|refine scopeK_n ?_|refine scopeK_x ?_|refine scopeK_r ?_|((first|refine vx env fun Q hQ=>?_|refine vz fun Q hQ=>?_);simp only [vkt,seval,tbE8_Room,xbE8_1,aBunk,aTk,cTk,mTk,mCabin,aChart,cChart,carC,rowT,lent2,buO,rmL,rmH,scheck,sin,sway,pCarOf,pBunks,pFits,List.length_map];(try simp only [ite_and]);(repeat' (first|with_reducible assumption|refine And.intro ?_ ?_|intro hp));all_goals (first|(refine hQ _ ?_;clear hQ Q)|(refine hQ _ (fun h=>?_) (fun h=>?_) <;> clear hQ Q <;> (try simp only [vki,reduceCtorEq] at h))|(refine vq ?_;kernel_rfl)|omega|assumption|with_reducible rfl|skip)))
          (simp only [vrt,Try.results42,vkt,seval,tbE8_Room,xbE8_1,aBunk,aTk,cTk,mTk,mCabin,aChart,cChart,carC,rowT,lent2,buO,rmL,rmH,scheck,sin,sway,pCarOf,pBunks,pFits,List.length_map];refine Fin.val rfl ?_;(try simp only [AV.le,AV.leL]))
          all_goals first|rfl|(simp;done)
      · have hr:roomA c sex frm to=(0,w):=by unfold roomA;rw [if_neg (fun h=>h h0),if_neg (by rw [h1];decide),hw,if_pos h2]
        rw [hr]
        have d2:decide (w=0)=false:=decide_eq_false h2
        repeat' (first|(apply nx;with_reducible constructor)|refine uq (by decide) ?_|refine sym_scope ?_|refine scopeK_n ?_|refine scopeK_x ?_|refine scopeK_r ?_|((first|refine vx env fun Q hQ=>?_|refine vz fun Q hQ=>?_);simp only [vkt,seval,tbE8_Room,xbE8_1,aBunk,aTk,cTk,mTk,mCabin,aChart,cChart,carC,rowT,lent2,buO,rmL,rmH,scheck,sin,sway,pCarOf,pBunks,pFits,List.length_map,ec,h0,h1,hw,d2,decide_true];(try simp only [ite_and]);(repeat' (first|with_reducible assumption|refine And.intro ?_ ?_|intro hp));all_goals (first|(refine hQ _ ?_;clear hQ Q)|(refine hQ _ (fun h=>?_) (fun h=>?_) <;> clear hQ Q <;> (try simp only [vki,reduceCtorEq] at h))|(refine vq ?_;kernel_rfl)|omega|assumption|with_reducible rfl|skip)))
        (simp only [vrt,Try.results42,vkt,seval,tbE8_Room,xbE8_1,aBunk,aTk,cTk,mTk,mCabin,aChart,cChart,carC,rowT,lent2,buO,rmL,rmH,scheck,sin,sway,pCarOf,pBunks,pFits,List.length_map];refine Fin.val rfl ?_;(try simp only [AV.le,AV.leL]))
        all_goals first|rfl|(simp;done)
  · obtain ⟨e,he⟩:∃ e,checkE c=e:=⟨_,rfl⟩
    rw [he] at h0
    have hr:roomA c sex frm to=(0,e):=by unfold roomA;rw [he,if_pos h0]
    rw [hr]
    have d0:decide (e=0)=false:=decide_eq_false h0
    repeat' (first|(apply nx;with_reducible constructor)|refine uq (by decide) ?_|refine sym_scope ?_|refine scopeK_n ?_|refine scopeK_x ?_|refine scopeK_r ?_|((first|refine vx env fun Q hQ=>?_|refine vz fun Q hQ=>?_);simp only [vkt,seval,tbE8_Room,xbE8_1,aBunk,aTk,cTk,mTk,mCabin,aChart,cChart,carC,rowT,lent2,buO,rmL,rmH,scheck,sin,sway,pCarOf,pBunks,pFits,List.length_map,ec,he,d0];(try simp only [ite_and]);(repeat' (first|with_reducible assumption|refine And.intro ?_ ?_|intro hp));all_goals (first|(refine hQ _ ?_;clear hQ Q)|(refine hQ _ (fun h=>?_) (fun h=>?_) <;> clear hQ Q <;> (try simp only [vki,reduceCtorEq] at h))|(refine vq ?_;kernel_rfl)|omega|assumption|with_reducible rfl|skip)))
    (simp only [vrt,Try.results42,vkt,seval,tbE8_Room,xbE8_1,aBunk,aTk,cTk,mTk,mCabin,aChart,cChart,carC,rowT,lent2,buO,rmL,rmH,scheck,sin,sway,pCarOf,pBunks,pFits,List.length_map];refine Fin.val rfl ?_;(try simp only [AV.le,AV.leL]))
    all_goals first|rfl|(simp;done)
end Go.Sym.B
namespace Go.Sym.B
open Go Go.Sym Go.Proofs Go.Sym.C
theorem beside_zero {t:Tk} {l:List Tk}:besideE t l=0 ↔ ∀ x ∈ l,twiceB t x=false∧togB x t=true:=by
  unfold besideE
  constructor
  · intro h x hx
    split at h
    · exact absurd h (by decide)
    rename_i h1
    split at h
    · exact absurd h (by decide)
    rename_i h2
    refine ⟨?_, ?_⟩
    · cases hq:twiceB t x with
      |false=>rfl
      |true=>exact absurd (List.any_eq_true.2 ⟨x,hx,hq⟩) h1
    · cases hq:togB x t with
      |true=>rfl
      |false=>exact absurd (List.any_eq_true.2 ⟨x,hx,by rw [hq];rfl⟩) h2
  · intro h
    rw [if_neg,if_neg]
    · rw [List.any_eq_true]
      rintro ⟨x,hx,h1⟩
      rw [(h x hx).2] at h1
      exact absurd h1 (by decide)
    · rw [List.any_eq_true]
      rintro ⟨x,hx,h1⟩
      rw [(h x hx).1] at h1
      exact absurd h1 (by decide)
theorem near_one (cs:List Cabin) (b:Bunk):nearB cs [b]=true:=by
  unfold nearB
  simp
structure RmInv (C:Chart) (a:Ask) (i:Nat) (c:Chart):Prop where
  chk:checkE c=0
  cabs:c.cabins=C.cabins
  secs:c.secs=C.secs
  len:c.sold.length=C.sold.length+i
  lt:∀ t ∈ c.sold,t.party < 60+(i:Int)
end Go.Sym.B
namespace Go.Sym.B
open Go Go.Sym Go.Proofs Go.Sym.C
def alL (bs:List Bunk):Nat→List (List Bunk)
  |0=>[[]]
  |m+1=>bs.flatMap fun b=>(alL bs m).map (b :: ·)
theorem alL_one {bs:List Bunk}:∀ {m},∀ p ∈ alL bs m,p.length=m
  |0,p,hp=>by rw [List.mem_singleton.1 hp];rfl
  |m+1,p,hp=>by
    obtain ⟨b,_,hp⟩:=List.mem_flatMap.1 hp
    obtain ⟨q,hq,rfl⟩:=List.mem_map.1 hp
    rw [List.length_cons,alL_one q hq]
end Go.Sym.B
namespace Go.Sym.B
open Go Go.Sym Go.Proofs Go.Sym.C
end Go.Sym.B
namespace Go.Sym.B
open Go Go.Sym Go.Proofs Go.Sym.C
end Go.Sym.B
namespace Go.Sym.B
open Go Go.Sym Go.Proofs Go.Sym.C
def stB (a b:Tk) (s:Int):Bool:=decide (a.cab=b.cab) && !decide (s < a.frm) && !decide (a.to≤s) && !decide (s < b.frm) && !decide (b.to≤s) && (decide (a.bed=b.bed) || (!decide (a.party=b.party) && (!decide (a.sex=b.sex) || a.dog || b.dog)))
def prB (c:Chart) (a b:Tk):Bool:=(List.range c.secs.toNat).any fun (s:Nat)=>stB a b s
def rwB (c:Chart) (i:Nat):Bool:=(List.range i).any fun k=>prB c (c.sold.getD i default) (c.sold.getD k default)
def strB (c:Chart):Bool:=(List.range c.sold.length).any (rwB c)
def isFreeB (c:Chart) (a:Ask) (l:List Bunk):Bool:=nearB c.cabins l && !strB ⟨c.cabins,c.secs,c.sold++slTk a l l.length⟩
end Go.Sym.B
namespace Go.Sym.B
open Go Go.Sym Go.Proofs Go.Sym.C
def stpB (cs:List Cabin) (a:Ask):List Tk→List Bunk→List Bunk→Bool
  |_,_,[]=>true
  |sold,begun,b :: r=>goB cs a sold begun b && stpB cs a (sold++[tkOf a begun.length b]) (begun++[b]) r
theorem grow_stp (cs:List Cabin) (a:Ask):∀ (m:Nat) (sold:List Tk) (begun:List Bunk),(growP cs a m sold begun).map (·.1)=((alL (bunksL cs) m).filter (stpB cs a sold begun)).map (begun++·)
  |0,sold,begun=>by
    show [begun]=(([[]]:List (List Bunk)).filter (stpB cs a sold begun)).map (begun++·)
    rw [List.filter_cons_of_pos (by rfl)]
    simp
  |m+1,sold,begun=>by
    rw [growP_succ,alL,List.map_flatMap,List.filter_flatMap,List.map_flatMap]
    refine congrArg (List.flatMap · (bunksL cs)) (funext fun b=>?_)
    unfold gbL
    cases h:goB cs a sold begun b with
    |true =>
      rw [if_pos rfl,grow_stp cs a m,List.filter_map,List.map_map]
      have e1:(stpB cs a sold begun ∘ fun x=>b :: x)=stpB cs a (sold++[tkOf a begun.length b]) (begun++[b]):=funext fun r=>by
        show stpB cs a sold begun (b :: r)=_
        rw [stpB,h,Bool.true_and]
      rw [e1]
      refine congrArg (List.map · _) (funext fun r=>?_)
      show (begun++[b])++r=begun++b :: r
      simp
    |false =>
      rw [if_neg (by decide),List.filter_map]
      have e1:(stpB cs a sold begun ∘ fun x=>b :: x)=fun _=>false:=funext fun r=>by
        show stpB cs a sold begun (b :: r)=_
        rw [stpB,h,Bool.false_and]
      rw [e1]
      simp
def PWr:List Tk→List Tk→Prop
  |_,[]=>True
  |s,t :: ts=>besideE t s=0∧PWr (s++[t]) ts
theorem pwr_app:∀ (s l r:List Tk),PWr s (l++r) ↔ PWr s l∧PWr (s++l) r
  |s,[],r=>by simp [PWr]
  |s,t :: l,r=>by
    show besideE t s=0∧PWr (s++[t]) (l++r) ↔ (besideE t s=0∧PWr (s++[t]) l)∧PWr (s++t :: l) r
    rw [pwr_app (s++[t]) l r,and_assoc]
    simp
theorem pwr_iff:∀ (s l:List Tk),PWr s l ↔ ∀ i,i < l.length→besideE (l.getD i default) (s++l.take i)=0
  |s,[]=>by simp [PWr]
  |s,t :: l=>by
    show besideE t s=0∧PWr (s++[t]) l ↔ _
    rw [pwr_iff (s++[t]) l]
    constructor
    · rintro ⟨h1,h2⟩ i hi
      cases i with
      |zero=>simpa using h1
      |succ i =>
        have:=h2 i (by simpa using hi)
        simpa using this
    · intro h
      refine ⟨by simpa using h 0 (by simp),fun i hi=>?_⟩
      have:=h (i+1) (by simpa using hi)
      simpa using this
def tkR (a:Ask):Nat→List Bunk→List Tk
  |_,[]=>[]
  |n,b :: r=>tkOf a n b :: tkR a (n+1) r
theorem tkR_app (a:Ask):∀ (n:Nat) (l r:List Bunk),tkR a n (l++r)=tkR a n l++tkR a (n+l.length) r
  |n,[],r=>by simp [tkR]
  |n,b :: l,r=>by
    show tkOf a n b :: tkR a (n+1) (l++r)=_
    rw [tkR_app a (n+1) l r]
    simp [tkR,Nat.add_assoc,Nat.add_comm 1]
theorem tkR_sl (a:Ask) (l:List Bunk):∀ k,k≤l.length→slTk a l k=tkR a 0 (l.take k)
  |0,_=>by simp [slTk,tkR]
  |k+1,h=>by
    rw [tks_succ,tkR_sl a l k (by omega),List.take_succ_eq_append_getElem h,tkR_app,List.length_take]
    have hk:k < l.length:=h
    simp [tkR,List.getD_eq_getElem?_getD,hk,Nat.min_eq_left (show k≤l.length by omega)]
theorem mem_tkR {a:Ask} {t:Tk}:∀ {n:Nat} {l:List Bunk},t ∈ tkR a n l→∃ i b,i < l.length∧b ∈ l∧t=tkOf a (n+i) b
  |n,[],h=>by simp [tkR] at h
  |n,b :: l,h=>by
    rcases List.mem_cons.1 h with rfl|h
    · exact ⟨0,b,by simp,by simp,rfl⟩
    · obtain ⟨i,b',h1,h2,h3⟩:=mem_tkR h
      exact ⟨i+1,b',by simpa using h1,List.mem_cons_of_mem _ h2,by rw [h3,show n+1+i=n+(i+1) by omega]⟩
theorem fmin_le (l:List Bunk):∀ m:Int,l.foldl (fun m b=>min m b.cab) m≤m:=by
  induction l with
  |nil=>intro m;exact Int.le_refl _
  |cons b l ih=>intro m;have:=ih (min m b.cab);rw [List.foldl_cons];omega
theorem fmax_le (l:List Bunk):∀ m:Int,m≤l.foldl (fun m b=>max m b.cab) m:=by
  induction l with
  |nil=>intro m;exact Int.le_refl _
  |cons b l ih=>intro m;have:=ih (max m b.cab);rw [List.foldl_cons];omega
theorem near_pre {cs:List Cabin} {l r:List Bunk} (h:nearB cs (l++r)=true) (hl:l ≠ []):nearB cs l=true:=by
  have h0:(l++r).getD 0 default=l.getD 0 default:=by
    cases l with
    |nil=>exact absurd rfl hl
    |cons b l=>rfl
  unfold nearB at h ⊢
  simp only [h0,List.foldl_append] at h ⊢
  have g1:=fmin_le r (l.foldl (fun m b=>min m b.cab) (l.getD 0 default).cab)
  have g2:=fmax_le r (l.foldl (fun m b=>max m b.cab) (l.getD 0 default).cab)
  have g3:=fmin_le l (l.getD 0 default).cab
  have g4:=fmax_le l (l.getD 0 default).cab
  generalize l.foldl (fun m b=>min m b.cab) (l.getD 0 default).cab=lo at *
  generalize l.foldl (fun m b=>max m b.cab) (l.getD 0 default).cab=hi at *
  generalize r.foldl (fun m b=>min m b.cab) lo=lo2 at *
  generalize r.foldl (fun m b=>max m b.cab) hi=hi2 at *
  rw [Bool.or_eq_true,Bool.and_eq_true,decide_eq_true_eq,decide_eq_true_eq] at h ⊢
  rcases h with h|⟨h,hd⟩
  · exact .inl (by omega)
  · by_cases he:lo=hi
    · exact .inl he
    · have:lo=lo2:=by omega
      exact .inr ⟨by omega,by rw [this];exact hd⟩
theorem stp_iff {cs:List Cabin} {a:Ask} (hw:a.frm < a.to):∀ (r:List Bunk) (sold:List Tk) (begun:List Bunk),(∀ b ∈ begun,∃ x ∈ sold,x.cab=b.cab∧x.bed=b.bed∧x.frm=a.frm∧x.to=a.to) →
    (stpB cs a sold begun r=true ↔ PWr sold (tkR a begun.length r)∧(r ≠ []→nearB cs (begun++r)=true))
  |[],sold,begun,_=>by simp [stpB,tkR,PWr]
  |b :: r,sold,begun,hb=>by
    have hb':∀ b' ∈ begun++[b],∃ x ∈ sold++[tkOf a begun.length b],x.cab=b'.cab∧x.bed=b'.bed∧x.frm=a.frm∧x.to=a.to:=fun b' h=>by
      rcases List.mem_append.1 h with h|h
      · obtain ⟨x,h1,h2⟩:=hb b' h
        exact ⟨x,List.mem_append.2 (.inl h1),h2⟩
      · rw [List.mem_singleton.1 h]
        exact ⟨_,List.mem_append.2 (.inr (List.mem_singleton.2 rfl)),rfl,rfl,rfl,rfl⟩
    have ih:=stp_iff (cs:=cs) hw r (sold++[tkOf a begun.length b]) (begun++[b]) hb'
    rw [stpB,Bool.and_eq_true,ih]
    have el:(begun++[b]).length=begun.length+1:=by simp
    rw [el]
    show _ ↔ (besideE (tkOf a begun.length b) sold=0∧PWr (sold++[tkOf a begun.length b]) (tkR a (begun.length+1) r))∧_
    have ea:begun++[b]++r=begun++b :: r:=by simp
    rw [ea]
    unfold goB
    rw [Bool.and_eq_true,Bool.and_eq_true,decide_eq_true_eq]
    constructor
    · rintro ⟨⟨⟨_,h2⟩,h3⟩,h4,h5⟩
      refine ⟨⟨h3,h4⟩,fun _=>?_⟩
      cases r with
      |nil=>exact h2
      |cons b2 r=>exact h5 (by simp)
    · rintro ⟨⟨h3,h4⟩,h5⟩
      have h5:=h5 (by simp)
      refine ⟨⟨⟨?_, ?_⟩,h3⟩,h4,fun _=>h5⟩
      · cases hc:begun.contains b with
        |false=>rfl
        |true =>
          obtain ⟨x,hx,g1,g2,g3,g4⟩:=hb b (by simpa using hc)
          have:=(beside_zero.1 h3 x hx).1
          unfold twiceB meetB tkOf at this
          simp [g1,g2,g3,g4,hw] at this
      · refine near_pre (r:=r) ?_ (by simp)
        rw [ea];exact h5
theorem st_no {secs:Int} {t x:Tk} (ht:0≤t.frm∧t.frm < t.to∧t.to≤secs) (hx:0≤x.frm∧x.frm < x.to∧x.to≤secs):(∀ s:Nat,s < secs.toNat→stB t x s=false) ↔ twiceB t x=false∧togB x t=true:=by
  constructor
  · intro h
    cases hm:meetB x t with
    |false =>
      unfold twiceB togB
      rw [hm];simp
    |true =>
      have hm2:=hm
      unfold meetB at hm2
      rw [Bool.and_eq_true,decide_eq_true_eq,decide_eq_true_eq] at hm2
      obtain ⟨s,hs⟩:∃ s:Nat,(s:Int)=max t.frm x.frm:=⟨(max t.frm x.frm).toNat,by omega⟩
      have:=h s (by omega)
      unfold stB at this
      rw [decide_eq_false (show ¬ (s:Int) < t.frm by omega),decide_eq_false (show ¬ t.to≤(s:Int) by omega),decide_eq_false (show ¬ (s:Int) < x.frm by omega),decide_eq_false (show ¬ x.to≤(s:Int) by omega)] at this
      have e1:decide (x.cab=t.cab)=decide (t.cab=x.cab):=by rw [decide_eq_decide];exact eq_comm
      have e2:decide (x.bed=t.bed)=decide (t.bed=x.bed):=by rw [decide_eq_decide];exact eq_comm
      have e3:decide (x.party=t.party)=decide (t.party=x.party):=by rw [decide_eq_decide];exact eq_comm
      have e4:decide (x.sex=t.sex)=decide (t.sex=x.sex):=by rw [decide_eq_decide];exact eq_comm
      have e5:decide (x.cab ≠ t.cab)=!decide (t.cab=x.cab):=by rw [decide_not,e1]
      unfold twiceB togB
      rw [hm,e5,e1,e2,e3,e4]
      revert this
      generalize decide (t.cab=x.cab)=A
      generalize decide (t.bed=x.bed)=B
      generalize decide (t.party=x.party)=C
      generalize decide (t.sex=x.sex)=D
      generalize x.dog=E
      generalize t.dog=F
      revert A B C D E F
      decide
  · rintro ⟨h1,h2⟩ s _
    have e1:decide (x.cab=t.cab)=decide (t.cab=x.cab):=by rw [decide_eq_decide];exact eq_comm
    have e2:decide (x.bed=t.bed)=decide (t.bed=x.bed):=by rw [decide_eq_decide];exact eq_comm
    have e3:decide (x.party=t.party)=decide (t.party=x.party):=by rw [decide_eq_decide];exact eq_comm
    have e4:decide (x.sex=t.sex)=decide (t.sex=x.sex):=by rw [decide_eq_decide];exact eq_comm
    have e5:decide (x.cab ≠ t.cab)=!decide (t.cab=x.cab):=by rw [decide_not,e1]
    cases hm:meetB x t with
    |false =>
      unfold stB
      by_cases g1:(s:Int) < t.frm
      · simp [g1]
      by_cases g2:t.to≤(s:Int)
      · simp [g2]
      by_cases g3:(s:Int) < x.frm
      · simp [g3]
      by_cases g4:x.to≤(s:Int)
      · simp [g4]
      exfalso
      unfold meetB at hm
      rw [decide_eq_true (show x.frm < t.to by omega),decide_eq_true (show t.frm < x.to by omega)] at hm
      exact absurd hm (by decide)
    |true =>
      unfold twiceB at h1
      unfold togB at h2
      rw [hm,e1,e2] at h1
      rw [hm,e5,e3,e4] at h2
      unfold stB
      generalize decide ((s:Int) < t.frm)=G
      generalize decide (t.to≤(s:Int))=H
      generalize decide ((s:Int) < x.frm)=I
      generalize decide (x.to≤(s:Int))=J
      revert h1 h2
      generalize decide (t.cab=x.cab)=A
      generalize decide (t.bed=x.bed)=B
      generalize decide (t.party=x.party)=C
      generalize decide (t.sex=x.sex)=D
      generalize x.dog=E
      generalize t.dog=F
      revert A B C D E F G H I J
      decide
theorem str_iff {cs:List Cabin} {secs:Int} {l:List Tk} (h:∀ t ∈ l,0≤t.frm∧t.frm < t.to∧t.to≤secs):strB ⟨cs,secs,l⟩=false ↔ PWr [] l:=by
  rw [pwr_iff]
  unfold strB
  rw [List.any_eq_false]
  have hg:∀ {i:Nat},i < l.length→l.getD i default ∈ l:=fun hi=>gMem hi
  constructor
  · intro hs i hi
    rw [List.nil_append,beside_zero]
    intro x hx
    obtain ⟨k,hk,rfl⟩:=List.mem_iff_getElem.1 hx
    rw [List.length_take] at hk
    have h1:=hs i (List.mem_range.2 hi)
    unfold rwB at h1
    rw [Bool.not_eq_true,List.any_eq_false] at h1
    have h2:=h1 k (List.mem_range.2 (by omega))
    have ek:l.getD k default=(l.take i)[k]'(by rw [List.length_take];omega):=by simp [List.getD_eq_getElem?_getD,show k < l.length by omega]
    unfold prB at h2
    rw [Bool.not_eq_true,List.any_eq_false] at h2
    simp only at h2
    rw [← ek]
    refine (st_no (h _ (hg hi)) (h _ (hg (show k < l.length by omega)))).1 fun s hs=>?_
    have:=h2 s (List.mem_range.2 hs)
    simpa using this
  · intro hp i hi
    have hi:=List.mem_range.1 hi
    unfold rwB
    rw [Bool.not_eq_true,List.any_eq_false]
    intro k hk
    have hk:=List.mem_range.1 hk
    unfold prB
    rw [Bool.not_eq_true,List.any_eq_false]
    intro s hs
    have hi':i < l.length:=hi
    have h1:=hp i hi'
    rw [List.nil_append,beside_zero] at h1
    have hkl:k < l.length:=by omega
    have h2:=h1 (l.getD k default) (by
      rw [List.mem_iff_getElem]
      exact ⟨k,by rw [List.length_take];omega,by simp [List.getD_eq_getElem?_getD,hkl]⟩)
    have:=(st_no (h _ (hg hi')) (h _ (hg hkl))).2 h2 s (List.mem_range.1 hs)
    simpa using this
theorem val_ways {c:Chart} (hv:Val c):∀ t ∈ c.sold,0≤t.frm∧t.frm < t.to∧t.to≤c.secs:=fun t ht=>by
  have:=hv.tk t ht
  exact ⟨this.frm,this.way,this.to⟩
theorem val_pwr {c:Chart} (h:checkE c=0):PWr [] c.sold:=by
  rw [pwr_iff]
  intro i hi
  unfold checkE at h
  split at h
  · exact absurd h ‹_›
  rw [List.nil_append]
  exact (tickets_ok h i hi).2
theorem stp_free {c:Chart} {a:Ask} (h:bothE c a=0) {l:List Bunk} (hl:l ∈ alL (bunksL c.cabins) a.sexes.length) (hne:l ≠ []):stpB c.cabins a c.sold [] l=isFreeB c a l:=by
  have hc:=(both_ok h).1
  have hv:=val_of hc
  have hw:=ask_way h
  have hll:=alL_one l hl
  have hT:slTk a l l.length=tkR a 0 l:=by rw [tkR_sl a l l.length (Nat.le_refl _),List.take_length]
  have hways:∀ t ∈ c.sold++slTk a l l.length,0≤t.frm∧t.frm < t.to∧t.to≤c.secs:=fun t ht=>by
    rcases List.mem_append.1 ht with ht|ht
    · exact val_ways hv t ht
    · rw [hT] at ht
      obtain ⟨i,b,_,_,rfl⟩:=mem_tkR ht
      exact hw
  rw [Bool.eq_iff_iff,stp_iff hw.2.1 l c.sold [] (fun b hb=>by simp at hb)]
  unfold isFreeB
  rw [Bool.and_eq_true]
  have e1:(!strB ⟨c.cabins,c.secs,c.sold++slTk a l l.length⟩)=true ↔ PWr [] (c.sold++slTk a l l.length):=by
    rw [← str_iff (cs:=c.cabins) hways]
    simp
  rw [e1,pwr_app,hT]
  simp only [List.nil_append]
  constructor
  · rintro ⟨h1,h2⟩
    exact ⟨h2 hne,val_pwr hc,h1⟩
  · rintro ⟨h1,_,h3⟩
    exact ⟨h3,fun _=>h1⟩
theorem places_free {c:Chart} {a:Ask} (h:bothE c a=0) (hs:1≤a.sexes.length):placesA c a=(alL (bunksL c.cabins) a.sexes.length).filter (isFreeB c a):=by
  have e1:placesA c a=(plP c a).map (·.1):=by unfold placesA;rw [if_pos h]
  rw [e1]
  unfold plP
  rw [grow_stp]
  simp only [List.nil_append,List.map_id']
  refine List.filter_congr fun l hl=>stp_free h hl ?_
  rintro rfl
  have:=alL_one _ hl
  simp at this
  omega
end Go.Sym.B
namespace Go.Sym.B
open Go Go.Sym Go.Proofs Go.Sym.C
end Go.Sym.B
namespace Go.Sym.B
open Go Go.Sym Go.Proofs Go.Sym.C
end Go.Sym.B
namespace Go.Sym.B
open Go Go.Sym Go.Proofs Go.Sym.C
def tbE20_copyC:=vj @ty25 (vj @ty26 (vj @ty28 (vj @ty51 (vj @ty81 (vj @ti25.eq_1 (vj @ti26.eq_1 (vj @ti28.eq_1 (vj @ti51.eq_1 @ti81.eq_1))))))))
def xbE20_3:=vj @aI.eq_1 (@aB.eq_1)
theorem copyC_fn (cs ts:List (List DV)) (s:Int) (h1:rowsOK 2 cs) (h2:rowsOK 7 ts) (h3:cs.length≤100000) (h4:ts.length≤100000):Fn noB Try.prog 39 [.agg [.sl cs,.v (.int .i64 s),.sl ts]] noH (.agg [.row 0,.v (.int .i64 s),.row 1]) (hasg [(0,.row 51 2 cs),(1,.row 81 7 ts)]) 0:=by
  have env:Env (fun _=>True) Try.prog tyB (tab []):=mkEnv trivial
  obtain ⟨b1,b2,b3,b5,b4⟩:=b47 h3
  obtain ⟨c1,c2,c3,c5,c4⟩:=b47 h4
  refine Fn.of (A:=fun _=>True) (n0:=0) (D:=noD) (Fn0 Try.func39 rfl (fun vs w=>by kernel_rfl) (by kernel_rfl)) (by simp) (by simp [AV.ids,AV.idsL]) (fun i o h=>by cases h) (fun _ _ _ _=>trivial) noD_ok ?_
  repeat' (first|(apply nx;with_reducible constructor)|refine uq (by decide) ?_|((first|refine vx env fun Q hQ=>?_|refine vz fun Q hQ=>?_);simp only [vkt,seval,tbE20_copyC,xbE20_3,aChart,cChart,rTk,rCabin,List.nil_append,h1,h2];(try simp only [ite_and]);(repeat' (first|with_reducible assumption|refine And.intro ?_ ?_|intro hp));all_goals (first|(refine hQ _ ?_;clear hQ Q)|(refine hQ _ (fun h=>?_) (fun h=>?_) <;> clear hQ Q <;> (try simp only [vki,reduceCtorEq] at h))|(refine vq ?_;kernel_rfl)|omega|assumption|with_reducible rfl|skip)))
  (simp only [vrt,Try.results39,vkt,seval,tbE20_copyC,xbE20_3,aChart,cChart,rTk,rCabin,List.nil_append];refine Fin.ok (fun j=>[2,3][j]?) [] ?_ ?_ ?_ ?_ ?_ rfl;all_goals (try simp only [vle,vkt,seval,tbE20_copyC,xbE20_3,aChart,cChart,rTk,rCabin,List.nil_append]))
  all_goals first|rfl|(simp;done)
def pCopyC (_:St):List AV→Option Pk
  |[.agg [.sl cs,.v (.int .i64 s),.sl ts]]=>some { pre:=rowsOK 2 cs∧rowsOK 7 ts∧cs.length≤100000∧ts.length≤100000,ar:=[.agg [.sl cs,.v (.int .i64 s),.sl ts]],v:=.agg [.row 0,.v (.int .i64 s),.row 1],L1:=[some (.row 51 2 cs),some (.row 81 7 ts)] }
  |_=>none
theorem eCopyC {A:Frm→Prop}:EntryOK A Try.prog 39 (fnE pCopyC):=fnE_ok fun S bs q h hp=>by
  unfold pCopyC at h
  split at h
  · cases h;exact copyC_fn _ _ _ hp.1 hp.2.1 hp.2.2.1 hp.2.2.2
  · cases h
def tbE20_copyI:=vj @ty3 (vj @ty22 (vj @ti3.eq_1 @ti22.eq_1))
def xbE20_7:=vj @aI.eq_1 (vj @aB.eq_1 (vj @aInts.eq_1 (@rInt)))
theorem copyI_fn (l:List Int) (h:l.length≤100000):FnV Try.prog 89 [aInts l] (aInts l):=by
  have env:Env (fun _=>True) Try.prog tyB (tab []):=mkEnv trivial
  refine Fn.of (A:=fun _=>True) (n0:=0) (D:=noD) (Fn0 Try.func89 rfl (fun vs w=>by kernel_rfl) (by kernel_rfl)) (by simp) (by simp [AV.ids,aInts]) (fun i o h=>by cases h) (fun _ _ _ _=>trivial) noD_ok ?_
  have hmx:(100000:Nat)≤maxLen:=by decide
  have h5:l.length≤maxLen:=by omega
  repeat' (first|(apply nx;with_reducible constructor)|refine uq (by decide) ?_|((first|refine vx env fun Q hQ=>?_|refine vz fun Q hQ=>?_);simp only [vkt,seval,tbE20_copyI,xbE20_7,List.nil_append,List.length_map,h,h5];(try simp only [ite_and]);(repeat' (first|with_reducible assumption|refine And.intro ?_ ?_|intro hp));all_goals (first|(refine hQ _ ?_;clear hQ Q)|(refine hQ _ (fun h=>?_) (fun h=>?_) <;> clear hQ Q <;> (try simp only [vki,reduceCtorEq] at h))|(refine vq ?_;kernel_rfl)|omega|assumption|with_reducible rfl|skip)))
  (simp only [vrt,Try.results89,vkt,seval,tbE20_copyI,xbE20_7,List.nil_append,List.length_map];refine Fin.val rfl ?_;(try simp only [AV.le,AV.leL]))
  all_goals first|rfl|(simp;done)|exact ⟨_,_,rfl⟩
def scopyI:List AV→Prop × AV
  |[.sl l]=>(l=(l.map dInt).map eInt∧(l.map dInt).length≤100000,aInts (l.map dInt))
  |_=>(False,.junk)
theorem ecopyI {A:Frm→Prop}:EntryOK A Try.prog 89 (valE false scopyI):=valE_ok fun vs hv h=>by
  clear hv
  unfold scopyI at h ⊢
  split at h
  · rename_i l;obtain ⟨q0,k0⟩:=h
    refine ⟨by first|trivial|(simp [AV.plain,AV.plainL,aI,aB,aInts,aBunks,aTks,aBunk,aTk,cTk];done)|(repeat' split) <;> simp [AV.plain,AV.plainL,aI,aB,aInts,aBunks,aTks,aBunk,aTk,cTk],fun h=>absurd h (by decide), ?_⟩
    have:=copyI_fn (l.map dInt) k0
    simp only [aInts,← q0] at this
    first|exact this|(simp only [aInts,← q0];exact this)
  · exact h.elim
def tbE20_copyA:=vj @ty3 (vj @ty22 (vj @ty31 (vj @ti3.eq_1 (vj @ti22.eq_1 @ti31.eq_1))))
def xbE20_8:=vj @aI.eq_1 (vj @aB.eq_1 (vj @aInts.eq_1 (@mInt)))
theorem copyA_fn (a:Ask) (h:a.sexes.length≤100000):FnV Try.prog 36 [aAsk a] (aAsk a):=by
  have env:Env (fun _=>True) Try.prog tyB (tab [(89,valE false scopyI)]):=mkEnv ⟨ecopyI,trivial⟩
  refine Fn.of (A:=fun _=>True) (n0:=0) (D:=noD) (Fn0 Try.func36 rfl (fun vs w=>by kernel_rfl) (by kernel_rfl)) (by simp) (by simp [AV.ids,AV.idsL,aAsk,cAsk]) (fun i o h=>by cases h) (fun _ _ _ _=>trivial) noD_ok ?_
  repeat' (first|(apply nx;with_reducible constructor)|refine uq (by decide) ?_|((first|refine vx env fun Q hQ=>?_|refine vz fun Q hQ=>?_);simp only [vkt,seval,tbE20_copyA,xbE20_8,aAsk,cAsk,scopyI,List.length_map,h];(try simp only [ite_and]);(repeat' (first|with_reducible assumption|refine And.intro ?_ ?_|intro hp));all_goals (first|(refine hQ _ ?_;clear hQ Q)|(refine hQ _ (fun h=>?_) (fun h=>?_) <;> clear hQ Q <;> (try simp only [vki,reduceCtorEq] at h))|(refine vq ?_;kernel_rfl)|omega|assumption|with_reducible rfl|skip)))
  (simp only [vrt,Try.results36,vkt,seval,tbE20_copyA,xbE20_8,aAsk,cAsk,scopyI,List.length_map];refine Fin.val rfl ?_;(try simp only [AV.le,AV.leL]))
  all_goals first|rfl|(simp;done)|exact ⟨_,_,rfl⟩
def scopyA:List AV→Prop × AV
  |[.agg [.v (.int .i64 a0),.v (.int .i64 a1),.v (.int .i64 a2),.sl a3,.v (.bool a4)]]=>(a3=(a3.map dInt).map eInt∧((⟨a0,a1,a2,(a3.map dInt),a4⟩:Ask)).sexes.length≤100000,aAsk ((⟨a0,a1,a2,(a3.map dInt),a4⟩:Ask)))
  |_=>(False,.junk)
theorem ecopyA {A:Frm→Prop}:EntryOK A Try.prog 36 (valE false scopyA):=valE_ok fun vs hv h=>by
  clear hv
  unfold scopyA at h ⊢
  split at h
  · rename_i a0 a1 a2 a3 a4;obtain ⟨q0,k0⟩:=h
    refine ⟨by first|trivial|(simp [AV.plain,AV.plainL,aI,aB,aInts,aBunks,aTks,aBunk,aTk,cTk];done)|(repeat' split) <;> simp [AV.plain,AV.plainL,aI,aB,aInts,aBunks,aTks,aBunk,aTk,cTk],fun h=>absurd h (by decide), ?_⟩
    have:=copyA_fn ((⟨a0,a1,a2,(a3.map dInt),a4⟩:Ask)) k0
    simp only [aAsk,aB,aI,aInts,cAsk,← q0] at this
    first|exact this|(simp only [aAsk,aB,aI,aInts,cAsk,← q0];exact this)
  · exact h.elim
end Go.Sym.B
namespace Go.Sym.B
open Go Go.Sym Go.Proofs Go.Sym.C
end Go.Sym.B
namespace Go.Sym.B
open Go Go.Sym Go.Proofs Go.Sym.C
end Go.Sym.B
namespace Go.Sym.B
open Go Go.Sym Go.Proofs Go.Sym.C
end Go.Sym.B
namespace Go.Sym.B
open Go Go.Sym Go.Proofs Go.Sym.C
end Go.Sym.B
namespace Go.Sym.B
open Go Go.Sym Go.Proofs Go.Sym.C
end Go.Sym.B
namespace Go.Sym.B
open Go Go.Sym Go.Proofs Go.Sym.C
end Go.Sym.B
namespace Go.Sym.B
open Go Go.Sym Go.Proofs Go.Sym.C
end Go.Sym.B
namespace Go.Sym.B
open Go Go.Sym Go.Proofs Go.Sym.C
end Go.Sym.B
namespace Go.Sym.B
open Go Go.Sym Go.Proofs Go.Sym.C
def fitB (c:Chart) (a:Ask) (b:Bunk):Bool:=decide (besideE (tkOf a 0 b) c.sold=0)
theorem pl_fit {c:Chart} {a:Ask} (h:a.sexes.length=1):(plP c a).map (·.1)=((bunksL c.cabins).filter (fitB c a)).map fun b=>[b]:=by
  unfold plP
  rw [h,growP_succ,List.map_flatMap]
  have key:∀ l:List Bunk,(l.flatMap fun b=>(gbL c.cabins a 0 c.sold [] b).map (·.1))=(l.filter (fitB c a)).map fun b=>[b]:=fun l=>by
    induction l with
    |nil=>rfl
    |cons b l ih =>
      rw [List.flatMap_cons,ih]
      unfold gbL goB fitB
      rw [show ([]:List Bunk)++[b]=[b] from rfl,near_one,show ([]:List Bunk).length=0 from rfl]
      simp only [List.contains_nil,Bool.not_false,Bool.true_and]
      cases hq:decide (besideE (tkOf a 0 b) c.sold=0) with
      |true =>
        rw [if_pos rfl,List.filter_cons_of_pos (by simpa using hq)]
        rfl
      |false =>
        rw [if_neg (by decide),List.filter_cons_of_neg (by simpa using hq)]
        rfl
  exact key _
theorem open_fit {c:Chart} {a:Ask} (h:a.sexes.length=1) (s:Int):openAt c a s=(bunksL c.cabins).filter (fitB c (oneA a s)):=by
  have h1:(plP c (oneA a s)).map (·.1)=_:=pl_fit (a:=oneA a s) h
  unfold openAt
  rw [show (plP c (oneA a s)).map (fun x=>x.1.getD 0 default)=((plP c (oneA a s)).map (·.1)).map (fun l=>l.getD 0 default) by rw [List.map_map];rfl,h1,List.map_map]
  simp [Function.comp_def]
theorem pkK_at {f:Bunk→Int} {l:List Bunk}:∀ i,0 < i→i≤l.length→(pkK f l i).1 ∈ l∧(pkK f l i).2=f (pkK f l i).1
  |0,h,_=>absurd h (Nat.lt_irrefl _)
  |i+1,_,hi=>by
    rw [pkK]
    by_cases hq:i=0∨f (l.getD i default) < (pkK f l i).2
    · rw [if_pos hq]
      exact ⟨gMem (by omega),rfl⟩
    · rw [if_neg hq]
      exact pkK_at i (by omega) (by omega)
theorem pkK_min {f:Bunk→Int} {l:List Bunk}:∀ i,i≤l.length→∀ j,j < i→(pkK f l i).2≤f (l.getD j default)
  |0,_,j,hj=>absurd hj (Nat.not_lt_zero _)
  |i+1,hi,j,hj=>by
    rw [pkK]
    by_cases hq:i=0∨f (l.getD i default) < (pkK f l i).2
    · rw [if_pos hq]
      by_cases hji:j=i
      · rw [hji];exact Int.le_refl _
      · have:=pkK_min (f:=f) (l:=l) i (by omega) j (by omega)
        rcases hq with h|h
        · omega
        · simp only;omega
    · rw [if_neg hq]
      by_cases hji:j=i
      · rw [hji]
        have:¬ f (l.getD i default) < (pkK f l i).2:=fun h=>hq (.inr h)
        omega
      · exact pkK_min i (by omega) j (by omega)
def chgN (b:Bunk):List Bunk→Int
  |[]=>0
  |y :: r=>(if y=b then 0 else 1)+chgN y r
theorem walk_chg:∀ {L:List (List Bunk)} (b:Bunk),L.any (·.isEmpty)=false→chgN b (walkB L b)=(nextA L b).2
  |[],_,_=>rfl
  |l :: rest,b,h=>by
    have h1:l ≠ []:=by rintro rfl;simp at h
    have h2:rest.any (·.isEmpty)=false:=by
      rw [List.any_cons,Bool.or_eq_false_iff] at h;exact h.2
    obtain ⟨g1,g2⟩:=pkK_at (f:=fun y=>(nextA rest y).2+if y=b then 0 else 1) l.length (List.length_pos_iff.2 h1) (Nat.le_refl _)
    rw [walkB,chgN,walk_chg _ h2]
    rw [nextA]
    rw [g2]
    omega
end Go.Sym.B
namespace Go.Sym.B
open Go Go.Sym Go.Proofs Go.Sym.C
end Go.Sym.B
namespace Go.Sym.B
open Go Go.Sym Go.Proofs Go.Sym.C
def tnT (s:Int) (t:Tk):Tk:=⟨t.party,t.sex,t.cab,t.bed,s - t.to,s - t.frm,t.dog⟩
def tnC (c:Chart):Chart:=⟨c.cabins,c.secs,c.sold.map (tnT c.secs)⟩
def tnA (s:Int) (a:Ask):Ask:=⟨a.party,s - a.to,s - a.frm,a.sexes,a.dog⟩
theorem tn_meet (s:Int) (x t:Tk):meetB (tnT s x) (tnT s t)=meetB x t:=by
  unfold meetB tnT
  simp only
  rw [show decide (s - x.to < s - t.frm)=decide (t.frm < x.to) by rw [decide_eq_decide];omega,show decide (s - t.to < s - x.frm)=decide (x.frm < t.to) by rw [decide_eq_decide];omega,Bool.and_comm]
theorem tn_twice (s:Int) (t x:Tk):twiceB (tnT s t) (tnT s x)=twiceB t x:=by
  unfold twiceB
  rw [tn_meet];rfl
theorem tn_tog (s:Int) (x t:Tk):togB (tnT s x) (tnT s t)=togB x t:=by
  unfold togB
  rw [tn_meet];rfl
theorem tn_beside (s:Int) (t:Tk) (l:List Tk):besideE (tnT s t) (l.map (tnT s))=besideE t l:=by
  unfold besideE
  rw [List.any_map,List.any_map]
  rw [show (twiceB (tnT s t) ∘ tnT s)=twiceB t from funext fun x=>tn_twice s t x]
  rw [show ((fun x=>!togB x (tnT s t)) ∘ tnT s)=fun x=>!togB x t from funext fun x=>by simp only [Function.comp];rw [tn_tog]]
theorem tn_ticket {c:Chart} {t:Tk} {l:List Tk} (h:ticketE c t l=0):ticketE (tnC c) (tnT c.secs t) (l.map (tnT c.secs))=0:=by
  obtain ⟨h1,h2⟩:=ticketE_ok h
  have h3:=h1.to
  have h4:=h1.frm
  have h5:=h1.way
  refine ticket_zero h1.party h1.sex h1.cab h1.bed ⟨?_, ?_, ?_⟩ (by rw [tn_beside];exact h2)
  · show 0≤c.secs - t.to;omega
  · show c.secs - t.to < c.secs - t.frm;omega
  · show c.secs - t.frm≤c.secs;omega
theorem tn_check {c:Chart} (h:checkE c=0):checkE (tnC c)=0:=by
  unfold checkE at h ⊢
  have hcar:carE (tnC c)=carE c:=by
    unfold carE tnC
    simp only [List.length_map]
  rw [hcar]
  split at h
  · exact absurd h ‹_›
  rename_i h1
  rw [if_neg h1]
  unfold ticketsE at h ⊢
  refine firstE_all fun j hj=>?_
  have hj:j < c.sold.length:=by simpa [tnC] using hj
  have h2:=firstE_zero h (ticketE c (c.sold.getD j default) (c.sold.take j)) (List.mem_map.2 ⟨j,List.mem_range.2 hj,rfl⟩)
  rw [rngD (by simpa [tnC] using hj)]
  have e1:(tnC c).sold.getD j default=tnT c.secs (c.sold.getD j default):=by
    show (c.sold.map (tnT c.secs)).getD j default=_
    simp [List.getD_eq_getElem?_getD,hj]
  have e2:(tnC c).sold.take j=(c.sold.take j).map (tnT c.secs):=List.map_take.symm
  rw [e1,e2]
  exact tn_ticket h2
theorem tn_way {s f t:Int} (h:wayE s f t=0):wayE s (s - t) (s - f)=0:=by
  obtain ⟨h1,h2,h3⟩:=wayE_ok h
  unfold wayE
  rw [if_neg]
  rintro (h|h|h) <;> omega
theorem tn_both {c:Chart} {a:Ask} (h:bothE c a=0):bothE (tnC c) (tnA c.secs a)=0:=by
  obtain ⟨h1,h2⟩:=both_ok h
  unfold bothE
  rw [tn_check h1,if_neg (fun h=>h rfl)]
  unfold askE at h2 ⊢
  have hp:((tnC c).sold.any fun t=>decide (t.party=(tnA c.secs a).party))=c.sold.any fun t=>decide (t.party=a.party):=by
    show ((c.sold.map (tnT c.secs)).any fun t=>decide (t.party=a.party))=_
    rw [List.any_map];rfl
  rw [hp]
  split at h2
  · exact absurd h2 (by decide)
  rename_i g1
  split at h2
  · exact absurd h2 (by decide)
  rename_i g2
  split at h2
  · exact absurd h2 ‹_›
  rename_i g3
  have g4:=tn_way (Decidable.not_not.1 g3)
  show (if (!inB a.party 1 99)=true then 1 else if (c.sold.any fun t=>decide (t.party=a.party))=true then 4 else if wayE c.secs (c.secs - a.to) (c.secs - a.frm) ≠ 0 then wayE c.secs (c.secs - a.to) (c.secs - a.frm) else _)=0
  rw [if_neg g1,if_neg g2,if_neg (fun hn=>hn g4)]
  exact h2
theorem tn_tk (s:Int) (a:Ask) (i:Nat) (b:Bunk):tkOf (tnA s a) i b=tnT s (tkOf a i b):=rfl
theorem tn_grow (cs:List Cabin) (s:Int) (a:Ask):∀ (m:Nat) (sold:List Tk) (begun:List Bunk),(growP cs (tnA s a) m (sold.map (tnT s)) begun).map (·.1)=(growP cs a m sold begun).map (·.1)
  |0,sold,begun=>rfl
  |m+1,sold,begun=>by
    rw [growP_succ,growP_succ,List.map_flatMap,List.map_flatMap]
    refine congrArg (List.flatMap · (bunksL cs)) (funext fun b=>?_)
    have hg:goB cs (tnA s a) (sold.map (tnT s)) begun b=goB cs a sold begun b:=by
      unfold goB
      rw [tn_tk,tn_beside]
    unfold gbL
    rw [hg]
    cases goB cs a sold begun b with
    |false=>rfl
    |true =>
      rw [if_pos rfl,if_pos rfl,tn_tk]
      have:=tn_grow cs s a m (sold++[tkOf a begun.length b]) (begun++[b])
      rw [List.map_append] at this
      exact this
theorem tn_pl (c:Chart) (a:Ask):(plP (tnC c) (tnA c.secs a)).map (·.1)=(plP c a).map (·.1):=tn_grow _ _ _ _ _ _
theorem tn_places {c:Chart} {a:Ask} (h:bothE c a=0):placesA (tnC c) (tnA c.secs a)=placesA c a:=by
  unfold placesA
  rw [if_pos h,if_pos (tn_both h),tn_pl]
theorem tn_room {c:Chart} {sex frm to:Int} (h:checkE c=0) (hw:wayE c.secs frm to=0):roomA (tnC c) sex (c.secs - to) (c.secs - frm)=roomA c sex frm to:=by
  have hN:roomN (tnC c) sex (c.secs - to) (c.secs - frm)=roomN c sex frm to:=by
    unfold roomN rmN
    have:rmB (tnC c) sex (c.secs - to) (c.secs - frm)=rmB c sex frm to:=funext fun b=>by
      unfold rmB
      have:besideE (rmT sex (c.secs - to) (c.secs - frm) b) (tnC c).sold=besideE (rmT sex frm to b) c.sold:=tn_beside c.secs (rmT sex frm to b) c.sold
      rw [this]
    rw [this];rfl
  unfold roomA
  rw [hN,h,tn_check h,hw,show (tnC c).secs=c.secs from rfl,tn_way hw]
def InW:List Bunk→List (List Bunk)→Prop
  |[],[]=>True
  |b :: w,l :: L=>b ∈ l∧InW w L
  |_,_=>False
def inC:List Bunk→Int
  |[]=>0
  |[_]=>0
  |x :: y :: r=>(if y=x then 0 else 1)+inC (y :: r)
theorem chg_in (b x:Bunk) (r:List Bunk):chgN b (x :: r)=(if x=b then 0 else 1)+inC (x :: r):=by
  rw [chgN]
  congr 1
  induction r generalizing x with
  |nil=>rfl
  |cons y r ih=>rw [chgN,ih y,inC]
theorem inC_app (x:Bunk):∀ (w:List Bunk) (y:Bunk),inC (w++[y,x])=inC (w++[y])+if x=y then 0 else 1
  |[],y=>by simp [inC]
  |[z],y=>by first|(simp [inC];done)|(simp [inC];omega)
  |z :: u :: r,y=>by
    have:=inC_app x (u :: r) y
    show inC (z :: u :: (r++[y,x]))=inC (z :: u :: (r++[y]))+_
    rw [inC,inC]
    show (if u=z then 0 else 1)+inC ((u :: r)++[y,x])=(if u=z then 0 else 1)+inC ((u :: r)++[y])+_
    rw [this];omega
theorem inC_rev:∀ w:List Bunk,inC w.reverse=inC w
  |[]=>rfl
  |[_]=>rfl
  |x :: y :: r=>by
    rw [List.reverse_cons,List.reverse_cons,List.append_assoc]
    show inC (r.reverse++[y,x])=_
    rw [inC_app,← List.reverse_cons,inC_rev (y :: r),inC]
    by_cases h:x=y
    · rw [if_pos h,if_pos h.symm];omega
    · rw [if_neg h,if_neg (fun g=>h g.symm)];omega
theorem inW_app:∀ {w:List Bunk} {L:List (List Bunk)} {b:Bunk} {l:List Bunk},InW w L→b ∈ l→InW (w++[b]) (L++[l])
  |[],[],b,l,_,h=>⟨h,trivial⟩
  |x :: w,k :: L,b,l,h,h2=>⟨h.1,inW_app h.2 h2⟩
theorem inW_rev:∀ {w:List Bunk} {L:List (List Bunk)},InW w L→InW w.reverse L.reverse
  |[],[],_=>trivial
  |x :: w,k :: L,h=>by
    rw [List.reverse_cons,List.reverse_cons]
    exact inW_app (inW_rev h.2) h.1
theorem walk_inW:∀ {L:List (List Bunk)} (b:Bunk),L.any (·.isEmpty)=false→InW (walkB L b) L
  |[],_,_=>trivial
  |l :: rest,b,h=>by
    have h1:l ≠ []:=by rintro rfl;simp at h
    have h2:rest.any (·.isEmpty)=false:=by
      rw [List.any_cons,Bool.or_eq_false_iff] at h;exact h.2
    obtain ⟨g1,g2⟩:=pkK_at (f:=fun y=>(nextA rest y).2+if y=b then 0 else 1) l.length (List.length_pos_iff.2 h1) (Nat.le_refl _)
    exact ⟨g1,walk_inW _ h2⟩
theorem next_min:∀ {L:List (List Bunk)} {w:List Bunk} (b:Bunk),InW w L→(nextA L b).2≤chgN b w
  |[],[],_,_=>Int.le_refl 0
  |l :: rest,x :: w,b,h=>by
    have ih:=next_min x h.2
    obtain ⟨j,hj,hx⟩:=List.mem_iff_getElem.1 h.1
    have h3:=pkK_min (f:=fun y=>(nextA rest y).2+if y=b then 0 else 1) (l:=l) l.length (Nat.le_refl _) j hj
    rw [show l.getD j default=x by simp [List.getD_eq_getElem?_getD,hj,hx]] at h3
    rw [nextA,chgN]
    omega
theorem next_rev_le {L:List (List Bunk)} (hne:L.any (·.isEmpty)=false) (hc:∀ l ∈ L,∀ y ∈ l,y ≠ ⟨-1,0⟩) (hL:L ≠ []):(nextA L.reverse ⟨-1,0⟩).2≤(nextA L ⟨-1,0⟩).2:=by
  have h1:=walk_inW ⟨-1,0⟩ hne
  have h2:=walk_chg ⟨-1,0⟩ hne
  obtain ⟨w,hw⟩:∃ w,walkB L ⟨-1,0⟩=w:=⟨_,rfl⟩
  rw [hw] at h1 h2
  have hin:∀ {w:List Bunk} {L:List (List Bunk)},InW w L→(∀ l ∈ L,∀ y ∈ l,y ≠ ⟨-1,0⟩)→L ≠ []→chgN ⟨-1,0⟩ w=1+inC w:=fun {w L} h hc hL=>by
    match w,L,h,hL with
    |[],[],_,hL=>exact absurd rfl hL
    |x :: w,l :: L,h,_ =>
      rw [chg_in,if_neg (hc l (List.mem_cons_self ..) x h.1)]
  have h3:=next_min ⟨-1,0⟩ (inW_rev h1)
  rw [hin (inW_rev h1) (fun l hl=>hc l (List.mem_reverse.1 hl)) (fun h=>hL (List.reverse_eq_nil_iff.1 h)),inC_rev] at h3
  rw [hin h1 hc hL] at h2
  omega
theorem next_rev {L:List (List Bunk)} (hne:L.any (·.isEmpty)=false) (hc:∀ l ∈ L,∀ y ∈ l,y ≠ ⟨-1,0⟩) (hL:L ≠ []):(nextA L.reverse ⟨-1,0⟩).2=(nextA L ⟨-1,0⟩).2:=by
  have h1:=next_rev_le hne hc hL
  have h2:=next_rev_le (L:=L.reverse) (by rw [List.any_reverse];exact hne) (fun l hl=>hc l (List.mem_reverse.1 hl)) (fun h=>hL (List.reverse_eq_nil_iff.1 h))
  rw [List.reverse_reverse] at h2
  omega
theorem tn_one (s:Int) (a:Ask) (x:Int):oneA (tnA s a) x=tnA s (oneA a (s - 1 - x)):=by
  unfold oneA tnA
  simp only
  congr 1 <;> omega
theorem tn_open (c:Chart) (a:Ask):openL (tnC c) (tnA c.secs a)=(openL c a).reverse:=by
  have hlen:(openL (tnC c) (tnA c.secs a)).length=(openL c a).length:=by
    rw [openL_len,openL_len]
    show (c.secs - a.frm - (c.secs - a.to)).toNat=_
    congr 1;omega
  refine List.ext_getElem (by rw [List.length_reverse];exact hlen) fun i h1 h2=>?_
  rw [List.getElem_reverse]
  have hi:i < (a.to - a.frm).toNat:=by rw [hlen,openL_len] at h1;exact h1
  have e1:∀ (c:Chart) (a:Ask) (i:Nat) (h:i < (openL c a).length),(openL c a)[i]=openAt c a (a.frm+i):=fun c a i h=>by
    simp [openL,openK]
  rw [e1,e1,openL_len]
  unfold openAt
  rw [tn_one]
  have e2:c.secs - 1 - ((tnA c.secs a).frm+(i:Int))=a.frm+(((a.to - a.frm).toNat - 1 - i:Nat):Int):=by
    show c.secs - 1 - (c.secs - a.to+(i:Int))=_
    omega
  rw [e2]
  rw [show ∀ l:List (List Bunk × List Tk),l.map (fun x=>x.1.getD 0 default)=(l.map (·.1)).map (fun p=>p.getD 0 default) from fun l=>by rw [List.map_map];rfl]
  rw [tn_pl,List.map_map];rfl
theorem tn_change {c:Chart} {a:Ask} (h:bothE c a=0) (h1:a.sexes.length=1) (hd:a.dog=false):(changeA (tnC c) (tnA c.secs a)).2=(changeA c a).2∧((changeA c a).2.2=0∨(changeA c a).2.2=11):=by
  have hb:=tn_both h
  have hw:=ask_way h
  have hA:∀ {c:Chart} {a:Ask},bothE c a=0→a.sexes.length=1→a.dog=false→changeA c a=if (openL c a).any (·.isEmpty) then ([],0,11) else (walkB (openL c a) ⟨-1,0⟩,(nextA (openL c a) ⟨-1,0⟩).2 - 1,0):=fun {c a} h h1 hd=>by
    unfold changeA
    rw [if_neg (fun hn=>hn h),if_neg (by omega),hd,if_neg (by decide)]
  rw [hA h h1 hd,hA hb h1 hd,tn_open,List.any_reverse]
  cases hE:(openL c a).any (·.isEmpty) with
  |true=>exact ⟨rfl,.inr rfl⟩
  |false =>
    rw [if_neg (by decide),if_neg (by decide)]
    refine ⟨?_,.inl rfl⟩
    have hL:openL c a ≠ []:=fun h0=>by
      have:=openL_len c a
      rw [h0] at this
      simp at this
      omega
    rw [next_rev hE (fun l hl y hy=>?_) hL]
    obtain ⟨i,hi,rfl⟩:=List.mem_map.1 hl
    rw [open_fit h1] at hy
    obtain ⟨p,k,g1,g2,rfl⟩:=bunk_mem.1 (List.mem_filter.1 hy).1
    intro h
    have:=congrArg Bunk.cab h
    simp only at this
    omega
end Go.Sym.B
namespace Go.Sym.B
open Go Go.Sym Go.Proofs Go.Sym.C
end Go.Sym.B
namespace Go.Sym.B
open Go Go.Sym Go.Proofs Go.Sym.C
def amB (l m:List (List Bunk)):Bool:=l.all fun p=>m.contains p
def amS (l m:List (List Bunk)) (T:List (Nat × AV)):St:={ t:=asg (T++[(0,aBunkss l),(1,aBunkss m),(4,aB false)]),h:=hasg [],n:=0 }
theorem con_succ {m:List (List Bunk)} {k:Nat} (h:k < m.length) (p:List Bunk):(m.take (k+1)).contains p=((m.take k).contains p || decide (p=m.getD k [])):=by
  rw [List.take_succ_eq_append_getElem h,List.contains_append,show m[k]=m.getD k [] by simp [List.getD_eq_getElem?_getD,h]]
  rw [Bool.eq_iff_iff]
  simp
def tbE29_among:=vj @ty3 (vj @ty33 (vj @ty37 (vj @ty49 (vj @ti3.eq_1 (vj @ti33.eq_1 (vj @ti37.eq_1 @ti49.eq_1))))))
def xbE29_1:=vj @aI.eq_1 (@aB.eq_1)
theorem among_fn (l m:List (List Bunk)) (hl:l.length≤1000) (hm:m.length≤1000) (hl1:∀ p ∈ l,p.length≤1000) (hm1:∀ p ∈ m,p.length≤1000):FnV Try.prog 38 [aBunkss l,aBunkss m] (aB (amB l m)):=by
  have env:Env (fun _=>True) Try.prog tyB (tab [(24,valE true seqB)]):=mkEnv ⟨eeqB,trivial⟩
  refine Fn.of (A:=fun _=>True) (n0:=0) (D:=noD) (Fn0 Try.func38 rfl (fun vs w=>by kernel_rfl) (by kernel_rfl)) (by simp) (by simp [AV.ids,AV.idsL,aBunkss]) (fun i o h=>by cases h) (fun _ _ _ _=>trivial) noD_ok ?_
  repeat' (first|(apply nx;with_reducible constructor)|refine uq (by decide) ?_|((first|refine vx env fun Q hQ=>?_|refine vz fun Q hQ=>?_);simp only [vkt,seval,tbE29_among,xbE29_1,aBunks,aBunkss,eBunk,eBunks,gBunks,mBunk,amS,seqB,List.length_map];(try simp only [ite_and]);(repeat' (first|with_reducible assumption|refine And.intro ?_ ?_|intro hp));all_goals (first|(refine hQ _ ?_;clear hQ Q)|(refine hQ _ (fun h=>?_) (fun h=>?_) <;> clear hQ Q <;> (try simp only [vki,reduceCtorEq] at h))|(refine vq ?_;kernel_rfl)|omega|assumption|with_reducible rfl|skip)))
  refine sym_loop (fun i:{ i:Nat // i≤l.length∧∀ j,j < i→m.contains (l.getD j [])=true }=>amS l m [(5,aI i.1)]) (fun i=>l.length - i.1) ⟨0,Nat.zero_le _,fun j h=>absurd h (Nat.not_lt_zero _)⟩ ?_ fun ⟨i,hi,hno⟩=>?_
  · simp only [amS,List.cons_append,List.nil_append]
    (refine Le.ok some [] ?_;constructor;all_goals (try simp only [vle,vkt,seval,tbE29_among,xbE29_1,aBunks,aBunkss,eBunk,eBunks,gBunks,mBunk,amS,seqB,List.length_map]))
    all_goals first|rfl|(simp;done)
  simp only at hi hno ⊢
  simp only [amS,List.cons_append,List.nil_append]
  by_cases hil:i < l.length
  · have d1:decide ((i:Int) < (l.length:Int))=true:=decide_eq_true (by omega)
    have e9:IntKind.wrap .i64 ((i:Int)+1)=((i+1:Nat):Int):=by rw [wrap64 (by omega) (by omega)];rfl
    have i0:((i:Int)).toNat=i:=rfl
    have hg:=hBunks hil
    have hpl:=hl1 _ (gMem (d:=[]) hil)
    obtain ⟨p,hp⟩:∃ p,l.getD i []=p:=⟨_,rfl⟩
    rw [hp] at hg hpl
    repeat' (first|(apply nx;with_reducible constructor)|refine uq (by decide) ?_|((first|refine vx env fun Q hQ=>?_|refine vz fun Q hQ=>?_);simp only [vkt,seval,tbE29_among,xbE29_1,aBunks,aBunkss,eBunk,eBunks,gBunks,mBunk,amS,seqB,List.length_map,d1];(try simp only [ite_and]);(repeat' (first|with_reducible assumption|refine And.intro ?_ ?_|intro hp));all_goals (first|(refine hQ _ ?_;clear hQ Q)|(refine hQ _ (fun h=>?_) (fun h=>?_) <;> clear hQ Q <;> (try simp only [vki,reduceCtorEq] at h))|(refine vq ?_;kernel_rfl)|omega|assumption|with_reducible rfl|skip)))
    refine sym_loop (fun k:{ k:Nat // k≤m.length }=>amS l m [(5,aI i),(6,aB ((m.take k.1).contains p)),(7,aI k.1)]) (fun k=>m.length - k.1) ⟨0,Nat.zero_le _⟩ ?_ fun ⟨k,hk⟩=>?_
    · simp only [amS,List.take_zero,List.contains_nil,List.cons_append,List.nil_append]
      (refine Le.ok some [] ?_;constructor;all_goals (try simp only [vle,vkt,seval,tbE29_among,xbE29_1,aBunks,aBunkss,eBunk,eBunks,gBunks,mBunk,amS,seqB,List.length_map]))
      all_goals first|rfl|(simp;done)
    simp only at hk ⊢
    obtain ⟨so,hso⟩:∃ q,(m.take k).contains p=q:=⟨_,rfl⟩
    simp only [amS,hso,List.cons_append,List.nil_append]
    by_cases hkl:k < m.length
    · have d2:decide ((k:Int) < (m.length:Int))=true:=decide_eq_true (by omega)
      have e8:IntKind.wrap .i64 ((k:Int)+1)=((k+1:Nat):Int):=by rw [wrap64 (by omega) (by omega)];rfl
      have k0:((k:Int)).toNat=k:=rfl
      have hS:=con_succ hkl p
      have hg2:=hBunks hkl
      have hrl:=hm1 _ (gMem (d:=[]) hkl)
      obtain ⟨r,hr⟩:∃ r,m.getD k []=r:=⟨_,rfl⟩
      rw [hr,hso] at hS
      rw [hr] at hg2 hrl
      cases so with
      |true =>
        rw [Bool.true_or] at hS
        repeat' (first|(apply nx;with_reducible constructor)|refine uq (by decide) ?_|((first|refine vx env fun Q hQ=>?_|refine vz fun Q hQ=>?_);simp only [vkt,seval,tbE29_among,xbE29_1,aBunks,aBunkss,eBunk,eBunks,gBunks,mBunk,amS,seqB,List.length_map,d2,e8];(try simp only [ite_and]);(repeat' (first|with_reducible assumption|refine And.intro ?_ ?_|intro hp));all_goals (first|(refine hQ _ ?_;clear hQ Q)|(refine hQ _ (fun h=>?_) (fun h=>?_) <;> clear hQ Q <;> (try simp only [vki,reduceCtorEq] at h))|(refine vq ?_;kernel_rfl)|omega|assumption|with_reducible rfl|skip)))
        refine ⟨⟨k+1,hkl⟩,by show m.length - (k+1) < m.length - k;omega, ?_⟩
        simp only [amS,hS,List.cons_append,List.nil_append]
        (refine Le.ok some [] ?_;constructor;all_goals (try simp only [vle,vkt,seval,tbE29_among,xbE29_1,aBunks,aBunkss,eBunk,eBunks,gBunks,mBunk,amS,seqB,List.length_map]))
        all_goals first|rfl|(simp;done)
      |false =>
        rw [Bool.false_or] at hS
        repeat' (first|(apply nx;with_reducible constructor)|refine uq (by decide) ?_|((first|refine vx env fun Q hQ=>?_|refine vz fun Q hQ=>?_);simp only [vkt,seval,tbE29_among,xbE29_1,aBunks,aBunkss,eBunk,eBunks,gBunks,mBunk,amS,seqB,List.length_map,d2,e8,k0,i0,hil,hkl,hp,hr,hg,hg2,hpl,hrl];(try simp only [ite_and]);(repeat' (first|with_reducible assumption|refine And.intro ?_ ?_|intro hp));all_goals (first|(refine hQ _ ?_;clear hQ Q)|(refine hQ _ (fun h=>?_) (fun h=>?_) <;> clear hQ Q <;> (try simp only [vki,reduceCtorEq] at h))|(refine vq ?_;kernel_rfl)|omega|assumption|with_reducible rfl|skip)))
        refine ⟨⟨k+1,hkl⟩,by show m.length - (k+1) < m.length - k;omega, ?_⟩
        simp only [amS,hS,List.cons_append,List.nil_append]
        (refine Le.ok some [] ?_;constructor;all_goals (try simp only [vle,vkt,seval,tbE29_among,xbE29_1,aBunks,aBunkss,eBunk,eBunks,gBunks,mBunk,amS,seqB,List.length_map]))
        all_goals first|rfl|(simp;done)
    · have d2:decide ((k:Int) < (m.length:Int))=false:=decide_eq_false (by omega)
      obtain rfl:k=m.length:=by omega
      rw [List.take_length] at hso
      cases so with
      |true =>
        repeat' (first|(apply nx;with_reducible constructor)|refine uq (by decide) ?_|((first|refine vx env fun Q hQ=>?_|refine vz fun Q hQ=>?_);simp only [vkt,seval,tbE29_among,xbE29_1,aBunks,aBunkss,eBunk,eBunks,gBunks,mBunk,amS,seqB,List.length_map,d2,e9];(try simp only [ite_and]);(repeat' (first|with_reducible assumption|refine And.intro ?_ ?_|intro hp));all_goals (first|(refine hQ _ ?_;clear hQ Q)|(refine hQ _ (fun h=>?_) (fun h=>?_) <;> clear hQ Q <;> (try simp only [vki,reduceCtorEq] at h))|(refine vq ?_;kernel_rfl)|omega|assumption|with_reducible rfl|skip)))
        refine ⟨⟨i+1,hil,fun j hj=>?_⟩,by show l.length - (i+1) < l.length - i;omega, ?_⟩
        · rcases Nat.lt_or_eq_of_le (Nat.le_of_lt_succ hj) with h1|h1
          · exact hno j h1
          · rw [h1,hp];exact hso
        simp only [amS,List.cons_append,List.nil_append]
        (refine Le.ok some [] ?_;constructor;all_goals (try simp only [vle,vkt,seval,tbE29_among,xbE29_1,aBunks,aBunkss,eBunk,eBunks,gBunks,mBunk,amS,seqB,List.length_map]))
        all_goals first|rfl|(simp;done)
      |false =>
        have hE:amB l m=false:=by
          unfold amB
          rw [List.all_eq_false]
          exact ⟨l.getD i [],gMem hil,by rw [hp,hso];decide⟩
        rw [hE]
        repeat' (first|(apply nx;with_reducible constructor)|refine uq (by decide) ?_|((first|refine vx env fun Q hQ=>?_|refine vz fun Q hQ=>?_);simp only [vkt,seval,tbE29_among,xbE29_1,aBunks,aBunkss,eBunk,eBunks,gBunks,mBunk,amS,seqB,List.length_map,d2];(try simp only [ite_and]);(repeat' (first|with_reducible assumption|refine And.intro ?_ ?_|intro hp));all_goals (first|(refine hQ _ ?_;clear hQ Q)|(refine hQ _ (fun h=>?_) (fun h=>?_) <;> clear hQ Q <;> (try simp only [vki,reduceCtorEq] at h))|(refine vq ?_;kernel_rfl)|omega|assumption|with_reducible rfl|skip)))
        (simp only [vrt,Try.results38,vkt,seval,tbE29_among,xbE29_1,aBunks,aBunkss,eBunk,eBunks,gBunks,mBunk,amS,seqB,List.length_map];refine Fin.val rfl ?_;(try simp only [AV.le,AV.leL]))
        all_goals first|rfl|(simp;done)
  · have d1:decide ((i:Int) < (l.length:Int))=false:=decide_eq_false (by omega)
    obtain rfl:i=l.length:=by omega
    have hE:amB l m=true:=by
      unfold amB
      rw [List.all_eq_true]
      intro p hp
      obtain ⟨j,hj,rfl⟩:=List.mem_iff_getElem.1 hp
      have:=hno j hj
      rwa [show l.getD j []=l[j] by simp [List.getD_eq_getElem?_getD,hj]] at this
    rw [hE]
    repeat' (first|(apply nx;with_reducible constructor)|refine uq (by decide) ?_|((first|refine vx env fun Q hQ=>?_|refine vz fun Q hQ=>?_);simp only [vkt,seval,tbE29_among,xbE29_1,aBunks,aBunkss,eBunk,eBunks,gBunks,mBunk,amS,seqB,List.length_map,d1];(try simp only [ite_and]);(repeat' (first|with_reducible assumption|refine And.intro ?_ ?_|intro hp));all_goals (first|(refine hQ _ ?_;clear hQ Q)|(refine hQ _ (fun h=>?_) (fun h=>?_) <;> clear hQ Q <;> (try simp only [vki,reduceCtorEq] at h))|(refine vq ?_;kernel_rfl)|omega|assumption|with_reducible rfl|skip)))
    (simp only [vrt,Try.results38,vkt,seval,tbE29_among,xbE29_1,aBunks,aBunkss,eBunk,eBunks,gBunks,mBunk,amS,seqB,List.length_map];refine Fin.val rfl ?_;(try simp only [AV.le,AV.leL]))
    all_goals first|rfl|(simp;done)
def samong:List AV→Prop × AV
  |[.sl x,.sl y]=>(x=(x.map dBunks).map eBunks∧y=(y.map dBunks).map eBunks∧(x.map dBunks).length≤1000∧(y.map dBunks).length≤1000∧(∀ p ∈ (x.map dBunks),p.length≤1000)∧(∀ p ∈ (y.map dBunks),p.length≤1000),aB (amB (x.map dBunks) (y.map dBunks)))
  |_=>(False,.junk)
theorem eamong {A:Frm→Prop}:EntryOK A Try.prog 38 (valE true samong):=valE_ok fun vs hv h=>by
  clear hv
  unfold samong at h ⊢
  split at h
  · rename_i x y;obtain ⟨q0,q1,k0,k1,k2,k3⟩:=h
    refine ⟨by first|trivial|(simp [AV.plain,AV.plainL,aI,aB,aInts,aBunks,aTks,aBunk,aTk,cTk];done)|(repeat' split) <;> simp [AV.plain,AV.plainL,aI,aB,aInts,aBunks,aTks,aBunk,aTk,cTk],fun _=>(by simp [AV.flat,AV.flatL,aI,aB]), ?_⟩
    have:=among_fn (x.map dBunks) (y.map dBunks) k0 k1 k2 k3
    simp only [aBunkss,← q0,← q1] at this
    first|exact this|(simp only [aBunkss,← q0,← q1];exact this)
  · exact h.elim
theorem am_sub {l m:List (List Bunk)} (h:∀ p ∈ l,p ∈ m):amB l m=true:=by
  unfold amB
  rw [List.all_eq_true]
  intro p hp
  simpa using h p hp
def tnK (s:Int) (l:List Tk) (k:Nat):List Tk:=(l.take k).map (tnT s)++l.drop k
theorem tnK_len (s:Int) (l:List Tk) (k:Nat):(tnK s l k).length=l.length:=by simp [tnK];omega
theorem tnK_get {s:Int} {l:List Tk} {k:Nat} (h:k < l.length):(tnK s l k).getD k default=l.getD k default:=by
  unfold tnK
  rw [List.getD_eq_getElem?_getD,List.getElem?_append_right (by simp;omega),List.getElem?_drop]
  simp [Nat.min_eq_left (Nat.le_of_lt h),List.getD_eq_getElem?_getD]
theorem tnK_succ {s:Int} {l:List Tk} {k:Nat} (h:k < l.length):(tnK s l k).set k (tnT s (l.getD k default))=tnK s l (k+1):=by
  unfold tnK
  have hl:((l.take k).map (tnT s)).length=k:=by simp;omega
  rw [List.set_append_right _ _ (by omega),hl,Nat.sub_self,List.drop_eq_getElem_cons h,List.set_cons_zero,List.take_succ_eq_append_getElem h,List.map_append,List.append_assoc]
  simp [List.getD_eq_getElem?_getD,h]
def tuS (c:Chart) (a:Ask) (k:Nat):St:={ t:=asg [(2,.ptr 0 0),(3,.ptr 1 0),(4,.ptr 2 0),(5,.ptr 3 0),(6,aI k)],h:=hasg [(0,.cells [.row 4,aI c.secs,.row 5]),(1,.cells (cAsk a)),(2,.cells [.nil,aI 0,.nil]),(3,.cells [aI 0,aI 0,aI 0,.nil,aB false]),(4,.row 51 2 (c.cabins.map eCabin)),(5,.row 81 7 ((tnK c.secs c.sold k).map eTk))],n:=6 }
def tbE29_turned:=vj @ty3 (vj @ty26 (vj @ty28 (vj @ty31 (vj @ty81 (vj @ti3.eq_1 (vj @ti26.eq_1 (vj @ti28.eq_1 (vj @ti31.eq_1 @ti81.eq_1))))))))
def xbE29_2:=vj @aI.eq_1 (vj @aB.eq_1 (@mInt))
set_option maxHeartbeats 4000000 in
theorem turned_fn (c:Chart) (a:Ask) (hv:Val c) (h1:0≤a.frm∧a.frm≤1000) (h2:0≤a.to∧a.to≤1000) (h3:a.sexes.length≤1000):FnV Try.prog 41 [aChart c,aAsk a] (.tup [aChart (tnC c),aAsk (tnA c.secs a)]):=by
  have env:Env (fun _=>True) Try.prog tyB (tab [(39,fnE pCopyC),(36,valE false scopyA)]):=mkEnv ⟨eCopyC,ecopyA,trivial⟩
  refine Fn.of (A:=fun _=>True) (n0:=0) (D:=noD) (Fn0 Try.func41 rfl (fun vs w=>by kernel_rfl) (by kernel_rfl)) (by simp) (by simp [AV.ids,AV.idsL,aChart,cChart,aAsk,cAsk]) (fun i o h=>by cases h) (fun _ _ _ _=>trivial) noD_ok ?_
  have hsec:=hv.car.secs
  have hcab:=hv.car.cabs
  have hman:=hv.many
  have b1:c.cabins.length≤100000:=by omega
  have b2:c.sold.length≤100000:=by omega
  have b3:a.sexes.length≤100000:=by omega
  repeat' (first|(apply nx;with_reducible constructor)|refine uq (by decide) ?_|((first|refine vx env fun Q hQ=>?_|refine vz fun Q hQ=>?_);simp only [vkt,seval,tbE29_turned,xbE29_2,aTk,cTk,eTk,rTk,rCabin,mTk,mCabin,aChart,cChart,aAsk,cAsk,tuS,pCopyC,scopyA,List.length_map,List.length_set,List.set_set,b1,b2,b3];(try simp only [ite_and]);(repeat' (first|with_reducible assumption|refine And.intro ?_ ?_|intro hp));all_goals (first|(refine hQ _ ?_;clear hQ Q)|(refine hQ _ (fun h=>?_) (fun h=>?_) <;> clear hQ Q <;> (try simp only [vki,reduceCtorEq] at h))|(refine vq ?_;kernel_rfl)|omega|assumption|with_reducible rfl|skip)))
  refine sym_loop (fun k:{ k:Nat // k≤c.sold.length }=>tuS c a k.1) (fun k=>c.sold.length - k.1) ⟨0,Nat.zero_le _⟩ ?_ fun ⟨k,hk⟩=>?_
  · simp only [tuS,show tnK c.secs c.sold 0=c.sold by simp [tnK]]
    (refine Le.ok some [] ?_;constructor;all_goals (try simp only [vle,vkt,seval,tbE29_turned,xbE29_2,aTk,cTk,eTk,rTk,rCabin,mTk,mCabin,aChart,cChart,aAsk,cAsk,tuS,pCopyC,scopyA,List.length_map,List.length_set,List.set_set]))
    all_goals first|rfl|(simp;done)
  simp only at hk ⊢
  have hMl:=tnK_len c.secs c.sold k
  by_cases hkl:k < c.sold.length
  · have hS:=tnK_succ (s:=c.secs) hkl
    have hG:=tnK_get (s:=c.secs) hkl
    obtain ⟨M,hM⟩:∃ M,tnK c.secs c.sold k=M:=⟨_,rfl⟩
    rw [hM] at hMl hS hG
    have d1:decide ((k:Int) < (M.length:Int))=true:=decide_eq_true (by omega)
    have e9:IntKind.wrap .i64 ((k:Int)+1)=((k+1:Nat):Int):=by rw [wrap64 (by omega) (by omega)];rfl
    have k0:((k:Int)).toNat=k:=rfl
    have hkM:k < M.length:=by omega
    have hgM:=hTk hkM
    have hok:=hv.tk _ (gMem (d:=default) hkl)
    obtain ⟨x,hx⟩:∃ x,c.sold.getD k default=x:=⟨_,rfl⟩
    rw [hG,hx] at hgM
    rw [hx] at hS hok
    have hf:=hok.frm
    have hw:=hok.way
    have ht:=hok.to
    have w1:IntKind.wrap .i64 (c.secs - x.to)=c.secs - x.to:=wrap64 (by omega) (by omega)
    have w2:IntKind.wrap .i64 (c.secs - x.frm)=c.secs - x.frm:=wrap64 (by omega) (by omega)
    have hs1:((M.map eTk).set k [.v (.int .i64 x.party),.v (.int .i64 x.sex),.v (.int .i64 x.cab),.v (.int .i64 x.bed),.v (.int .i64 (c.secs - x.to)),.v (.int .i64 x.to),.v (.bool x.dog)]).getD k []=[.v (.int .i64 x.party),.v (.int .i64 x.sex),.v (.int .i64 x.cab),.v (.int .i64 x.bed),.v (.int .i64 (c.secs - x.to)),.v (.int .i64 x.to),.v (.bool x.dog)]:=by
      simp [List.getD_eq_getElem?_getD,hkM]
    have hs2:(M.map eTk).set k [.v (.int .i64 x.party),.v (.int .i64 x.sex),.v (.int .i64 x.cab),.v (.int .i64 x.bed),.v (.int .i64 (c.secs - x.to)),.v (.int .i64 (c.secs - x.frm)),.v (.bool x.dog)]=(M.set k (tnT c.secs x)).map eTk:=by
      rw [List.map_set];rfl
    simp only [tuS,hM]
    repeat' (first|(apply nx;with_reducible constructor)|refine uq (by decide) ?_|((first|refine vx env fun Q hQ=>?_|refine vz fun Q hQ=>?_);simp only [vkt,seval,tbE29_turned,xbE29_2,aTk,cTk,eTk,rTk,rCabin,mTk,mCabin,aChart,cChart,aAsk,cAsk,tuS,pCopyC,scopyA,List.length_map,List.length_set,List.set_set,d1,e9,k0,hkM,hgM,w1,w2,hs1];(try simp only [ite_and]);(repeat' (first|with_reducible assumption|refine And.intro ?_ ?_|intro hp));all_goals (first|(refine hQ _ ?_;clear hQ Q)|(refine hQ _ (fun h=>?_) (fun h=>?_) <;> clear hQ Q <;> (try simp only [vki,reduceCtorEq] at h))|(refine vq ?_;kernel_rfl)|omega|assumption|with_reducible rfl|skip)))
    refine ⟨⟨k+1,hkl⟩,by show c.sold.length - (k+1) < c.sold.length - k;omega, ?_⟩
    simp only [tuS,← hS,← hs2]
    (refine Le.ok some [] ?_;constructor;all_goals (try simp only [vle,vkt,seval,tbE29_turned,xbE29_2,aTk,cTk,eTk,rTk,rCabin,mTk,mCabin,aChart,cChart,aAsk,cAsk,tuS,pCopyC,scopyA,List.length_map,List.length_set,List.set_set]))
    all_goals first|rfl|(simp;done)
  · obtain rfl:k=c.sold.length:=by omega
    have hF:tnK c.secs c.sold c.sold.length=(tnC c).sold:=by simp [tnK,tnC]
    have d1:decide (((c.sold.length:Nat):Int) < ((tnC c).sold.length:Int))=false:=decide_eq_false (by rw [← hF,tnK_len];omega)
    have w1:IntKind.wrap .i64 (c.secs - a.to)=c.secs - a.to:=wrap64 (by omega) (by omega)
    have w2:IntKind.wrap .i64 (c.secs - a.frm)=c.secs - a.frm:=wrap64 (by omega) (by omega)
    simp only [tuS,hF]
    repeat' (first|(apply nx;with_reducible constructor)|refine uq (by decide) ?_|((first|refine vx env fun Q hQ=>?_|refine vz fun Q hQ=>?_);simp only [vkt,seval,tbE29_turned,xbE29_2,aTk,cTk,eTk,rTk,rCabin,mTk,mCabin,aChart,cChart,aAsk,cAsk,tuS,pCopyC,scopyA,List.length_map,List.length_set,List.set_set,d1,w1,w2];(try simp only [ite_and]);(repeat' (first|with_reducible assumption|refine And.intro ?_ ?_|intro hp));all_goals (first|(refine hQ _ ?_;clear hQ Q)|(refine hQ _ (fun h=>?_) (fun h=>?_) <;> clear hQ Q <;> (try simp only [vki,reduceCtorEq] at h))|(refine vq ?_;kernel_rfl)|omega|assumption|with_reducible rfl|skip)))
    (simp only [vrt,Try.results41,vkt,seval,tbE29_turned,xbE29_2,aTk,cTk,eTk,rTk,rCabin,mTk,mCabin,aChart,cChart,aAsk,cAsk,tuS,pCopyC,scopyA,List.length_map,List.length_set,List.set_set];refine Fin.val rfl ?_;(try simp only [AV.le,AV.leL]))
    all_goals first|rfl|(simp;done)|(refine ⟨⟨⟨_,_,rfl⟩, ?_,⟨_,_,rfl⟩, ?_⟩, ?_⟩ <;> first|trivial|rfl|(simp [tnA,tnC];done)|exact ⟨⟨rfl,rfl,rfl,rfl,rfl,trivial⟩,trivial⟩)
def sturned:List AV→Prop × AV
  |[.agg [.sl x0,.v (.int .i64 x1),.sl x2],.agg [.v (.int .i64 y0),.v (.int .i64 y1),.v (.int .i64 y2),.sl y3,.v (.bool y4)]]=>(x0=(x0.map dCabin).map eCabin∧x2=(x2.map dTk).map eTk∧y3=(y3.map dInt).map eInt∧Val ((⟨(x0.map dCabin),x1,(x2.map dTk)⟩:Chart))∧0≤((⟨y0,y1,y2,(y3.map dInt),y4⟩:Ask)).frm∧((⟨y0,y1,y2,(y3.map dInt),y4⟩:Ask)).frm≤1000∧0≤((⟨y0,y1,y2,(y3.map dInt),y4⟩:Ask)).to∧((⟨y0,y1,y2,(y3.map dInt),y4⟩:Ask)).to≤1000∧((⟨y0,y1,y2,(y3.map dInt),y4⟩:Ask)).sexes.length≤1000,.tup [aChart (tnC ((⟨(x0.map dCabin),x1,(x2.map dTk)⟩:Chart))),aAsk (tnA ((⟨(x0.map dCabin),x1,(x2.map dTk)⟩:Chart)).secs ((⟨y0,y1,y2,(y3.map dInt),y4⟩:Ask)))])
  |_=>(False,.junk)
theorem eturned {A:Frm→Prop}:EntryOK A Try.prog 41 (valE false sturned):=valE_ok fun vs hv h=>by
  clear hv
  unfold sturned at h ⊢
  split at h
  · rename_i x0 x1 x2 y0 y1 y2 y3 y4;obtain ⟨q0,q1,q2,k0,k1,k2,k3,k4,k5⟩:=h
    refine ⟨by first|trivial|(simp [AV.plain,AV.plainL,aI,aB,aInts,aBunks,aTks,aBunk,aTk,cTk];done)|(repeat' split) <;> simp [AV.plain,AV.plainL,aI,aB,aInts,aBunks,aTks,aBunk,aTk,cTk],fun h=>absurd h (by decide), ?_⟩
    have:=turned_fn ((⟨(x0.map dCabin),x1,(x2.map dTk)⟩:Chart)) ((⟨y0,y1,y2,(y3.map dInt),y4⟩:Ask)) k0 ⟨k1,k2⟩ ⟨k3,k4⟩ k5
    simp only [aAsk,aB,aCabins,aChart,aI,aInts,aTks,cAsk,cChart,← q0,← q1,← q2] at this
    first|exact this|(simp only [aAsk,aB,aCabins,aChart,aI,aInts,aTks,cAsk,cChart,← q0,← q1,← q2];exact this)
  · exact h.elim
end Go.Sym.B
namespace Go.Sym.B
open Go Go.Sym Go.Proofs Go.Sym.C
def sRoomF:List AV→Prop × AV
  |[.agg [.sl x0,.v (.int .i64 x1),.sl x2],.v (.int .i64 a),.v (.int .i64 b),.v (.int .i64 d)]=>(x0=(x0.map dCabin).map eCabin∧x2=(x2.map dTk).map eTk∧((⟨(x0.map dCabin),x1,(x2.map dTk)⟩:Chart)).cabins.length≤maxLen,.tup [aI (roomA ((⟨(x0.map dCabin),x1,(x2.map dTk)⟩:Chart)) a b d).1,aI (roomA ((⟨(x0.map dCabin),x1,(x2.map dTk)⟩:Chart)) a b d).2])
  |_=>(False,.junk)
theorem eRoomF {A:Frm→Prop}:EntryOK A Try.prog 42 (valE false sRoomF):=valE_ok fun vs hv h=>by
  clear hv
  unfold sRoomF at h ⊢
  split at h
  · rename_i x0 x1 x2 a b d;obtain ⟨q0,q1,k0⟩:=h
    refine ⟨by first|trivial|(simp [AV.plain,AV.plainL,aI,aB,aInts,aBunks,aTks,aBunk,aTk,cTk];done)|(repeat' split) <;> simp [AV.plain,AV.plainL,aI,aB,aInts,aBunks,aTks,aBunk,aTk,cTk],fun h=>absurd h (by decide), ?_⟩
    have:=Room_fn ((⟨(x0.map dCabin),x1,(x2.map dTk)⟩:Chart)) a b d k0
    simp only [aCabins,aChart,aI,aTks,cChart,← q0,← q1] at this
    first|exact this|(simp only [aCabins,aChart,aI,aTks,cChart,← q0,← q1];exact this)
  · exact h.elim
theorem first_ok {c:Chart} {a:Ask} (h:bothE c a=0):bothE c ⟨a.party,a.frm,a.to,[a.sexes.getD 0 0],false⟩=0:=by
  obtain ⟨g1,g2⟩:=both_ok h
  have hl:=(sx_of g2).2
  unfold bothE
  rw [g1,if_neg (by decide)]
  unfold askE at *
  split at g2
  · exact absurd g2 (by decide)
  rename_i k1
  split at g2
  · exact absurd g2 (by decide)
  rename_i k2
  split at g2
  · exact absurd g2 ‹_›
  rename_i k3
  split at g2
  · exact absurd g2 ‹_›
  rw [if_neg k1,if_neg k2,if_neg k3]
  have hz:=firstE_zero g2 _ (List.mem_map.2 ⟨a.sexes.getD 0 0,gMem hl,rfl⟩)
  simp only [List.length_singleton,List.map_cons,List.map_nil]
  rw [hz]
  rfl
theorem one_sex {c:Chart} {a:Ask} (h:bothE c a=0):inB (a.sexes.getD 0 0) 1 2=true:=by
  have g2:=(both_ok h).2
  have hl:=(sx_of g2).2
  unfold askE at g2
  split at g2
  · exact absurd g2 (by decide)
  split at g2
  · exact absurd g2 (by decide)
  split at g2
  · exact absurd g2 ‹_›
  split at g2
  · exact absurd g2 ‹_›
  have hz:=firstE_zero g2 _ (List.mem_map.2 ⟨a.sexes.getD 0 0,gMem hl,rfl⟩)
  cases hq:inB (a.sexes.getD 0 0) 1 2 with
  |true=>rfl
  |false=>rw [hq] at hz;exact absurd hz (by decide)
theorem way_ok {c:Chart} {a:Ask} (h:bothE c a=0):wayE c.secs a.frm a.to=0:=by
  have:=ask_way h
  unfold wayE
  rw [if_neg (by omega)]
def tbE30_law:=vj @ty3 (vj @ty4 (vj @ty22 (vj @ty28 (vj @ty31 (vj @ty33 (vj @ty34 (vj @ty37 (vj @ti3.eq_1 (vj @ti4.eq_1 (vj @ti22.eq_1 (vj @ti28.eq_1 (vj @ti31.eq_1 (vj @ti33.eq_1 (vj @ti34.eq_1 @ti37.eq_1))))))))))))))
def xbE30_1:=vj @aI.eq_1 (vj @aB.eq_1 (vj @aInts.eq_1 (vj @eInt.eq_1 (vj @gInt (vj @rInt (@mInt))))))
set_option maxRecDepth 100000 in
set_option maxHeartbeats 40000000 in
theorem turnedLaw_fn (nums:List Int) (hnums:nums.length≤maxLen):FnV Try.prog 8 [aInts nums] (aB true):=by
  have env:Env (fun _=>True) Try.prog tyB (tab [(15,fnE pBag),(16,fnE pChartOf),(17,fnE pAskedOf),(41,valE false sturned),(18,fnE pPlacesF),(42,valE false sRoomF),(38,valE true samong),(29,valE false sChangeF),(25,valE true sselling)]):=mkEnv ⟨eBag,eChartOf,eAskedOf,eturned,ePlacesF,eRoomF,eamong,eChangeF,eselling,trivial⟩
  refine Fn.of (A:=fun _=>True) (n0:=0) (D:=noD) (Fn0 Try.func8 rfl (fun vs w=>by kernel_rfl) (by kernel_rfl)) (by simp) (by simp [AV.ids,AV.idsL,aInts]) (fun i o h=>by cases h) (fun _ _ _ _=>trivial) noD_ok ?_
  obtain ⟨x0,hx0⟩:∃ x,nbS nums=x:=⟨_,rfl⟩
  obtain ⟨hC0,hCp,hCs,hCc,hCg⟩:=co_ok (x:=x0) (a:=3) (g:=5) (s:=7) (by decide) (by decide) (by decide)
  obtain ⟨C,hC⟩:∃ C,coC x0 3 5 7=C:=⟨_,rfl⟩
  obtain ⟨x1,hx1⟩:∃ x,coX x0 3 5 7=x:=⟨_,rfl⟩
  rw [hC] at hC0 hCp hCs hCc hCg
  obtain ⟨hA0,hA1,hA2⟩:=ao_ok (x:=x1) (n:=2) hC0 hCp (by decide)
  obtain ⟨A,hA⟩:∃ A,aoA x1 C.secs 2=A:=⟨_,rfl⟩
  rw [hA] at hA0 hA1 hA2
  have hv:=val_of hC0
  have hsec:=hv.car.secs
  have hcab:=hv.car.cabs
  have hmx:(100000:Nat)≤maxLen:=by decide
  have hway:=ask_way hA0
  have eC:(⟨C.cabins,C.secs,C.sold⟩:Chart)=C:=rfl
  have eA:(⟨A.party,A.frm,A.to,A.sexes,A.dog⟩:Ask)=A:=rfl
  have b1:0≤A.frm:=by omega
  have b2:A.frm≤1000:=by omega
  have b3:0≤A.to:=by omega
  have b4:A.to≤1000:=by omega
  have b5:A.sexes.length≤1000:=by omega
  have c1:C.cabins.length≤maxLen:=by omega
  have c2:A.sexes.length≤maxLen:=by omega
  have hbt:=tn_both hA0
  have hpt:=tn_places hA0
  have hrt:=tn_room (sex:=A.sexes.getD 0 0) hC0 (way_ok hA0)
  have hF:=first_ok hA0
  have hFt:=tn_both hF
  have hct:=tn_change hF rfl rfl
  have hlP:=plP_bd (plOk_of hA0)
  have hPl:placesA C A=(plP C A).map (·.1):=by unfold placesA;rw [if_pos hA0]
  have hP1:∀ p ∈ placesA C A,p.length≤1000:=fun p hp=>by
    rw [places_free hA0 (by omega)] at hp
    have:=alL_one p (List.mem_filter.1 hp).1
    omega
  have hPn:(placesA C A).length≤1000:=by rw [hPl,List.length_map];omega
  have hro:∃ r:Int,roomA C (A.sexes.getD 0 0) A.frm A.to=(r,0):=by
    unfold roomA
    rw [hC0,if_neg (by decide),one_sex hA0,if_neg (by decide),way_ok hA0,if_neg (by decide)]
    exact ⟨_,rfl⟩
  obtain ⟨r,hro⟩:=hro
  rw [hro] at hrt
  obtain ⟨s0,hs0⟩:∃ s,A.sexes.getD 0 0=s:=⟨_,rfl⟩
  rw [hs0] at hF hFt hct hro hrt
  obtain ⟨L,hL⟩:∃ L,placesA C A=L:=⟨_,rfl⟩
  rw [hL] at hpt hP1 hPn
  have hamb:amB L L=true:=am_sub fun p hp=>hp
  have hsx0:0 < A.sexes.length:=by omega
  have m0:(A.sexes.map eInt).take 1=[[.v (.int .i64 s0)]]:=by
    match hA':A.sexes,hsx0 with
    |b :: _,_ =>
      rw [hA'] at hs0
      show [eInt b]=_
      rw [show b=s0 from hs0];rfl
  have m1:List.map dInt [[.v (.int .i64 s0)]]=[s0]:=rfl
  have m2:List.map eInt [s0]=[[.v (.int .i64 s0)]]:=rfl
  have m3:(1:Nat)≤maxLen:=by decide
  have m4:(1:Int)≤(A.sexes.length:Int):=by omega
  obtain ⟨D,hD⟩:∃ D,tnC C=D:=⟨_,rfl⟩
  have eD:(⟨D.cabins,D.secs,D.sold⟩:Chart)=D:=rfl
  have d1:D.cabins.length≤maxLen:=by rw [← hD];exact c1
  have hDs:D.secs=C.secs:=by rw [← hD];rfl
  obtain ⟨f,hf⟩:∃ f,C.secs - A.to=f:=⟨_,rfl⟩
  obtain ⟨t,ht⟩:∃ t,C.secs - A.frm=t:=⟨_,rfl⟩
  have eT:tnA C.secs A=⟨A.party,f,t,A.sexes,A.dog⟩:=by rw [← hf,← ht];rfl
  rw [hD,eT] at hbt hpt
  rw [hD,hf,ht] at hrt
  have eT2:tnA C.secs ⟨A.party,A.frm,A.to,[s0],false⟩=⟨A.party,f,t,[s0],false⟩:=by rw [← hf,← ht];rfl
  rw [hD,eT2] at hct
  obtain ⟨⟨w,n,e⟩,hw⟩:∃ q,changeA C ⟨A.party,A.frm,A.to,[s0],false⟩=q:=⟨_,rfl⟩
  obtain ⟨⟨w',n',e'⟩,hw'⟩:∃ q,changeA D ⟨A.party,f,t,[s0],false⟩=q:=⟨_,rfl⟩
  rw [hw,hw'] at hct
  simp only [Prod.mk.injEq] at hct
  obtain ⟨⟨rfl,rfl⟩,he⟩:=hct
  rcases he with rfl|rfl
  · repeat' (first|(apply nx;with_reducible constructor)|refine uq (by decide) ?_|((first|refine vx env fun Q hQ=>?_|refine vz fun Q hQ=>?_);simp only [vkt,seval,tbE30_law,xbE30_1,aBunk,aBunks,aBunkss,eBunk,eBunks,rBunks,mBunk,mBunks,mCabin,mTk,aChart,cChart,aAsk,cAsk,pBag,pChartOf,pAskedOf,sturned,pPlacesF,sRoomF,samong,sChangeF,sselling,List.length_map,hx0,hC,hx1,hA,hsec,eC,eA,hv,b1,b2,b3,b4,b5,c1,c2,hD,eD,d1,hf,ht,eT,hL,hA0,hpt,hbt,hs0,hsx0,hro,hrt,hP1,hPn,hamb,m0,m1,m2,m3,m4,hw,hw',List.length_cons,List.length_nil,List.drop_zero,decide_true];(try simp only [ite_and]);(repeat' (first|with_reducible assumption|refine And.intro ?_ ?_|intro hp));all_goals (first|(refine hQ _ ?_;clear hQ Q)|(refine hQ _ (fun h=>?_) (fun h=>?_) <;> clear hQ Q <;> (try simp only [vki,reduceCtorEq] at h))|(refine vq ?_;kernel_rfl)|omega|assumption|with_reducible rfl|skip)))
    (simp only [vrt,Try.results8,vkt,seval,tbE30_law,xbE30_1,aBunk,aBunks,aBunkss,eBunk,eBunks,rBunks,mBunk,mBunks,mCabin,mTk,aChart,cChart,aAsk,cAsk,pBag,pChartOf,pAskedOf,sturned,pPlacesF,sRoomF,samong,sChangeF,sselling,List.length_map];refine Fin.val rfl ?_;(try simp only [AV.le,AV.leL]))
    all_goals first|rfl|(simp;done)
  · repeat' (first|(apply nx;with_reducible constructor)|refine uq (by decide) ?_|((first|refine vx env fun Q hQ=>?_|refine vz fun Q hQ=>?_);simp only [vkt,seval,tbE30_law,xbE30_1,aBunk,aBunks,aBunkss,eBunk,eBunks,rBunks,mBunk,mBunks,mCabin,mTk,aChart,cChart,aAsk,cAsk,pBag,pChartOf,pAskedOf,sturned,pPlacesF,sRoomF,samong,sChangeF,sselling,List.length_map,hx0,hC,hx1,hA,hsec,eC,eA,hv,b1,b2,b3,b4,b5,c1,c2,hD,eD,d1,hf,ht,eT,hL,hA0,hpt,hbt,hs0,hsx0,hro,hrt,hP1,hPn,hamb,m0,m1,m2,m3,m4,hw,hw',List.length_cons,List.length_nil,List.drop_zero,decide_true];(try simp only [ite_and]);(repeat' (first|with_reducible assumption|refine And.intro ?_ ?_|intro hp));all_goals (first|(refine hQ _ ?_;clear hQ Q)|(refine hQ _ (fun h=>?_) (fun h=>?_) <;> clear hQ Q <;> (try simp only [vki,reduceCtorEq] at h))|(refine vq ?_;kernel_rfl)|omega|assumption|with_reducible rfl|skip)))
    (simp only [vrt,Try.results8,vkt,seval,tbE30_law,xbE30_1,aBunk,aBunks,aBunkss,eBunk,eBunks,rBunks,mBunk,mBunks,mCabin,mTk,aChart,cChart,aAsk,cAsk,pBag,pChartOf,pAskedOf,sturned,pPlacesF,sRoomF,samong,sChangeF,sselling,List.length_map];refine Fin.val rfl ?_;(try simp only [AV.le,AV.leL]))
    all_goals first|rfl|(simp;done)
end Go.Sym.B
