/- Walks and what they compute, joined: part 2. -/
import Derived.Test.YtoapndlmbpphfaaB2
import Derived.Test.YtoapndlmbpphfaaE1
set_option linter.all false
namespace Go.Sym.B
open Go Go.Sym Go.Proofs Go.Sym.C
set_option maxHeartbeats 4000000 in
theorem parts_step (p:Int) (ps:List Int) (hl:ps.length≤3) (hp:0≤p∧p≤4) (hps:∀ n ∈ ps,0≤n∧n≤4) (hr:FnV Try.prog 75 [aInts ps] (aIntss (partsL ps))):FnV Try.prog 75 [aInts (p :: ps)] (aIntss (partsL (p :: ps))):=by
  have env:Env (fun _=>True) Try.prog tyB (tab [(75,valE false (s75 ps))]):=mkEnv ⟨parts_env hr,trivial⟩
  refine Fn.of (A:=fun _=>True) (n0:=0) (D:=noD) (Fn0 Try.func75 rfl (fun vs w=>by kernel_rfl) (by kernel_rfl)) (by simp) (by simp [AV.ids,AV.idsL,aInts,aI]) (fun i o h=>by cases h) (fun _ _ _ _=>trivial) noD_ok ?_
  obtain ⟨q,hq⟩:∃ q:Nat,p=(q:Int):=⟨p.toNat,by omega⟩
  have hq4:q≤4:=by omega
  have hM:∀ r ∈ partsL ps,r.length=ps.length:=fun r hr=>(parts_mem (fun n hn=>(hps n hn).1) hr).1
  have hR:(partsL ps).length≤125:=Nat.le_trans (parts_le fun n hn=>(hps n hn).2) (Nat.pow_le_pow_right (by decide) hl)
  have hLN:partsL (p :: ps)=paK (partsL ps) (q+1):=by rw [partsL,paK_eq,hq,Int.toNat_natCast]
  rw [hLN]
  obtain ⟨rs,hrs⟩:∃ rs,partsL ps=rs:=⟨_,rfl⟩
  rw [hrs] at hR hM ⊢
  obtain ⟨l,hL⟩:∃ l,l=p :: ps:=⟨_,rfl⟩
  rw [← hL]
  have l0:0 < l.length:=by rw [hL];simp
  have l0':¬ (l.length:Int)=0:=by omega
  have g0:l.getD 0 0=(q:Int):=by rw [hL,← hq];rfl
  have dp:l.drop 1=ps:=by rw [hL];rfl
  have l1:1≤l.length:=l0
  clear hL
  have big:(100000000:Nat)≤maxLen:=by decide
  have hX:∀ n,n≤q+1→(paK rs n).length≤625:=fun n hn=>by
    rw [paK_len]
    exact Nat.le_trans (Nat.mul_le_mul (show n≤5 by omega) hR) (by decide)
  repeat' (first|(apply nx;with_reducible constructor)|refine uq (by decide) ?_|((first|refine vz env fun Q hQ=>?_|refine vj fun Q hQ=>?_);simp only [vkt,seval,tbN8_75,xbN8_1,pa1,pa2,s75,List.take_length,List.cons_append,List.nil_append,l0',dp,hrs];(try simp only [ite_and]);(repeat' (first|with_reducible assumption|refine And.intro ?_ ?_|intro hp));all_goals (first|(refine hQ _ ?_;clear hQ Q)|(refine hQ _ (fun h=>?_) (fun h=>?_) <;> clear hQ Q <;> (try simp only [vki,reduceCtorEq] at h))|omega|assumption|with_reducible rfl|(refine vq ?_;kernel_rfl)|skip)))
  refine sym_loop (fun n:{ n:Nat // n≤q+1 }=>pa1 l rs (paK rs n.1) n.1) (fun n=>q+1 - n.1) ⟨0,Nat.zero_le _⟩ ?_ fun ⟨n,hn⟩=>?_
  · (refine Le.ok (fun _=>none) [] ?_;constructor;all_goals (try simp only [vle,vkt,seval,tbN8_75,xbN8_1,pa1,pa2,s75,List.take_length,List.cons_append,List.nil_append]))
    all_goals first|rfl|(simp [paK];done)
  · repeat' (first|(apply nx;with_reducible constructor)|refine uq (by decide) ?_)
    (refine vz env fun Q hQ=>?_;simp only [vkt,seval,tbN8_75,xbN8_1,pa1,pa2,s75,List.take_length,List.cons_append,List.nil_append,g0];(try simp only [ite_and]);(repeat' (first|with_reducible assumption|refine And.intro ?_ ?_|intro hp));all_goals (first|(refine hQ _ ?_;clear hQ Q)|omega|assumption|with_reducible rfl|(refine vq ?_;kernel_rfl)|skip))
    repeat' (first|(apply nx;with_reducible constructor)|refine uq (by decide) ?_)
    (refine sym_cd (by simp only [vkt,seval,tbN8_75,xbN8_1,pa1,pa2,s75,List.take_length,List.cons_append,List.nil_append,g0];rfl) (fun h=>?_) (fun h=>?_) <;> (try simp only [vki,reduceCtorEq] at h))
    · have hlt:n < q+1:=by omega
      have e9:IntKind.wrap .i64 ((n:Int)+1)=((n+1:Nat):Int):=by rw [wrap64 (by omega) (by omega)];rfl
      have hAcc:paK rs (n+1)=paK rs n++rs.map ((n:Int) :: ·):=rfl
      have hX:=hX n hn
      generalize hXe:paK rs n=X at *
      repeat' (first|(apply nx;with_reducible constructor)|refine uq (by decide) ?_|((first|refine vz env fun Q hQ=>?_|refine vj fun Q hQ=>?_);simp only [vkt,seval,tbN8_75,xbN8_1,pa1,pa2,s75,List.take_length,List.cons_append,List.nil_append,g0];(try simp only [ite_and]);(repeat' (first|with_reducible assumption|refine And.intro ?_ ?_|intro hp));all_goals (first|(refine hQ _ ?_;clear hQ Q)|(refine hQ _ (fun h=>?_) (fun h=>?_) <;> clear hQ Q <;> (try simp only [vki,reduceCtorEq] at h))|omega|assumption|with_reducible rfl|(refine vq ?_;kernel_rfl)|skip)))
      refine sym_loop (fun k:{ k:Nat // k≤rs.length }=>pa2 l rs X n k.1) (fun k=>rs.length - k.1) ⟨0,Nat.zero_le _⟩ ?_ fun ⟨k,hk2⟩=>?_
      · (refine Le.ok some [] ?_;constructor;all_goals (try simp only [vle,vkt,seval,tbN8_75,xbN8_1,pa1,pa2,s75,List.take_length,List.cons_append,List.nil_append]))
        all_goals first|rfl|(simp;done)
      · repeat' (first|(apply nx;with_reducible constructor)|refine uq (by decide) ?_)
        (refine vz env fun Q hQ=>?_;simp only [vkt,seval,tbN8_75,xbN8_1,pa1,pa2,s75,List.take_length,List.cons_append,List.nil_append];(try simp only [ite_and]);(repeat' (first|with_reducible assumption|refine And.intro ?_ ?_|intro hp));all_goals (first|(refine hQ _ ?_;clear hQ Q)|omega|assumption|with_reducible rfl|(refine vq ?_;kernel_rfl)|skip))
        repeat' (first|(apply nx;with_reducible constructor)|refine uq (by decide) ?_)
        (refine sym_cd (by simp only [vkt,seval,tbN8_75,xbN8_1,pa1,pa2,s75,List.take_length,List.cons_append,List.nil_append];rfl) (fun h=>?_) (fun h=>?_) <;> (try simp only [vki,reduceCtorEq] at h))
        · have hkl:k < rs.length:=by omega
          have e8:IntKind.wrap .i64 ((k:Int)+1)=((k+1:Nat):Int):=by rw [wrap64 (by omega) (by omega)];rfl
          have hr:=hM _ (gMem (d:=[]) hkl)
          have hT:(rs.take (k+1)).map ((n:Int) :: ·)=(rs.take k).map ((n:Int) :: ·)++[(n:Int) :: rs.getD k []]:=by
            rw [List.take_succ_eq_append_getElem hkl,List.map_append];simp [List.getD_eq_getElem?_getD,hkl]
          have hY:(X++(rs.take k).map ((n:Int) :: ·)).length≤750:=by
            rw [List.length_append,List.length_map,List.length_take];omega
          obtain ⟨r,hre⟩:∃ r,rs.getD k []=r:=⟨_,rfl⟩
          rw [hre] at hr hT
          obtain ⟨Y,hYe⟩:∃ Y,X++(rs.take k).map ((n:Int) :: ·)=Y:=⟨_,rfl⟩
          rw [hYe] at hY
          have m1:(Y.length+1) * 24≤140737488355328∧Y.length+1≤maxLen:=by omega
          have m2:(1+r.length) * 8≤140737488355328∧1+r.length≤maxLen∧r.length≤maxLen:=by omega
          have e4:Y.map eInts++[[.sl ([.v (.int .i64 (n:Int))] :: r.map eInt)]]=(X++(rs.take (k+1)).map ((n:Int) :: ·)).map eInts:=by
            rw [hT,← List.append_assoc,hYe,List.map_append];rfl
          repeat' (first|(apply nx;with_reducible constructor)|refine uq (by decide) ?_|((first|refine vz env fun Q hQ=>?_|refine vj fun Q hQ=>?_);simp only [vkt,seval,tbN8_75,xbN8_1,pa1,pa2,s75,List.take_length,List.cons_append,List.nil_append,hre,hYe,e4,e8];(try simp only [ite_and]);(repeat' (first|with_reducible assumption|refine And.intro ?_ ?_|intro hp));all_goals (first|(refine hQ _ ?_;clear hQ Q)|(refine hQ _ (fun h=>?_) (fun h=>?_) <;> clear hQ Q <;> (try simp only [vki,reduceCtorEq] at h))|omega|assumption|with_reducible rfl|(refine vq ?_;kernel_rfl)|skip)))
          refine ⟨⟨k+1,hkl⟩,by show rs.length - (k+1) < rs.length - k;omega,?_⟩
          (refine Le.ok (fun j=>if j=0 then some 4 else some j) [] ?_;constructor;all_goals (try simp only [vle,vkt,seval,tbN8_75,xbN8_1,pa1,pa2,s75,List.take_length,List.cons_append,List.nil_append]))
          all_goals first|rfl|(simp;done)
        · have hkn:k=rs.length:=by omega
          subst hkn
          repeat' (first|(apply nx;with_reducible constructor)|refine uq (by decide) ?_|((first|refine vz env fun Q hQ=>?_|refine vj fun Q hQ=>?_);simp only [vkt,seval,tbN8_75,xbN8_1,pa1,pa2,s75,List.take_length,List.cons_append,List.nil_append,e9,List.take_length,← hAcc];(try simp only [ite_and]);(repeat' (first|with_reducible assumption|refine And.intro ?_ ?_|intro hp));all_goals (first|(refine hQ _ ?_;clear hQ Q)|(refine hQ _ (fun h=>?_) (fun h=>?_) <;> clear hQ Q <;> (try simp only [vki,reduceCtorEq] at h))|omega|assumption|with_reducible rfl|(refine vq ?_;kernel_rfl)|skip)))
          refine ⟨⟨n+1,hlt⟩,by show q+1 - (n+1) < q+1 - n;omega,?_⟩
          (refine Le.ok some [] ?_;constructor;all_goals (try simp only [vle,vkt,seval,tbN8_75,xbN8_1,pa1,pa2,s75,List.take_length,List.cons_append,List.nil_append]))
          all_goals first|rfl|(simp [hAcc];done)
    · have hnn:n=q+1:=by omega
      subst hnn
      repeat' (first|(apply nx;with_reducible constructor)|refine uq (by decide) ?_|((first|refine vz env fun Q hQ=>?_|refine vj fun Q hQ=>?_);simp only [vkt,seval,tbN8_75,xbN8_1,pa1,pa2,s75,List.take_length,List.cons_append,List.nil_append];(try simp only [ite_and]);(repeat' (first|with_reducible assumption|refine And.intro ?_ ?_|intro hp));all_goals (first|(refine hQ _ ?_;clear hQ Q)|(refine hQ _ (fun h=>?_) (fun h=>?_) <;> clear hQ Q <;> (try simp only [vki,reduceCtorEq] at h))|omega|assumption|with_reducible rfl|(refine vq ?_;kernel_rfl)|skip)))
      (simp only [vrt,Try.results75,vkt,seval,tbN8_75,xbN8_1,pa1,pa2,s75,List.take_length,List.cons_append,List.nil_append];refine Fin.val rfl ?_;(try simp only [AV.le,AV.leL]))
      all_goals first|exact ⟨_,_,rfl⟩
def xbN8_2:=vk @aI.eq_1 (vk @aB.eq_1 (vk @aInts.eq_1 (vk @aIntss.eq_1 (vk @eInts.eq_1 (vk @eInt.eq_1 (@rInts))))))
theorem parts_nil:FnV Try.prog 75 [aInts []] (aIntss (partsL [])):=by
  have env:Env (fun _=>True) Try.prog tyB (tab []):=mkEnv trivial
  refine Fn.of (A:=fun _=>True) (n0:=0) (D:=noD) (Fn0 Try.func75 rfl (fun vs w=>by kernel_rfl) (by kernel_rfl)) (by simp) (by simp [AV.ids,AV.idsL,aInts,aI]) (fun i o h=>by cases h) (fun _ _ _ _=>trivial) noD_ok ?_
  have q1:(1:Nat)≤maxLen:=by decide
  have zz:decide (((0:Nat):Int)=0)=true:=rfl
  rw [show partsL []=[[]] from rfl]
  repeat' (first|(apply nx;with_reducible constructor)|refine uq (by decide) ?_|((first|refine vz env fun Q hQ=>?_|refine vj fun Q hQ=>?_);simp only [vkt,seval,tbN8_75,xbN8_2,List.map_nil,List.length_nil,zz];(try simp only [ite_and]);(repeat' (first|with_reducible assumption|refine And.intro ?_ ?_|intro hp));all_goals (first|(refine hQ _ ?_;clear hQ Q)|(refine hQ _ (fun h=>?_) (fun h=>?_) <;> clear hQ Q <;> (try simp only [vki,reduceCtorEq] at h))|omega|assumption|with_reducible rfl|(refine vq ?_;kernel_rfl)|skip)))
  (simp only [vrt,Try.results75,vkt,seval,tbN8_75,xbN8_2,List.map_nil,List.length_nil];refine Fin.val rfl ?_;(try simp only [AV.le,AV.leL]))
  all_goals first|exact ⟨_,_,rfl⟩
theorem parts75_fn:∀ (ps:List Int),ps.length≤4→(∀ p ∈ ps,0≤p∧p≤4)→FnV Try.prog 75 [aInts ps] (aIntss (partsL ps))
  |[],_,_=>parts_nil
  |p :: ps,hl,hp=>parts_step p ps (by simpa using hl) (hp p List.mem_cons_self) (fun n hn=>hp n (List.mem_cons_of_mem _ hn)) (parts75_fn ps (by simp at hl;omega) fun q hq=>hp q (List.mem_cons_of_mem _ hq))
def c75:List AV→Prop × AV
  |[.sl xs]=>(xs=(xs.map dInt).map eInt∧xs.length≤4∧(∀ p ∈ xs.map dInt,0≤p∧p≤4),aIntss (partsL (xs.map dInt)))
  |_=>(False,.junk)
theorem d75 {A:Frm→Prop}:EntryOK A Try.prog 75 (valE false c75):=valE_ok fun vs hv h=>by
  clear hv
  unfold c75 at h ⊢
  split at h
  · rename_i xs
    obtain ⟨h1,h2,h3⟩:=h
    refine ⟨trivial,fun h=>absurd h (by decide),?_⟩
    have:=parts75_fn (xs.map dInt) (by rw [List.length_map];exact h2) h3
    rw [aInts,← h1] at this
    exact this
  · exact h.elim
end Go.Sym.B
namespace Go.Sym.B
open Go Go.Sym Go.Proofs Go.Sym.C
def payV:Option DL→AV
  |none=>.tup [.sl [],.sl [],aI 11]
  |some q=>.tup [aInts q.1,aInts q.2,aI 0]
def plF:Option DL→List Int
  |none=>[]
  |some q=>q.1
def blF:Option DL→List Int
  |none=>[]
  |some q=>q.2
theorem aPay_of {l:Led} {c:Int} {h d:List Int} {n:Int} (h0:moneyE l c n [h,d]=0) (hh:∀ x ∈ h,0≤x) (hd:∀ x ∈ d,0≤x) {o:Option DL} (ho:payL (l.coins.getD c.toNat []) h d n=o):aPay l c h d n=payV o:=by
  unfold aPay
  rw [if_neg (by rw [h0];simp),pyP,pay_is hh hd]
  subst ho
  cases payL (l.coins.getD c.toNat []) h d n <;> rfl
def c73:List AV→Prop × AV
  |[.agg [.sl cs,.sl rs,.sl ss,.sl es],.v (.int .i64 c),.sl hs,.sl ds,.v (.int .i64 n)]=>(isL cs rs ss es∧Fit (ldOf cs rs ss es)∧hs=(hs.map dInt).map eInt∧ds=(ds.map dInt).map eInt∧(hs.map dInt).length≤20∧(ds.map dInt).length≤20,aPay (ldOf cs rs ss es) c (hs.map dInt) (ds.map dInt) n)
  |_=>(False,.junk)
theorem d73 {A:Frm→Prop}:EntryOK A Try.prog 73 (valE false c73):=valE_ok fun vs hv h=>by
  clear hv
  unfold c73 at h ⊢
  split at h
  · obtain ⟨h1,h2,h3,h4,h5,h6⟩:=h
    refine ⟨by unfold aPay; split; · simp [AV.plain, AV.plainL, aI]
               · split <;> simp [AV.plain,AV.plainL,aI,aInts],fun h=>absurd h (by decide),?_⟩
    rename_i cs rs ss es c hs ds n
    have:=pay_fn (ldOf cs rs ss es) c (hs.map dInt) (ds.map dInt) n h2 h5 h6
    rw [← aLed_of h1]
    simp only [aInts,← h3,← h4] at this
    exact this
  · exact h.elim
def pdRow (ps d:List Int) (price:Int) (o:Option DL) (x:List Int) (k:Nat):Option DL:=(((partsL d).take k).map fun y=>(x,y)).foldl (pkG cntD (pySel ps price)) o
def pdAll (ps h d:List Int) (price:Int) (i:Nat):Option DL:=((partsL h).take i).foldl (fun o x=>pdRow ps d price o x (partsL d).length) none
theorem pdRow_succ {ps d:List Int} {price:Int} {o:Option DL} {x:List Int} {k:Nat} (hk:k < (partsL d).length):pdRow ps d price o x (k+1)=pkG cntD (pySel ps price) (pdRow ps d price o x k) (x,(partsL d).getD k []):=by
  unfold pdRow
  rw [List.take_succ_eq_append_getElem hk,List.map_append,List.foldl_append]
  simp [List.getD_eq_getElem?_getD,hk]
theorem pdAll_succ {ps h d:List Int} {price:Int} {i:Nat} (hi:i < (partsL h).length):pdAll ps h d price (i+1)=pdRow ps d price (pdAll ps h d price i) ((partsL h).getD i []) (partsL d).length:=by
  unfold pdAll
  rw [List.take_succ_eq_append_getElem hi,List.foldl_append]
  simp [List.getD_eq_getElem?_getD,hi]
theorem pdAll_end (ps h d:List Int) (price:Int):pdAll ps h d price (partsL h).length=payL ps h d price:=by
  unfold pdAll payL pkL prs pdRow
  rw [foldl_flat,List.take_length,List.take_length]
end Go.Sym.B
namespace Go.Sym.B
open Go Go.Sym Go.Proofs Go.Sym.C
def gcdI (a b:Int):Int:=((Nat.gcd a.natAbs b.toNat:Nat):Int)
def dvT (x y:Int):St:={ t:=asg [(0,aI x),(1,aI y),(4,aI 0)],h:=hasg [],n:=0 }
def tbH1_116:=vk @ty3 @ti3.eq_1
def xbH1_1:=vk @aI.eq_1 (vk @aB.eq_1 (@dvT.eq_1))
theorem divisor_fn (a b:Int) (hab:OfOk a b):FnV Try.prog 116 [aI a,aI b] (aI (gcdI a b)):=by
  have env:Env (fun _=>True) Try.prog tyB (tab []):=mkEnv trivial
  refine Fn.of (A:=fun _=>True) (n0:=0) (D:=noD) (Fn0 Try.func116 rfl (fun vs w=>by kernel_rfl) (by kernel_rfl)) (by simp) (by simp [AV.ids,aI]) (fun i o h=>by cases h) (fun _ _ _ _=>trivial) noD_ok ?_
  obtain ⟨ha,ha',hb,hb'⟩:=hab
  have hw:IntKind.wrap .i64 (0 - a)=-a:=by rw [wrap64 (by omega) (by omega)];omega
  by_cases c1:a < 0
  · repeat' (first|(apply nx;with_reducible constructor)|refine uq (by decide) ?_|((first|refine vz env fun Q hQ=>?_|refine vj fun Q hQ=>?_);simp only [vkt,seval,tbH1_116,xbH1_1,c1,hw];(try simp only [ite_and]);(repeat' (first|with_reducible assumption|refine And.intro ?_ ?_|intro hp));all_goals (first|(refine hQ _ ?_;clear hQ Q)|(refine hQ _ (fun h=>?_) (fun h=>?_) <;> clear hQ Q <;> (try simp only [vki,reduceCtorEq] at h))|omega|assumption|with_reducible rfl|(refine vq ?_;kernel_rfl)|skip)))
    refine sym_loop (ι:={ p:Int × Int // 0≤p.1∧0≤p.2∧Nat.gcd p.1.toNat p.2.toNat=Nat.gcd a.natAbs b.toNat }) (fun p=>dvT p.1.1 p.1.2) (fun p=>p.1.1.toNat) ⟨((-a),b),by show (0:Int)≤(-a);omega,by show (0:Int)≤b;omega,by show Nat.gcd ((-a)).toNat b.toNat=_;congr 1;omega⟩ ?_ fun ⟨(x,y),h1,h2,h3⟩=>?_
    · (refine Le.ok some [] ?_;constructor;all_goals (try simp only [vle,vkt,seval,tbH1_116,xbH1_1]))
      all_goals simp
    · dsimp only at h1 h2 h3
      repeat' (first|(apply nx;with_reducible constructor)|refine uq (by decide) ?_)
      (refine vz env fun Q hQ=>?_;simp only [vkt,seval,tbH1_116,xbH1_1];(try simp only [ite_and]);(repeat' (first|with_reducible assumption|refine And.intro ?_ ?_|intro hp));all_goals (first|(refine hQ _ ?_;clear hQ Q)|omega|assumption|with_reducible rfl|(refine vq ?_;kernel_rfl)|skip))
      repeat' (first|(apply nx;with_reducible constructor)|refine uq (by decide) ?_)
      (refine sym_cd (by simp only [vkt,seval,tbH1_116,xbH1_1];rfl) (fun h=>?_) (fun h=>?_) <;> (try simp only [vki,reduceCtorEq] at h))
      · have hx:0 < x:=by omega
        have nz:¬ x=0:=by omega
        have e1:=Int.emod_nonneg y (show x ≠ 0 by omega)
        have e2:=Int.emod_lt_of_pos y hx
        have e3:y.tmod x=y % x:=Int.tmod_eq_emod_of_nonneg h2
        repeat' (first|(apply nx;with_reducible constructor)|refine uq (by decide) ?_|((first|refine vz env fun Q hQ=>?_|refine vj fun Q hQ=>?_);simp only [vkt,seval,tbH1_116,xbH1_1,nz];(try simp only [ite_and]);(repeat' (first|with_reducible assumption|refine And.intro ?_ ?_|intro hp));all_goals (first|(refine hQ _ ?_;clear hQ Q)|(refine hQ _ (fun h=>?_) (fun h=>?_) <;> clear hQ Q <;> (try simp only [vki,reduceCtorEq] at h))|omega|assumption|with_reducible rfl|(refine vq ?_;kernel_rfl)|skip)))
        refine ⟨⟨(y.tmod x,x),by show (0:Int)≤y.tmod x;omega,h1,?_⟩,?_,?_⟩
        · show Nat.gcd (y.tmod x).toNat x.toNat=_
          rw [← h3,e3,Int.toNat_emod h2 h1,Nat.gcd_comm x.toNat,Nat.gcd_comm,Nat.gcd_comm x.toNat,← Nat.gcd_rec,Nat.gcd_comm]
        · show (y.tmod x).toNat < x.toNat
          omega
        · (refine Le.ok some [] ?_;constructor;all_goals (try simp only [vle,vkt,seval,tbH1_116,xbH1_1]))
          all_goals simp
      · have hx:x=0:=by omega
        subst hx
        have hg:y=gcdI a b:=by unfold gcdI;rw [← h3];simp;omega
        subst hg
        repeat' (first|(apply nx;with_reducible constructor)|refine uq (by decide) ?_|((first|refine vz env fun Q hQ=>?_|refine vj fun Q hQ=>?_);simp only [vkt,seval,tbH1_116,xbH1_1];(try simp only [ite_and]);(repeat' (first|with_reducible assumption|refine And.intro ?_ ?_|intro hp));all_goals (first|(refine hQ _ ?_;clear hQ Q)|(refine hQ _ (fun h=>?_) (fun h=>?_) <;> clear hQ Q <;> (try simp only [vki,reduceCtorEq] at h))|omega|assumption|with_reducible rfl|(refine vq ?_;kernel_rfl)|skip)))
        (simp only [vrt,Try.results116,vkt,seval,tbH1_116,xbH1_1];refine Fin.val rfl ?_;(try simp only [AV.le,AV.leL]))
        all_goals first|rfl|simp
  · repeat' (first|(apply nx;with_reducible constructor)|refine uq (by decide) ?_|((first|refine vz env fun Q hQ=>?_|refine vj fun Q hQ=>?_);simp only [vkt,seval,tbH1_116,xbH1_1,c1];(try simp only [ite_and]);(repeat' (first|with_reducible assumption|refine And.intro ?_ ?_|intro hp));all_goals (first|(refine hQ _ ?_;clear hQ Q)|(refine hQ _ (fun h=>?_) (fun h=>?_) <;> clear hQ Q <;> (try simp only [vki,reduceCtorEq] at h))|omega|assumption|with_reducible rfl|(refine vq ?_;kernel_rfl)|skip)))
    refine sym_loop (ι:={ p:Int × Int // 0≤p.1∧0≤p.2∧Nat.gcd p.1.toNat p.2.toNat=Nat.gcd a.natAbs b.toNat }) (fun p=>dvT p.1.1 p.1.2) (fun p=>p.1.1.toNat) ⟨(a,b),by show (0:Int)≤a;omega,by show (0:Int)≤b;omega,by show Nat.gcd (a).toNat b.toNat=_;congr 1;omega⟩ ?_ fun ⟨(x,y),h1,h2,h3⟩=>?_
    · (refine Le.ok some [] ?_;constructor;all_goals (try simp only [vle,vkt,seval,tbH1_116,xbH1_1]))
      all_goals simp
    · dsimp only at h1 h2 h3
      repeat' (first|(apply nx;with_reducible constructor)|refine uq (by decide) ?_)
      (refine vz env fun Q hQ=>?_;simp only [vkt,seval,tbH1_116,xbH1_1];(try simp only [ite_and]);(repeat' (first|with_reducible assumption|refine And.intro ?_ ?_|intro hp));all_goals (first|(refine hQ _ ?_;clear hQ Q)|omega|assumption|with_reducible rfl|(refine vq ?_;kernel_rfl)|skip))
      repeat' (first|(apply nx;with_reducible constructor)|refine uq (by decide) ?_)
      (refine sym_cd (by simp only [vkt,seval,tbH1_116,xbH1_1];rfl) (fun h=>?_) (fun h=>?_) <;> (try simp only [vki,reduceCtorEq] at h))
      · have hx:0 < x:=by omega
        have nz:¬ x=0:=by omega
        have e1:=Int.emod_nonneg y (show x ≠ 0 by omega)
        have e2:=Int.emod_lt_of_pos y hx
        have e3:y.tmod x=y % x:=Int.tmod_eq_emod_of_nonneg h2
        repeat' (first|(apply nx;with_reducible constructor)|refine uq (by decide) ?_|((first|refine vz env fun Q hQ=>?_|refine vj fun Q hQ=>?_);simp only [vkt,seval,tbH1_116,xbH1_1,nz];(try simp only [ite_and]);(repeat' (first|with_reducible assumption|refine And.intro ?_ ?_|intro hp));all_goals (first|(refine hQ _ ?_;clear hQ Q)|(refine hQ _ (fun h=>?_) (fun h=>?_) <;> clear hQ Q <;> (try simp only [vki,reduceCtorEq] at h))|omega|assumption|with_reducible rfl|(refine vq ?_;kernel_rfl)|skip)))
        refine ⟨⟨(y.tmod x,x),by show (0:Int)≤y.tmod x;omega,h1,?_⟩,?_,?_⟩
        · show Nat.gcd (y.tmod x).toNat x.toNat=_
          rw [← h3,e3,Int.toNat_emod h2 h1,Nat.gcd_comm x.toNat,Nat.gcd_comm,Nat.gcd_comm x.toNat,← Nat.gcd_rec,Nat.gcd_comm]
        · show (y.tmod x).toNat < x.toNat
          omega
        · (refine Le.ok some [] ?_;constructor;all_goals (try simp only [vle,vkt,seval,tbH1_116,xbH1_1]))
          all_goals simp
      · have hx:x=0:=by omega
        subst hx
        have hg:y=gcdI a b:=by unfold gcdI;rw [← h3];simp;omega
        subst hg
        repeat' (first|(apply nx;with_reducible constructor)|refine uq (by decide) ?_|((first|refine vz env fun Q hQ=>?_|refine vj fun Q hQ=>?_);simp only [vkt,seval,tbH1_116,xbH1_1];(try simp only [ite_and]);(repeat' (first|with_reducible assumption|refine And.intro ?_ ?_|intro hp));all_goals (first|(refine hQ _ ?_;clear hQ Q)|(refine hQ _ (fun h=>?_) (fun h=>?_) <;> clear hQ Q <;> (try simp only [vki,reduceCtorEq] at h))|omega|assumption|with_reducible rfl|(refine vq ?_;kernel_rfl)|skip)))
        (simp only [vrt,Try.results116,vkt,seval,tbH1_116,xbH1_1];refine Fin.val rfl ?_;(try simp only [AV.le,AV.leL]))
        all_goals first|rfl|simp
def s116:List AV→Prop × AV
  |[.v (.int .i64 a),.v (.int .i64 b)]=>(OfOk a b,aI (gcdI a b))
  |_=>(False,.junk)
theorem e116 {A:Frm→Prop}:EntryOK A Try.prog 116 (valE true s116):=valE_ok fun vs _ h=>by
  unfold s116 at h ⊢
  split at h
  · exact ⟨by simp [AV.plain,aI],fun _=>by simp [AV.flat,aI],divisor_fn _ _ h⟩
  · exact h.elim
end Go.Sym.B
namespace Go.Sym.B
open Go Go.Sym Go.Proofs Go.Sym.C
def tbH2_114:=vk @ty3 (vk @ty22 (vk @ty28 (vk @ty35 (vk @ty38 (vk @ty48 (vk @ty55 (vk @ti3.eq_1 (vk @ti22.eq_1 (vk @ti28.eq_1 (vk @ti35.eq_1 (vk @ti38.eq_1 (vk @ti48.eq_1 @ti55.eq_1))))))))))))
def xbH2_1:=vk @aI.eq_1 (vk @aB.eq_1 (vk @aEnt.eq_1 (vk @aLed.eq_1 (vk @cLed.eq_1 (vk @aInts.eq_1 (vk @s79.eq_1 (vk @s79.eq_2 (vk @gInt (@eInt.eq_1)))))))))
set_option maxHeartbeats 4000000 in
theorem rentry_fn (l:Led) (x:Ent) (before:Int) (has:List Int) (h1:l.rates.length≤20) (h2:l.coins.length≤20) (h3:has.length=l.coins.length):FnV Try.prog 114 [aLed l,aEnt x,aI before,aInts has] (aI (eV l x before has)):=by
  have env:Env (fun _=>True) Try.prog tyB (tab [(82,valE true s79)]):=mkEnv ⟨e82,trivial⟩
  refine Fn.of (A:=fun _=>True) (n0:=0) (D:=noD) (Fn0 Try.func114 rfl (fun vs w=>by kernel_rfl) (by kernel_rfl)) (by simp) (by simp [AV.ids,AV.idsL,aLed,cLed,aEnt,aI,aInts]) (fun i o h=>by cases h) (fun _ _ _ _=>trivial) noD_ok ?_
  have w1:IntKind.wrap .i64 ((l.rates.length:Int) - 1)=(l.rates.length:Int) - 1:=wrap64 (by omega) (by omega)
  have w2:IntKind.wrap .i64 ((l.coins.length:Int) - 1)=(l.coins.length:Int) - 1:=wrap64 (by omega) (by omega)
  by_cases hE:entryE l x before=0
  · have ho:=entryE_ok hE
    rw [show eV l x before has=_ from if_neg (by rw [hE];simp)]
    have c1:=inB_iff.2 ho.day
    have c2:¬ x.day < before:=by have:=ho.ord;omega
    have c3:=inB_iff.2 ho.kind
    have c4:=inB_iff.2 ho.coin
    have c8:=inB_iff.2 ho.am
    have k0:=ho.coin.1
    have k1:x.coin.toNat < has.length:=by have:=ho.coin;omega
    by_cases c5:x.kind=3
    · have c7:inB 3 1 4=true:=by decide
      have c6:=inB_iff.2 (ho.to c5)
      have c9:=inB_iff.2 (ho.got c5)
      have c10:=ho.ne c5
      by_cases c11:has.getD x.coin.toNat 0 < x.amount
      · repeat' (first|(apply nx;with_reducible constructor)|refine uq (by decide) ?_|((first|refine vz env fun Q hQ=>?_|refine vj fun Q hQ=>?_);simp only [vkt,seval,tbH2_114,xbH2_1,w1,w2,c1,c2,c7,c4,c5,c6,c8,c9,c10,c11];(try simp only [ite_and]);(repeat' (first|with_reducible assumption|refine And.intro ?_ ?_|intro hp));all_goals (first|(refine hQ _ ?_;clear hQ Q)|(refine hQ _ (fun h=>?_) (fun h=>?_) <;> clear hQ Q <;> (try simp only [vki,reduceCtorEq] at h))|omega|assumption|with_reducible rfl|(refine vq ?_;kernel_rfl)|skip)))
        (simp only [vrt,Try.results114,vkt,seval,tbH2_114,xbH2_1];refine Fin.val rfl ?_;(try simp only [AV.le,AV.leL]))
        all_goals simp [-List.getD_eq_getElem?_getD,c5,c11]
      · repeat' (first|(apply nx;with_reducible constructor)|refine uq (by decide) ?_|((first|refine vz env fun Q hQ=>?_|refine vj fun Q hQ=>?_);simp only [vkt,seval,tbH2_114,xbH2_1,w1,w2,c1,c2,c7,c4,c5,c6,c8,c9,c10,c11];(try simp only [ite_and]);(repeat' (first|with_reducible assumption|refine And.intro ?_ ?_|intro hp));all_goals (first|(refine hQ _ ?_;clear hQ Q)|(refine hQ _ (fun h=>?_) (fun h=>?_) <;> clear hQ Q <;> (try simp only [vki,reduceCtorEq] at h))|omega|assumption|with_reducible rfl|(refine vq ?_;kernel_rfl)|skip)))
        (simp only [vrt,Try.results114,vkt,seval,tbH2_114,xbH2_1];refine Fin.val rfl ?_;(try simp only [AV.le,AV.leL]))
        all_goals simp [-List.getD_eq_getElem?_getD,c5,c11]
    · obtain ⟨c6,c7⟩:=ho.no c5
      by_cases c12:x.kind=2
      · have c13:inB 2 1 4=true:=by decide
        by_cases c11:has.getD x.coin.toNat 0 < x.amount
        · repeat' (first|(apply nx;with_reducible constructor)|refine uq (by decide) ?_|((first|refine vz env fun Q hQ=>?_|refine vj fun Q hQ=>?_);simp only [vkt,seval,tbH2_114,xbH2_1,w1,w2,c1,c2,c13,c4,c12,c6,c7,c8,c11];(try simp only [ite_and]);(repeat' (first|with_reducible assumption|refine And.intro ?_ ?_|intro hp));all_goals (first|(refine hQ _ ?_;clear hQ Q)|(refine hQ _ (fun h=>?_) (fun h=>?_) <;> clear hQ Q <;> (try simp only [vki,reduceCtorEq] at h))|omega|assumption|with_reducible rfl|(refine vq ?_;kernel_rfl)|skip)))
          (simp only [vrt,Try.results114,vkt,seval,tbH2_114,xbH2_1];refine Fin.val rfl ?_;(try simp only [AV.le,AV.leL]))
          all_goals simp [-List.getD_eq_getElem?_getD,c12,c11]
        · repeat' (first|(apply nx;with_reducible constructor)|refine uq (by decide) ?_|((first|refine vz env fun Q hQ=>?_|refine vj fun Q hQ=>?_);simp only [vkt,seval,tbH2_114,xbH2_1,w1,w2,c1,c2,c13,c4,c12,c6,c7,c8,c11];(try simp only [ite_and]);(repeat' (first|with_reducible assumption|refine And.intro ?_ ?_|intro hp));all_goals (first|(refine hQ _ ?_;clear hQ Q)|(refine hQ _ (fun h=>?_) (fun h=>?_) <;> clear hQ Q <;> (try simp only [vki,reduceCtorEq] at h))|omega|assumption|with_reducible rfl|(refine vq ?_;kernel_rfl)|skip)))
          (simp only [vrt,Try.results114,vkt,seval,tbH2_114,xbH2_1];refine Fin.val rfl ?_;(try simp only [AV.le,AV.leL]))
          all_goals simp [-List.getD_eq_getElem?_getD,c12,c11]
      · repeat' (first|(apply nx;with_reducible constructor)|refine uq (by decide) ?_|((first|refine vz env fun Q hQ=>?_|refine vj fun Q hQ=>?_);simp only [vkt,seval,tbH2_114,xbH2_1,w1,w2,c1,c2,c3,c4,c5,c6,c7,c8,c12];(try simp only [ite_and]);(repeat' (first|with_reducible assumption|refine And.intro ?_ ?_|intro hp));all_goals (first|(refine hQ _ ?_;clear hQ Q)|(refine hQ _ (fun h=>?_) (fun h=>?_) <;> clear hQ Q <;> (try simp only [vki,reduceCtorEq] at h))|omega|assumption|with_reducible rfl|(refine vq ?_;kernel_rfl)|skip)))
        (simp only [vrt,Try.results114,vkt,seval,tbH2_114,xbH2_1];refine Fin.val rfl ?_;(try simp only [AV.le,AV.leL]))
        all_goals simp [c12,c5]
  · rw [show eV l x before has=_ from if_pos hE]
    cases c1:inB x.day 0 ((l.rates.length:Int) - 1)
    · repeat' (first|(apply nx;with_reducible constructor)|refine uq (by decide) ?_|((first|refine vz env fun Q hQ=>?_|refine vj fun Q hQ=>?_);simp only [vkt,seval,tbH2_114,xbH2_1,w1,w2,c1];(try simp only [ite_and]);(repeat' (first|with_reducible assumption|refine And.intro ?_ ?_|intro hp));all_goals (first|(refine hQ _ ?_;clear hQ Q)|(refine hQ _ (fun h=>?_) (fun h=>?_) <;> clear hQ Q <;> (try simp only [vki,reduceCtorEq] at h))|omega|assumption|with_reducible rfl|(refine vq ?_;kernel_rfl)|skip)))
      (simp only [vrt,Try.results114,vkt,seval,tbH2_114,xbH2_1];refine Fin.val rfl ?_;(try simp only [AV.le,AV.leL]))
      all_goals simp [entryE,c1]
    by_cases c2:x.day < before
    · repeat' (first|(apply nx;with_reducible constructor)|refine uq (by decide) ?_|((first|refine vz env fun Q hQ=>?_|refine vj fun Q hQ=>?_);simp only [vkt,seval,tbH2_114,xbH2_1,w1,w2,c1,c2];(try simp only [ite_and]);(repeat' (first|with_reducible assumption|refine And.intro ?_ ?_|intro hp));all_goals (first|(refine hQ _ ?_;clear hQ Q)|(refine hQ _ (fun h=>?_) (fun h=>?_) <;> clear hQ Q <;> (try simp only [vki,reduceCtorEq] at h))|omega|assumption|with_reducible rfl|(refine vq ?_;kernel_rfl)|skip)))
      (simp only [vrt,Try.results114,vkt,seval,tbH2_114,xbH2_1];refine Fin.val rfl ?_;(try simp only [AV.le,AV.leL]))
      all_goals simp [entryE,c1,c2]
    cases c3:inB x.kind 1 4
    · repeat' (first|(apply nx;with_reducible constructor)|refine uq (by decide) ?_|((first|refine vz env fun Q hQ=>?_|refine vj fun Q hQ=>?_);simp only [vkt,seval,tbH2_114,xbH2_1,w1,w2,c1,c2,c3];(try simp only [ite_and]);(repeat' (first|with_reducible assumption|refine And.intro ?_ ?_|intro hp));all_goals (first|(refine hQ _ ?_;clear hQ Q)|(refine hQ _ (fun h=>?_) (fun h=>?_) <;> clear hQ Q <;> (try simp only [vki,reduceCtorEq] at h))|omega|assumption|with_reducible rfl|(refine vq ?_;kernel_rfl)|skip)))
      (simp only [vrt,Try.results114,vkt,seval,tbH2_114,xbH2_1];refine Fin.val rfl ?_;(try simp only [AV.le,AV.leL]))
      all_goals simp [entryE,c1,c2,c3]
    cases c4:inB x.coin 0 ((l.coins.length:Int) - 1)
    · repeat' (first|(apply nx;with_reducible constructor)|refine uq (by decide) ?_|((first|refine vz env fun Q hQ=>?_|refine vj fun Q hQ=>?_);simp only [vkt,seval,tbH2_114,xbH2_1,w1,w2,c1,c2,c3,c4];(try simp only [ite_and]);(repeat' (first|with_reducible assumption|refine And.intro ?_ ?_|intro hp));all_goals (first|(refine hQ _ ?_;clear hQ Q)|(refine hQ _ (fun h=>?_) (fun h=>?_) <;> clear hQ Q <;> (try simp only [vki,reduceCtorEq] at h))|omega|assumption|with_reducible rfl|(refine vq ?_;kernel_rfl)|skip)))
      (simp only [vrt,Try.results114,vkt,seval,tbH2_114,xbH2_1];refine Fin.val rfl ?_;(try simp only [AV.le,AV.leL]))
      all_goals simp [entryE,c1,c2,c3,c4]
    by_cases c5:x.kind=3
    · have c7:inB 3 1 4=true:=by decide
      cases c6:inB x.to 0 ((l.coins.length:Int) - 1)
      · repeat' (first|(apply nx;with_reducible constructor)|refine uq (by decide) ?_|((first|refine vz env fun Q hQ=>?_|refine vj fun Q hQ=>?_);simp only [vkt,seval,tbH2_114,xbH2_1,w1,w2,c1,c2,c7,c4,c5,c6];(try simp only [ite_and]);(repeat' (first|with_reducible assumption|refine And.intro ?_ ?_|intro hp));all_goals (first|(refine hQ _ ?_;clear hQ Q)|(refine hQ _ (fun h=>?_) (fun h=>?_) <;> clear hQ Q <;> (try simp only [vki,reduceCtorEq] at h))|omega|assumption|with_reducible rfl|(refine vq ?_;kernel_rfl)|skip)))
        (simp only [vrt,Try.results114,vkt,seval,tbH2_114,xbH2_1];refine Fin.val rfl ?_;(try simp only [AV.le,AV.leL]))
        all_goals simp [entryE,c1,c2,c7,c4,c5,c6]
      by_cases c8:x.to=x.coin
      · have c6':inB x.coin 0 ((l.coins.length:Int) - 1)=true:=c4
        repeat' (first|(apply nx;with_reducible constructor)|refine uq (by decide) ?_|((first|refine vz env fun Q hQ=>?_|refine vj fun Q hQ=>?_);simp only [vkt,seval,tbH2_114,xbH2_1,w1,w2,c1,c2,c7,c4,c5,c6,c8];(try simp only [ite_and]);(repeat' (first|with_reducible assumption|refine And.intro ?_ ?_|intro hp));all_goals (first|(refine hQ _ ?_;clear hQ Q)|(refine hQ _ (fun h=>?_) (fun h=>?_) <;> clear hQ Q <;> (try simp only [vki,reduceCtorEq] at h))|omega|assumption|with_reducible rfl|(refine vq ?_;kernel_rfl)|skip)))
        (simp only [vrt,Try.results114,vkt,seval,tbH2_114,xbH2_1];refine Fin.val rfl ?_;(try simp only [AV.le,AV.leL]))
        all_goals simp [entryE,c1,c2,c7,c4,c5,c6',c8]
      cases c9:inB x.got 0 999
      · repeat' (first|(apply nx;with_reducible constructor)|refine uq (by decide) ?_|((first|refine vz env fun Q hQ=>?_|refine vj fun Q hQ=>?_);simp only [vkt,seval,tbH2_114,xbH2_1,w1,w2,c1,c2,c7,c4,c5,c6,c8,c9];(try simp only [ite_and]);(repeat' (first|with_reducible assumption|refine And.intro ?_ ?_|intro hp));all_goals (first|(refine hQ _ ?_;clear hQ Q)|(refine hQ _ (fun h=>?_) (fun h=>?_) <;> clear hQ Q <;> (try simp only [vki,reduceCtorEq] at h))|omega|assumption|with_reducible rfl|(refine vq ?_;kernel_rfl)|skip)))
        (simp only [vrt,Try.results114,vkt,seval,tbH2_114,xbH2_1];refine Fin.val rfl ?_;(try simp only [AV.le,AV.leL]))
        all_goals simp [entryE,c1,c2,c7,c4,c5,c6,c8,c9]
      cases c10:inB x.amount 0 999
      · repeat' (first|(apply nx;with_reducible constructor)|refine uq (by decide) ?_|((first|refine vz env fun Q hQ=>?_|refine vj fun Q hQ=>?_);simp only [vkt,seval,tbH2_114,xbH2_1,w1,w2,c1,c2,c7,c4,c5,c6,c8,c9,c10];(try simp only [ite_and]);(repeat' (first|with_reducible assumption|refine And.intro ?_ ?_|intro hp));all_goals (first|(refine hQ _ ?_;clear hQ Q)|(refine hQ _ (fun h=>?_) (fun h=>?_) <;> clear hQ Q <;> (try simp only [vki,reduceCtorEq] at h))|omega|assumption|with_reducible rfl|(refine vq ?_;kernel_rfl)|skip)))
        (simp only [vrt,Try.results114,vkt,seval,tbH2_114,xbH2_1];refine Fin.val rfl ?_;(try simp only [AV.le,AV.leL]))
        all_goals simp [entryE,c1,c2,c7,c4,c5,c6,c8,c9,c10]
      exact absurd (by simp [entryE,c1,c2,c7,c4,c5,c6,c8,c9,c10]) hE
    · by_cases c6:x.to=0
      · by_cases c7:x.got=0
        · cases c10:inB x.amount 0 999
          · repeat' (first|(apply nx;with_reducible constructor)|refine uq (by decide) ?_|((first|refine vz env fun Q hQ=>?_|refine vj fun Q hQ=>?_);simp only [vkt,seval,tbH2_114,xbH2_1,w1,w2,c1,c2,c3,c4,c5,c6,c7,c10];(try simp only [ite_and]);(repeat' (first|with_reducible assumption|refine And.intro ?_ ?_|intro hp));all_goals (first|(refine hQ _ ?_;clear hQ Q)|(refine hQ _ (fun h=>?_) (fun h=>?_) <;> clear hQ Q <;> (try simp only [vki,reduceCtorEq] at h))|omega|assumption|with_reducible rfl|(refine vq ?_;kernel_rfl)|skip)))
            (simp only [vrt,Try.results114,vkt,seval,tbH2_114,xbH2_1];refine Fin.val rfl ?_;(try simp only [AV.le,AV.leL]))
            all_goals simp [entryE,c1,c2,c3,c4,c5,c6,c7,c10]
          exact absurd (by simp [entryE,c1,c2,c3,c4,c5,c6,c7,c10]) hE
        · repeat' (first|(apply nx;with_reducible constructor)|refine uq (by decide) ?_|((first|refine vz env fun Q hQ=>?_|refine vj fun Q hQ=>?_);simp only [vkt,seval,tbH2_114,xbH2_1,w1,w2,c1,c2,c3,c4,c5,c6,c7];(try simp only [ite_and]);(repeat' (first|with_reducible assumption|refine And.intro ?_ ?_|intro hp));all_goals (first|(refine hQ _ ?_;clear hQ Q)|(refine hQ _ (fun h=>?_) (fun h=>?_) <;> clear hQ Q <;> (try simp only [vki,reduceCtorEq] at h))|omega|assumption|with_reducible rfl|(refine vq ?_;kernel_rfl)|skip)))
          (simp only [vrt,Try.results114,vkt,seval,tbH2_114,xbH2_1];refine Fin.val rfl ?_;(try simp only [AV.le,AV.leL]))
          all_goals simp [entryE,c1,c2,c3,c4,c5,c6,c7]
      · repeat' (first|(apply nx;with_reducible constructor)|refine uq (by decide) ?_|((first|refine vz env fun Q hQ=>?_|refine vj fun Q hQ=>?_);simp only [vkt,seval,tbH2_114,xbH2_1,w1,w2,c1,c2,c3,c4,c5,c6];(try simp only [ite_and]);(repeat' (first|with_reducible assumption|refine And.intro ?_ ?_|intro hp));all_goals (first|(refine hQ _ ?_;clear hQ Q)|(refine hQ _ (fun h=>?_) (fun h=>?_) <;> clear hQ Q <;> (try simp only [vki,reduceCtorEq] at h))|omega|assumption|with_reducible rfl|(refine vq ?_;kernel_rfl)|skip)))
        (simp only [vrt,Try.results114,vkt,seval,tbH2_114,xbH2_1];refine Fin.val rfl ?_;(try simp only [AV.le,AV.leL]))
        all_goals simp [entryE,c1,c2,c3,c4,c5,c6]
def s114:List AV→Prop × AV
  |[.agg [.sl cs,.sl rs,.sl ss,.sl es],.agg [.v (.int .i64 a),.v (.int .i64 b),.v (.int .i64 c),.v (.int .i64 d),.v (.int .i64 e),.v (.int .i64 f)],.v (.int .i64 n),.sl hs] =>
    (isL cs rs ss es∧hs=(hs.map dInt).map eInt∧rs.length≤20∧cs.length≤20∧hs.length=cs.length,aI (eV (ldOf cs rs ss es) ⟨a,b,c,d,e,f⟩ n (hs.map dInt)))
  |_=>(False,.junk)
theorem e114 {A:Frm→Prop}:EntryOK A Try.prog 114 (valE true s114):=valE_ok fun vs hv h=>by
  clear hv
  unfold s114 at h ⊢
  split at h
  · rename_i cs rs ss es a b c d e f n hs
    obtain ⟨h1,h2,h3,h4,h5⟩:=h
    refine ⟨trivial,fun _=>trivial,?_⟩
    have:=rentry_fn (ldOf cs rs ss es) ⟨a,b,c,d,e,f⟩ n (hs.map dInt) (by simpa [ldOf] using h3) (by simpa [ldOf] using h4) (by simpa [ldOf] using h5)
    rw [aLed_of h1,aInts,← h2] at this
    exact this
  · exact h.elim
def tbH2_115:=vk @ty3 (vk @ty22 (vk @ty48 (vk @ti3.eq_1 (vk @ti22.eq_1 @ti48.eq_1))))
def xbH2_2:=vk @aI.eq_1 (vk @aB.eq_1 (vk @aEnt.eq_1 (vk @aInts.eq_1 (vk @setI (@rInt)))))
set_option maxHeartbeats 1000000 in
theorem rdone_fn (has:List Int) (x:Ent) (h:EnOk has x) (hl:has.length≤100000):FnV Try.prog 115 [aInts has,aEnt x] (aInts (enterF has x)):=by
  have env:Env (fun _=>True) Try.prog tyB (tab []):=mkEnv trivial
  refine Fn.of (A:=fun _=>True) (n0:=0) (D:=noD) (Fn0 Try.func115 rfl (fun vs w=>by kernel_rfl) (by kernel_rfl)) (by simp) (by simp [AV.ids,AV.idsL,aEnt,aInts]) (fun i o h=>by cases h) (fun _ _ _ _=>trivial) noD_ok ?_
  obtain ⟨z1,z2,z3,z4⟩:=b47 hl
  have c0:=h.c0
  have c1:=h.c1
  have g1:=gI0 h.c1
  have b1:=bGet (n:=x.coin.toNat) h.b
  have ha:=h.a
  by_cases k1:x.kind=1
  · rw [show enterF has x=_ from if_pos k1]
    have w1:IntKind.wrap .i64 (has.getD x.coin.toNat 0+x.amount)=has.getD x.coin.toNat 0+x.amount:=wrap64 (by omega) (by omega)
    repeat' (first|(apply nx;with_reducible constructor)|refine uq (by decide) ?_|((first|refine vz env fun Q hQ=>?_|refine vj fun Q hQ=>?_);simp only [vkt,seval,tbH2_115,xbH2_2,k1,g1,w1,eInt];(try simp only [ite_and]);(repeat' (first|with_reducible assumption|refine And.intro ?_ ?_|intro hp));all_goals (first|(refine hQ _ ?_;clear hQ Q)|(refine hQ _ (fun h=>?_) (fun h=>?_) <;> clear hQ Q <;> (try simp only [vki,reduceCtorEq] at h))|omega|assumption|with_reducible rfl|(refine vq ?_;kernel_rfl)|skip)))
    (simp only [vrt,Try.results115,vkt,seval,tbH2_115,xbH2_2];refine Fin.val rfl ?_;(try simp only [AV.le,AV.leL]))
    all_goals exact ⟨_,_,rfl⟩
  by_cases k2:x.kind=2
  · rw [show enterF has x=addAt has x.coin (-x.amount) by unfold enterF;rw [if_neg k1,if_pos k2]]
    have w1:IntKind.wrap .i64 (has.getD x.coin.toNat 0 - x.amount)=has.getD x.coin.toNat 0+-x.amount:=by rw [wrap64 (by omega) (by omega)];omega
    repeat' (first|(apply nx;with_reducible constructor)|refine uq (by decide) ?_|((first|refine vz env fun Q hQ=>?_|refine vj fun Q hQ=>?_);simp only [vkt,seval,tbH2_115,xbH2_2,k2,g1,w1,eInt];(try simp only [ite_and]);(repeat' (first|with_reducible assumption|refine And.intro ?_ ?_|intro hp));all_goals (first|(refine hQ _ ?_;clear hQ Q)|(refine hQ _ (fun h=>?_) (fun h=>?_) <;> clear hQ Q <;> (try simp only [vki,reduceCtorEq] at h))|omega|assumption|with_reducible rfl|(refine vq ?_;kernel_rfl)|skip)))
    (simp only [vrt,Try.results115,vkt,seval,tbH2_115,xbH2_2];refine Fin.val rfl ?_;(try simp only [AV.le,AV.leL]))
    all_goals exact ⟨_,_,rfl⟩
  by_cases k3:x.kind=3
  · rw [show enterF has x=addAt (addAt has x.coin (-x.amount)) x.to x.got by unfold enterF;rw [if_neg k1,if_neg k2,if_pos k3]]
    have w1:IntKind.wrap .i64 (has.getD x.coin.toNat 0 - x.amount)=has.getD x.coin.toNat 0+-x.amount:=by rw [wrap64 (by omega) (by omega)];omega
    obtain ⟨t0,t1⟩:=h.t k3
    have hg:=h.g k3
    have hb2:∀ v ∈ addAt has x.coin (-x.amount),-1001000≤v∧v≤1001000:=fun v hv=>by
      rcases List.mem_or_eq_of_mem_set hv with h1|h1
      · have:=h.b v h1;omega
      · omega
    have t2:x.to.toNat < (addAt has x.coin (-x.amount)).length:=by simp [addAt];exact t1
    have g2:=gI0 t2
    have b2:=hb2 _ (gMem (d:=0) t2)
    have w2:IntKind.wrap .i64 ((addAt has x.coin (-x.amount)).getD x.to.toNat 0+x.got)=(addAt has x.coin (-x.amount)).getD x.to.toNat 0+x.got:=wrap64 (by omega) (by omega)
    have e2:has.set x.coin.toNat (has.getD x.coin.toNat 0+-x.amount)=addAt has x.coin (-x.amount):=rfl
    repeat' (first|(apply nx;with_reducible constructor)|refine uq (by decide) ?_|((first|refine vz env fun Q hQ=>?_|refine vj fun Q hQ=>?_);simp only [vkt,seval,tbH2_115,xbH2_2,k3,g1,w1,e2,g2,w2,eInt];(try simp only [ite_and]);(repeat' (first|with_reducible assumption|refine And.intro ?_ ?_|intro hp));all_goals (first|(refine hQ _ ?_;clear hQ Q)|(refine hQ _ (fun h=>?_) (fun h=>?_) <;> clear hQ Q <;> (try simp only [vki,reduceCtorEq] at h))|omega|assumption|with_reducible rfl|(refine vq ?_;kernel_rfl)|skip)))
    (simp only [vrt,Try.results115,vkt,seval,tbH2_115,xbH2_2];refine Fin.val rfl ?_;(try simp only [AV.le,AV.leL]))
    all_goals exact ⟨_,_,rfl⟩
  by_cases k4:x.kind=4
  · rw [show enterF has x=has.set x.coin.toNat x.amount by unfold enterF;rw [if_neg k1,if_neg k2,if_neg k3,if_pos k4]]
    repeat' (first|(apply nx;with_reducible constructor)|refine uq (by decide) ?_|((first|refine vz env fun Q hQ=>?_|refine vj fun Q hQ=>?_);simp only [vkt,seval,tbH2_115,xbH2_2,k4,g1,eInt];(try simp only [ite_and]);(repeat' (first|with_reducible assumption|refine And.intro ?_ ?_|intro hp));all_goals (first|(refine hQ _ ?_;clear hQ Q)|(refine hQ _ (fun h=>?_) (fun h=>?_) <;> clear hQ Q <;> (try simp only [vki,reduceCtorEq] at h))|omega|assumption|with_reducible rfl|(refine vq ?_;kernel_rfl)|skip)))
    (simp only [vrt,Try.results115,vkt,seval,tbH2_115,xbH2_2];refine Fin.val rfl ?_;(try simp only [AV.le,AV.leL]))
    all_goals exact ⟨_,_,rfl⟩
  · rw [show enterF has x=has by unfold enterF;rw [if_neg k1,if_neg k2,if_neg k3,if_neg k4]]
    repeat' (first|(apply nx;with_reducible constructor)|refine uq (by decide) ?_|((first|refine vz env fun Q hQ=>?_|refine vj fun Q hQ=>?_);simp only [vkt,seval,tbH2_115,xbH2_2,k1,k2,k3,k4];(try simp only [ite_and]);(repeat' (first|with_reducible assumption|refine And.intro ?_ ?_|intro hp));all_goals (first|(refine hQ _ ?_;clear hQ Q)|(refine hQ _ (fun h=>?_) (fun h=>?_) <;> clear hQ Q <;> (try simp only [vki,reduceCtorEq] at h))|omega|assumption|with_reducible rfl|(refine vq ?_;kernel_rfl)|skip)))
    (simp only [vrt,Try.results115,vkt,seval,tbH2_115,xbH2_2];refine Fin.val rfl ?_;(try simp only [AV.le,AV.leL]))
    all_goals exact ⟨_,_,rfl⟩
def s115:List AV→Prop × AV
  |[.sl hs,.agg [.v (.int .i64 a),.v (.int .i64 b),.v (.int .i64 c),.v (.int .i64 d),.v (.int .i64 e),.v (.int .i64 f)]]=>(hs=(hs.map dInt).map eInt∧hs.length≤100000∧EnOk (hs.map dInt) ⟨a,b,c,d,e,f⟩,aInts (enterF (hs.map dInt) ⟨a,b,c,d,e,f⟩))
  |_=>(False,.junk)
theorem e115 {A:Frm→Prop}:EntryOK A Try.prog 115 (valE false s115):=valE_ok fun vs hv h=>by
  clear hv
  unfold s115 at h ⊢
  split at h
  · rename_i hs a b c d e f
    obtain ⟨h1,h2,h3⟩:=h
    refine ⟨trivial,fun h=>absurd h (by decide),?_⟩
    have:=rdone_fn (hs.map dInt) ⟨a,b,c,d,e,f⟩ h3 (by simpa using h2)
    rw [aInts,← h1] at this
    exact this
  · exact h.elim
end Go.Sym.B
namespace Go.Sym.B
open Go Go.Sym Go.Proofs Go.Sym.C
theorem sh_gcd {n d:Int} (hn:1≤n) (hd:1≤d):(⟨n,d⟩:Sh)=shQ (mkRat n d.toNat) ↔ gcdI n d=1:=by
  have hq:(0:Int) < d:=by omega
  have e1:=mk_num (a:=n) hq
  have e2:=mk_den (a:=n) hq
  have hg:0 < Nat.gcd n.natAbs d.toNat:=Nat.gcd_pos_of_pos_right _ (by omega)
  have hl:=Nat.gcd_dvd_left n.natAbs d.toNat
  rw [sh_eq]
  show (n=(mkRat n d.toNat).num∧d=((mkRat n d.toNat).den:Int)) ↔ _
  rw [e1,e2]
  unfold gcdI
  generalize Nat.gcd n.natAbs d.toNat=g at *
  constructor
  · rintro ⟨h1,_⟩
    obtain ⟨q,hq⟩:=hl
    have h7:n=(g:Int) * (q:Int):=by rw [show n=(n.natAbs:Int) by omega,hq];exact Int.natCast_mul g q
    rw [h7,Int.mul_tdiv_cancel_left _ (by omega)] at h1
    have hq0:0 < (q:Int):=by
      rcases Nat.eq_zero_or_pos q with h8|h8
      · subst h8;simp at h7;omega
      · omega
    have:(g:Int) * q=1 * q:=by omega
    exact Int.eq_of_mul_eq_mul_right (by omega) this
  · intro h
    rw [h];simp
def ckR (l:Led):Int :=
  if countedE l.rates.length 1 4 ≠ 0 then countedE l.rates.length 1 4 else if firstE (errs l.rates.length (ckRate l)) ≠ 0 then firstE (errs l.rates.length (ckRate l))
  else if l.start.length ≠ l.coins.length then 2 else firstE (errs l.start.length (startE l))
def ckC (l:Led):Int :=
  if countedE l.coins.length 1 4 ≠ 0 then countedE l.coins.length 1 4 else if firstE (errs l.coins.length (ckCoin l)) ≠ 0 then firstE (errs l.coins.length (ckCoin l)) else ckR l
theorem checkE_eq (l:Led):checkE l=if ckC l ≠ 0 then ckC l else entriesE l:=by
  unfold checkE ckC ckR
  repeat' split
  all_goals first|rfl|contradiction|(simp_all;done)
def rr1 (l:Led) (k:Nat):St:={ t:=asg [(1,.ptr 0 0),(2,aI 0),(3,aI k)],h:=hasg [(0,.cells (cLed l))],n:=1 }
def rr2 (l:Led) (r:List Sh) (k i:Nat):St:={ t:=asg [(1,.ptr 0 0),(2,aI 0),(3,aI k),(4,aShs r),(5,aI ((1+i:Nat):Int))],h:=hasg [(0,.cells (cLed l))],n:=1 }
def rr3 (l:Led) (k:Nat):St:={ t:=asg [(1,.ptr 0 0),(2,aI 0),(6,aI k)],h:=hasg [(0,.cells (cLed l))],n:=1 }
def rc2 (l:Led) (r:List Int) (k i:Nat):St:={ t:=asg [(1,.ptr 0 0),(2,aI 0),(3,aI k),(4,aInts r),(5,aI ((1+i:Nat):Int))],h:=hasg [(0,.cells (cLed l))],n:=1 }
def tbH3_141:=vk @ty3 (vk @ty22 (vk @ty28 (vk @ty35 (vk @ty38 (vk @ty55 (vk @ty59 (vk @ti3.eq_1 (vk @ti22.eq_1 (vk @ti28.eq_1 (vk @ti35.eq_1 (vk @ti38.eq_1 (vk @ti55.eq_1 @ti59.eq_1))))))))))))
def xbH3_1:=vk @aI.eq_1 (vk @aB.eq_1 (vk @aLed.eq_1 (vk @cLed.eq_1 (vk @rr1.eq_1 (vk @rr2.eq_1 (vk @rr3.eq_1 (vk @aShs.eq_1 (vk @gInt (vk @eInt.eq_1 (vk @gShs (vk @gSh (vk @eShs.eq_1 (vk @eSh.eq_1 (vk @s79.eq_1 (vk @s79.eq_2 (vk @s116.eq_1 (@s116.eq_2)))))))))))))))))
set_option maxHeartbeats 4000000 in
theorem rrates_fn (l:Led) (hl:Fit l) (hc:1≤l.coins.length):FnV Try.prog 141 [aLed l] (aI (ckR l)):=by
  have env:Env (fun _=>True) Try.prog tyB (tab [(82,valE true s79),(116,valE true s116)]):=mkEnv ⟨e82,e116,trivial⟩
  refine Fn.of (A:=fun _=>True) (n0:=0) (D:=noD) (Fn0 Try.func141 rfl (fun vs w=>by kernel_rfl) (by kernel_rfl)) (by simp) (by simp [AV.ids,AV.idsL,aLed,cLed]) (fun i o h=>by cases h) (fun _ _ _ _=>trivial) noD_ok ?_
  have q1:=hl.c
  have q2:=hl.r
  have q4:=hl.s
  have q5:=tmax
  by_cases a1:l.rates.length=0
  · have a1':(l.rates.length:Int)=0:=by omega
    repeat' (first|(apply nx;with_reducible constructor)|refine uq (by decide) ?_|((first|refine vz env fun Q hQ=>?_|refine vj fun Q hQ=>?_);simp only [vkt,seval,tbH3_141,xbH3_1,a1'];(try simp only [ite_and]);(repeat' (first|with_reducible assumption|refine And.intro ?_ ?_|intro hp));all_goals (first|(refine hQ _ ?_;clear hQ Q)|(refine hQ _ (fun h=>?_) (fun h=>?_) <;> clear hQ Q <;> (try simp only [vki,reduceCtorEq] at h))|omega|assumption|with_reducible rfl|(refine vq ?_;kernel_rfl)|skip)))
    (simp only [vrt,Try.results141,vkt,seval,tbH3_141,xbH3_1];refine Fin.val rfl ?_;(try simp only [AV.le,AV.leL]))
    all_goals (unfold ckR countedE;simp [a1])
  by_cases a2:4 < l.rates.length
  · have a1':¬ (l.rates.length:Int)=0:=by omega
    have a2':(4:Int) < (l.rates.length:Int):=by omega
    have h4:countedE l.rates.length 1 4=6:=by unfold countedE;rw [if_neg (by omega),if_pos a2']
    repeat' (first|(apply nx;with_reducible constructor)|refine uq (by decide) ?_|((first|refine vz env fun Q hQ=>?_|refine vj fun Q hQ=>?_);simp only [vkt,seval,tbH3_141,xbH3_1,a1',a2'];(try simp only [ite_and]);(repeat' (first|with_reducible assumption|refine And.intro ?_ ?_|intro hp));all_goals (first|(refine hQ _ ?_;clear hQ Q)|(refine hQ _ (fun h=>?_) (fun h=>?_) <;> clear hQ Q <;> (try simp only [vki,reduceCtorEq] at h))|omega|assumption|with_reducible rfl|(refine vq ?_;kernel_rfl)|skip)))
    (simp only [vrt,Try.results141,vkt,seval,tbH3_141,xbH3_1];refine Fin.val rfl ?_;(try simp only [AV.le,AV.leL]))
    all_goals (unfold ckR;rw [if_pos (by rw [h4];decide),h4])
  have a1':¬ (l.rates.length:Int)=0:=by omega
  have a2':¬ (4:Int) < (l.rates.length:Int):=by omega
  have h0:countedE l.rates.length 1 4=0:=by unfold countedE;rw [if_neg (by omega),if_neg a2']
  repeat' (first|(apply nx;with_reducible constructor)|refine uq (by decide) ?_|((first|refine vz env fun Q hQ=>?_|refine vj fun Q hQ=>?_);simp only [vkt,seval,tbH3_141,xbH3_1,a1',a2'];(try simp only [ite_and]);(repeat' (first|with_reducible assumption|refine And.intro ?_ ?_|intro hp));all_goals (first|(refine hQ _ ?_;clear hQ Q)|(refine hQ _ (fun h=>?_) (fun h=>?_) <;> clear hQ Q <;> (try simp only [vki,reduceCtorEq] at h))|omega|assumption|with_reducible rfl|(refine vq ?_;kernel_rfl)|skip)))
  refine sym_loop (ι:=FI (errs l.rates.length (ckRate l))) (fun i=>rr1 l i.k) (fun i=>l.rates.length - i.k) (FI.zero _) ?_ fun i=>?_
  · (refine Le.ok some [] ?_;constructor;all_goals (try simp only [vle,vkt,seval,tbH3_141,xbH3_1]))
    all_goals simp [FI.zero]
  · have hk:=i.le
    rw [errs_len] at hk
    repeat' (first|(apply nx;with_reducible constructor)|refine uq (by decide) ?_)
    (refine vz env fun Q hQ=>?_;simp only [vkt,seval,tbH3_141,xbH3_1];(try simp only [ite_and]);(repeat' (first|with_reducible assumption|refine And.intro ?_ ?_|intro hp));all_goals (first|(refine hQ _ ?_;clear hQ Q)|omega|assumption|with_reducible rfl|(refine vq ?_;kernel_rfl)|skip))
    repeat' (first|(apply nx;with_reducible constructor)|refine uq (by decide) ?_)
    (refine sym_cd (by simp only [vkt,seval,tbH3_141,xbH3_1];rfl) (fun h=>?_) (fun h=>?_) <;> (try simp only [vki,reduceCtorEq] at h))
    · have hlt:i.k < l.rates.length:=by omega
      have hpl:=hl.rs _ (gMem (d:=[]) hlt)
      have e9:=wrap_succ hlt (show l.rates.length≤maxLen by omega)
      have out:∀ e,ratesE (l.rates.getD i.k []) l.coins.length=e→e ≠ 0→ckR l=e:=fun e he h1=>by
        have:=i.hit hlt (by show ratesE (l.rates.getD i.k []) l.coins.length ≠ 0;rw [he];exact h1)
        unfold ckR
        rw [if_neg (by rw [h0];simp),if_pos (by rw [this];show ratesE _ _ ≠ 0;rw [he];exact h1),this]
        exact he
      have hN:ratesE (l.rates.getD i.k []) l.coins.length=0→∃ i':FI (errs l.rates.length (ckRate l)),l.rates.length - i'.k < l.rates.length - i.k∧i'.k=i.k+1:=fun h1=>⟨i.next hlt h1,by show l.rates.length - (i.k+1) < _;omega,rfl⟩
      obtain ⟨r,hr⟩:∃ r,l.rates.getD i.k []=r:=⟨_,rfl⟩
      rw [hr] at hpl out hN
      by_cases d1:r.length=l.coins.length
      · have d1':(r.length:Int)=(l.coins.length:Int):=by omega
        have r0:0 < r.length:=by omega
        by_cases d2:r.getD 0 default=⟨1,1⟩
        · have d3:=congrArg Sh.num d2
          have d4:=congrArg Sh.den d2
          dsimp only at d3 d4
          have hrE:ratesE r l.coins.length=firstE (errs (r.length - 1) (rateE r)):=by unfold ratesE;rw [if_neg (by rw [d1'];simp),if_neg (by rw [d2];simp)]
          repeat' (first|(apply nx;with_reducible constructor)|refine uq (by decide) ?_|((first|refine vz env fun Q hQ=>?_|refine vj fun Q hQ=>?_);simp only [vkt,seval,tbH3_141,xbH3_1,hr,d1',d3,d4];(try simp only [ite_and]);(repeat' (first|with_reducible assumption|refine And.intro ?_ ?_|intro hp));all_goals (first|(refine hQ _ ?_;clear hQ Q)|(refine hQ _ (fun h=>?_) (fun h=>?_) <;> clear hQ Q <;> (try simp only [vki,reduceCtorEq] at h))|omega|assumption|with_reducible rfl|(refine vq ?_;kernel_rfl)|skip)))
          refine sym_loop (ι:=FI (errs (r.length - 1) (rateE r))) (fun j=>rr2 l r i.k j.k) (fun j=>r.length - j.k) (FI.zero _) ?_ fun j=>?_
          · (refine Le.ok some [] ?_;constructor;all_goals (try simp only [vle,vkt,seval,tbH3_141,xbH3_1]))
            all_goals first|rfl|(simp [FI.zero];done)
          · have hj:=j.le
            rw [errs_len] at hj
            repeat' (first|(apply nx;with_reducible constructor)|refine uq (by decide) ?_)
            (refine vz env fun Q hQ=>?_;simp only [vkt,seval,tbH3_141,xbH3_1];(try simp only [ite_and]);(repeat' (first|with_reducible assumption|refine And.intro ?_ ?_|intro hp));all_goals (first|(refine hQ _ ?_;clear hQ Q)|omega|assumption|with_reducible rfl|(refine vq ?_;kernel_rfl)|skip))
            repeat' (first|(apply nx;with_reducible constructor)|refine uq (by decide) ?_)
            (refine sym_cd (by simp only [vkt,seval,tbH3_141,xbH3_1];rfl) (fun h=>?_) (fun h=>?_) <;> (try simp only [vki,reduceCtorEq] at h))
            · have hjl:j.k < r.length - 1:=by omega
              have hjl2:1+j.k < r.length:=by omega
              have e8:IntKind.wrap .i64 (((1+j.k:Nat):Int)+1)=((1+(j.k+1):Nat):Int):=by rw [wrap64 (by omega) (by omega)];omega
              have hit:∀ e,rateE r j.k=e→e ≠ 0→ckR l=e:=fun e he h1=>out e (by rw [hrE,j.hit hjl (by rw [he];exact h1),he]) h1
              have nxt:rateE r j.k=0→∃ j':FI (errs (r.length - 1) (rateE r)),r.length - j'.k < r.length - j.k∧j'.k=j.k+1:=fun h1=>⟨j.next hjl h1,by show r.length - (j.k+1) < _;omega,rfl⟩
              unfold rateE at hit nxt
              obtain ⟨s,hs⟩:∃ s,r.getD (1+j.k) default=s:=⟨_,rfl⟩
              rw [hs] at hit nxt
              cases c1:inB s.num 1 20
              · repeat' (first|(apply nx;with_reducible constructor)|refine uq (by decide) ?_|((first|refine vz env fun Q hQ=>?_|refine vj fun Q hQ=>?_);simp only [vkt,seval,tbH3_141,xbH3_1,hr,hs,c1];(try simp only [ite_and]);(repeat' (first|with_reducible assumption|refine And.intro ?_ ?_|intro hp));all_goals (first|(refine hQ _ ?_;clear hQ Q)|(refine hQ _ (fun h=>?_) (fun h=>?_) <;> clear hQ Q <;> (try simp only [vki,reduceCtorEq] at h))|omega|assumption|with_reducible rfl|(refine vq ?_;kernel_rfl)|skip)))
                (simp only [vrt,Try.results141,vkt,seval,tbH3_141,xbH3_1];refine Fin.val rfl ?_;(try simp only [AV.le,AV.leL]))
                all_goals rw [hit 1 (by unfold shE;simp [c1]) (by decide)]
              cases c2:inB s.den 1 12
              · repeat' (first|(apply nx;with_reducible constructor)|refine uq (by decide) ?_|((first|refine vz env fun Q hQ=>?_|refine vj fun Q hQ=>?_);simp only [vkt,seval,tbH3_141,xbH3_1,hr,hs,c1,c2];(try simp only [ite_and]);(repeat' (first|with_reducible assumption|refine And.intro ?_ ?_|intro hp));all_goals (first|(refine hQ _ ?_;clear hQ Q)|(refine hQ _ (fun h=>?_) (fun h=>?_) <;> clear hQ Q <;> (try simp only [vki,reduceCtorEq] at h))|omega|assumption|with_reducible rfl|(refine vq ?_;kernel_rfl)|skip)))
                (simp only [vrt,Try.results141,vkt,seval,tbH3_141,xbH3_1];refine Fin.val rfl ?_;(try simp only [AV.le,AV.leL]))
                all_goals rw [hit 1 (by unfold shE;simp [c1,c2]) (by decide)]
              have b1:=inB_iff.1 c1
              have b2:=inB_iff.1 c2
              have hro:OfOk s.num s.den:=⟨by omega,by omega,by omega,by omega⟩
              have hsg:=sh_gcd (n:=s.num) (d:=s.den) b1.1 b2.1
              by_cases c3:gcdI s.num s.den=1
              · obtain ⟨j',g1,g2⟩:=nxt (by unfold shE;rw [c1,c2,if_neg (by simp),if_neg (by simp),if_neg (by rw [ne_eq,Decidable.not_not];exact hsg.2 c3)])
                repeat' (first|(apply nx;with_reducible constructor)|refine uq (by decide) ?_|((first|refine vz env fun Q hQ=>?_|refine vj fun Q hQ=>?_);simp only [vkt,seval,tbH3_141,xbH3_1,hr,hs,c1,c2,c3,e8];(try simp only [ite_and]);(repeat' (first|with_reducible assumption|refine And.intro ?_ ?_|intro hp));all_goals (first|(refine hQ _ ?_;clear hQ Q)|(refine hQ _ (fun h=>?_) (fun h=>?_) <;> clear hQ Q <;> (try simp only [vki,reduceCtorEq] at h))|omega|assumption|with_reducible rfl|(refine vq ?_;kernel_rfl)|skip)))
                refine ⟨j',g1,?_⟩
                rw [g2]
                (refine Le.ok some [] ?_;constructor;all_goals (try simp only [vle,vkt,seval,tbH3_141,xbH3_1]))
                all_goals first|rfl|(simp;done)
              · have h8:=hit 8 (by unfold shE;rw [c1,c2,if_neg (by simp),if_neg (by simp),if_pos (fun hh=>c3 (hsg.1 hh))]) (by decide)
                repeat' (first|(apply nx;with_reducible constructor)|refine uq (by decide) ?_|((first|refine vz env fun Q hQ=>?_|refine vj fun Q hQ=>?_);simp only [vkt,seval,tbH3_141,xbH3_1,hr,hs,c1,c2,c3];(try simp only [ite_and]);(repeat' (first|with_reducible assumption|refine And.intro ?_ ?_|intro hp));all_goals (first|(refine hQ _ ?_;clear hQ Q)|(refine hQ _ (fun h=>?_) (fun h=>?_) <;> clear hQ Q <;> (try simp only [vki,reduceCtorEq] at h))|omega|assumption|with_reducible rfl|(refine vq ?_;kernel_rfl)|skip)))
                (simp only [vrt,Try.results141,vkt,seval,tbH3_141,xbH3_1];refine Fin.val rfl ?_;(try simp only [AV.le,AV.leL]))
                all_goals rw [h8]
            · obtain ⟨i',g1,g2⟩:=hN (by rw [hrE];exact j.last (by omega))
              repeat' (first|(apply nx;with_reducible constructor)|refine uq (by decide) ?_|((first|refine vz env fun Q hQ=>?_|refine vj fun Q hQ=>?_);simp only [vkt,seval,tbH3_141,xbH3_1,e9];(try simp only [ite_and]);(repeat' (first|with_reducible assumption|refine And.intro ?_ ?_|intro hp));all_goals (first|(refine hQ _ ?_;clear hQ Q)|(refine hQ _ (fun h=>?_) (fun h=>?_) <;> clear hQ Q <;> (try simp only [vki,reduceCtorEq] at h))|omega|assumption|with_reducible rfl|(refine vq ?_;kernel_rfl)|skip)))
              refine ⟨i',g1,?_⟩
              rw [g2]
              (refine Le.ok some [] ?_;constructor;all_goals (try simp only [vle,vkt,seval,tbH3_141,xbH3_1]))
              all_goals first|rfl|(simp;done)
        · have h1:=out 1 (by unfold ratesE;rw [if_neg (by rw [d1'];simp),if_pos d2]) (by decide)
          have d2':¬ ((r.getD 0 default).num=1∧(r.getD 0 default).den=1):=fun hh=>d2 (by rw [sh_eq];exact hh)
          repeat' (first|(apply nx;with_reducible constructor)|refine uq (by decide) ?_|((first|refine vz env fun Q hQ=>?_|refine vj fun Q hQ=>?_);simp only [vkt,seval,tbH3_141,xbH3_1,hr,d1'];(try simp only [ite_and]);(repeat' (first|with_reducible assumption|refine And.intro ?_ ?_|intro hp));all_goals (first|(refine hQ _ ?_;clear hQ Q)|(refine hQ _ (fun h=>?_) (fun h=>?_) <;> clear hQ Q <;> (try simp only [vki,reduceCtorEq] at h))|omega|assumption|with_reducible rfl|(refine vq ?_;kernel_rfl)|skip)))
          all_goals first|((simp only [vrt,Try.results141,vkt,seval,tbH3_141,xbH3_1];refine Fin.val rfl ?_;(try simp only [AV.le,AV.leL]));all_goals rw [h1])|(exfalso;omega)
      · have d1':¬ (r.length:Int)=(l.coins.length:Int):=by omega
        have h1:=out 2 (by unfold ratesE;rw [if_pos d1']) (by decide)
        repeat' (first|(apply nx;with_reducible constructor)|refine uq (by decide) ?_|((first|refine vz env fun Q hQ=>?_|refine vj fun Q hQ=>?_);simp only [vkt,seval,tbH3_141,xbH3_1,hr,d1'];(try simp only [ite_and]);(repeat' (first|with_reducible assumption|refine And.intro ?_ ?_|intro hp));all_goals (first|(refine hQ _ ?_;clear hQ Q)|(refine hQ _ (fun h=>?_) (fun h=>?_) <;> clear hQ Q <;> (try simp only [vki,reduceCtorEq] at h))|omega|assumption|with_reducible rfl|(refine vq ?_;kernel_rfl)|skip)))
        (simp only [vrt,Try.results141,vkt,seval,tbH3_141,xbH3_1];refine Fin.val rfl ?_;(try simp only [AV.le,AV.leL]))
        all_goals rw [h1]
    · have hf2:=i.last (by omega)
      by_cases h3:l.start.length=l.coins.length
      · have h3':(l.start.length:Int)=l.coins.length:=by omega
        repeat' (first|(apply nx;with_reducible constructor)|refine uq (by decide) ?_|((first|refine vz env fun Q hQ=>?_|refine vj fun Q hQ=>?_);simp only [vkt,seval,tbH3_141,xbH3_1,h3'];(try simp only [ite_and]);(repeat' (first|with_reducible assumption|refine And.intro ?_ ?_|intro hp));all_goals (first|(refine hQ _ ?_;clear hQ Q)|(refine hQ _ (fun h=>?_) (fun h=>?_) <;> clear hQ Q <;> (try simp only [vki,reduceCtorEq] at h))|omega|assumption|with_reducible rfl|(refine vq ?_;kernel_rfl)|skip)))
        refine sym_loop (ι:=FI (errs l.start.length (startE l))) (fun i=>rr3 l i.k) (fun i=>l.start.length - i.k) (FI.zero _) ?_ fun i=>?_
        · (refine Le.ok some [] ?_;constructor;all_goals (try simp only [vle,vkt,seval,tbH3_141,xbH3_1]))
          all_goals simp [FI.zero,h3]
        · have hk:=i.le
          rw [errs_len] at hk
          have fin:ckR l=firstE (errs l.start.length (startE l)):=by unfold ckR;rw [if_neg (by rw [h0];simp),if_neg (by rw [hf2];simp),if_neg (by rw [h3];simp)]
          repeat' (first|(apply nx;with_reducible constructor)|refine uq (by decide) ?_)
          (refine vz env fun Q hQ=>?_;simp only [vkt,seval,tbH3_141,xbH3_1];(try simp only [ite_and]);(repeat' (first|with_reducible assumption|refine And.intro ?_ ?_|intro hp));all_goals (first|(refine hQ _ ?_;clear hQ Q)|omega|assumption|with_reducible rfl|(refine vq ?_;kernel_rfl)|skip))
          repeat' (first|(apply nx;with_reducible constructor)|refine uq (by decide) ?_)
          (refine sym_cd (by simp only [vkt,seval,tbH3_141,xbH3_1];rfl) (fun h=>?_) (fun h=>?_) <;> (try simp only [vki,reduceCtorEq] at h))
          · have hlt:i.k < l.start.length:=by omega
            have e9:=wrap_succ hlt (show l.start.length≤maxLen by omega)
            by_cases c1:inB (l.start.getD i.k 0) 0 999=true
            · repeat' (first|(apply nx;with_reducible constructor)|refine uq (by decide) ?_|((first|refine vz env fun Q hQ=>?_|refine vj fun Q hQ=>?_);simp only [vkt,seval,tbH3_141,xbH3_1,c1];(try simp only [ite_and]);(repeat' (first|with_reducible assumption|refine And.intro ?_ ?_|intro hp));all_goals (first|(refine hQ _ ?_;clear hQ Q)|(refine hQ _ (fun h=>?_) (fun h=>?_) <;> clear hQ Q <;> (try simp only [vki,reduceCtorEq] at h))|omega|assumption|with_reducible rfl|(refine vq ?_;kernel_rfl)|skip)))
              refine ⟨i.next hlt (by unfold startE;rw [c1];rfl),by show l.start.length - (i.k+1) < _;omega,?_⟩
              (refine Le.ok some [] ?_;constructor;all_goals (try simp only [vle,vkt,seval,tbH3_141,xbH3_1]))
              all_goals simp [FI.next,e9]
            · have c1:inB (l.start.getD i.k 0) 0 999=false:=by simpa using c1
              repeat' (first|(apply nx;with_reducible constructor)|refine uq (by decide) ?_|((first|refine vz env fun Q hQ=>?_|refine vj fun Q hQ=>?_);simp only [vkt,seval,tbH3_141,xbH3_1,c1];(try simp only [ite_and]);(repeat' (first|with_reducible assumption|refine And.intro ?_ ?_|intro hp));all_goals (first|(refine hQ _ ?_;clear hQ Q)|(refine hQ _ (fun h=>?_) (fun h=>?_) <;> clear hQ Q <;> (try simp only [vki,reduceCtorEq] at h))|omega|assumption|with_reducible rfl|(refine vq ?_;kernel_rfl)|skip)))
              (simp only [vrt,Try.results141,vkt,seval,tbH3_141,xbH3_1];refine Fin.val rfl ?_;(try simp only [AV.le,AV.leL]))
              have h1:startE l i.k=1:=by unfold startE;rw [c1];rfl
              all_goals rw [fin,i.hit hlt (by rw [h1];decide),h1]
          · repeat' (first|(apply nx;with_reducible constructor)|refine uq (by decide) ?_|((first|refine vz env fun Q hQ=>?_|refine vj fun Q hQ=>?_);simp only [vkt,seval,tbH3_141,xbH3_1];(try simp only [ite_and]);(repeat' (first|with_reducible assumption|refine And.intro ?_ ?_|intro hp));all_goals (first|(refine hQ _ ?_;clear hQ Q)|(refine hQ _ (fun h=>?_) (fun h=>?_) <;> clear hQ Q <;> (try simp only [vki,reduceCtorEq] at h))|omega|assumption|with_reducible rfl|(refine vq ?_;kernel_rfl)|skip)))
            (simp only [vrt,Try.results141,vkt,seval,tbH3_141,xbH3_1];refine Fin.val rfl ?_;(try simp only [AV.le,AV.leL]))
            all_goals rw [fin,i.last (by omega)]
      · have h3':¬ (l.start.length:Int)=l.coins.length:=by omega
        repeat' (first|(apply nx;with_reducible constructor)|refine uq (by decide) ?_|((first|refine vz env fun Q hQ=>?_|refine vj fun Q hQ=>?_);simp only [vkt,seval,tbH3_141,xbH3_1,h3'];(try simp only [ite_and]);(repeat' (first|with_reducible assumption|refine And.intro ?_ ?_|intro hp));all_goals (first|(refine hQ _ ?_;clear hQ Q)|(refine hQ _ (fun h=>?_) (fun h=>?_) <;> clear hQ Q <;> (try simp only [vki,reduceCtorEq] at h))|omega|assumption|with_reducible rfl|(refine vq ?_;kernel_rfl)|skip)))
        (simp only [vrt,Try.results141,vkt,seval,tbH3_141,xbH3_1];refine Fin.val rfl ?_;(try simp only [AV.le,AV.leL]))
        all_goals (unfold ckR;rw [if_neg (by rw [h0];simp),if_neg (by rw [hf2];simp),if_pos h3])
def c141:List AV→Prop × AV
  |[.agg [.sl cs,.sl rs,.sl ss,.sl es]]=>(isL cs rs ss es∧Fit (ldOf cs rs ss es)∧1≤cs.length,aI (ckR (ldOf cs rs ss es)))
  |_=>(False,.junk)
theorem d141 {A:Frm→Prop}:EntryOK A Try.prog 141 (valE true c141):=valE_ok fun vs hv h=>by
  clear hv
  unfold c141 at h ⊢
  split at h
  · refine ⟨trivial,fun _=>trivial,?_⟩
    rw [← aLed_of h.1];exact rrates_fn _ h.2.1 (by simpa [ldOf] using h.2.2)
  · exact h.elim
def tbH3_113:=vk @ty3 (vk @ty22 (vk @ty28 (vk @ty38 (vk @ti3.eq_1 (vk @ti22.eq_1 (vk @ti28.eq_1 @ti38.eq_1))))))
def xbH3_2:=vk @aI.eq_1 (vk @aB.eq_1 (vk @aLed.eq_1 (vk @cLed.eq_1 (vk @rr1.eq_1 (vk @rc2.eq_1 (vk @aInts.eq_1 (vk @gInts (vk @gInt (vk @eInts.eq_1 (vk @eInt.eq_1 (vk @c141.eq_1 (vk @c141.eq_2 (vk @isL_e (@ldOf_e))))))))))))))
set_option maxHeartbeats 4000000 in
theorem rcoins_fn (l:Led) (hl:Fit l):FnV Try.prog 113 [aLed l] (aI (ckC l)):=by
  have env:Env (fun _=>True) Try.prog tyB (tab [(141,valE true c141)]):=mkEnv ⟨d141,trivial⟩
  refine Fn.of (A:=fun _=>True) (n0:=0) (D:=noD) (Fn0 Try.func113 rfl (fun vs w=>by kernel_rfl) (by kernel_rfl)) (by simp) (by simp [AV.ids,AV.idsL,aLed,cLed]) (fun i o h=>by cases h) (fun _ _ _ _=>trivial) noD_ok ?_
  have q1:=hl.c
  have q5:=tmax
  by_cases a1:l.coins.length=0
  · have a1':(l.coins.length:Int)=0:=by omega
    repeat' (first|(apply nx;with_reducible constructor)|refine uq (by decide) ?_|((first|refine vz env fun Q hQ=>?_|refine vj fun Q hQ=>?_);simp only [vkt,seval,tbH3_113,xbH3_2,a1'];(try simp only [ite_and]);(repeat' (first|with_reducible assumption|refine And.intro ?_ ?_|intro hp));all_goals (first|(refine hQ _ ?_;clear hQ Q)|(refine hQ _ (fun h=>?_) (fun h=>?_) <;> clear hQ Q <;> (try simp only [vki,reduceCtorEq] at h))|omega|assumption|with_reducible rfl|(refine vq ?_;kernel_rfl)|skip)))
    (simp only [vrt,Try.results113,vkt,seval,tbH3_113,xbH3_2];refine Fin.val rfl ?_;(try simp only [AV.le,AV.leL]))
    all_goals (unfold ckC countedE;simp [a1])
  by_cases a2:4 < l.coins.length
  · have a1':¬ (l.coins.length:Int)=0:=by omega
    have a2':(4:Int) < (l.coins.length:Int):=by omega
    have h4:countedE l.coins.length 1 4=6:=by unfold countedE;rw [if_neg (by omega),if_pos a2']
    repeat' (first|(apply nx;with_reducible constructor)|refine uq (by decide) ?_|((first|refine vz env fun Q hQ=>?_|refine vj fun Q hQ=>?_);simp only [vkt,seval,tbH3_113,xbH3_2,a1',a2'];(try simp only [ite_and]);(repeat' (first|with_reducible assumption|refine And.intro ?_ ?_|intro hp));all_goals (first|(refine hQ _ ?_;clear hQ Q)|(refine hQ _ (fun h=>?_) (fun h=>?_) <;> clear hQ Q <;> (try simp only [vki,reduceCtorEq] at h))|omega|assumption|with_reducible rfl|(refine vq ?_;kernel_rfl)|skip)))
    (simp only [vrt,Try.results113,vkt,seval,tbH3_113,xbH3_2];refine Fin.val rfl ?_;(try simp only [AV.le,AV.leL]))
    all_goals (unfold ckC;rw [if_pos (by rw [h4];decide),h4])
  have a1':¬ (l.coins.length:Int)=0:=by omega
  have a2':¬ (4:Int) < (l.coins.length:Int):=by omega
  have a3:1≤l.coins.length:=by omega
  have h0:countedE l.coins.length 1 4=0:=by unfold countedE;rw [if_neg (by omega),if_neg a2']
  repeat' (first|(apply nx;with_reducible constructor)|refine uq (by decide) ?_|((first|refine vz env fun Q hQ=>?_|refine vj fun Q hQ=>?_);simp only [vkt,seval,tbH3_113,xbH3_2,a1',a2'];(try simp only [ite_and]);(repeat' (first|with_reducible assumption|refine And.intro ?_ ?_|intro hp));all_goals (first|(refine hQ _ ?_;clear hQ Q)|(refine hQ _ (fun h=>?_) (fun h=>?_) <;> clear hQ Q <;> (try simp only [vki,reduceCtorEq] at h))|omega|assumption|with_reducible rfl|(refine vq ?_;kernel_rfl)|skip)))
  refine sym_loop (ι:=FI (errs l.coins.length (ckCoin l))) (fun i=>rr1 l i.k) (fun i=>l.coins.length - i.k) (FI.zero _) ?_ fun i=>?_
  · (refine Le.ok some [] ?_;constructor;all_goals (try simp only [vle,vkt,seval,tbH3_113,xbH3_2]))
    all_goals simp [FI.zero]
  · have hk:=i.le
    rw [errs_len] at hk
    repeat' (first|(apply nx;with_reducible constructor)|refine uq (by decide) ?_)
    (refine vz env fun Q hQ=>?_;simp only [vkt,seval,tbH3_113,xbH3_2];(try simp only [ite_and]);(repeat' (first|with_reducible assumption|refine And.intro ?_ ?_|intro hp));all_goals (first|(refine hQ _ ?_;clear hQ Q)|omega|assumption|with_reducible rfl|(refine vq ?_;kernel_rfl)|skip))
    repeat' (first|(apply nx;with_reducible constructor)|refine uq (by decide) ?_)
    (refine sym_cd (by simp only [vkt,seval,tbH3_113,xbH3_2];rfl) (fun h=>?_) (fun h=>?_) <;> (try simp only [vki,reduceCtorEq] at h))
    · have hlt:i.k < l.coins.length:=by omega
      have hpl:=hl.cs _ (gMem (d:=[]) hlt)
      have e9:=wrap_succ hlt (show l.coins.length≤maxLen by omega)
      have out:∀ e,coinE (l.coins.getD i.k [])=e→e ≠ 0→ckC l=e:=fun e he h1=>by
        have:=i.hit hlt (by show coinE (l.coins.getD i.k []) ≠ 0;rw [he];exact h1)
        unfold ckC
        rw [if_neg (by rw [h0];simp),if_pos (by rw [this];show coinE _ ≠ 0;rw [he];exact h1),this]
        exact he
      have hN:coinE (l.coins.getD i.k [])=0→∃ i':FI (errs l.coins.length (ckCoin l)),l.coins.length - i'.k < l.coins.length - i.k∧i'.k=i.k+1:=fun h1=>⟨i.next hlt h1,by show l.coins.length - (i.k+1) < _;omega,rfl⟩
      obtain ⟨r,hr⟩:∃ r,l.coins.getD i.k []=r:=⟨_,rfl⟩
      rw [hr] at hpl out hN
      by_cases d1:r.length=0
      · have d1':(r.length:Int)=0:=by omega
        have h1:=out 7 (by unfold coinE countedE;simp [d1]) (by decide)
        repeat' (first|(apply nx;with_reducible constructor)|refine uq (by decide) ?_|((first|refine vz env fun Q hQ=>?_|refine vj fun Q hQ=>?_);simp only [vkt,seval,tbH3_113,xbH3_2,hr,d1'];(try simp only [ite_and]);(repeat' (first|with_reducible assumption|refine And.intro ?_ ?_|intro hp));all_goals (first|(refine hQ _ ?_;clear hQ Q)|(refine hQ _ (fun h=>?_) (fun h=>?_) <;> clear hQ Q <;> (try simp only [vki,reduceCtorEq] at h))|omega|assumption|with_reducible rfl|(refine vq ?_;kernel_rfl)|skip)))
        (simp only [vrt,Try.results113,vkt,seval,tbH3_113,xbH3_2];refine Fin.val rfl ?_;(try simp only [AV.le,AV.leL]))
        all_goals rw [h1]
      have d1':¬ (r.length:Int)=0:=by omega
      by_cases d2:4 < r.length
      · have d2':(4:Int) < (r.length:Int):=by omega
        have h4:countedE r.length 1 4=6:=by unfold countedE;rw [if_neg (by omega),if_pos d2']
        have h1:=out 6 (by unfold coinE;rw [if_pos (by rw [h4];decide),h4]) (by decide)
        repeat' (first|(apply nx;with_reducible constructor)|refine uq (by decide) ?_|((first|refine vz env fun Q hQ=>?_|refine vj fun Q hQ=>?_);simp only [vkt,seval,tbH3_113,xbH3_2,hr,d1',d2'];(try simp only [ite_and]);(repeat' (first|with_reducible assumption|refine And.intro ?_ ?_|intro hp));all_goals (first|(refine hQ _ ?_;clear hQ Q)|(refine hQ _ (fun h=>?_) (fun h=>?_) <;> clear hQ Q <;> (try simp only [vki,reduceCtorEq] at h))|omega|assumption|with_reducible rfl|(refine vq ?_;kernel_rfl)|skip)))
        (simp only [vrt,Try.results113,vkt,seval,tbH3_113,xbH3_2];refine Fin.val rfl ?_;(try simp only [AV.le,AV.leL]))
        all_goals rw [h1]
      have d2':¬ (4:Int) < (r.length:Int):=by omega
      have h4:countedE r.length 1 4=0:=by unfold countedE;rw [if_neg (by omega),if_neg d2']
      have r0:0 < r.length:=by omega
      by_cases d3:r.getD 0 0=1
      · have hrE:coinE r=firstE (errs (r.length - 1) (pieceE r)):=by unfold coinE;rw [if_neg (by rw [h4];simp),if_neg (by rw [d3];simp)]
        repeat' (first|(apply nx;with_reducible constructor)|refine uq (by decide) ?_|((first|refine vz env fun Q hQ=>?_|refine vj fun Q hQ=>?_);simp only [vkt,seval,tbH3_113,xbH3_2,hr,d1',d2',d3];(try simp only [ite_and]);(repeat' (first|with_reducible assumption|refine And.intro ?_ ?_|intro hp));all_goals (first|(refine hQ _ ?_;clear hQ Q)|(refine hQ _ (fun h=>?_) (fun h=>?_) <;> clear hQ Q <;> (try simp only [vki,reduceCtorEq] at h))|omega|assumption|with_reducible rfl|(refine vq ?_;kernel_rfl)|skip)))
        refine sym_loop (ι:=FI (errs (r.length - 1) (pieceE r))) (fun j=>rc2 l r i.k j.k) (fun j=>r.length - j.k) (FI.zero _) ?_ fun j=>?_
        · (refine Le.ok some [] ?_;constructor;all_goals (try simp only [vle,vkt,seval,tbH3_113,xbH3_2]))
          all_goals first|rfl|(simp [FI.zero];done)
        · have hj:=j.le
          rw [errs_len] at hj
          repeat' (first|(apply nx;with_reducible constructor)|refine uq (by decide) ?_)
          (refine vz env fun Q hQ=>?_;simp only [vkt,seval,tbH3_113,xbH3_2];(try simp only [ite_and]);(repeat' (first|with_reducible assumption|refine And.intro ?_ ?_|intro hp));all_goals (first|(refine hQ _ ?_;clear hQ Q)|omega|assumption|with_reducible rfl|(refine vq ?_;kernel_rfl)|skip))
          repeat' (first|(apply nx;with_reducible constructor)|refine uq (by decide) ?_)
          (refine sym_cd (by simp only [vkt,seval,tbH3_113,xbH3_2];rfl) (fun h=>?_) (fun h=>?_) <;> (try simp only [vki,reduceCtorEq] at h))
          · have hjl:j.k < r.length - 1:=by omega
            have hjl2:1+j.k < r.length:=by omega
            have hjl3:j.k < r.length:=by omega
            have e8:IntKind.wrap .i64 (((1+j.k:Nat):Int)+1)=((1+(j.k+1):Nat):Int):=by rw [wrap64 (by omega) (by omega)];omega
            have e7:IntKind.wrap .i64 (((1+j.k:Nat):Int) - 1)=(j.k:Int):=by rw [wrap64 (by omega) (by omega)];omega
            have hit:∀ e,pieceE r j.k=e→e ≠ 0→ckC l=e:=fun e he h1=>out e (by rw [hrE,j.hit hjl (by rw [he];exact h1),he]) h1
            have nxt:pieceE r j.k=0→∃ j':FI (errs (r.length - 1) (pieceE r)),r.length - j'.k < r.length - j.k∧j'.k=j.k+1:=fun h1=>⟨j.next hjl h1,by show r.length - (j.k+1) < _;omega,rfl⟩
            by_cases c1:50 < r.getD (1+j.k) 0
            · have h1:=hit 1 (by unfold pieceE;rw [if_pos c1]) (by decide)
              repeat' (first|(apply nx;with_reducible constructor)|refine uq (by decide) ?_|((first|refine vz env fun Q hQ=>?_|refine vj fun Q hQ=>?_);simp only [vkt,seval,tbH3_113,xbH3_2,hr,c1];(try simp only [ite_and]);(repeat' (first|with_reducible assumption|refine And.intro ?_ ?_|intro hp));all_goals (first|(refine hQ _ ?_;clear hQ Q)|(refine hQ _ (fun h=>?_) (fun h=>?_) <;> clear hQ Q <;> (try simp only [vki,reduceCtorEq] at h))|omega|assumption|with_reducible rfl|(refine vq ?_;kernel_rfl)|skip)))
              (simp only [vrt,Try.results113,vkt,seval,tbH3_113,xbH3_2];refine Fin.val rfl ?_;(try simp only [AV.le,AV.leL]))
              all_goals rw [h1]
            by_cases c2:r.getD (1+j.k) 0≤r.getD j.k 0
            · have h1:=hit 5 (by unfold pieceE;rw [if_neg c1,if_pos c2]) (by decide)
              repeat' (first|(apply nx;with_reducible constructor)|refine uq (by decide) ?_|((first|refine vz env fun Q hQ=>?_|refine vj fun Q hQ=>?_);simp only [vkt,seval,tbH3_113,xbH3_2,hr,c1,c2,e7];(try simp only [ite_and]);(repeat' (first|with_reducible assumption|refine And.intro ?_ ?_|intro hp));all_goals (first|(refine hQ _ ?_;clear hQ Q)|(refine hQ _ (fun h=>?_) (fun h=>?_) <;> clear hQ Q <;> (try simp only [vki,reduceCtorEq] at h))|omega|assumption|with_reducible rfl|(refine vq ?_;kernel_rfl)|skip)))
              (simp only [vrt,Try.results113,vkt,seval,tbH3_113,xbH3_2];refine Fin.val rfl ?_;(try simp only [AV.le,AV.leL]))
              all_goals rw [h1]
            · obtain ⟨j',g1,g2⟩:=nxt (by unfold pieceE;rw [if_neg c1,if_neg c2])
              repeat' (first|(apply nx;with_reducible constructor)|refine uq (by decide) ?_|((first|refine vz env fun Q hQ=>?_|refine vj fun Q hQ=>?_);simp only [vkt,seval,tbH3_113,xbH3_2,hr,c1,c2,e7,e8];(try simp only [ite_and]);(repeat' (first|with_reducible assumption|refine And.intro ?_ ?_|intro hp));all_goals (first|(refine hQ _ ?_;clear hQ Q)|(refine hQ _ (fun h=>?_) (fun h=>?_) <;> clear hQ Q <;> (try simp only [vki,reduceCtorEq] at h))|omega|assumption|with_reducible rfl|(refine vq ?_;kernel_rfl)|skip)))
              refine ⟨j',g1,?_⟩
              rw [g2]
              (refine Le.ok some [] ?_;constructor;all_goals (try simp only [vle,vkt,seval,tbH3_113,xbH3_2]))
              all_goals first|rfl|(simp;done)
          · obtain ⟨i',g1,g2⟩:=hN (by rw [hrE];exact j.last (by omega))
            repeat' (first|(apply nx;with_reducible constructor)|refine uq (by decide) ?_|((first|refine vz env fun Q hQ=>?_|refine vj fun Q hQ=>?_);simp only [vkt,seval,tbH3_113,xbH3_2,e9];(try simp only [ite_and]);(repeat' (first|with_reducible assumption|refine And.intro ?_ ?_|intro hp));all_goals (first|(refine hQ _ ?_;clear hQ Q)|(refine hQ _ (fun h=>?_) (fun h=>?_) <;> clear hQ Q <;> (try simp only [vki,reduceCtorEq] at h))|omega|assumption|with_reducible rfl|(refine vq ?_;kernel_rfl)|skip)))
            refine ⟨i',g1,?_⟩
            rw [g2]
            (refine Le.ok some [] ?_;constructor;all_goals (try simp only [vle,vkt,seval,tbH3_113,xbH3_2]))
            all_goals first|rfl|(simp;done)
      · have h1:=out 1 (by unfold coinE;rw [if_neg (by rw [h4];simp),if_pos d3]) (by decide)
        repeat' (first|(apply nx;with_reducible constructor)|refine uq (by decide) ?_|((first|refine vz env fun Q hQ=>?_|refine vj fun Q hQ=>?_);simp only [vkt,seval,tbH3_113,xbH3_2,hr,d1',d2',d3];(try simp only [ite_and]);(repeat' (first|with_reducible assumption|refine And.intro ?_ ?_|intro hp));all_goals (first|(refine hQ _ ?_;clear hQ Q)|(refine hQ _ (fun h=>?_) (fun h=>?_) <;> clear hQ Q <;> (try simp only [vki,reduceCtorEq] at h))|omega|assumption|with_reducible rfl|(refine vq ?_;kernel_rfl)|skip)))
        (simp only [vrt,Try.results113,vkt,seval,tbH3_113,xbH3_2];refine Fin.val rfl ?_;(try simp only [AV.le,AV.leL]))
        all_goals rw [h1]
    · have hf:=i.last (by omega)
      repeat' (first|(apply nx;with_reducible constructor)|refine uq (by decide) ?_|((first|refine vz env fun Q hQ=>?_|refine vj fun Q hQ=>?_);simp only [vkt,seval,tbH3_113,xbH3_2];(try simp only [ite_and]);(repeat' (first|with_reducible assumption|refine And.intro ?_ ?_|intro hp));all_goals (first|(refine hQ _ ?_;clear hQ Q)|(refine hQ _ (fun h=>?_) (fun h=>?_) <;> clear hQ Q <;> (try simp only [vki,reduceCtorEq] at h))|omega|assumption|with_reducible rfl|(refine vq ?_;kernel_rfl)|skip)))
      (simp only [vrt,Try.results113,vkt,seval,tbH3_113,xbH3_2];refine Fin.val rfl ?_;(try simp only [AV.le,AV.leL]))
      all_goals (unfold ckC;rw [if_neg (by rw [h0];simp),if_neg (by rw [hf];simp)])
def c113:List AV→Prop × AV
  |[.agg [.sl cs,.sl rs,.sl ss,.sl es]]=>(isL cs rs ss es∧Fit (ldOf cs rs ss es),aI (ckC (ldOf cs rs ss es)))
  |_=>(False,.junk)
theorem d113 {A:Frm→Prop}:EntryOK A Try.prog 113 (valE true c113):=valE_ok fun vs hv h=>by
  clear hv
  unfold c113 at h ⊢
  split at h
  · refine ⟨trivial,fun _=>trivial,?_⟩
    rw [← aLed_of h.1];exact rcoins_fn _ h.2
  · exact h.elim
end Go.Sym.B
namespace Go.Sym.B
open Go Go.Sym Go.Proofs Go.Sym.C
theorem ckC_es {l:Led} (h:ckC l=0) (hl:Fit l):EsOk l:=by
  unfold ckC at h
  split at h
  · rename_i h1;exact absurd h h1
  split at h
  · rename_i h1;exact absurd h h1
  unfold ckR at h
  split at h
  · rename_i h1;exact absurd h h1
  split at h
  · rename_i h1;exact absurd h h1
  split at h
  · exact absurd h (by decide)
  rename_i h3
  have h3:=Decidable.not_not.1 h3
  exact ⟨hl.c,hl.r,hl.e,h3,fun v hv=>by
    obtain ⟨j,hj,rfl⟩:=List.getElem_of_mem hv
    have:=errs_zero h hj
    unfold startE at this
    cases hb:inB (l.start.getD j 0) 0 999 with
    |true=>rw [inB_iff] at hb;simpa [List.getD_eq_getElem?_getD,hj] using hb
    |false=>rw [hb] at this;simp at this⟩
def rkT (l:Led) (k:Nat):St:={ t:=asg [(1,.ptr 0 0),(2,aI 0),(4,aI (stK l k).1),(5,aInts (stK l k).2),(6,aI k)],h:=hasg [(0,.cells (cLed l))],n:=1 }
def tbH4_51:=vk @ty3 (vk @ty22 (vk @ty30 (vk @ty36 (vk @ty38 (vk @ty48 (vk @ti3.eq_1 (vk @ti22.eq_1 (vk @ti30.eq_1 (vk @ti36.eq_1 (vk @ti38.eq_1 @ti48.eq_1))))))))))
def xbH4_1:=vk @aI.eq_1 (vk @aB.eq_1 (vk @aLed.eq_1 (vk @cLed.eq_1 (vk @aInts.eq_1 (vk @rkT.eq_1 (vk @gEnt (vk @eEnt.eq_1 (vk @c113.eq_1 (vk @c113.eq_2 (vk @s114.eq_1 (vk @s114.eq_2 (vk @s115.eq_1 (vk @s115.eq_2 (vk @isL_e (vk @ldOf_e (@mInt))))))))))))))))
set_option maxHeartbeats 4000000 in
theorem rcheck_fn (l:Led) (hl:Fit l):FnV Try.prog 51 [aLed l] (aI (checkE l)):=by
  have env:Env (fun _=>True) Try.prog tyB (tab [(113,valE true c113),(114,valE true s114),(115,valE false s115)]):=mkEnv ⟨d113,e114,e115,trivial⟩
  refine Fn.of (A:=fun _=>True) (n0:=0) (D:=noD) (Fn0 Try.func51 rfl (fun vs w=>by kernel_rfl) (by kernel_rfl)) (by simp) (by simp [AV.ids,AV.idsL,aLed,cLed]) (fun i o h=>by cases h) (fun _ _ _ _=>trivial) noD_ok ?_
  by_cases h0:ckC l=0
  · have hes:=ckC_es h0 hl
    have hce:checkE l=entriesE l:=by rw [checkE_eq,if_neg (by rw [h0];simp)]
    rw [hce]
    have q1:=hes.c
    have q2:=hes.r
    have q3:=hes.e
    have q5:=tmax
    by_cases a1:6 < l.entries.length
    · have a1':(6:Int) < (l.entries.length:Int):=by omega
      have h4:countedE l.entries.length 0 6=6:=by unfold countedE;rw [if_neg (by omega),if_pos a1']
      repeat' (first|(apply nx;with_reducible constructor)|refine uq (by decide) ?_|((first|refine vz env fun Q hQ=>?_|refine vj fun Q hQ=>?_);simp only [vkt,seval,tbH4_51,xbH4_1,h0,a1'];(try simp only [ite_and]);(repeat' (first|with_reducible assumption|refine And.intro ?_ ?_|intro hp));all_goals (first|(refine hQ _ ?_;clear hQ Q)|(refine hQ _ (fun h=>?_) (fun h=>?_) <;> clear hQ Q <;> (try simp only [vki,reduceCtorEq] at h))|omega|assumption|with_reducible rfl|(refine vq ?_;kernel_rfl)|skip)))
      (simp only [vrt,Try.results51,vkt,seval,tbH4_51,xbH4_1];refine Fin.val rfl ?_;(try simp only [AV.le,AV.leL]))
      all_goals (unfold entriesE;rw [if_pos (by rw [h4];decide),h4])
    · have a1':¬ (6:Int) < (l.entries.length:Int):=by omega
      have h4:countedE l.entries.length 0 6=0:=by unfold countedE;rw [if_neg (by omega),if_neg a1']
      have hE0:entriesE l=firstE (errs l.entries.length (eK l)):=by unfold entriesE;rw [if_neg (by rw [h4];simp)]
      repeat' (first|(apply nx;with_reducible constructor)|refine uq (by decide) ?_|((first|refine vz env fun Q hQ=>?_|refine vj fun Q hQ=>?_);simp only [vkt,seval,tbH4_51,xbH4_1,h0,a1'];(try simp only [ite_and]);(repeat' (first|with_reducible assumption|refine And.intro ?_ ?_|intro hp));all_goals (first|(refine hQ _ ?_;clear hQ Q)|(refine hQ _ (fun h=>?_) (fun h=>?_) <;> clear hQ Q <;> (try simp only [vki,reduceCtorEq] at h))|omega|assumption|with_reducible rfl|(refine vq ?_;kernel_rfl)|skip)))
      refine sym_loop (ι:=FI (errs l.entries.length (eK l))) (fun i=>rkT l i.k) (fun i=>l.entries.length - i.k) (FI.zero _) ?_ fun i=>?_
      · (refine Le.ok some [] ?_;constructor;all_goals (try simp only [vle,vkt,seval,tbH4_51,xbH4_1]))
        all_goals first|rfl|(simp [FI.zero,stK];done)
      · have hk:=i.le
        rw [errs_len] at hk
        have hall:∀ j,j < i.k→eK l j=0:=fun j hj=>by rw [← errs_get (eK l) (show j < l.entries.length by omega)];exact i.all j hj
        have hok:=hasOk_all hes.s hes.v i.k hk hall
        repeat' (first|(apply nx;with_reducible constructor)|refine uq (by decide) ?_)
        (refine vz env fun Q hQ=>?_;simp only [vkt,seval,tbH4_51,xbH4_1];(try simp only [ite_and]);(repeat' (first|with_reducible assumption|refine And.intro ?_ ?_|intro hp));all_goals (first|(refine hQ _ ?_;clear hQ Q)|omega|assumption|with_reducible rfl|(refine vq ?_;kernel_rfl)|skip))
        repeat' (first|(apply nx;with_reducible constructor)|refine uq (by decide) ?_)
        (refine sym_cd (by simp only [vkt,seval,tbH4_51,xbH4_1];rfl) (fun h=>?_) (fun h=>?_) <;> (try simp only [vki,reduceCtorEq] at h))
        · have hlt:i.k < l.entries.length:=by omega
          have hS:=stK_succ hlt
          have hE:=eK_eq l i.k
          have hN:eK l i.k=0→∃ i':FI (errs l.entries.length (eK l)),l.entries.length - i'.k < l.entries.length - i.k∧i'.k=i.k+1:=fun h1=>⟨i.next hlt h1,by show l.entries.length - (i.k+1) < _;omega,rfl⟩
          have out:eK l i.k ≠ 0→entriesE l=eK l i.k:=fun h1=>by rw [hE0,i.hit hlt h1]
          have e9:=wrap_succ hlt (show l.entries.length≤maxLen by omega)
          have k20:i.k≤100:=by omega
          generalize hx:l.entries.getD i.k default=x at *
          generalize hst:stK l i.k=st at *
          obtain ⟨b,has⟩:=st
          dsimp only at hE hok hS
          have ho:=hok.len
          have ho2:has.length≤100000:=by omega
          by_cases c1:eV l x b has=0
          · have c1':eV l ⟨x.day,x.kind,x.coin,x.to,x.amount,x.got⟩ b has=0:=c1
            have hent:entryE l x b=0:=by
              unfold eV at c1
              split at c1
              · rename_i h1;exact absurd c1 h1
              · rename_i h1;exact Decidable.not_not.1 h1
            have hen:EnOk has ⟨x.day,x.kind,x.coin,x.to,x.amount,x.got⟩:=enOk_of hok k20 (entryE_ok hent)
            obtain ⟨i',g1,g2⟩:=hN (by rw [hE];exact c1)
            repeat' (first|(apply nx;with_reducible constructor)|refine uq (by decide) ?_|((first|refine vz env fun Q hQ=>?_|refine vj fun Q hQ=>?_);simp only [vkt,seval,tbH4_51,xbH4_1,hx,c1',e9];(try simp only [ite_and]);(repeat' (first|with_reducible assumption|refine And.intro ?_ ?_|intro hp));all_goals (first|(refine hQ _ ?_;clear hQ Q)|(refine hQ _ (fun h=>?_) (fun h=>?_) <;> clear hQ Q <;> (try simp only [vki,reduceCtorEq] at h))|omega|assumption|with_reducible rfl|(refine vq ?_;kernel_rfl)|skip)))
            refine ⟨i',g1,?_⟩
            rw [g2]
            (refine Le.ok some [] ?_;constructor;all_goals (try simp only [vle,vkt,seval,tbH4_51,xbH4_1]))
            all_goals first|rfl|(simp [hS];done)
          · have c1':¬ eV l ⟨x.day,x.kind,x.coin,x.to,x.amount,x.got⟩ b has=0:=c1
            repeat' (first|(apply nx;with_reducible constructor)|refine uq (by decide) ?_|((first|refine vz env fun Q hQ=>?_|refine vj fun Q hQ=>?_);simp only [vkt,seval,tbH4_51,xbH4_1,hx,c1'];(try simp only [ite_and]);(repeat' (first|with_reducible assumption|refine And.intro ?_ ?_|intro hp));all_goals (first|(refine hQ _ ?_;clear hQ Q)|(refine hQ _ (fun h=>?_) (fun h=>?_) <;> clear hQ Q <;> (try simp only [vki,reduceCtorEq] at h))|omega|assumption|with_reducible rfl|(refine vq ?_;kernel_rfl)|skip)))
            (simp only [vrt,Try.results51,vkt,seval,tbH4_51,xbH4_1];refine Fin.val rfl ?_;(try simp only [AV.le,AV.leL]))
            all_goals (rw [out (by rw [hE];exact c1),hE])
        · repeat' (first|(apply nx;with_reducible constructor)|refine uq (by decide) ?_|((first|refine vz env fun Q hQ=>?_|refine vj fun Q hQ=>?_);simp only [vkt,seval,tbH4_51,xbH4_1];(try simp only [ite_and]);(repeat' (first|with_reducible assumption|refine And.intro ?_ ?_|intro hp));all_goals (first|(refine hQ _ ?_;clear hQ Q)|(refine hQ _ (fun h=>?_) (fun h=>?_) <;> clear hQ Q <;> (try simp only [vki,reduceCtorEq] at h))|omega|assumption|with_reducible rfl|(refine vq ?_;kernel_rfl)|skip)))
          (simp only [vrt,Try.results51,vkt,seval,tbH4_51,xbH4_1];refine Fin.val rfl ?_;(try simp only [AV.le,AV.leL]))
          all_goals (rw [hE0,i.last (by omega)])
  · have hce:checkE l=ckC l:=by rw [checkE_eq,if_pos h0]
    rw [hce]
    repeat' (first|(apply nx;with_reducible constructor)|refine uq (by decide) ?_|((first|refine vz env fun Q hQ=>?_|refine vj fun Q hQ=>?_);simp only [vkt,seval,tbH4_51,xbH4_1,h0];(try simp only [ite_and]);(repeat' (first|with_reducible assumption|refine And.intro ?_ ?_|intro hp));all_goals (first|(refine hQ _ ?_;clear hQ Q)|(refine hQ _ (fun h=>?_) (fun h=>?_) <;> clear hQ Q <;> (try simp only [vki,reduceCtorEq] at h))|omega|assumption|with_reducible rfl|(refine vq ?_;kernel_rfl)|skip)))
    (simp only [vrt,Try.results51,vkt,seval,tbH4_51,xbH4_1];refine Fin.val rfl ?_;(try simp only [AV.le,AV.leL]))
    all_goals simp
theorem d51 {A:Frm→Prop}:EntryOK A Try.prog 51 (valE true c50):=valE_ok fun vs hv h=>by
  clear hv
  unfold c50 at h ⊢
  split at h
  · refine ⟨trivial,fun _=>trivial,?_⟩
    rw [← aLed_of h.1];exact rcheck_fn _ h.2
  · exact h.elim
end Go.Sym.B
namespace Go.Sym.B
open Go Go.Sym Go.Proofs Go.Sym.C
def cpT (ps d:List Int) (i:Nat):St:={ t:=asg [(0,aInts ps),(1,aInts d),(4,aI 0),(5,aI i)],h:=hasg [],n:=0 }
def tbN11_127:=vk @ty3 (vk @ty22 (vk @ti3.eq_1 @ti22.eq_1))
def xbN11_1:=vk @aI.eq_1 (vk @aB.eq_1 (vk @aInts.eq_1 (vk @mInt (vk @eInt.eq_1 (vk @gInt (vk @s79.eq_1 (@s79.eq_2)))))))
theorem cpurse_fn (ps d:List Int) (hs:ps.length≤100) (hd:d.length≤100):FnV Try.prog 127 [aInts ps,aInts d] (aI (purseE ps.length d)):=by
  have env:Env (fun _=>True) Try.prog tyB (tab [(82,valE true s79)]):=mkEnv ⟨e82,trivial⟩
  refine Fn.of (A:=fun _=>True) (n0:=0) (D:=noD) (Fn0 Try.func127 rfl (fun vs w=>by kernel_rfl) (by kernel_rfl)) (by simp) (by simp [AV.ids,aInts]) (fun i o h=>by cases h) (fun _ _ _ _=>trivial) noD_ok ?_
  by_cases h2:d.length=ps.length
  · have h2':(d.length:Int)=(ps.length:Int):=by omega
    have hp:purseE ps.length d=firstE (errs d.length (purE d)):=by unfold purseE;rw [if_neg (by simpa using h2)]
    rw [hp]
    repeat' (first|(apply nx;with_reducible constructor)|refine uq (by decide) ?_|((first|refine vz env fun Q hQ=>?_|refine vj fun Q hQ=>?_);simp only [vkt,seval,tbN11_127,xbN11_1,cpT,h2'];(try simp only [ite_and]);(repeat' (first|with_reducible assumption|refine And.intro ?_ ?_|intro hp));all_goals (first|(refine hQ _ ?_;clear hQ Q)|(refine hQ _ (fun h=>?_) (fun h=>?_) <;> clear hQ Q <;> (try simp only [vki,reduceCtorEq] at h))|(refine vq ?_;kernel_rfl)|omega|assumption|with_reducible rfl|skip)))
    refine sym_loop (ι:=FI (errs d.length (purE d))) (fun j=>cpT ps d j.k) (fun j=>d.length - j.k) (FI.zero _) ?_ fun j=>?_
    · (refine Le.ok some [] ?_;constructor;all_goals (try simp only [vle,vkt,seval,tbN11_127,xbN11_1,cpT]))
      all_goals first|(simp [FI.zero];done)
    · have hj:=j.le
      rw [errs_len] at hj
      repeat' (first|(apply nx;with_reducible constructor)|refine uq (by decide) ?_)
      (refine vz env fun Q hQ=>?_;simp only [vkt,seval,tbN11_127,xbN11_1,cpT];(try simp only [ite_and]);(repeat' (first|with_reducible assumption|refine And.intro ?_ ?_|intro hp));all_goals (first|(refine hQ _ ?_;clear hQ Q)|(refine vq ?_;kernel_rfl)|omega|assumption|with_reducible rfl|skip))
      repeat' (first|(apply nx;with_reducible constructor)|refine uq (by decide) ?_)
      (refine sym_cd (by simp only [vkt,seval,tbN11_127,xbN11_1,cpT];rfl) (fun h=>?_) (fun h=>?_) <;> (try simp only [vki,reduceCtorEq] at h))
      · have hjl:j.k < d.length:=by omega
        have e8:IntKind.wrap .i64 ((j.k:Int)+1)=((j.k+1:Nat):Int):=by rw [wrap64 (by omega) (by omega)];rfl
        by_cases c1:inB (d.getD j.k 0) 0 4=true
        · repeat' (first|(apply nx;with_reducible constructor)|refine uq (by decide) ?_|((first|refine vz env fun Q hQ=>?_|refine vj fun Q hQ=>?_);simp only [vkt,seval,tbN11_127,xbN11_1,cpT,c1];(try simp only [ite_and]);(repeat' (first|with_reducible assumption|refine And.intro ?_ ?_|intro hp));all_goals (first|(refine hQ _ ?_;clear hQ Q)|(refine hQ _ (fun h=>?_) (fun h=>?_) <;> clear hQ Q <;> (try simp only [vki,reduceCtorEq] at h))|(refine vq ?_;kernel_rfl)|omega|assumption|with_reducible rfl|skip)))
          refine ⟨j.next hjl (by unfold purE;rw [c1];rfl),by show d.length - (j.k+1) < _;omega,?_⟩
          (refine Le.ok some [] ?_;constructor;all_goals (try simp only [vle,vkt,seval,tbN11_127,xbN11_1,cpT]))
          all_goals first|(simp [FI.next,e8];done)
        · have c1:inB (d.getD j.k 0) 0 4=false:=by simpa using c1
          have hj1:=j.hit hjl (by unfold purE;rw [c1];simp)
          have hj2:purE d j.k=1:=by unfold purE;rw [c1];rfl
          rw [hj1,hj2]
          repeat' (first|(apply nx;with_reducible constructor)|refine uq (by decide) ?_|((first|refine vz env fun Q hQ=>?_|refine vj fun Q hQ=>?_);simp only [vkt,seval,tbN11_127,xbN11_1,cpT,c1];(try simp only [ite_and]);(repeat' (first|with_reducible assumption|refine And.intro ?_ ?_|intro hp));all_goals (first|(refine hQ _ ?_;clear hQ Q)|(refine hQ _ (fun h=>?_) (fun h=>?_) <;> clear hQ Q <;> (try simp only [vki,reduceCtorEq] at h))|(refine vq ?_;kernel_rfl)|omega|assumption|with_reducible rfl|skip)))
          (simp only [vrt,Try.results127,vkt,seval,tbN11_127,xbN11_1,cpT];refine Fin.val rfl ?_;(try simp only [AV.le,AV.leL]))
          all_goals first|rfl|(simp;done)
      · have hf:=j.last (by omega)
        rw [hf]
        repeat' (first|(apply nx;with_reducible constructor)|refine uq (by decide) ?_|((first|refine vz env fun Q hQ=>?_|refine vj fun Q hQ=>?_);simp only [vkt,seval,tbN11_127,xbN11_1,cpT];(try simp only [ite_and]);(repeat' (first|with_reducible assumption|refine And.intro ?_ ?_|intro hp));all_goals (first|(refine hQ _ ?_;clear hQ Q)|(refine hQ _ (fun h=>?_) (fun h=>?_) <;> clear hQ Q <;> (try simp only [vki,reduceCtorEq] at h))|(refine vq ?_;kernel_rfl)|omega|assumption|with_reducible rfl|skip)))
        (simp only [vrt,Try.results127,vkt,seval,tbN11_127,xbN11_1,cpT];refine Fin.val rfl ?_;(try simp only [AV.le,AV.leL]))
        all_goals first|rfl|(simp;done)
  · have h2':¬ (d.length:Int)=(ps.length:Int):=by omega
    rw [show purseE ps.length d=2 from if_pos h2]
    repeat' (first|(apply nx;with_reducible constructor)|refine uq (by decide) ?_|((first|refine vz env fun Q hQ=>?_|refine vj fun Q hQ=>?_);simp only [vkt,seval,tbN11_127,xbN11_1,cpT,h2'];(try simp only [ite_and]);(repeat' (first|with_reducible assumption|refine And.intro ?_ ?_|intro hp));all_goals (first|(refine hQ _ ?_;clear hQ Q)|(refine hQ _ (fun h=>?_) (fun h=>?_) <;> clear hQ Q <;> (try simp only [vki,reduceCtorEq] at h))|(refine vq ?_;kernel_rfl)|omega|assumption|with_reducible rfl|skip)))
    (simp only [vrt,Try.results127,vkt,seval,tbN11_127,xbN11_1,cpT];refine Fin.val rfl ?_;(try simp only [AV.le,AV.leL]))
    all_goals first|rfl|(simp;done)
def c127:List AV→Prop × AV
  |[.sl cs,.sl xs]=>(cs=(cs.map dInt).map eInt∧xs=(xs.map dInt).map eInt∧(cs.map dInt).length≤100∧(xs.map dInt).length≤100,aI (purseE (cs.map dInt).length (xs.map dInt)))
  |_=>(False,.junk)
theorem d127 {A:Frm→Prop}:EntryOK A Try.prog 127 (valE true c127):=valE_ok fun vs hv h=>by
  clear hv
  unfold c127 at h ⊢
  split at h
  · obtain ⟨h1,h2,h3,h4⟩:=h
    refine ⟨by simp [AV.plain,aI],fun _=>by simp [AV.flat,aI],?_⟩
    have:=cpurse_fn _ _ h3 h4
    simp only [aInts,← h1,← h2] at this
    exact this
  · exact h.elim
theorem pkG_skip {α:Type} {c:α→Int} {f:α→Bool} {a:α} {o:Option α} (hf:f a=false):pkG c f o a=o:=by unfold pkG;rw [if_neg (by rw [hf];simp)]
theorem purse_ok {n:Nat} {p:List Int} (h:purseE n p=0):p.length=n∧∀ v ∈ p,0≤v∧v≤4:=by
  unfold purseE at h
  by_cases h1:p.length=n
  · rw [if_neg (by simpa using h1)] at h
    refine ⟨h1,fun v hv=>?_⟩
    obtain ⟨i,hi,rfl⟩:=List.mem_iff_getElem.1 hv
    have h2:=firstE_zero h (purE p i) (List.mem_map.2 ⟨i,List.mem_range.2 hi,rfl⟩)
    unfold purE at h2
    cases hb:inB (p.getD i 0) 0 4 with
    |false=>rw [hb] at h2;simp at h2
    |true =>
      have:=inB_iff.1 hb
      rwa [show p.getD i 0=p[i] by simp [List.getD_eq_getElem?_getD,hi]] at this
  · rw [if_pos h1] at h;cases h
end Go.Sym.B
namespace Go.Sym.B
open Go Go.Sym Go.Proofs Go.Sym.C
theorem money2 (l:Led) (c n:Int) (h d:List Int):moneyE l c n [h,d]=if checkE l ≠ 0 then checkE l else if !inB c 0 ((l.coins.length:Int) - 1) then 3 else if purseE (l.coins.getD c.toNat []).length h ≠ 0 then purseE (l.coins.getD c.toNat []).length h else if purseE (l.coins.getD c.toNat []).length d ≠ 0 then purseE (l.coins.getD c.toNat []).length d else if !inB n 0 999 then 1 else 0:=by
  have e:firstE (errs [h,d].length (pursesE l c [h,d]))=if purseE (l.coins.getD c.toNat []).length h ≠ 0 then purseE (l.coins.getD c.toNat []).length h else purseE (l.coins.getD c.toNat []).length d:=by
    show firstE [purseE (l.coins.getD c.toNat []).length h,purseE (l.coins.getD c.toNat []).length d]=_
    by_cases h1:purseE (l.coins.getD c.toNat []).length h=0
    · rw [firstE,if_pos h1,if_neg (by rw [h1];simp)]
      by_cases h2:purseE (l.coins.getD c.toNat []).length d=0
      · rw [firstE,if_pos h2,h2];rfl
      · rw [firstE,if_neg h2]
    · rw [firstE,if_neg h1,if_pos h1]
  unfold moneyE
  rw [e]
  generalize purseE (l.coins.getD c.toNat []).length h=u
  generalize purseE (l.coins.getD c.toNat []).length d=v
  by_cases h1:u=0
  · simp [h1]
  · simp [h1]
theorem aPay_err {l:Led} {c n:Int} {h d:List Int} {e:Int} (hm:moneyE l c n [h,d]=e) (he:e ≠ 0):aPay l c h d n=.tup [.sl [],.sl [],aI e]:=by
  unfold aPay
  rw [if_pos (by rw [hm];exact he),hm]
theorem pk_all {α:Type} {c:α→Int} {f:α→Bool} {P:α→Prop}:∀ {l:List α} {o:Option α},(∀ q ∈ l,P q)→(∀ q,o=some q→P q)→∀ q,l.foldl (pkG c f) o=some q→P q:=fun {l o} hl ho q hq=>by
  rcases (pk_some hq).1 with h|h
  · exact ho q h
  · exact hl q h.1
theorem pdRow_neg {ps d:List Int} {price:Int} {o:Option DL} {x:List Int} (hp:PzOk ps) (hd:∀ y ∈ partsL d,∀ v ∈ y,0≤v∧v≤4) (hv:dotL ps x - price < 0):∀ k,k≤(partsL d).length→pdRow ps d price o x k=o
  |0,_=>by simp [pdRow]
  |k+1,hk=>by
    rw [pdRow_succ (by omega),pdRow_neg hp hd hv k (by omega)]
    have:=(dot_bd hp.bd (hd _ (gMem (l:=partsL d) (k:=k) (d:=[]) (by omega)))).1
    exact pkG_skip (decide_eq_false (by show ¬ dotL ps x - dotL ps ((partsL d).getD k [])=price;omega))
theorem pk_take {α:Type} {c:α→Int} {f:α→Bool} {o:Option α} {a:α} (hf:f a=true) (h:∀ b,o=some b→c a < c b):pkG c f o a=some a:=by
  cases o with
  |none=>exact pkG_none hf
  |some b=>rw [pkG_some hf];exact congrArg some (if_pos (h b rfl))
theorem pk_keep {α:Type} {c:α→Int} {f:α→Bool} {o:Option α} {a:α} (hf:f a=true) (hs:o.isSome=true) (h:∀ b,o=some b→¬ c a < c b):pkG c f o a=o:=by
  cases o with
  |none=>cases hs
  |some b=>rw [pkG_some hf];exact congrArg some (if_neg (h b rfl))
def rq1 (ps hand d:List Int) (price:Int) (o:Option DL) (i:Nat):St:={ t:=asg [(4,aI price),(14,aInts ps),(17,aInts (plF o)),(18,aInts (blF o)),(19,aB o.isSome),(20,aIntss (partsL hand)),(21,aIntss (partsL d)),(22,aI i)],h:=hasg [],n:=0 }
def rq2 (ps hand d:List Int) (price:Int) (o:Option DL) (i:Nat) (v m:Int) (k:Nat):St:={ t:=asg [(4,aI price),(14,aInts ps),(17,aInts (plF o)),(18,aInts (blF o)),(19,aB o.isSome),(20,aIntss (partsL hand)),(21,aIntss (partsL d)),(22,aI i),(23,aI v),(24,aI m),(25,aI k)],h:=hasg [],n:=0 }
def tbN14_74:=vk @ty3 (vk @ty22 (vk @ty28 (vk @ty30 (vk @ty38 (vk @ti3.eq_1 (vk @ti22.eq_1 (vk @ti28.eq_1 (vk @ti30.eq_1 @ti38.eq_1))))))))
def xbN14_1:=vk @aI.eq_1 (vk @aB.eq_1 (vk @aLed.eq_1 (vk @cLed.eq_1 (vk @aInts.eq_1 (vk @aIntss.eq_1 (vk @mInt (vk @mInts (vk @eInt.eq_1 (vk @gInt (vk @eInts.eq_1 (vk @gInts (vk @s79.eq_1 (vk @s79.eq_2 (vk @c50.eq_1 (vk @c50.eq_2 (vk @s83.eq_1 (vk @s83.eq_2 (vk @isL_e (@ldOf_e)))))))))))))))))))
set_option maxHeartbeats 40000000 in
theorem rpay_fn (l:Led) (c:Int) (hand d:List Int) (price:Int) (hl:Fit l) (hh:hand.length≤20) (hd:d.length≤20):FnV Try.prog 74 [aLed l,aI c,aInts hand,aInts d,aI price] (aPay l c hand d price):=by
  have env:Env (fun _=>True) Try.prog tyB (tab [(51,valE true c50),(72,valE true c72),(75,valE false c75),(82,valE true s79),(83,valE true s83),(127,valE true c127)]):=mkEnv ⟨d51,d72,d75,e82,e83,d127,trivial⟩
  refine Fn.of (A:=fun _=>True) (n0:=0) (D:=noD) (Fn0 Try.func74 rfl (fun vs w=>by kernel_rfl) (by kernel_rfl)) (by simp) (by simp [AV.ids,AV.idsL,aI,aLed,cLed,aInts]) (fun i o h=>by cases h) (fun _ _ _ _=>trivial) noD_ok ?_
  have hm:=money2 l c price hand d
  have zn:∀ n:Int,decide (n=n)=true:=fun n=>decide_eq_true rfl
  by_cases h0:checkE l=0
  · have hV:=val_of h0
    have v1:=hV.c
    rw [if_neg (by rw [h0];simp)] at hm
    have w1:IntKind.wrap .i64 ((l.coins.length:Int) - 1)=(l.coins.length:Int) - 1:=wrap64 (by omega) (by omega)
    by_cases h1:inB c 0 ((l.coins.length:Int) - 1)=true
    · rw [if_neg (by rw [h1];simp)] at hm
      have b1:=inB_iff.1 h1
      have g1:0≤c:=b1.1
      have g2:c.toNat < l.coins.length:=by omega
      have hps:=coin_ok (hV.cs _ g2)
      obtain ⟨ps,hP⟩:∃ x,l.coins.getD c.toNat []=x:=⟨_,rfl⟩
      rw [hP] at hps hm
      have hpl:=hps.l
      have hpz:PzOk ps:=⟨hpl.2,hps.b⟩
      have p100:ps.length≤100:=by omega
      have h100:hand.length≤100:=by omega
      have d100:d.length≤100:=by omega
      by_cases h2:purseE ps.length hand=0
      · rw [if_neg (by rw [h2];simp)] at hm
        obtain ⟨hhl,hhb⟩:=purse_ok h2
        by_cases h4:purseE ps.length d=0
        · rw [if_neg (by rw [h4];simp)] at hm
          obtain ⟨hdl,hdb⟩:=purse_ok h4
          by_cases h3:inB price 0 999=true
          · rw [if_neg (by rw [h3];simp)] at hm
            have hn:=inB_iff.1 h3
            have hh0:∀ x ∈ hand,0≤x:=fun x hx=>(hhb x hx).1
            have hd0:∀ x ∈ d,0≤x:=fun x hx=>(hdb x hx).1
            have hhl4:hand.length≤4:=by omega
            have hdl4:d.length≤4:=by omega
            have hmA:=fun x hx=>part_bd hhb hhl4 (x:=x) hx
            have hmB:=fun x hx=>part_bd hdb hdl4 (x:=x) hx
            have lenA:(partsL hand).length≤625:=Nat.le_trans (parts_le fun n hn=>(hhb n hn).2) (Nat.le_trans (Nat.pow_le_pow_right (by decide) hhl4) (by decide))
            have lenB:(partsL d).length≤625:=Nat.le_trans (parts_le fun n hn=>(hdb n hn).2) (Nat.le_trans (Nat.pow_le_pow_right (by decide) hdl4) (by decide))
            have hv:=aPay_of (o:=payL ps hand d price) hm hh0 hd0 (by rw [hP])
            have hend:=pdAll_end ps hand d price
            rw [hv]
            repeat' (first|(apply nx;with_reducible constructor)|refine uq (by decide) ?_|((first|refine vz env fun Q hQ=>?_|refine vj fun Q hQ=>?_);simp only [vkt,seval,tbN14_74,xbN14_1,rq1,rq2,c127,c72,c75,h0,w1,h1,h2,h3,h4,g1,g2,hP,p100,h100,d100];(try simp only [ite_and]);(repeat' (first|with_reducible assumption|refine And.intro ?_ ?_|intro hp));all_goals (first|(refine hQ _ ?_;clear hQ Q)|(refine hQ _ (fun h=>?_) (fun h=>?_) <;> clear hQ Q <;> (try simp only [vki,reduceCtorEq] at h))|(refine vq ?_;kernel_rfl)|omega|assumption|with_reducible rfl|skip)))
            refine sym_loop (fun i:{ i:Nat // i≤(partsL hand).length }=>rq1 ps hand d price (pdAll ps hand d price i.1) i.1) (fun i=>(partsL hand).length - i.1) ⟨0,Nat.zero_le _⟩ ?_ fun ⟨i,hi⟩=>?_
            · (refine Le.ok (fun _=>none) [] ?_;constructor;all_goals (try simp only [vle,vkt,seval,tbN14_74,xbN14_1,rq1,rq2,c127,c72,c75]))
              all_goals first|rfl|(simp [pdAll,plF,blF];done)
            · repeat' (first|(apply nx;with_reducible constructor)|refine uq (by decide) ?_)
              (refine vz env fun Q hQ=>?_;simp only [vkt,seval,tbN14_74,xbN14_1,rq1,rq2,c127,c72,c75];(try simp only [ite_and]);(repeat' (first|with_reducible assumption|refine And.intro ?_ ?_|intro hp));all_goals (first|(refine hQ _ ?_;clear hQ Q)|(refine vq ?_;kernel_rfl)|omega|assumption|with_reducible rfl|skip))
              repeat' (first|(apply nx;with_reducible constructor)|refine uq (by decide) ?_)
              (refine sym_cd (by simp only [vkt,seval,tbN14_74,xbN14_1,rq1,rq2,c127,c72,c75];rfl) (fun h=>?_) (fun h=>?_) <;> (try simp only [vki,reduceCtorEq] at h))
              · have hlt:i < (partsL hand).length:=by omega
                obtain ⟨x,hx⟩:∃ x,(partsL hand).getD i []=x:=⟨_,rfl⟩
                have hxm:x ∈ partsL hand:=hx ▸ gMem hlt
                obtain ⟨xl,xb,xs0,xs1⟩:=hmA x hxm
                have sx:=sum_pSum x
                have hAS:=pdAll_succ (ps:=ps) (d:=d) (price:=price) hlt
                rw [hx] at hAS
                obtain ⟨oi,hoi⟩:∃ o,pdAll ps hand d price i=o:=⟨_,rfl⟩
                have hbi:∀ q,oi=some q→q.1 ∈ partsL hand∧q.2 ∈ partsL d:=fun q hq=>by
                  rw [← hoi] at hq
                  unfold pdAll pdRow at hq
                  rw [List.take_length,← foldl_flat] at hq
                  refine pk_all (P:=fun q=>q.1 ∈ partsL hand∧q.2 ∈ partsL d) (fun r hr=>?_) (fun q hq=>by cases hq) q hq
                  obtain ⟨u,hu,hr⟩:=List.mem_flatMap.1 hr
                  obtain ⟨v,hv,rfl⟩:=List.mem_map.1 hr
                  exact ⟨List.mem_of_mem_take hu,hv⟩
                have e9:IntKind.wrap .i64 ((i:Int)+1)=((i+1:Nat):Int):=by rw [wrap64 (by omega) (by omega)];rfl
                rw [hoi] at hAS
                obtain ⟨px,hpx⟩:∃ v,pSum x=v:=⟨_,rfl⟩
                obtain ⟨vx,hvx⟩:∃ v,dotL ps x=v:=⟨_,rfl⟩
                have bx:=dot_bd hpz.bd xb
                rw [hvx] at bx
                rw [hpx] at sx
                obtain ⟨v,hvv⟩:∃ v,vx - price=v:=⟨_,rfl⟩
                have wV:IntKind.wrap .i64 v=v:=wrap64 (by omega) (by omega)
                have x1:x.length≤10000:=by omega
                have x2:∀ v ∈ x,0≤v∧v≤1000000:=fun v hv=>by have:=xb v hv;omega
                have xl2:x.length≤ps.length:=by omega
                have hneg:v < 0→∀ k,k≤(partsL d).length→pdRow ps d price oi x k=oi:=fun hv=>pdRow_neg hpz (fun y hy=>(hmB y hy).2.1) (by rw [hvx,hvv];exact hv)
                repeat' (first|(apply nx;with_reducible constructor)|refine uq (by decide) ?_|((first|refine vz env fun Q hQ=>?_|refine vj fun Q hQ=>?_);simp only [vkt,seval,tbN14_74,xbN14_1,rq1,rq2,c127,c72,c75,hx,hoi,hpx,hvx,hvv,wV];(try simp only [ite_and]);(repeat' (first|with_reducible assumption|refine And.intro ?_ ?_|intro hp));all_goals (first|(refine hQ _ ?_;clear hQ Q)|(refine hQ _ (fun h=>?_) (fun h=>?_) <;> clear hQ Q <;> (try simp only [vki,reduceCtorEq] at h))|(refine vq ?_;kernel_rfl)|omega|assumption|with_reducible rfl|skip)))
                refine sym_loop (fun k:{ k:Nat // k≤(partsL d).length }=>rq2 ps hand d price (pdRow ps d price oi x k.1) i v px k.1) (fun k=>(partsL d).length - k.1) ⟨0,Nat.zero_le _⟩ ?_ fun ⟨k,hk⟩=>?_
                · (refine Le.ok some [] ?_;constructor;all_goals (try simp only [vle,vkt,seval,tbN14_74,xbN14_1,rq1,rq2,c127,c72,c75]))
                  all_goals first|rfl|(simp [pdRow,hoi];done)
                · have done':(k=(partsL d).length∨v < 0)→pdRow ps d price oi x k=pdRow ps d price oi x (partsL d).length:=fun h=>by
                    rcases h with h|h
                    · rw [h]
                    · rw [hneg h k hk,hneg h _ (Nat.le_refl _)]
                  by_cases hkl:k < (partsL d).length
                  · have hkl':((k:Int) < ((partsL d).length:Int)):=by omega
                    by_cases hv0:0≤v
                    · obtain ⟨y,hy⟩:∃ x,(partsL d).getD k []=x:=⟨_,rfl⟩
                      have hym:y ∈ partsL d:=hy ▸ gMem hkl
                      obtain ⟨yl,yb,ys0,ys1⟩:=hmB y hym
                      have sy:=sum_pSum y
                      have hRS:=pdRow_succ (ps:=ps) (price:=price) (o:=oi) (x:=x) hkl
                      rw [hy] at hRS
                      obtain ⟨ok,hok2⟩:∃ o,pdRow ps d price oi x k=o:=⟨_,rfl⟩
                      have hbk:∀ q,ok=some q→q.1 ∈ partsL hand∧q.2 ∈ partsL d:=fun q hq=>by
                        rw [← hok2] at hq
                        refine pk_all (P:=fun q=>q.1 ∈ partsL hand∧q.2 ∈ partsL d) (fun r hr=>?_) hbi q hq
                        obtain ⟨v,hv,rfl⟩:=List.mem_map.1 hr
                        exact ⟨hxm,List.mem_of_mem_take hv⟩
                      rw [hok2] at hRS
                      have e8:IntKind.wrap .i64 ((k:Int)+1)=((k+1:Nat):Int):=by rw [wrap64 (by omega) (by omega)];rfl
                      obtain ⟨py,hpy⟩:∃ v,pSum y=v:=⟨_,rfl⟩
                      obtain ⟨vy,hvy⟩:∃ v,dotL ps y=v:=⟨_,rfl⟩
                      rw [hpy] at sy
                      have wS:IntKind.wrap .i64 (px+py)=px+py:=wrap64 (by omega) (by omega)
                      have y1':y.length≤10000:=by omega
                      have y2':∀ v ∈ y,0≤v∧v≤1000000:=fun v hv=>by have:=yb v hv;omega
                      have yl2:y.length≤ps.length:=by omega
                      have hcnt:cntD (x,y)=px+py:=by show x.sum+y.sum=_;omega
                      obtain ⟨P0,hP0⟩:∃ L,plF ok=L:=⟨_,rfl⟩
                      obtain ⟨B0,hB0⟩:∃ L,blF ok=L:=⟨_,rfl⟩
                      obtain ⟨s0,hs0⟩:∃ s,ok.isSome=s:=⟨_,rfl⟩
                      have hPB:(P0.length≤10000∧∀ v ∈ P0,0≤v∧v≤1000000)∧(B0.length≤10000∧∀ v ∈ B0,0≤v∧v≤1000000)∧0≤P0.sum∧P0.sum≤16∧0≤B0.sum∧B0.sum≤16∧∀ b,ok=some b→cntD b=P0.sum+B0.sum:=by
                        rw [← hP0,← hB0]
                        cases ok with
                        |none=>simp [plF,blF]
                        |some b =>
                          obtain ⟨ba,bb⟩:=hbk b rfl
                          obtain ⟨p1,p2,p3,p4⟩:=hmA _ ba
                          obtain ⟨r1,r2,r3,r4⟩:=hmB _ bb
                          exact ⟨⟨by show b.1.length≤_;omega,fun v hv=>by have:=p2 v hv;omega⟩,⟨by show b.2.length≤_;omega,fun v hv=>by have:=r2 v hv;omega⟩,p3,p4,r3,r4,fun q hq=>by cases hq;rfl⟩
                      obtain ⟨⟨t1,t2⟩,⟨t3,t4⟩,t5,t6,t7,t8,t9⟩:=hPB
                      have sa:=sum_pSum P0
                      have sb:=sum_pSum B0
                      obtain ⟨qa,hqa⟩:∃ v,pSum P0=v:=⟨_,rfl⟩
                      obtain ⟨qb,hqb⟩:∃ v,pSum B0=v:=⟨_,rfl⟩
                      rw [hqa] at sa
                      rw [hqb] at sb
                      have wB:IntKind.wrap .i64 (qa+qb)=qa+qb:=wrap64 (by omega) (by omega)
                      by_cases c1:vy=v
                      · have hf:pySel ps price (x,y)=true:=decide_eq_true (by show dotL ps x - dotL ps y=price;omega)
                        cases s0
                        · have lo:plF (pdRow ps d price oi x (k+1))=x∧blF (pdRow ps d price oi x (k+1))=y∧(pdRow ps d price oi x (k+1)).isSome=true:=by
                            rw [hRS,pk_take hf (fun b hb=>by rw [hb] at hs0;cases hs0)];exact ⟨rfl,rfl,rfl⟩
                          repeat' (first|(apply nx;with_reducible constructor)|refine uq (by decide) ?_|((first|refine vz env fun Q hQ=>?_|refine vj fun Q hQ=>?_);simp only [vkt,seval,tbN14_74,xbN14_1,rq1,rq2,c127,c72,c75,hkl',hv0,hx,hy,hpy,hvy,hqa,hqb,wS,wB,c1,e8,hok2,hP0,hB0,hs0,zn];(try simp only [ite_and]);(repeat' (first|with_reducible assumption|refine And.intro ?_ ?_|intro hp));all_goals (first|(refine hQ _ ?_;clear hQ Q)|(refine hQ _ (fun h=>?_) (fun h=>?_) <;> clear hQ Q <;> (try simp only [vki,reduceCtorEq] at h))|(refine vq ?_;kernel_rfl)|omega|assumption|with_reducible rfl|skip)))
                          refine ⟨⟨k+1,hkl⟩,by dsimp only;omega,?_⟩
                          (refine Le.ok some [] ?_;constructor;all_goals (try simp only [vle,vkt,seval,tbN14_74,xbN14_1,rq1,rq2,c127,c72,c75]))
                          all_goals first|rfl|(simp [lo];done)
                        · by_cases c3:px+py < qa+qb
                          · have lo:plF (pdRow ps d price oi x (k+1))=x∧blF (pdRow ps d price oi x (k+1))=y∧(pdRow ps d price oi x (k+1)).isSome=true:=by
                              rw [hRS,pk_take hf (fun b hb=>by rw [hcnt,t9 b hb,← sa,← sb];exact c3)];exact ⟨rfl,rfl,rfl⟩
                            repeat' (first|(apply nx;with_reducible constructor)|refine uq (by decide) ?_|((first|refine vz env fun Q hQ=>?_|refine vj fun Q hQ=>?_);simp only [vkt,seval,tbN14_74,xbN14_1,rq1,rq2,c127,c72,c75,hkl',hv0,hx,hy,hpy,hvy,hqa,hqb,wS,wB,c1,c3,e8,hok2,hP0,hB0,hs0,zn];(try simp only [ite_and]);(repeat' (first|with_reducible assumption|refine And.intro ?_ ?_|intro hp));all_goals (first|(refine hQ _ ?_;clear hQ Q)|(refine hQ _ (fun h=>?_) (fun h=>?_) <;> clear hQ Q <;> (try simp only [vki,reduceCtorEq] at h))|(refine vq ?_;kernel_rfl)|omega|assumption|with_reducible rfl|skip)))
                            refine ⟨⟨k+1,hkl⟩,by dsimp only;omega,?_⟩
                            (refine Le.ok some [] ?_;constructor;all_goals (try simp only [vle,vkt,seval,tbN14_74,xbN14_1,rq1,rq2,c127,c72,c75]))
                            all_goals first|rfl|(simp [lo];done)
                          · have lo:plF (pdRow ps d price oi x (k+1))=P0∧blF (pdRow ps d price oi x (k+1))=B0∧(pdRow ps d price oi x (k+1)).isSome=true:=by
                              rw [hRS,pk_keep hf hs0 (fun b hb=>by rw [hcnt,t9 b hb,← sa,← sb];exact c3)];exact ⟨hP0,hB0,hs0⟩
                            repeat' (first|(apply nx;with_reducible constructor)|refine uq (by decide) ?_|((first|refine vz env fun Q hQ=>?_|refine vj fun Q hQ=>?_);simp only [vkt,seval,tbN14_74,xbN14_1,rq1,rq2,c127,c72,c75,hkl',hv0,hx,hy,hpy,hvy,hqa,hqb,wS,wB,c1,c3,e8,hok2,hP0,hB0,hs0,zn];(try simp only [ite_and]);(repeat' (first|with_reducible assumption|refine And.intro ?_ ?_|intro hp));all_goals (first|(refine hQ _ ?_;clear hQ Q)|(refine hQ _ (fun h=>?_) (fun h=>?_) <;> clear hQ Q <;> (try simp only [vki,reduceCtorEq] at h))|(refine vq ?_;kernel_rfl)|omega|assumption|with_reducible rfl|skip)))
                            refine ⟨⟨k+1,hkl⟩,by dsimp only;omega,?_⟩
                            (refine Le.ok some [] ?_;constructor;all_goals (try simp only [vle,vkt,seval,tbN14_74,xbN14_1,rq1,rq2,c127,c72,c75]))
                            all_goals first|rfl|(simp [lo];done)
                      · have hf:pySel ps price (x,y)=false:=decide_eq_false (by show ¬ dotL ps x - dotL ps y=price;omega)
                        rw [pkG_skip hf] at hRS
                        have lo:plF (pdRow ps d price oi x (k+1))=P0∧blF (pdRow ps d price oi x (k+1))=B0∧(pdRow ps d price oi x (k+1)).isSome=s0:=by rw [hRS];exact ⟨hP0,hB0,hs0⟩
                        repeat' (first|(apply nx;with_reducible constructor)|refine uq (by decide) ?_|((first|refine vz env fun Q hQ=>?_|refine vj fun Q hQ=>?_);simp only [vkt,seval,tbN14_74,xbN14_1,rq1,rq2,c127,c72,c75,hkl',hv0,hx,hy,hpy,hvy,c1,e8,hok2,hP0,hB0,hs0];(try simp only [ite_and]);(repeat' (first|with_reducible assumption|refine And.intro ?_ ?_|intro hp));all_goals (first|(refine hQ _ ?_;clear hQ Q)|(refine hQ _ (fun h=>?_) (fun h=>?_) <;> clear hQ Q <;> (try simp only [vki,reduceCtorEq] at h))|(refine vq ?_;kernel_rfl)|omega|assumption|with_reducible rfl|skip)))
                        refine ⟨⟨k+1,hkl⟩,by dsimp only;omega,?_⟩
                        (refine Le.ok some [] ?_;constructor;all_goals (try simp only [vle,vkt,seval,tbN14_74,xbN14_1,rq1,rq2,c127,c72,c75]))
                        all_goals first|rfl|(simp [lo];done)
                    · have hd':=done' (.inr (by omega))
                      repeat' (first|(apply nx;with_reducible constructor)|refine uq (by decide) ?_|((first|refine vz env fun Q hQ=>?_|refine vj fun Q hQ=>?_);simp only [vkt,seval,tbN14_74,xbN14_1,rq1,rq2,c127,c72,c75,hkl',hv0,hd',e9];(try simp only [ite_and]);(repeat' (first|with_reducible assumption|refine And.intro ?_ ?_|intro hp));all_goals (first|(refine hQ _ ?_;clear hQ Q)|(refine hQ _ (fun h=>?_) (fun h=>?_) <;> clear hQ Q <;> (try simp only [vki,reduceCtorEq] at h))|(refine vq ?_;kernel_rfl)|omega|assumption|with_reducible rfl|skip)))
                      refine ⟨⟨i+1,hlt⟩,by dsimp only;omega,?_⟩
                      (refine Le.ok some [] ?_;constructor;all_goals (try simp only [vle,vkt,seval,tbN14_74,xbN14_1,rq1,rq2,c127,c72,c75]))
                      all_goals first|rfl|(simp [hAS];done)
                  · have hkl':¬ ((k:Int) < ((partsL d).length:Int)):=by omega
                    have hd':=done' (.inl (by omega))
                    repeat' (first|(apply nx;with_reducible constructor)|refine uq (by decide) ?_|((first|refine vz env fun Q hQ=>?_|refine vj fun Q hQ=>?_);simp only [vkt,seval,tbN14_74,xbN14_1,rq1,rq2,c127,c72,c75,hkl',hd',e9];(try simp only [ite_and]);(repeat' (first|with_reducible assumption|refine And.intro ?_ ?_|intro hp));all_goals (first|(refine hQ _ ?_;clear hQ Q)|(refine hQ _ (fun h=>?_) (fun h=>?_) <;> clear hQ Q <;> (try simp only [vki,reduceCtorEq] at h))|(refine vq ?_;kernel_rfl)|omega|assumption|with_reducible rfl|skip)))
                    refine ⟨⟨i+1,hlt⟩,by dsimp only;omega,?_⟩
                    (refine Le.ok some [] ?_;constructor;all_goals (try simp only [vle,vkt,seval,tbN14_74,xbN14_1,rq1,rq2,c127,c72,c75]))
                    all_goals first|rfl|(simp [hAS];done)
              · have hin:i=(partsL hand).length:=by omega
                subst hin
                cases ho:payL ps hand d price with
                |none =>
                  rw [ho] at hend
                  repeat' (first|(apply nx;with_reducible constructor)|refine uq (by decide) ?_|((first|refine vz env fun Q hQ=>?_|refine vj fun Q hQ=>?_);simp only [vkt,seval,tbN14_74,xbN14_1,rq1,rq2,c127,c72,c75,hend,Option.isSome_none,Bool.not_false];(try simp only [ite_and]);(repeat' (first|with_reducible assumption|refine And.intro ?_ ?_|intro hp));all_goals (first|(refine hQ _ ?_;clear hQ Q)|(refine hQ _ (fun h=>?_) (fun h=>?_) <;> clear hQ Q <;> (try simp only [vki,reduceCtorEq] at h))|(refine vq ?_;kernel_rfl)|omega|assumption|with_reducible rfl|skip)))
                  show retK tyB noD Try.f74 (fun S rv=>Fin S rv (.tup [.sl [],.sl [],aI 11]) 0 noH 0) Exit.ret _
                  (simp only [vrt,Try.results74,vkt,seval,tbN14_74,xbN14_1,rq1,rq2,c127,c72,c75];refine Fin.val rfl ?_;(try simp only [AV.le,AV.leL]))
                  all_goals first|rfl|(simp;done)
                |some q =>
                  rw [ho] at hend
                  repeat' (first|(apply nx;with_reducible constructor)|refine uq (by decide) ?_|((first|refine vz env fun Q hQ=>?_|refine vj fun Q hQ=>?_);simp only [vkt,seval,tbN14_74,xbN14_1,rq1,rq2,c127,c72,c75,hend,Option.isSome_some,Bool.not_true,plF.eq_2,blF.eq_2];(try simp only [ite_and]);(repeat' (first|with_reducible assumption|refine And.intro ?_ ?_|intro hp));all_goals (first|(refine hQ _ ?_;clear hQ Q)|(refine hQ _ (fun h=>?_) (fun h=>?_) <;> clear hQ Q <;> (try simp only [vki,reduceCtorEq] at h))|(refine vq ?_;kernel_rfl)|omega|assumption|with_reducible rfl|skip)))
                  show retK tyB noD Try.f74 (fun S rv=>Fin S rv (.tup [aInts q.1,aInts q.2,aI 0]) 0 noH 0) Exit.ret _
                  (simp only [vrt,Try.results74,vkt,seval,tbN14_74,xbN14_1,rq1,rq2,c127,c72,c75];refine Fin.val rfl ?_;(try simp only [AV.le,AV.leL]))
                  all_goals first|rfl|(simp;done)
          · have h3:inB price 0 999=false:=by simpa using h3
            rw [if_pos (by rw [h3];rfl)] at hm
            rw [aPay_err hm (by decide)]
            repeat' (first|(apply nx;with_reducible constructor)|refine uq (by decide) ?_|((first|refine vz env fun Q hQ=>?_|refine vj fun Q hQ=>?_);simp only [vkt,seval,tbN14_74,xbN14_1,rq1,rq2,c127,c72,c75,h0,w1,h1,h2,h3,h4,g1,g2,hP,p100,h100,d100];(try simp only [ite_and]);(repeat' (first|with_reducible assumption|refine And.intro ?_ ?_|intro hp));all_goals (first|(refine hQ _ ?_;clear hQ Q)|(refine hQ _ (fun h=>?_) (fun h=>?_) <;> clear hQ Q <;> (try simp only [vki,reduceCtorEq] at h))|(refine vq ?_;kernel_rfl)|omega|assumption|with_reducible rfl|skip)))
            (simp only [vrt,Try.results74,vkt,seval,tbN14_74,xbN14_1,rq1,rq2,c127,c72,c75];refine Fin.val rfl ?_;(try simp only [AV.le,AV.leL]))
            all_goals first|rfl|(simp;done)
        · rw [if_pos h4] at hm
          rw [aPay_err hm h4]
          repeat' (first|(apply nx;with_reducible constructor)|refine uq (by decide) ?_|((first|refine vz env fun Q hQ=>?_|refine vj fun Q hQ=>?_);simp only [vkt,seval,tbN14_74,xbN14_1,rq1,rq2,c127,c72,c75,h0,w1,h1,h2,h4,g1,g2,hP,p100,h100,d100];(try simp only [ite_and]);(repeat' (first|with_reducible assumption|refine And.intro ?_ ?_|intro hp));all_goals (first|(refine hQ _ ?_;clear hQ Q)|(refine hQ _ (fun h=>?_) (fun h=>?_) <;> clear hQ Q <;> (try simp only [vki,reduceCtorEq] at h))|(refine vq ?_;kernel_rfl)|omega|assumption|with_reducible rfl|skip)))
          (simp only [vrt,Try.results74,vkt,seval,tbN14_74,xbN14_1,rq1,rq2,c127,c72,c75];refine Fin.val rfl ?_;(try simp only [AV.le,AV.leL]))
          all_goals first|rfl|(simp;done)
      · rw [if_pos h2] at hm
        rw [aPay_err hm h2]
        repeat' (first|(apply nx;with_reducible constructor)|refine uq (by decide) ?_|((first|refine vz env fun Q hQ=>?_|refine vj fun Q hQ=>?_);simp only [vkt,seval,tbN14_74,xbN14_1,rq1,rq2,c127,c72,c75,h0,w1,h1,h2,g1,g2,hP,p100,h100];(try simp only [ite_and]);(repeat' (first|with_reducible assumption|refine And.intro ?_ ?_|intro hp));all_goals (first|(refine hQ _ ?_;clear hQ Q)|(refine hQ _ (fun h=>?_) (fun h=>?_) <;> clear hQ Q <;> (try simp only [vki,reduceCtorEq] at h))|(refine vq ?_;kernel_rfl)|omega|assumption|with_reducible rfl|skip)))
        (simp only [vrt,Try.results74,vkt,seval,tbN14_74,xbN14_1,rq1,rq2,c127,c72,c75];refine Fin.val rfl ?_;(try simp only [AV.le,AV.leL]))
        all_goals first|rfl|(simp;done)
    · have h1:inB c 0 ((l.coins.length:Int) - 1)=false:=by simpa using h1
      rw [if_pos (by rw [h1];rfl)] at hm
      rw [aPay_err hm (by decide)]
      repeat' (first|(apply nx;with_reducible constructor)|refine uq (by decide) ?_|((first|refine vz env fun Q hQ=>?_|refine vj fun Q hQ=>?_);simp only [vkt,seval,tbN14_74,xbN14_1,rq1,rq2,c127,c72,c75,h0,w1,h1];(try simp only [ite_and]);(repeat' (first|with_reducible assumption|refine And.intro ?_ ?_|intro hp));all_goals (first|(refine hQ _ ?_;clear hQ Q)|(refine hQ _ (fun h=>?_) (fun h=>?_) <;> clear hQ Q <;> (try simp only [vki,reduceCtorEq] at h))|(refine vq ?_;kernel_rfl)|omega|assumption|with_reducible rfl|skip)))
      (simp only [vrt,Try.results74,vkt,seval,tbN14_74,xbN14_1,rq1,rq2,c127,c72,c75];refine Fin.val rfl ?_;(try simp only [AV.le,AV.leL]))
      all_goals first|rfl|(simp;done)
  · rw [if_pos h0] at hm
    rw [aPay_err hm h0]
    repeat' (first|(apply nx;with_reducible constructor)|refine uq (by decide) ?_|((first|refine vz env fun Q hQ=>?_|refine vj fun Q hQ=>?_);simp only [vkt,seval,tbN14_74,xbN14_1,rq1,rq2,c127,c72,c75,h0];(try simp only [ite_and]);(repeat' (first|with_reducible assumption|refine And.intro ?_ ?_|intro hp));all_goals (first|(refine hQ _ ?_;clear hQ Q)|(refine hQ _ (fun h=>?_) (fun h=>?_) <;> clear hQ Q <;> (try simp only [vki,reduceCtorEq] at h))|(refine vq ?_;kernel_rfl)|omega|assumption|with_reducible rfl|skip)))
    (simp only [vrt,Try.results74,vkt,seval,tbN14_74,xbN14_1,rq1,rq2,c127,c72,c75];refine Fin.val rfl ?_;(try simp only [AV.le,AV.leL]))
    all_goals first|rfl|(simp;done)
end Go.Sym.B
namespace Go.Sym.B
open Go Go.Sym Go.Proofs Go.Sym.C
theorem takeI (l:List (List Int)) {k:Nat} (h:k < l.length):(l.take k).map eInts++[[.sl ((l.getD k []).map eInt)]]=(l.take (k+1)).map eInts:=by
  rw [List.take_succ_eq_append_getElem h,List.map_append];simp [List.getD_eq_getElem?_getD,h,eInts]
theorem takeS (l:List (List Sh)) {k:Nat} (h:k < l.length):(l.take k).map eShs++[[.sl ((l.getD k []).map eSh)]]=(l.take (k+1)).map eShs:=by
  rw [List.take_succ_eq_append_getElem h,List.map_append];simp [List.getD_eq_getElem?_getD,h,eShs]
def crT (l:List (List Int)) (k:Nat):St:={ t:=asg [(0,aIntss l),(2,.nil),(3,.row 0),(4,aI k)],h:=hasg [(0,.row 22 1 ((l.take k).map eInts))],n:=1 }
def tbH6_104:=vk @ty3 (vk @ty22 (vk @ty28 (vk @ti3.eq_1 (vk @ti22.eq_1 @ti28.eq_1))))
def xbH6_1:=vk @aI.eq_1 (vk @aB.eq_1 (vk @aInts.eq_1 (vk @aIntss.eq_1 (vk @crT.eq_1 (vk @c23.eq_1 (vk @c23.eq_2 (vk @gInts (vk @eInts.eq_1 (vk @mInt (vk @rInts (@rInt)))))))))))
theorem copyRows_fn (l:List (List Int)) (hl:l.length≤20) (hp:∀ p ∈ l,p.length≤100000):FnV Try.prog 104 [aIntss l] (aIntss l):=by
  have env:Env (fun _=>True) Try.prog tyB (tab [(23,valE false c23)]):=mkEnv ⟨d23,trivial⟩
  refine Fn.of (A:=fun _=>True) (n0:=0) (D:=noD) (Fn0 Try.func104 rfl (fun vs w=>by kernel_rfl) (by kernel_rfl)) (by simp) (by simp [AV.ids,AV.idsL,aIntss]) (fun i o h=>by cases h) (fun _ _ _ _=>trivial) noD_ok ?_
  have q5:=tmax
  repeat' (first|(apply nx;with_reducible constructor)|refine uq (by decide) ?_|((first|refine vz env fun Q hQ=>?_|refine vj fun Q hQ=>?_);simp only [vkt,seval,tbH6_104,xbH6_1];(try simp only [ite_and]);(repeat' (first|with_reducible assumption|refine And.intro ?_ ?_|intro hp));all_goals (first|(refine hQ _ ?_;clear hQ Q)|(refine hQ _ (fun h=>?_) (fun h=>?_) <;> clear hQ Q <;> (try simp only [vki,reduceCtorEq] at h))|omega|assumption|with_reducible rfl|(refine vq ?_;kernel_rfl)|skip)))
  refine sym_loop (fun k:{ k:Nat // k≤l.length }=>crT l k.1) (fun k=>l.length - k.1) ⟨0,Nat.zero_le _⟩ ?_ fun ⟨k,hk⟩=>?_
  · (refine Le.ok (fun _=>none) [] ?_;constructor;all_goals (try simp only [vle,vkt,seval,tbH6_104,xbH6_1]))
    all_goals first|rfl|(simp;done)
  · repeat' (first|(apply nx;with_reducible constructor)|refine uq (by decide) ?_)
    (refine vz env fun Q hQ=>?_;simp only [vkt,seval,tbH6_104,xbH6_1];(try simp only [ite_and]);(repeat' (first|with_reducible assumption|refine And.intro ?_ ?_|intro hp));all_goals (first|(refine hQ _ ?_;clear hQ Q)|omega|assumption|with_reducible rfl|(refine vq ?_;kernel_rfl)|skip))
    repeat' (first|(apply nx;with_reducible constructor)|refine uq (by decide) ?_)
    (refine sym_cd (by simp only [vkt,seval,tbH6_104,xbH6_1];rfl) (fun h=>?_) (fun h=>?_) <;> (try simp only [vki,reduceCtorEq] at h))
    · have hlt:k < l.length:=by omega
      have e9:=wrap_succ hlt (show l.length≤maxLen by omega)
      have hpl:=hp _ (gMem (d:=[]) hlt)
      have e4:=takeI l hlt
      have hk2:(l.take k).length=k:=by rw [List.length_take];omega
      obtain ⟨p,hP⟩:∃ p,l.getD k []=p:=⟨_,rfl⟩
      rw [hP] at e4 hpl
      have m1:(k+1) * 24≤140737488355328∧k+1≤maxLen:=by omega
      repeat' (first|(apply nx;with_reducible constructor)|refine uq (by decide) ?_|((first|refine vz env fun Q hQ=>?_|refine vj fun Q hQ=>?_);simp only [vkt,seval,tbH6_104,xbH6_1,hP,e4,e9,hk2];(try simp only [ite_and]);(repeat' (first|with_reducible assumption|refine And.intro ?_ ?_|intro hp));all_goals (first|(refine hQ _ ?_;clear hQ Q)|(refine hQ _ (fun h=>?_) (fun h=>?_) <;> clear hQ Q <;> (try simp only [vki,reduceCtorEq] at h))|omega|assumption|with_reducible rfl|(refine vq ?_;kernel_rfl)|skip)))
      refine ⟨⟨k+1,hlt⟩,by show l.length - (k+1) < l.length - k;omega,?_⟩
      (refine Le.ok (fun j=>if j=0 then some 2 else some j) [] ?_;constructor;all_goals (try simp only [vle,vkt,seval,tbH6_104,xbH6_1]))
      all_goals first|rfl|(simp;done)
    · have hkn:k=l.length:=by omega
      subst hkn
      repeat' (first|(apply nx;with_reducible constructor)|refine uq (by decide) ?_|((first|refine vz env fun Q hQ=>?_|refine vj fun Q hQ=>?_);simp only [vkt,seval,tbH6_104,xbH6_1];(try simp only [ite_and]);(repeat' (first|with_reducible assumption|refine And.intro ?_ ?_|intro hp));all_goals (first|(refine hQ _ ?_;clear hQ Q)|(refine hQ _ (fun h=>?_) (fun h=>?_) <;> clear hQ Q <;> (try simp only [vki,reduceCtorEq] at h))|omega|assumption|with_reducible rfl|(refine vq ?_;kernel_rfl)|skip)))
      (simp only [vrt,Try.results104,vkt,seval,tbH6_104,xbH6_1];refine Fin.val rfl ?_;(try simp only [AV.le,AV.leL]))
      all_goals first|(rw [List.take_length];exact ⟨_,_,rfl⟩)
def c104:List AV→Prop × AV
  |[.sl xs]=>(xs=(xs.map dInts).map eInts∧xs.length≤20∧∀ p ∈ xs.map dInts,p.length≤100000,.sl xs)
  |_=>(False,.junk)
theorem d104 {A:Frm→Prop}:EntryOK A Try.prog 104 (valE false c104):=valE_ok fun vs hv h=>by
  clear hv
  unfold c104 at h ⊢
  split at h
  · refine ⟨trivial,fun h=>absurd h (by decide),?_⟩
    have:=copyRows_fn (List.map dInts _) (by rw [List.length_map];exact h.2.1) h.2.2
    simp only [aIntss,← h.1] at this
    exact this
  · exact h.elim
def clT (l:Led) (k:Nat):St:={ t:=asg [(1,.ptr 0 0),(2,.ptr 1 0),(3,.sl (l.rates.map eShs)),(4,aI k)],h:=hasg [(0,.cells [.sl (l.coins.map eInts),.row 2,.sl (l.start.map eInt),.sl (l.entries.map eEnt)]),(1,.cells [.nil,.nil,.nil,.nil]),(2,.row 55 1 ((l.rates.take k).map eShs))],n:=3 }
theorem Fit.csl {l:Led} (h:Fit l):∀ p ∈ l.coins,p.length≤100000:=fun p hp=>by have:=h.cs p hp;omega
end Go.Sym.B
namespace Go.Sym.B
open Go Go.Sym Go.Proofs Go.Sym.C
def largeB (l:Led):Bool:=(List.range (min l.coins.length 20)).any (fun j=>decide (20 < (l.coins.getD j []).length)) || ((List.range (min l.rates.length 20)).any (fun j=>decide (20 < (l.rates.getD j []).length)) || (decide (20 < l.coins.length) || (decide (20 < l.rates.length) || (decide (20 < l.start.length) || decide (20 < l.entries.length)))))
theorem anyR {n:Nat} {f:Nat→Nat} {k:Nat} (h:k < n) (h2:k < 20) (hf:20 < f k):(List.range (min n 20)).any (fun j=>decide (20 < f j))=true:=by
  rw [List.any_eq_true]
  exact ⟨k,List.mem_range.2 (by omega),by simpa using hf⟩
theorem anyN {n:Nat} {f:Nat→Nat} (h:∀ j,j < n→j < 20→f j≤20):(List.range (min n 20)).any (fun j=>decide (20 < f j))=false:=by
  rw [List.any_eq_false]
  intro j hj
  have:=List.mem_range.1 hj
  have:=h j (by omega) (by omega)
  simpa using this
theorem fit_of {l:Led} (h:largeB l=false):Fit l:=by
  unfold largeB at h
  simp only [Bool.or_eq_false_iff,decide_eq_false_iff_not,Nat.not_lt,List.any_eq_false,List.mem_range,decide_eq_true_eq] at h
  obtain ⟨h1,h2,h3,h4,h5,h6⟩:=h
  refine ⟨h3,fun p hp=>?_,h4,fun p hp=>?_,h5,h6⟩
  · obtain ⟨j,hj,rfl⟩:=List.getElem_of_mem hp
    have:=h1 j (by omega)
    simpa [List.getD_eq_getElem?_getD,hj] using this
  · obtain ⟨j,hj,rfl⟩:=List.getElem_of_mem hp
    have:=h2 j (by omega)
    simpa [List.getD_eq_getElem?_getD,hj] using this
def laT1 (l:Led) (k:Nat):St:={ t:=asg [(1,.ptr 0 0),(2,aB false),(3,aI k)],h:=hasg [(0,.cells (cLed l))],n:=1 }
def laT2 (l:Led) (k:Nat):St:={ t:=asg [(1,.ptr 0 0),(2,aB false),(4,aI k)],h:=hasg [(0,.cells (cLed l))],n:=1 }
def tbJ1_44:=vk @ty3 (vk @ty22 (vk @ty28 (vk @ty35 (vk @ty36 (vk @ty38 (vk @ty48 (vk @ty55 (vk @ty59 (vk @ti3.eq_1 (vk @ti22.eq_1 (vk @ti28.eq_1 (vk @ti35.eq_1 (vk @ti36.eq_1 (vk @ti38.eq_1 (vk @ti48.eq_1 (vk @ti55.eq_1 @ti59.eq_1))))))))))))))))
def xbJ1_1:=vk @aI.eq_1 (vk @aB.eq_1 (vk @aLed.eq_1 (vk @cLed.eq_1 (vk @laT1.eq_1 (vk @laT2.eq_1 (vk @gInts (vk @eInts.eq_1 (vk @gShs (@eShs.eq_1)))))))))
set_option maxHeartbeats 4000000 in
theorem large_fn (l:Led):FnV Try.prog 44 [aLed l] (aB (largeB l)):=by
  have env:Env (fun _=>True) Try.prog tyB (tab []):=mkEnv trivial
  refine Fn.of (A:=fun _=>True) (n0:=0) (D:=noD) (Fn0 Try.func44 rfl (fun vs w=>by kernel_rfl) (by kernel_rfl)) (by simp) (by simp [AV.ids,AV.idsL,aLed,cLed]) (fun i o h=>by cases h) (fun _ _ _ _=>trivial) noD_ok ?_
  repeat' (first|(apply nx;with_reducible constructor)|refine uq (by decide) ?_|((first|refine vz env fun Q hQ=>?_|refine vj fun Q hQ=>?_);simp only [vkt,seval,tbJ1_44,xbJ1_1];(try simp only [ite_and]);(repeat' (first|with_reducible assumption|refine And.intro ?_ ?_|intro hp));all_goals (first|(refine hQ _ ?_;clear hQ Q)|(refine hQ _ (fun h=>?_) (fun h=>?_) <;> clear hQ Q <;> (try simp only [vki,reduceCtorEq] at h))|omega|assumption|with_reducible rfl|(refine vq ?_;kernel_rfl)|skip)))
  refine sym_loop (fun k:{ k:Nat // k≤l.coins.length∧k≤20∧∀ j,j < k→(l.coins.getD j []).length≤20 }=>laT1 l k.1) (fun k=>20 - k.1) ⟨0,Nat.zero_le _,Nat.zero_le _,fun j h=>by omega⟩ ?_ fun ⟨k,hk,hk2,hall⟩=>?_
  · (refine Le.ok some [] ?_;constructor;all_goals (try simp only [vle,vkt,seval,tbJ1_44,xbJ1_1]))
    all_goals first|rfl|(simp;done)
  by_cases c1:k < l.coins.length∧k < 20
  · have k1:decide ((k:Int) < (l.coins.length:Int))=true:=decide_eq_true (by omega)
    have k2:decide ((k:Int) < 20)=true:=decide_eq_true (by omega)
    have e9:=wrap64 (n:=(k:Int)+1) (by omega) (by omega)
    by_cases c2:20 < (l.coins.getD k []).length
    · have k3:decide ((20:Int) < ((l.coins.getD k []).length:Int))=true:=decide_eq_true (by omega)
      repeat' (first|(apply nx;with_reducible constructor)|refine uq (by decide) ?_|((first|refine vz env fun Q hQ=>?_|refine vj fun Q hQ=>?_);simp only [vkt,seval,tbJ1_44,xbJ1_1,k1,k2,k3];(try simp only [ite_and]);(repeat' (first|with_reducible assumption|refine And.intro ?_ ?_|intro hp));all_goals (first|(refine hQ _ ?_;clear hQ Q)|(refine hQ _ (fun h=>?_) (fun h=>?_) <;> clear hQ Q <;> (try simp only [vki,reduceCtorEq] at h))|omega|assumption|with_reducible rfl|(refine vq ?_;kernel_rfl)|skip)))
      (simp only [vrt,Try.results44,vkt,seval,tbJ1_44,xbJ1_1];refine Fin.val rfl ?_;(try simp only [AV.le,AV.leL]))
      all_goals first|(rw [largeB,anyR (f:=fun j=>(l.coins.getD j []).length) c1.1 c1.2 c2];rfl)
    · have k3:decide ((20:Int) < ((l.coins.getD k []).length:Int))=false:=decide_eq_false (by omega)
      repeat' (first|(apply nx;with_reducible constructor)|refine uq (by decide) ?_|((first|refine vz env fun Q hQ=>?_|refine vj fun Q hQ=>?_);simp only [vkt,seval,tbJ1_44,xbJ1_1,k1,k2,k3,e9];(try simp only [ite_and]);(repeat' (first|with_reducible assumption|refine And.intro ?_ ?_|intro hp));all_goals (first|(refine hQ _ ?_;clear hQ Q)|(refine hQ _ (fun h=>?_) (fun h=>?_) <;> clear hQ Q <;> (try simp only [vki,reduceCtorEq] at h))|omega|assumption|with_reducible rfl|(refine vq ?_;kernel_rfl)|skip)))
      refine ⟨⟨k+1,by omega,by omega,fun j hj=>?_⟩,by show 20 - (k+1) < 20 - k;omega,?_⟩
      · rcases Nat.lt_or_eq_of_le (Nat.le_of_lt_succ hj) with h|h
        · exact hall j h
        · rw [h];omega
      · (refine Le.ok some [] ?_;constructor;all_goals (try simp only [vle,vkt,seval,tbJ1_44,xbJ1_1]))
        all_goals first|rfl|(simp;done)
  have a1:(List.range (min l.coins.length 20)).any (fun j=>decide (20 < (l.coins.getD j []).length))=false:=anyN (f:=fun j=>(l.coins.getD j []).length) fun j h1 h2=>hall j (by omega)
  have hd:(decide ((k:Int) < (l.coins.length:Int))=true∧decide ((k:Int) < 20)=false)∨decide ((k:Int) < (l.coins.length:Int))=false:=by
    by_cases h:k < l.coins.length
    · exact .inl ⟨decide_eq_true (by omega),decide_eq_false (by omega)⟩
    · exact .inr (decide_eq_false (by omega))
  rcases hd with ⟨d1,d2⟩|d1
  rotate_left
  have d2:=d1
  all_goals
    repeat' (first|(apply nx;with_reducible constructor)|refine uq (by decide) ?_|((first|refine vz env fun Q hQ=>?_|refine vj fun Q hQ=>?_);simp only [vkt,seval,tbJ1_44,xbJ1_1,d1,d2];(try simp only [ite_and]);(repeat' (first|with_reducible assumption|refine And.intro ?_ ?_|intro hp));all_goals (first|(refine hQ _ ?_;clear hQ Q)|(refine hQ _ (fun h=>?_) (fun h=>?_) <;> clear hQ Q <;> (try simp only [vki,reduceCtorEq] at h))|omega|assumption|with_reducible rfl|(refine vq ?_;kernel_rfl)|skip)))
    refine sym_loop (fun k:{ k:Nat // k≤l.rates.length∧k≤20∧∀ j,j < k→(l.rates.getD j []).length≤20 }=>laT2 l k.1) (fun k=>20 - k.1) ⟨0,Nat.zero_le _,Nat.zero_le _,fun j h=>by omega⟩ ?_ fun ⟨k,hk,hk2,hall⟩=>?_
    · (refine Le.ok some [] ?_;constructor;all_goals (try simp only [vle,vkt,seval,tbJ1_44,xbJ1_1]))
      all_goals first|rfl|(simp;done)
    clear d1 d2
    by_cases c1:k < l.rates.length∧k < 20
    · have k1:decide ((k:Int) < (l.rates.length:Int))=true:=decide_eq_true (by omega)
      have k2:decide ((k:Int) < 20)=true:=decide_eq_true (by omega)
      have e9:=wrap64 (n:=(k:Int)+1) (by omega) (by omega)
      by_cases c2:20 < (l.rates.getD k []).length
      · have k3:decide ((20:Int) < ((l.rates.getD k []).length:Int))=true:=decide_eq_true (by omega)
        repeat' (first|(apply nx;with_reducible constructor)|refine uq (by decide) ?_|((first|refine vz env fun Q hQ=>?_|refine vj fun Q hQ=>?_);simp only [vkt,seval,tbJ1_44,xbJ1_1,k1,k2,k3];(try simp only [ite_and]);(repeat' (first|with_reducible assumption|refine And.intro ?_ ?_|intro hp));all_goals (first|(refine hQ _ ?_;clear hQ Q)|(refine hQ _ (fun h=>?_) (fun h=>?_) <;> clear hQ Q <;> (try simp only [vki,reduceCtorEq] at h))|omega|assumption|with_reducible rfl|(refine vq ?_;kernel_rfl)|skip)))
        (simp only [vrt,Try.results44,vkt,seval,tbJ1_44,xbJ1_1];refine Fin.val rfl ?_;(try simp only [AV.le,AV.leL]))
        all_goals first|(rw [largeB,a1,anyR (f:=fun j=>(l.rates.getD j []).length) c1.1 c1.2 c2];rfl)
      · have k3:decide ((20:Int) < ((l.rates.getD k []).length:Int))=false:=decide_eq_false (by omega)
        repeat' (first|(apply nx;with_reducible constructor)|refine uq (by decide) ?_|((first|refine vz env fun Q hQ=>?_|refine vj fun Q hQ=>?_);simp only [vkt,seval,tbJ1_44,xbJ1_1,k1,k2,k3,e9];(try simp only [ite_and]);(repeat' (first|with_reducible assumption|refine And.intro ?_ ?_|intro hp));all_goals (first|(refine hQ _ ?_;clear hQ Q)|(refine hQ _ (fun h=>?_) (fun h=>?_) <;> clear hQ Q <;> (try simp only [vki,reduceCtorEq] at h))|omega|assumption|with_reducible rfl|(refine vq ?_;kernel_rfl)|skip)))
        refine ⟨⟨k+1,by omega,by omega,fun j hj=>?_⟩,by show 20 - (k+1) < 20 - k;omega,?_⟩
        · rcases Nat.lt_or_eq_of_le (Nat.le_of_lt_succ hj) with h|h
          · exact hall j h
          · rw [h];omega
        · (refine Le.ok some [] ?_;constructor;all_goals (try simp only [vle,vkt,seval,tbJ1_44,xbJ1_1]))
          all_goals first|rfl|(simp;done)
    have a2:(List.range (min l.rates.length 20)).any (fun j=>decide (20 < (l.rates.getD j []).length))=false:=anyN (f:=fun j=>(l.rates.getD j []).length) fun j h1 h2=>hall j (by omega)
    have hd:(decide ((k:Int) < (l.rates.length:Int))=true∧decide ((k:Int) < 20)=false)∨decide ((k:Int) < (l.rates.length:Int))=false:=by
      by_cases h:k < l.rates.length
      · exact .inl ⟨decide_eq_true (by omega),decide_eq_false (by omega)⟩
      · exact .inr (decide_eq_false (by omega))
    have hB:largeB l=(decide (20 < l.coins.length) || (decide (20 < l.rates.length) || (decide (20 < l.start.length) || decide (20 < l.entries.length)))):=by rw [largeB,a1,a2];rfl
    rw [hB]
    have b1:decide ((20:Int) < (l.coins.length:Int))=decide (20 < l.coins.length):=decide_eq_decide.2 (by omega)
    have b2:decide ((20:Int) < (l.rates.length:Int))=decide (20 < l.rates.length):=decide_eq_decide.2 (by omega)
    have b3:decide ((20:Int) < (l.start.length:Int))=decide (20 < l.start.length):=decide_eq_decide.2 (by omega)
    have b4:decide ((20:Int) < (l.entries.length:Int))=decide (20 < l.entries.length):=decide_eq_decide.2 (by omega)
    generalize decide (20 < l.coins.length)=p1 at *
    generalize decide (20 < l.rates.length)=p2 at *
    generalize decide (20 < l.start.length)=p3 at *
    generalize decide (20 < l.entries.length)=p4 at *
    rcases hd with ⟨d1,d2⟩|d1
    rotate_left
    have d2:=d1
    all_goals
      cases p1 <;> cases p2 <;> cases p3
      all_goals
        repeat' (first|(apply nx;with_reducible constructor)|refine uq (by decide) ?_|((first|refine vz env fun Q hQ=>?_|refine vj fun Q hQ=>?_);simp only [vkt,seval,tbJ1_44,xbJ1_1,d1,d2,b1,b2,b3,b4];(try simp only [ite_and]);(repeat' (first|with_reducible assumption|refine And.intro ?_ ?_|intro hp));all_goals (first|(refine hQ _ ?_;clear hQ Q)|(refine hQ _ (fun h=>?_) (fun h=>?_) <;> clear hQ Q <;> (try simp only [vki,reduceCtorEq] at h))|omega|assumption|with_reducible rfl|(refine vq ?_;kernel_rfl)|skip)))
        (simp only [vrt,Try.results44,vkt,seval,tbJ1_44,xbJ1_1];refine Fin.val rfl ?_;(try simp only [AV.le,AV.leL]))
        all_goals first|rfl|(simp;done)
def c44:List AV→Prop × AV
  |[.agg [.sl cs,.sl rs,.sl ss,.sl es]]=>(isL cs rs ss es,aB (largeB (ldOf cs rs ss es)))
  |_=>(False,.junk)
theorem d44 {A:Frm→Prop}:EntryOK A Try.prog 44 (valE true c44):=valE_ok fun vs hv h=>by
  clear hv
  unfold c44 at h ⊢
  split at h
  · refine ⟨by simp [AV.plain,aB],fun _=>by simp [AV.flat,aB],?_⟩
    rw [← aLed_of h];exact large_fn _
  · exact h.elim
end Go.Sym.B
namespace Go.Sym.B
open Go Go.Sym Go.Proofs Go.Sym.C
def tbJ2_43:=vk @ty3 (vk @ty22 (vk @ty28 (vk @ty35 (vk @ty36 (vk @ty38 (vk @ty48 (vk @ty55 (vk @ty59 (vk @ti3.eq_1 (vk @ti22.eq_1 (vk @ti28.eq_1 (vk @ti35.eq_1 (vk @ti36.eq_1 (vk @ti38.eq_1 (vk @ti48.eq_1 (vk @ti55.eq_1 @ti59.eq_1))))))))))))))))
def xbJ2_1:=vk @aI.eq_1 (vk @aB.eq_1 (vk @aLed.eq_1 (vk @cLed.eq_1 (vk @clT.eq_1 (vk @c23.eq_1 (vk @c23.eq_2 (vk @c104.eq_1 (vk @c104.eq_2 (vk @gInts (vk @eInts.eq_1 (vk @gShs (vk @eShs.eq_1 (vk @mInt (vk @mInts (vk @rInts (vk @rInt (vk @rShs (vk @rSh (@rEnt)))))))))))))))))))
set_option maxHeartbeats 4000000 in
theorem copyLedV_fn (l:Led) (hl:Fit l):FnV Try.prog 43 [aLed l] (aLed l):=by
  have env:Env (fun _=>True) Try.prog tyB (tab [(23,valE false c23),(104,valE false c104)]):=mkEnv ⟨d23,d104,trivial⟩
  refine Fn.of (A:=fun _=>True) (n0:=0) (D:=noD) (Fn0 Try.func43 rfl (fun vs w=>by kernel_rfl) (by kernel_rfl)) (by simp) (by simp [AV.ids,AV.idsL,aLed,cLed]) (fun i o h=>by cases h) (fun _ _ _ _=>trivial) noD_ok ?_
  have q1:=hl.c
  have q2:=hl.r
  have q3:=hl.e
  have q4:l.start.length≤100000:=by have:=hl.s;omega
  have q5:=tmax
  have q6:=hl.csl
  have m0:l.entries.length * 48≤140737488355328∧l.entries.length≤maxLen:=by omega
  repeat' (first|(apply nx;with_reducible constructor)|refine uq (by decide) ?_|((first|refine vz env fun Q hQ=>?_|refine vj fun Q hQ=>?_);simp only [vkt,seval,tbJ2_43,xbJ2_1];(try simp only [ite_and]);(repeat' (first|with_reducible assumption|refine And.intro ?_ ?_|intro hp));all_goals (first|(refine hQ _ ?_;clear hQ Q)|(refine hQ _ (fun h=>?_) (fun h=>?_) <;> clear hQ Q <;> (try simp only [vki,reduceCtorEq] at h))|omega|assumption|with_reducible rfl|(refine vq ?_;kernel_rfl)|skip)))
  refine sym_loop (fun k:{ k:Nat // k≤l.rates.length }=>clT l k.1) (fun k=>l.rates.length - k.1) ⟨0,Nat.zero_le _⟩ ?_ fun ⟨k,hk⟩=>?_
  · (refine Le.ok (fun j=>if j=2 then none else some j) [] ?_;constructor;all_goals (try simp only [vle,vkt,seval,tbJ2_43,xbJ2_1]))
    all_goals first|rfl|(simp;done)
  · repeat' (first|(apply nx;with_reducible constructor)|refine uq (by decide) ?_)
    (refine vz env fun Q hQ=>?_;simp only [vkt,seval,tbJ2_43,xbJ2_1];(try simp only [ite_and]);(repeat' (first|with_reducible assumption|refine And.intro ?_ ?_|intro hp));all_goals (first|(refine hQ _ ?_;clear hQ Q)|omega|assumption|with_reducible rfl|(refine vq ?_;kernel_rfl)|skip))
    repeat' (first|(apply nx;with_reducible constructor)|refine uq (by decide) ?_)
    (refine sym_cd (by simp only [vkt,seval,tbJ2_43,xbJ2_1];rfl) (fun h=>?_) (fun h=>?_) <;> (try simp only [vki,reduceCtorEq] at h))
    · have hlt:k < l.rates.length:=by omega
      have e9:=wrap_succ hlt (show l.rates.length≤maxLen by omega)
      have hpl:=hl.rs _ (gMem (d:=[]) hlt)
      have e4:=takeS l.rates hlt
      have hk2:(l.rates.take k).length=k:=by rw [List.length_take];omega
      obtain ⟨p,hP⟩:∃ p,l.rates.getD k []=p:=⟨_,rfl⟩
      rw [hP] at e4 hpl
      have m1:(k+1) * 24≤140737488355328∧k+1≤maxLen:=by omega
      have m2:p.length * 16≤140737488355328∧p.length≤maxLen:=by omega
      repeat' (first|(apply nx;with_reducible constructor)|refine uq (by decide) ?_|((first|refine vz env fun Q hQ=>?_|refine vj fun Q hQ=>?_);simp only [vkt,seval,tbJ2_43,xbJ2_1,hP,e4,e9,hk2];(try simp only [ite_and]);(repeat' (first|with_reducible assumption|refine And.intro ?_ ?_|intro hp));all_goals (first|(refine hQ _ ?_;clear hQ Q)|(refine hQ _ (fun h=>?_) (fun h=>?_) <;> clear hQ Q <;> (try simp only [vki,reduceCtorEq] at h))|omega|assumption|with_reducible rfl|(refine vq ?_;kernel_rfl)|skip)))
      refine ⟨⟨k+1,hlt⟩,by show l.rates.length - (k+1) < l.rates.length - k;omega,?_⟩
      (refine Le.ok (fun j=>if j=2 then some 5 else some j) [] ?_;constructor;all_goals (try simp only [vle,vkt,seval,tbJ2_43,xbJ2_1]))
      all_goals first|rfl|(simp;done)
    · have hkn:k=l.rates.length:=by omega
      subst hkn
      repeat' (first|(apply nx;with_reducible constructor)|refine uq (by decide) ?_|((first|refine vz env fun Q hQ=>?_|refine vj fun Q hQ=>?_);simp only [vkt,seval,tbJ2_43,xbJ2_1,List.take_length];(try simp only [ite_and]);(repeat' (first|with_reducible assumption|refine And.intro ?_ ?_|intro hp));all_goals (first|(refine hQ _ ?_;clear hQ Q)|(refine hQ _ (fun h=>?_) (fun h=>?_) <;> clear hQ Q <;> (try simp only [vki,reduceCtorEq] at h))|omega|assumption|with_reducible rfl|(refine vq ?_;kernel_rfl)|skip)))
      (simp only [vrt,Try.results43,vkt,seval,tbJ2_43,xbJ2_1];refine Fin.val rfl ?_;(try simp only [AV.le,AV.leL]))
      all_goals first|rfl|(simp;done)|exact ⟨trivial,⟨_,_,rfl⟩,trivial,⟨_,_,rfl⟩,trivial⟩|exact ⟨trivial,⟨_,_,rfl⟩,trivial,⟨_,_,rfl⟩⟩|exact ⟨rfl,⟨_,_,rfl⟩,rfl,⟨_,_,rfl⟩,trivial⟩|exact ⟨⟨_,_,rfl⟩,⟨_,_,rfl⟩⟩
def c43:List AV→Prop × AV
  |[.agg [.sl cs,.sl rs,.sl ss,.sl es]]=>(isL cs rs ss es∧Fit (ldOf cs rs ss es),aLed (ldOf cs rs ss es))
  |_=>(False,.junk)
theorem d43 {A:Frm→Prop}:EntryOK A Try.prog 43 (valE false c43):=valE_ok fun vs hv h=>by
  clear hv
  unfold c43 at h ⊢
  split at h
  · refine ⟨by simp [AV.plain,AV.plainL,aLed,cLed],fun h=>absurd h (by decide),?_⟩
    have:=copyLedV_fn _ h.2
    rw [aLed_of h.1] at this ⊢
    exact this
  · exact h.elim
def esT (r:List Sh) (k:Nat):St:={ t:=asg [(0,aShs r),(1,aShs r),(4,aB false),(5,aI k)],h:=hasg [],n:=0 }
def tbJ2_57:=vk @ty3 (vk @ty55 (vk @ty59 (vk @ti3.eq_1 (vk @ti55.eq_1 @ti59.eq_1))))
def xbJ2_3:=vk @aI.eq_1 (vk @aB.eq_1 (vk @aShs.eq_1 (vk @esT.eq_1 (vk @gSh (@eSh.eq_1)))))
theorem eqShs_fn (r:List Sh) (hl:r.length≤maxLen):FnV Try.prog 57 [aShs r,aShs r] (aB true):=by
  have env:Env (fun _=>True) Try.prog tyB (tab []):=mkEnv trivial
  refine Fn.of (A:=fun _=>True) (n0:=0) (D:=noD) (Fn0 Try.func57 rfl (fun vs w=>by kernel_rfl) (by kernel_rfl)) (by simp) (by simp [AV.ids,AV.idsL,aShs]) (fun i o h=>by cases h) (fun _ _ _ _=>trivial) noD_ok ?_
  have zn:∀ n:Int,decide (n=n)=true:=fun n=>decide_eq_true rfl
  repeat' (first|(apply nx;with_reducible constructor)|refine uq (by decide) ?_|((first|refine vz env fun Q hQ=>?_|refine vj fun Q hQ=>?_);simp only [vkt,seval,tbJ2_57,xbJ2_3,zn];(try simp only [ite_and]);(repeat' (first|with_reducible assumption|refine And.intro ?_ ?_|intro hp));all_goals (first|(refine hQ _ ?_;clear hQ Q)|(refine hQ _ (fun h=>?_) (fun h=>?_) <;> clear hQ Q <;> (try simp only [vki,reduceCtorEq] at h))|omega|assumption|with_reducible rfl|(refine vq ?_;kernel_rfl)|skip)))
  refine sym_loop (fun k:{ k:Nat // k≤r.length }=>esT r k.1) (fun k=>r.length - k.1) ⟨0,Nat.zero_le _⟩ ?_ fun ⟨k,hk⟩=>?_
  · (refine Le.ok some [] ?_;constructor;all_goals (try simp only [vle,vkt,seval,tbJ2_57,xbJ2_3]))
    all_goals first|rfl|(simp;done)
  · by_cases hlt:k < r.length
    · have d1:decide ((k:Int) < (r.length:Int))=true:=decide_eq_true (by omega)
      have e9:=wrap_succ hlt hl
      repeat' (first|(apply nx;with_reducible constructor)|refine uq (by decide) ?_|((first|refine vz env fun Q hQ=>?_|refine vj fun Q hQ=>?_);simp only [vkt,seval,tbJ2_57,xbJ2_3,d1,e9,zn];(try simp only [ite_and]);(repeat' (first|with_reducible assumption|refine And.intro ?_ ?_|intro hp));all_goals (first|(refine hQ _ ?_;clear hQ Q)|(refine hQ _ (fun h=>?_) (fun h=>?_) <;> clear hQ Q <;> (try simp only [vki,reduceCtorEq] at h))|omega|assumption|with_reducible rfl|(refine vq ?_;kernel_rfl)|skip)))
      refine ⟨⟨k+1,hlt⟩,by show r.length - (k+1) < r.length - k;omega,?_⟩
      (refine Le.ok some [] ?_;constructor;all_goals (try simp only [vle,vkt,seval,tbJ2_57,xbJ2_3]))
      all_goals first|rfl|(simp;done)
    · have d1:decide ((k:Int) < (r.length:Int))=false:=decide_eq_false (by omega)
      repeat' (first|(apply nx;with_reducible constructor)|refine uq (by decide) ?_|((first|refine vz env fun Q hQ=>?_|refine vj fun Q hQ=>?_);simp only [vkt,seval,tbJ2_57,xbJ2_3,d1];(try simp only [ite_and]);(repeat' (first|with_reducible assumption|refine And.intro ?_ ?_|intro hp));all_goals (first|(refine hQ _ ?_;clear hQ Q)|(refine hQ _ (fun h=>?_) (fun h=>?_) <;> clear hQ Q <;> (try simp only [vki,reduceCtorEq] at h))|omega|assumption|with_reducible rfl|(refine vq ?_;kernel_rfl)|skip)))
      (simp only [vrt,Try.results57,vkt,seval,tbJ2_57,xbJ2_3];refine Fin.val rfl ?_;(try simp only [AV.le,AV.leL]))
      all_goals first|rfl|(simp;done)
def c57:List AV→Prop × AV
  |[.sl xs,.sl ys]=>(ys=xs∧xs=(xs.map dSh).map eSh∧xs.length≤100000,aB true)
  |_=>(False,.junk)
theorem d57 {A:Frm→Prop}:EntryOK A Try.prog 57 (valE true c57):=valE_ok fun vs hv h=>by
  clear hv
  unfold c57 at h ⊢
  split at h
  · rename_i xs ys
    obtain ⟨h1,h2,h3⟩:=h
    refine ⟨by simp [AV.plain,aB],fun _=>by simp [AV.flat,aB],?_⟩
    have := eqShs_fn (xs.map dSh) (by rw [List.length_map]; have : (100000 : Nat) ≤ maxLen := by decide
                                      omega)
    simp only [aShs,← h2] at this
    rw [h1];exact this
  · exact h.elim
def elT1 (l:Led) (k:Nat):St:={ t:=asg [(2,.ptr 0 0),(3,.ptr 1 0),(4,aB false),(5,aI k)],h:=hasg [(0,.cells (cLed l)),(1,.cells (cLed l))],n:=2 }
def elT2 (l:Led) (k:Nat):St:={ t:=asg [(2,.ptr 0 0),(3,.ptr 1 0),(4,aB false),(6,aI k)],h:=hasg [(0,.cells (cLed l)),(1,.cells (cLed l))],n:=2 }
def tbJ2_52:=vk @ty3 (vk @ty22 (vk @ty28 (vk @ty35 (vk @ty36 (vk @ty38 (vk @ty48 (vk @ty55 (vk @ty59 (vk @ti3.eq_1 (vk @ti22.eq_1 (vk @ti28.eq_1 (vk @ti35.eq_1 (vk @ti36.eq_1 (vk @ti38.eq_1 (vk @ti48.eq_1 (vk @ti55.eq_1 @ti59.eq_1))))))))))))))))
def xbJ2_4:=vk @aI.eq_1 (vk @aB.eq_1 (vk @aLed.eq_1 (vk @cLed.eq_1 (vk @elT1.eq_1 (vk @elT2.eq_1 (vk @s36.eq_1 (vk @s36.eq_2 (vk @s26.eq_1 (vk @s26.eq_2 (vk @c57.eq_1 (vk @c57.eq_2 (vk @gShs (vk @eShs.eq_1 (vk @gEnt (vk @eEnt.eq_1 (vk @mInt (vk @mInts (@mSh))))))))))))))))))
theorem eqLed_fn (l:Led) (hl:Fit l):FnV Try.prog 52 [aLed l,aLed l] (aB true):=by
  have env:Env (fun _=>True) Try.prog tyB (tab [(36,valE true s36),(26,valE true s26),(57,valE true c57)]):=mkEnv ⟨d36,e26,d57,trivial⟩
  refine Fn.of (A:=fun _=>True) (n0:=0) (D:=noD) (Fn0 Try.func52 rfl (fun vs w=>by kernel_rfl) (by kernel_rfl)) (by simp) (by simp [AV.ids,AV.idsL,aLed,cLed]) (fun i o h=>by cases h) (fun _ _ _ _=>trivial) noD_ok ?_
  have zn:∀ n:Int,decide (n=n)=true:=fun n=>decide_eq_true rfl
  have zl:∀ p:List (List Int),decide (p=p)=true:=fun n=>decide_eq_true rfl
  have zi:∀ p:List Int,decide (p=p)=true:=fun n=>decide_eq_true rfl
  have q1:=hl.c
  have q2:=hl.r
  have q3:=hl.e
  have q4:=hl.s
  have q5:=tmax
  have q6:=hl.csl
  have q7:∀ p ∈ l.coins,p.length≤maxLen:=fun p hp=>by have:=hl.cs p hp;omega
  repeat' (first|(apply nx;with_reducible constructor)|refine uq (by decide) ?_|((first|refine vz env fun Q hQ=>?_|refine vj fun Q hQ=>?_);simp only [vkt,seval,tbJ2_52,xbJ2_4,zn,zl,zi];(try simp only [ite_and]);(repeat' (first|with_reducible assumption|refine And.intro ?_ ?_|intro hp));all_goals (first|(refine hQ _ ?_;clear hQ Q)|(refine hQ _ (fun h=>?_) (fun h=>?_) <;> clear hQ Q <;> (try simp only [vki,reduceCtorEq] at h))|omega|assumption|with_reducible rfl|(refine vq ?_;kernel_rfl)|skip)))
  all_goals first|(refine sym_loop (fun k:{ k:Nat // k≤l.rates.length }=>elT1 l k.1) (fun k=>l.rates.length - k.1) ⟨0,Nat.zero_le _⟩ ?_ fun ⟨k,hk⟩=>?_)
  · (refine Le.ok some [] ?_;constructor;all_goals (try simp only [vle,vkt,seval,tbJ2_52,xbJ2_4]))
    all_goals first|rfl|(simp;done)
  · by_cases hlt:k < l.rates.length
    · have d1:decide ((k:Int) < (l.rates.length:Int))=true:=decide_eq_true (by omega)
      have e9:=wrap_succ hlt (show l.rates.length≤maxLen by omega)
      have hpl:=hl.rs _ (gMem (d:=[]) hlt)
      have hp2:(l.rates.getD k []).length≤100000:=by omega
      repeat' (first|(apply nx;with_reducible constructor)|refine uq (by decide) ?_|((first|refine vz env fun Q hQ=>?_|refine vj fun Q hQ=>?_);simp only [vkt,seval,tbJ2_52,xbJ2_4,d1,e9,zn];(try simp only [ite_and]);(repeat' (first|with_reducible assumption|refine And.intro ?_ ?_|intro hp));all_goals (first|(refine hQ _ ?_;clear hQ Q)|(refine hQ _ (fun h=>?_) (fun h=>?_) <;> clear hQ Q <;> (try simp only [vki,reduceCtorEq] at h))|omega|assumption|with_reducible rfl|(refine vq ?_;kernel_rfl)|skip)))
      refine ⟨⟨k+1,hlt⟩,by show l.rates.length - (k+1) < l.rates.length - k;omega,?_⟩
      (refine Le.ok some [] ?_;constructor;all_goals (try simp only [vle,vkt,seval,tbJ2_52,xbJ2_4]))
      all_goals first|rfl|(simp;done)
    · have d1:decide ((k:Int) < (l.rates.length:Int))=false:=decide_eq_false (by omega)
      repeat' (first|(apply nx;with_reducible constructor)|refine uq (by decide) ?_|((first|refine vz env fun Q hQ=>?_|refine vj fun Q hQ=>?_);simp only [vkt,seval,tbJ2_52,xbJ2_4,d1];(try simp only [ite_and]);(repeat' (first|with_reducible assumption|refine And.intro ?_ ?_|intro hp));all_goals (first|(refine hQ _ ?_;clear hQ Q)|(refine hQ _ (fun h=>?_) (fun h=>?_) <;> clear hQ Q <;> (try simp only [vki,reduceCtorEq] at h))|omega|assumption|with_reducible rfl|(refine vq ?_;kernel_rfl)|skip)))
      refine sym_loop (fun k:{ k:Nat // k≤l.entries.length }=>elT2 l k.1) (fun k=>l.entries.length - k.1) ⟨0,Nat.zero_le _⟩ ?_ fun ⟨k,hk⟩=>?_
      · (refine Le.ok some [] ?_;constructor;all_goals (try simp only [vle,vkt,seval,tbJ2_52,xbJ2_4]))
        all_goals first|rfl|(simp;done)
      · by_cases hlt:k < l.entries.length
        · have d2:decide ((k:Int) < (l.entries.length:Int))=true:=decide_eq_true (by omega)
          have e9:=wrap_succ hlt (show l.entries.length≤maxLen by omega)
          repeat' (first|(apply nx;with_reducible constructor)|refine uq (by decide) ?_|((first|refine vz env fun Q hQ=>?_|refine vj fun Q hQ=>?_);simp only [vkt,seval,tbJ2_52,xbJ2_4,d2,e9,zn];(try simp only [ite_and]);(repeat' (first|with_reducible assumption|refine And.intro ?_ ?_|intro hp));all_goals (first|(refine hQ _ ?_;clear hQ Q)|(refine hQ _ (fun h=>?_) (fun h=>?_) <;> clear hQ Q <;> (try simp only [vki,reduceCtorEq] at h))|omega|assumption|with_reducible rfl|(refine vq ?_;kernel_rfl)|skip)))
          refine ⟨⟨k+1,hlt⟩,by show l.entries.length - (k+1) < l.entries.length - k;omega,?_⟩
          (refine Le.ok some [] ?_;constructor;all_goals (try simp only [vle,vkt,seval,tbJ2_52,xbJ2_4]))
          all_goals first|rfl|(simp;done)
        · have d2:decide ((k:Int) < (l.entries.length:Int))=false:=decide_eq_false (by omega)
          repeat' (first|(apply nx;with_reducible constructor)|refine uq (by decide) ?_|((first|refine vz env fun Q hQ=>?_|refine vj fun Q hQ=>?_);simp only [vkt,seval,tbJ2_52,xbJ2_4,d2];(try simp only [ite_and]);(repeat' (first|with_reducible assumption|refine And.intro ?_ ?_|intro hp));all_goals (first|(refine hQ _ ?_;clear hQ Q)|(refine hQ _ (fun h=>?_) (fun h=>?_) <;> clear hQ Q <;> (try simp only [vki,reduceCtorEq] at h))|omega|assumption|with_reducible rfl|(refine vq ?_;kernel_rfl)|skip)))
          (simp only [vrt,Try.results52,vkt,seval,tbJ2_52,xbJ2_4];refine Fin.val rfl ?_;(try simp only [AV.le,AV.leL]))
          all_goals first|rfl|(simp;done)
def c52:List AV→Prop × AV
  |[.agg [.sl cs,.sl rs,.sl ss,.sl es],y]=>(y=.agg [.sl cs,.sl rs,.sl ss,.sl es]∧isL cs rs ss es∧Fit (ldOf cs rs ss es),aB true)
  |_=>(False,.junk)
theorem d52 {A:Frm→Prop}:EntryOK A Try.prog 52 (valE true c52):=valE_ok fun vs hv h=>by
  clear hv
  unfold c52 at h ⊢
  split at h
  · refine ⟨by simp [AV.plain,aB],fun _=>by simp [AV.flat,aB],?_⟩
    rw [h.1,← aLed_of h.2.1];exact eqLed_fn _ h.2.2
  · exact h.elim
end Go.Sym.B
namespace Go.Sym.B
open Go Go.Sym Go.Proofs Go.Sym.C
end Go.Sym.B
namespace Go.Sym.B
open Go Go.Sym Go.Proofs Go.Sym.C
end Go.Sym.B
namespace Go.Sym.B
open Go Go.Sym Go.Proofs Go.Sym.C
end Go.Sym.B
namespace Go.Sym.B
open Go Go.Sym Go.Proofs Go.Sym.C
end Go.Sym.B
namespace Go.Sym.B
open Go Go.Sym Go.Proofs Go.Sym.C
def stE (ss:List Int) (es:List Ent):Int × List Int:=es.foldl (fun s x=>(x.day,enterF s.2 x)) (0,ss)
def VE (l:Led):Prop:=∀ j,j < l.entries.length→eV l (l.entries.getD j default) (stE l.start (l.entries.take j)).1 (stE l.start (l.entries.take j)).2=0
structure EnV (cs:List (List Int)) (rs:List (List Sh)) (ss:List Int) (s:EnS):Prop where
  v:VE ⟨cs,rs,ss,s.es⟩
  t:(stE ss s.es).2=s.till
  d:(stE ss s.es).1≤s.day
theorem EnV.skip {cs:List (List Int)} {rs:List (List Sh)} {ss:List Int} {s:EnS} (h:EnV cs rs ss s) {d x:Int} (hd:s.day≤d):EnV cs rs ss ⟨d,s.till,s.es,x⟩ :=
  ⟨h.v,h.t,Int.le_trans h.d hd⟩
end Go.Sym.B
namespace Go.Sym.B
open Go Go.Sym Go.Proofs Go.Sym.C
end Go.Sym.B
namespace Go.Sym.B
open Go Go.Sym Go.Proofs Go.Sym.C
def eLed (l:Led):List DV:=[.sl (l.coins.map eInts),.sl (l.rates.map eShs),.sl (l.start.map eInt),.sl (l.entries.map eEnt)]
theorem gLed {l:List Led} {n:Nat} (h:n < l.length) (z:List DV):(l.map eLed).getD n z=eLed (l.getD n default):=by simp [List.getD_eq_getElem?_getD,h]
end Go.Sym.B
namespace Go.Sym.B
open Go Go.Sym Go.Proofs Go.Sym.C
theorem gIs0 {l:List (List Int)} {n:Nat} (h:n < l.length):(l.map eInts).getD n []=eInts (l.getD n []):=by simp [List.getD_eq_getElem?_getD,h]
theorem aPay_form (l:Led) (c n:Int) {h d:List Int} (hh:h.length≤20) (hd:d.length≤20):∃ (x y:List Int) (e:Int),aPay l c h d n=.tup [.sl (x.map eInt),.sl (y.map eInt),.v (.int .i64 e)]∧x.length≤20∧y.length≤20:=by
  unfold aPay aInts
  split
  · exact ⟨[],[],_,rfl,by simp,by simp⟩
  · split
    · exact ⟨[],[],_,rfl,by simp,by simp⟩
    · rename_i q hq
      cases hp:pyP (l.coins.getD c.toNat []) (pad h) (pad d) n with
      |none=>rw [hp] at hq;cases hq
      |some r =>
        rw [hp] at hq
        cases hq
        exact ⟨_,_,_,rfl,by rw [List.length_take];omega,by rw [List.length_take];omega⟩
theorem d74 {A:Frm→Prop}:EntryOK A Try.prog 74 (valE false c73):=valE_ok fun vs hv h=>by
  clear hv
  unfold c73 at h ⊢
  split at h
  · obtain ⟨h1,h2,h3,h4,h5,h6⟩:=h
    refine ⟨by unfold aPay; split; · simp [AV.plain, AV.plainL, aI]
               · split <;> simp [AV.plain,AV.plainL,aI,aInts],fun h=>absurd h (by decide),?_⟩
    rename_i cs rs ss es c hs ds n
    have:=rpay_fn (ldOf cs rs ss es) c (hs.map dInt) (ds.map dInt) n h2 h5 h6
    rw [← aLed_of h1]
    simp only [aInts,← h3,← h4] at this
    exact this
  · exact h.elim
def psT (Ls:List Led) (cs:List Int) (hs ds:List (List Int)) (qs:List Int) (k:Nat):St:={ t:=asg [(12,aB false),(17,.row 0),(18,.row 1),(19,.row 2),(20,.row 3),(21,.row 4),(22,aI k)],h:=hasg [(0,.row 38 4 (Ls.map eLed)),(1,.row 3 1 (cs.map eInt)),(2,.row 22 1 (hs.map eInts)),(3,.row 22 1 (ds.map eInts)),(4,.row 3 1 (qs.map eInt))],n:=5 }
def tbN17_17:=vk @ty3 (vk @ty22 (vk @ty28 (vk @ty30 (vk @ty38 (vk @ty70 (vk @ti3.eq_1 (vk @ti22.eq_1 (vk @ti28.eq_1 (vk @ti30.eq_1 (vk @ti38.eq_1 @ti70.eq_1))))))))))
def xbN17_1:=vk @aI.eq_1 (vk @aB.eq_1 (vk @aLed.eq_1 (vk @cLed.eq_1 (vk @bgH.eq_1 (vk @aInts.eq_1 (vk @mInt (vk @mInts (vk @eInt.eq_1 (vk @eInts.eq_1 (vk @gInt (vk @gInts (vk @rInt (vk @rInts (vk @c19.eq_1 (vk @c19.eq_2 (vk @p20.eq_1 (vk @p20.eq_2 (vk @p22.eq_1 (vk @p22.eq_2 (vk @p27.eq_1 (vk @p27.eq_2 (vk @c23.eq_1 (vk @c23.eq_2 (vk @c44.eq_1 (vk @c44.eq_2 (vk @c43.eq_1 (vk @c43.eq_2 (vk @s26.eq_1 (vk @s26.eq_2 (vk @c52.eq_1 (vk @c52.eq_2 (vk @isL_e (vk @ldOf_e (@eLed.eq_1))))))))))))))))))))))))))))))))))
set_option maxRecDepth 100000 in
set_option maxHeartbeats 40000000 in
theorem pays_fn (l:Led) (hand drawer:List Int) (w pr:Int) (ns:List Int) (hh2:hand.length≤maxLen) (hd2:drawer.length≤maxLen) (h2:ns.length≤maxLen):FnV Try.prog 17 [aLed l,aInts hand,aInts drawer,aI w,aI pr,aInts ns] (aB true):=by
  have env:Env (fun _=>True) Try.prog tyB (tab [(19,valE true c19),(20,fnE p20),(22,fnE p22),(23,valE false c23),(26,valE true s26),(27,fnE p27),(43,valE false c43),(44,valE true c44),(52,valE true c52),(67,fnE p67),(73,valE false c73),(74,valE false c73)]):=mkEnv ⟨d19,e20,e22,d23,e26,e27,d43,d44,d52,e67,d73,d74,trivial⟩
  refine Fn.of (A:=fun _=>True) (n0:=0) (D:=noD) (Fn0 Try.func17 rfl (fun vs w=>by kernel_rfl) (by kernel_rfl)) (by simp) (by simp [AV.ids,AV.idsL,aInts,aI,aLed,cLed]) (fun i o h=>by cases h) (fun _ _ _ _=>trivial) noD_ok ?_
  cases hlg:largeB l
  case' false =>
    by_cases lh:hand.length≤20
    case' pos =>
      have lh':¬ (20:Int) < (hand.length:Int):=by omega
      by_cases ld:drawer.length≤20
      case' pos =>
        have ld':¬ (20:Int) < (drawer.length:Int):=by omega
        have hfl:=fit_of hlg
        have big:(100000:Nat)≤maxLen:=by decide
        have z1:(1:Int)≤2∧(2:Int)≤4:=by decide
        have z3:(1:Int)≤1∧(1:Int)≤4:=by decide
        have z2:(0:Int)≤2∧(2:Int)≤6:=by decide
        have hok:=lg_ok (x:=nbS ns) (w:=0) z1 z3 z2
        obtain ⟨M,hM⟩:∃ L,lgL (nbS ns) 2 1 2 0=L:=⟨_,rfl⟩
        obtain ⟨y,hy⟩:∃ y,lgS (nbS ns) 2 1 2 0=y:=⟨_,rfl⟩
        rw [hM] at hok
        have hfM:=hok.fit
        have hc:=hok.c
        have wC:IntKind.wrap .i64 ((M.coins.length:Int) - 1)=(M.coins.length:Int) - 1:=wrap64 (by omega) (by omega)
        have u2:=upV_le (x:=y) (m:=(M.coins.length:Int) - 1) (by omega) (by omega)
        obtain ⟨c,hcc⟩:∃ c:Nat,upV y ((M.coins.length:Int) - 1)=(c:Int):=⟨(upV y ((M.coins.length:Int) - 1)).toNat,by omega⟩
        obtain ⟨y2,hy2⟩:∃ z,upS y ((M.coins.length:Int) - 1)=z:=⟨_,rfl⟩
        rw [hcc] at u2
        have cl:c < M.coins.length:=by omega
        obtain ⟨j,hj,hpc⟩:=hok.p _ (gMem (l:=M.coins) (k:=c) (d:=[]) cl)
        have hce:=coinE_ok hpc hj
        obtain ⟨ps,hP⟩:∃ ps,M.coins.getD c []=ps:=⟨_,rfl⟩
        rw [hP] at hpc hce
        have hps:=coin_ok hce
        have hpl:=hps.l
        obtain ⟨n,hn⟩:∃ n,ps.length=n:=⟨_,rfl⟩
        rw [hn] at hpl
        have n0:(0:Int)≤(n:Int)∧(n:Int)≤4:=by omega
        have f3:(0:Int)≤3∧(3:Int)≤4:=by decide
        have f2:(0:Int)≤2∧(2:Int)≤4:=by decide
        have hn2:((n:Nat):Int).toNat=n:=Int.toNat_natCast n
        have a1:=dlS_len 3 y2 n
        obtain ⟨x1,hx1⟩:∃ d,(dlS 3 y2 n).2=d:=⟨_,rfl⟩
        obtain ⟨y3,hy3⟩:∃ d,(dlS 3 y2 n).1=d:=⟨_,rfl⟩
        have a2:=dlS_len 2 y3 n
        obtain ⟨x2,hx2⟩:∃ d,(dlS 2 y3 n).2=d:=⟨_,rfl⟩
        obtain ⟨y4,hy4⟩:∃ d,(dlS 2 y3 n).1=d:=⟨_,rfl⟩
        have a3:=dlS_len 3 y4 n
        obtain ⟨x3,hx3⟩:∃ d,(dlS 3 y4 n).2=d:=⟨_,rfl⟩
        obtain ⟨y5,hy5⟩:∃ d,(dlS 3 y4 n).1=d:=⟨_,rfl⟩
        rw [hx1] at a1
        rw [hx2] at a2
        rw [hx3] at a3
        have u5:=upV_le (x:=y5) (m:=40) (by decide) (by decide)
        obtain ⟨q,hq⟩:∃ A,upV y5 40=A:=⟨_,rfl⟩
        obtain ⟨y6,hy6⟩:∃ A,upS y5 40=A:=⟨_,rfl⟩
        rw [hq] at u5
        repeat' (first|(apply nx;with_reducible constructor)|refine uq (by decide) ?_|((first|refine vz env fun Q hQ=>?_|refine vj fun Q hQ=>?_);simp only [vkt,Nat.reduceEqDiff,Nat.reduceAdd,Nat.reduceMul,Nat.reduceSub,Nat.reduceLeDiff,reduceCtorEq,↓reduceIte,↓reduceDIte,Int.reduceToNat,Int.reduceLE,Int.reduceLT,Int.reduceEq,Int.reduceNeg,tbN17_17,xbN17_1,psT,p67,c73,dlS_len,hlg,lh',ld',hM,hy,wC,hcc,hy2,hP,hn,hn2,hx1,hy3,hx2,hy4,hx3,hy5,hq,hy6];(try simp only [ite_and]);(repeat' (first|with_reducible assumption|refine And.intro ?_ ?_));all_goals (first|(refine hQ _ ?_;clear hQ Q)|(refine hQ _ (fun h=>?_) (fun h=>?_) <;> clear hQ Q <;> (try simp only [vki,reduceCtorEq] at h))|(refine vq ?_;kernel_rfl)|omega|with_reducible assumption|with_reducible rfl|skip)))
        obtain ⟨Ls,hLs⟩:∃ Ls,[l,M,M]=Ls:=⟨_,rfl⟩
        obtain ⟨cs,hcs⟩:∃ Ls,[w,(c:Int),(c:Int)]=Ls:=⟨_,rfl⟩
        obtain ⟨hs,hhs⟩:∃ Ls,[hand,x1,x2]=Ls:=⟨_,rfl⟩
        obtain ⟨ds,hds⟩:∃ Ls,[drawer,x3,drawer]=Ls:=⟨_,rfl⟩
        obtain ⟨qs,hqs⟩:∃ Ls,[pr,q,pr]=Ls:=⟨_,rfl⟩
        have hLf:∀ m ∈ Ls,Fit m:=fun m hm=>by
          rw [← hLs] at hm
          simp only [List.mem_cons,List.not_mem_nil,or_false] at hm
          rcases hm with rfl|rfl|rfl <;> assumption
        have hhl:∀ m ∈ hs,m.length≤20:=fun m hm=>by
          rw [← hhs] at hm
          simp only [List.mem_cons,List.not_mem_nil,or_false] at hm
          rcases hm with rfl|rfl|rfl <;> omega
        have hdl:∀ m ∈ ds,m.length≤20:=fun m hm=>by
          rw [← hds] at hm
          simp only [List.mem_cons,List.not_mem_nil,or_false] at hm
          rcases hm with rfl|rfl|rfl <;> omega
        have l1:Ls.length=3:=by rw [← hLs];rfl
        have l2:cs.length=3:=by rw [← hcs];rfl
        have l3:hs.length=3:=by rw [← hhs];rfl
        have l4:ds.length=3:=by rw [← hds];rfl
        have l5:qs.length=3:=by rw [← hqs];rfl
        refine sym_loop (fun k:{ k:Nat // k≤3 }=>psT Ls cs hs ds qs k.1) (fun k=>3 - k.1) ⟨0,Nat.zero_le _⟩ ?_ fun ⟨k,hk⟩=>?_
        · (refine Le.ok (fun j=>some (j+3)) [] ?_;constructor;all_goals (try simp only [vle,vkt,Nat.reduceEqDiff,Nat.reduceAdd,Nat.reduceMul,Nat.reduceSub,Nat.reduceLeDiff,reduceCtorEq,↓reduceIte,↓reduceDIte,Int.reduceToNat,Int.reduceLE,Int.reduceLT,Int.reduceEq,Int.reduceNeg,tbN17_17,xbN17_1,psT,p67,c73,dlS_len]))
          all_goals first|rfl|(simp [← hLs,← hcs,← hhs,← hds,← hqs,eLed,eInt,eInts];done)|(intro i hi;omega)
        clear hLs hcs hhs hds hqs hM hy hP hn hx1 hx2 hx3 hq hcc
        by_cases hlt:k < 3
        · have d1:decide ((k:Int) < ((3:Nat):Int))=true:=decide_eq_true (by omega)
          have e9:=wrap64 (n:=(k:Int)+1) (by omega) (by omega)
          have hm:=hLf _ (gMem (l:=Ls) (k:=k) (d:=default) (by omega))
          have hhk:=hhl _ (gMem (l:=hs) (k:=k) (d:=[]) (by omega))
          have hdk:=hdl _ (gMem (l:=ds) (k:=k) (d:=[]) (by omega))
          have g1:=gLed (l:=Ls) (n:=k) (by omega) []
          have g2:=gI0 (l:=cs) (n:=k) (by omega)
          have g3:=gIs0 (l:=hs) (n:=k) (by omega)
          have g4:=gIs0 (l:=ds) (n:=k) (by omega)
          have g5:=gI0 (l:=qs) (n:=k) (by omega)
          obtain ⟨m,hm1⟩:∃ m,Ls.getD k default=m:=⟨_,rfl⟩
          obtain ⟨c',hc1⟩:∃ m,cs.getD k 0=m:=⟨_,rfl⟩
          obtain ⟨h',hh1⟩:∃ m,hs.getD k []=m:=⟨_,rfl⟩
          obtain ⟨d',hd1⟩:∃ m,ds.getD k []=m:=⟨_,rfl⟩
          obtain ⟨q',hq1⟩:∃ m,qs.getD k 0=m:=⟨_,rfl⟩
          rw [hm1] at hm g1
          rw [hc1] at g2
          rw [hh1] at g3 hhk
          rw [hd1] at g4 hdk
          rw [hq1] at g5
          have zn:∀ n:Int,decide (n=n)=true:=fun n=>decide_eq_true rfl
          have zi:∀ p:List Int,decide (p=p)=true:=fun n=>decide_eq_true rfl
          obtain ⟨x,y,e,hw,lx,ly⟩:=aPay_form m c' q' hhk hdk
          repeat' (first|(apply nx;with_reducible constructor)|refine uq (by decide) ?_|((first|refine vz env fun Q hQ=>?_|refine vj fun Q hQ=>?_);simp only [vkt,Nat.reduceEqDiff,Nat.reduceAdd,Nat.reduceMul,Nat.reduceSub,Nat.reduceLeDiff,reduceCtorEq,↓reduceIte,↓reduceDIte,Int.reduceToNat,Int.reduceLE,Int.reduceLT,Int.reduceEq,Int.reduceNeg,tbN17_17,xbN17_1,psT,p67,c73,dlS_len,d1,l1,l2,l3,l4,l5,g1,g2,g3,g4,g5,hw,zn,zi,e9];(try simp only [ite_and]);(repeat' (first|with_reducible assumption|refine And.intro ?_ ?_));all_goals (first|(refine hQ _ ?_;clear hQ Q)|(refine hQ _ (fun h=>?_) (fun h=>?_) <;> clear hQ Q <;> (try simp only [vki,reduceCtorEq] at h))|(refine vq ?_;kernel_rfl)|omega|with_reducible assumption|with_reducible rfl|skip)))
          refine ⟨⟨k+1,hlt⟩,by show 3 - (k+1) < 3 - k;omega,?_⟩
          (refine Le.ok some [] ?_;constructor;all_goals (try simp only [vle,vkt,Nat.reduceEqDiff,Nat.reduceAdd,Nat.reduceMul,Nat.reduceSub,Nat.reduceLeDiff,reduceCtorEq,↓reduceIte,↓reduceDIte,Int.reduceToNat,Int.reduceLE,Int.reduceLT,Int.reduceEq,Int.reduceNeg,tbN17_17,xbN17_1,psT,p67,c73,dlS_len]))
          all_goals first|rfl|(simp;done)
        · have d1:decide ((k:Int) < ((3:Nat):Int))=false:=decide_eq_false (by omega)
          repeat' (first|(apply nx;with_reducible constructor)|refine uq (by decide) ?_|((first|refine vz env fun Q hQ=>?_|refine vj fun Q hQ=>?_);simp only [vkt,Nat.reduceEqDiff,Nat.reduceAdd,Nat.reduceMul,Nat.reduceSub,Nat.reduceLeDiff,reduceCtorEq,↓reduceIte,↓reduceDIte,Int.reduceToNat,Int.reduceLE,Int.reduceLT,Int.reduceEq,Int.reduceNeg,tbN17_17,xbN17_1,psT,p67,c73,dlS_len,d1,l1];(try simp only [ite_and]);(repeat' (first|with_reducible assumption|refine And.intro ?_ ?_));all_goals (first|(refine hQ _ ?_;clear hQ Q)|(refine hQ _ (fun h=>?_) (fun h=>?_) <;> clear hQ Q <;> (try simp only [vki,reduceCtorEq] at h))|(refine vq ?_;kernel_rfl)|omega|with_reducible assumption|with_reducible rfl|skip)))
          (simp only [vrt,Try.results17,vkt,Nat.reduceEqDiff,Nat.reduceAdd,Nat.reduceMul,Nat.reduceSub,Nat.reduceLeDiff,reduceCtorEq,↓reduceIte,↓reduceDIte,Int.reduceToNat,Int.reduceLE,Int.reduceLT,Int.reduceEq,Int.reduceNeg,tbN17_17,xbN17_1,psT,p67,c73,dlS_len];refine Fin.val rfl ?_;(try simp only [AV.le,AV.leL]))
          all_goals first|rfl|(simp;done)
      case' neg =>
        have ld':(20:Int) < (drawer.length:Int):=by omega
        repeat' (first|(apply nx;with_reducible constructor)|refine uq (by decide) ?_|((first|refine vz env fun Q hQ=>?_|refine vj fun Q hQ=>?_);simp only [vkt,Nat.reduceEqDiff,Nat.reduceAdd,Nat.reduceMul,Nat.reduceSub,Nat.reduceLeDiff,reduceCtorEq,↓reduceIte,↓reduceDIte,Int.reduceToNat,Int.reduceLE,Int.reduceLT,Int.reduceEq,Int.reduceNeg,tbN17_17,xbN17_1,psT,p67,c73,dlS_len,hlg,lh',ld'];(try simp only [ite_and]);(repeat' (first|with_reducible assumption|refine And.intro ?_ ?_));all_goals (first|(refine hQ _ ?_;clear hQ Q)|(refine hQ _ (fun h=>?_) (fun h=>?_) <;> clear hQ Q <;> (try simp only [vki,reduceCtorEq] at h))|(refine vq ?_;kernel_rfl)|omega|with_reducible assumption|with_reducible rfl|skip)))
        (simp only [vrt,Try.results17,vkt,Nat.reduceEqDiff,Nat.reduceAdd,Nat.reduceMul,Nat.reduceSub,Nat.reduceLeDiff,reduceCtorEq,↓reduceIte,↓reduceDIte,Int.reduceToNat,Int.reduceLE,Int.reduceLT,Int.reduceEq,Int.reduceNeg,tbN17_17,xbN17_1,psT,p67,c73,dlS_len];refine Fin.val rfl ?_;(try simp only [AV.le,AV.leL]))
        all_goals first|rfl|(simp;done)
    case' neg =>
      have lh':(20:Int) < (hand.length:Int):=by omega
      repeat' (first|(apply nx;with_reducible constructor)|refine uq (by decide) ?_|((first|refine vz env fun Q hQ=>?_|refine vj fun Q hQ=>?_);simp only [vkt,Nat.reduceEqDiff,Nat.reduceAdd,Nat.reduceMul,Nat.reduceSub,Nat.reduceLeDiff,reduceCtorEq,↓reduceIte,↓reduceDIte,Int.reduceToNat,Int.reduceLE,Int.reduceLT,Int.reduceEq,Int.reduceNeg,tbN17_17,xbN17_1,psT,p67,c73,dlS_len,hlg,lh'];(try simp only [ite_and]);(repeat' (first|with_reducible assumption|refine And.intro ?_ ?_));all_goals (first|(refine hQ _ ?_;clear hQ Q)|(refine hQ _ (fun h=>?_) (fun h=>?_) <;> clear hQ Q <;> (try simp only [vki,reduceCtorEq] at h))|(refine vq ?_;kernel_rfl)|omega|with_reducible assumption|with_reducible rfl|skip)))
      (simp only [vrt,Try.results17,vkt,Nat.reduceEqDiff,Nat.reduceAdd,Nat.reduceMul,Nat.reduceSub,Nat.reduceLeDiff,reduceCtorEq,↓reduceIte,↓reduceDIte,Int.reduceToNat,Int.reduceLE,Int.reduceLT,Int.reduceEq,Int.reduceNeg,tbN17_17,xbN17_1,psT,p67,c73,dlS_len];refine Fin.val rfl ?_;(try simp only [AV.le,AV.leL]))
      all_goals first|rfl|(simp;done)
  case' true =>
    repeat' (first|(apply nx;with_reducible constructor)|refine uq (by decide) ?_|((first|refine vz env fun Q hQ=>?_|refine vj fun Q hQ=>?_);simp only [vkt,Nat.reduceEqDiff,Nat.reduceAdd,Nat.reduceMul,Nat.reduceSub,Nat.reduceLeDiff,reduceCtorEq,↓reduceIte,↓reduceDIte,Int.reduceToNat,Int.reduceLE,Int.reduceLT,Int.reduceEq,Int.reduceNeg,tbN17_17,xbN17_1,psT,p67,c73,dlS_len,hlg];(try simp only [ite_and]);(repeat' (first|with_reducible assumption|refine And.intro ?_ ?_));all_goals (first|(refine hQ _ ?_;clear hQ Q)|(refine hQ _ (fun h=>?_) (fun h=>?_) <;> clear hQ Q <;> (try simp only [vki,reduceCtorEq] at h))|(refine vq ?_;kernel_rfl)|omega|with_reducible assumption|with_reducible rfl|skip)))
    (simp only [vrt,Try.results17,vkt,Nat.reduceEqDiff,Nat.reduceAdd,Nat.reduceMul,Nat.reduceSub,Nat.reduceLeDiff,reduceCtorEq,↓reduceIte,↓reduceDIte,Int.reduceToNat,Int.reduceLE,Int.reduceLT,Int.reduceEq,Int.reduceNeg,tbN17_17,xbN17_1,psT,p67,c73,dlS_len];refine Fin.val rfl ?_;(try simp only [AV.le,AV.leL]))
    all_goals first|rfl|(simp;done)
end Go.Sym.B
