/- Walks and what they compute, joined: part 1. -/
import Derived.Test.YtoapndlmbpphfaaB2
set_option linter.all false
namespace Go.Sym.B
open Go Go.Sym Go.Proofs Go.Sym.C
theorem _root_.Go.Sym.vk {a b:Prop} (x:a) (y:b):a∧b:=⟨x,y⟩
def _root_.Go.Sym.uq:=@blockK_miss
def _root_.Go.Sym.ux:=@blockK_hit
def _root_.Go.Sym.uz:=@blockK_n
def _root_.Go.Sym.uj:=@blockK_r
def _root_.Go.Sym.uk:=@thenK_x
def _root_.Go.Sym.uw:=@thenK_r
def _root_.Go.Sym.uv:=@thenK_n
def _root_.Go.Sym.vq:=@drawB_of
def _root_.Go.Sym.vz:=@sym_reg
def _root_.Go.Sym.vj:=@sym_cz
def aD:AV→Int
  |.v (.int _ n)=>n
  |_=>0
theorem aD_e (n:Int):aD (aI n)=n:=rfl
theorem mAD (p:List Int):(p.map aI).map aD=p:=by simp [Function.comp_def,aD_e]
def aPu (p:List Int):AV:=.agg (p.map aI)
structure PuOk (p:List Int):Prop where
  len:p.length=4
  bd:∀ n ∈ p,0≤n∧n≤4
structure PzOk (ps:List Int):Prop where
  len:ps.length≤4
  bd:∀ n ∈ ps,1≤n∧n≤50
theorem pu_one (p:List Int):(p.map aI).all oneB=true:=by simp [aI,oneB]
theorem pu_ids (p:List Int):AV.idsL (p.map aI)=[]:=idsL_nil fun c hc=>by obtain ⟨n,_,rfl⟩:=List.mem_map.1 hc;rfl
theorem pu_le (h:Nat→Option AObj) (σ:Nat→Option Nat):∀ p:List Int,AV.leL h σ (p.map aI) (p.map aI)
  |[]=>by simp [AV.leL]
  |n :: p=>by simp only [List.map_cons,AV.leL];exact ⟨by simp [aI,AV.le],pu_le h σ p⟩
theorem pu_view (h:Nat→Option AObj):∀ p:List Int,AV.viewL h (p.map aI)=p.map aI
  |[]=>rfl
  |n :: p=>by simp only [List.map_cons,AV.viewL,pu_view h p];rfl
theorem pu_plain:∀ p:List Int,AV.plainL (p.map aI)=True
  |[]=>rfl
  |n :: p=>by simp only [List.map_cons,AV.plainL,pu_plain p];simp [aI,AV.plain]
theorem pu_flat:∀ p:List Int,AV.flatL (p.map aI)=True
  |[]=>rfl
  |n :: p=>by simp only [List.map_cons,AV.flatL,pu_flat p];simp [aI,AV.flat]
theorem pu_rows:∀ p:List Int,AV.rowsL (p.map aI)=[]
  |[]=>rfl
  |n :: p=>by simp only [List.map_cons,AV.rowsL,pu_rows p];rfl
theorem pu_ren (τ:Nat→Nat):∀ p:List Int,AV.renL τ (p.map aI)=p.map aI
  |[]=>rfl
  |n :: p=>by simp only [List.map_cons,AV.renL,pu_ren τ p];rfl
def puL:=And.intro pu_one (And.intro pu_ids (And.intro pu_le (And.intro pu_view (And.intro pu_plain (And.intro pu_flat (And.intro pu_rows pu_ren))))))
theorem pu_get {p:List Int} {i:Nat} (h:i < p.length):(((p.map aI).drop i).take 1).headD .junk=aI (p.getD i 0):=by
  rw [List.drop_eq_getElem_cons (by simpa using h)]
  simp [List.getD_eq_getElem?_getD,h]
theorem pu_set {p:List Int} {i:Nat} {n:Int} (h:i < p.length):(p.map aI).take i++[aI n]++(p.map aI).drop (i+1)=(p.set i n).map aI:=by
  rw [List.map_set,List.set_eq_take_append_cons_drop,if_pos (by simpa using h)];simp
def dotL:List Int→List Int→Int
  |a :: xs,b :: ys=>a * b+dotL xs ys
  |_,_=>0
theorem dotL_nil (l:List Int):dotL l []=0:=by cases l <;> rfl
theorem dot_snoc:∀ {i:Nat} {ps p:List Int},i < ps.length→i < p.length→dotL (ps.take (i+1)) (p.take (i+1))=dotL (ps.take i) (p.take i)+ps.getD i 0 * p.getD i 0
  |0,a :: ps,b :: p,_,_=>by simp [dotL]
  |i+1,a :: ps,b :: p,h,h'=>by
    have:=dot_snoc (i:=i) (ps:=ps) (p:=p) (by simpa using h) (by simpa using h')
    simp only [List.take_succ_cons,dotL,List.getD_cons_succ] at this ⊢
    omega
theorem dot_take:∀ {ps p:List Int} {n:Nat},ps.length≤n→dotL ps (p.take n)=dotL ps p
  |[],p,n,_=>by simp [dotL]
  |a :: ps,[],n,_=>by simp
  |a :: ps,b :: p,0,h=>by simp at h
  |a :: ps,b :: p,n+1,h=>by simp only [List.take_succ_cons,dotL];rw [dot_take (by simpa using h)]
theorem mulPu {a b A B:Int} (h:0≤a∧a≤A) (h':0≤b∧b≤B):0≤a * b∧a * b≤A * B :=
  ⟨Int.mul_nonneg h.1 h'.1,Int.mul_le_mul h.2 h'.2 h'.1 (Int.le_trans h.1 h.2)⟩
theorem dot_bd:∀ {ps p:List Int},(∀ n ∈ ps,1≤n∧n≤50)→(∀ n ∈ p,0≤n∧n≤4)→0≤dotL ps p∧dotL ps p≤200 * ps.length
  |[],p,_,_=>by simp [dotL]
  |a :: ps,[],_,_=>by simp [dotL];omega
  |a :: ps,b :: p,h,h'=>by
    have ih:=dot_bd (ps:=ps) (p:=p) (fun n hn=>h n (List.mem_cons_of_mem _ hn)) fun n hn=>h' n (List.mem_cons_of_mem _ hn)
    have h1:=h a List.mem_cons_self
    have h2:=h' b List.mem_cons_self
    have:=mulPu (A:=50) (B:=4) ⟨by omega,h1.2⟩ h2
    simp only [dotL,List.length_cons]
    omega
theorem sum_snoc {p:List Int} {i:Nat} (h:i < p.length):(p.take (i+1)).sum=(p.take i).sum+p.getD i 0:=by
  rw [List.take_succ_eq_append_getElem h,List.sum_append]
  simp [List.getD_eq_getElem?_getD,h]
theorem sum_bd:∀ {p:List Int},(∀ n ∈ p,0≤n∧n≤4)→0≤p.sum∧p.sum≤4 * p.length
  |[],_=>by simp
  |b :: p,h=>by
    have ih:=sum_bd (p:=p) fun n hn=>h n (List.mem_cons_of_mem _ hn)
    have:=h b List.mem_cons_self
    simp only [List.sum_cons,List.length_cons]
    omega
theorem PuOk.at {p:List Int} (h:PuOk p) {i:Nat} (hi:i < 4):0≤p.getD i 0∧p.getD i 0≤4:=h.bd _ (by
  have:i < p.length:=by rw [h.len];exact hi
  simp [List.getD_eq_getElem?_getD,this])
def woPT (ps p:List Int) (i:Nat):St:={ t:=asg [(2,.ptr 0 0),(5,aI (dotL (ps.take i) (p.take i))),(8,aInts ps),(9,aI ps.length),(10,aI i)],h:=hasg [(0,.cells (p.map aI))],n:=1 }
def tbM1_131:=vk @ty3 (vk @ty22 (vk @ty142 (vk @ti3.eq_1 (vk @ti22.eq_1 @ti142.eq_1))))
def xbM1_1:=vk @aI.eq_1 (vk @aB.eq_1 (vk @aInts.eq_1 (vk @aPu.eq_1 (vk @mInt (vk @eInt.eq_1 (@gInt))))))
theorem worthP_fn (ps p:List Int) (hp:PuOk p) (hs:PzOk ps):FnV Try.prog 131 [aPu p,aInts ps] (aI (dotL ps p)):=by
  have env:Env (fun _=>True) Try.prog tyB (tab []):=mkEnv trivial
  refine Fn.of (A:=fun _=>True) (n0:=0) (D:=noD) (Fn0 Try.func131 rfl (fun vs w=>by kernel_rfl) (by kernel_rfl)) (by simp) (by simp [AV.ids,aInts,aPu,pu_ids]) (fun i o h=>by cases h) (fun _ _ _ _=>trivial) noD_ok ?_
  have hl:=hs.len
  have hpl:=hp.len
  have h1:=pu_one p
  repeat' (first|(apply nx;with_reducible constructor)|refine uq (by decide) ?_|((first|refine vz env fun Q hQ=>?_|refine vj fun Q hQ=>?_);simp only [vkt,seval,tbM1_131,xbM1_1,woPT,puL,List.length_map,Nat.mul_one,hpl,h1];(try simp only [ite_and]);(repeat' (first|with_reducible assumption|refine And.intro ?_ ?_|intro hp));all_goals (first|(refine hQ _ ?_;clear hQ Q)|(refine hQ _ (fun h=>?_) (fun h=>?_) <;> clear hQ Q <;> (try simp only [vki,reduceCtorEq] at h))|omega|assumption|with_reducible rfl|(refine vq ?_;kernel_rfl)|skip)))
  refine sym_loop (fun i:{ i:Nat // i≤ps.length }=>woPT ps p i.1) (fun i=>ps.length - i.1) ⟨0,Nat.zero_le _⟩ ?_ fun ⟨i,hi⟩=>?_
  · (refine Le.ok some [] ?_;constructor;all_goals (try simp only [vle,vkt,seval,tbM1_131,xbM1_1,woPT,puL,List.length_map,Nat.mul_one]))
    all_goals first|rfl
  by_cases hlt:i < ps.length
  · have d1:decide ((i:Int) < (ps.length:Int))=true:=decide_eq_true (by omega)
    have hi4:i < p.length:=by omega
    have b1:=hs.bd _ (gMem (d:=0) hlt)
    have b2:=hp.at (show i < 4 by omega)
    have b3:=mulPu (A:=50) (B:=4) ⟨by omega,b1.2⟩ b2
    have b4:=dot_bd (ps:=ps.take i) (p:=p.take i) (fun n hn=>hs.bd n (List.mem_of_mem_take hn)) fun n hn=>hp.bd n (List.mem_of_mem_take hn)
    have b5:(ps.take i).length=i:=by rw [List.length_take];omega
    rw [b5] at b4
    have e1:=wrap64 (n:=(i:Int)+1) (by omega) (by omega)
    have e2:=wrap64 (n:=ps.getD i 0 * p.getD i 0) (by omega) (by omega)
    have e3:=wrap64 (n:=dotL (ps.take i) (p.take i)+ps.getD i 0 * p.getD i 0) (by omega) (by omega)
    have e4:=dot_snoc hlt hi4
    have e5:=pu_get hi4
    repeat' (first|(apply nx;with_reducible constructor)|refine uq (by decide) ?_|((first|refine vz env fun Q hQ=>?_|refine vj fun Q hQ=>?_);simp only [vkt,seval,tbM1_131,xbM1_1,woPT,puL,List.length_map,Nat.mul_one,d1,e1,e2,e3,e5,hpl];(try simp only [ite_and]);(repeat' (first|with_reducible assumption|refine And.intro ?_ ?_|intro hp));all_goals (first|(refine hQ _ ?_;clear hQ Q)|(refine hQ _ (fun h=>?_) (fun h=>?_) <;> clear hQ Q <;> (try simp only [vki,reduceCtorEq] at h))|omega|assumption|with_reducible rfl|(refine vq ?_;kernel_rfl)|skip)))
    refine ⟨⟨i+1,hlt⟩,by show ps.length - (i+1) < ps.length - i;omega,?_⟩
    (refine Le.ok some [] ?_;constructor;all_goals (try simp only [vle,vkt,seval,tbM1_131,xbM1_1,woPT,puL,List.length_map,Nat.mul_one]))
    all_goals first|rfl|(rw [e4];rfl)|exact ⟨by rw [e4],rfl⟩
  · have d1:decide ((i:Int) < (ps.length:Int))=false:=decide_eq_false (by omega)
    have e6:dotL (ps.take i) (p.take i)=dotL ps p:=by rw [List.take_of_length_le (by omega),dot_take (by omega)]
    repeat' (first|(apply nx;with_reducible constructor)|refine uq (by decide) ?_|((first|refine vz env fun Q hQ=>?_|refine vj fun Q hQ=>?_);simp only [vkt,seval,tbM1_131,xbM1_1,woPT,puL,List.length_map,Nat.mul_one,d1,e6];(try simp only [ite_and]);(repeat' (first|with_reducible assumption|refine And.intro ?_ ?_|intro hp));all_goals (first|(refine hQ _ ?_;clear hQ Q)|(refine hQ _ (fun h=>?_) (fun h=>?_) <;> clear hQ Q <;> (try simp only [vki,reduceCtorEq] at h))|omega|assumption|with_reducible rfl|(refine vq ?_;kernel_rfl)|skip)))
    (simp only [vrt,Try.results131,vkt,seval,tbM1_131,xbM1_1,woPT,puL,List.length_map,Nat.mul_one];refine Fin.val rfl ?_;(try simp only [AV.le,AV.leL]))
    all_goals first|rfl
def c131:List AV→Prop × AV
  |[.agg cs,.sl xs]=>(cs=(cs.map aD).map aI∧xs=(xs.map dInt).map eInt∧PuOk (cs.map aD)∧PzOk (xs.map dInt),aI (dotL (xs.map dInt) (cs.map aD)))
  |_=>(False,.junk)
theorem d131 {A:Frm→Prop}:EntryOK A Try.prog 131 (valE true c131):=valE_ok fun vs hv h=>by
  clear hv
  unfold c131 at h ⊢
  split at h
  · refine ⟨by simp [AV.plain,aI],fun _=>by simp [AV.flat,aI],?_⟩
    have:=worthP_fn _ _ h.2.2.1 h.2.2.2
    simp only [aInts,aPu,← h.1,← h.2.1] at this
    exact this
  · exact h.elim
def maT (p:List Int) (i:Nat):St:={ t:=asg [(3,aI (p.take i).sum),(6,.agg (p.map aI)),(7,aI i)],h:=hasg [(0,.cells (p.map aI))],n:=1 }
def tbM1_129:=vk @ty3 (vk @ty142 (vk @ti3.eq_1 @ti142.eq_1))
def xbM1_2:=vk @aI.eq_1 (vk @aB.eq_1 (@aPu.eq_1))
theorem manyP_fn (p:List Int) (hp:PuOk p):FnV Try.prog 129 [aPu p] (aI p.sum):=by
  have env:Env (fun _=>True) Try.prog tyB (tab []):=mkEnv trivial
  refine Fn.of (A:=fun _=>True) (n0:=0) (D:=noD) (Fn0 Try.func129 rfl (fun vs w=>by kernel_rfl) (by kernel_rfl)) (by simp) (by simp [AV.ids,aPu,pu_ids]) (fun i o h=>by cases h) (fun _ _ _ _=>trivial) noD_ok ?_
  have hpl:=hp.len
  have htk:(p.map aI).take 4=p.map aI:=List.take_of_length_le (by simp [hpl])
  repeat' (first|(apply nx;with_reducible constructor)|refine uq (by decide) ?_|((first|refine vz env fun Q hQ=>?_|refine vj fun Q hQ=>?_);simp only [vkt,seval,tbM1_129,xbM1_2,maT,puL,List.length_map,Nat.mul_one,hpl,htk];(try simp only [ite_and]);(repeat' (first|with_reducible assumption|refine And.intro ?_ ?_|intro hp));all_goals (first|(refine hQ _ ?_;clear hQ Q)|(refine hQ _ (fun h=>?_) (fun h=>?_) <;> clear hQ Q <;> (try simp only [vki,reduceCtorEq] at h))|omega|assumption|with_reducible rfl|(refine vq ?_;kernel_rfl)|skip)))
  refine sym_loop (fun i:{ i:Nat // i≤4 }=>maT p i.1) (fun i=>4 - i.1) ⟨0,Nat.zero_le _⟩ ?_ fun ⟨i,hi⟩=>?_
  · (refine Le.ok some [] ?_;constructor;all_goals (try simp only [vle,vkt,seval,tbM1_129,xbM1_2,maT,puL,List.length_map,Nat.mul_one]))
    all_goals first|rfl
  by_cases hlt:i < 4
  · have d1:decide ((i:Int) < 4)=true:=decide_eq_true (by omega)
    have hi4:i < p.length:=by omega
    have b2:=hp.at hlt
    have b4:=sum_bd (p:=p.take i) fun n hn=>hp.bd n (List.mem_of_mem_take hn)
    have b5:(p.take i).length=i:=by rw [List.length_take];omega
    rw [b5] at b4
    have e1:=wrap64 (n:=(i:Int)+1) (by omega) (by omega)
    have e3:=wrap64 (n:=(p.take i).sum+p.getD i 0) (by omega) (by omega)
    have e4:=sum_snoc hi4
    have e5:=pu_get hi4
    repeat' (first|(apply nx;with_reducible constructor)|refine uq (by decide) ?_|((first|refine vz env fun Q hQ=>?_|refine vj fun Q hQ=>?_);simp only [vkt,seval,tbM1_129,xbM1_2,maT,puL,List.length_map,Nat.mul_one,d1,e1,e3,e5,hpl];(try simp only [ite_and]);(repeat' (first|with_reducible assumption|refine And.intro ?_ ?_|intro hp));all_goals (first|(refine hQ _ ?_;clear hQ Q)|(refine hQ _ (fun h=>?_) (fun h=>?_) <;> clear hQ Q <;> (try simp only [vki,reduceCtorEq] at h))|omega|assumption|with_reducible rfl|(refine vq ?_;kernel_rfl)|skip)))
    refine ⟨⟨i+1,hlt⟩,by show 4 - (i+1) < 4 - i;omega,?_⟩
    (refine Le.ok some [] ?_;constructor;all_goals (try simp only [vle,vkt,seval,tbM1_129,xbM1_2,maT,puL,List.length_map,Nat.mul_one]))
    all_goals first|rfl|(rw [e4];rfl)|exact ⟨by rw [e4],rfl⟩
  · have d1:decide ((i:Int) < 4)=false:=decide_eq_false (by omega)
    have e6:p.take i=p:=List.take_of_length_le (by omega)
    repeat' (first|(apply nx;with_reducible constructor)|refine uq (by decide) ?_|((first|refine vz env fun Q hQ=>?_|refine vj fun Q hQ=>?_);simp only [vkt,seval,tbM1_129,xbM1_2,maT,puL,List.length_map,Nat.mul_one,d1,e6];(try simp only [ite_and]);(repeat' (first|with_reducible assumption|refine And.intro ?_ ?_|intro hp));all_goals (first|(refine hQ _ ?_;clear hQ Q)|(refine hQ _ (fun h=>?_) (fun h=>?_) <;> clear hQ Q <;> (try simp only [vki,reduceCtorEq] at h))|omega|assumption|with_reducible rfl|(refine vq ?_;kernel_rfl)|skip)))
    (simp only [vrt,Try.results129,vkt,seval,tbM1_129,xbM1_2,maT,puL,List.length_map,Nat.mul_one];refine Fin.val rfl ?_;(try simp only [AV.le,AV.leL]))
    all_goals first|rfl
def c129:List AV→Prop × AV
  |[.agg cs]=>(cs=(cs.map aD).map aI∧PuOk (cs.map aD),aI (cs.map aD).sum)
  |_=>(False,.junk)
theorem d129 {A:Frm→Prop}:EntryOK A Try.prog 129 (valE true c129):=valE_ok fun vs hv h=>by
  clear hv
  unfold c129 at h ⊢
  split at h
  · refine ⟨by simp [AV.plain,aI],fun _=>by simp [AV.flat,aI],?_⟩
    have:=manyP_fn _ h.2
    simp only [aPu,← h.1] at this
    exact this
  · exact h.elim
def btr {α:Type} (f:α→Int) (a b:α):α:=if f b < f a then b else a
def tbM1_144:=vk @ty3 (vk @ty142 (vk @ti3.eq_1 @ti142.eq_1))
def xbM1_3:=vk @aI.eq_1 (vk @aB.eq_1 (@aPu.eq_1))
theorem better_fn (a b:List Int) (ha:PuOk a) (hb:PuOk b):FnV Try.prog 144 [aPu a,aPu b,.clo 129 []] (aPu (btr List.sum a b)):=by
  have env:Env (fun _=>True) Try.prog tyB (tab [(129,valE true c129)]):=mkEnv ⟨d129,trivial⟩
  refine Fn.of (A:=fun _=>True) (n0:=0) (D:=noD) (Fn0 Try.func144 rfl (fun vs w=>by kernel_rfl) (by kernel_rfl)) (by simp) (by simp [AV.ids,AV.idsL,aPu,pu_ids]) (fun i o h=>by cases h) (fun _ _ _ _=>trivial) noD_ok ?_
  have hal:=ha.len
  have hbl:=hb.len
  have ta:(a.map aI).take 4=a.map aI:=List.take_of_length_le (by simp [hal])
  have tb:(b.map aI).take 4=b.map aI:=List.take_of_length_le (by simp [hbl])
  by_cases hlt:b.sum < a.sum
  · have d1:decide (b.sum < a.sum)=true:=decide_eq_true hlt
    rw [show btr List.sum a b=b from if_pos hlt]
    repeat' (first|(apply nx;with_reducible constructor)|refine uq (by decide) ?_|((first|refine vz env fun Q hQ=>?_|refine vj fun Q hQ=>?_);simp only [vkt,seval,tbM1_144,xbM1_3,puL,c129,mAD,List.length_map,hal,hbl,ta,tb,d1,ha,hb];(try simp only [ite_and]);(repeat' (first|with_reducible assumption|refine And.intro ?_ ?_|intro hp));all_goals (first|(refine hQ _ ?_;clear hQ Q)|(refine hQ _ (fun h=>?_) (fun h=>?_) <;> clear hQ Q <;> (try simp only [vki,reduceCtorEq] at h))|omega|assumption|with_reducible rfl|(refine vq ?_;kernel_rfl)|skip)))
    (simp only [vrt,Try.results144,hal,hbl,ta,tb,vkt,seval,tbM1_144,xbM1_3,puL,c129,mAD,List.length_map];refine Fin.val rfl ?_;(try simp only [AV.le,AV.leL]))
    all_goals first|rfl|exact pu_le _ _ _
  · have d1:decide (b.sum < a.sum)=false:=decide_eq_false hlt
    rw [show btr List.sum a b=a from if_neg hlt]
    repeat' (first|(apply nx;with_reducible constructor)|refine uq (by decide) ?_|((first|refine vz env fun Q hQ=>?_|refine vj fun Q hQ=>?_);simp only [vkt,seval,tbM1_144,xbM1_3,puL,c129,mAD,List.length_map,hal,hbl,ta,tb,d1,ha,hb];(try simp only [ite_and]);(repeat' (first|with_reducible assumption|refine And.intro ?_ ?_|intro hp));all_goals (first|(refine hQ _ ?_;clear hQ Q)|(refine hQ _ (fun h=>?_) (fun h=>?_) <;> clear hQ Q <;> (try simp only [vki,reduceCtorEq] at h))|omega|assumption|with_reducible rfl|(refine vq ?_;kernel_rfl)|skip)))
    (simp only [vrt,Try.results144,hal,hbl,ta,tb,vkt,seval,tbM1_144,xbM1_3,puL,c129,mAD,List.length_map];refine Fin.val rfl ?_;(try simp only [AV.le,AV.leL]))
    all_goals first|rfl|exact pu_le _ _ _
def c144:List AV→Prop × AV
  |[.agg cs,.agg ds,.clo 129 []]=>(cs=(cs.map aD).map aI∧ds=(ds.map aD).map aI∧PuOk (cs.map aD)∧PuOk (ds.map aD),aPu (btr List.sum (cs.map aD) (ds.map aD)))
  |_=>(False,.junk)
theorem d144 {A:Frm→Prop}:EntryOK A Try.prog 144 (valE true c144):=valE_ok fun vs hv h=>by
  clear hv
  unfold c144 at h ⊢
  split at h
  · refine ⟨by simp [aPu,AV.plain,pu_plain],fun _=>by simp [aPu,AV.flat,pu_flat],?_⟩
    have:=better_fn _ _ h.2.2.1 h.2.2.2
    simp only [aPu,← h.1,← h.2.1] at this ⊢
    exact this
  · exact h.elim
def pad (l:List Int):List Int:=l++List.replicate (4 - l.length) 0
theorem pad_len {l:List Int} (h:l.length≤4):(pad l).length=4:=by simp [pad];omega
theorem pad_ok {l:List Int} (h:l.length≤4) (hb:∀ n ∈ l,0≤n∧n≤4):PuOk (pad l) :=
  ⟨pad_len h,fun n hn=>by
    rcases List.mem_append.1 hn with hn|hn
    · exact hb n hn
    · rw [(List.mem_replicate.1 hn).2];omega⟩
theorem flat_eInt:∀ l:List Int,((l.map eInt).flatten).map DV.av=l.map aI
  |[]=>rfl
  |n :: l=>by simp only [List.map_cons,List.flatten_cons,List.map_append,flat_eInt l];rfl
theorem drop_zero4 {n:Nat} (h:n≤4):[aI 0,aI 0,aI 0,aI 0].drop n=(List.replicate (4 - n) (0:Int)).map aI:=by
  match n,h with
  |0,_=>rfl
  |1,_=>rfl
  |2,_=>rfl
  |3,_=>rfl
  |4,_=>rfl
theorem rows_eInt (l:List Int):rowsOK 1 (l.map eInt)=True:=rowsOK_map (f:=eInt) (fun _=>rfl) l
def tbM1_125:=vk @ty3 (vk @ty22 (vk @ty142 (vk @ti3.eq_1 (vk @ti22.eq_1 @ti142.eq_1))))
def xbM1_4:=vk @aI.eq_1 (vk @aB.eq_1 (@aInts.eq_1))
theorem purse_fn (l:List Int) (h0:0 < l.length) (h4:l.length≤4):FnV Try.prog 125 [aInts l] (aPu (pad l)):=by
  have env:Env (fun _=>True) Try.prog tyB (tab []):=mkEnv trivial
  refine Fn.of (A:=fun _=>True) (n0:=0) (D:=noD) (Fn0 Try.func125 rfl (fun vs w=>by kernel_rfl) (by kernel_rfl)) (by simp) (by simp [AV.ids,aInts]) (fun i o h=>by cases h) (fun _ _ _ _=>trivial) noD_ok ?_
  have hm:min l.length 4=l.length:=Nat.min_eq_left h4
  have tk:(l.map eInt).take l.length=l.map eInt:=List.take_of_length_le (by simp)
  have hz:=drop_zero4 h4
  simp only [aI] at hz
  have hc:l.map aI++(List.replicate (4 - l.length) (0:Int)).map aI=(pad l).map aI:=by simp [pad]
  have hpl:=pad_len h4
  have tp:((pad l).map aI).take 4=(pad l).map aI:=List.take_of_length_le (by simp [hpl])
  have hf:=flat_eInt l
  have hml:4≤maxLen:=by decide
  repeat' (first|(apply nx;with_reducible constructor)|refine uq (by decide) ?_|((first|refine vz env fun Q hQ=>?_|refine vj fun Q hQ=>?_);simp only [vkt,seval,tbM1_125,xbM1_4,puL,rows_eInt,List.length_map,Nat.mul_one,h0,hm,tk,hz,hf,hc,hpl,tp,hml];(try simp only [ite_and]);(repeat' (first|with_reducible assumption|refine And.intro ?_ ?_|intro hp));all_goals (first|(refine hQ _ ?_;clear hQ Q)|(refine hQ _ (fun h=>?_) (fun h=>?_) <;> clear hQ Q <;> (try simp only [vki,reduceCtorEq] at h))|omega|assumption|with_reducible rfl|(refine vq ?_;kernel_rfl)|skip)))
  (simp only [vrt,Try.results125,hpl,tp,vkt,seval,tbM1_125,xbM1_4,puL,rows_eInt,List.length_map,Nat.mul_one];refine Fin.val rfl ?_;(try simp only [AV.le,AV.leL]))
  all_goals first|rfl|exact pu_le _ _ _
def c125:List AV→Prop × AV
  |[.sl xs]=>(xs=(xs.map dInt).map eInt∧0 < (xs.map dInt).length∧(xs.map dInt).length≤4,aPu (pad (xs.map dInt)))
  |_=>(False,.junk)
theorem d125 {A:Frm→Prop}:EntryOK A Try.prog 125 (valE true c125):=valE_ok fun vs hv h=>by
  clear hv
  unfold c125 at h ⊢
  split at h
  · refine ⟨by simp [aPu,AV.plain,pu_plain],fun _=>by simp [aPu,AV.flat,pu_flat],?_⟩
    have:=purse_fn _ h.2.1 h.2.2
    simp only [aInts,← h.1] at this
    exact this
  · exact h.elim
end Go.Sym.B
namespace Go.Sym.B
open Go Go.Sym Go.Proofs Go.Sym.C
def partsL:List Int→List (List Int)
  |[]=>[[]]
  |p :: ps=>(List.range (p.toNat+1)).flatMap fun (n:Nat)=>(partsL ps).map ((n:Int) :: ·)
theorem flatMap_len {α β:Type} {f:α→List β} {m:Nat}:∀ {l:List α},(∀ a ∈ l,(f a).length=m)→(l.flatMap f).length=l.length * m
  |[],_=>by simp
  |a :: l,h=>by
    rw [List.flatMap_cons,List.length_append,flatMap_len fun b hb=>h b (List.mem_cons_of_mem _ hb),h a List.mem_cons_self,List.length_cons,Nat.succ_mul];omega
theorem flatMap_get {α β:Type} {f:α→List β} {m:Nat} {d:β} {da:α}:∀ {l:List α},(∀ a ∈ l,(f a).length=m)→∀ n j,n < l.length→j < m→(l.flatMap f).getD (n * m+j) d=(f (l.getD n da)).getD j d
  |[],_,n,j,hn,_=>by simp at hn
  |a :: l,h,n,j,hn,hj=>by
    have h0:=h a List.mem_cons_self
    rw [List.flatMap_cons]
    cases n with
    |zero=>rw [Nat.zero_mul,Nat.zero_add,List.getD_eq_getElem?_getD,List.getElem?_append_left (by omega),← List.getD_eq_getElem?_getD];rfl
    |succ n =>
      rw [List.getD_eq_getElem?_getD,List.getElem?_append_right (by rw [h0,Nat.succ_mul];omega),← List.getD_eq_getElem?_getD,h0,show (n+1) * m+j - m=n * m+j by rw [Nat.succ_mul];omega,flatMap_get (da:=da) (fun b hb=>h b (List.mem_cons_of_mem _ hb)) n j (by simpa using hn) hj]
      rfl
theorem parts_len (p:Int) (ps:List Int):(partsL (p :: ps)).length=(p.toNat+1) * (partsL ps).length:=by
  simp only [partsL]
  rw [flatMap_len (m:=(partsL ps).length) (fun a _=>by simp),List.length_range]
theorem parts_pos:∀ q:List Int,0 < (partsL q).length
  |[]=>by simp [partsL]
  |p :: ps=>by rw [parts_len];exact Nat.mul_pos (by omega) (parts_pos ps)
theorem parts_get {p:Int} {ps:List Int} {n j:Nat} (hn:n≤p.toNat) (hj:j < (partsL ps).length):(partsL (p :: ps)).getD (n * (partsL ps).length+j) []=(n:Int) :: (partsL ps).getD j []:=by
  simp only [partsL]
  rw [flatMap_get (da:=0) (m:=(partsL ps).length) (fun a _=>by simp) n j (by simp;omega) hj]
  have:(List.range (p.toNat+1)).getD n 0=n:=by simp [List.getD_eq_getElem?_getD,List.getElem?_range (show n < p.toNat+1 by omega)]
  rw [this]
  simp [List.getD_eq_getElem?_getD,hj]
theorem parts_mem {q x:List Int} (h:∀ n ∈ q,0≤n) (hx:x ∈ partsL q):x.length=q.length∧∀ i,i < q.length→0≤x.getD i 0∧x.getD i 0≤q.getD i 0:=by
  induction q generalizing x with
  |nil=>simp [partsL] at hx;subst hx;simp
  |cons p ps ih =>
    simp only [partsL,List.mem_flatMap,List.mem_range,List.mem_map] at hx
    obtain ⟨n,hn,y,hy,rfl⟩:=hx
    obtain ⟨i1,i2⟩:=ih (fun m hm=>h m (List.mem_cons_of_mem _ hm)) hy
    have hp:=h p List.mem_cons_self
    refine ⟨by simp [i1],fun i hi=>?_⟩
    cases i with
    |zero=>simp only [List.getD_cons_zero];omega
    |succ i=>simp only [List.getD_cons_succ];exact i2 i (by simpa using hi)
theorem parts_ok {P x:List Int} (h:PuOk P) (hx:x ∈ partsL P):PuOk x:=by
  obtain ⟨h1,h2⟩:=parts_mem (fun n hn=>(h.bd n hn).1) hx
  refine ⟨h1.trans h.len,fun n hn=>?_⟩
  obtain ⟨i,hi,rfl⟩:=List.mem_iff_getElem.1 hn
  have:=h2 i (by omega)
  have hb:=h.at (show i < 4 by have:=h.len;omega)
  rw [show x.getD i 0=x[i] by simp [List.getD_eq_getElem?_getD,hi]] at this
  omega
def gpH (P:List Int):List (Nat × AObj):=[(0,.cells (P.map aI)),(1,.cells [.cb]),(2,.cells [.clo 146 [.ptr 1 0,.ptr 0 0,.ptr 2 0]])]
def gpL (P:List Int):List AObj:=[.cells (P.map aI),.cells [.cb],.cells [.clo 146 [.ptr 1 0,.ptr 0 0,.ptr 2 0]]]
structure GpOk (P B:List Int) (k:Nat) (ys:Nat→List AV) (ans:Nat→Bool) (R:Nat):Prop where
  len:B.length=4
  rounds:Rounds ans R (partsL (P.drop k)).length
  ys:∀ j,j < (partsL (P.drop k)).length→ys j=[aPu (B.take k++(partsL (P.drop k)).getD j [])]
def GpFn (P:List Int) (k:Nat):Prop:=∀ (B:List Int) (ys:Nat→List AV) (ans:Nat→Bool) (R:Nat),GpOk P B k ys ans R →
  Fn (Bcc Try.prog (hasg (enumA 0 [.cells (P.map aI)])) (hasg (enumA 0 (gpL P))) ys (fun _=>nth [.cells (P.map aI)]) ans R) Try.prog 146 [aPu B,aI k,.ptr 1 0,.ptr 0 0,.ptr 2 0] (hasg (enumA 0 (gpL P))) (aB (ans (R - 1))) (hasg (enumO 0 ((gpL P).map some))) R
def p146 (P:List Int) (k:Nat) (ka:Int) (ys:Nat→List AV) (ans:Nat→Bool) (R:Nat) (S:St):List AV→Option PkI
  |[.agg cs,.v (.int .i64 a),.ptr y 0,.ptr p 0,.ptr g 0]=>match S.h p,S.h y,S.h g with
    |some (.cells pp),some (.cells [.cb]),some (.cells [.clo 146 [.ptr y' 0,.ptr p' 0,.ptr g' 0]]) =>
      some { q:={ pre:=y'=y∧p'=p∧g'=g∧pp=P.map aI∧cs=(cs.map aD).map aI∧a=ka∧GpOk P (cs.map aD) k (fun j=>ys (S.j+j)) (fun j=>ans (S.j+j)) (min (partsL (P.drop k)).length (R - S.j)),hs:=[p,y,g],ar:=[.agg cs,.v (.int .i64 a),.ptr 1 0,.ptr 0 0,.ptr 2 0],L0:=gpL P,v:=.v (.bool (ans (S.j+(min (partsL (P.drop k)).length (R - S.j) - 1)))),L1:=(gpL P).map some },dj:=min (partsL (P.drop k)).length (R - S.j) }
    |_,_,_=>none
  |_=>none
theorem e146 {A:Frm→Prop} {P:List Int} {k:Nat} {ka:Int} {ys:Nat→List AV} {ans:Nat→Bool} {R:Nat} {h0:Nat→Option AObj} (hk:ka=(k:Int)) (ih:GpFn P k) (hA:∀ F,A F→Acb Try.prog (hasg (enumA 0 [.cells (P.map aI)])) h0 ys (fun _=>nth [.cells (P.map aI)]) ans R F) :
    EntryOK A Try.prog 146 (fnI [.cells (P.map aI)] R (p146 P k ka ys ans R)):=fnI_ok hA fun S bs q h hp=>by
  unfold p146 at h
  split at h
  · split at h
    · cases h
      obtain ⟨_,_,_,_,h1,rfl,h2⟩:=hp
      have:=ih _ _ _ _ h2
      simp only [aPu,aI,aB,← h1,← hk] at this
      exact this
    · cases h
  · cases h
theorem cb146 {A:Frm→Prop} {P:List Int} {ys:Nat→List AV} {ans:Nat→Bool} {R:Nat} {h0:Nat→Option AObj} (hA:∀ F,A F→Acb Try.prog (hasg (enumA 0 [.cells (P.map aI)])) h0 ys (fun _=>nth [.cells (P.map aI)]) ans R F) :
    ∀ S bs,(cbX [0] ys (fun _=>[.cells (P.map aI)]) ans R S bs).1→Wf S→∀ ops o g args tys caps,Want ops o S→o.op=.call { callee:=.value g,args:=args,argTypes:=tys }→calleeOf (ev S g)=some (none,caps)→args.toList.map (ev S)++caps=bs→VE A Try.prog ops o (cbX [0] ys (fun _=>[.cells (P.map aI)]) ans R S bs).2 S :=
  fun S bs h hS ops o g args tys caps hw ho hg hb=>cbX_sound hA (fun i o hi=>by
    rw [enumA_get] at hi
    cases i with
    |zero=>rfl
    |succ i=>simp at hi) (by simp) h hS hw ho hg hb
theorem gp_env {A:Frm→Prop} {P:List Int} {k:Nat} {ka:Int} {ys:Nat→List AV} {ans:Nat→Bool} {R:Nat} {h0:Nat→Option AObj} (hk:ka=(k:Int)) (ih:GpFn P k) (hA:∀ F,A F→Acb Try.prog (hasg (enumA 0 [.cells (P.map aI)])) h0 ys (fun _=>nth [.cells (P.map aI)]) ans R F) :
    Env A Try.prog tyB (Go.Sym.tabC (cbX [0] ys (fun _=>[.cells (P.map aI)]) ans R) [(146,fnI [.cells (P.map aI)] R (p146 P k ka ys ans R))]):=⟨tyB_ok,tabC_ok (cb146 hA) ⟨e146 hk ih hA,trivial⟩,by kernel_rfl⟩
theorem gp_env0 {A:Frm→Prop} {P:List Int} {ys:Nat→List AV} {ans:Nat→Bool} {R:Nat} {h0:Nat→Option AObj} (hA:∀ F,A F→Acb Try.prog (hasg (enumA 0 [.cells (P.map aI)])) h0 ys (fun _=>nth [.cells (P.map aI)]) ans R F) :
    Env A Try.prog tyB (Go.Sym.tabC (cbX [0] ys (fun _=>[.cells (P.map aI)]) ans R) []):=⟨tyB_ok,tabC_ok (cb146 hA) trivial,by kernel_rfl⟩
def gpT (P B:List Int) (k n j:Nat):St:={ t:=asg [(1,aI k),(2,.ptr 1 0),(3,.ptr 0 0),(4,.ptr 2 0),(5,.ptr 3 0),(7,aB false),(8,aI n)],h:=hasg [(0,.cells (P.map aI)),(1,.cells [.cb]),(2,.cells [.clo 146 [.ptr 1 0,.ptr 0 0,.ptr 2 0]]),(3,.cells (B.map aI))],n:=4,j:=j,m:=3 }
theorem gp_h (P:List Int):hasg (enumA 0 (gpL P))=hasg (gpH P):=rfl
theorem gp_h' (P:List Int):hasg (enumO 0 ((gpL P).map some))=hasg (gpH P):=rfl
def tbM2_146:=vk @ty3 (vk @ty142 (vk @ty166 (vk @ty167 (vk @ti3.eq_1 (vk @ti142.eq_1 (vk @ti166.eq_1 @ti167.eq_1))))))
def xbM2_1:=vk @aI.eq_1 (vk @aB.eq_1 (@aPu.eq_1))
theorem gp_all (P:List Int) (hP:PuOk P):∀ m k,k+m=4→GpFn P k:=by
  intro m
  induction m with
  |zero =>
    intro k hk B ys ans R hG
    obtain rfl:k=4:=by omega
    have hA:∀ F,Acb Try.prog (hasg (enumA 0 [.cells (P.map aI)])) (hasg (gpH P)) ys (fun _=>nth [.cells (P.map aI)]) ans R F→Acb Try.prog (hasg (enumA 0 [.cells (P.map aI)])) (hasg (gpH P)) ys (fun _=>nth [.cells (P.map aI)]) ans R F:=fun _ h=>h
    have env:=gp_env0 hA
    have hd:P.drop 4=[]:=List.drop_of_length_le (by rw [hP.len];omega)
    have hN:(partsL (P.drop 4)).length=1:=by rw [hd];rfl
    have hr:=hG.rounds
    rw [hN] at hr
    have hR:R=1:=by
      have h1:=hr.le
      have h2:=hr.lt (k:=0) (by omega) (fun j hj=>by omega)
      omega
    subst hR
    have hy:=hG.ys 0 (by rw [hN];omega)
    rw [hd] at hy
    have hy:ys 0=[.agg (B.map aI)]:=by
      rw [hy]
      have:B.take 4=B:=List.take_of_length_le (by rw [hG.len];omega)
      simp [partsL,aPu,this]
    have hBl:=hG.len
    have tB:(B.map aI).take 4=B.map aI:=List.take_of_length_le (by simp [hBl])
    rw [gp_h,gp_h']
    refine Fn.of (A:=Acb Try.prog (hasg (enumA 0 [.cells (P.map aI)])) (hasg (gpH P)) ys (fun _=>nth [.cells (P.map aI)]) ans 1) (n0:=3) (D:=noD) (Fn0 Try.func146 rfl (fun vs w=>by kernel_rfl) (by kernel_rfl)) (by simp) (by simp [AV.ids,aPu,pu_ids,aI]) ?_ (fun F hb h0 _=>⟨h0,fun i o hi=>?_,hb⟩) noD_ok ?_
    · intro i o hi
      have h:=hasg_mem hi
      simp [gpH] at h
      rcases h with ⟨rfl,rfl⟩|⟨rfl,rfl⟩|⟨rfl,rfl⟩ <;> simp [AObj.ids,AV.ids,AV.idsL,pu_ids]
    · rw [enumA_get] at hi
      cases i with
      |zero=>exact ⟨_,rfl⟩
      |succ i=>simp at hi
    repeat' (first|(apply nx;with_reducible constructor)|refine uq (by decide) ?_|((first|refine vz env fun Q hQ=>?_|refine vj fun Q hQ=>?_);simp only [vkt,seval,tbM2_146,xbM2_1,gpT,gpH,gpL,puL,p146,mAD,List.length_map,Nat.mul_one,Go.Sym.tabC,cbX,fnI,pinB,lentOK,nth,hwL,hBl,tB,hy];(try simp only [ite_and]);(repeat' (first|with_reducible assumption|refine And.intro ?_ ?_|intro hp));all_goals (first|(refine hQ _ ?_;clear hQ Q)|(refine hQ _ (fun h=>?_) (fun h=>?_) <;> clear hQ Q <;> (try simp only [vki,reduceCtorEq] at h))|omega|assumption|with_reducible rfl|(refine vq ?_;kernel_rfl)|skip)))
    (simp only [vrt,Try.results146,vkt,seval,tbM2_146,xbM2_1,gpT,gpH,gpL,puL,p146,mAD,List.length_map,Nat.mul_one,Go.Sym.tabC,cbX,fnI,pinB,lentOK,nth,hwL];refine Fin.ok some [] ?_ ?_ ?_ ?_ ?_ rfl;all_goals (try simp only [vle,vkt,seval,tbM2_146,xbM2_1,gpT,gpH,gpL,puL,p146,mAD,List.length_map,Nat.mul_one,Go.Sym.tabC,cbX,fnI,pinB,lentOK,nth,hwL]))
    all_goals first|rfl|(simp;done)
  |succ m ih =>
    intro k hk B ys ans R hG
    have hk4:k < 4:=by omega
    have hPl:=hP.len
    have hBl:=hG.len
    have hkP:k < P.length:=by omega
    have hkB:k < B.length:=by omega
    obtain ⟨pk,hpk⟩:∃ x,P.getD k 0=x:=⟨_,rfl⟩
    have hpb:=hP.at hk4
    rw [hpk] at hpb
    have hd:P.drop k=pk :: P.drop (k+1):=by
      rw [List.drop_eq_getElem_cons hkP,← hpk];simp [List.getD_eq_getElem?_getD,hkP]
    have hr:=hG.rounds
    have hys:=hG.ys
    rw [hd] at hr hys
    rw [parts_len] at hr
    have hMp:=parts_pos (P.drop (k+1))
    obtain ⟨M,hM⟩:∃ x,(partsL (P.drop (k+1))).length=x:=⟨_,rfl⟩
    rw [hM] at hr hMp
    have hA:∀ F,Acb Try.prog (hasg (enumA 0 [.cells (P.map aI)])) (hasg (gpH P)) ys (fun _=>nth [.cells (P.map aI)]) ans R F→Acb Try.prog (hasg (enumA 0 [.cells (P.map aI)])) (hasg (gpH P)) ys (fun _=>nth [.cells (P.map aI)]) ans R F:=fun _ h=>h
    have env:=gp_env (ka:=(k:Int)+1) (k:=k+1) rfl (ih (k+1) (by omega)) hA
    rw [gp_h,gp_h']
    refine Fn.of (A:=Acb Try.prog (hasg (enumA 0 [.cells (P.map aI)])) (hasg (gpH P)) ys (fun _=>nth [.cells (P.map aI)]) ans R) (n0:=3) (D:=noD) (Fn0 Try.func146 rfl (fun vs w=>by kernel_rfl) (by kernel_rfl)) (by simp) (by simp [AV.ids,aPu,pu_ids,aI]) ?_ (fun F hb h0 _=>⟨h0,fun i o hi=>?_,hb⟩) noD_ok ?_
    · intro i o hi
      have h:=hasg_mem hi
      simp [gpH] at h
      rcases h with ⟨rfl,rfl⟩|⟨rfl,rfl⟩|⟨rfl,rfl⟩ <;> simp [AObj.ids,AV.ids,AV.idsL,pu_ids]
    · rw [enumA_get] at hi
      cases i with
      |zero=>exact ⟨_,rfl⟩
      |succ i=>simp at hi
    have tB:(B.map aI).take 4=B.map aI:=List.take_of_length_le (by simp [hBl])
    have d4:decide ((k:Int)=4)=false:=decide_eq_false (by omega)
    have e9:=wrap64 (n:=(k:Int)+1) (by omega) (by omega)
    have pg:=pu_get hkP
    rw [hpk] at pg
    have e0:(0:Int)≤(k:Int):=by omega
    repeat' (first|(apply nx;with_reducible constructor)|refine uq (by decide) ?_|((first|refine vz env fun Q hQ=>?_|refine vj fun Q hQ=>?_);simp only [vkt,seval,tbM2_146,xbM2_1,gpT,gpH,gpL,puL,p146,mAD,List.length_map,Nat.mul_one,Go.Sym.tabC,cbX,fnI,pinB,lentOK,nth,hwL,hBl,tB,d4];(try simp only [ite_and]);(repeat' (first|with_reducible assumption|refine And.intro ?_ ?_|intro hp));all_goals (first|(refine hQ _ ?_;clear hQ Q)|(refine hQ _ (fun h=>?_) (fun h=>?_) <;> clear hQ Q <;> (try simp only [vki,reduceCtorEq] at h))|omega|assumption|with_reducible rfl|(refine vq ?_;kernel_rfl)|skip)))
    refine sym_loop (fun x:{ x:Nat × Nat // x.1≤pk.toNat+1∧x.2=x.1 * M∧∀ j,j < x.2→ans j=true }=>gpT P B k x.1.1 x.1.2) (fun x=>pk.toNat+1 - x.1.1) ⟨(0,0),by simp⟩ ?_ fun ⟨(n,j),hn,hj,hy⟩=>?_
    · (refine Le.ok some [] ?_;constructor;all_goals (try simp only [vle,vkt,seval,tbM2_146,xbM2_1,gpT,gpH,gpL,puL,p146,mAD,List.length_map,Nat.mul_one,Go.Sym.tabC,cbX,fnI,pinB,lentOK,nth,hwL]))
      all_goals first|rfl|(simp;done)
    simp only at hn hj hy ⊢
    by_cases hlt:n≤pk.toNat
    · have d1:decide ((n:Int)≤pk)=true:=decide_eq_true (by omega)
      have e1:=wrap64 (n:=(n:Int)+1) (by omega) (by omega)
      have hjN:j+M≤(pk.toNat+1) * M:=by rw [hj,← Nat.succ_mul];exact Nat.mul_le_mul_right _ (by omega)
      have hjR:j < R:=hr.lt (by omega) hy
      have hle:=hr.le
      have hsl:(B.set k (n:Int)).length=4:=by simp [hBl]
      have hst:=pu_set (n:=(n:Int)) hkB
      simp only [show aI (n:Int)=.v (.int .i64 (n:Int)) from rfl] at hst
      have tS:((B.set k (n:Int)).map aI).take 4=(B.set k (n:Int)).map aI:=List.take_of_length_le (by simp [hBl])
      obtain ⟨D,hD⟩:∃ x,min M (R - j)=x:=⟨_,rfl⟩
      have hD1:D≤M∧D≤R - j∧(D=M∨D=R - j)∧0 < D:=by omega
      have hGG:GpOk P (B.set k (n:Int)) (k+1) (fun i=>ys (j+i)) (fun i=>ans (j+i)) D:=by
        refine ⟨hsl,?_,fun i hi=>?_⟩
        · rw [hM]
          refine ⟨hD1.1,fun i hi=>hr.yes (j+i) (by omega),fun h=>⟨hD1.2.2.2,?_⟩⟩
          have h1:=(hr.stop (by omega)).2
          rw [show j+(D - 1)=R - 1 by omega];exact h1
        · rw [hM] at hi
          show ys (j+i)=_
          rw [hys (j+i) (by rw [parts_len,hM];omega),hj,← hM,parts_get hlt (by rw [hM];exact hi)]
          have:(B.set k (n:Int)).take (k+1)=B.take k++[(n:Int)]:=by
            rw [List.take_succ_eq_append_getElem (by simp;omega)];simp [List.take_set_of_le]
          rw [this,List.append_assoc,List.singleton_append]
      cases hb:ans (j+(D - 1)) with
      |false =>
        have eqR:R=j+D:=by have:=hr.last (k:=j+(D - 1)) (by omega) hb;omega
        subst eqR
        have hres:ans (j+D - 1)=false:=by rw [show j+D - 1=j+(D - 1) by omega];exact hb
        rw [hres]
        repeat' (first|(apply nx;with_reducible constructor)|refine uq (by decide) ?_|((first|refine vz env fun Q hQ=>?_|refine vj fun Q hQ=>?_);simp only [vkt,seval,tbM2_146,xbM2_1,gpT,gpH,gpL,puL,p146,mAD,List.length_map,Nat.mul_one,Go.Sym.tabC,cbX,fnI,pinB,lentOK,nth,hwL,hBl,hPl,tB,pg,d1,e9,e1,hst,hsl,tS,hM,hD,hGG,hb,hkP];(try simp only [ite_and]);(repeat' (first|with_reducible assumption|refine And.intro ?_ ?_|intro hp));all_goals (first|(refine hQ _ ?_;clear hQ Q)|(refine hQ _ (fun h=>?_) (fun h=>?_) <;> clear hQ Q <;> (try simp only [vki,reduceCtorEq] at h))|omega|assumption|with_reducible rfl|(refine vq ?_;kernel_rfl)|skip)))
        (simp only [vrt,Try.results146,vkt,seval,tbM2_146,xbM2_1,gpT,gpH,gpL,puL,p146,mAD,List.length_map,Nat.mul_one,Go.Sym.tabC,cbX,fnI,pinB,lentOK,nth,hwL];refine Fin.ok some [] ?_ ?_ ?_ ?_ ?_ rfl;all_goals (try simp only [vle,vkt,seval,tbM2_146,xbM2_1,gpT,gpH,gpL,puL,p146,mAD,List.length_map,Nat.mul_one,Go.Sym.tabC,cbX,fnI,pinB,lentOK,nth,hwL]))
        all_goals first|rfl|(simp;done)
      |true =>
        have hDM:D=M:=by
          refine Classical.byContradiction fun hne=>?_
          have h1:=(hr.stop (by omega)).2
          rw [show R - 1=j+(D - 1) by omega,hb] at h1
          cases h1
        have hnx:n+1≤pk.toNat+1∧j+D=(n+1) * M∧∀ i,i < j+D→ans i=true:=by
          refine ⟨by omega,by rw [hj,hDM,Nat.succ_mul],fun i hi=>?_⟩
          by_cases h1:i < j
          · exact hy i h1
          · by_cases h2:i+1 < R
            · exact hr.yes i h2
            · rw [show i=j+(D - 1) by omega];exact hb
        repeat' (first|(apply nx;with_reducible constructor)|refine uq (by decide) ?_|((first|refine vz env fun Q hQ=>?_|refine vj fun Q hQ=>?_);simp only [vkt,seval,tbM2_146,xbM2_1,gpT,gpH,gpL,puL,p146,mAD,List.length_map,Nat.mul_one,Go.Sym.tabC,cbX,fnI,pinB,lentOK,nth,hwL,hBl,hPl,tB,pg,d1,e9,e1,hst,hsl,tS,hM,hD,hGG,hb,hkP];(try simp only [ite_and]);(repeat' (first|with_reducible assumption|refine And.intro ?_ ?_|intro hp));all_goals (first|(refine hQ _ ?_;clear hQ Q)|(refine hQ _ (fun h=>?_) (fun h=>?_) <;> clear hQ Q <;> (try simp only [vki,reduceCtorEq] at h))|omega|assumption|with_reducible rfl|(refine vq ?_;kernel_rfl)|skip)))
        refine ⟨⟨(n+1,j+D),hnx⟩,by show pk.toNat+1 - (n+1) < pk.toNat+1 - n;omega,?_⟩
        (refine Le.ok some [] ?_;constructor;all_goals (try simp only [vle,vkt,seval,tbM2_146,xbM2_1,gpT,gpH,gpL,puL,p146,mAD,List.length_map,Nat.mul_one,Go.Sym.tabC,cbX,fnI,pinB,lentOK,nth,hwL]))
        all_goals first|rfl|(simp;done)
    · have d1:decide ((n:Int)≤pk)=false:=decide_eq_false (by omega)
      have hn1:n=pk.toNat+1:=by omega
      have eqR:R=j:=by
        have h1:=hr.all (k:=j) (by rw [hj,hn1];exact Nat.le_refl _) hy
        rw [h1,hj,hn1]
      subst eqR
      have hjp:0 < R:=by rw [hj,hn1];exact Nat.mul_pos (by omega) hMp
      have hres:ans (R - 1)=true:=hy _ (by omega)
      rw [hres]
      repeat' (first|(apply nx;with_reducible constructor)|refine uq (by decide) ?_|((first|refine vz env fun Q hQ=>?_|refine vj fun Q hQ=>?_);simp only [vkt,seval,tbM2_146,xbM2_1,gpT,gpH,gpL,puL,p146,mAD,List.length_map,Nat.mul_one,Go.Sym.tabC,cbX,fnI,pinB,lentOK,nth,hwL,hBl,hPl,tB,pg,d1,e9];(try simp only [ite_and]);(repeat' (first|with_reducible assumption|refine And.intro ?_ ?_|intro hp));all_goals (first|(refine hQ _ ?_;clear hQ Q)|(refine hQ _ (fun h=>?_) (fun h=>?_) <;> clear hQ Q <;> (try simp only [vki,reduceCtorEq] at h))|omega|assumption|with_reducible rfl|(refine vq ?_;kernel_rfl)|skip)))
      (simp only [vrt,Try.results146,vkt,seval,tbM2_146,xbM2_1,gpT,gpH,gpL,puL,p146,mAD,List.length_map,Nat.mul_one,Go.Sym.tabC,cbX,fnI,pinB,lentOK,nth,hwL];refine Fin.ok some [] ?_ ?_ ?_ ?_ ?_ rfl;all_goals (try simp only [vle,vkt,seval,tbM2_146,xbM2_1,gpT,gpH,gpL,puL,p146,mAD,List.length_map,Nat.mul_one,Go.Sym.tabC,cbX,fnI,pinB,lentOK,nth,hwL]))
      all_goals first|rfl|(simp;done)
end Go.Sym.B
namespace Go.Sym.B
open Go Go.Sym Go.Proofs Go.Sym.C
def ptY (P:List Int) (j:Nat):List AV:=[aPu ((partsL P).getD j [])]
def tbM3_145:=vk @ty3 (vk @ty142 (vk @ty167 (vk @ti3.eq_1 (vk @ti142.eq_1 @ti167.eq_1))))
def xbM3_1:=vk @aI.eq_1 (vk @aB.eq_1 (@aPu.eq_1))
theorem parts_it (P:List Int) (hP:PuOk P):Iter Try.prog 145 [.cb,.ptr 0 0] (nth [.cells (P.map aI)]) (ptY P) (partsL P).length (fun _=>nth [.cells (P.map aI)]) fun _ _=>.tup []:=by
  intro ans R hr
  obtain ⟨A0,hA0⟩:∃ A0:Frm→Prop,A0=Acb Try.prog (hasg (enumA 0 [.cells (P.map aI)])) (hasg [(0,.cells (P.map aI))]) (ptY P) (fun _=>nth [.cells (P.map aI)]) ans R:=⟨_,rfl⟩
  have hA:∀ F,A0 F→Acb Try.prog (hasg (enumA 0 [.cells (P.map aI)])) (hasg [(0,.cells (P.map aI))]) (ptY P) (fun _=>nth [.cells (P.map aI)]) ans R F:=fun F h=>hA0 ▸ h
  have env:=gp_env (ka:=0) (k:=0) rfl (gp_all P hP 4 0 rfl) hA
  have e0:(nth [.cells (P.map aI)])=hasg [(0,.cells (P.map aI))]:=by
    funext i
    match i with
    |0=>rfl
    |i+1=>simp [nth,hasg]
  have e0':hasg (enumA 0 [.cells (P.map aI)])=hasg [(0,AObj.cells (P.map aI))]:=rfl
  rw [← e0'] at e0
  have hbcc:∀ c,Bcb Try.prog (nth [.cells (P.map aI)]) (ptY P) (fun _=>nth [.cells (P.map aI)]) ans R c→Bcc Try.prog (hasg (enumA 0 [.cells (P.map aI)])) (hasg [(0,.cells (P.map aI))]) (ptY P) (fun _=>nth [.cells (P.map aI)]) ans R c:=fun c h=>by
    show Bcc Try.prog (hasg (enumA 0 [.cells (P.map aI)])) (hasg (enumA 0 [.cells (P.map aI)])) (ptY P) (fun _=>nth [.cells (P.map aI)]) ans R c
    rw [← e0]
    exact h
  have hG:GpOk P [0,0,0,0] 0 (ptY P) ans R:=⟨rfl,by rw [List.drop_zero];exact hr,fun j hj=>by simp [ptY]⟩
  have hG':GpOk P [0,0,0,0] 0 (fun j=>ptY P j) (fun j=>ans j) R:=hG
  have hle:=hr.le
  have m1:min (partsL P).length R=R:=Nat.min_eq_right hle
  have hs0:R - 0=R:=rfl
  have hz:([0,0,0,0]:List Int).map aI=[.v (.int .i64 0),.v (.int .i64 0),.v (.int .i64 0),.v (.int .i64 0)]:=rfl
  have hzd:([.v (.int .i64 0),.v (.int .i64 0),.v (.int .i64 0),.v (.int .i64 0)]:List AV).map aD=[0,0,0,0]:=rfl
  refine Fn.of (A:=A0) (n0:=1) (D:=noD) (Fn0 Try.func145 rfl (fun vs w=>by kernel_rfl) (by kernel_rfl)) (by simp) (by simp [AV.ids]) ?_ (fun F hb h0 _=>hA0 ▸ ⟨h0.trans (e0.trans e0'),fun i o hi=>⟨o,hi⟩,hbcc _ hb⟩) noD_ok ?_
  · intro i o hi
    rw [e0] at hi
    have h:=hasg_mem hi
    simp [enumA] at h
    obtain ⟨rfl,rfl⟩:=h
    simp [AObj.ids,pu_ids]
  rw [e0,e0']
  repeat' (first|(apply nx;with_reducible constructor)|refine uq (by decide) ?_|((first|refine vz env fun Q hQ=>?_|refine vj fun Q hQ=>?_);simp only [vkt,seval,tbM3_145,xbM3_1,gpH,gpL,puL,p146,mAD,List.length_map,Go.Sym.tabC,cbX,fnI,pinB,lentOK,nth,hwL,List.drop_zero,hG,hG',m1,hs0,hz,hzd,hle];(try simp only [ite_and]);(repeat' (first|with_reducible assumption|refine And.intro ?_ ?_|intro hp));all_goals (first|(refine hQ _ ?_;clear hQ Q)|(refine hQ _ (fun h=>?_) (fun h=>?_) <;> clear hQ Q <;> (try simp only [vki,reduceCtorEq] at h))|omega|assumption|with_reducible rfl|(refine vq ?_;kernel_rfl)|skip)))
  (simp only [vrt,Try.results145,vkt,seval,tbM3_145,xbM3_1,gpH,gpL,puL,p146,mAD,List.length_map,Go.Sym.tabC,cbX,fnI,pinB,lentOK,nth,hwL,List.drop_zero];refine Fin.ok some [] ?_ ?_ ?_ ?_ ?_ rfl;all_goals (try simp only [vle,vkt,seval,tbM3_145,xbM3_1,gpH,gpL,puL,p146,mAD,List.length_map,Go.Sym.tabC,cbX,fnI,pinB,lentOK,nth,hwL,List.drop_zero]))
  all_goals first|rfl|(simp;done)
def p130 (_:St):List AV→Option Pk
  |[.agg cs]=>some { pre:=cs=(cs.map aD).map aI,ar:=[.agg cs],v:=.clo 145 [.ptr 0 0],L1:=[some (.cells cs)] }
  |_=>none
def xbM3_2:=vk @aI.eq_1 (vk @aB.eq_1 (@aPu.eq_1))
theorem parts_fn (p:List Int):Fn noB Try.prog 130 [aPu p] (hasg []) (.clo 145 [.ptr 0 0]) (hasg [(0,.cells (p.map aI))]) 0:=by
  have env:Env (fun _=>True) Try.prog tyB (tab []):=mkEnv trivial
  refine Fn.of (A:=fun _=>True) (n0:=0) (D:=noD) (Fn0 Try.func130 rfl (fun vs w=>by kernel_rfl) (by kernel_rfl)) (by simp) (by simp [AV.ids,aPu,pu_ids]) (fun i o h=>by cases h) (fun _ _ _ _=>trivial) noD_ok ?_
  repeat' (first|(apply nx;with_reducible constructor)|refine uq (by decide) ?_|((first|refine vz env fun Q hQ=>?_|refine vj fun Q hQ=>?_);simp only [vkt,seval,xbM3_2,puL,List.length_map];(try simp only [ite_and]);(repeat' (first|with_reducible assumption|refine And.intro ?_ ?_|intro hp));all_goals (first|(refine hQ _ ?_;clear hQ Q)|(refine hQ _ (fun h=>?_) (fun h=>?_) <;> clear hQ Q <;> (try simp only [vki,reduceCtorEq] at h))|omega|assumption|with_reducible rfl|(refine vq ?_;kernel_rfl)|skip)))
  (simp only [vrt,Try.results130,vkt,seval,xbM3_2,puL,List.length_map];refine Fin.ok some [] ?_ ?_ ?_ ?_ ?_ rfl;all_goals (try simp only [vle,vkt,seval,xbM3_2,puL,List.length_map]))
  all_goals first|rfl|exact ⟨pu_le _ _ _,trivial⟩|(simp;done)
theorem e130 {A:Frm→Prop}:EntryOK A Try.prog 130 (fnE p130):=fnE_ok fun S bs q h hp=>by
  unfold p130 at h
  split at h
  · rename_i cs
    cases h
    have:=parts_fn (cs.map aD)
    simp only [aPu,← (show cs=(cs.map aD).map aI from hp)] at this
    exact this
  · cases h
def fwGet:List (Int × List Int)→Int→Option (List Int)
  |[],_=>none
  |q :: m,n=>if q.1=n then some q.2 else fwGet m n
def fwSet:List (Int × List Int)→Int→List Int→List (Int × List Int)
  |[],n,x=>[(n,x)]
  |q :: m,n,x=>if q.1=n then (n,x) :: m else q :: fwSet m n x
def fwStep (ps:List Int) (m:List (Int × List Int)) (x:List Int):List (Int × List Int) :=
  fwSet m (dotL ps x) (match fwGet m (dotL ps x) with|some y=>btr List.sum y x|none=>x)
def fwK (ps P:List Int) (k:Nat):List (Int × List Int):=((partsL P).take k).foldl (fwStep ps) []
def fewL (ps P:List Int):List (Int × List Int):=(partsL P).foldl (fwStep ps) []
theorem fwK_succ {ps P:List Int} {k:Nat} (h:k < (partsL P).length):fwK ps P (k+1)=fwStep ps (fwK ps P k) ((partsL P).getD k []):=by
  rw [fwK,List.take_succ_eq_append_getElem h,List.foldl_append]
  simp [fwK,List.getD_eq_getElem?_getD,h]
def encV (x:List Int):Value:=.agg (x.map (Value.int .i64)).toArray
def encM (m:List (Int × List Int)):List (Value × Value):=m.map fun q=>(.int .i64 q.1,encV q.2)
theorem mget_enc (n:Int):∀ m,mget (encM m) (.int .i64 n)=(fwGet m n).map encV
  |[]=>rfl
  |q :: m=>by
    have ih:=mget_enc n m
    simp only [encM,List.map_cons,mget,fwGet] at ih ⊢
    by_cases h:q.1=n
    · rw [if_pos h,if_pos (by rw [h])];rfl
    · rw [if_neg h,if_neg (by simpa using h)];exact ih
theorem mset_enc (n:Int) (x:List Int):∀ m,mset (encM m) (.int .i64 n) (encV x)=encM (fwSet m n x)
  |[]=>rfl
  |q :: m=>by
    have ih:=mset_enc n x m
    simp only [encM,List.map_cons,mset,fwSet] at ih ⊢
    by_cases h:q.1=n
    · rw [if_pos h,if_pos (by rw [h])];rfl
    · rw [if_neg h,if_neg (by simpa using h),ih];rfl
theorem fwSet_keys (n:Int) (x:List Int):∀ m a,a ∈ (fwSet m n x).map (·.1)→a=n∨a ∈ m.map (·.1)
  |[],a,h=>by simp [fwSet] at h;exact .inl h
  |q :: m,a,h=>by
    simp only [fwSet] at h
    split at h
    · simp only [List.map_cons,List.mem_cons] at h ⊢
      rcases h with h|h
      · exact .inl h
      · exact .inr (.inr h)
    · simp only [List.map_cons,List.mem_cons] at h ⊢
      rcases h with h|h
      · exact .inr (.inl h)
      · rcases fwSet_keys n x m a h with h|h
        · exact .inl h
        · exact .inr (.inr h)
theorem fwSet_nd (n:Int) (x:List Int):∀ m,(m.map (·.1)).Nodup→((fwSet m n x).map (·.1)).Nodup
  |[],_=>by simp [fwSet]
  |q :: m,h=>by
    simp only [List.map_cons,List.nodup_cons] at h
    simp only [fwSet]
    split
    · rename_i hq;simp only [List.map_cons,List.nodup_cons];exact ⟨hq ▸ h.1,h.2⟩
    · rename_i hq
      simp only [List.map_cons,List.nodup_cons]
      refine ⟨fun hm=>?_,fwSet_nd n x m h.2⟩
      rcases fwSet_keys n x m _ hm with h1|h1
      · exact hq h1
      · exact h.1 h1
theorem fwSet_len (n:Int) (x:List Int):∀ m,(fwSet m n x).length≤m.length+1
  |[]=>by simp [fwSet]
  |q :: m=>by
    simp only [fwSet]
    split
    · simp
    · simp only [List.length_cons];have:=fwSet_len n x m;omega
theorem fwK_nd (ps P:List Int):∀ k,((fwK ps P k).map (·.1)).Nodup∧(fwK ps P k).length≤k:=by
  have key:∀ (l:List (List Int)) (m:List (Int × List Int)) (k:Nat),(m.map (·.1)).Nodup→m.length≤k→((l.foldl (fwStep ps) m).map (·.1)).Nodup∧(l.foldl (fwStep ps) m).length≤k+l.length:=by
    intro l
    induction l with
    |nil=>intro m k h1 h2;exact ⟨h1,h2⟩
    |cons x l ih =>
      intro m k h1 h2
      have:=ih (fwStep ps m x) (k+1) (fwSet_nd _ _ _ h1) (Nat.le_trans (fwSet_len _ _ _) (by omega))
      simp only [List.foldl_cons,List.length_cons]
      exact ⟨this.1,by omega⟩
  intro k
  have:=key ((partsL P).take k) [] 0 (by simp) (Nat.le_refl _)
  exact ⟨this.1,by have:=this.2;simp only [fwK];rw [List.length_take] at this;omega⟩
theorem mok_enc {m:List (Int × List Int)} (h:(m.map (·.1)).Nodup):MOK (KD.Q (.one (.int .i64))) (encM m):=by
  refine ⟨?_,fun p hp=>?_⟩
  · have:(encM m).map (·.1)=(m.map (·.1)).map (Value.int .i64):=by simp [encM,Function.comp_def]
    rw [this]
    exact List.Pairwise.map _ (fun a b h e=>h (by simpa using e)) h
  · obtain ⟨q,_,rfl⟩:=List.mem_map.1 hp
    simp [KD.Q,MapKept.IsKey]
theorem vav_enc (x:List Int):vAV (encV x)=.agg (x.map aI):=by simp [vAV,encV,aI,Function.comp_def]
theorem vok_enc (x:List Int):vokB true (encV x)=true:=by simp [vokB,encV,Value.oneCell']
theorem cv_enc:∀ x:List Int,cellsV (x.map aI)=some (x.map (Value.int .i64))
  |[]=>rfl
  |n :: x=>by simp only [List.map_cons,aI,cellsV,cv_enc x];simp
theorem tov2 (x:List Int):Option.map (fun l:List Value=>Value.agg l.toArray) (cellsV (x.map aI))=some (encV x):=by simp [cv_enc,encV]
theorem fw_pu {ps P:List Int} (hP:PuOk P):∀ k,∀ q ∈ fwK ps P k,PuOk q.2:=by
  have set:∀ (n:Int) (x:List Int) (m:List (Int × List Int)),PuOk x→(∀ q ∈ m,PuOk q.2)→∀ q ∈ fwSet m n x,PuOk q.2:=by
    intro n x m hx
    induction m with
    |nil=>intro _ q hq;simp [fwSet] at hq;subst hq;exact hx
    |cons r m ih =>
      intro hm q hq
      simp only [fwSet] at hq
      split at hq
      · rcases List.mem_cons.1 hq with rfl|hq
        · exact hx
        · exact hm q (List.mem_cons_of_mem _ hq)
      · rcases List.mem_cons.1 hq with rfl|hq
        · exact hm _ List.mem_cons_self
        · exact ih (fun q hq=>hm q (List.mem_cons_of_mem _ hq)) q hq
  have get:∀ (n:Int) (m:List (Int × List Int)) (y:List Int),fwGet m n=some y→(∀ q ∈ m,PuOk q.2)→PuOk y:=by
    intro n m
    induction m with
    |nil=>intro y h;simp [fwGet] at h
    |cons r m ih =>
      intro y h hm
      simp only [fwGet] at h
      split at h
      · cases h;exact hm _ List.mem_cons_self
      · exact ih y h fun q hq=>hm q (List.mem_cons_of_mem _ hq)
  have key:∀ (l:List (List Int)) (m:List (Int × List Int)),(∀ x ∈ l,PuOk x)→(∀ q ∈ m,PuOk q.2)→∀ q ∈ l.foldl (fwStep ps) m,PuOk q.2:=by
    intro l
    induction l with
    |nil=>intro m _ h;exact h
    |cons x l ih =>
      intro m hl hm
      refine ih _ (fun y hy=>hl y (List.mem_cons_of_mem _ hy)) (set _ _ _ ?_ hm)
      have hx:=hl x List.mem_cons_self
      split
      · rename_i y hy
        have hyy:=get _ _ _ hy hm
        unfold btr;split <;> assumption
      · exact hx
  intro k
  exact key _ [] (fun x hx=>parts_ok hP (List.mem_of_mem_take hx)) (by simp)
theorem fwGet_pu {m:List (Int × List Int)} {n:Int} {y:List Int} (h:fwGet m n=some y) (hm:∀ q ∈ m,PuOk q.2):PuOk y:=by
  induction m with
  |nil=>simp [fwGet] at h
  |cons r m ih =>
    simp only [fwGet] at h
    split at h
    · cases h;exact hm _ List.mem_cons_self
    · exact ih h fun q hq=>hm q (List.mem_cons_of_mem _ hq)
theorem parts_le:∀ {q:List Int},(∀ n ∈ q,n≤4)→(partsL q).length≤5 ^ q.length
  |[],_=>by simp [partsL]
  |p :: ps,h=>by
    have ih:=parts_le (q:=ps) fun n hn=>h n (List.mem_cons_of_mem _ hn)
    have:=h p List.mem_cons_self
    rw [parts_len,List.length_cons,Nat.pow_succ,Nat.mul_comm]
    exact Nat.mul_le_mul ih (by omega)
theorem PuOk.parts {P:List Int} (h:PuOk P):(partsL P).length≤625:=by
  have:=parts_le (q:=P) fun n hn=>(h.bd n hn).2
  rw [h.len] at this;exact this
theorem pu_nocb:∀ p:List Int,AV.nocbL (p.map aI)=True
  |[]=>rfl
  |n :: p=>by simp only [List.map_cons,AV.nocbL,pu_nocb p];simp [aI,AV.nocb]
def fwC (ps P:List Int) (k:Nat):List (Nat × AObj):=[(0,.cells (P.map aI)),(1,.cells [.sl (ps.map eInt)]),(2,.map (encM (fwK ps P k))),(3,.cells [.mp 2])]
def fwL:List (Nat × AV):=[(2,.ptr 0 0),(3,.ptr 1 0),(5,.ptr 3 0),(12,.clo 145 [.ptr 4 0])]
theorem fw_lent (P:List Int):lentA [4] (5+1) 0 [.cells (P.map aI)]=[(4,.cells (P.map aI))]:=by simp [lentA,callRen,AObj.ren,pu_ren]
theorem all_yes {N:Nat}:Rounds (fun _=>true) N N:=⟨Nat.le_refl _,fun _ _=>rfl,fun h=>absurd h (Nat.lt_irrefl _)⟩
def tbM3_126:=vk @ty3 (vk @ty22 (vk @ty142 (vk @ty144 (vk @ti3.eq_1 (vk @ti22.eq_1 (vk @ti142.eq_1 @ti144.eq_1))))))
def xbM3_3:=vk @aI.eq_1 (vk @aB.eq_1 (vk @aInts.eq_1 (vk @aPu.eq_1 (vk @mInt (vk @eInt.eq_1 (@gInt))))))
theorem fewest_fn (P ps:List Int) (hP:PuOk P) (hs:PzOk ps):Fn noB Try.prog 126 [aPu P,aInts ps] (hasg []) (.mp 0) (hasg [(0,.map (encM (fewL ps P)))]) 0:=by
  have env:Env (fun F=>F.r=none) Try.prog tyB (tab [(130,fnE p130),(131,valE true c131),(144,valE true c144)]):=mkEnv ⟨e130,d131,d144,trivial⟩
  refine Fn.of (A:=fun F=>F.r=none) (n0:=0) (D:=noD) (Fn0 Try.func126 rfl (fun vs w=>by kernel_rfl) (by kernel_rfl)) (by simp) (by simp [AV.ids,aPu,aInts,pu_ids]) (fun i o h=>by cases h) (fun _ _ _ h=>h) noD_ok ?_
  have hPl:=hP.len
  have tP:(P.map aI).take 4=P.map aI:=List.take_of_length_le (by simp [hPl])
  repeat' (first|(apply nx;with_reducible constructor)|refine uq (by decide) ?_|((first|refine vz env fun Q hQ=>?_|refine vj fun Q hQ=>?_);simp only [vkt,seval,tbM3_126,xbM3_3,fwC,fwL,puL,p130,c131,c144,mAD,List.length_map,rStart,fw_lent,vav_enc,vok_enc,tov2,mget_enc,mset_enc,MapKept.IsKey,hPl,tP];(try simp only [ite_and]);(repeat' (first|with_reducible assumption|refine And.intro ?_ ?_|intro hp));all_goals (first|(refine hQ _ ?_;clear hQ Q)|(refine hQ _ (fun h=>?_) (fun h=>?_) <;> clear hQ Q <;> (try simp only [vki,reduceCtorEq] at h))|omega|assumption|with_reducible rfl|(refine vq ?_;kernel_rfl)|skip)))
  refine sym_le (S':={ t:=asg fwL,h:=hasg (fwC ps P 0++[(4,.cells (P.map aI))]),n:=5,j:=0,d:=[],m:=0 }) ?_ ?_
  · show Le _ { t:=asg [(2,.ptr 0 0),(3,.ptr 1 0),(5,.ptr 3 0),(12,.clo 145 [.ptr 4 0])],h:=hasg [(0,.cells (P.map aI)),(1,.cells [.sl (ps.map eInt)]),(2,.map []),(3,.cells [.mp 2]),(4,.cells (P.map aI))],n:=5,j:=0,d:=[],m:=0 }
    (refine Le.ok some [] ?_;constructor;all_goals (try simp only [vle,vkt,seval,tbM3_126,xbM3_3,fwC,fwL,puL,p130,c131,c144,mAD,List.length_map,rStart,fw_lent,vav_enc,vok_enc,tov2,mget_enc,mset_enc,MapKept.IsKey]))
    all_goals first|rfl|(simp;done)
  rw [← fw_lent P]
  refine sym_rangeL (L:=fwL) (hs:=[4]) (n:=5) (nl:=0) (hc:=fwC ps P) (Lp:=[.cells (P.map aI)]) (jj:=fun _=>0) (d:=[]) (ys:=ptY P) (hl:=fun _=>[.cells (P.map aI)]) (ans:=fun _=>true) (ex:=.ret) (caps:=[.ptr 4 0]) (caps0:=[.ptr 0 0]) (N:=(partsL P).length) (R:=(partsL P).length) (A':=fun _=>True) (fun F h=>h) (fun _ _=>trivial) rfl (parts_it P hP) all_yes (.inl rfl) ?_ ?_ ?_ rfl (by simp) ?_ (by simp) ?_ (fun j hj=>?_) ?_ (fun j hj=>?_) (fun _=>?_) (fun _ h=>by cases h)
  · simp [AV.leL,AV.le]
  · simp [AV.nocbL,AV.nocb]
  · simp [lentP,AObj.nocb,pu_nocb,AObj.ids,pu_ids,AObj.ren,pu_ren,AObj.le,pu_le]
  · simp [fwC,hasg]
  · simp [idsT,fwL,AV.ids,AV.idsL]
  · refine ⟨?_,rfl,?_,?_,rfl,?_⟩
    · simp [idsH,fwC,AObj.ids,AV.ids,AV.idsL,pu_ids]
    · simp [lentQ,AObj.nocb,pu_nocb,AObj.ids,pu_ids]
    · simp [argQ,ptY,aPu,AV.nocb,pu_nocb,AV.ids,pu_ids]
    · simp [keysIn,keyIn,fw_lent,fwC,fwL,idsTL,AV.ids,AV.idsL,ADf.ids,List.range_zero]
  · simp [idsH,fwC,AObj.ids,AV.ids,AV.idsL,pu_ids]
  · have env:Env (fun _:Frm=>True) Try.prog tyB (tab [(130,fnE p130),(131,valE true c131),(144,valE true c144)]):=mkEnv ⟨e130,d131,d144,trivial⟩
    obtain ⟨x,hx⟩:∃ x,(partsL P).getD j []=x:=⟨_,rfl⟩
    have hxm:x ∈ partsL P:=hx ▸ gMem hj
    have hxo:=parts_ok hP hxm
    have hxl:=hxo.len
    have tx:(x.map aI).take 4=x.map aI:=List.take_of_length_le (by simp [hxl])
    have hS:=fwK_succ (ps:=ps) hj
    rw [hx,fwStep] at hS
    obtain ⟨nd1,nd2⟩:=fwK_nd ps P j
    have hfw:=fw_pu (ps:=ps) hP j
    have hpz:=hP.parts
    have hst:rStart fwL [13] [4] 5 0 (ptY P j) (fwC ps P j) [.cells (P.map aI)]={ t:=asg [(13,.agg (x.map aI)),(2,.ptr 0 0),(3,.ptr 1 0),(5,.ptr 3 0),(12,.clo 145 [.ptr 4 0])],h:=hasg [(5,.mark),(0,.cells (P.map aI)),(1,.cells [.sl (ps.map eInt)]),(2,.map (encM (fwK ps P j))),(3,.cells [.mp 2]),(4,.cells (P.map aI))],n:=6,m:=6 }:=by
      simp only [rStart,fw_lent,ptY,hx,aPu,List.map_cons,List.map_nil,AV.ren,pu_ren,List.zip_cons_cons,List.zip_nil_right,fwC,fwL,putsL,List.cons_append,List.nil_append]
      rfl
    show Sym _ _ _ (rStart fwL [13] [4] 5 0 (ptY P j) (fwC ps P j) [.cells (P.map aI)]) _
    rw [hst]
    generalize fwK ps P j=m at *
    obtain ⟨n,hn⟩:∃ n,dotL ps x=n:=⟨_,rfl⟩
    rw [hn] at hS
    have hmk:=mok_enc nd1
    have hlen:∀ y,(encM (fwSet m n y)).length≤maxLen:=fun y=>by
      have h1:=fwSet_len n y m
      have h2:(626:Nat)≤maxLen:=by decide
      simp only [encM,List.length_map];omega
    cases hg:fwGet m n with
    |none =>
      rw [hg] at hS
      repeat' (first|(apply nx;with_reducible constructor)|refine uq (by decide) ?_|((first|refine vz env fun Q hQ=>?_|refine vj fun Q hQ=>?_);simp only [vkt,seval,tbM3_126,xbM3_3,fwC,fwL,puL,p130,c131,c144,mAD,List.length_map,rStart,fw_lent,vav_enc,vok_enc,tov2,mget_enc,mset_enc,MapKept.IsKey,hPl,hxl,tx,hxo,hs,hn,hg,hmk,hlen];(try simp only [ite_and]);(repeat' (first|with_reducible assumption|refine And.intro ?_ ?_|intro hp));all_goals (first|(refine hQ _ ?_;clear hQ Q)|(refine hQ _ (fun h=>?_) (fun h=>?_) <;> clear hQ Q <;> (try simp only [vki,reduceCtorEq] at h))|omega|assumption|with_reducible rfl|(refine vq ?_;kernel_rfl)|skip)))
      refine ⟨rfl,rfl,some,_,RFin.ok some [] ?_⟩
      constructor
      all_goals (try simp only [vle,lentR,rensL,callRen,vkt,seval,tbM3_126,xbM3_3,fwC,fwL,puL,p130,c131,c144,mAD,List.length_map,rStart,fw_lent,vav_enc,vok_enc,tov2,mget_enc,mset_enc,MapKept.IsKey])
      all_goals first|rfl|exact congrArg encM hS.symm|(rw [hS,← hz];done)|(simp;done)
    |some y =>
      rw [hg] at hS
      have hyo:=fwGet_pu hg hfw
      have hyl:=hyo.len
      have ty:(y.map aI).take 4=y.map aI:=List.take_of_length_le (by simp [hyl])
      obtain ⟨z,hz⟩:∃ z,btr List.sum y x=z:=⟨_,rfl⟩
      have hzo:PuOk z:=by rw [← hz];unfold btr;split <;> assumption
      have hzl:=hzo.len
      have tz:(z.map aI).take 4=z.map aI:=List.take_of_length_le (by simp [hzl])
      have dz:(x.map aI).drop 4=[]:=List.drop_of_length_le (by simp [hxl])
      repeat' (first|(apply nx;with_reducible constructor)|refine uq (by decide) ?_|((first|refine vz env fun Q hQ=>?_|refine vj fun Q hQ=>?_);simp only [vkt,seval,tbM3_126,xbM3_3,fwC,fwL,puL,p130,c131,c144,mAD,List.length_map,rStart,fw_lent,vav_enc,vok_enc,tov2,mget_enc,mset_enc,MapKept.IsKey,hPl,hxl,tx,hxo,hs,hn,hg,hmk,hlen,hyo,hyl,ty,hz,hzl,tz,dz];(try simp only [ite_and]);(repeat' (first|with_reducible assumption|refine And.intro ?_ ?_|intro hp));all_goals (first|(refine hQ _ ?_;clear hQ Q)|(refine hQ _ (fun h=>?_) (fun h=>?_) <;> clear hQ Q <;> (try simp only [vki,reduceCtorEq] at h))|omega|assumption|with_reducible rfl|(refine vq ?_;kernel_rfl)|skip)))
      refine ⟨rfl,rfl,some,_,RFin.ok some [] ?_⟩
      constructor
      all_goals (try simp only [vle,lentR,rensL,callRen,vkt,seval,tbM3_126,xbM3_3,fwC,fwL,puL,p130,c131,c144,mAD,List.length_map,rStart,fw_lent,vav_enc,vok_enc,tov2,mget_enc,mset_enc,MapKept.IsKey])
      all_goals first|rfl|exact congrArg encM hS.symm|(rw [hS,← hz];done)|(simp;done)
  · have hN:fwK ps P (partsL P).length=fewL ps P:=by rw [fwK,List.take_length];rfl
    rw [fw_lent]
    simp only [fwC,hN]
    repeat' (first|(apply nx;with_reducible constructor)|refine uq (by decide) ?_|((first|refine vz env fun Q hQ=>?_|refine vj fun Q hQ=>?_);simp only [vkt,seval,tbM3_126,xbM3_3,fwC,fwL,puL,p130,c131,c144,mAD,List.length_map,rStart,fw_lent,vav_enc,vok_enc,tov2,mget_enc,mset_enc,MapKept.IsKey];(try simp only [ite_and]);(repeat' (first|with_reducible assumption|refine And.intro ?_ ?_|intro hp));all_goals (first|(refine hQ _ ?_;clear hQ Q)|(refine hQ _ (fun h=>?_) (fun h=>?_) <;> clear hQ Q <;> (try simp only [vki,reduceCtorEq] at h))|omega|assumption|with_reducible rfl|(refine vq ?_;kernel_rfl)|skip)))
    (simp only [vrt,Try.results126,vkt,seval,tbM3_126,xbM3_3,fwC,fwL,puL,p130,c131,c144,mAD,List.length_map,rStart,fw_lent,vav_enc,vok_enc,tov2,mget_enc,mset_enc,MapKept.IsKey];refine Fin.ok (fun _=>some 2) [] ?_ ?_ ?_ ?_ ?_ rfl;all_goals (try simp only [vle,vkt,seval,tbM3_126,xbM3_3,fwC,fwL,puL,p130,c131,c144,mAD,List.length_map,rStart,fw_lent,vav_enc,vok_enc,tov2,mget_enc,mset_enc,MapKept.IsKey]))
    all_goals first|rfl|(simp;done)
def p126 (_:St):List AV→Option Pk
  |[.agg cs,.sl xs]=>some { pre:=cs=(cs.map aD).map aI∧xs=(xs.map dInt).map eInt∧PuOk (cs.map aD)∧PzOk (xs.map dInt),ar:=[.agg cs,.sl xs],v:=.mp 0,L1:=[some (.map (encM (fewL (xs.map dInt) (cs.map aD))))] }
  |_=>none
theorem e126 {A:Frm→Prop}:EntryOK A Try.prog 126 (fnE p126):=fnE_ok fun S bs q h hp=>by
  unfold p126 at h
  split at h
  · cases h
    obtain ⟨h1,h2,h3,h4⟩:=hp
    have:=fewest_fn _ _ h3 h4
    simp only [aPu,aInts,← h1,← h2] at this
    exact this
  · cases h
end Go.Sym.B
namespace Go.Sym.B
open Go Go.Sym Go.Proofs Go.Sym.C
def p88x (S:St):List AV→Option Pk
  |[.psl id off n _]=>match S.h id with
    |some (.cells cs)=>some { pre:=off+n≤cs.length∧(cs.drop off).take n=(((cs.drop off).take n).map aD).map aI∧n≤100000,bo:=[id],ar:=[.sl ((((cs.drop off).take n).map aD).map eInt)],v:=.row 0,L1:=[some (.row 3 1 ((((cs.drop off).take n).map aD).map eInt))],fl:=true }
    |_=>none
  |[.sl xs]=>some { pre:=rowsOK 1 xs∧xs.length≤100000,ar:=[.sl xs],v:=.row 0,L1:=[some (.row 3 1 xs)] }
  |_=>none
theorem e88x {A:Frm→Prop}:EntryOK A Try.prog 88 (fnE p88x):=fnE_ok fun S bs q h hp=>by
  unfold p88x at h
  split at h
  · split at h
    · cases h
      obtain ⟨h1,h2,h3⟩:=hp
      exact clone88 _ (by rw [rows_eInt];trivial) (by simp;omega)
    · cases h
  · cases h;exact clone88 _ hp.1 hp.2
  · cases h
theorem dvp_aI:∀ l:List Int,dvP (l.map aI)=some (l.map fun n=>DV.v (.int .i64 n))
  |[]=>rfl
  |n :: l=>by simp only [List.map_cons,aI,dvP,dvp_aI l];rfl
theorem one_dv (l:List Int):(l.map fun n=>DV.v (.int .i64 n)).map (fun d=>[d])=l.map eInt:=by simp [Function.comp_def,eInt]
theorem flat_dv {l:List Int} {r:List DV} {d:DV} (hr:r ∈ l.map eInt) (hd:d ∈ r):∃ x,d=.v x:=by
  obtain ⟨n,_,rfl⟩:=List.mem_map.1 hr
  simp [eInt] at hd
  exact ⟨_,hd⟩
def chgL (ps dr:List Int) (n:Int):Option (List Int):=(fwGet (fewL ps (pad dr)) n).map (·.take dr.length)
def aChg (l:Led) (c:Int) (dr:List Int) (n:Int):AV:=if moneyE l c n [dr] ≠ 0 then .tup [.sl [],aI (moneyE l c n [dr])] else match chgL (l.coins.getD c.toNat []) dr n with
  |none=>.tup [.sl [],aI 11]
  |some y=>.tup [aInts y,aI 0]
def tbM4_69:=vk @ty3 (vk @ty22 (vk @ty28 (vk @ty30 (vk @ty38 (vk @ty142 (vk @ty144 (vk @ti3.eq_1 (vk @ti22.eq_1 (vk @ti28.eq_1 (vk @ti30.eq_1 (vk @ti38.eq_1 (vk @ti142.eq_1 @ti144.eq_1))))))))))))
def xbM4_1:=vk @aI.eq_1 (vk @aB.eq_1 (vk @aLed.eq_1 (vk @cLed.eq_1 (vk @aInts.eq_1 (vk @aPu.eq_1 (vk @c86.eq_1 (vk @c86.eq_2 (vk @isL_e (vk @ldOf_e (vk @eInt.eq_1 (vk @gInt (vk @mInt (vk @mInts (vk @eInts.eq_1 (@gInts)))))))))))))))
set_option maxHeartbeats 2000000 in
theorem change_fn (l:Led) (c:Int) (dr:List Int) (n:Int) (hl:Fit l) (hd:dr.length≤20):FnV Try.prog 69 [aLed l,aI c,aInts dr,aI n] (aChg l c dr n):=by
  have env:Env (fun _=>True) Try.prog tyB (tab [(86,valE true c86),(88,fnE p88x),(125,valE true c125),(126,fnE p126)]):=mkEnv ⟨d86,e88x,d125,e126,trivial⟩
  refine Fn.of (A:=fun _=>True) (n0:=0) (D:=noD) (Fn0 Try.func69 rfl (fun vs w=>by kernel_rfl) (by kernel_rfl)) (by simp) (by simp [AV.ids,AV.idsL,aI,aLed,cLed,aInts]) (fun i o h=>by cases h) (fun _ _ _ _=>trivial) noD_ok ?_
  have hml:(20:Nat)≤maxLen:=by decide
  have q0:∀ p ∈ [dr],p.length≤maxLen:=fun p hp=>by simp at hp;subst hp;omega
  have q1:(1:Nat)≤maxLen:=by omega
  have dI1:dInts [.sl (dr.map eInt)]=dr:=mInt dr
  by_cases h0:moneyE l c n [dr]=0
  · rw [show aChg l c dr n=_ from if_neg (by rw [h0];simp)]
    obtain ⟨hV,⟨g1,g2⟩,hds,hn0,hn1⟩:=money_ok h0
    obtain ⟨hdl,hdb⟩:=hds dr (List.mem_singleton.2 rfl)
    obtain ⟨ps,hP⟩:∃ x,l.coins.getD c.toNat []=x:=⟨_,rfl⟩
    have hps:PsOk ps:=hP ▸ coin_ok (hV.cs _ g2)
    rw [hP] at hdl ⊢
    have hl1:=hps.l
    have hd0:0 < dr.length:=by omega
    have hd4:dr.length≤4:=by omega
    have hd4':(dr.length:Int)≤4:=by omega
    have hd5:dr.length≤100000:=by omega
    have hml4:4≤maxLen:=by omega
    have hpu:=pad_ok hd4 hdb
    have hpc:PzOk ps:=⟨hl1.2,hps.b⟩
    obtain ⟨m,hm⟩:∃ m,fewL ps (pad dr)=m:=⟨_,rfl⟩
    have hk:=fwK_nd ps (pad dr) (partsL (pad dr)).length
    have hN:fwK ps (pad dr) (partsL (pad dr)).length=m:=by rw [fwK,List.take_length];exact hm
    have hfw:=fw_pu (ps:=ps) hpu (partsL (pad dr)).length
    rw [hN] at hk hfw
    have hmk:=mok_enc hk.1
    simp only [chgL,hm]
    cases hg:fwGet m n with
    |none =>
      repeat' (first|(apply nx;with_reducible constructor)|refine uq (by decide) ?_|((first|refine vz env fun Q hQ=>?_|refine vj fun Q hQ=>?_);simp only [vkt,seval,tbM4_69,xbM4_1,puL,c125,p126,p88x,mAD,vav_enc,vok_enc,tov2,mget_enc,MapKept.IsKey,List.length_map,hl,q0,q1,dI1,h0,g1,g2,hP,hd0,hd4,hpu,hpc,hm,hg,hmk];(try simp only [ite_and]);(repeat' (first|with_reducible assumption|refine And.intro ?_ ?_|intro hp));all_goals (first|(refine hQ _ ?_;clear hQ Q)|(refine hQ _ (fun h=>?_) (fun h=>?_) <;> clear hQ Q <;> (try simp only [vki,reduceCtorEq] at h))|omega|assumption|with_reducible rfl|(apply drawS_of;(case hs=>(try simp only [vdt,List.map_cons,List.map_nil,List.append_nil,List.nil_append,List.isEmpty_nil,List.flatMap_nil,vk9,vk14,puL]);rfl);kernel_rfl)|skip)))
      show retK tyB noD Try.f69 (fun S rv=>Fin S rv (.tup [.sl [],aI 11]) 0 noH 0) Exit.ret _
      (simp only [vrt,Try.results69,vkt,seval,tbM4_69,xbM4_1,puL,c125,p126,p88x,mAD,vav_enc,vok_enc,tov2,mget_enc,MapKept.IsKey,List.length_map];refine Fin.val rfl ?_;(try simp only [AV.le,AV.leL]))
      all_goals first|rfl|(simp;done)
    |some y =>
      have hyo:=fwGet_pu hg hfw
      have hyl:=hyo.len
      have tk:(y.map aI).take dr.length=(y.take dr.length).map aI:=by rw [List.map_take]
      repeat' (first|(apply nx;with_reducible constructor)|refine uq (by decide) ?_|((first|refine vz env fun Q hQ=>?_|refine vj fun Q hQ=>?_);simp only [vkt,seval,tbM4_69,xbM4_1,puL,c125,p126,p88x,mAD,vav_enc,vok_enc,tov2,mget_enc,MapKept.IsKey,List.length_map,hl,q0,q1,dI1,h0,g1,g2,hP,hd0,hd4,hd4',hd5,hml4,hpu,hpc,hm,hg,hmk,hyl,tk];(try simp only [ite_and]);(repeat' (first|with_reducible assumption|refine And.intro ?_ ?_|intro hp));all_goals (first|(refine hQ _ ?_;clear hQ Q)|(refine hQ _ (fun h=>?_) (fun h=>?_) <;> clear hQ Q <;> (try simp only [vki,reduceCtorEq] at h))|omega|assumption|with_reducible rfl|(apply drawS_of;(case hs=>(try simp only [vdt,List.map_cons,List.map_nil,List.append_nil,List.nil_append,List.isEmpty_nil,List.flatMap_nil,vk9,vk14,puL]);rfl);kernel_rfl)|skip)))
      all_goals first|exact flat_dv ‹_› ‹_›|exact ⟨_,_,rfl,by simp [hyl];omega,by rw [tk];exact dvp_aI _,(one_dv _).symm⟩|skip
      show retK tyB noD Try.f69 (fun S rv=>Fin S rv (.tup [aInts (y.take dr.length),aI 0]) 0 noH 0) Exit.ret _
      (simp only [vrt,Try.results69,vkt,seval,tbM4_69,xbM4_1,puL,c125,p126,p88x,mAD,vav_enc,vok_enc,tov2,mget_enc,MapKept.IsKey,List.length_map];refine Fin.val rfl ?_;(try simp only [AV.le,AV.leL]))
      all_goals first|rfl|(simp;done)|exact ⟨⟨_,_,rfl⟩,trivial,trivial⟩|(simp [upd];done)
  · rw [show aChg l c dr n=_ from if_pos h0]
    have hne:decide (moneyE l c n [dr]=0)=false:=decide_eq_false h0
    repeat' (first|(apply nx;with_reducible constructor)|refine uq (by decide) ?_|((first|refine vz env fun Q hQ=>?_|refine vj fun Q hQ=>?_);simp only [vkt,seval,tbM4_69,xbM4_1,puL,c125,p126,p88x,mAD,vav_enc,vok_enc,tov2,mget_enc,MapKept.IsKey,List.length_map,hl,q0,q1,dI1,hne];(try simp only [ite_and]);(repeat' (first|with_reducible assumption|refine And.intro ?_ ?_|intro hp));all_goals (first|(refine hQ _ ?_;clear hQ Q)|(refine hQ _ (fun h=>?_) (fun h=>?_) <;> clear hQ Q <;> (try simp only [vki,reduceCtorEq] at h))|omega|assumption|with_reducible rfl|(apply drawS_of;(case hs=>(try simp only [vdt,List.map_cons,List.map_nil,List.append_nil,List.nil_append,List.isEmpty_nil,List.flatMap_nil,vk9,vk14,puL]);rfl);kernel_rfl)|skip)))
    (simp only [vrt,Try.results69,vkt,seval,tbM4_69,xbM4_1,puL,c125,p126,p88x,mAD,vav_enc,vok_enc,tov2,mget_enc,MapKept.IsKey,List.length_map];refine Fin.val rfl ?_;(try simp only [AV.le,AV.leL]))
    all_goals first|rfl|(simp;done)
def c69:List AV→Prop × AV
  |[.agg [.sl cs,.sl rs,.sl ss,.sl es],.v (.int .i64 c),.sl ds,.v (.int .i64 n)]=>(isL cs rs ss es∧Fit (ldOf cs rs ss es)∧ds=(ds.map dInt).map eInt∧(ds.map dInt).length≤20,aChg (ldOf cs rs ss es) c (ds.map dInt) n)
  |_=>(False,.junk)
theorem d69 {A:Frm→Prop}:EntryOK A Try.prog 69 (valE false c69):=valE_ok fun vs hv h=>by
  clear hv
  unfold c69 at h ⊢
  split at h
  · obtain ⟨h1,h2,h3,h4⟩:=h
    refine ⟨by unfold aChg; split; · simp [AV.plain, AV.plainL, aI]
               · split <;> simp [AV.plain,AV.plainL,aI,aInts],fun h=>absurd h (by decide),?_⟩
    rename_i cs rs ss es c ds n
    have:=change_fn (ldOf cs rs ss es) c (ds.map dInt) n h2 h4
    rw [← aLed_of h1]
    simp only [aInts,← h3] at this
    exact this
  · exact h.elim
end Go.Sym.B
namespace Go.Sym.B
open Go Go.Sym Go.Proofs Go.Sym.C
def pkG {α:Type} (c:α→Int) (f:α→Bool) (o:Option α) (x:α):Option α :=
  if f x=true then (match o with|some y=>some (btr c y x)|none=>some x) else o
def pkL {α:Type} (c:α→Int) (f:α→Bool) (l:List α):Option α:=l.foldl (pkG c f) none
theorem btr_or {α:Type} (c:α→Int) (a b:α):(btr c a b=a∨btr c a b=b)∧c (btr c a b)≤c a∧c (btr c a b)≤c b:=by
  unfold btr
  by_cases h:c b < c a
  · rw [if_pos h];exact ⟨.inr rfl,by omega,by omega⟩
  · rw [if_neg h];exact ⟨.inl rfl,by omega,by omega⟩
theorem pkG_none {α:Type} {c:α→Int} {f:α→Bool} {a:α} (hf:f a=true):pkG c f none a=some a:=by unfold pkG;rw [if_pos hf]
theorem pkG_some {α:Type} {c:α→Int} {f:α→Bool} {a y:α} (hf:f a=true):pkG c f (some y) a=some (btr c y a):=by unfold pkG;rw [if_pos hf]
theorem pk_some {α:Type} {c:α→Int} {f:α→Bool}:∀ {l:List α} {o:Option α} {r:α},l.foldl (pkG c f) o=some r→(o=some r∨(r ∈ l∧f r=true))∧(∀ y,o=some y→c r≤c y)∧∀ x ∈ l,f x=true→c r≤c x
  |[],o,r,h=>⟨.inl h,fun y hy=>by rw [List.foldl_nil] at h;rw [h] at hy;cases hy;exact Int.le_refl _,by simp⟩
  |a :: l,o,r,h=>by
    rw [List.foldl_cons] at h
    obtain ⟨h1,h2,h3⟩:=pk_some h
    cases hf:f a with
    |false =>
      have e:pkG c f o a=o:=by unfold pkG;rw [hf,if_neg (by simp)]
      rw [e] at h1 h2
      refine ⟨h1.imp id fun h=>⟨List.mem_cons_of_mem _ h.1,h.2⟩,h2,fun x hx hfx=>?_⟩
      rcases List.mem_cons.1 hx with rfl|hx
      · rw [hf] at hfx;cases hfx
      · exact h3 x hx hfx
    |true =>
      cases o with
      |none =>
        rw [pkG_none hf] at h1 h2
        have h4:=h2 a rfl
        refine ⟨.inr ?_,fun y hy=>(by cases hy),fun x hx hfx=>?_⟩
        · rcases h1 with h1|h1
          · cases h1;exact ⟨List.mem_cons_self,hf⟩
          · exact ⟨List.mem_cons_of_mem _ h1.1,h1.2⟩
        · rcases List.mem_cons.1 hx with rfl|hx
          · exact h4
          · exact h3 x hx hfx
      |some y =>
        rw [pkG_some hf] at h1 h2
        have h4:=h2 _ rfl
        obtain ⟨b1,b2,b3⟩:=btr_or c y a
        refine ⟨?_,fun z hz=>(by cases hz;omega),fun x hx hfx=>?_⟩
        · rcases h1 with h1|h1
          · cases h1
            rcases b1 with b1|b1
            · rw [b1];exact .inl rfl
            · rw [b1];exact .inr ⟨List.mem_cons_self,hf⟩
          · exact .inr ⟨List.mem_cons_of_mem _ h1.1,h1.2⟩
        · rcases List.mem_cons.1 hx with rfl|hx
          · omega
          · exact h3 x hx hfx
theorem pk_map {α β:Type} {c:α→Int} {d:β→Int} {f:β→Bool} {g:α→β} (hc:∀ x,d (g x)=c x):∀ (l:List α) (o:Option α),(l.map g).foldl (pkG d f) (o.map g)=(l.foldl (pkG c fun x=>f (g x)) o).map g
  |[],o=>rfl
  |a :: l,o=>by
    rw [List.map_cons,List.foldl_cons,List.foldl_cons,← pk_map hc l]
    congr 1
    unfold pkG
    cases hf:f (g a) with
    |false=>simp [hf]
    |true =>
      cases o with
      |none=>simp [hf]
      |some y =>
        simp only [hf,if_true,Option.map_some]
        unfold btr
        rw [hc,hc]
        split <;> rfl
theorem get_set (n k:Int) (x:List Int):∀ m,fwGet (fwSet m n x) k=if n=k then some x else fwGet m k
  |[]=>rfl
  |q :: m=>by
    have ih:=get_set n k x m
    simp only [fwSet]
    by_cases h:q.1=n
    · rw [if_pos h]
      simp only [fwGet]
      by_cases h1:n=k
      · rw [if_pos h1,if_pos h1]
      · rw [if_neg h1,if_neg h1,if_neg (by rw [h];exact h1)]
    · rw [if_neg h]
      simp only [fwGet]
      by_cases h1:q.1=k
      · rw [if_pos h1,if_pos h1,if_neg (by rw [← h1];exact fun e=>h e.symm)]
      · rw [if_neg h1,if_neg h1,ih]
theorem fold_get (ps:List Int) (n:Int):∀ (l:List (List Int)) (m:List (Int × List Int)),fwGet (l.foldl (fwStep ps) m) n=l.foldl (pkG List.sum fun x=>decide (dotL ps x=n)) (fwGet m n)
  |[],m=>rfl
  |a :: l,m=>by
    rw [List.foldl_cons,List.foldl_cons,fold_get ps n l]
    congr 1
    unfold fwStep pkG
    rw [get_set]
    by_cases h:dotL ps a=n
    · rw [if_pos h,if_pos (by simpa using h),h]
      cases fwGet m n <;> rfl
    · rw [if_neg h,if_neg (by simpa using h)]
def chs (ps:List Int) (d:List Int) (n:Int):Option (List Int):=pkL List.sum (fun x=>decide (dotL ps x=n)) (partsL d)
theorem few_get (ps P:List Int) (n:Int):fwGet (fewL ps P) n=chs ps P n:=fold_get ps n (partsL P) []
theorem zeros_parts:∀ k:Nat,partsL (List.replicate k (0:Int))=[List.replicate k 0]
  |0=>rfl
  |k+1=>by rw [List.replicate_succ,partsL,zeros_parts k];rfl
theorem parts_app (k:Nat):∀ l:List Int,partsL (l++List.replicate k 0)=(partsL l).map (·++List.replicate k 0)
  |[]=>by simp [partsL,zeros_parts]
  |p :: l=>by
    rw [List.cons_append,partsL,partsL,parts_app k l,List.map_flatMap]
    simp [Function.comp_def]
theorem dot_zeros (k:Nat):∀ ps:List Int,dotL ps (List.replicate k (0:Int))=0:=by
  induction k with
  |zero=>intro ps;cases ps <;> rfl
  |succ k ih=>intro ps;cases ps with
    |nil=>rfl
    |cons p ps=>rw [List.replicate_succ,dotL,ih];omega
theorem dot_app (k:Nat):∀ ps x:List Int,dotL ps (x++List.replicate k 0)=dotL ps x
  |[],x=>rfl
  |p :: ps,[]=>by rw [List.nil_append,dot_zeros];rfl
  |p :: ps,y :: x=>by rw [List.cons_append,dotL,dotL,dot_app k ps x]
theorem sum_app (k:Nat) (x:List Int):(x++List.replicate k (0:Int)).sum=x.sum:=by
  rw [List.sum_append]
  have:(List.replicate k (0:Int)).sum=0:=by
    induction k with
    |zero=>rfl
    |succ k ih=>rw [List.replicate_succ,List.sum_cons,ih];rfl
  omega
theorem chs_pad (ps d:List Int) (n:Int):chs ps (pad d) n=(chs ps d n).map (·++List.replicate (4 - d.length) 0):=by
  unfold chs pkL pad
  rw [parts_app]
  have:=pk_map (c:=List.sum) (d:=List.sum) (f:=fun x=>decide (dotL ps x=n)) (g:=fun x:List Int=>x++List.replicate (4 - d.length) 0) (fun x=>sum_app _ x) (partsL d) none
  simp only [Option.map_none] at this
  rw [this]
  simp only [dot_app]
theorem chs_mem {ps d:List Int} {n:Int} {x:List Int} (h:chs ps d n=some x):x ∈ partsL d∧dotL ps x=n∧∀ y ∈ partsL d,dotL ps y=n→x.sum≤y.sum:=by
  obtain ⟨h1,_,h3⟩:=pk_some h
  rcases h1 with h1|h1
  · cases h1
  · exact ⟨h1.1,by simpa using h1.2,fun y hy hn=>h3 y hy (by simpa using hn)⟩
theorem chg_is {ps d:List Int} (h:∀ n ∈ d,0≤n) (n:Int):(fwGet (fewL ps (pad d)) n).map (·.take d.length)=chs ps d n:=by
  rw [few_get,chs_pad,Option.map_map]
  cases hc:chs ps d n with
  |none=>rfl
  |some x =>
    have hx:=(parts_mem h (chs_mem hc).1).1
    simp [← hx]
end Go.Sym.B
namespace Go.Sym.B
open Go Go.Sym Go.Proofs Go.Sym.C
def bgH (x:Int):List (Nat × AObj):=[(0,.cells [.v (.int .u64 x)])]
def xsh (s:Int) (k:Nat):Int:=IntKind.u64.wrap (BitVec.ofInt IntKind.u64.bits s ^^^ BitVec.ofInt IntKind.u64.bits (s.fdiv (2 ^ min k IntKind.u64.bits))).toNat
def nxS (x:Int):Int:=IntKind.u64.wrap (IntKind.u64.wrap (x * 2862933555777941757)+3037000493)
def nxV (x:Int):Int:=xsh (IntKind.u64.wrap (xsh (nxS x) 31 * 10723151780598845931)) 30
def tbG2_77:=vk @ty95 (vk @ty97 (vk @ti95.eq_1 @ti97.eq_1))
def xbG2_1:=vk @aI.eq_1 (vk @aB.eq_1 (@bgH.eq_1))
theorem next_fn (x:Int):Fn noB Try.prog 77 [.ptr 0 0] (hasg (bgH x)) (.v (.int .u64 (nxV x))) (hasg (bgH (nxS x))) 0:=by
  have env:Env (fun _=>True) Try.prog tyB (tab []):=mkEnv trivial
  refine Fn.of (A:=fun _=>True) (n0:=1) (D:=noD) (Fn0 Try.func77 rfl (fun vs w=>by kernel_rfl) (by kernel_rfl)) (by simp) (by simp [AV.ids]) ?_ (fun _ _ _ _=>trivial) noD_ok ?_
  · intro i o hi
    have h:=hasg_mem hi
    simp [bgH] at h
    rcases h with ⟨rfl,rfl⟩;simp [AObj.ids,AV.ids,AV.idsL]
  repeat' (first|(apply nx;with_reducible constructor)|refine uq (by decide) ?_|((first|refine vz env fun Q hQ=>?_|refine vj fun Q hQ=>?_);simp only [vkt,seval,tbG2_77,xbG2_1];(try simp only [ite_and]);(repeat' (first|with_reducible assumption|refine And.intro ?_ ?_|intro hp));all_goals (first|(refine hQ _ ?_;clear hQ Q)|(refine hQ _ (fun h=>?_) (fun h=>?_) <;> clear hQ Q <;> (try simp only [vki,reduceCtorEq] at h))|omega|assumption|with_reducible rfl|(refine vq ?_;kernel_rfl)|skip)))
  (simp only [vrt,Try.results77,vkt,seval,tbG2_77,xbG2_1];refine Fin.ok some [] ?_ ?_ ?_ ?_ ?_ rfl;all_goals (try simp only [vle,vkt,seval,tbG2_77,xbG2_1]))
  all_goals rfl
def p77 (S:St):List AV→Option Pk
  |[.ptr i 0]=>match S.h i with
    |some (.cells [.v (.int .u64 x)])=>some { hs:=[i],ar:=[.ptr 0 0],L0:=[.cells [.v (.int .u64 x)]],v:=.v (.int .u64 (nxV x)),L1:=[some (.cells [.v (.int .u64 (nxS x))])] }
    |_=>none
  |_=>none
theorem e77 {A:Frm→Prop}:EntryOK A Try.prog 77 (fnE p77):=fnE_ok fun S bs q h hp=>by
  unfold p77 at h
  split at h
  · split at h
    · cases h;exact next_fn _
    · cases h
  · cases h
def upV0 (x m:Int):Int:=if m < 1 then 0 else IntKind.i64.wrap (((nxV x).fdiv (2 ^ min 13 IntKind.u64.bits)).tmod (IntKind.u64.wrap (IntKind.i64.wrap (m+1))))
def upS0 (x m:Int):Int:=if m < 1 then x else nxS x
theorem up_ex:∃ f:Int→Int→Int × Int,∀ x m,f x m=(upV0 x m,upS0 x m):=⟨fun x m=>(upV0 x m,upS0 x m),fun _ _=>rfl⟩
noncomputable def upV (x m:Int):Int:=(Classical.choose up_ex x m).1
noncomputable def upS (x m:Int):Int:=(Classical.choose up_ex x m).2
theorem upV_eq (x m:Int):upV x m=upV0 x m:=by unfold upV;rw [Classical.choose_spec up_ex]
theorem upS_eq (x m:Int):upS x m=upS0 x m:=by unfold upS;rw [Classical.choose_spec up_ex]
theorem wrapU2 {n:Int} (h0:0≤n) (h1:n < 18446744073709551616):IntKind.u64.wrap n=n:=by
  unfold IntKind.wrap
  simp only [IntKind.bits,IntKind.signed]
  simp
  omega
theorem wrapU_nn (n:Int):0≤IntKind.u64.wrap n:=by
  unfold IntKind.wrap
  simp only [IntKind.bits,IntKind.signed]
  simp
  omega
theorem upV_bd {x m:Int} (h:m < 9223372036854775807):0≤upV x m∧(upV x m≤m∨upV x m=0):=by
  rw [upV_eq]
  unfold upV0
  split
  · exact ⟨Int.le_refl _,.inr rfl⟩
  · have h1:IntKind.i64.wrap (m+1)=m+1:=wrap64 (by omega) (by omega)
    have h2:IntKind.u64.wrap (m+1)=m+1:=wrapU2 (by omega) (by omega)
    rw [h1,h2]
    have h3:0≤(nxV x).fdiv (2 ^ min 13 IntKind.u64.bits):=Int.fdiv_nonneg (by unfold nxV xsh;exact wrapU_nn _) (by decide)
    rw [Int.tmod_eq_emod_of_nonneg h3]
    have h4:=Int.emod_nonneg ((nxV x).fdiv (2 ^ min 13 IntKind.u64.bits)) (show m+1 ≠ 0 by omega)
    have h5:=Int.emod_lt_of_pos ((nxV x).fdiv (2 ^ min 13 IntKind.u64.bits)) (show 0 < m+1 by omega)
    rw [wrap64 (by omega) (by omega)]
    omega
def tbG2_22:=vk @ty3 (vk @ty95 (vk @ti3.eq_1 @ti95.eq_1))
def xbG2_2:=vk @aI.eq_1 (vk @aB.eq_1 (vk @bgH.eq_1 (vk @p77.eq_1 (@p77.eq_2))))
theorem up_fn (x m:Int) (h:m < 9223372036854775807):Fn noB Try.prog 22 [.ptr 0 0,aI m] (hasg (bgH x)) (aI (upV x m)) (hasg (bgH (upS x m))) 0:=by
  have env:Env (fun _=>True) Try.prog tyB (tab [(77,fnE p77)]):=mkEnv ⟨e77,trivial⟩
  refine Fn.of (A:=fun _=>True) (n0:=1) (D:=noD) (Fn0 Try.func22 rfl (fun vs w=>by kernel_rfl) (by kernel_rfl)) (by simp) (by simp [AV.ids,AV.idsL,aI]) ?_ (fun _ _ _ _=>trivial) noD_ok ?_
  · intro i o hi
    have h:=hasg_mem hi
    simp [bgH] at h
    rcases h with ⟨rfl,rfl⟩;simp [AObj.ids,AV.ids,AV.idsL]
  rw [upV_eq,upS_eq]
  by_cases c1:m < 1
  · rw [show upV0 x m=0 from if_pos c1,show upS0 x m=x from if_pos c1]
    repeat' (first|(apply nx;with_reducible constructor)|refine uq (by decide) ?_|((first|refine vz env fun Q hQ=>?_|refine vj fun Q hQ=>?_);simp only [vkt,seval,tbG2_22,xbG2_2,c1];(try simp only [ite_and]);(repeat' (first|with_reducible assumption|refine And.intro ?_ ?_|intro hp));all_goals (first|(refine hQ _ ?_;clear hQ Q)|(refine hQ _ (fun h=>?_) (fun h=>?_) <;> clear hQ Q <;> (try simp only [vki,reduceCtorEq] at h))|omega|assumption|with_reducible rfl|(refine vq ?_;kernel_rfl)|skip)))
    (simp only [vrt,Try.results22,vkt,seval,tbG2_22,xbG2_2];refine Fin.ok some [] ?_ ?_ ?_ ?_ ?_ rfl;all_goals (try simp only [vle,vkt,seval,tbG2_22,xbG2_2]))
    all_goals simp
  · rw [show upV0 x m=_ from if_neg c1,show upS0 x m=_ from if_neg c1]
    have h1:IntKind.i64.wrap (m+1)=m+1:=wrap64 (by omega) (by omega)
    have h2:IntKind.u64.wrap (m+1)=m+1:=wrapU2 (by omega) (by omega)
    have h0:¬ m+1=0:=by omega
    repeat' (first|(apply nx;with_reducible constructor)|refine uq (by decide) ?_|((first|refine vz env fun Q hQ=>?_|refine vj fun Q hQ=>?_);simp only [vkt,seval,tbG2_22,xbG2_2,c1,h1,h2,h0];(try simp only [ite_and]);(repeat' (first|with_reducible assumption|refine And.intro ?_ ?_|intro hp));all_goals (first|(refine hQ _ ?_;clear hQ Q)|(refine hQ _ (fun h=>?_) (fun h=>?_) <;> clear hQ Q <;> (try simp only [vki,reduceCtorEq] at h))|omega|assumption|with_reducible rfl|(refine vq ?_;kernel_rfl)|skip)))
    (simp only [vrt,Try.results22,vkt,seval,tbG2_22,xbG2_2];refine Fin.ok some [] ?_ ?_ ?_ ?_ ?_ rfl;all_goals (try simp only [vle,vkt,seval,tbG2_22,xbG2_2]))
    all_goals (first|rfl|rw [h1,h2])
noncomputable def p22 (S:St):List AV→Option Pk
  |[.ptr i 0,.v (.int .i64 m)]=>match S.h i with
    |some (.cells [.v (.int .u64 x)])=>some { pre:=m < 9223372036854775807,hs:=[i],ar:=[.ptr 0 0,.v (.int .i64 m)],L0:=[.cells [.v (.int .u64 x)]],v:=.v (.int .i64 (upV x m)),L1:=[some (.cells [.v (.int .u64 (upS x m))])] }
    |_=>none
  |_=>none
theorem e22 {A:Frm→Prop}:EntryOK A Try.prog 22 (fnE p22):=fnE_ok fun S bs q h hp=>by
  unfold p22 at h
  split at h
  · split at h
    · cases h;exact up_fn _ _ hp
    · cases h
  · cases h
def tbG2_21:=vk @ty3 @ti3.eq_1
def xbG2_3:=vk @aI.eq_1 (vk @aB.eq_1 (vk @bgH.eq_1 (vk @p22.eq_1 (@p22.eq_2))))
theorem from_fn (x a b:Int) (h:-100000≤a∧a≤100000∧-100000≤b∧b≤100000):Fn noB Try.prog 21 [.ptr 0 0,aI a,aI b] (hasg (bgH x)) (aI (a+upV x (b - a))) (hasg (bgH (upS x (b - a)))) 0:=by
  have env:Env (fun _=>True) Try.prog tyB (tab [(22,fnE p22)]):=mkEnv ⟨e22,trivial⟩
  refine Fn.of (A:=fun _=>True) (n0:=1) (D:=noD) (Fn0 Try.func21 rfl (fun vs w=>by kernel_rfl) (by kernel_rfl)) (by simp) (by simp [AV.ids,AV.idsL,aI]) ?_ (fun _ _ _ _=>trivial) noD_ok ?_
  · intro i o hi
    have h:=hasg_mem hi
    simp [bgH] at h
    rcases h with ⟨rfl,rfl⟩;simp [AObj.ids,AV.ids,AV.idsL]
  have b1:=upV_bd (x:=x) (m:=b - a) (by omega)
  have h1:IntKind.i64.wrap (b - a)=b - a:=wrap64 (by omega) (by omega)
  have h2:IntKind.i64.wrap (a+upV x (b - a))=a+upV x (b - a):=wrap64 (by omega) (by omega)
  have h3:b - a < 9223372036854775807:=by omega
  repeat' (first|(apply nx;with_reducible constructor)|refine uq (by decide) ?_|((first|refine vz env fun Q hQ=>?_|refine vj fun Q hQ=>?_);simp only [vkt,seval,tbG2_21,xbG2_3,h1,h2];(try simp only [ite_and]);(repeat' (first|with_reducible assumption|refine And.intro ?_ ?_|intro hp));all_goals (first|(refine hQ _ ?_;clear hQ Q)|(refine hQ _ (fun h=>?_) (fun h=>?_) <;> clear hQ Q <;> (try simp only [vki,reduceCtorEq] at h))|omega|assumption|with_reducible rfl|(refine vq ?_;kernel_rfl)|skip)))
  (simp only [vrt,Try.results21,vkt,seval,tbG2_21,xbG2_3];refine Fin.ok some [] ?_ ?_ ?_ ?_ ?_ rfl;all_goals (try simp only [vle,vkt,seval,tbG2_21,xbG2_3]))
  all_goals rfl
noncomputable def p21 (S:St):List AV→Option Pk
  |[.ptr i 0,.v (.int .i64 a),.v (.int .i64 b)]=>match S.h i with
    |some (.cells [.v (.int .u64 x)])=>some { pre:=-100000≤a∧a≤100000∧-100000≤b∧b≤100000,hs:=[i],ar:=[.ptr 0 0,.v (.int .i64 a),.v (.int .i64 b)],L0:=[.cells [.v (.int .u64 x)]],v:=.v (.int .i64 (a+upV x (b - a))),L1:=[some (.cells [.v (.int .u64 (upS x (b - a)))])] }
    |_=>none
  |_=>none
theorem e21 {A:Frm→Prop}:EntryOK A Try.prog 21 (fnE p21):=fnE_ok fun S bs q h hp=>by
  unfold p21 at h
  split at h
  · split at h
    · cases h;exact from_fn _ _ _ hp
    · cases h
  · cases h
def nbK (l:List Int):Nat→Int
  |0=>11400714819323198485
  |k+1=>xsh (IntKind.u64.wrap (IntKind.u64.wrap (nbK l k+IntKind.u64.wrap (l.getD k 0)) * 13787848793156543929)) 29
def nbS (l:List Int):Int:=nbK l l.length
def nbI (l:List Int) (k:Nat):St:={ t:=asg [(0,aInts l),(3,.ptr 0 0),(4,aI k)],h:=hasg (bgH (nbK l k)),n:=1 }
def tbG2_20:=vk @ty3 (vk @ty22 (vk @ty95 (vk @ty97 (vk @ti3.eq_1 (vk @ti22.eq_1 (vk @ti95.eq_1 @ti97.eq_1))))))
def xbG2_4:=vk @aI.eq_1 (vk @aB.eq_1 (vk @bgH.eq_1 (vk @nbI.eq_1 (vk @aInts.eq_1 (vk @gInt (@eInt.eq_1))))))
theorem bag_fn (l:List Int) (hl:l.length≤maxLen):Fn noB Try.prog 20 [aInts l] noH (.ptr 0 0) (hasg (bgH (nbS l))) 0:=by
  have env:Env (fun _=>True) Try.prog tyB (tab []):=mkEnv trivial
  refine Fn.of (A:=fun _=>True) (n0:=0) (D:=noD) (Fn0 Try.func20 rfl (fun vs w=>by kernel_rfl) (by kernel_rfl)) (by simp) (by simp [AV.ids,AV.idsL,aInts]) (fun i o h=>by cases h) (fun _ _ _ _=>trivial) noD_ok ?_
  repeat' (first|(apply nx;with_reducible constructor)|refine uq (by decide) ?_|((first|refine vz env fun Q hQ=>?_|refine vj fun Q hQ=>?_);simp only [vkt,seval,tbG2_20,xbG2_4];(try simp only [ite_and]);(repeat' (first|with_reducible assumption|refine And.intro ?_ ?_|intro hp));all_goals (first|(refine hQ _ ?_;clear hQ Q)|(refine hQ _ (fun h=>?_) (fun h=>?_) <;> clear hQ Q <;> (try simp only [vki,reduceCtorEq] at h))|omega|assumption|with_reducible rfl|(refine vq ?_;kernel_rfl)|skip)))
  refine sym_loop (fun k:{ k:Nat // k≤l.length }=>nbI l k.1) (fun k=>l.length - k.1) ⟨0,Nat.zero_le _⟩ ?_ fun ⟨k,hk⟩=>?_
  · (refine Le.ok some [] ?_;constructor;all_goals (try simp only [vle,vkt,seval,tbG2_20,xbG2_4]))
    all_goals first|rfl|simp
  · repeat' (first|(apply nx;with_reducible constructor)|refine uq (by decide) ?_)
    (refine vz env fun Q hQ=>?_;simp only [vkt,seval,tbG2_20,xbG2_4];(try simp only [ite_and]);(repeat' (first|with_reducible assumption|refine And.intro ?_ ?_|intro hp));all_goals (first|(refine hQ _ ?_;clear hQ Q)|omega|assumption|with_reducible rfl|(refine vq ?_;kernel_rfl)|skip))
    repeat' (first|(apply nx;with_reducible constructor)|refine uq (by decide) ?_)
    (refine sym_cd (by simp only [vkt,seval,tbG2_20,xbG2_4];rfl) (fun h=>?_) (fun h=>?_) <;> (try simp only [vki,reduceCtorEq] at h))
    · have hlt:k < l.length:=by omega
      have e9:=wrap_succ hlt hl
      repeat' (first|(apply nx;with_reducible constructor)|refine uq (by decide) ?_|((first|refine vz env fun Q hQ=>?_|refine vj fun Q hQ=>?_);simp only [vkt,seval,tbG2_20,xbG2_4,e9];(try simp only [ite_and]);(repeat' (first|with_reducible assumption|refine And.intro ?_ ?_|intro hp));all_goals (first|(refine hQ _ ?_;clear hQ Q)|(refine hQ _ (fun h=>?_) (fun h=>?_) <;> clear hQ Q <;> (try simp only [vki,reduceCtorEq] at h))|omega|assumption|with_reducible rfl|(refine vq ?_;kernel_rfl)|skip)))
      refine ⟨⟨k+1,hlt⟩,by show l.length - (k+1) < l.length - k;omega,?_⟩
      (refine Le.ok some [] ?_;constructor;all_goals (try simp only [vle,vkt,seval,tbG2_20,xbG2_4]))
      all_goals first|rfl|(simp [e9];done)
    · have hkn:k=l.length:=by omega
      subst hkn
      repeat' (first|(apply nx;with_reducible constructor)|refine uq (by decide) ?_|((first|refine vz env fun Q hQ=>?_|refine vj fun Q hQ=>?_);simp only [vkt,seval,tbG2_20,xbG2_4];(try simp only [ite_and]);(repeat' (first|with_reducible assumption|refine And.intro ?_ ?_|intro hp));all_goals (first|(refine hQ _ ?_;clear hQ Q)|(refine hQ _ (fun h=>?_) (fun h=>?_) <;> clear hQ Q <;> (try simp only [vki,reduceCtorEq] at h))|omega|assumption|with_reducible rfl|(refine vq ?_;kernel_rfl)|skip)))
      (simp only [vrt,Try.results20,vkt,seval,tbG2_20,xbG2_4];refine Fin.ok some [] ?_ ?_ ?_ ?_ ?_ rfl;all_goals (try simp only [vle,vkt,seval,tbG2_20,xbG2_4]))
      all_goals rfl
def p20 (_:St):List AV→Option Pk
  |[.sl xs]=>some { pre:=xs=(xs.map dInt).map eInt∧xs.length≤maxLen,ar:=[.sl xs],v:=.ptr 0 0,L1:=[some (.cells [.v (.int .u64 (nbS (xs.map dInt)))])] }
  |_=>none
theorem e20 {A:Frm→Prop}:EntryOK A Try.prog 20 (fnE p20):=fnE_ok fun S bs q h hp=>by
  unfold p20 at h
  split at h <;> cases h
  have:=bag_fn (List.map dInt _) (by rw [List.length_map];exact hp.2)
  simp only [aInts,← hp.1] at this
  exact this
end Go.Sym.B
namespace Go.Sym.B
open Go Go.Sym Go.Proofs Go.Sym.C
structure RI (n0 d0 k:Nat) where
  n:Nat
  d:Nat
  n1:1≤n
  n2:n≤n0
  d1:1≤d
  d2:d≤d0
  e:n * d0=d * n0
  c:∀ j,k < j→j≤12→¬ (j ∣ n∧j ∣ d)
def RI.div {n0 d0 k:Nat} (i:RI n0 d0 k) (hk:2≤k) (h1:k ∣ i.n) (h2:k ∣ i.d):RI n0 d0 k where
  n:=i.n / k
  d:=i.d / k
  n1:=Nat.div_pos (Nat.le_of_dvd i.n1 h1) (by omega)
  n2:=Nat.le_trans (Nat.div_le_self _ _) i.n2
  d1:=Nat.div_pos (Nat.le_of_dvd i.d1 h2) (by omega)
  d2:=Nat.le_trans (Nat.div_le_self _ _) i.d2
  e:=by
    obtain ⟨a,ha⟩:=h1
    obtain ⟨b,hb⟩:=h2
    have:=i.e
    rw [ha,hb] at this ⊢
    rw [Nat.mul_div_cancel_left _ (by omega),Nat.mul_div_cancel_left _ (by omega)]
    rw [Nat.mul_assoc,Nat.mul_assoc] at this
    exact Nat.eq_of_mul_eq_mul_left (by omega) this
  c:=fun j hj hl h=>i.c j hj hl ⟨Nat.dvd_trans h.1 (Nat.div_dvd_of_dvd h1),Nat.dvd_trans h.2 (Nat.div_dvd_of_dvd h2)⟩
def RI.less {n0 d0 k:Nat} (i:RI n0 d0 (k+1)) (h:¬ (k+1 ∣ i.n∧k+1 ∣ i.d)):RI n0 d0 k where
  n:=i.n
  d:=i.d
  n1:=i.n1
  n2:=i.n2
  d1:=i.d1
  d2:=i.d2
  e:=i.e
  c:=fun j hj hl hh=>by
    rcases Nat.lt_or_eq_of_le (Nat.succ_le_of_lt hj) with h1|h1
    · exact i.c j h1 hl hh
    · subst h1;exact h hh
theorem RI.last {n0 d0:Nat} (i:RI n0 d0 1) (hd:d0≤12) (hd1:1≤d0):shQ (mkRat n0 d0)=⟨i.n,i.d⟩:=by
  have hg:Nat.gcd i.n i.d=1:=by
    have h1:=Nat.gcd_dvd_left i.n i.d
    have h2:=Nat.gcd_dvd_right i.n i.d
    have h3:0 < Nat.gcd i.n i.d:=Nat.gcd_pos_of_pos_left _ i.n1
    have h4:=Nat.le_of_dvd i.d1 h2
    have h5:=i.d2
    rcases Nat.lt_or_eq_of_le h3 with h6|h6
    · exact absurd ⟨h1,h2⟩ (i.c _ h6 (by omega))
    · exact h6.symm
  have hd0:d0 ≠ 0:=by omega
  have hid:i.d ≠ 0:=by have:=i.d1;omega
  have he:mkRat (n0:Int) d0=mkRat (i.n:Int) i.d:=by
    rw [Rat.mkRat_eq_iff hd0 hid]
    have:=i.e
    rw [Nat.mul_comm i.d] at this
    exact_mod_cast this.symm
  have hp:(0:Int) < (i.d:Int):=by have:=i.d1;omega
  have e1:=mk_num (a:=(i.n:Int)) hp
  have e2:=mk_den (a:=(i.n:Int)) hp
  simp only [Int.toNat_natCast,Int.natAbs_natCast,hg] at e1 e2
  simp only [shQ,he,e1,e2]
  simp
noncomputable def rtN (x:Int):Int:=1+upV (upS x (12 - 1)) (20 - 1)
noncomputable def rtD (x:Int):Int:=1+upV x (12 - 1)
noncomputable def rtV (x:Int):Sh:=shQ (mkRat (rtN x) (rtD x).toNat)
noncomputable def rtS (x:Int):Int:=upS (upS x (12 - 1)) (20 - 1)
theorem rt_bd7 (x:Int):(1≤rtN x∧rtN x≤20)∧1≤rtD x∧rtD x≤12:=by
  have h1:=upV_bd (x:=upS x (12 - 1)) (m:=20 - 1) (by decide)
  have h2:=upV_bd (x:=x) (m:=12 - 1) (by decide)
  unfold rtN rtD
  omega
def rtT (x:Int) (k n d:Nat):St:={ t:=asg [(2,.ptr 1 0),(3,aI d),(4,aI n),(5,aI k)],h:=hasg [(0,.cells [.v (.int .u64 x)]),(1,.cells [.v (.int .i64 0),.v (.int .i64 0)])],n:=2,m:=1 }
theorem tmodN (a b:Nat):((a:Int)).tmod (b:Int)=((a % b:Nat):Int):=rfl
theorem tdivN (a b:Nat):((a:Int)).tdiv (b:Int)=((a / b:Nat):Int):=rfl
theorem wdiv {a b:Nat} (h:a≤1000):IntKind.wrap .i64 ((a:Int).tdiv (b:Int))=((a / b:Nat):Int):=by
  rw [tdivN]
  have:=Nat.div_le_self a b
  generalize a / b=q at *
  exact wrap64 (by omega) (by omega)
def tbG7_84:=vk @ty3 (vk @ty59 (vk @ti3.eq_1 @ti59.eq_1))
def xbG7_1:=vk @aI.eq_1 (vk @aB.eq_1 (vk @aSh.eq_1 (vk @bgH.eq_1 (vk @p21.eq_1 (vk @p21.eq_2 (vk @rtT.eq_1 (@tmodN)))))))
theorem rateOf_fn (x:Int):Fn noB Try.prog 84 [.ptr 0 0] (hasg (bgH x)) (aSh (rtV x)) (hasg (bgH (rtS x))) 0:=by
  have env:Env (fun _=>True) Try.prog tyB (tab [(21,fnE p21)]):=mkEnv ⟨e21,trivial⟩
  refine Fn.of (A:=fun _=>True) (n0:=1) (D:=noD) (Fn0 Try.func84 rfl (fun vs w=>by kernel_rfl) (by kernel_rfl)) (by simp) (by simp [AV.ids]) ?_ (fun _ _ _ _=>trivial) noD_ok ?_
  · intro i o hi
    have h:=hasg_mem hi
    simp [bgH] at h
    rcases h with ⟨rfl,rfl⟩;simp [AObj.ids,AV.ids,AV.idsL]
  have hb:=rt_bd7 x
  obtain ⟨n0,hn0⟩:∃ n:Nat,rtN x=(n:Int):=⟨(rtN x).toNat,by omega⟩
  obtain ⟨d0,hd0⟩:∃ n:Nat,rtD x=(n:Int):=⟨(rtD x).toNat,by omega⟩
  rw [hn0,hd0] at hb
  have hV:rtV x=shQ (mkRat n0 d0):=by unfold rtV;rw [hn0,hd0];rfl
  have hn0':1+upV (upS x (12 - 1)) (20 - 1)=(n0:Int):=hn0
  have hd0':1+upV x (12 - 1)=(d0:Int):=hd0
  have hS:upS (upS x (12 - 1)) (20 - 1)=rtS x:=rfl
  repeat' (first|(apply nx;with_reducible constructor)|refine uq (by decide) ?_|((first|refine vz env fun Q hQ=>?_|refine vj fun Q hQ=>?_);simp only [vkt,seval,-Int.reduceSub,-Int.reduceAdd,-Int.reduceMul,tbG7_84,xbG7_1,hn0',hd0',hS];(try simp only [ite_and]);(repeat' (first|with_reducible assumption|refine And.intro ?_ ?_|intro hp));all_goals (first|(refine hQ _ ?_;clear hQ Q)|(refine hQ _ (fun h=>?_) (fun h=>?_) <;> clear hQ Q <;> (try simp only [vki,reduceCtorEq] at h))|omega|assumption|with_reducible rfl|(refine vq ?_;kernel_rfl)|skip)))
  refine sym_loop (fun i:(k:{ k:Nat // 1≤k∧k≤12 }) × RI n0 d0 k.1=>rtT (rtS x) i.1.1 i.2.n i.2.d) (fun i=>i.1.1) ⟨⟨12,by decide⟩,⟨n0,d0,by omega,Nat.le_refl _,by omega,Nat.le_refl _,Nat.mul_comm _ _,fun j h1 h2=>by have:12 < j:=h1;omega⟩⟩ ?_ fun ⟨⟨k,hk⟩,i⟩=>?_
  · (refine Le.ok some [] ?_;constructor;all_goals (try simp only [vle,vkt,seval,-Int.reduceSub,-Int.reduceAdd,-Int.reduceMul,tbG7_84,xbG7_1]))
    all_goals first|rfl|(simp;done)
  · repeat' (first|(apply nx;with_reducible constructor)|refine uq (by decide) ?_)
    (refine vz env fun Q hQ=>?_;simp only [vkt,seval,-Int.reduceSub,-Int.reduceAdd,-Int.reduceMul,tbG7_84,xbG7_1];(try simp only [ite_and]);(repeat' (first|with_reducible assumption|refine And.intro ?_ ?_|intro hp));all_goals (first|(refine hQ _ ?_;clear hQ Q)|omega|assumption|with_reducible rfl|(refine vq ?_;kernel_rfl)|skip))
    repeat' (first|(apply nx;with_reducible constructor)|refine uq (by decide) ?_)
    (refine sym_cd (by simp only [vkt,seval,-Int.reduceSub,-Int.reduceAdd,-Int.reduceMul,tbG7_84,xbG7_1];rfl) (fun h=>?_) (fun h=>?_) <;> (try simp only [vki,reduceCtorEq] at h))
    · have hk2:1 < k:=by omega
      repeat' (first|(apply nx;with_reducible constructor)|refine uq (by decide) ?_)
      refine sym_loop (fun i:RI n0 d0 k=>rtT (rtS x) k i.n i.d) (fun i=>i.n) i ?_ fun i=>?_
      · (refine Le.ok some [] ?_;constructor;all_goals (try simp only [vle,vkt,seval,-Int.reduceSub,-Int.reduceAdd,-Int.reduceMul,tbG7_84,xbG7_1]))
        all_goals first|rfl|(simp;done)
      · have i1:=i.n1
        have i2:=i.n2
        have i3:=i.d1
        have i4:=i.d2
        have nz:¬ (k:Int)=0:=by omega
        have r1:i.n % k=0 ↔ k ∣ i.n:=(Nat.dvd_iff_mod_eq_zero ..).symm
        have r2:i.d % k=0 ↔ k ∣ i.d:=(Nat.dvd_iff_mod_eq_zero ..).symm
        have w1:IntKind.wrap .i64 ((i.n:Int).tdiv (k:Int))=((i.n / k:Nat):Int):=wdiv (by omega)
        have w2:IntKind.wrap .i64 ((i.d:Int).tdiv (k:Int))=((i.d / k:Nat):Int):=wdiv (by omega)
        have w3:IntKind.wrap .i64 ((k:Int) - 1)=((k - 1:Nat):Int):=by rw [wrap64 (by omega) (by omega)];omega
        by_cases c1:i.n % k=0
        · by_cases c2:i.d % k=0
          · have c1':(((i.n % k:Nat):Int)=0):=by omega
            have c2':(((i.d % k:Nat):Int)=0):=by omega
            repeat' (first|(apply nx;with_reducible constructor)|refine uq (by decide) ?_|((first|refine vz env fun Q hQ=>?_|refine vj fun Q hQ=>?_);simp only [vkt,seval,-Int.reduceSub,-Int.reduceAdd,-Int.reduceMul,tbG7_84,xbG7_1,nz,c1',c2',w1,w2];(try simp only [ite_and]);(repeat' (first|with_reducible assumption|refine And.intro ?_ ?_|intro hp));all_goals (first|(refine hQ _ ?_;clear hQ Q)|(refine hQ _ (fun h=>?_) (fun h=>?_) <;> clear hQ Q <;> (try simp only [vki,reduceCtorEq] at h))|omega|assumption|with_reducible rfl|(refine vq ?_;kernel_rfl)|skip)))
            refine ⟨i.div (by omega) (r1.1 c1) (r2.1 c2),by show i.n / k < i.n;exact Nat.div_lt_self (by omega) hk2,?_⟩
            (refine Le.ok some [] ?_;constructor;all_goals (try simp only [vle,vkt,seval,-Int.reduceSub,-Int.reduceAdd,-Int.reduceMul,tbG7_84,xbG7_1]))
            all_goals first|rfl|(simp [RI.div];done)
          · have c1':(((i.n % k:Nat):Int)=0):=by omega
            have c2':¬ (((i.d % k:Nat):Int)=0):=by omega
            obtain ⟨m,rfl⟩:∃ m,k=m+1:=⟨k - 1,by omega⟩
            repeat' (first|(apply nx;with_reducible constructor)|refine uq (by decide) ?_|((first|refine vz env fun Q hQ=>?_|refine vj fun Q hQ=>?_);simp only [vkt,seval,-Int.reduceSub,-Int.reduceAdd,-Int.reduceMul,tbG7_84,xbG7_1,nz,c1',c2',w3];(try simp only [ite_and]);(repeat' (first|with_reducible assumption|refine And.intro ?_ ?_|intro hp));all_goals (first|(refine hQ _ ?_;clear hQ Q)|(refine hQ _ (fun h=>?_) (fun h=>?_) <;> clear hQ Q <;> (try simp only [vki,reduceCtorEq] at h))|omega|assumption|with_reducible rfl|(refine vq ?_;kernel_rfl)|skip)))
            refine ⟨⟨⟨m,by omega,by omega⟩,i.less fun h=>c2 (r2.2 h.2)⟩,by show m < m+1;omega,?_⟩
            (refine Le.ok some [] ?_;constructor;all_goals (try simp only [vle,vkt,seval,-Int.reduceSub,-Int.reduceAdd,-Int.reduceMul,tbG7_84,xbG7_1]))
            all_goals first|rfl|(simp [RI.less];done)
        · have c1':¬ (((i.n % k:Nat):Int)=0):=by omega
          obtain ⟨m,rfl⟩:∃ m,k=m+1:=⟨k - 1,by omega⟩
          repeat' (first|(apply nx;with_reducible constructor)|refine uq (by decide) ?_|((first|refine vz env fun Q hQ=>?_|refine vj fun Q hQ=>?_);simp only [vkt,seval,-Int.reduceSub,-Int.reduceAdd,-Int.reduceMul,tbG7_84,xbG7_1,nz,c1',w3];(try simp only [ite_and]);(repeat' (first|with_reducible assumption|refine And.intro ?_ ?_|intro hp));all_goals (first|(refine hQ _ ?_;clear hQ Q)|(refine hQ _ (fun h=>?_) (fun h=>?_) <;> clear hQ Q <;> (try simp only [vki,reduceCtorEq] at h))|omega|assumption|with_reducible rfl|(refine vq ?_;kernel_rfl)|skip)))
          refine ⟨⟨⟨m,by omega,by omega⟩,i.less fun h=>c1 (r1.2 h.1)⟩,by show m < m+1;omega,?_⟩
          (refine Le.ok some [] ?_;constructor;all_goals (try simp only [vle,vkt,seval,-Int.reduceSub,-Int.reduceAdd,-Int.reduceMul,tbG7_84,xbG7_1]))
          all_goals first|rfl|(simp [RI.less];done)
    · have hk1:k=1:=by omega
      subst hk1
      have hl:=i.last (by omega) (by omega)
      rw [hV,hl]
      repeat' (first|(apply nx;with_reducible constructor)|refine uq (by decide) ?_|((first|refine vz env fun Q hQ=>?_|refine vj fun Q hQ=>?_);simp only [vkt,seval,-Int.reduceSub,-Int.reduceAdd,-Int.reduceMul,tbG7_84,xbG7_1];(try simp only [ite_and]);(repeat' (first|with_reducible assumption|refine And.intro ?_ ?_|intro hp));all_goals (first|(refine hQ _ ?_;clear hQ Q)|(refine hQ _ (fun h=>?_) (fun h=>?_) <;> clear hQ Q <;> (try simp only [vki,reduceCtorEq] at h))|omega|assumption|with_reducible rfl|(refine vq ?_;kernel_rfl)|skip)))
      (simp only [vrt,Try.results84,vkt,seval,-Int.reduceSub,-Int.reduceAdd,-Int.reduceMul,tbG7_84,xbG7_1];refine Fin.ok some [] ?_ ?_ ?_ ?_ ?_ rfl;all_goals (try simp only [vle,vkt,seval,-Int.reduceSub,-Int.reduceAdd,-Int.reduceMul,tbG7_84,xbG7_1]))
      all_goals first|rfl|(simp;done)
noncomputable def p84 (S:St):List AV→Option Pk
  |[.ptr i 0]=>match S.h i with
    |some (.cells [.v (.int .u64 x)])=>some { hs:=[i],ar:=[.ptr 0 0],L0:=[.cells [.v (.int .u64 x)]],v:=.agg [.v (.int .i64 (rtV x).num),.v (.int .i64 (rtV x).den)],L1:=[some (.cells [.v (.int .u64 (rtS x))])],fl:=true }
    |_=>none
  |_=>none
theorem e84 {A:Frm→Prop}:EntryOK A Try.prog 84 (fnE p84):=fnE_ok fun S bs q h hp=>by
  unfold p84 at h
  split at h
  · split at h
    · cases h;exact rateOf_fn _
    · cases h
  · cases h
noncomputable def oneV (x:Int) (l:List Int):Int:=l.getD (upV x ((l.length:Int) - 1)).toNat 0
theorem upV_le {x m:Int} (h0:0≤m) (h:m < 9223372036854775807):0≤upV x m∧upV x m≤m:=by
  have:=upV_bd (x:=x) h;omega
theorem oneV_mem {x:Int} {l:List Int} (h1:1≤l.length) (h2:l.length≤100):oneV x l ∈ l:=by
  have:=upV_le (x:=x) (m:=(l.length:Int) - 1) (by omega) (by omega)
  exact gMem (by omega)
def tbG7_85:=vk @ty3 (vk @ty22 (vk @ti3.eq_1 @ti22.eq_1))
def xbG7_2:=vk @aI.eq_1 (vk @aB.eq_1 (vk @aInts.eq_1 (vk @bgH.eq_1 (vk @p22.eq_1 (vk @p22.eq_2 (vk @gInt (@eInt.eq_1)))))))
theorem one_fn (x:Int) (l:List Int) (h1:1≤l.length) (h2:l.length≤100):Fn noB Try.prog 85 [.ptr 0 0,aInts l] (hasg (bgH x)) (aI (oneV x l)) (hasg (bgH (upS x ((l.length:Int) - 1)))) 0:=by
  have env:Env (fun _=>True) Try.prog tyB (tab [(22,fnE p22)]):=mkEnv ⟨e22,trivial⟩
  refine Fn.of (A:=fun _=>True) (n0:=1) (D:=noD) (Fn0 Try.func85 rfl (fun vs w=>by kernel_rfl) (by kernel_rfl)) (by simp) (by simp [AV.ids,AV.idsL,aInts]) ?_ (fun _ _ _ _=>trivial) noD_ok ?_
  · intro i o hi
    have h:=hasg_mem hi
    simp [bgH] at h
    rcases h with ⟨rfl,rfl⟩;simp [AObj.ids,AV.ids,AV.idsL]
  have hu:=upV_le (x:=x) (m:=(l.length:Int) - 1) (by omega) (by omega)
  have w1:IntKind.wrap .i64 ((l.length:Int) - 1)=(l.length:Int) - 1:=wrap64 (by omega) (by omega)
  have nz:¬ (l.length:Int)=0:=by omega
  have h3:(l.length:Int) - 1 < 9223372036854775807:=by omega
  have h4:(upV x ((l.length:Int) - 1)).toNat < l.length:=by omega
  repeat' (first|(apply nx;with_reducible constructor)|refine uq (by decide) ?_|((first|refine vz env fun Q hQ=>?_|refine vj fun Q hQ=>?_);simp only [vkt,seval,-Int.reduceSub,-Int.reduceAdd,-Int.reduceMul,tbG7_85,xbG7_2,w1,nz];(try simp only [ite_and]);(repeat' (first|with_reducible assumption|refine And.intro ?_ ?_|intro hp));all_goals (first|(refine hQ _ ?_;clear hQ Q)|(refine hQ _ (fun h=>?_) (fun h=>?_) <;> clear hQ Q <;> (try simp only [vki,reduceCtorEq] at h))|omega|assumption|with_reducible rfl|(refine vq ?_;kernel_rfl)|skip)))
  (simp only [vrt,Try.results85,vkt,seval,-Int.reduceSub,-Int.reduceAdd,-Int.reduceMul,tbG7_85,xbG7_2];refine Fin.ok some [] ?_ ?_ ?_ ?_ ?_ rfl;all_goals (try simp only [vle,vkt,seval,-Int.reduceSub,-Int.reduceAdd,-Int.reduceMul,tbG7_85,xbG7_2]))
  all_goals first|rfl|(simp;done)
noncomputable def p85 (S:St):List AV→Option Pk
  |[.ptr i 0,.row r]=>match S.h i with
    |some (.cells [.v (.int .u64 x)])=>match S.h r with
      |some (.row _ _ xs)=>some { pre:=xs=(xs.map dInt).map eInt∧1≤xs.length∧xs.length≤100,hs:=[i],bo:=[r],ar:=[.ptr 0 0,.sl xs],L0:=[.cells [.v (.int .u64 x)]],v:=.v (.int .i64 (oneV x (xs.map dInt))),L1:=[some (.cells [.v (.int .u64 (upS x ((xs.length:Int) - 1)))])],fl:=true }
      |_=>none
    |_=>none
  |_=>none
theorem e85 {A:Frm→Prop}:EntryOK A Try.prog 85 (fnE p85):=fnE_ok fun S bs q h hp=>by
  unfold p85 at h
  split at h
  · split at h
    · split at h
      · cases h
        obtain ⟨h1,h2,h3⟩:=hp
        rename_i x _ _ _ _ xs _
        have:=one_fn x (List.map dInt xs) (by rw [List.length_map];exact h2) (by rw [List.length_map];exact h3)
        simp only [aInts,← h1,List.length_map] at this
        exact this
      · cases h
    · cases h
  · cases h
def tbG7_71:=vk @ty3 @ti3.eq_1
def xbG7_3:=vk @aI.eq_1 (vk @aB.eq_1 (vk @aInts.eq_1 (vk @bgH.eq_1 (vk @p22.eq_1 (@p22.eq_2)))))
theorem chance_fn (x n m:Int) (h1:1≤m) (h2:m≤1000):Fn noB Try.prog 71 [.ptr 0 0,aI n,aI m] (hasg (bgH x)) (aB (decide (upV x (m - 1) < n))) (hasg (bgH (upS x (m - 1)))) 0:=by
  have env:Env (fun _=>True) Try.prog tyB (tab [(22,fnE p22)]):=mkEnv ⟨e22,trivial⟩
  refine Fn.of (A:=fun _=>True) (n0:=1) (D:=noD) (Fn0 Try.func71 rfl (fun vs w=>by kernel_rfl) (by kernel_rfl)) (by simp) (by simp [AV.ids,AV.idsL,aI]) ?_ (fun _ _ _ _=>trivial) noD_ok ?_
  · intro i o hi
    have h:=hasg_mem hi
    simp [bgH] at h
    rcases h with ⟨rfl,rfl⟩;simp [AObj.ids,AV.ids,AV.idsL]
  have w1:IntKind.wrap .i64 (m - 1)=m - 1:=wrap64 (by omega) (by omega)
  have h3:m - 1 < 9223372036854775807:=by omega
  repeat' (first|(apply nx;with_reducible constructor)|refine uq (by decide) ?_|((first|refine vz env fun Q hQ=>?_|refine vj fun Q hQ=>?_);simp only [vkt,seval,-Int.reduceSub,-Int.reduceAdd,-Int.reduceMul,tbG7_71,xbG7_3,w1];(try simp only [ite_and]);(repeat' (first|with_reducible assumption|refine And.intro ?_ ?_|intro hp));all_goals (first|(refine hQ _ ?_;clear hQ Q)|(refine hQ _ (fun h=>?_) (fun h=>?_) <;> clear hQ Q <;> (try simp only [vki,reduceCtorEq] at h))|omega|assumption|with_reducible rfl|(refine vq ?_;kernel_rfl)|skip)))
  (simp only [vrt,Try.results71,vkt,seval,-Int.reduceSub,-Int.reduceAdd,-Int.reduceMul,tbG7_71,xbG7_3];refine Fin.ok some [] ?_ ?_ ?_ ?_ ?_ rfl;all_goals (try simp only [vle,vkt,seval,-Int.reduceSub,-Int.reduceAdd,-Int.reduceMul,tbG7_71,xbG7_3]))
  all_goals first|rfl|(simp;done)
noncomputable def p71 (S:St):List AV→Option Pk
  |[.ptr i 0,.v (.int .i64 n),.v (.int .i64 m)]=>match S.h i with
    |some (.cells [.v (.int .u64 x)])=>some { pre:=1≤m∧m≤1000,hs:=[i],ar:=[.ptr 0 0,.v (.int .i64 n),.v (.int .i64 m)],L0:=[.cells [.v (.int .u64 x)]],v:=.v (.bool (decide (upV x (m - 1) < n))),L1:=[some (.cells [.v (.int .u64 (upS x (m - 1)))])],fl:=true }
    |_=>none
  |_=>none
theorem e71 {A:Frm→Prop}:EntryOK A Try.prog 71 (fnE p71):=fnE_ok fun S bs q h hp=>by
  unfold p71 at h
  split at h
  · split at h
    · cases h;exact chance_fn _ _ _ hp.1 hp.2
    · cases h
  · cases h
def foldV (x n:Int):Int:=if n < 2 then 0 else (x.tmod n+n).tmod n
def tbG7_54:=vk @ty3 @ti3.eq_1
def xbG7_4:=vk @aI.eq_1 (@aB.eq_1)
theorem fold_fn (x n:Int) (h2:n≤1000000):FnV Try.prog 54 [aI x,aI n] (aI (foldV x n)):=by
  have env:Env (fun _=>True) Try.prog tyB (tab []):=mkEnv trivial
  refine Fn.of (A:=fun _=>True) (n0:=0) (D:=noD) (Fn0 Try.func54 rfl (fun vs w=>by kernel_rfl) (by kernel_rfl)) (by simp) (by simp [AV.ids,AV.idsL,aI]) (fun i o h=>by cases h) (fun _ _ _ _=>trivial) noD_ok ?_
  by_cases c1:n < 2
  · repeat' (first|(apply nx;with_reducible constructor)|refine uq (by decide) ?_|((first|refine vz env fun Q hQ=>?_|refine vj fun Q hQ=>?_);simp only [vkt,seval,-Int.reduceSub,-Int.reduceAdd,-Int.reduceMul,tbG7_54,xbG7_4,c1];(try simp only [ite_and]);(repeat' (first|with_reducible assumption|refine And.intro ?_ ?_|intro hp));all_goals (first|(refine hQ _ ?_;clear hQ Q)|(refine hQ _ (fun h=>?_) (fun h=>?_) <;> clear hQ Q <;> (try simp only [vki,reduceCtorEq] at h))|omega|assumption|with_reducible rfl|(refine vq ?_;kernel_rfl)|skip)))
    (simp only [vrt,Try.results54,vkt,seval,-Int.reduceSub,-Int.reduceAdd,-Int.reduceMul,tbG7_54,xbG7_4];refine Fin.val rfl ?_;(try simp only [AV.le,AV.leL]))
    all_goals simp [foldV,c1]
  · have nz:¬ n=0:=by omega
    have h3:x.tmod n < n:=Int.tmod_lt_of_pos x (by omega)
    have h5:-n < x.tmod n:=Int.lt_tmod_of_pos x (by omega)
    have w1:IntKind.wrap .i64 (x.tmod n+n)=x.tmod n+n:=wrap64 (by omega) (by omega)
    repeat' (first|(apply nx;with_reducible constructor)|refine uq (by decide) ?_|((first|refine vz env fun Q hQ=>?_|refine vj fun Q hQ=>?_);simp only [vkt,seval,-Int.reduceSub,-Int.reduceAdd,-Int.reduceMul,tbG7_54,xbG7_4,c1,nz,w1];(try simp only [ite_and]);(repeat' (first|with_reducible assumption|refine And.intro ?_ ?_|intro hp));all_goals (first|(refine hQ _ ?_;clear hQ Q)|(refine hQ _ (fun h=>?_) (fun h=>?_) <;> clear hQ Q <;> (try simp only [vki,reduceCtorEq] at h))|omega|assumption|with_reducible rfl|(refine vq ?_;kernel_rfl)|skip)))
    (simp only [vrt,Try.results54,vkt,seval,-Int.reduceSub,-Int.reduceAdd,-Int.reduceMul,tbG7_54,xbG7_4];refine Fin.val rfl ?_;(try simp only [AV.le,AV.leL]))
    all_goals simp [foldV,c1]
def s54:List AV→Prop × AV
  |[.v (.int .i64 x),.v (.int .i64 n)]=>(n≤1000000,aI (foldV x n))
  |_=>(False,.junk)
theorem e54 {A:Frm→Prop}:EntryOK A Try.prog 54 (valE true s54):=valE_ok fun vs _ h=>by
  unfold s54 at h ⊢
  split at h
  · exact ⟨trivial,fun _=>trivial,fold_fn _ _ h⟩
  · exact h.elim
theorem foldV_bd {x n:Int} (h:1≤n):0≤foldV x n∧foldV x n < n:=by
  unfold foldV
  split
  · omega
  · have h5:-n < x.tmod n:=Int.lt_tmod_of_pos x (by omega)
    have h1:0≤x.tmod n+n:=by omega
    rw [Int.tmod_eq_emod_of_nonneg h1]
    exact ⟨Int.emod_nonneg _ (by omega),Int.emod_lt_of_pos _ (by omega)⟩
end Go.Sym.B
namespace Go.Sym.B
open Go Go.Sym Go.Proofs Go.Sym.C
noncomputable def pcK (x:Int):Nat→List Int × Int
  |0=>([1],x)
  |k+1=>((pcK x k).1++[(pcK x k).1.getD k 0+(1+upV (pcK x k).2 (12 - 1))],upS (pcK x k).2 (12 - 1))
structure PcOk (p:List Int) (k:Nat):Prop where
  len:p.length=k+1
  one:p.getD 0 0=1
  up:∀ i,i < k→p.getD i 0 < p.getD (i+1) 0
  le:∀ i,i≤k→1≤p.getD i 0∧p.getD i 0≤1+12 * (i:Int)
theorem getD_snocL {α:Type} {l:List α} {v d:α} {i:Nat} (h:i < l.length):(l++[v]).getD i d=l.getD i d:=by
  simp [List.getD_eq_getElem?_getD,List.getElem?_append_left h]
theorem getD_snocR {α:Type} {l:List α} {v d:α} {i:Nat} (h:i=l.length):(l++[v]).getD i d=v:=by
  subst h;simp [List.getD_eq_getElem?_getD]
theorem pcK_ok (x:Int):∀ k,PcOk (pcK x k).1 k
  | 0 => ⟨rfl, rfl, fun i h => by omega, fun i h => by obtain rfl : i = 0 := by omega
                                                       simp [pcK]⟩
  |k+1=>by
    have ih:=pcK_ok x k
    have hu:=upV_bd (x:=(pcK x k).2) (m:=12 - 1) (by decide)
    have hl:=ih.len
    have hk:=ih.le k (Nat.le_refl _)
    rw [pcK]
    refine ⟨by simp [hl],by rw [getD_snocL (by omega)];exact ih.one,fun i hi=>?_,fun i hi=>?_⟩
    · rcases Nat.lt_or_eq_of_le (Nat.le_of_lt_succ hi) with h|h
      · rw [getD_snocL (by omega),getD_snocL (by omega)];exact ih.up i h
      · subst h;rw [getD_snocL (by omega),getD_snocR hl.symm];omega
    · rcases Nat.lt_or_eq_of_le hi with h|h
      · rw [getD_snocL (by omega)];exact ih.le i (by omega)
      · subst h;rw [getD_snocR hl.symm];omega
structure CoS where
  cs:List (List Int)
  ss:List Int
  x:Int
noncomputable def coStep (s:CoS):CoS:=⟨s.cs++[(pcK (upS s.x 3) (upV s.x 3).toNat).1],s.ss++[upV (pcK (upS s.x 3) (upV s.x 3).toNat).2 200],upS (pcK (upS s.x 3) (upV s.x 3).toNat).2 200⟩
noncomputable def coK (x:Int):Nat→CoS
  |0=>⟨[],[],x⟩
  |k+1=>coStep (coK x k)
theorem coK_succ (x:Int) (k:Nat):coK x (k+1)=coStep (coK x k):=rfl
structure CoOk (s:CoS) (k:Nat):Prop where
  c:s.cs.length=k
  l:s.ss.length=k
  p:∀ q ∈ s.cs,∃ j,j≤3∧PcOk q j
  v:∀ n ∈ s.ss,0≤n∧n≤200
theorem coK_ok (x:Int):∀ k,CoOk (coK x k) k
  |0=>⟨rfl,rfl,fun q hq=>by simp [coK] at hq,fun q hq=>by simp [coK] at hq⟩
  |k+1=>by
    have ih:=coK_ok x k
    rw [coK_succ]
    unfold coStep
    have h1:=upV_bd (x:=(coK x k).x) (m:=3) (by decide)
    have h2:=upV_bd (x:=(pcK (upS (coK x k).x 3) (upV (coK x k).x 3).toNat).2) (m:=200) (by decide)
    refine ⟨by simp [ih.c],by simp [ih.l],fun q hq=>?_,fun q hq=>?_⟩
    · rcases List.mem_append.1 hq with hq|hq
      · exact ih.p q hq
      · obtain rfl:=List.mem_singleton.1 hq
        exact ⟨_,by omega,pcK_ok _ _⟩
    · rcases List.mem_append.1 hq with hq|hq
      · exact ih.v q hq
      · obtain rfl:=List.mem_singleton.1 hq
        omega
noncomputable def rtK (x:Int):Nat→List Sh × Int
  |0=>([⟨1,1⟩],x)
  |k+1=>((rtK x k).1++[rtV (rtK x k).2],rtS (rtK x k).2)
structure ShOk (s:Sh):Prop where
  n:1≤s.num∧s.num≤20
  d:1≤s.den∧s.den≤12
  r:s=shQ (mkRat s.num s.den.toNat)
theorem shQ_ok {q:Rat} (h1:1≤q.num∧q.num≤20) (h2:(q.den:Int)≤12):ShOk (shQ q) :=
  ⟨h1,⟨by have:=den_pos q;show (1:Int)≤(q.den:Int);omega,h2⟩,by show shQ q=shQ (mkRat q.num (q.den:Int).toNat);rw [Int.toNat_natCast,Rat.mkRat_self]⟩
theorem mkq_bd {n d:Int} (hn:1≤n∧n≤20) (hd:1≤d∧d≤12):(1≤(mkRat n d.toNat).num∧(mkRat n d.toNat).num≤20)∧((mkRat n d.toNat).den:Int)≤12:=by
  have hq:(0:Int) < d:=by omega
  have e1:=mk_num_le (a:=n) hq
  have e2:=mk_den_le (a:=n) hq
  have hp:0 < (mkRat n d.toNat).num:=by
    have hm:=mk_num (a:=n) hq
    have h5:0 < Nat.gcd n.natAbs d.toNat:=Nat.gcd_pos_of_pos_left _ (by omega)
    have h6:=Nat.gcd_dvd_left n.natAbs d.toNat
    rw [hm]
    generalize Nat.gcd n.natAbs d.toNat=g at *
    obtain ⟨q,hq⟩:=h6
    have h7:n=(g:Int) * (q:Int):=by
      rw [show n=(n.natAbs:Int) by omega,hq];exact Int.natCast_mul g q
    rw [h7,Int.mul_tdiv_cancel_left _ (by omega)]
    rcases Nat.eq_zero_or_pos q with h8|h8
    · subst h8;simp at h7;omega
    · omega
  omega
theorem rtV_ok (x:Int):ShOk (rtV x):=by
  have h:=mkq_bd (rt_bd7 x).1 (rt_bd7 x).2
  unfold rtV
  exact shQ_ok h.1 h.2
structure RwOk (r:List Sh) (m:Nat):Prop where
  len:r.length=m
  one:r.getD 0 default=⟨1,1⟩
  all:∀ s ∈ r,ShOk s
theorem rtK_ok (x:Int):∀ k,RwOk (rtK x k).1 (k+1)
  |0=>⟨rfl,rfl,fun s hs=>by
    obtain rfl:=List.mem_singleton.1 hs
    exact ⟨by decide,by decide,by decide +kernel⟩⟩
  |k+1=>by
    have ih:=rtK_ok x k
    rw [rtK]
    refine ⟨by simp [ih.len],by rw [getD_snocL (by have:=ih.len;omega)];exact ih.one,fun s hs=>?_⟩
    rcases List.mem_append.1 hs with hs|hs
    · exact ih.all s hs
    · obtain rfl:=List.mem_singleton.1 hs
      exact rtV_ok _
noncomputable def dyK (m:Nat) (x:Int):Nat→List (List Sh) × Int
  |0=>([],x)
  |k+1=>((dyK m x k).1++[(rtK (dyK m x k).2 m).1],(rtK (dyK m x k).2 m).2)
theorem dyK_ok (m:Nat) (x:Int):∀ k,(dyK m x k).1.length=k∧∀ r ∈ (dyK m x k).1,RwOk r (m+1)
  |0=>⟨rfl,fun r h=>by simp [dyK] at h⟩
  |k+1=>by
    obtain ⟨h1,h2⟩:=dyK_ok m x k
    rw [dyK]
    refine ⟨by simp [h1],fun r hr=>?_⟩
    rcases List.mem_append.1 hr with hr|hr
    · exact h2 r hr
    · obtain rfl:=List.mem_singleton.1 hr
      exact rtK_ok _ _
structure EnS where
  day:Int
  till:List Int
  es:List Ent
  x:Int
noncomputable def enD (R:Nat) (s:EnS):Int:=s.day+upV s.x (min (s.day+1) ((R:Int) - 1) - s.day)
noncomputable def enX1 (R:Nat) (s:EnS):Int:=upS s.x (min (s.day+1) ((R:Int) - 1) - s.day)
def kinds:List Int:=[1,2,3,3,3,4]
noncomputable def enS1 (s:EnS) (day coin x:Int):EnS:=⟨day,s.till.set coin.toNat (s.till.getD coin.toNat 0+upV x 90),s.es++[⟨day,1,coin,0,upV x 90,0⟩],upS x 90⟩
noncomputable def enS2 (s:EnS) (day coin x:Int):EnS:=⟨day,s.till.set coin.toNat (s.till.getD coin.toNat 0 - upV x (min (s.till.getD coin.toNat 0) 90)),s.es++[⟨day,2,coin,0,upV x (min (s.till.getD coin.toNat 0) 90),0⟩],upS x (min (s.till.getD coin.toNat 0) 90)⟩
noncomputable def enF (x:Int):Int:=-3+upV x (3 - -3)
noncomputable def enA4 (h x:Int):Int:=max 0 (min 999 (h+oneV (upS x (3 - -3)) [0,enF x]))
noncomputable def enS4 (s:EnS) (day coin x:Int):EnS:=⟨day,s.till.set coin.toNat (enA4 (s.till.getD coin.toNat 0) x),s.es++[⟨day,4,coin,0,enA4 (s.till.getD coin.toNat 0) x,0⟩],upS (upS x (3 - -3)) ((2:Nat) - 1)⟩
def enG0 (rs:List (List Sh)) (day coin to am:Int):Int :=
  (am * ((rs.getD day.toNat []).getD coin.toNat default).num * ((rs.getD day.toNat []).getD to.toNat default).den).tdiv (((rs.getD day.toNat []).getD coin.toNat default).den * ((rs.getD day.toNat []).getD to.toNat default).num)
def enS3b (s:EnS) (day coin to am got x:Int):EnS :=
  if 999 < got then ⟨day,s.till,s.es,x⟩ else ⟨day,(s.till.set coin.toNat (s.till.getD coin.toNat 0 - am)).set to.toNat (s.till.getD to.toNat 0+got),s.es++[⟨day,3,coin,to,am,got⟩],x⟩
noncomputable def enS3a (rs:List (List Sh)) (w:Int) (s:EnS) (day coin to am x:Int):EnS :=
  if upV x (10 - 1) < w then enS3b s day coin to am (enG0 rs day coin to am+(1+upV (upS x (10 - 1)) (3 - 1))) (upS (upS x (10 - 1)) (3 - 1))
  else enS3b s day coin to am (enG0 rs day coin to am) (upS x (10 - 1))
noncomputable def enTo (C:Nat) (coin x:Int):Int:=foldV (coin+(1+upV x ((C:Int) - 1 - 1))) C
noncomputable def enS3 (C:Nat) (rs:List (List Sh)) (w:Int) (s:EnS) (day coin x:Int):EnS :=
  if C=1 then ⟨day,s.till,s.es,x⟩ else
  enS3a rs w s day coin (enTo C coin x) (upV (upS x ((C:Int) - 1 - 1)) (min (s.till.getD coin.toNat 0) 40)) (upS (upS x ((C:Int) - 1 - 1)) (min (s.till.getD coin.toNat 0) 40))
noncomputable def enS0 (C:Nat) (rs:List (List Sh)) (w:Int) (s:EnS) (day kind coin x:Int):EnS :=
  if kind=1 then enS1 s day coin x else if kind=2 then enS2 s day coin x else if kind=4 then enS4 s day coin x else enS3 C rs w s day coin x
noncomputable def enK0 (R:Nat) (s:EnS):Int:=oneV (enX1 R s) kinds
noncomputable def enX2 (R:Nat) (s:EnS):Int:=upS (enX1 R s) ((6:Nat) - 1)
noncomputable def enStep (C:Nat) (rs:List (List Sh)) (w:Int) (s:EnS):EnS :=
  enS0 C rs w s (enD rs.length s) (enK0 rs.length s) (upV (enX2 rs.length s) ((C:Int) - 1)) (upS (enX2 rs.length s) ((C:Int) - 1))
noncomputable def enK (C:Nat) (rs:List (List Sh)) (w:Int) (s:EnS):Nat→EnS
  |0=>s
  |k+1=>enStep C rs w (enK C rs w s k)
structure EnI (C R k:Nat) (s:EnS):Prop where
  d0:0≤s.day
  d1:s.day≤(R:Int) - 1
  len:s.till.length=C
  b:∀ v ∈ s.till,0≤v∧v≤999 * ((k:Int)+1)
  es:s.es.length≤k
theorem enD_bd {C R k:Nat} {s:EnS} (h:EnI C R k s) (hR:R≤100):s.day≤enD R s∧enD R s≤(R:Int) - 1:=by
  have h0:=h.d0
  have h1:=h.d1
  have:=upV_le (x:=s.x) (m:=min (s.day+1) ((R:Int) - 1) - s.day) (by omega) (by omega)
  unfold enD
  omega
structure EnJ (C R k:Nat) (s:EnS) (day coin:Int):Prop where
  i:EnI C R k s
  d0:0≤day
  d1:day≤(R:Int) - 1
  c0:0≤coin
  c1:coin≤(C:Int) - 1
theorem EnJ.h {C R k:Nat} {s:EnS} {day coin:Int} (j:EnJ C R k s day coin):0≤s.till.getD coin.toNat 0∧s.till.getD coin.toNat 0≤999 * ((k:Int)+1):=by
  have:=j.c0
  have:=j.c1
  have:=j.i.len
  exact j.i.b _ (gMem (by omega))
theorem mem_set_bd {l:List Int} {i:Nat} {v:Int} {P:Int→Prop} (h:∀ x ∈ l,P x) (hv:P v):∀ x ∈ l.set i v,P x:=fun x hx=>by
  rcases List.mem_or_eq_of_mem_set hx with h1|h1
  · exact h x h1
  · exact h1 ▸ hv
theorem EnJ.bd {C R k:Nat} {s:EnS} {day coin:Int} (j:EnJ C R k s day coin):∀ v ∈ s.till,0≤v∧v≤999 * (((k+1:Nat):Int)+1):=fun v hv=>by
  have:=j.i.b v hv;omega
theorem EnJ.set {C R k:Nat} {s:EnS} {day coin:Int} (j:EnJ C R k s day coin) {v:Int} {e:Ent} {x:Int} (h:0≤v∧v≤999 * ((k:Int)+1)+999):EnI C R (k+1) ⟨day,s.till.set coin.toNat v,s.es++[e],x⟩ :=
  ⟨j.d0,j.d1,by simp [j.i.len],mem_set_bd j.bd (by omega),by simp;exact j.i.es⟩
theorem enA4_bd (h x:Int):0≤enA4 h x∧enA4 h x≤999:=by unfold enA4;omega
theorem enS3b_ok {C R k:Nat} {s:EnS} {day coin:Int} (j:EnJ C R k s day coin) {to am got x:Int} (ha:0≤am) (ha':am≤s.till.getD coin.toNat 0) (ht:0≤to∧to < C) (hg:0≤got):EnI C R (k+1) (enS3b s day coin to am got x):=by
  unfold enS3b
  have hh:=j.h
  have hl:=j.i.len
  split
  · exact ⟨j.d0,j.d1,hl,j.bd,Nat.le_succ_of_le j.i.es⟩
  · have h2:=j.i.b _ (gMem (l:=s.till) (k:=to.toNat) (d:=0) (by omega))
    exact ⟨j.d0,j.d1,by simp [hl],mem_set_bd (mem_set_bd j.bd (by omega)) (by omega),by simp;exact j.i.es⟩
theorem enG0_bd {rs:List (List Sh)} {day coin to am:Int} (h1:ShOk ((rs.getD day.toNat []).getD coin.toNat default)) (h2:ShOk ((rs.getD day.toNat []).getD to.toNat default)) (ha:0≤am) (ha':am≤40) :
    0≤enG0 rs day coin to am∧enG0 rs day coin to am≤9600:=by
  unfold enG0
  have a1:=h1.n
  have a2:=h1.d
  have a3:=h2.n
  have a4:=h2.d
  generalize ((rs.getD day.toNat []).getD coin.toNat default).num=p at *
  generalize ((rs.getD day.toNat []).getD coin.toNat default).den=q at *
  generalize ((rs.getD day.toNat []).getD to.toNat default).num=r at *
  generalize ((rs.getD day.toNat []).getD to.toNat default).den=u at *
  have m1:0≤am * p * u:=Int.mul_nonneg (Int.mul_nonneg ha (by omega)) (by omega)
  have m2:am * p≤40 * 20:=Int.mul_le_mul ha' a1.2 (by omega) (by omega)
  have m3:am * p * u≤40 * 20 * 12:=Int.mul_le_mul m2 a4.2 (by omega) (by omega)
  have m4:0 < q * r:=Int.mul_pos (by omega) (by omega)
  rw [Int.tdiv_eq_ediv_of_nonneg m1]
  refine ⟨Int.ediv_nonneg m1 (by omega),Int.le_trans (Int.ediv_le_self _ m1) (by omega)⟩
structure RsOk (rs:List (List Sh)) (C:Nat):Prop where
  len:1≤rs.length∧rs.length≤4
  all:∀ r ∈ rs,RwOk r C
theorem RsOk.sh {rs:List (List Sh)} {C:Nat} (h:RsOk rs C) {day coin:Int} (h1:0≤day) (h2:day≤(rs.length:Int) - 1) (h3:0≤coin) (h4:coin≤(C:Int) - 1):ShOk ((rs.getD day.toNat []).getD coin.toNat default):=by
  have hr:=h.all _ (gMem (l:=rs) (k:=day.toNat) (d:=[]) (by omega))
  exact hr.all _ (gMem (by have:=hr.len;omega))
theorem enS0_ok {C k:Nat} {rs:List (List Sh)} (hr:RsOk rs C) (hC:1≤C∧C≤4) {w:Int} {s:EnS} {day coin:Int} (j:EnJ C rs.length k s day coin) (kind x:Int):EnI C rs.length (k+1) (enS0 C rs w s day kind coin x):=by
  have hh:=j.h
  have hc0:=j.c0
  have hc1:=j.c1
  unfold enS0
  split
  · unfold enS1
    have:=upV_le (x:=x) (m:=90) (by decide) (by decide)
    exact j.set (by omega)
  split
  · unfold enS2
    have:=upV_bd (x:=x) (m:=min (s.till.getD coin.toNat 0) 90) (by omega)
    exact j.set (by omega)
  split
  · unfold enS4
    have:=enA4_bd (s.till.getD coin.toNat 0) x
    exact j.set (by omega)
  · unfold enS3
    split
    · exact ⟨j.d0,j.d1,j.i.len,j.bd,Nat.le_succ_of_le j.i.es⟩
    · have ht:0≤enTo C coin x∧enTo C coin x < C:=foldV_bd (by omega)
      generalize enTo C coin x=to at *
      generalize upS x ((C:Int) - 1 - 1)=y
      have ha:=upV_bd (x:=y) (m:=min (s.till.getD coin.toNat 0) 40) (by omega)
      generalize upV y (min (s.till.getD coin.toNat 0) 40)=am at *
      have s1:=hr.sh j.d0 j.d1 hc0 hc1
      have s2:=hr.sh j.d0 j.d1 ht.1 (show to≤(C:Int) - 1 by omega)
      have hg:=enG0_bd s1 s2 (am:=am) (by omega) (by omega)
      unfold enS3a
      split
      · have:=upV_bd (x:=upS (upS y (min (s.till.getD coin.toNat 0) 40)) (10 - 1)) (m:=3 - 1) (by decide)
        exact enS3b_ok j (by omega) (by omega) ht (by omega)
      · exact enS3b_ok j (by omega) (by omega) ht (by omega)
theorem enJ_of {C k:Nat} {rs:List (List Sh)} (hr:RsOk rs C) (hC:1≤C∧C≤4) {s:EnS} (h:EnI C rs.length k s):EnJ C rs.length k s (enD rs.length s) (upV (enX2 rs.length s) ((C:Int) - 1)):=by
  have h1:=enD_bd h (by have:=hr.len;omega)
  have h2:=upV_le (x:=enX2 rs.length s) (m:=(C:Int) - 1) (by omega) (by omega)
  exact ⟨h,by have:=h.d0;omega,h1.2,h2.1,h2.2⟩
theorem enK_ok {C:Nat} {rs:List (List Sh)} (hr:RsOk rs C) (hC:1≤C∧C≤4) {w:Int} {s:EnS} (h:EnI C rs.length 0 s):∀ k,EnI C rs.length k (enK C rs w s k)
  |0=>h
  |k+1=>enS0_ok hr hC (enJ_of hr hC (enK_ok hr hC h k)) _ _
noncomputable def lg1 (x c:Int):CoS:=coK (upS x (c - 1)) (1+upV x (c - 1)).toNat
noncomputable def lg2 (x c d:Int):List (List Sh) × Int:=dyK ((lg1 x c).cs.length - 1) (upS (lg1 x c).x (d - 1)) (1+upV (lg1 x c).x (d - 1)).toNat
noncomputable def lg3 (x c d e w:Int):EnS:=enK (lg1 x c).cs.length (lg2 x c d).1 w ⟨0,(lg1 x c).ss,[],upS (lg2 x c d).2 e⟩ (upV (lg2 x c d).2 e).toNat
noncomputable def lgL (x c d e w:Int):Led:=⟨(lg1 x c).cs,(lg2 x c d).1,(lg1 x c).ss,(lg3 x c d e w).es⟩
noncomputable def lgS (x c d e w:Int):Int:=(lg3 x c d e w).x
end Go.Sym.B
namespace Go.Sym.B
open Go Go.Sym Go.Proofs Go.Sym.C
theorem first0 {n:Nat} {f:Nat→Int} (h:∀ k,k < n→f k=0):firstE (errs n f)=0:=by
  have hall:∀ E:List Int,(∀ e ∈ E,e=0)→firstE E=0:=fun E=>by
    induction E with
    |nil=>intro _;rfl
    |cons e E ih=>intro h;rw [firstE,if_pos (h e List.mem_cons_self)];exact ih fun x hx=>h x (List.mem_cons_of_mem _ hx)
  refine hall _ fun e he=>?_
  obtain ⟨j,hj,rfl⟩:=List.mem_map.1 he
  exact h j (List.mem_range.1 hj)
theorem counted0 {n a b:Int} (h1:a≤n) (h2:n≤b):countedE n a b=0:=by unfold countedE;rw [if_neg (by omega),if_neg (by omega)]
theorem coinE_ok {q:List Int} {j:Nat} (h:PcOk q j) (hj:j≤3):coinE q=0:=by
  have hl:=h.len
  unfold coinE
  rw [if_neg (by rw [counted0 (by omega) (by omega)];simp),if_neg (by rw [h.one];simp)]
  refine first0 fun i hi=>?_
  have h1:=h.up i (by omega)
  have h2:=h.le (i+1) (by omega)
  unfold pieceE
  rw [Nat.add_comm 1 i,if_neg (by omega),if_neg (by omega)]
structure LgOk (L:Led):Prop where
  c:1≤L.coins.length∧L.coins.length≤4
  p:∀ q ∈ L.coins,∃ j,j≤3∧PcOk q j
  s:L.start.length=L.coins.length
  v:∀ n ∈ L.start,0≤n∧n≤200
  r:RsOk L.rates L.coins.length
  e:L.entries.length≤6
theorem lg_ok {x c d e w:Int} (hc:1≤c∧c≤4) (hd:1≤d∧d≤4) (he:0≤e∧e≤6):LgOk (lgL x c d e w):=by
  have h1:=upV_le (x:=x) (m:=c - 1) (by omega) (by omega)
  have ok1:CoOk (lg1 x c) (1+upV x (c - 1)).toNat:=coK_ok _ _
  have hl1:=ok1.c
  have h2:=upV_le (x:=(lg1 x c).x) (m:=d - 1) (by omega) (by omega)
  have ok2:(lg2 x c d).1.length=(1+upV (lg1 x c).x (d - 1)).toNat∧∀ r ∈ (lg2 x c d).1,RwOk r ((lg1 x c).cs.length - 1+1):=dyK_ok _ _ _
  rw [show (lg1 x c).cs.length - 1+1=(lg1 x c).cs.length by omega] at ok2
  have hr:RsOk (lg2 x c d).1 (lg1 x c).cs.length:=⟨by have:=ok2.1;omega,ok2.2⟩
  have h3:=upV_le (x:=(lg2 x c d).2) (m:=e) (by omega) (by omega)
  have hI:EnI (lg1 x c).cs.length (lg2 x c d).1.length 0 ⟨0,(lg1 x c).ss,[],upS (lg2 x c d).2 e⟩:=⟨Int.le_refl _,by show (0:Int)≤_;have:=hr.len;omega,by rw [ok1.c];exact ok1.l,fun v hv=>by have:=ok1.v v hv;omega,Nat.le_refl _⟩
  have h4:=(enK_ok hr (by omega) (w:=w) hI (upV (lg2 x c d).2 e).toNat).es
  refine ⟨?_,ok1.p,?_,ok1.v,hr,?_⟩
  · show 1≤(lg1 x c).cs.length∧(lg1 x c).cs.length≤4;omega
  · show (lg1 x c).ss.length=(lg1 x c).cs.length;rw [ok1.c];exact ok1.l
  · show (lg3 x c d e w).es.length≤6
    unfold lg3;omega
theorem LgOk.fit {L:Led} (h:LgOk L):Fit L:=by
  refine ⟨by have:=h.c;omega,fun q hq=>?_,by have:=h.r.len;omega,fun r hr=>?_,by have:=h.c;have:=h.s;omega,by have:=h.e;omega⟩
  · obtain ⟨j,hj,hp⟩:=h.p q hq
    have:=hp.len;omega
  · have:=(h.r.all r hr).len;have:=h.c;omega
end Go.Sym.B
namespace Go.Sym.B
open Go Go.Sym Go.Proofs Go.Sym.C
def chgV:Option (List Int)→AV
  |none=>.tup [.sl [],aI 11]
  |some y=>.tup [aInts y,aI 0]
theorem aChg_of {l:Led} {c:Int} {d:List Int} {n:Int} {o:Option (List Int)} (h:moneyE l c n [d]=0) (hn:∀ x ∈ d,0≤x) (ho:chs (l.coins.getD c.toNat []) d n=o):aChg l c d n=chgV o:=by
  unfold aChg
  rw [if_neg (by rw [h];simp),chgL,chg_is hn]
  subst ho
  cases chs (l.coins.getD c.toNat []) d n <;> rfl
def oL (o:Option (List Int)):List Int:=o.getD []
end Go.Sym.B
namespace Go.Sym.B
open Go Go.Sym Go.Proofs Go.Sym.C
theorem part_bd {d x:List Int} (hd:∀ n ∈ d,0≤n∧n≤4) (hl:d.length≤4) (hx:x ∈ partsL d):x.length=d.length∧(∀ v ∈ x,0≤v∧v≤4)∧0≤x.sum∧x.sum≤16:=by
  obtain ⟨h1,h2⟩:=parts_mem (fun n hn=>(hd n hn).1) hx
  have hb:∀ v ∈ x,0≤v∧v≤4:=fun v hv=>by
    obtain ⟨i,hi,rfl⟩:=List.mem_iff_getElem.1 hv
    have h3:=h2 i (by omega)
    have h4:=hd _ (gMem (l:=d) (k:=i) (d:=0) (by omega))
    rw [show x.getD i 0=x[i] by simp [List.getD_eq_getElem?_getD,hi]] at h3
    omega
  have:=sum_bd hb
  exact ⟨h1,hb,this.1,by omega⟩
end Go.Sym.B
namespace Go.Sym.B
open Go Go.Sym Go.Proofs Go.Sym.C
def ltR (r:Int→Int) (x y:Int):Prop:=r y < r x∨(r y=r x∧x < y)
def Has (l:List Int) (x:Int):Prop:=∃ i,i < l.length∧l.getD i 0=x
structure SoK (r:Int→Int) (n k:Nat) (l:List Int):Prop where
  len:l.length=n
  so:∀ a b,a < b→b≤k→ltR r (l.getD a 0) (l.getD b 0)
  keep:∀ i,k < i→i < n→l.getD i 0=i
  lo:∀ a,a≤k→0≤l.getD a 0∧l.getD a 0≤k
  has:∀ i:Nat,i < n→Has l i
end Go.Sym.B
namespace Go.Sym.B
open Go Go.Sym Go.Proofs Go.Sym.C
def manyS (l:List Int) (k:Nat):St:={ t:=asg [(0,aInts l),(3,aI (sumK (fun i=>l.getD i 0) k)),(4,aI k)],h:=hasg [],n:=0 }
def tbG3_83:=vk @ty3 (vk @ty22 (vk @ti3.eq_1 @ti22.eq_1))
def xbG3_1:=vk @aI.eq_1 (vk @aB.eq_1 (vk @manyS.eq_1 (vk @aInts.eq_1 (vk @gInt (@eInt.eq_1)))))
theorem many_fn (l:List Int) (hl:l.length≤10000) (hb:∀ x ∈ l,0≤x∧x≤1000000):FnV Try.prog 83 [aInts l] (aI (pSum l)):=by
  have env:Env (fun _=>True) Try.prog tyB (tab []):=mkEnv trivial
  refine Fn.of (A:=fun _=>True) (n0:=0) (D:=noD) (Fn0 Try.func83 rfl (fun vs w=>by kernel_rfl) (by kernel_rfl)) (by simp) (by simp [AV.ids,AV.idsL,aInts]) (fun i o h=>by cases h) (fun _ _ _ _=>trivial) noD_ok ?_
  have big:(100000:Nat)≤maxLen:=by decide
  repeat' (first|(apply nx;with_reducible constructor)|refine uq (by decide) ?_|((first|refine vz env fun Q hQ=>?_|refine vj fun Q hQ=>?_);simp only [vkt,seval,tbG3_83,xbG3_1];(try simp only [ite_and]);(repeat' (first|with_reducible assumption|refine And.intro ?_ ?_|intro hp));all_goals (first|(refine hQ _ ?_;clear hQ Q)|(refine hQ _ (fun h=>?_) (fun h=>?_) <;> clear hQ Q <;> (try simp only [vki,reduceCtorEq] at h))|omega|assumption|with_reducible rfl|(refine vq ?_;kernel_rfl)|skip)))
  refine sym_loop (fun k:{ k:Nat // k≤l.length }=>manyS l k.1) (fun k=>l.length - k.1) ⟨0,Nat.zero_le _⟩ ?_ fun ⟨k,hk⟩=>?_
  · (refine Le.ok some [] ?_;constructor;all_goals (try simp only [vle,vkt,seval,tbG3_83,xbG3_1]))
    all_goals first|rfl|simp [sumK]
  · repeat' (first|(apply nx;with_reducible constructor)|refine uq (by decide) ?_)
    (refine vz env fun Q hQ=>?_;simp only [vkt,seval,tbG3_83,xbG3_1];(try simp only [ite_and]);(repeat' (first|with_reducible assumption|refine And.intro ?_ ?_|intro hp));all_goals (first|(refine hQ _ ?_;clear hQ Q)|omega|assumption|with_reducible rfl|(refine vq ?_;kernel_rfl)|skip))
    repeat' (first|(apply nx;with_reducible constructor)|refine uq (by decide) ?_)
    (refine sym_cd (by simp only [vkt,seval,tbG3_83,xbG3_1];rfl) (fun h=>?_) (fun h=>?_) <;> (try simp only [vki,reduceCtorEq] at h))
    · have hlt:k < l.length:=by omega
      have e9:=wrap_succ hlt (show l.length≤maxLen by omega)
      have s1:=sumK_bd (f:=fun i=>l.getD i 0) (c:=1000000) (k:=k) fun i hi=>hb _ (gMem (by omega))
      have s2:=hb _ (gMem (d:=0) hlt)
      have e8:IntKind.wrap .i64 (sumK (fun i=>l.getD i 0) k+l.getD k 0)=sumK (fun i=>l.getD i 0) (k+1):=wrap64 (by omega) (by omega)
      repeat' (first|(apply nx;with_reducible constructor)|refine uq (by decide) ?_|((first|refine vz env fun Q hQ=>?_|refine vj fun Q hQ=>?_);simp only [vkt,seval,tbG3_83,xbG3_1,e8,e9];(try simp only [ite_and]);(repeat' (first|with_reducible assumption|refine And.intro ?_ ?_|intro hp));all_goals (first|(refine hQ _ ?_;clear hQ Q)|(refine hQ _ (fun h=>?_) (fun h=>?_) <;> clear hQ Q <;> (try simp only [vki,reduceCtorEq] at h))|omega|assumption|with_reducible rfl|(refine vq ?_;kernel_rfl)|skip)))
      refine ⟨⟨k+1,hlt⟩,by show l.length - (k+1) < l.length - k;omega,?_⟩
      (refine Le.ok some [] ?_;constructor;all_goals (try simp only [vle,vkt,seval,tbG3_83,xbG3_1]))
      all_goals first|rfl|(simp [e9];done)
    · have hkn:k=l.length:=by omega
      subst hkn
      repeat' (first|(apply nx;with_reducible constructor)|refine uq (by decide) ?_|((first|refine vz env fun Q hQ=>?_|refine vj fun Q hQ=>?_);simp only [vkt,seval,tbG3_83,xbG3_1];(try simp only [ite_and]);(repeat' (first|with_reducible assumption|refine And.intro ?_ ?_|intro hp));all_goals (first|(refine hQ _ ?_;clear hQ Q)|(refine hQ _ (fun h=>?_) (fun h=>?_) <;> clear hQ Q <;> (try simp only [vki,reduceCtorEq] at h))|omega|assumption|with_reducible rfl|(refine vq ?_;kernel_rfl)|skip)))
      (simp only [vrt,Try.results83,vkt,seval,tbG3_83,xbG3_1];refine Fin.val rfl ?_;(try simp only [AV.le,AV.leL]))
      all_goals first|rfl|(simp [pSum];done)
def s83:List AV→Prop × AV
  |[.sl xs]=>(xs=(xs.map dInt).map eInt∧xs.length≤10000∧(∀ x ∈ xs.map dInt,0≤x∧x≤1000000),aI (pSum (xs.map dInt)))
  |_=>(False,.junk)
theorem e83 {A:Frm→Prop}:EntryOK A Try.prog 83 (valE true s83):=valE_ok fun vs hv h=>by
  clear hv
  unfold s83 at h ⊢
  split at h
  · refine ⟨trivial,fun _=>trivial,?_⟩
    have:=many_fn (List.map dInt _) (by rw [List.length_map];exact h.2.1) h.2.2
    simp only [aInts,← h.1] at this
    exact this
  · exact h.elim
end Go.Sym.B
namespace Go.Sym.B
open Go Go.Sym Go.Proofs Go.Sym.C
def tbG4_23:=vk @ty3 (vk @ty22 (vk @ti3.eq_1 @ti22.eq_1))
def xbG4_1:=vk @aI.eq_1 (vk @aB.eq_1 (vk @aInts.eq_1 (@rInt)))
theorem copy_fn (l:List Int) (hl:l.length≤100000):FnV Try.prog 23 [aInts l] (aInts l):=by
  have env:Env (fun _=>True) Try.prog tyB (tab []):=mkEnv trivial
  refine Fn.of (A:=fun _=>True) (n0:=0) (D:=noD) (Fn0 Try.func23 rfl (fun vs w=>by kernel_rfl) (by kernel_rfl)) (by simp) (by simp [AV.ids,AV.idsL,aInts]) (fun i o h=>by cases h) (fun _ _ _ _=>trivial) noD_ok ?_
  obtain ⟨b1,b2,b3,b4⟩:=b47 hl
  repeat' (first|(apply nx;with_reducible constructor)|refine uq (by decide) ?_|((first|refine vz env fun Q hQ=>?_|refine vj fun Q hQ=>?_);simp only [vkt,Nat.reduceEqDiff,Nat.reduceAdd,Nat.reduceMul,Nat.reduceSub,Nat.reduceLeDiff,reduceCtorEq,↓reduceIte,↓reduceDIte,Int.reduceToNat,Int.reduceLE,Int.reduceLT,Int.reduceEq,Int.reduceNeg,tbG4_23,xbG4_1];(try simp only [ite_and]);(repeat' (first|with_reducible assumption|refine And.intro ?_ ?_|intro hp));all_goals (first|(refine hQ _ ?_;clear hQ Q)|(refine hQ _ (fun h=>?_) (fun h=>?_) <;> clear hQ Q <;> (try simp only [vki,reduceCtorEq] at h))|omega|assumption|with_reducible rfl|(refine vq ?_;kernel_rfl)|skip)))
  (simp only [vrt,Try.results23,vkt,Nat.reduceEqDiff,Nat.reduceAdd,Nat.reduceMul,Nat.reduceSub,Nat.reduceLeDiff,reduceCtorEq,↓reduceIte,↓reduceDIte,Int.reduceToNat,Int.reduceLE,Int.reduceLT,Int.reduceEq,Int.reduceNeg,tbG4_23,xbG4_1];refine Fin.val rfl ?_;(try simp only [AV.le,AV.leL]))
  exact ⟨_,_,rfl⟩
def c23:List AV→Prop × AV
  |[.sl xs]=>(xs=(xs.map dInt).map eInt∧xs.length≤100000,.sl xs)
  |_=>(False,.junk)
theorem d23 {A:Frm→Prop}:EntryOK A Try.prog 23 (valE false c23):=valE_ok fun vs hv h=>by
  clear hv
  unfold c23 at h ⊢
  split at h
  · refine ⟨trivial,fun h=>absurd h (by decide),?_⟩
    have:=copy_fn (List.map dInt _) (by rw [List.length_map];exact h.2)
    simp only [aInts,← h.1] at this
    exact this
  · exact h.elim
noncomputable def dlS (m b:Int):Nat→Int × List Int
  |0=>(b,[])
  |k+1=>(upS (dlS m b k).1 m,(dlS m b k).2++[upV (dlS m b k).1 m])
theorem dlS_len (m b:Int):∀ k,(dlS m b k).2.length=k
  |0=>rfl
  |k+1=>by rw [dlS,List.length_append,dlS_len m b k];rfl
end Go.Sym.B
namespace Go.Sym.B
open Go Go.Sym Go.Proofs Go.Sym.C
noncomputable def pf1 (m b:Int) (V:Nat) (mo:Int) (k:Nat):St:={ t:=asg [(0,.ptr 0 0),(1,aI V),(2,aI mo),(7,.row 1),(8,aI k)],h:=hasg [(0,.cells [.v (.int .u64 (dlS m b k).1)]),(1,.row 3 1 ((dlS m b k).2.map eInt))],n:=2,m:=1 }
def tbN5_67:=vk @ty3 (vk @ty22 (vk @ti3.eq_1 @ti22.eq_1))
def xbN5_1:=vk @aI.eq_1 (vk @aB.eq_1 (vk @bgH.eq_1 (vk @aInts.eq_1 (vk @p22.eq_1 (vk @p22.eq_2 (vk @gInt (vk @eInt.eq_1 (vk @mInt (@rInt)))))))))
theorem purseOf_fn (x:Int) (V:Nat) (mo:Int) (hV:V≤4) (h0:0≤mo) (h4:mo≤4):Fn noB Try.prog 67 [.ptr 0 0,aI V,aI mo] (hasg (bgH x)) (aInts (dlS mo x V).2) (hasg (bgH (dlS mo x V).1)) 0:=by
  have env:Env (fun _=>True) Try.prog tyB (tab [(22,fnE p22)]):=mkEnv ⟨e22,trivial⟩
  refine Fn.of (A:=fun _=>True) (n0:=1) (D:=noD) (Fn0 Try.func67 rfl (fun vs w=>by kernel_rfl) (by kernel_rfl)) (by simp) (by simp [AV.ids,AV.idsL,aI]) ?_ (fun _ _ _ _=>trivial) noD_ok ?_
  · intro i o hi
    have h:=hasg_mem hi
    simp [bgH] at h
    rcases h with ⟨rfl,rfl⟩;simp [AObj.ids,AV.ids,AV.idsL]
  have big:(100000:Nat)≤maxLen:=by decide
  have mm:min mo 4=mo:=by omega
  have mm2:(if 4 < mo then (4:Int) else mo)=mo:=by rw [if_neg (by omega)]
  have mm3:(if mo < 4 then mo else (4:Int))=mo:=by split <;> omega
  have hml:mo < 9223372036854775807:=by omega
  repeat' (first|(apply nx;with_reducible constructor)|refine uq (by decide) ?_|((first|refine vz env fun Q hQ=>?_|refine vj fun Q hQ=>?_);simp only [vkt,seval,tbN5_67,xbN5_1,pf1,mm];(try simp only [ite_and]);(repeat' (first|with_reducible assumption|refine And.intro ?_ ?_|intro hp));all_goals (first|(refine hQ _ ?_;clear hQ Q)|(refine hQ _ (fun h=>?_) (fun h=>?_) <;> clear hQ Q <;> (try simp only [vki,reduceCtorEq] at h))|omega|assumption|with_reducible rfl|(refine vq ?_;kernel_rfl)|skip)))
  refine sym_loop (fun k:{ k:Nat // k≤V }=>pf1 mo x V mo k.1) (fun k=>V - k.1) ⟨0,Nat.zero_le _⟩ ?_ fun ⟨k,hk⟩=>?_
  · (refine Le.ok (fun j=>if j=0 then some 0 else none) [] ?_;constructor;all_goals (try simp only [vle,vkt,seval,tbN5_67,xbN5_1,pf1]))
    all_goals first|rfl|(simp [dlS];done)
  · repeat' (first|(apply nx;with_reducible constructor)|refine uq (by decide) ?_)
    (refine vz env fun Q hQ=>?_;simp only [vkt,seval,tbN5_67,xbN5_1,pf1];(try simp only [ite_and]);(repeat' (first|with_reducible assumption|refine And.intro ?_ ?_|intro hp));all_goals (first|(refine hQ _ ?_;clear hQ Q)|omega|assumption|with_reducible rfl|(refine vq ?_;kernel_rfl)|skip))
    repeat' (first|(apply nx;with_reducible constructor)|refine uq (by decide) ?_)
    (refine sym_cd (by simp only [vkt,seval,tbN5_67,xbN5_1,pf1];rfl) (fun h=>?_) (fun h=>?_) <;> (try simp only [vki,reduceCtorEq] at h))
    · have hlt:k < V:=by omega
      have e7:IntKind.wrap .i64 ((k:Int)+1)=((k+1:Nat):Int):=by rw [wrap64 (by omega) (by omega)];rfl
      have r3:=dlS_len mo x k
      have m1:(k+1) * 8≤140737488355328∧k+1≤maxLen:=by omega
      have r1:(dlS mo x k).2.map eInt++[[.v (.int .i64 (upV (dlS mo x k).1 mo))]]=(dlS mo x (k+1)).2.map eInt:=by rw [dlS,List.map_append];rfl
      repeat' (first|(apply nx;with_reducible constructor)|refine uq (by decide) ?_|((first|refine vz env fun Q hQ=>?_|refine vj fun Q hQ=>?_);simp only [vkt,seval,tbN5_67,xbN5_1,pf1,e7,r1,r3,mm,mm2,mm3];(try simp only [ite_and]);(repeat' (first|with_reducible assumption|refine And.intro ?_ ?_|intro hp));all_goals (first|(refine hQ _ ?_;clear hQ Q)|(refine hQ _ (fun h=>?_) (fun h=>?_) <;> clear hQ Q <;> (try simp only [vki,reduceCtorEq] at h))|omega|assumption|with_reducible rfl|(refine vq ?_;kernel_rfl)|skip)))
      refine ⟨⟨k+1,hlt⟩,by show V - (k+1) < V - k;omega,?_⟩
      (refine Le.ok (fun j=>if j=1 then some 3 else some j) [] ?_;constructor;all_goals (try simp only [vle,vkt,seval,tbN5_67,xbN5_1,pf1]))
      all_goals first|rfl|(simp [dlS];done)
    · have hkn:k=V:=by omega
      subst hkn
      repeat' (first|(apply nx;with_reducible constructor)|refine uq (by decide) ?_|((first|refine vz env fun Q hQ=>?_|refine vj fun Q hQ=>?_);simp only [vkt,seval,tbN5_67,xbN5_1,pf1];(try simp only [ite_and]);(repeat' (first|with_reducible assumption|refine And.intro ?_ ?_|intro hp));all_goals (first|(refine hQ _ ?_;clear hQ Q)|(refine hQ _ (fun h=>?_) (fun h=>?_) <;> clear hQ Q <;> (try simp only [vki,reduceCtorEq] at h))|omega|assumption|with_reducible rfl|(refine vq ?_;kernel_rfl)|skip)))
      (simp only [vrt,Try.results67,vkt,seval,tbN5_67,xbN5_1,pf1];refine Fin.ok some [1] ?_ ?_ ?_ ?_ ?_ rfl;all_goals (try simp only [vle,vkt,seval,tbN5_67,xbN5_1,pf1]))
      all_goals first|rfl|(simp;done)|exact ⟨_,_,rfl⟩
noncomputable def p67 (S:St):List AV→Option Pk
  |[.ptr i 0,.v (.int .i64 V),.v (.int .i64 mo)]=>match S.h i with
    |some (.cells [.v (.int .u64 x)])=>some { pre:=0≤V∧V≤4∧0≤mo∧mo≤4,hs:=[i],ar:=[.ptr 0 0,.v (.int .i64 V),.v (.int .i64 mo)],L0:=[.cells [.v (.int .u64 x)]],v:=aInts (dlS mo x V.toNat).2,L1:=[some (.cells [.v (.int .u64 (dlS mo x V.toNat).1)])] }
    |_=>none
  |_=>none
theorem e67 {A:Frm→Prop}:EntryOK A Try.prog 67 (fnE p67):=fnE_ok fun S bs q h hp=>by
  unfold p67 at h
  split at h
  · split at h
    · cases h
      obtain ⟨h1,h2,h3,h4⟩:=hp
      rename_i V mo _ x _
      have:=purseOf_fn x V.toNat mo (by omega) h3 h4
      simp only [aI,Int.toNat_of_nonneg h1] at this
      exact this
    · cases h
  · cases h
theorem dot_takeL:∀ {ps p:List Int} {n:Nat},p.length≤n→dotL (ps.take n) p=dotL ps p
  |[],p,n,_=>by simp
  |a :: ps,[],n,_=>by simp [dotL_nil]
  |a :: ps,b :: p,0,h=>by simp at h
  |a :: ps,b :: p,n+1,h=>by simp only [List.take_succ_cons,dotL];rw [dot_takeL (by simpa using h)]
def vaT (ps p:List Int) (i:Nat):St:={ t:=asg [(0,aInts ps),(1,aInts p),(5,aI (dotL (ps.take i) (p.take i))),(6,aI i)],h:=hasg [],n:=0 }
def tbN5_72:=vk @ty3 (vk @ty22 (vk @ti3.eq_1 @ti22.eq_1))
def xbN5_2:=vk @aI.eq_1 (vk @aB.eq_1 (vk @aInts.eq_1 (vk @mInt (vk @eInt.eq_1 (@gInt)))))
theorem value_fn (ps p:List Int) (hs:PzOk ps) (hl:p.length≤ps.length) (hp:∀ n ∈ p,0≤n∧n≤4):FnV Try.prog 72 [aInts ps,aInts p] (aI (dotL ps p)):=by
  have env:Env (fun _=>True) Try.prog tyB (tab []):=mkEnv trivial
  refine Fn.of (A:=fun _=>True) (n0:=0) (D:=noD) (Fn0 Try.func72 rfl (fun vs w=>by kernel_rfl) (by kernel_rfl)) (by simp) (by simp [AV.ids,aInts]) (fun i o h=>by cases h) (fun _ _ _ _=>trivial) noD_ok ?_
  have hl4:=hs.len
  repeat' (first|(apply nx;with_reducible constructor)|refine uq (by decide) ?_|((first|refine vz env fun Q hQ=>?_|refine vj fun Q hQ=>?_);simp only [vkt,seval,tbN5_72,xbN5_2,vaT,List.length_map];(try simp only [ite_and]);(repeat' (first|with_reducible assumption|refine And.intro ?_ ?_|intro hp));all_goals (first|(refine hQ _ ?_;clear hQ Q)|(refine hQ _ (fun h=>?_) (fun h=>?_) <;> clear hQ Q <;> (try simp only [vki,reduceCtorEq] at h))|omega|assumption|with_reducible rfl|(refine vq ?_;kernel_rfl)|skip)))
  refine sym_loop (fun i:{ i:Nat // i≤p.length }=>vaT ps p i.1) (fun i=>p.length - i.1) ⟨0,Nat.zero_le _⟩ ?_ fun ⟨i,hi⟩=>?_
  · (refine Le.ok some [] ?_;constructor;all_goals (try simp only [vle,vkt,seval,tbN5_72,xbN5_2,vaT,List.length_map]))
    all_goals first|rfl|(simp [dotL];done)
  by_cases hlt:i < p.length
  · have d1:decide ((i:Int) < (p.length:Int))=true:=decide_eq_true (by omega)
    have hi4:i < ps.length:=by omega
    have b1:=hs.bd _ (gMem (d:=0) hi4)
    have b2:=hp _ (gMem (d:=0) hlt)
    have b3:=mulPu (A:=50) (B:=4) ⟨by omega,b1.2⟩ b2
    have b4:=dot_bd (ps:=ps.take i) (p:=p.take i) (fun n hn=>hs.bd n (List.mem_of_mem_take hn)) fun n hn=>hp n (List.mem_of_mem_take hn)
    have b5:(ps.take i).length=i:=by rw [List.length_take];omega
    rw [b5] at b4
    have e1:=wrap64 (n:=(i:Int)+1) (by omega) (by omega)
    have e2:=wrap64 (n:=ps.getD i 0 * p.getD i 0) (by omega) (by omega)
    have e3:=wrap64 (n:=dotL (ps.take i) (p.take i)+ps.getD i 0 * p.getD i 0) (by omega) (by omega)
    have e4:=dot_snoc hi4 hlt
    repeat' (first|(apply nx;with_reducible constructor)|refine uq (by decide) ?_|((first|refine vz env fun Q hQ=>?_|refine vj fun Q hQ=>?_);simp only [vkt,seval,tbN5_72,xbN5_2,vaT,List.length_map,d1,e1,e2,e3];(try simp only [ite_and]);(repeat' (first|with_reducible assumption|refine And.intro ?_ ?_|intro hp));all_goals (first|(refine hQ _ ?_;clear hQ Q)|(refine hQ _ (fun h=>?_) (fun h=>?_) <;> clear hQ Q <;> (try simp only [vki,reduceCtorEq] at h))|omega|assumption|with_reducible rfl|(refine vq ?_;kernel_rfl)|skip)))
    refine ⟨⟨i+1,hlt⟩,by show p.length - (i+1) < p.length - i;omega,?_⟩
    (refine Le.ok some [] ?_;constructor;all_goals (try simp only [vle,vkt,seval,tbN5_72,xbN5_2,vaT,List.length_map]))
    all_goals first|rfl|(rw [e4];rfl)|exact ⟨by rw [e4],rfl⟩
  · have d1:decide ((i:Int) < (p.length:Int))=false:=decide_eq_false (by omega)
    have e6:dotL (ps.take i) (p.take i)=dotL ps p:=by rw [show p.take i=p from List.take_of_length_le (by omega),dot_takeL (by omega)]
    repeat' (first|(apply nx;with_reducible constructor)|refine uq (by decide) ?_|((first|refine vz env fun Q hQ=>?_|refine vj fun Q hQ=>?_);simp only [vkt,seval,tbN5_72,xbN5_2,vaT,List.length_map,d1,e6];(try simp only [ite_and]);(repeat' (first|with_reducible assumption|refine And.intro ?_ ?_|intro hp));all_goals (first|(refine hQ _ ?_;clear hQ Q)|(refine hQ _ (fun h=>?_) (fun h=>?_) <;> clear hQ Q <;> (try simp only [vki,reduceCtorEq] at h))|omega|assumption|with_reducible rfl|(refine vq ?_;kernel_rfl)|skip)))
    (simp only [vrt,Try.results72,vkt,seval,tbN5_72,xbN5_2,vaT,List.length_map];refine Fin.val rfl ?_;(try simp only [AV.le,AV.leL]))
    all_goals first|rfl
def c72:List AV→Prop × AV
  |[.sl cs,.sl xs]=>(cs=(cs.map dInt).map eInt∧xs=(xs.map dInt).map eInt∧PzOk (cs.map dInt)∧(xs.map dInt).length≤(cs.map dInt).length∧(∀ n ∈ xs.map dInt,0≤n∧n≤4),aI (dotL (cs.map dInt) (xs.map dInt)))
  |_=>(False,.junk)
theorem d72 {A:Frm→Prop}:EntryOK A Try.prog 72 (valE true c72):=valE_ok fun vs hv h=>by
  clear hv
  unfold c72 at h ⊢
  split at h
  · obtain ⟨h1,h2,h3,h4,h5⟩:=h
    refine ⟨by simp [AV.plain,aI],fun _=>by simp [AV.flat,aI],?_⟩
    have:=value_fn _ _ h3 h4 h5
    simp only [aInts,← h1,← h2] at this
    exact this
  · exact h.elim
end Go.Sym.B
namespace Go.Sym.B
open Go Go.Sym Go.Proofs Go.Sym.C
def accN (f:Nat→List (List Int)) (p a:Nat):Nat→List (List Int)
  |0=>[]
  |n+1=>accN f p a n++(f (a - n * p)).map ((n:Int) :: ·)
def lsN:List Int→Nat→List (List Int)
  |[],a=>if a=0 then [[]] else []
  |p :: ps,a=>accN (lsN ps) p.toNat a (a / p.toNat+1)
def fmC:Option (List Int)→Option (List Int)→Option (List Int)
  |none,r=>r
  |some b,none=>some b
  |some b,some c=>if pSum c < pSum b then some c else some b
def fm:List (List Int)→Option (List Int)
  |[]=>none
  |x :: xs=>fmC (some x) (fm xs)
theorem fmC_assoc (a b c:Option (List Int)):fmC (fmC a b) c=fmC a (fmC b c):=by
  cases a with
  |none=>rfl
  |some a=>cases b with
    |none=>rfl
    |some b=>cases c with
      |none=>by_cases h1:pSum b < pSum a <;> simp only [fmC,h1,if_true,if_false]
      |some c =>
        simp only [fmC]
        by_cases h1:pSum b < pSum a <;> by_cases h2:pSum c < pSum b <;> by_cases h3:pSum c < pSum a <;> simp only [fmC,h1,h2,h3,if_true,if_false] <;> omega
theorem fm_append:∀ xs ys:List (List Int),fm (xs++ys)=fmC (fm xs) (fm ys)
  |[],ys=>rfl
  |x :: xs,ys=>by rw [List.cons_append,fm,fm,fm_append xs ys,fmC_assoc]
theorem sumK_cons (x:Int) (l:List Int):∀ k,sumK (fun i=>(x :: l).getD i 0) (k+1)=x+sumK (fun i=>l.getD i 0) k
  |0=>by simp [sumK]
  |k+1=>by rw [sumK,sumK_cons x l k,sumK];simp;omega
theorem pSum_cons (x:Int) (l:List Int):pSum (x :: l)=x+pSum l:=by unfold pSum;rw [List.length_cons,sumK_cons]
theorem fm_cons (n:Int):∀ xs:List (List Int),fm (xs.map (n :: ·))=(fm xs).map (n :: ·)
  |[]=>rfl
  |x :: xs=>by
    rw [List.map_cons,fm,fm,fm_cons n xs]
    cases fm xs with
    |none=>rfl
    |some c =>
      simp only [Option.map,fmC,pSum_cons]
      by_cases h:pSum c < pSum x
      · rw [if_pos h,if_pos (by omega)]
      · rw [if_neg h,if_neg (by omega)]
def pcR:List Int→Nat→List Int
  |[],_=>[]
  |p :: ps,a=>(countN p.toNat (needN ps) a:Int) :: pcR ps (a - countN p.toNat (needN ps) a * p.toNat)
theorem gN_min {p:Nat} {f:Nat→Int} (hp:1≤p) (hf:∀ a,-1≤f a) (a:Nat):∀ m,m * p≤a→0≤f (a - m * p)→0≤gN p f a∧gN p f a≤f (a - m * p)+m:=by
  induction a using Nat.strongRecOn with
  |_ a ih =>
    intro m hm h0
    cases m with
    |zero =>
      simp only [Nat.zero_mul,Nat.sub_zero] at h0 ⊢
      by_cases hc:p≤a
      · rw [gN_ge hp hc];unfold updN;split <;> omega
      · rw [gN_lt (by omega)];omega
    |succ m =>
      have e1:(m+1) * p=m * p+p:=Nat.succ_mul m p
      have hc:p≤a:=by omega
      have e2:a - (m+1) * p=a - p - m * p:=by omega
      rw [e2] at h0 ⊢
      obtain ⟨h1,h2⟩:=ih (a - p) (by omega) m (by omega) h0
      have h3:=hf a
      rw [gN_ge hp hc]
      unfold updN
      split <;> omega
theorem fm_acc {f:Nat→List (List Int)} {g:Nat→Int} {r:Nat→List Int} {p a:Nat} (h0:∀ m,m≤a→fm (f m)=if 0≤g m then some (r m) else none) (h1:∀ m,m≤a→0≤g m→pSum (r m)=g m) :
    ∀ n,(n=0∨(n - 1) * p≤a)→(fm (accN f p a n)=none∧(∀ j,j < n→¬ 0≤g (a - j * p)))∨∃ m,m < n∧0≤g (a - m * p)∧fm (accN f p a n)=some ((m:Int) :: r (a - m * p))∧(∀ j,j < n→0≤g (a - j * p)→g (a - m * p)+m≤g (a - j * p)+j)∧∀ j,j < m→0≤g (a - j * p)→g (a - m * p)+m < g (a - j * p)+j
  |0,_=>.inl ⟨rfl,fun j hj=>by omega⟩
  |n+1,hn=>by
    have hn':n=0∨(n - 1) * p≤a:=by
      rcases Nat.eq_zero_or_pos n with h|h
      · exact .inl h
      · refine .inr (Nat.le_trans (Nat.mul_le_mul_right p (Nat.sub_le n 1)) ?_)
        rcases hn with hn|hn
        · omega
        · simpa using hn
    have ih:=fm_acc h0 h1 n hn'
    have hl:=h0 (a - n * p) (Nat.sub_le _ _)
    rw [accN,fm_append,fm_cons,hl]
    by_cases hg:0≤g (a - n * p)
    · have hs:=h1 (a - n * p) (Nat.sub_le _ _) hg
      rw [if_pos hg]
      rcases ih with ⟨i1,i2⟩|⟨m,i1,i2,i3,i4,i5⟩
      · rw [i1]
        exact .inr ⟨n,by omega,hg,rfl,fun j hj hjg=>by
          rcases Nat.lt_or_eq_of_le (Nat.le_of_lt_succ hj) with h|h
          · exact absurd hjg (i2 j h)
          · subst h;omega,fun j hj hjg=>absurd hjg (i2 j hj)⟩
      · have hs2:=h1 (a - m * p) (Nat.sub_le _ _) i2
        rw [i3]
        simp only [Option.map,fmC,pSum_cons,hs,hs2]
        by_cases hc:(n:Int)+g (a - n * p) < m+g (a - m * p)
        · rw [if_pos hc]
          refine .inr ⟨n,by omega,hg,rfl,fun j hj hjg=>?_,fun j hj hjg=>?_⟩
          · rcases Nat.lt_or_eq_of_le (Nat.le_of_lt_succ hj) with h|h
            · have:=i4 j h hjg;omega
            · subst h;omega
          · have:=i4 j hj hjg;omega
        · rw [if_neg hc]
          refine .inr ⟨m,by omega,i2,rfl,fun j hj hjg=>?_,i5⟩
          rcases Nat.lt_or_eq_of_le (Nat.le_of_lt_succ hj) with h|h
          · exact i4 j h hjg
          · subst h;omega
    · rw [if_neg hg]
      rcases ih with ⟨i1,i2⟩|⟨m,i1,i2,i3,i4,i5⟩
      · rw [i1]
        refine .inl ⟨rfl,fun j hj=>?_⟩
        rcases Nat.lt_or_eq_of_le (Nat.le_of_lt_succ hj) with h|h
        · exact i2 j h
        · subst h;exact hg
      · rw [i3]
        refine .inr ⟨m,by omega,i2,rfl,fun j hj hjg=>?_,i5⟩
        rcases Nat.lt_or_eq_of_le (Nat.le_of_lt_succ hj) with h|h
        · exact i4 j h hjg
        · subst h;exact absurd hjg hg
theorem fm_ls:∀ (ps:List Int),(∀ p ∈ ps,1≤p)→∀ a:Nat,(fm (lsN ps a)=if 0≤needN ps a then some (pcR ps a) else none)∧(0≤needN ps a→pSum (pcR ps a)=needN ps a)
  |[],_,a=>by
    unfold lsN needN
    by_cases h:a=0
    · subst h;exact ⟨rfl,fun _=>rfl⟩
    · simp [h,fm]
  |p :: ps,hp,a=>by
    have hps:∀ q ∈ ps,1≤q:=fun q hq=>hp q (List.mem_cons_of_mem _ hq)
    have hp1:1≤p.toNat:=by have:=hp p List.mem_cons_self;omega
    have ih:=fm_ls ps hps
    have hf:∀ a,-1≤needN ps a:=fun a=>(needN_le hps a).1
    rw [lsN,needN,pcR]
    generalize needN ps=f at *
    generalize p.toNat=q at *
    have hn:a / q+1=0∨(a / q+1 - 1) * q≤a:=.inr (by rw [Nat.add_sub_cancel];exact Nat.div_mul_le_self a q)
    have hk:∀ j,j * q≤a ↔ j < a / q+1:=fun j=>by rw [Nat.lt_succ_iff,Nat.le_div_iff_mul_le hp1]
    have key:=fm_acc (f:=lsN ps) (g:=f) (r:=pcR ps) (p:=q) (a:=a) (fun m _=>(ih m).1) (fun m _=>(ih m).2) (a / q+1) hn
    rcases key with ⟨k1,k2⟩|⟨m,k1,k2,k3,k4,k5⟩
    · have:¬ 0≤gN q f a:=fun h=>by
        obtain ⟨m,hm⟩:=hitN_some hp1 a h
        unfold hitN at hm
        simp only [Bool.and_eq_true,decide_eq_true_eq] at hm
        exact k2 m ((hk m).1 hm.1.1) hm.1.2
      rw [k1,if_neg this]
      exact ⟨rfl,fun h=>absurd h this⟩
    · obtain ⟨g1,g2⟩:=gN_min hp1 hf a m ((hk m).2 k1) k2
      have hs:=countN_spec hp1 g1
      have hm:hitN q f a m=true:=by
        unfold hitN at hs ⊢
        simp only [Bool.and_eq_true,decide_eq_true_eq] at hs ⊢
        have h4:=k4 _ ((hk _).1 hs.1.1) hs.1.2
        exact ⟨⟨(hk m).2 k1,k2⟩,by omega⟩
      have hm':=hm
      unfold hitN at hm'
      simp only [Bool.and_eq_true,decide_eq_true_eq] at hm'
      have hc:countN q f a=m:=countN_hit hp1 hm fun j hj=>by
        cases hh:hitN q f a j with
        |false=>rfl
        |true =>
          unfold hitN at hh
          simp only [Bool.and_eq_true,decide_eq_true_eq] at hh
          have:=k5 j hj hh.1.2
          omega
      rw [k3,if_pos g1,hc]
      refine ⟨rfl,fun _=>?_⟩
      rw [pSum_cons,(ih _).2 k2]
      omega
end Go.Sym.B
namespace Go.Sym.B
open Go Go.Sym Go.Proofs Go.Sym.C
end Go.Sym.B
namespace Go.Sym.B
open Go Go.Sym Go.Proofs Go.Sym.C
def paK (rs:List (List Int)):Nat→List (List Int)
  |0=>[]
  |n+1=>paK rs n++rs.map ((n:Int) :: ·)
theorem paK_eq (rs:List (List Int)):∀ n,paK rs n=(List.range n).flatMap fun (n:Nat)=>rs.map ((n:Int) :: ·)
  |0=>rfl
  |n+1=>by rw [paK,paK_eq rs n,List.range_succ,List.flatMap_append];simp
theorem paK_len (rs:List (List Int)):∀ n,(paK rs n).length=n * rs.length
  |0=>by simp [paK]
  |n+1=>by rw [paK,List.length_append,paK_len rs n,List.length_map,Nat.succ_mul]
def s75 (ps:List Int):List AV→Prop × AV
  |[.sl xs]=>(xs=ps.map eInt,aIntss (partsL ps))
  |_=>(False,.junk)
theorem parts_env {ps:List Int} (h:FnV Try.prog 75 [aInts ps] (aIntss (partsL ps))) {A:Frm→Prop}:EntryOK A Try.prog 75 (valE false (s75 ps)):=valE_ok fun vs hv h1=>by
  clear hv
  unfold s75 at h1 ⊢
  split at h1
  · refine ⟨trivial,fun h=>absurd h (by decide),?_⟩
    have h2:_=_:=h1
    rw [h2];exact h
  · exact h1.elim
def pa1 (l:List Int) (rs X:List (List Int)) (n:Nat):St:={ t:=asg [(0,aInts l),(3,.row 0),(4,aIntss rs),(5,aI n)],h:=hasg [(0,.row 22 1 (X.map eInts))],n:=1 }
def pa2 (l:List Int) (rs X:List (List Int)) (n k:Nat):St:={ t:=asg [(0,aInts l),(3,.row 0),(4,aIntss rs),(5,aI n),(6,aI k)],h:=hasg [(0,.row 22 1 ((X++(rs.take k).map ((n:Int) :: ·)).map eInts))],n:=1 }
def tbN8_75:=vk @ty3 (vk @ty22 (vk @ty28 (vk @ti3.eq_1 (vk @ti22.eq_1 @ti28.eq_1))))
def xbN8_1:=vk @aI.eq_1 (vk @aB.eq_1 (vk @aInts.eq_1 (vk @aIntss.eq_1 (vk @gInt (vk @gInts (vk @eInt.eq_1 (vk @eInts.eq_1 (vk @slT (vk @slD (vk @rInt (@rInts)))))))))))
set_option maxHeartbeats 4000000 in
theorem parts_step (p:Int) (ps:List Int) (hl:ps.length≤3) (hp:0≤p∧p≤4) (hps:∀ n ∈ ps,0≤n∧n≤4) (hr:FnV Try.prog 75 [aInts ps] (aIntss (partsL ps))):FnV Try.prog 75 [aInts (p :: ps)] (aIntss (partsL (p :: ps))):=by
  have env:Env (fun _=>True) Try.prog tyB (tab [(75,valE false (s75 ps))]):=mkEnv ⟨parts_env hr,trivial⟩
  refine Fn.of (A:=fun _=>True) (n0:=0) (D:=noD) (Fn0 Try.func75 rfl (fun vs w=>by kernel_rfl) (by kernel_rfl)) (by simp) (by simp [AV.ids,AV.idsL,aInts,aI]) (fun i o h=>by cases h) (fun _ _ _ _=>trivial) noD_ok ?_
  obtain ⟨q,hq⟩:∃ q:Nat,p=(q:Int):=⟨p.toNat,by omega⟩
  have hq4:q≤4:=by omega
  have hM:∀ r ∈ partsL ps,r.length=ps.length:=fun r hr=>(parts_mem (fun n hn=>(hps n hn).1) hr).1
  have hR:(partsL ps).length≤125:=Nat.le_trans (parts_le fun n hn=>(hps n hn).2) (Nat.pow_le_pow_right (by decide) hl)
  have hLN:partsL (p :: ps)=paK (partsL ps) (q+1):=by rw [partsL,paK_eq,hq,Int.toNat_natCast]
  rw [hLN]
  obtain ⟨rs,hrs⟩:∃ rs,partsL ps=rs:=⟨_,rfl⟩
  rw [hrs] at hR hM ⊢
  obtain ⟨l,hL⟩:∃ l,l=p :: ps:=⟨_,rfl⟩
  rw [← hL]
  have l0:0 < l.length:=by rw [hL];simp
  have l0':¬ (l.length:Int)=0:=by omega
  have g0:l.getD 0 0=(q:Int):=by rw [hL,← hq];rfl
  have dp:l.drop 1=ps:=by rw [hL];rfl
  have l1:1≤l.length:=l0
  clear hL
  have big:(100000000:Nat)≤maxLen:=by decide
  have hX:∀ n,n≤q+1→(paK rs n).length≤625:=fun n hn=>by
    rw [paK_len]
    exact Nat.le_trans (Nat.mul_le_mul (show n≤5 by omega) hR) (by decide)
  repeat' (first|(apply nx;with_reducible constructor)|refine uq (by decide) ?_|((first|refine vz env fun Q hQ=>?_|refine vj fun Q hQ=>?_);simp only [vkt,seval,tbN8_75,xbN8_1,pa1,pa2,s75,List.take_length,List.cons_append,List.nil_append,l0',dp,hrs];(try simp only [ite_and]);(repeat' (first|with_reducible assumption|refine And.intro ?_ ?_|intro hp));all_goals (first|(refine hQ _ ?_;clear hQ Q)|(refine hQ _ (fun h=>?_) (fun h=>?_) <;> clear hQ Q <;> (try simp only [vki,reduceCtorEq] at h))|omega|assumption|with_reducible rfl|(refine vq ?_;kernel_rfl)|skip)))
  refine sym_loop (fun n:{ n:Nat // n≤q+1 }=>pa1 l rs (paK rs n.1) n.1) (fun n=>q+1 - n.1) ⟨0,Nat.zero_le _⟩ ?_ fun ⟨n,hn⟩=>?_
  · (refine Le.ok (fun _=>none) [] ?_;constructor;all_goals (try simp only [vle,vkt,seval,tbN8_75,xbN8_1,pa1,pa2,s75,List.take_length,List.cons_append,List.nil_append]))
    all_goals first|rfl|(simp [paK];done)
  · repeat' (first|(apply nx;with_reducible constructor)|refine uq (by decide) ?_)
    (refine vz env fun Q hQ=>?_;simp only [vkt,seval,tbN8_75,xbN8_1,pa1,pa2,s75,List.take_length,List.cons_append,List.nil_append,g0];(try simp only [ite_and]);(repeat' (first|with_reducible assumption|refine And.intro ?_ ?_|intro hp));all_goals (first|(refine hQ _ ?_;clear hQ Q)|omega|assumption|with_reducible rfl|(refine vq ?_;kernel_rfl)|skip))
    repeat' (first|(apply nx;with_reducible constructor)|refine uq (by decide) ?_)
    (refine sym_cd (by simp only [vkt,seval,tbN8_75,xbN8_1,pa1,pa2,s75,List.take_length,List.cons_append,List.nil_append,g0];rfl) (fun h=>?_) (fun h=>?_) <;> (try simp only [vki,reduceCtorEq] at h))
    · have hlt:n < q+1:=by omega
      have e9:IntKind.wrap .i64 ((n:Int)+1)=((n+1:Nat):Int):=by rw [wrap64 (by omega) (by omega)];rfl
      have hAcc:paK rs (n+1)=paK rs n++rs.map ((n:Int) :: ·):=rfl
      have hX:=hX n hn
      generalize hXe:paK rs n=X at *
      repeat' (first|(apply nx;with_reducible constructor)|refine uq (by decide) ?_|((first|refine vz env fun Q hQ=>?_|refine vj fun Q hQ=>?_);simp only [vkt,seval,tbN8_75,xbN8_1,pa1,pa2,s75,List.take_length,List.cons_append,List.nil_append,g0];(try simp only [ite_and]);(repeat' (first|with_reducible assumption|refine And.intro ?_ ?_|intro hp));all_goals (first|(refine hQ _ ?_;clear hQ Q)|(refine hQ _ (fun h=>?_) (fun h=>?_) <;> clear hQ Q <;> (try simp only [vki,reduceCtorEq] at h))|omega|assumption|with_reducible rfl|(refine vq ?_;kernel_rfl)|skip)))
      refine sym_loop (fun k:{ k:Nat // k≤rs.length }=>pa2 l rs X n k.1) (fun k=>rs.length - k.1) ⟨0,Nat.zero_le _⟩ ?_ fun ⟨k,hk2⟩=>?_
      · (refine Le.ok some [] ?_;constructor;all_goals (try simp only [vle,vkt,seval,tbN8_75,xbN8_1,pa1,pa2,s75,List.take_length,List.cons_append,List.nil_append]))
        all_goals first|rfl|(simp;done)
      · repeat' (first|(apply nx;with_reducible constructor)|refine uq (by decide) ?_)
        (refine vz env fun Q hQ=>?_;simp only [vkt,seval,tbN8_75,xbN8_1,pa1,pa2,s75,List.take_length,List.cons_append,List.nil_append];(try simp only [ite_and]);(repeat' (first|with_reducible assumption|refine And.intro ?_ ?_|intro hp));all_goals (first|(refine hQ _ ?_;clear hQ Q)|omega|assumption|with_reducible rfl|(refine vq ?_;kernel_rfl)|skip))
        repeat' (first|(apply nx;with_reducible constructor)|refine uq (by decide) ?_)
        (refine sym_cd (by simp only [vkt,seval,tbN8_75,xbN8_1,pa1,pa2,s75,List.take_length,List.cons_append,List.nil_append];rfl) (fun h=>?_) (fun h=>?_) <;> (try simp only [vki,reduceCtorEq] at h))
        · have hkl:k < rs.length:=by omega
          have e8:IntKind.wrap .i64 ((k:Int)+1)=((k+1:Nat):Int):=by rw [wrap64 (by omega) (by omega)];rfl
          have hr:=hM _ (gMem (d:=[]) hkl)
          have hT:(rs.take (k+1)).map ((n:Int) :: ·)=(rs.take k).map ((n:Int) :: ·)++[(n:Int) :: rs.getD k []]:=by
            rw [List.take_succ_eq_append_getElem hkl,List.map_append];simp [List.getD_eq_getElem?_getD,hkl]
          have hY:(X++(rs.take k).map ((n:Int) :: ·)).length≤750:=by
            rw [List.length_append,List.length_map,List.length_take];omega
          obtain ⟨r,hre⟩:∃ r,rs.getD k []=r:=⟨_,rfl⟩
          rw [hre] at hr hT
          obtain ⟨Y,hYe⟩:∃ Y,X++(rs.take k).map ((n:Int) :: ·)=Y:=⟨_,rfl⟩
          rw [hYe] at hY
          have m1:(Y.length+1) * 24≤140737488355328∧Y.length+1≤maxLen:=by omega
          have m2:(1+r.length) * 8≤140737488355328∧1+r.length≤maxLen∧r.length≤maxLen:=by omega
          have e4:Y.map eInts++[[.sl ([.v (.int .i64 (n:Int))] :: r.map eInt)]]=(X++(rs.take (k+1)).map ((n:Int) :: ·)).map eInts:=by
            rw [hT,← List.append_assoc,hYe,List.map_append];rfl
          repeat' (first|(apply nx;with_reducible constructor)|refine uq (by decide) ?_|((first|refine vz env fun Q hQ=>?_|refine vj fun Q hQ=>?_);simp only [vkt,seval,tbN8_75,xbN8_1,pa1,pa2,s75,List.take_length,List.cons_append,List.nil_append,hre,hYe,e4,e8];(try simp only [ite_and]);(repeat' (first|with_reducible assumption|refine And.intro ?_ ?_|intro hp));all_goals (first|(refine hQ _ ?_;clear hQ Q)|(refine hQ _ (fun h=>?_) (fun h=>?_) <;> clear hQ Q <;> (try simp only [vki,reduceCtorEq] at h))|omega|assumption|with_reducible rfl|(refine vq ?_;kernel_rfl)|skip)))
          refine ⟨⟨k+1,hkl⟩,by show rs.length - (k+1) < rs.length - k;omega,?_⟩
          (refine Le.ok (fun j=>if j=0 then some 4 else some j) [] ?_;constructor;all_goals (try simp only [vle,vkt,seval,tbN8_75,xbN8_1,pa1,pa2,s75,List.take_length,List.cons_append,List.nil_append]))
          all_goals first|rfl|(simp;done)
        · have hkn:k=rs.length:=by omega
          subst hkn
          repeat' (first|(apply nx;with_reducible constructor)|refine uq (by decide) ?_|((first|refine vz env fun Q hQ=>?_|refine vj fun Q hQ=>?_);simp only [vkt,seval,tbN8_75,xbN8_1,pa1,pa2,s75,List.take_length,List.cons_append,List.nil_append,e9,List.take_length,← hAcc];(try simp only [ite_and]);(repeat' (first|with_reducible assumption|refine And.intro ?_ ?_|intro hp));all_goals (first|(refine hQ _ ?_;clear hQ Q)|(refine hQ _ (fun h=>?_) (fun h=>?_) <;> clear hQ Q <;> (try simp only [vki,reduceCtorEq] at h))|omega|assumption|with_reducible rfl|(refine vq ?_;kernel_rfl)|skip)))
          refine ⟨⟨n+1,hlt⟩,by show q+1 - (n+1) < q+1 - n;omega,?_⟩
          (refine Le.ok some [] ?_;constructor;all_goals (try simp only [vle,vkt,seval,tbN8_75,xbN8_1,pa1,pa2,s75,List.take_length,List.cons_append,List.nil_append]))
          all_goals first|rfl|(simp [hAcc];done)
    · have hnn:n=q+1:=by omega
      subst hnn
      repeat' (first|(apply nx;with_reducible constructor)|refine uq (by decide) ?_|((first|refine vz env fun Q hQ=>?_|refine vj fun Q hQ=>?_);simp only [vkt,seval,tbN8_75,xbN8_1,pa1,pa2,s75,List.take_length,List.cons_append,List.nil_append];(try simp only [ite_and]);(repeat' (first|with_reducible assumption|refine And.intro ?_ ?_|intro hp));all_goals (first|(refine hQ _ ?_;clear hQ Q)|(refine hQ _ (fun h=>?_) (fun h=>?_) <;> clear hQ Q <;> (try simp only [vki,reduceCtorEq] at h))|omega|assumption|with_reducible rfl|(refine vq ?_;kernel_rfl)|skip)))
      (simp only [vrt,Try.results75,vkt,seval,tbN8_75,xbN8_1,pa1,pa2,s75,List.take_length,List.cons_append,List.nil_append];refine Fin.val rfl ?_;(try simp only [AV.le,AV.leL]))
      all_goals first|exact ⟨_,_,rfl⟩
def xbN8_2:=vk @aI.eq_1 (vk @aB.eq_1 (vk @aInts.eq_1 (vk @aIntss.eq_1 (vk @eInts.eq_1 (vk @eInt.eq_1 (@rInts))))))
theorem parts_nil:FnV Try.prog 75 [aInts []] (aIntss (partsL [])):=by
  have env:Env (fun _=>True) Try.prog tyB (tab []):=mkEnv trivial
  refine Fn.of (A:=fun _=>True) (n0:=0) (D:=noD) (Fn0 Try.func75 rfl (fun vs w=>by kernel_rfl) (by kernel_rfl)) (by simp) (by simp [AV.ids,AV.idsL,aInts,aI]) (fun i o h=>by cases h) (fun _ _ _ _=>trivial) noD_ok ?_
  have q1:(1:Nat)≤maxLen:=by decide
  have zz:decide (((0:Nat):Int)=0)=true:=rfl
  rw [show partsL []=[[]] from rfl]
  repeat' (first|(apply nx;with_reducible constructor)|refine uq (by decide) ?_|((first|refine vz env fun Q hQ=>?_|refine vj fun Q hQ=>?_);simp only [vkt,seval,tbN8_75,xbN8_2,List.map_nil,List.length_nil,zz];(try simp only [ite_and]);(repeat' (first|with_reducible assumption|refine And.intro ?_ ?_|intro hp));all_goals (first|(refine hQ _ ?_;clear hQ Q)|(refine hQ _ (fun h=>?_) (fun h=>?_) <;> clear hQ Q <;> (try simp only [vki,reduceCtorEq] at h))|omega|assumption|with_reducible rfl|(refine vq ?_;kernel_rfl)|skip)))
  (simp only [vrt,Try.results75,vkt,seval,tbN8_75,xbN8_2,List.map_nil,List.length_nil];refine Fin.val rfl ?_;(try simp only [AV.le,AV.leL]))
  all_goals first|exact ⟨_,_,rfl⟩
theorem parts75_fn:∀ (ps:List Int),ps.length≤4→(∀ p ∈ ps,0≤p∧p≤4)→FnV Try.prog 75 [aInts ps] (aIntss (partsL ps))
  |[],_,_=>parts_nil
  |p :: ps,hl,hp=>parts_step p ps (by simpa using hl) (hp p List.mem_cons_self) (fun n hn=>hp n (List.mem_cons_of_mem _ hn)) (parts75_fn ps (by simp at hl;omega) fun q hq=>hp q (List.mem_cons_of_mem _ hq))
def c75:List AV→Prop × AV
  |[.sl xs]=>(xs=(xs.map dInt).map eInt∧xs.length≤4∧(∀ p ∈ xs.map dInt,0≤p∧p≤4),aIntss (partsL (xs.map dInt)))
  |_=>(False,.junk)
theorem d75 {A:Frm→Prop}:EntryOK A Try.prog 75 (valE false c75):=valE_ok fun vs hv h=>by
  clear hv
  unfold c75 at h ⊢
  split at h
  · rename_i xs
    obtain ⟨h1,h2,h3⟩:=h
    refine ⟨trivial,fun h=>absurd h (by decide),?_⟩
    have:=parts75_fn (xs.map dInt) (by rw [List.length_map];exact h2) h3
    rw [aInts,← h1] at this
    exact this
  · exact h.elim
end Go.Sym.B
namespace Go.Sym.B
open Go Go.Sym Go.Proofs Go.Sym.C
theorem sum_pSum:∀ l:List Int,pSum l=l.sum
  |[]=>rfl
  |x :: l=>by rw [pSum_cons,sum_pSum l,List.sum_cons]
theorem dot_nn:∀ {ps x:List Int},(∀ p ∈ ps,1≤p)→(∀ n ∈ x,0≤n)→0≤dotL ps x
  |[],x,_,_=>by simp [dotL]
  |p :: ps,[],_,_=>by simp [dotL]
  |p :: ps,y :: x,h,h'=>by
    have ih:=dot_nn (ps:=ps) (x:=x) (fun q hq=>h q (List.mem_cons_of_mem _ hq)) fun q hq=>h' q (List.mem_cons_of_mem _ hq)
    have:=Int.mul_nonneg (show (0:Int)≤p by have:=h p List.mem_cons_self;omega) (h' y List.mem_cons_self)
    simp only [dotL];omega
theorem need_min:∀ {ps:List Int},(∀ p ∈ ps,1≤p)→∀ {x:List Int} {a:Nat},(∀ n ∈ x,0≤n)→x.length=ps.length→dotL ps x=(a:Int)→0≤needN ps a∧needN ps a≤x.sum
  |[],_,x,a,_,hl,h=>by
    cases x with
    |nil =>
      have:a=0:=by simp only [dotL] at h;omega
      subst this;decide
    |cons=>simp at hl
  |p :: ps,hp,x,a,hx,hl,h=>by
    cases x with
    |nil=>simp at hl
    |cons y x =>
      have hps:∀ q ∈ ps,1≤q:=fun q hq=>hp q (List.mem_cons_of_mem _ hq)
      have hp1:=hp p List.mem_cons_self
      have hy:=hx y List.mem_cons_self
      have hx':∀ n ∈ x,0≤n:=fun n hn=>hx n (List.mem_cons_of_mem _ hn)
      obtain ⟨q,rfl⟩:∃ q:Nat,p=q:=⟨p.toNat,by omega⟩
      obtain ⟨m,rfl⟩:∃ m:Nat,y=m:=⟨y.toNat,by omega⟩
      have hd:0≤dotL ps x:=dot_nn hps hx'
      simp only [dotL] at h
      have e1:(q:Int) * (m:Int)=((m * q:Nat):Int):=by rw [Int.natCast_mul,Int.mul_comm]
      rw [e1] at h
      have hm:m * q≤a:=by omega
      obtain ⟨i1,i2⟩:=need_min hps hx' (by simpa using hl) (a:=a - m * q) (by omega)
      have hf:∀ a,-1≤needN ps a:=fun a=>(needN_le hps a).1
      obtain ⟨g1,g2⟩:=gN_min (p:=q) (by omega) hf a m hm i1
      rw [needN,List.sum_cons,Int.toNat_natCast]
      exact ⟨g1,by omega⟩
theorem pcR_is:∀ {ps:List Int},(∀ p ∈ ps,1≤p)→∀ {a:Nat},0≤needN ps a→dotL ps (pcR ps a)=(a:Int)∧∀ n ∈ pcR ps a,0≤n∧n≤(a:Int)
  |[],_,a,h=>by
    have:a=0:=by unfold needN at h;by_cases h1:a=0 <;> simp_all
    subst this;exact ⟨rfl,by simp [pcR]⟩
  |p :: ps,hp,a,h=>by
    have hps:∀ q ∈ ps,1≤q:=fun q hq=>hp q (List.mem_cons_of_mem _ hq)
    have hp1:=hp p List.mem_cons_self
    obtain ⟨q,rfl⟩:∃ q:Nat,p=q:=⟨p.toNat,by omega⟩
    rw [needN,Int.toNat_natCast] at h
    have hs:=countN_spec (p:=q) (by omega) h
    have hle:=hitN_le (p:=q) (by omega) hs
    rw [pcR,Int.toNat_natCast]
    obtain ⟨m,hm⟩:∃ m,countN q (needN ps) a=m:=⟨_,rfl⟩
    rw [hm] at hs hle ⊢
    unfold hitN at hs
    simp only [Bool.and_eq_true,decide_eq_true_eq] at hs
    obtain ⟨i1,i2⟩:=pcR_is hps (a:=a - m * q) hs.1.2
    have e1:(q:Int) * (m:Int)=((m * q:Nat):Int):=by rw [Int.natCast_mul,Int.mul_comm]
    refine ⟨by simp only [dotL];rw [i1,e1];omega,fun n hn=>?_⟩
    rcases List.mem_cons.1 hn with rfl|hn
    · omega
    · have:=i2 n hn;omega
theorem pcR_len:∀ (ps:List Int) (a:Nat),(pcR ps a).length=ps.length
  |[],_=>rfl
  |p :: ps,a=>by rw [pcR,List.length_cons,List.length_cons,pcR_len ps]
structure LeastIs (ps:List Int) (A:Nat) (l:List Int):Prop where
  len:l.length=ps.length
  bd:∀ n ∈ l,0≤n∧n≤(A:Int)
  dot:dotL ps l=(A:Int)
  least:∀ x:List Int,(∀ n ∈ x,0≤n)→x.length=ps.length→dotL ps x=(A:Int)→l.sum≤x.sum
structure DrawIs (ps:List Int) (A:Nat) (l d e:List Int):Prop where
  enough:(∀ i,i < ps.length→l.getD i 0≤d.getD i 0)→∃ x,chs ps d A=some x∧x.sum=l.sum
  out:∀ x,chs ps d A=some x→x.length=ps.length∧(∀ i,i < ps.length→0≤x.getD i 0∧x.getD i 0≤d.getD i 0)∧dotL ps x=(A:Int)∧l.sum≤x.sum∧∃ y,chs ps e A=some y∧y.sum≤x.sum
end Go.Sym.B
namespace Go.Sym.B
open Go Go.Sym Go.Proofs Go.Sym.C
def gcdI (a b:Int):Int:=((Nat.gcd a.natAbs b.toNat:Nat):Int)
def dvT (x y:Int):St:={ t:=asg [(0,aI x),(1,aI y),(4,aI 0)],h:=hasg [],n:=0 }
def tbH1_116:=vk @ty3 @ti3.eq_1
def xbH1_1:=vk @aI.eq_1 (vk @aB.eq_1 (@dvT.eq_1))
theorem divisor_fn (a b:Int) (hab:OfOk a b):FnV Try.prog 116 [aI a,aI b] (aI (gcdI a b)):=by
  have env:Env (fun _=>True) Try.prog tyB (tab []):=mkEnv trivial
  refine Fn.of (A:=fun _=>True) (n0:=0) (D:=noD) (Fn0 Try.func116 rfl (fun vs w=>by kernel_rfl) (by kernel_rfl)) (by simp) (by simp [AV.ids,aI]) (fun i o h=>by cases h) (fun _ _ _ _=>trivial) noD_ok ?_
  obtain ⟨ha,ha',hb,hb'⟩:=hab
  have hw:IntKind.wrap .i64 (0 - a)=-a:=by rw [wrap64 (by omega) (by omega)];omega
  by_cases c1:a < 0
  · repeat' (first|(apply nx;with_reducible constructor)|refine uq (by decide) ?_|((first|refine vz env fun Q hQ=>?_|refine vj fun Q hQ=>?_);simp only [vkt,seval,tbH1_116,xbH1_1,c1,hw];(try simp only [ite_and]);(repeat' (first|with_reducible assumption|refine And.intro ?_ ?_|intro hp));all_goals (first|(refine hQ _ ?_;clear hQ Q)|(refine hQ _ (fun h=>?_) (fun h=>?_) <;> clear hQ Q <;> (try simp only [vki,reduceCtorEq] at h))|omega|assumption|with_reducible rfl|(refine vq ?_;kernel_rfl)|skip)))
    refine sym_loop (ι:={ p:Int × Int // 0≤p.1∧0≤p.2∧Nat.gcd p.1.toNat p.2.toNat=Nat.gcd a.natAbs b.toNat }) (fun p=>dvT p.1.1 p.1.2) (fun p=>p.1.1.toNat) ⟨((-a),b),by show (0:Int)≤(-a);omega,by show (0:Int)≤b;omega,by show Nat.gcd ((-a)).toNat b.toNat=_;congr 1;omega⟩ ?_ fun ⟨(x,y),h1,h2,h3⟩=>?_
    · (refine Le.ok some [] ?_;constructor;all_goals (try simp only [vle,vkt,seval,tbH1_116,xbH1_1]))
      all_goals simp
    · dsimp only at h1 h2 h3
      repeat' (first|(apply nx;with_reducible constructor)|refine uq (by decide) ?_)
      (refine vz env fun Q hQ=>?_;simp only [vkt,seval,tbH1_116,xbH1_1];(try simp only [ite_and]);(repeat' (first|with_reducible assumption|refine And.intro ?_ ?_|intro hp));all_goals (first|(refine hQ _ ?_;clear hQ Q)|omega|assumption|with_reducible rfl|(refine vq ?_;kernel_rfl)|skip))
      repeat' (first|(apply nx;with_reducible constructor)|refine uq (by decide) ?_)
      (refine sym_cd (by simp only [vkt,seval,tbH1_116,xbH1_1];rfl) (fun h=>?_) (fun h=>?_) <;> (try simp only [vki,reduceCtorEq] at h))
      · have hx:0 < x:=by omega
        have nz:¬ x=0:=by omega
        have e1:=Int.emod_nonneg y (show x ≠ 0 by omega)
        have e2:=Int.emod_lt_of_pos y hx
        have e3:y.tmod x=y % x:=Int.tmod_eq_emod_of_nonneg h2
        repeat' (first|(apply nx;with_reducible constructor)|refine uq (by decide) ?_|((first|refine vz env fun Q hQ=>?_|refine vj fun Q hQ=>?_);simp only [vkt,seval,tbH1_116,xbH1_1,nz];(try simp only [ite_and]);(repeat' (first|with_reducible assumption|refine And.intro ?_ ?_|intro hp));all_goals (first|(refine hQ _ ?_;clear hQ Q)|(refine hQ _ (fun h=>?_) (fun h=>?_) <;> clear hQ Q <;> (try simp only [vki,reduceCtorEq] at h))|omega|assumption|with_reducible rfl|(refine vq ?_;kernel_rfl)|skip)))
        refine ⟨⟨(y.tmod x,x),by show (0:Int)≤y.tmod x;omega,h1,?_⟩,?_,?_⟩
        · show Nat.gcd (y.tmod x).toNat x.toNat=_
          rw [← h3,e3,Int.toNat_emod h2 h1,Nat.gcd_comm x.toNat,Nat.gcd_comm,Nat.gcd_comm x.toNat,← Nat.gcd_rec,Nat.gcd_comm]
        · show (y.tmod x).toNat < x.toNat
          omega
        · (refine Le.ok some [] ?_;constructor;all_goals (try simp only [vle,vkt,seval,tbH1_116,xbH1_1]))
          all_goals simp
      · have hx:x=0:=by omega
        subst hx
        have hg:y=gcdI a b:=by unfold gcdI;rw [← h3];simp;omega
        subst hg
        repeat' (first|(apply nx;with_reducible constructor)|refine uq (by decide) ?_|((first|refine vz env fun Q hQ=>?_|refine vj fun Q hQ=>?_);simp only [vkt,seval,tbH1_116,xbH1_1];(try simp only [ite_and]);(repeat' (first|with_reducible assumption|refine And.intro ?_ ?_|intro hp));all_goals (first|(refine hQ _ ?_;clear hQ Q)|(refine hQ _ (fun h=>?_) (fun h=>?_) <;> clear hQ Q <;> (try simp only [vki,reduceCtorEq] at h))|omega|assumption|with_reducible rfl|(refine vq ?_;kernel_rfl)|skip)))
        (simp only [vrt,Try.results116,vkt,seval,tbH1_116,xbH1_1];refine Fin.val rfl ?_;(try simp only [AV.le,AV.leL]))
        all_goals first|rfl|simp
  · repeat' (first|(apply nx;with_reducible constructor)|refine uq (by decide) ?_|((first|refine vz env fun Q hQ=>?_|refine vj fun Q hQ=>?_);simp only [vkt,seval,tbH1_116,xbH1_1,c1];(try simp only [ite_and]);(repeat' (first|with_reducible assumption|refine And.intro ?_ ?_|intro hp));all_goals (first|(refine hQ _ ?_;clear hQ Q)|(refine hQ _ (fun h=>?_) (fun h=>?_) <;> clear hQ Q <;> (try simp only [vki,reduceCtorEq] at h))|omega|assumption|with_reducible rfl|(refine vq ?_;kernel_rfl)|skip)))
    refine sym_loop (ι:={ p:Int × Int // 0≤p.1∧0≤p.2∧Nat.gcd p.1.toNat p.2.toNat=Nat.gcd a.natAbs b.toNat }) (fun p=>dvT p.1.1 p.1.2) (fun p=>p.1.1.toNat) ⟨(a,b),by show (0:Int)≤a;omega,by show (0:Int)≤b;omega,by show Nat.gcd (a).toNat b.toNat=_;congr 1;omega⟩ ?_ fun ⟨(x,y),h1,h2,h3⟩=>?_
    · (refine Le.ok some [] ?_;constructor;all_goals (try simp only [vle,vkt,seval,tbH1_116,xbH1_1]))
      all_goals simp
    · dsimp only at h1 h2 h3
      repeat' (first|(apply nx;with_reducible constructor)|refine uq (by decide) ?_)
      (refine vz env fun Q hQ=>?_;simp only [vkt,seval,tbH1_116,xbH1_1];(try simp only [ite_and]);(repeat' (first|with_reducible assumption|refine And.intro ?_ ?_|intro hp));all_goals (first|(refine hQ _ ?_;clear hQ Q)|omega|assumption|with_reducible rfl|(refine vq ?_;kernel_rfl)|skip))
      repeat' (first|(apply nx;with_reducible constructor)|refine uq (by decide) ?_)
      (refine sym_cd (by simp only [vkt,seval,tbH1_116,xbH1_1];rfl) (fun h=>?_) (fun h=>?_) <;> (try simp only [vki,reduceCtorEq] at h))
      · have hx:0 < x:=by omega
        have nz:¬ x=0:=by omega
        have e1:=Int.emod_nonneg y (show x ≠ 0 by omega)
        have e2:=Int.emod_lt_of_pos y hx
        have e3:y.tmod x=y % x:=Int.tmod_eq_emod_of_nonneg h2
        repeat' (first|(apply nx;with_reducible constructor)|refine uq (by decide) ?_|((first|refine vz env fun Q hQ=>?_|refine vj fun Q hQ=>?_);simp only [vkt,seval,tbH1_116,xbH1_1,nz];(try simp only [ite_and]);(repeat' (first|with_reducible assumption|refine And.intro ?_ ?_|intro hp));all_goals (first|(refine hQ _ ?_;clear hQ Q)|(refine hQ _ (fun h=>?_) (fun h=>?_) <;> clear hQ Q <;> (try simp only [vki,reduceCtorEq] at h))|omega|assumption|with_reducible rfl|(refine vq ?_;kernel_rfl)|skip)))
        refine ⟨⟨(y.tmod x,x),by show (0:Int)≤y.tmod x;omega,h1,?_⟩,?_,?_⟩
        · show Nat.gcd (y.tmod x).toNat x.toNat=_
          rw [← h3,e3,Int.toNat_emod h2 h1,Nat.gcd_comm x.toNat,Nat.gcd_comm,Nat.gcd_comm x.toNat,← Nat.gcd_rec,Nat.gcd_comm]
        · show (y.tmod x).toNat < x.toNat
          omega
        · (refine Le.ok some [] ?_;constructor;all_goals (try simp only [vle,vkt,seval,tbH1_116,xbH1_1]))
          all_goals simp
      · have hx:x=0:=by omega
        subst hx
        have hg:y=gcdI a b:=by unfold gcdI;rw [← h3];simp;omega
        subst hg
        repeat' (first|(apply nx;with_reducible constructor)|refine uq (by decide) ?_|((first|refine vz env fun Q hQ=>?_|refine vj fun Q hQ=>?_);simp only [vkt,seval,tbH1_116,xbH1_1];(try simp only [ite_and]);(repeat' (first|with_reducible assumption|refine And.intro ?_ ?_|intro hp));all_goals (first|(refine hQ _ ?_;clear hQ Q)|(refine hQ _ (fun h=>?_) (fun h=>?_) <;> clear hQ Q <;> (try simp only [vki,reduceCtorEq] at h))|omega|assumption|with_reducible rfl|(refine vq ?_;kernel_rfl)|skip)))
        (simp only [vrt,Try.results116,vkt,seval,tbH1_116,xbH1_1];refine Fin.val rfl ?_;(try simp only [AV.le,AV.leL]))
        all_goals first|rfl|simp
def s116:List AV→Prop × AV
  |[.v (.int .i64 a),.v (.int .i64 b)]=>(OfOk a b,aI (gcdI a b))
  |_=>(False,.junk)
theorem e116 {A:Frm→Prop}:EntryOK A Try.prog 116 (valE true s116):=valE_ok fun vs _ h=>by
  unfold s116 at h ⊢
  split at h
  · exact ⟨by simp [AV.plain,aI],fun _=>by simp [AV.flat,aI],divisor_fn _ _ h⟩
  · exact h.elim
end Go.Sym.B
namespace Go.Sym.B
open Go Go.Sym Go.Proofs Go.Sym.C
def tbH2_114:=vk @ty3 (vk @ty22 (vk @ty28 (vk @ty35 (vk @ty38 (vk @ty48 (vk @ty55 (vk @ti3.eq_1 (vk @ti22.eq_1 (vk @ti28.eq_1 (vk @ti35.eq_1 (vk @ti38.eq_1 (vk @ti48.eq_1 @ti55.eq_1))))))))))))
def xbH2_1:=vk @aI.eq_1 (vk @aB.eq_1 (vk @aEnt.eq_1 (vk @aLed.eq_1 (vk @cLed.eq_1 (vk @aInts.eq_1 (vk @s79.eq_1 (vk @s79.eq_2 (vk @gInt (@eInt.eq_1)))))))))
set_option maxHeartbeats 4000000 in
theorem rentry_fn (l:Led) (x:Ent) (before:Int) (has:List Int) (h1:l.rates.length≤20) (h2:l.coins.length≤20) (h3:has.length=l.coins.length):FnV Try.prog 114 [aLed l,aEnt x,aI before,aInts has] (aI (eV l x before has)):=by
  have env:Env (fun _=>True) Try.prog tyB (tab [(82,valE true s79)]):=mkEnv ⟨e82,trivial⟩
  refine Fn.of (A:=fun _=>True) (n0:=0) (D:=noD) (Fn0 Try.func114 rfl (fun vs w=>by kernel_rfl) (by kernel_rfl)) (by simp) (by simp [AV.ids,AV.idsL,aLed,cLed,aEnt,aI,aInts]) (fun i o h=>by cases h) (fun _ _ _ _=>trivial) noD_ok ?_
  have w1:IntKind.wrap .i64 ((l.rates.length:Int) - 1)=(l.rates.length:Int) - 1:=wrap64 (by omega) (by omega)
  have w2:IntKind.wrap .i64 ((l.coins.length:Int) - 1)=(l.coins.length:Int) - 1:=wrap64 (by omega) (by omega)
  by_cases hE:entryE l x before=0
  · have ho:=entryE_ok hE
    rw [show eV l x before has=_ from if_neg (by rw [hE];simp)]
    have c1:=inB_iff.2 ho.day
    have c2:¬ x.day < before:=by have:=ho.ord;omega
    have c3:=inB_iff.2 ho.kind
    have c4:=inB_iff.2 ho.coin
    have c8:=inB_iff.2 ho.am
    have k0:=ho.coin.1
    have k1:x.coin.toNat < has.length:=by have:=ho.coin;omega
    by_cases c5:x.kind=3
    · have c7:inB 3 1 4=true:=by decide
      have c6:=inB_iff.2 (ho.to c5)
      have c9:=inB_iff.2 (ho.got c5)
      have c10:=ho.ne c5
      by_cases c11:has.getD x.coin.toNat 0 < x.amount
      · repeat' (first|(apply nx;with_reducible constructor)|refine uq (by decide) ?_|((first|refine vz env fun Q hQ=>?_|refine vj fun Q hQ=>?_);simp only [vkt,seval,tbH2_114,xbH2_1,w1,w2,c1,c2,c7,c4,c5,c6,c8,c9,c10,c11];(try simp only [ite_and]);(repeat' (first|with_reducible assumption|refine And.intro ?_ ?_|intro hp));all_goals (first|(refine hQ _ ?_;clear hQ Q)|(refine hQ _ (fun h=>?_) (fun h=>?_) <;> clear hQ Q <;> (try simp only [vki,reduceCtorEq] at h))|omega|assumption|with_reducible rfl|(refine vq ?_;kernel_rfl)|skip)))
        (simp only [vrt,Try.results114,vkt,seval,tbH2_114,xbH2_1];refine Fin.val rfl ?_;(try simp only [AV.le,AV.leL]))
        all_goals simp [-List.getD_eq_getElem?_getD,c5,c11]
      · repeat' (first|(apply nx;with_reducible constructor)|refine uq (by decide) ?_|((first|refine vz env fun Q hQ=>?_|refine vj fun Q hQ=>?_);simp only [vkt,seval,tbH2_114,xbH2_1,w1,w2,c1,c2,c7,c4,c5,c6,c8,c9,c10,c11];(try simp only [ite_and]);(repeat' (first|with_reducible assumption|refine And.intro ?_ ?_|intro hp));all_goals (first|(refine hQ _ ?_;clear hQ Q)|(refine hQ _ (fun h=>?_) (fun h=>?_) <;> clear hQ Q <;> (try simp only [vki,reduceCtorEq] at h))|omega|assumption|with_reducible rfl|(refine vq ?_;kernel_rfl)|skip)))
        (simp only [vrt,Try.results114,vkt,seval,tbH2_114,xbH2_1];refine Fin.val rfl ?_;(try simp only [AV.le,AV.leL]))
        all_goals simp [-List.getD_eq_getElem?_getD,c5,c11]
    · obtain ⟨c6,c7⟩:=ho.no c5
      by_cases c12:x.kind=2
      · have c13:inB 2 1 4=true:=by decide
        by_cases c11:has.getD x.coin.toNat 0 < x.amount
        · repeat' (first|(apply nx;with_reducible constructor)|refine uq (by decide) ?_|((first|refine vz env fun Q hQ=>?_|refine vj fun Q hQ=>?_);simp only [vkt,seval,tbH2_114,xbH2_1,w1,w2,c1,c2,c13,c4,c12,c6,c7,c8,c11];(try simp only [ite_and]);(repeat' (first|with_reducible assumption|refine And.intro ?_ ?_|intro hp));all_goals (first|(refine hQ _ ?_;clear hQ Q)|(refine hQ _ (fun h=>?_) (fun h=>?_) <;> clear hQ Q <;> (try simp only [vki,reduceCtorEq] at h))|omega|assumption|with_reducible rfl|(refine vq ?_;kernel_rfl)|skip)))
          (simp only [vrt,Try.results114,vkt,seval,tbH2_114,xbH2_1];refine Fin.val rfl ?_;(try simp only [AV.le,AV.leL]))
          all_goals simp [-List.getD_eq_getElem?_getD,c12,c11]
        · repeat' (first|(apply nx;with_reducible constructor)|refine uq (by decide) ?_|((first|refine vz env fun Q hQ=>?_|refine vj fun Q hQ=>?_);simp only [vkt,seval,tbH2_114,xbH2_1,w1,w2,c1,c2,c13,c4,c12,c6,c7,c8,c11];(try simp only [ite_and]);(repeat' (first|with_reducible assumption|refine And.intro ?_ ?_|intro hp));all_goals (first|(refine hQ _ ?_;clear hQ Q)|(refine hQ _ (fun h=>?_) (fun h=>?_) <;> clear hQ Q <;> (try simp only [vki,reduceCtorEq] at h))|omega|assumption|with_reducible rfl|(refine vq ?_;kernel_rfl)|skip)))
          (simp only [vrt,Try.results114,vkt,seval,tbH2_114,xbH2_1];refine Fin.val rfl ?_;(try simp only [AV.le,AV.leL]))
          all_goals simp [-List.getD_eq_getElem?_getD,c12,c11]
      · repeat' (first|(apply nx;with_reducible constructor)|refine uq (by decide) ?_|((first|refine vz env fun Q hQ=>?_|refine vj fun Q hQ=>?_);simp only [vkt,seval,tbH2_114,xbH2_1,w1,w2,c1,c2,c3,c4,c5,c6,c7,c8,c12];(try simp only [ite_and]);(repeat' (first|with_reducible assumption|refine And.intro ?_ ?_|intro hp));all_goals (first|(refine hQ _ ?_;clear hQ Q)|(refine hQ _ (fun h=>?_) (fun h=>?_) <;> clear hQ Q <;> (try simp only [vki,reduceCtorEq] at h))|omega|assumption|with_reducible rfl|(refine vq ?_;kernel_rfl)|skip)))
        (simp only [vrt,Try.results114,vkt,seval,tbH2_114,xbH2_1];refine Fin.val rfl ?_;(try simp only [AV.le,AV.leL]))
        all_goals simp [c12,c5]
  · rw [show eV l x before has=_ from if_pos hE]
    cases c1:inB x.day 0 ((l.rates.length:Int) - 1)
    · repeat' (first|(apply nx;with_reducible constructor)|refine uq (by decide) ?_|((first|refine vz env fun Q hQ=>?_|refine vj fun Q hQ=>?_);simp only [vkt,seval,tbH2_114,xbH2_1,w1,w2,c1];(try simp only [ite_and]);(repeat' (first|with_reducible assumption|refine And.intro ?_ ?_|intro hp));all_goals (first|(refine hQ _ ?_;clear hQ Q)|(refine hQ _ (fun h=>?_) (fun h=>?_) <;> clear hQ Q <;> (try simp only [vki,reduceCtorEq] at h))|omega|assumption|with_reducible rfl|(refine vq ?_;kernel_rfl)|skip)))
      (simp only [vrt,Try.results114,vkt,seval,tbH2_114,xbH2_1];refine Fin.val rfl ?_;(try simp only [AV.le,AV.leL]))
      all_goals simp [entryE,c1]
    by_cases c2:x.day < before
    · repeat' (first|(apply nx;with_reducible constructor)|refine uq (by decide) ?_|((first|refine vz env fun Q hQ=>?_|refine vj fun Q hQ=>?_);simp only [vkt,seval,tbH2_114,xbH2_1,w1,w2,c1,c2];(try simp only [ite_and]);(repeat' (first|with_reducible assumption|refine And.intro ?_ ?_|intro hp));all_goals (first|(refine hQ _ ?_;clear hQ Q)|(refine hQ _ (fun h=>?_) (fun h=>?_) <;> clear hQ Q <;> (try simp only [vki,reduceCtorEq] at h))|omega|assumption|with_reducible rfl|(refine vq ?_;kernel_rfl)|skip)))
      (simp only [vrt,Try.results114,vkt,seval,tbH2_114,xbH2_1];refine Fin.val rfl ?_;(try simp only [AV.le,AV.leL]))
      all_goals simp [entryE,c1,c2]
    cases c3:inB x.kind 1 4
    · repeat' (first|(apply nx;with_reducible constructor)|refine uq (by decide) ?_|((first|refine vz env fun Q hQ=>?_|refine vj fun Q hQ=>?_);simp only [vkt,seval,tbH2_114,xbH2_1,w1,w2,c1,c2,c3];(try simp only [ite_and]);(repeat' (first|with_reducible assumption|refine And.intro ?_ ?_|intro hp));all_goals (first|(refine hQ _ ?_;clear hQ Q)|(refine hQ _ (fun h=>?_) (fun h=>?_) <;> clear hQ Q <;> (try simp only [vki,reduceCtorEq] at h))|omega|assumption|with_reducible rfl|(refine vq ?_;kernel_rfl)|skip)))
      (simp only [vrt,Try.results114,vkt,seval,tbH2_114,xbH2_1];refine Fin.val rfl ?_;(try simp only [AV.le,AV.leL]))
      all_goals simp [entryE,c1,c2,c3]
    cases c4:inB x.coin 0 ((l.coins.length:Int) - 1)
    · repeat' (first|(apply nx;with_reducible constructor)|refine uq (by decide) ?_|((first|refine vz env fun Q hQ=>?_|refine vj fun Q hQ=>?_);simp only [vkt,seval,tbH2_114,xbH2_1,w1,w2,c1,c2,c3,c4];(try simp only [ite_and]);(repeat' (first|with_reducible assumption|refine And.intro ?_ ?_|intro hp));all_goals (first|(refine hQ _ ?_;clear hQ Q)|(refine hQ _ (fun h=>?_) (fun h=>?_) <;> clear hQ Q <;> (try simp only [vki,reduceCtorEq] at h))|omega|assumption|with_reducible rfl|(refine vq ?_;kernel_rfl)|skip)))
      (simp only [vrt,Try.results114,vkt,seval,tbH2_114,xbH2_1];refine Fin.val rfl ?_;(try simp only [AV.le,AV.leL]))
      all_goals simp [entryE,c1,c2,c3,c4]
    by_cases c5:x.kind=3
    · have c7:inB 3 1 4=true:=by decide
      cases c6:inB x.to 0 ((l.coins.length:Int) - 1)
      · repeat' (first|(apply nx;with_reducible constructor)|refine uq (by decide) ?_|((first|refine vz env fun Q hQ=>?_|refine vj fun Q hQ=>?_);simp only [vkt,seval,tbH2_114,xbH2_1,w1,w2,c1,c2,c7,c4,c5,c6];(try simp only [ite_and]);(repeat' (first|with_reducible assumption|refine And.intro ?_ ?_|intro hp));all_goals (first|(refine hQ _ ?_;clear hQ Q)|(refine hQ _ (fun h=>?_) (fun h=>?_) <;> clear hQ Q <;> (try simp only [vki,reduceCtorEq] at h))|omega|assumption|with_reducible rfl|(refine vq ?_;kernel_rfl)|skip)))
        (simp only [vrt,Try.results114,vkt,seval,tbH2_114,xbH2_1];refine Fin.val rfl ?_;(try simp only [AV.le,AV.leL]))
        all_goals simp [entryE,c1,c2,c7,c4,c5,c6]
      by_cases c8:x.to=x.coin
      · have c6':inB x.coin 0 ((l.coins.length:Int) - 1)=true:=c4
        repeat' (first|(apply nx;with_reducible constructor)|refine uq (by decide) ?_|((first|refine vz env fun Q hQ=>?_|refine vj fun Q hQ=>?_);simp only [vkt,seval,tbH2_114,xbH2_1,w1,w2,c1,c2,c7,c4,c5,c6,c8];(try simp only [ite_and]);(repeat' (first|with_reducible assumption|refine And.intro ?_ ?_|intro hp));all_goals (first|(refine hQ _ ?_;clear hQ Q)|(refine hQ _ (fun h=>?_) (fun h=>?_) <;> clear hQ Q <;> (try simp only [vki,reduceCtorEq] at h))|omega|assumption|with_reducible rfl|(refine vq ?_;kernel_rfl)|skip)))
        (simp only [vrt,Try.results114,vkt,seval,tbH2_114,xbH2_1];refine Fin.val rfl ?_;(try simp only [AV.le,AV.leL]))
        all_goals simp [entryE,c1,c2,c7,c4,c5,c6',c8]
      cases c9:inB x.got 0 999
      · repeat' (first|(apply nx;with_reducible constructor)|refine uq (by decide) ?_|((first|refine vz env fun Q hQ=>?_|refine vj fun Q hQ=>?_);simp only [vkt,seval,tbH2_114,xbH2_1,w1,w2,c1,c2,c7,c4,c5,c6,c8,c9];(try simp only [ite_and]);(repeat' (first|with_reducible assumption|refine And.intro ?_ ?_|intro hp));all_goals (first|(refine hQ _ ?_;clear hQ Q)|(refine hQ _ (fun h=>?_) (fun h=>?_) <;> clear hQ Q <;> (try simp only [vki,reduceCtorEq] at h))|omega|assumption|with_reducible rfl|(refine vq ?_;kernel_rfl)|skip)))
        (simp only [vrt,Try.results114,vkt,seval,tbH2_114,xbH2_1];refine Fin.val rfl ?_;(try simp only [AV.le,AV.leL]))
        all_goals simp [entryE,c1,c2,c7,c4,c5,c6,c8,c9]
      cases c10:inB x.amount 0 999
      · repeat' (first|(apply nx;with_reducible constructor)|refine uq (by decide) ?_|((first|refine vz env fun Q hQ=>?_|refine vj fun Q hQ=>?_);simp only [vkt,seval,tbH2_114,xbH2_1,w1,w2,c1,c2,c7,c4,c5,c6,c8,c9,c10];(try simp only [ite_and]);(repeat' (first|with_reducible assumption|refine And.intro ?_ ?_|intro hp));all_goals (first|(refine hQ _ ?_;clear hQ Q)|(refine hQ _ (fun h=>?_) (fun h=>?_) <;> clear hQ Q <;> (try simp only [vki,reduceCtorEq] at h))|omega|assumption|with_reducible rfl|(refine vq ?_;kernel_rfl)|skip)))
        (simp only [vrt,Try.results114,vkt,seval,tbH2_114,xbH2_1];refine Fin.val rfl ?_;(try simp only [AV.le,AV.leL]))
        all_goals simp [entryE,c1,c2,c7,c4,c5,c6,c8,c9,c10]
      exact absurd (by simp [entryE,c1,c2,c7,c4,c5,c6,c8,c9,c10]) hE
    · by_cases c6:x.to=0
      · by_cases c7:x.got=0
        · cases c10:inB x.amount 0 999
          · repeat' (first|(apply nx;with_reducible constructor)|refine uq (by decide) ?_|((first|refine vz env fun Q hQ=>?_|refine vj fun Q hQ=>?_);simp only [vkt,seval,tbH2_114,xbH2_1,w1,w2,c1,c2,c3,c4,c5,c6,c7,c10];(try simp only [ite_and]);(repeat' (first|with_reducible assumption|refine And.intro ?_ ?_|intro hp));all_goals (first|(refine hQ _ ?_;clear hQ Q)|(refine hQ _ (fun h=>?_) (fun h=>?_) <;> clear hQ Q <;> (try simp only [vki,reduceCtorEq] at h))|omega|assumption|with_reducible rfl|(refine vq ?_;kernel_rfl)|skip)))
            (simp only [vrt,Try.results114,vkt,seval,tbH2_114,xbH2_1];refine Fin.val rfl ?_;(try simp only [AV.le,AV.leL]))
            all_goals simp [entryE,c1,c2,c3,c4,c5,c6,c7,c10]
          exact absurd (by simp [entryE,c1,c2,c3,c4,c5,c6,c7,c10]) hE
        · repeat' (first|(apply nx;with_reducible constructor)|refine uq (by decide) ?_|((first|refine vz env fun Q hQ=>?_|refine vj fun Q hQ=>?_);simp only [vkt,seval,tbH2_114,xbH2_1,w1,w2,c1,c2,c3,c4,c5,c6,c7];(try simp only [ite_and]);(repeat' (first|with_reducible assumption|refine And.intro ?_ ?_|intro hp));all_goals (first|(refine hQ _ ?_;clear hQ Q)|(refine hQ _ (fun h=>?_) (fun h=>?_) <;> clear hQ Q <;> (try simp only [vki,reduceCtorEq] at h))|omega|assumption|with_reducible rfl|(refine vq ?_;kernel_rfl)|skip)))
          (simp only [vrt,Try.results114,vkt,seval,tbH2_114,xbH2_1];refine Fin.val rfl ?_;(try simp only [AV.le,AV.leL]))
          all_goals simp [entryE,c1,c2,c3,c4,c5,c6,c7]
      · repeat' (first|(apply nx;with_reducible constructor)|refine uq (by decide) ?_|((first|refine vz env fun Q hQ=>?_|refine vj fun Q hQ=>?_);simp only [vkt,seval,tbH2_114,xbH2_1,w1,w2,c1,c2,c3,c4,c5,c6];(try simp only [ite_and]);(repeat' (first|with_reducible assumption|refine And.intro ?_ ?_|intro hp));all_goals (first|(refine hQ _ ?_;clear hQ Q)|(refine hQ _ (fun h=>?_) (fun h=>?_) <;> clear hQ Q <;> (try simp only [vki,reduceCtorEq] at h))|omega|assumption|with_reducible rfl|(refine vq ?_;kernel_rfl)|skip)))
        (simp only [vrt,Try.results114,vkt,seval,tbH2_114,xbH2_1];refine Fin.val rfl ?_;(try simp only [AV.le,AV.leL]))
        all_goals simp [entryE,c1,c2,c3,c4,c5,c6]
def s114:List AV→Prop × AV
  |[.agg [.sl cs,.sl rs,.sl ss,.sl es],.agg [.v (.int .i64 a),.v (.int .i64 b),.v (.int .i64 c),.v (.int .i64 d),.v (.int .i64 e),.v (.int .i64 f)],.v (.int .i64 n),.sl hs] =>
    (isL cs rs ss es∧hs=(hs.map dInt).map eInt∧rs.length≤20∧cs.length≤20∧hs.length=cs.length,aI (eV (ldOf cs rs ss es) ⟨a,b,c,d,e,f⟩ n (hs.map dInt)))
  |_=>(False,.junk)
theorem e114 {A:Frm→Prop}:EntryOK A Try.prog 114 (valE true s114):=valE_ok fun vs hv h=>by
  clear hv
  unfold s114 at h ⊢
  split at h
  · rename_i cs rs ss es a b c d e f n hs
    obtain ⟨h1,h2,h3,h4,h5⟩:=h
    refine ⟨trivial,fun _=>trivial,?_⟩
    have:=rentry_fn (ldOf cs rs ss es) ⟨a,b,c,d,e,f⟩ n (hs.map dInt) (by simpa [ldOf] using h3) (by simpa [ldOf] using h4) (by simpa [ldOf] using h5)
    rw [aLed_of h1,aInts,← h2] at this
    exact this
  · exact h.elim
def tbH2_115:=vk @ty3 (vk @ty22 (vk @ty48 (vk @ti3.eq_1 (vk @ti22.eq_1 @ti48.eq_1))))
def xbH2_2:=vk @aI.eq_1 (vk @aB.eq_1 (vk @aEnt.eq_1 (vk @aInts.eq_1 (vk @setI (@rInt)))))
set_option maxHeartbeats 1000000 in
theorem rdone_fn (has:List Int) (x:Ent) (h:EnOk has x) (hl:has.length≤100000):FnV Try.prog 115 [aInts has,aEnt x] (aInts (enterF has x)):=by
  have env:Env (fun _=>True) Try.prog tyB (tab []):=mkEnv trivial
  refine Fn.of (A:=fun _=>True) (n0:=0) (D:=noD) (Fn0 Try.func115 rfl (fun vs w=>by kernel_rfl) (by kernel_rfl)) (by simp) (by simp [AV.ids,AV.idsL,aEnt,aInts]) (fun i o h=>by cases h) (fun _ _ _ _=>trivial) noD_ok ?_
  obtain ⟨z1,z2,z3,z4⟩:=b47 hl
  have c0:=h.c0
  have c1:=h.c1
  have g1:=gI0 h.c1
  have b1:=bGet (n:=x.coin.toNat) h.b
  have ha:=h.a
  by_cases k1:x.kind=1
  · rw [show enterF has x=_ from if_pos k1]
    have w1:IntKind.wrap .i64 (has.getD x.coin.toNat 0+x.amount)=has.getD x.coin.toNat 0+x.amount:=wrap64 (by omega) (by omega)
    repeat' (first|(apply nx;with_reducible constructor)|refine uq (by decide) ?_|((first|refine vz env fun Q hQ=>?_|refine vj fun Q hQ=>?_);simp only [vkt,seval,tbH2_115,xbH2_2,k1,g1,w1,eInt];(try simp only [ite_and]);(repeat' (first|with_reducible assumption|refine And.intro ?_ ?_|intro hp));all_goals (first|(refine hQ _ ?_;clear hQ Q)|(refine hQ _ (fun h=>?_) (fun h=>?_) <;> clear hQ Q <;> (try simp only [vki,reduceCtorEq] at h))|omega|assumption|with_reducible rfl|(refine vq ?_;kernel_rfl)|skip)))
    (simp only [vrt,Try.results115,vkt,seval,tbH2_115,xbH2_2];refine Fin.val rfl ?_;(try simp only [AV.le,AV.leL]))
    all_goals exact ⟨_,_,rfl⟩
  by_cases k2:x.kind=2
  · rw [show enterF has x=addAt has x.coin (-x.amount) by unfold enterF;rw [if_neg k1,if_pos k2]]
    have w1:IntKind.wrap .i64 (has.getD x.coin.toNat 0 - x.amount)=has.getD x.coin.toNat 0+-x.amount:=by rw [wrap64 (by omega) (by omega)];omega
    repeat' (first|(apply nx;with_reducible constructor)|refine uq (by decide) ?_|((first|refine vz env fun Q hQ=>?_|refine vj fun Q hQ=>?_);simp only [vkt,seval,tbH2_115,xbH2_2,k2,g1,w1,eInt];(try simp only [ite_and]);(repeat' (first|with_reducible assumption|refine And.intro ?_ ?_|intro hp));all_goals (first|(refine hQ _ ?_;clear hQ Q)|(refine hQ _ (fun h=>?_) (fun h=>?_) <;> clear hQ Q <;> (try simp only [vki,reduceCtorEq] at h))|omega|assumption|with_reducible rfl|(refine vq ?_;kernel_rfl)|skip)))
    (simp only [vrt,Try.results115,vkt,seval,tbH2_115,xbH2_2];refine Fin.val rfl ?_;(try simp only [AV.le,AV.leL]))
    all_goals exact ⟨_,_,rfl⟩
  by_cases k3:x.kind=3
  · rw [show enterF has x=addAt (addAt has x.coin (-x.amount)) x.to x.got by unfold enterF;rw [if_neg k1,if_neg k2,if_pos k3]]
    have w1:IntKind.wrap .i64 (has.getD x.coin.toNat 0 - x.amount)=has.getD x.coin.toNat 0+-x.amount:=by rw [wrap64 (by omega) (by omega)];omega
    obtain ⟨t0,t1⟩:=h.t k3
    have hg:=h.g k3
    have hb2:∀ v ∈ addAt has x.coin (-x.amount),-1001000≤v∧v≤1001000:=fun v hv=>by
      rcases List.mem_or_eq_of_mem_set hv with h1|h1
      · have:=h.b v h1;omega
      · omega
    have t2:x.to.toNat < (addAt has x.coin (-x.amount)).length:=by simp [addAt];exact t1
    have g2:=gI0 t2
    have b2:=hb2 _ (gMem (d:=0) t2)
    have w2:IntKind.wrap .i64 ((addAt has x.coin (-x.amount)).getD x.to.toNat 0+x.got)=(addAt has x.coin (-x.amount)).getD x.to.toNat 0+x.got:=wrap64 (by omega) (by omega)
    have e2:has.set x.coin.toNat (has.getD x.coin.toNat 0+-x.amount)=addAt has x.coin (-x.amount):=rfl
    repeat' (first|(apply nx;with_reducible constructor)|refine uq (by decide) ?_|((first|refine vz env fun Q hQ=>?_|refine vj fun Q hQ=>?_);simp only [vkt,seval,tbH2_115,xbH2_2,k3,g1,w1,e2,g2,w2,eInt];(try simp only [ite_and]);(repeat' (first|with_reducible assumption|refine And.intro ?_ ?_|intro hp));all_goals (first|(refine hQ _ ?_;clear hQ Q)|(refine hQ _ (fun h=>?_) (fun h=>?_) <;> clear hQ Q <;> (try simp only [vki,reduceCtorEq] at h))|omega|assumption|with_reducible rfl|(refine vq ?_;kernel_rfl)|skip)))
    (simp only [vrt,Try.results115,vkt,seval,tbH2_115,xbH2_2];refine Fin.val rfl ?_;(try simp only [AV.le,AV.leL]))
    all_goals exact ⟨_,_,rfl⟩
  by_cases k4:x.kind=4
  · rw [show enterF has x=has.set x.coin.toNat x.amount by unfold enterF;rw [if_neg k1,if_neg k2,if_neg k3,if_pos k4]]
    repeat' (first|(apply nx;with_reducible constructor)|refine uq (by decide) ?_|((first|refine vz env fun Q hQ=>?_|refine vj fun Q hQ=>?_);simp only [vkt,seval,tbH2_115,xbH2_2,k4,g1,eInt];(try simp only [ite_and]);(repeat' (first|with_reducible assumption|refine And.intro ?_ ?_|intro hp));all_goals (first|(refine hQ _ ?_;clear hQ Q)|(refine hQ _ (fun h=>?_) (fun h=>?_) <;> clear hQ Q <;> (try simp only [vki,reduceCtorEq] at h))|omega|assumption|with_reducible rfl|(refine vq ?_;kernel_rfl)|skip)))
    (simp only [vrt,Try.results115,vkt,seval,tbH2_115,xbH2_2];refine Fin.val rfl ?_;(try simp only [AV.le,AV.leL]))
    all_goals exact ⟨_,_,rfl⟩
  · rw [show enterF has x=has by unfold enterF;rw [if_neg k1,if_neg k2,if_neg k3,if_neg k4]]
    repeat' (first|(apply nx;with_reducible constructor)|refine uq (by decide) ?_|((first|refine vz env fun Q hQ=>?_|refine vj fun Q hQ=>?_);simp only [vkt,seval,tbH2_115,xbH2_2,k1,k2,k3,k4];(try simp only [ite_and]);(repeat' (first|with_reducible assumption|refine And.intro ?_ ?_|intro hp));all_goals (first|(refine hQ _ ?_;clear hQ Q)|(refine hQ _ (fun h=>?_) (fun h=>?_) <;> clear hQ Q <;> (try simp only [vki,reduceCtorEq] at h))|omega|assumption|with_reducible rfl|(refine vq ?_;kernel_rfl)|skip)))
    (simp only [vrt,Try.results115,vkt,seval,tbH2_115,xbH2_2];refine Fin.val rfl ?_;(try simp only [AV.le,AV.leL]))
    all_goals exact ⟨_,_,rfl⟩
def s115:List AV→Prop × AV
  |[.sl hs,.agg [.v (.int .i64 a),.v (.int .i64 b),.v (.int .i64 c),.v (.int .i64 d),.v (.int .i64 e),.v (.int .i64 f)]]=>(hs=(hs.map dInt).map eInt∧hs.length≤100000∧EnOk (hs.map dInt) ⟨a,b,c,d,e,f⟩,aInts (enterF (hs.map dInt) ⟨a,b,c,d,e,f⟩))
  |_=>(False,.junk)
theorem e115 {A:Frm→Prop}:EntryOK A Try.prog 115 (valE false s115):=valE_ok fun vs hv h=>by
  clear hv
  unfold s115 at h ⊢
  split at h
  · rename_i hs a b c d e f
    obtain ⟨h1,h2,h3⟩:=h
    refine ⟨trivial,fun h=>absurd h (by decide),?_⟩
    have:=rdone_fn (hs.map dInt) ⟨a,b,c,d,e,f⟩ h3 (by simpa using h2)
    rw [aInts,← h1] at this
    exact this
  · exact h.elim
end Go.Sym.B
namespace Go.Sym.B
open Go Go.Sym Go.Proofs Go.Sym.C
theorem sh_gcd {n d:Int} (hn:1≤n) (hd:1≤d):(⟨n,d⟩:Sh)=shQ (mkRat n d.toNat) ↔ gcdI n d=1:=by
  have hq:(0:Int) < d:=by omega
  have e1:=mk_num (a:=n) hq
  have e2:=mk_den (a:=n) hq
  have hg:0 < Nat.gcd n.natAbs d.toNat:=Nat.gcd_pos_of_pos_right _ (by omega)
  have hl:=Nat.gcd_dvd_left n.natAbs d.toNat
  rw [sh_eq]
  show (n=(mkRat n d.toNat).num∧d=((mkRat n d.toNat).den:Int)) ↔ _
  rw [e1,e2]
  unfold gcdI
  generalize Nat.gcd n.natAbs d.toNat=g at *
  constructor
  · rintro ⟨h1,_⟩
    obtain ⟨q,hq⟩:=hl
    have h7:n=(g:Int) * (q:Int):=by rw [show n=(n.natAbs:Int) by omega,hq];exact Int.natCast_mul g q
    rw [h7,Int.mul_tdiv_cancel_left _ (by omega)] at h1
    have hq0:0 < (q:Int):=by
      rcases Nat.eq_zero_or_pos q with h8|h8
      · subst h8;simp at h7;omega
      · omega
    have:(g:Int) * q=1 * q:=by omega
    exact Int.eq_of_mul_eq_mul_right (by omega) this
  · intro h
    rw [h];simp
def ckR (l:Led):Int :=
  if countedE l.rates.length 1 4 ≠ 0 then countedE l.rates.length 1 4 else if firstE (errs l.rates.length (ckRate l)) ≠ 0 then firstE (errs l.rates.length (ckRate l))
  else if l.start.length ≠ l.coins.length then 2 else firstE (errs l.start.length (startE l))
def ckC (l:Led):Int :=
  if countedE l.coins.length 1 4 ≠ 0 then countedE l.coins.length 1 4 else if firstE (errs l.coins.length (ckCoin l)) ≠ 0 then firstE (errs l.coins.length (ckCoin l)) else ckR l
theorem checkE_eq (l:Led):checkE l=if ckC l ≠ 0 then ckC l else entriesE l:=by
  unfold checkE ckC ckR
  repeat' split
  all_goals first|rfl|contradiction|(simp_all;done)
def rr1 (l:Led) (k:Nat):St:={ t:=asg [(1,.ptr 0 0),(2,aI 0),(3,aI k)],h:=hasg [(0,.cells (cLed l))],n:=1 }
def rr2 (l:Led) (r:List Sh) (k i:Nat):St:={ t:=asg [(1,.ptr 0 0),(2,aI 0),(3,aI k),(4,aShs r),(5,aI ((1+i:Nat):Int))],h:=hasg [(0,.cells (cLed l))],n:=1 }
def rr3 (l:Led) (k:Nat):St:={ t:=asg [(1,.ptr 0 0),(2,aI 0),(6,aI k)],h:=hasg [(0,.cells (cLed l))],n:=1 }
def rc2 (l:Led) (r:List Int) (k i:Nat):St:={ t:=asg [(1,.ptr 0 0),(2,aI 0),(3,aI k),(4,aInts r),(5,aI ((1+i:Nat):Int))],h:=hasg [(0,.cells (cLed l))],n:=1 }
def tbH3_141:=vk @ty3 (vk @ty22 (vk @ty28 (vk @ty35 (vk @ty38 (vk @ty55 (vk @ty59 (vk @ti3.eq_1 (vk @ti22.eq_1 (vk @ti28.eq_1 (vk @ti35.eq_1 (vk @ti38.eq_1 (vk @ti55.eq_1 @ti59.eq_1))))))))))))
def xbH3_1:=vk @aI.eq_1 (vk @aB.eq_1 (vk @aLed.eq_1 (vk @cLed.eq_1 (vk @rr1.eq_1 (vk @rr2.eq_1 (vk @rr3.eq_1 (vk @aShs.eq_1 (vk @gInt (vk @eInt.eq_1 (vk @gShs (vk @gSh (vk @eShs.eq_1 (vk @eSh.eq_1 (vk @s79.eq_1 (vk @s79.eq_2 (vk @s116.eq_1 (@s116.eq_2)))))))))))))))))
set_option maxHeartbeats 4000000 in
theorem rrates_fn (l:Led) (hl:Fit l) (hc:1≤l.coins.length):FnV Try.prog 141 [aLed l] (aI (ckR l)):=by
  have env:Env (fun _=>True) Try.prog tyB (tab [(82,valE true s79),(116,valE true s116)]):=mkEnv ⟨e82,e116,trivial⟩
  refine Fn.of (A:=fun _=>True) (n0:=0) (D:=noD) (Fn0 Try.func141 rfl (fun vs w=>by kernel_rfl) (by kernel_rfl)) (by simp) (by simp [AV.ids,AV.idsL,aLed,cLed]) (fun i o h=>by cases h) (fun _ _ _ _=>trivial) noD_ok ?_
  have q1:=hl.c
  have q2:=hl.r
  have q4:=hl.s
  have q5:=tmax
  by_cases a1:l.rates.length=0
  · have a1':(l.rates.length:Int)=0:=by omega
    repeat' (first|(apply nx;with_reducible constructor)|refine uq (by decide) ?_|((first|refine vz env fun Q hQ=>?_|refine vj fun Q hQ=>?_);simp only [vkt,seval,tbH3_141,xbH3_1,a1'];(try simp only [ite_and]);(repeat' (first|with_reducible assumption|refine And.intro ?_ ?_|intro hp));all_goals (first|(refine hQ _ ?_;clear hQ Q)|(refine hQ _ (fun h=>?_) (fun h=>?_) <;> clear hQ Q <;> (try simp only [vki,reduceCtorEq] at h))|omega|assumption|with_reducible rfl|(refine vq ?_;kernel_rfl)|skip)))
    (simp only [vrt,Try.results141,vkt,seval,tbH3_141,xbH3_1];refine Fin.val rfl ?_;(try simp only [AV.le,AV.leL]))
    all_goals (unfold ckR countedE;simp [a1])
  by_cases a2:4 < l.rates.length
  · have a1':¬ (l.rates.length:Int)=0:=by omega
    have a2':(4:Int) < (l.rates.length:Int):=by omega
    have h4:countedE l.rates.length 1 4=6:=by unfold countedE;rw [if_neg (by omega),if_pos a2']
    repeat' (first|(apply nx;with_reducible constructor)|refine uq (by decide) ?_|((first|refine vz env fun Q hQ=>?_|refine vj fun Q hQ=>?_);simp only [vkt,seval,tbH3_141,xbH3_1,a1',a2'];(try simp only [ite_and]);(repeat' (first|with_reducible assumption|refine And.intro ?_ ?_|intro hp));all_goals (first|(refine hQ _ ?_;clear hQ Q)|(refine hQ _ (fun h=>?_) (fun h=>?_) <;> clear hQ Q <;> (try simp only [vki,reduceCtorEq] at h))|omega|assumption|with_reducible rfl|(refine vq ?_;kernel_rfl)|skip)))
    (simp only [vrt,Try.results141,vkt,seval,tbH3_141,xbH3_1];refine Fin.val rfl ?_;(try simp only [AV.le,AV.leL]))
    all_goals (unfold ckR;rw [if_pos (by rw [h4];decide),h4])
  have a1':¬ (l.rates.length:Int)=0:=by omega
  have a2':¬ (4:Int) < (l.rates.length:Int):=by omega
  have h0:countedE l.rates.length 1 4=0:=by unfold countedE;rw [if_neg (by omega),if_neg a2']
  repeat' (first|(apply nx;with_reducible constructor)|refine uq (by decide) ?_|((first|refine vz env fun Q hQ=>?_|refine vj fun Q hQ=>?_);simp only [vkt,seval,tbH3_141,xbH3_1,a1',a2'];(try simp only [ite_and]);(repeat' (first|with_reducible assumption|refine And.intro ?_ ?_|intro hp));all_goals (first|(refine hQ _ ?_;clear hQ Q)|(refine hQ _ (fun h=>?_) (fun h=>?_) <;> clear hQ Q <;> (try simp only [vki,reduceCtorEq] at h))|omega|assumption|with_reducible rfl|(refine vq ?_;kernel_rfl)|skip)))
  refine sym_loop (ι:=FI (errs l.rates.length (ckRate l))) (fun i=>rr1 l i.k) (fun i=>l.rates.length - i.k) (FI.zero _) ?_ fun i=>?_
  · (refine Le.ok some [] ?_;constructor;all_goals (try simp only [vle,vkt,seval,tbH3_141,xbH3_1]))
    all_goals simp [FI.zero]
  · have hk:=i.le
    rw [errs_len] at hk
    repeat' (first|(apply nx;with_reducible constructor)|refine uq (by decide) ?_)
    (refine vz env fun Q hQ=>?_;simp only [vkt,seval,tbH3_141,xbH3_1];(try simp only [ite_and]);(repeat' (first|with_reducible assumption|refine And.intro ?_ ?_|intro hp));all_goals (first|(refine hQ _ ?_;clear hQ Q)|omega|assumption|with_reducible rfl|(refine vq ?_;kernel_rfl)|skip))
    repeat' (first|(apply nx;with_reducible constructor)|refine uq (by decide) ?_)
    (refine sym_cd (by simp only [vkt,seval,tbH3_141,xbH3_1];rfl) (fun h=>?_) (fun h=>?_) <;> (try simp only [vki,reduceCtorEq] at h))
    · have hlt:i.k < l.rates.length:=by omega
      have hpl:=hl.rs _ (gMem (d:=[]) hlt)
      have e9:=wrap_succ hlt (show l.rates.length≤maxLen by omega)
      have out:∀ e,ratesE (l.rates.getD i.k []) l.coins.length=e→e ≠ 0→ckR l=e:=fun e he h1=>by
        have:=i.hit hlt (by show ratesE (l.rates.getD i.k []) l.coins.length ≠ 0;rw [he];exact h1)
        unfold ckR
        rw [if_neg (by rw [h0];simp),if_pos (by rw [this];show ratesE _ _ ≠ 0;rw [he];exact h1),this]
        exact he
      have hN:ratesE (l.rates.getD i.k []) l.coins.length=0→∃ i':FI (errs l.rates.length (ckRate l)),l.rates.length - i'.k < l.rates.length - i.k∧i'.k=i.k+1:=fun h1=>⟨i.next hlt h1,by show l.rates.length - (i.k+1) < _;omega,rfl⟩
      obtain ⟨r,hr⟩:∃ r,l.rates.getD i.k []=r:=⟨_,rfl⟩
      rw [hr] at hpl out hN
      by_cases d1:r.length=l.coins.length
      · have d1':(r.length:Int)=(l.coins.length:Int):=by omega
        have r0:0 < r.length:=by omega
        by_cases d2:r.getD 0 default=⟨1,1⟩
        · have d3:=congrArg Sh.num d2
          have d4:=congrArg Sh.den d2
          dsimp only at d3 d4
          have hrE:ratesE r l.coins.length=firstE (errs (r.length - 1) (rateE r)):=by unfold ratesE;rw [if_neg (by rw [d1'];simp),if_neg (by rw [d2];simp)]
          repeat' (first|(apply nx;with_reducible constructor)|refine uq (by decide) ?_|((first|refine vz env fun Q hQ=>?_|refine vj fun Q hQ=>?_);simp only [vkt,seval,tbH3_141,xbH3_1,hr,d1',d3,d4];(try simp only [ite_and]);(repeat' (first|with_reducible assumption|refine And.intro ?_ ?_|intro hp));all_goals (first|(refine hQ _ ?_;clear hQ Q)|(refine hQ _ (fun h=>?_) (fun h=>?_) <;> clear hQ Q <;> (try simp only [vki,reduceCtorEq] at h))|omega|assumption|with_reducible rfl|(refine vq ?_;kernel_rfl)|skip)))
          refine sym_loop (ι:=FI (errs (r.length - 1) (rateE r))) (fun j=>rr2 l r i.k j.k) (fun j=>r.length - j.k) (FI.zero _) ?_ fun j=>?_
          · (refine Le.ok some [] ?_;constructor;all_goals (try simp only [vle,vkt,seval,tbH3_141,xbH3_1]))
            all_goals first|rfl|(simp [FI.zero];done)
          · have hj:=j.le
            rw [errs_len] at hj
            repeat' (first|(apply nx;with_reducible constructor)|refine uq (by decide) ?_)
            (refine vz env fun Q hQ=>?_;simp only [vkt,seval,tbH3_141,xbH3_1];(try simp only [ite_and]);(repeat' (first|with_reducible assumption|refine And.intro ?_ ?_|intro hp));all_goals (first|(refine hQ _ ?_;clear hQ Q)|omega|assumption|with_reducible rfl|(refine vq ?_;kernel_rfl)|skip))
            repeat' (first|(apply nx;with_reducible constructor)|refine uq (by decide) ?_)
            (refine sym_cd (by simp only [vkt,seval,tbH3_141,xbH3_1];rfl) (fun h=>?_) (fun h=>?_) <;> (try simp only [vki,reduceCtorEq] at h))
            · have hjl:j.k < r.length - 1:=by omega
              have hjl2:1+j.k < r.length:=by omega
              have e8:IntKind.wrap .i64 (((1+j.k:Nat):Int)+1)=((1+(j.k+1):Nat):Int):=by rw [wrap64 (by omega) (by omega)];omega
              have hit:∀ e,rateE r j.k=e→e ≠ 0→ckR l=e:=fun e he h1=>out e (by rw [hrE,j.hit hjl (by rw [he];exact h1),he]) h1
              have nxt:rateE r j.k=0→∃ j':FI (errs (r.length - 1) (rateE r)),r.length - j'.k < r.length - j.k∧j'.k=j.k+1:=fun h1=>⟨j.next hjl h1,by show r.length - (j.k+1) < _;omega,rfl⟩
              unfold rateE at hit nxt
              obtain ⟨s,hs⟩:∃ s,r.getD (1+j.k) default=s:=⟨_,rfl⟩
              rw [hs] at hit nxt
              cases c1:inB s.num 1 20
              · repeat' (first|(apply nx;with_reducible constructor)|refine uq (by decide) ?_|((first|refine vz env fun Q hQ=>?_|refine vj fun Q hQ=>?_);simp only [vkt,seval,tbH3_141,xbH3_1,hr,hs,c1];(try simp only [ite_and]);(repeat' (first|with_reducible assumption|refine And.intro ?_ ?_|intro hp));all_goals (first|(refine hQ _ ?_;clear hQ Q)|(refine hQ _ (fun h=>?_) (fun h=>?_) <;> clear hQ Q <;> (try simp only [vki,reduceCtorEq] at h))|omega|assumption|with_reducible rfl|(refine vq ?_;kernel_rfl)|skip)))
                (simp only [vrt,Try.results141,vkt,seval,tbH3_141,xbH3_1];refine Fin.val rfl ?_;(try simp only [AV.le,AV.leL]))
                all_goals rw [hit 1 (by unfold shE;simp [c1]) (by decide)]
              cases c2:inB s.den 1 12
              · repeat' (first|(apply nx;with_reducible constructor)|refine uq (by decide) ?_|((first|refine vz env fun Q hQ=>?_|refine vj fun Q hQ=>?_);simp only [vkt,seval,tbH3_141,xbH3_1,hr,hs,c1,c2];(try simp only [ite_and]);(repeat' (first|with_reducible assumption|refine And.intro ?_ ?_|intro hp));all_goals (first|(refine hQ _ ?_;clear hQ Q)|(refine hQ _ (fun h=>?_) (fun h=>?_) <;> clear hQ Q <;> (try simp only [vki,reduceCtorEq] at h))|omega|assumption|with_reducible rfl|(refine vq ?_;kernel_rfl)|skip)))
                (simp only [vrt,Try.results141,vkt,seval,tbH3_141,xbH3_1];refine Fin.val rfl ?_;(try simp only [AV.le,AV.leL]))
                all_goals rw [hit 1 (by unfold shE;simp [c1,c2]) (by decide)]
              have b1:=inB_iff.1 c1
              have b2:=inB_iff.1 c2
              have hro:OfOk s.num s.den:=⟨by omega,by omega,by omega,by omega⟩
              have hsg:=sh_gcd (n:=s.num) (d:=s.den) b1.1 b2.1
              by_cases c3:gcdI s.num s.den=1
              · obtain ⟨j',g1,g2⟩:=nxt (by unfold shE;rw [c1,c2,if_neg (by simp),if_neg (by simp),if_neg (by rw [ne_eq,Decidable.not_not];exact hsg.2 c3)])
                repeat' (first|(apply nx;with_reducible constructor)|refine uq (by decide) ?_|((first|refine vz env fun Q hQ=>?_|refine vj fun Q hQ=>?_);simp only [vkt,seval,tbH3_141,xbH3_1,hr,hs,c1,c2,c3,e8];(try simp only [ite_and]);(repeat' (first|with_reducible assumption|refine And.intro ?_ ?_|intro hp));all_goals (first|(refine hQ _ ?_;clear hQ Q)|(refine hQ _ (fun h=>?_) (fun h=>?_) <;> clear hQ Q <;> (try simp only [vki,reduceCtorEq] at h))|omega|assumption|with_reducible rfl|(refine vq ?_;kernel_rfl)|skip)))
                refine ⟨j',g1,?_⟩
                rw [g2]
                (refine Le.ok some [] ?_;constructor;all_goals (try simp only [vle,vkt,seval,tbH3_141,xbH3_1]))
                all_goals first|rfl|(simp;done)
              · have h8:=hit 8 (by unfold shE;rw [c1,c2,if_neg (by simp),if_neg (by simp),if_pos (fun hh=>c3 (hsg.1 hh))]) (by decide)
                repeat' (first|(apply nx;with_reducible constructor)|refine uq (by decide) ?_|((first|refine vz env fun Q hQ=>?_|refine vj fun Q hQ=>?_);simp only [vkt,seval,tbH3_141,xbH3_1,hr,hs,c1,c2,c3];(try simp only [ite_and]);(repeat' (first|with_reducible assumption|refine And.intro ?_ ?_|intro hp));all_goals (first|(refine hQ _ ?_;clear hQ Q)|(refine hQ _ (fun h=>?_) (fun h=>?_) <;> clear hQ Q <;> (try simp only [vki,reduceCtorEq] at h))|omega|assumption|with_reducible rfl|(refine vq ?_;kernel_rfl)|skip)))
                (simp only [vrt,Try.results141,vkt,seval,tbH3_141,xbH3_1];refine Fin.val rfl ?_;(try simp only [AV.le,AV.leL]))
                all_goals rw [h8]
            · obtain ⟨i',g1,g2⟩:=hN (by rw [hrE];exact j.last (by omega))
              repeat' (first|(apply nx;with_reducible constructor)|refine uq (by decide) ?_|((first|refine vz env fun Q hQ=>?_|refine vj fun Q hQ=>?_);simp only [vkt,seval,tbH3_141,xbH3_1,e9];(try simp only [ite_and]);(repeat' (first|with_reducible assumption|refine And.intro ?_ ?_|intro hp));all_goals (first|(refine hQ _ ?_;clear hQ Q)|(refine hQ _ (fun h=>?_) (fun h=>?_) <;> clear hQ Q <;> (try simp only [vki,reduceCtorEq] at h))|omega|assumption|with_reducible rfl|(refine vq ?_;kernel_rfl)|skip)))
              refine ⟨i',g1,?_⟩
              rw [g2]
              (refine Le.ok some [] ?_;constructor;all_goals (try simp only [vle,vkt,seval,tbH3_141,xbH3_1]))
              all_goals first|rfl|(simp;done)
        · have h1:=out 1 (by unfold ratesE;rw [if_neg (by rw [d1'];simp),if_pos d2]) (by decide)
          have d2':¬ ((r.getD 0 default).num=1∧(r.getD 0 default).den=1):=fun hh=>d2 (by rw [sh_eq];exact hh)
          repeat' (first|(apply nx;with_reducible constructor)|refine uq (by decide) ?_|((first|refine vz env fun Q hQ=>?_|refine vj fun Q hQ=>?_);simp only [vkt,seval,tbH3_141,xbH3_1,hr,d1'];(try simp only [ite_and]);(repeat' (first|with_reducible assumption|refine And.intro ?_ ?_|intro hp));all_goals (first|(refine hQ _ ?_;clear hQ Q)|(refine hQ _ (fun h=>?_) (fun h=>?_) <;> clear hQ Q <;> (try simp only [vki,reduceCtorEq] at h))|omega|assumption|with_reducible rfl|(refine vq ?_;kernel_rfl)|skip)))
          all_goals first|((simp only [vrt,Try.results141,vkt,seval,tbH3_141,xbH3_1];refine Fin.val rfl ?_;(try simp only [AV.le,AV.leL]));all_goals rw [h1])|(exfalso;omega)
      · have d1':¬ (r.length:Int)=(l.coins.length:Int):=by omega
        have h1:=out 2 (by unfold ratesE;rw [if_pos d1']) (by decide)
        repeat' (first|(apply nx;with_reducible constructor)|refine uq (by decide) ?_|((first|refine vz env fun Q hQ=>?_|refine vj fun Q hQ=>?_);simp only [vkt,seval,tbH3_141,xbH3_1,hr,d1'];(try simp only [ite_and]);(repeat' (first|with_reducible assumption|refine And.intro ?_ ?_|intro hp));all_goals (first|(refine hQ _ ?_;clear hQ Q)|(refine hQ _ (fun h=>?_) (fun h=>?_) <;> clear hQ Q <;> (try simp only [vki,reduceCtorEq] at h))|omega|assumption|with_reducible rfl|(refine vq ?_;kernel_rfl)|skip)))
        (simp only [vrt,Try.results141,vkt,seval,tbH3_141,xbH3_1];refine Fin.val rfl ?_;(try simp only [AV.le,AV.leL]))
        all_goals rw [h1]
    · have hf2:=i.last (by omega)
      by_cases h3:l.start.length=l.coins.length
      · have h3':(l.start.length:Int)=l.coins.length:=by omega
        repeat' (first|(apply nx;with_reducible constructor)|refine uq (by decide) ?_|((first|refine vz env fun Q hQ=>?_|refine vj fun Q hQ=>?_);simp only [vkt,seval,tbH3_141,xbH3_1,h3'];(try simp only [ite_and]);(repeat' (first|with_reducible assumption|refine And.intro ?_ ?_|intro hp));all_goals (first|(refine hQ _ ?_;clear hQ Q)|(refine hQ _ (fun h=>?_) (fun h=>?_) <;> clear hQ Q <;> (try simp only [vki,reduceCtorEq] at h))|omega|assumption|with_reducible rfl|(refine vq ?_;kernel_rfl)|skip)))
        refine sym_loop (ι:=FI (errs l.start.length (startE l))) (fun i=>rr3 l i.k) (fun i=>l.start.length - i.k) (FI.zero _) ?_ fun i=>?_
        · (refine Le.ok some [] ?_;constructor;all_goals (try simp only [vle,vkt,seval,tbH3_141,xbH3_1]))
          all_goals simp [FI.zero,h3]
        · have hk:=i.le
          rw [errs_len] at hk
          have fin:ckR l=firstE (errs l.start.length (startE l)):=by unfold ckR;rw [if_neg (by rw [h0];simp),if_neg (by rw [hf2];simp),if_neg (by rw [h3];simp)]
          repeat' (first|(apply nx;with_reducible constructor)|refine uq (by decide) ?_)
          (refine vz env fun Q hQ=>?_;simp only [vkt,seval,tbH3_141,xbH3_1];(try simp only [ite_and]);(repeat' (first|with_reducible assumption|refine And.intro ?_ ?_|intro hp));all_goals (first|(refine hQ _ ?_;clear hQ Q)|omega|assumption|with_reducible rfl|(refine vq ?_;kernel_rfl)|skip))
          repeat' (first|(apply nx;with_reducible constructor)|refine uq (by decide) ?_)
          (refine sym_cd (by simp only [vkt,seval,tbH3_141,xbH3_1];rfl) (fun h=>?_) (fun h=>?_) <;> (try simp only [vki,reduceCtorEq] at h))
          · have hlt:i.k < l.start.length:=by omega
            have e9:=wrap_succ hlt (show l.start.length≤maxLen by omega)
            by_cases c1:inB (l.start.getD i.k 0) 0 999=true
            · repeat' (first|(apply nx;with_reducible constructor)|refine uq (by decide) ?_|((first|refine vz env fun Q hQ=>?_|refine vj fun Q hQ=>?_);simp only [vkt,seval,tbH3_141,xbH3_1,c1];(try simp only [ite_and]);(repeat' (first|with_reducible assumption|refine And.intro ?_ ?_|intro hp));all_goals (first|(refine hQ _ ?_;clear hQ Q)|(refine hQ _ (fun h=>?_) (fun h=>?_) <;> clear hQ Q <;> (try simp only [vki,reduceCtorEq] at h))|omega|assumption|with_reducible rfl|(refine vq ?_;kernel_rfl)|skip)))
              refine ⟨i.next hlt (by unfold startE;rw [c1];rfl),by show l.start.length - (i.k+1) < _;omega,?_⟩
              (refine Le.ok some [] ?_;constructor;all_goals (try simp only [vle,vkt,seval,tbH3_141,xbH3_1]))
              all_goals simp [FI.next,e9]
            · have c1:inB (l.start.getD i.k 0) 0 999=false:=by simpa using c1
              repeat' (first|(apply nx;with_reducible constructor)|refine uq (by decide) ?_|((first|refine vz env fun Q hQ=>?_|refine vj fun Q hQ=>?_);simp only [vkt,seval,tbH3_141,xbH3_1,c1];(try simp only [ite_and]);(repeat' (first|with_reducible assumption|refine And.intro ?_ ?_|intro hp));all_goals (first|(refine hQ _ ?_;clear hQ Q)|(refine hQ _ (fun h=>?_) (fun h=>?_) <;> clear hQ Q <;> (try simp only [vki,reduceCtorEq] at h))|omega|assumption|with_reducible rfl|(refine vq ?_;kernel_rfl)|skip)))
              (simp only [vrt,Try.results141,vkt,seval,tbH3_141,xbH3_1];refine Fin.val rfl ?_;(try simp only [AV.le,AV.leL]))
              have h1:startE l i.k=1:=by unfold startE;rw [c1];rfl
              all_goals rw [fin,i.hit hlt (by rw [h1];decide),h1]
          · repeat' (first|(apply nx;with_reducible constructor)|refine uq (by decide) ?_|((first|refine vz env fun Q hQ=>?_|refine vj fun Q hQ=>?_);simp only [vkt,seval,tbH3_141,xbH3_1];(try simp only [ite_and]);(repeat' (first|with_reducible assumption|refine And.intro ?_ ?_|intro hp));all_goals (first|(refine hQ _ ?_;clear hQ Q)|(refine hQ _ (fun h=>?_) (fun h=>?_) <;> clear hQ Q <;> (try simp only [vki,reduceCtorEq] at h))|omega|assumption|with_reducible rfl|(refine vq ?_;kernel_rfl)|skip)))
            (simp only [vrt,Try.results141,vkt,seval,tbH3_141,xbH3_1];refine Fin.val rfl ?_;(try simp only [AV.le,AV.leL]))
            all_goals rw [fin,i.last (by omega)]
      · have h3':¬ (l.start.length:Int)=l.coins.length:=by omega
        repeat' (first|(apply nx;with_reducible constructor)|refine uq (by decide) ?_|((first|refine vz env fun Q hQ=>?_|refine vj fun Q hQ=>?_);simp only [vkt,seval,tbH3_141,xbH3_1,h3'];(try simp only [ite_and]);(repeat' (first|with_reducible assumption|refine And.intro ?_ ?_|intro hp));all_goals (first|(refine hQ _ ?_;clear hQ Q)|(refine hQ _ (fun h=>?_) (fun h=>?_) <;> clear hQ Q <;> (try simp only [vki,reduceCtorEq] at h))|omega|assumption|with_reducible rfl|(refine vq ?_;kernel_rfl)|skip)))
        (simp only [vrt,Try.results141,vkt,seval,tbH3_141,xbH3_1];refine Fin.val rfl ?_;(try simp only [AV.le,AV.leL]))
        all_goals (unfold ckR;rw [if_neg (by rw [h0];simp),if_neg (by rw [hf2];simp),if_pos h3])
def c141:List AV→Prop × AV
  |[.agg [.sl cs,.sl rs,.sl ss,.sl es]]=>(isL cs rs ss es∧Fit (ldOf cs rs ss es)∧1≤cs.length,aI (ckR (ldOf cs rs ss es)))
  |_=>(False,.junk)
theorem d141 {A:Frm→Prop}:EntryOK A Try.prog 141 (valE true c141):=valE_ok fun vs hv h=>by
  clear hv
  unfold c141 at h ⊢
  split at h
  · refine ⟨trivial,fun _=>trivial,?_⟩
    rw [← aLed_of h.1];exact rrates_fn _ h.2.1 (by simpa [ldOf] using h.2.2)
  · exact h.elim
def tbH3_113:=vk @ty3 (vk @ty22 (vk @ty28 (vk @ty38 (vk @ti3.eq_1 (vk @ti22.eq_1 (vk @ti28.eq_1 @ti38.eq_1))))))
def xbH3_2:=vk @aI.eq_1 (vk @aB.eq_1 (vk @aLed.eq_1 (vk @cLed.eq_1 (vk @rr1.eq_1 (vk @rc2.eq_1 (vk @aInts.eq_1 (vk @gInts (vk @gInt (vk @eInts.eq_1 (vk @eInt.eq_1 (vk @c141.eq_1 (vk @c141.eq_2 (vk @isL_e (@ldOf_e))))))))))))))
set_option maxHeartbeats 4000000 in
theorem rcoins_fn (l:Led) (hl:Fit l):FnV Try.prog 113 [aLed l] (aI (ckC l)):=by
  have env:Env (fun _=>True) Try.prog tyB (tab [(141,valE true c141)]):=mkEnv ⟨d141,trivial⟩
  refine Fn.of (A:=fun _=>True) (n0:=0) (D:=noD) (Fn0 Try.func113 rfl (fun vs w=>by kernel_rfl) (by kernel_rfl)) (by simp) (by simp [AV.ids,AV.idsL,aLed,cLed]) (fun i o h=>by cases h) (fun _ _ _ _=>trivial) noD_ok ?_
  have q1:=hl.c
  have q5:=tmax
  by_cases a1:l.coins.length=0
  · have a1':(l.coins.length:Int)=0:=by omega
    repeat' (first|(apply nx;with_reducible constructor)|refine uq (by decide) ?_|((first|refine vz env fun Q hQ=>?_|refine vj fun Q hQ=>?_);simp only [vkt,seval,tbH3_113,xbH3_2,a1'];(try simp only [ite_and]);(repeat' (first|with_reducible assumption|refine And.intro ?_ ?_|intro hp));all_goals (first|(refine hQ _ ?_;clear hQ Q)|(refine hQ _ (fun h=>?_) (fun h=>?_) <;> clear hQ Q <;> (try simp only [vki,reduceCtorEq] at h))|omega|assumption|with_reducible rfl|(refine vq ?_;kernel_rfl)|skip)))
    (simp only [vrt,Try.results113,vkt,seval,tbH3_113,xbH3_2];refine Fin.val rfl ?_;(try simp only [AV.le,AV.leL]))
    all_goals (unfold ckC countedE;simp [a1])
  by_cases a2:4 < l.coins.length
  · have a1':¬ (l.coins.length:Int)=0:=by omega
    have a2':(4:Int) < (l.coins.length:Int):=by omega
    have h4:countedE l.coins.length 1 4=6:=by unfold countedE;rw [if_neg (by omega),if_pos a2']
    repeat' (first|(apply nx;with_reducible constructor)|refine uq (by decide) ?_|((first|refine vz env fun Q hQ=>?_|refine vj fun Q hQ=>?_);simp only [vkt,seval,tbH3_113,xbH3_2,a1',a2'];(try simp only [ite_and]);(repeat' (first|with_reducible assumption|refine And.intro ?_ ?_|intro hp));all_goals (first|(refine hQ _ ?_;clear hQ Q)|(refine hQ _ (fun h=>?_) (fun h=>?_) <;> clear hQ Q <;> (try simp only [vki,reduceCtorEq] at h))|omega|assumption|with_reducible rfl|(refine vq ?_;kernel_rfl)|skip)))
    (simp only [vrt,Try.results113,vkt,seval,tbH3_113,xbH3_2];refine Fin.val rfl ?_;(try simp only [AV.le,AV.leL]))
    all_goals (unfold ckC;rw [if_pos (by rw [h4];decide),h4])
  have a1':¬ (l.coins.length:Int)=0:=by omega
  have a2':¬ (4:Int) < (l.coins.length:Int):=by omega
  have a3:1≤l.coins.length:=by omega
  have h0:countedE l.coins.length 1 4=0:=by unfold countedE;rw [if_neg (by omega),if_neg a2']
  repeat' (first|(apply nx;with_reducible constructor)|refine uq (by decide) ?_|((first|refine vz env fun Q hQ=>?_|refine vj fun Q hQ=>?_);simp only [vkt,seval,tbH3_113,xbH3_2,a1',a2'];(try simp only [ite_and]);(repeat' (first|with_reducible assumption|refine And.intro ?_ ?_|intro hp));all_goals (first|(refine hQ _ ?_;clear hQ Q)|(refine hQ _ (fun h=>?_) (fun h=>?_) <;> clear hQ Q <;> (try simp only [vki,reduceCtorEq] at h))|omega|assumption|with_reducible rfl|(refine vq ?_;kernel_rfl)|skip)))
  refine sym_loop (ι:=FI (errs l.coins.length (ckCoin l))) (fun i=>rr1 l i.k) (fun i=>l.coins.length - i.k) (FI.zero _) ?_ fun i=>?_
  · (refine Le.ok some [] ?_;constructor;all_goals (try simp only [vle,vkt,seval,tbH3_113,xbH3_2]))
    all_goals simp [FI.zero]
  · have hk:=i.le
    rw [errs_len] at hk
    repeat' (first|(apply nx;with_reducible constructor)|refine uq (by decide) ?_)
    (refine vz env fun Q hQ=>?_;simp only [vkt,seval,tbH3_113,xbH3_2];(try simp only [ite_and]);(repeat' (first|with_reducible assumption|refine And.intro ?_ ?_|intro hp));all_goals (first|(refine hQ _ ?_;clear hQ Q)|omega|assumption|with_reducible rfl|(refine vq ?_;kernel_rfl)|skip))
    repeat' (first|(apply nx;with_reducible constructor)|refine uq (by decide) ?_)
    (refine sym_cd (by simp only [vkt,seval,tbH3_113,xbH3_2];rfl) (fun h=>?_) (fun h=>?_) <;> (try simp only [vki,reduceCtorEq] at h))
    · have hlt:i.k < l.coins.length:=by omega
      have hpl:=hl.cs _ (gMem (d:=[]) hlt)
      have e9:=wrap_succ hlt (show l.coins.length≤maxLen by omega)
      have out:∀ e,coinE (l.coins.getD i.k [])=e→e ≠ 0→ckC l=e:=fun e he h1=>by
        have:=i.hit hlt (by show coinE (l.coins.getD i.k []) ≠ 0;rw [he];exact h1)
        unfold ckC
        rw [if_neg (by rw [h0];simp),if_pos (by rw [this];show coinE _ ≠ 0;rw [he];exact h1),this]
        exact he
      have hN:coinE (l.coins.getD i.k [])=0→∃ i':FI (errs l.coins.length (ckCoin l)),l.coins.length - i'.k < l.coins.length - i.k∧i'.k=i.k+1:=fun h1=>⟨i.next hlt h1,by show l.coins.length - (i.k+1) < _;omega,rfl⟩
      obtain ⟨r,hr⟩:∃ r,l.coins.getD i.k []=r:=⟨_,rfl⟩
      rw [hr] at hpl out hN
      by_cases d1:r.length=0
      · have d1':(r.length:Int)=0:=by omega
        have h1:=out 7 (by unfold coinE countedE;simp [d1]) (by decide)
        repeat' (first|(apply nx;with_reducible constructor)|refine uq (by decide) ?_|((first|refine vz env fun Q hQ=>?_|refine vj fun Q hQ=>?_);simp only [vkt,seval,tbH3_113,xbH3_2,hr,d1'];(try simp only [ite_and]);(repeat' (first|with_reducible assumption|refine And.intro ?_ ?_|intro hp));all_goals (first|(refine hQ _ ?_;clear hQ Q)|(refine hQ _ (fun h=>?_) (fun h=>?_) <;> clear hQ Q <;> (try simp only [vki,reduceCtorEq] at h))|omega|assumption|with_reducible rfl|(refine vq ?_;kernel_rfl)|skip)))
        (simp only [vrt,Try.results113,vkt,seval,tbH3_113,xbH3_2];refine Fin.val rfl ?_;(try simp only [AV.le,AV.leL]))
        all_goals rw [h1]
      have d1':¬ (r.length:Int)=0:=by omega
      by_cases d2:4 < r.length
      · have d2':(4:Int) < (r.length:Int):=by omega
        have h4:countedE r.length 1 4=6:=by unfold countedE;rw [if_neg (by omega),if_pos d2']
        have h1:=out 6 (by unfold coinE;rw [if_pos (by rw [h4];decide),h4]) (by decide)
        repeat' (first|(apply nx;with_reducible constructor)|refine uq (by decide) ?_|((first|refine vz env fun Q hQ=>?_|refine vj fun Q hQ=>?_);simp only [vkt,seval,tbH3_113,xbH3_2,hr,d1',d2'];(try simp only [ite_and]);(repeat' (first|with_reducible assumption|refine And.intro ?_ ?_|intro hp));all_goals (first|(refine hQ _ ?_;clear hQ Q)|(refine hQ _ (fun h=>?_) (fun h=>?_) <;> clear hQ Q <;> (try simp only [vki,reduceCtorEq] at h))|omega|assumption|with_reducible rfl|(refine vq ?_;kernel_rfl)|skip)))
        (simp only [vrt,Try.results113,vkt,seval,tbH3_113,xbH3_2];refine Fin.val rfl ?_;(try simp only [AV.le,AV.leL]))
        all_goals rw [h1]
      have d2':¬ (4:Int) < (r.length:Int):=by omega
      have h4:countedE r.length 1 4=0:=by unfold countedE;rw [if_neg (by omega),if_neg d2']
      have r0:0 < r.length:=by omega
      by_cases d3:r.getD 0 0=1
      · have hrE:coinE r=firstE (errs (r.length - 1) (pieceE r)):=by unfold coinE;rw [if_neg (by rw [h4];simp),if_neg (by rw [d3];simp)]
        repeat' (first|(apply nx;with_reducible constructor)|refine uq (by decide) ?_|((first|refine vz env fun Q hQ=>?_|refine vj fun Q hQ=>?_);simp only [vkt,seval,tbH3_113,xbH3_2,hr,d1',d2',d3];(try simp only [ite_and]);(repeat' (first|with_reducible assumption|refine And.intro ?_ ?_|intro hp));all_goals (first|(refine hQ _ ?_;clear hQ Q)|(refine hQ _ (fun h=>?_) (fun h=>?_) <;> clear hQ Q <;> (try simp only [vki,reduceCtorEq] at h))|omega|assumption|with_reducible rfl|(refine vq ?_;kernel_rfl)|skip)))
        refine sym_loop (ι:=FI (errs (r.length - 1) (pieceE r))) (fun j=>rc2 l r i.k j.k) (fun j=>r.length - j.k) (FI.zero _) ?_ fun j=>?_
        · (refine Le.ok some [] ?_;constructor;all_goals (try simp only [vle,vkt,seval,tbH3_113,xbH3_2]))
          all_goals first|rfl|(simp [FI.zero];done)
        · have hj:=j.le
          rw [errs_len] at hj
          repeat' (first|(apply nx;with_reducible constructor)|refine uq (by decide) ?_)
          (refine vz env fun Q hQ=>?_;simp only [vkt,seval,tbH3_113,xbH3_2];(try simp only [ite_and]);(repeat' (first|with_reducible assumption|refine And.intro ?_ ?_|intro hp));all_goals (first|(refine hQ _ ?_;clear hQ Q)|omega|assumption|with_reducible rfl|(refine vq ?_;kernel_rfl)|skip))
          repeat' (first|(apply nx;with_reducible constructor)|refine uq (by decide) ?_)
          (refine sym_cd (by simp only [vkt,seval,tbH3_113,xbH3_2];rfl) (fun h=>?_) (fun h=>?_) <;> (try simp only [vki,reduceCtorEq] at h))
          · have hjl:j.k < r.length - 1:=by omega
            have hjl2:1+j.k < r.length:=by omega
            have hjl3:j.k < r.length:=by omega
            have e8:IntKind.wrap .i64 (((1+j.k:Nat):Int)+1)=((1+(j.k+1):Nat):Int):=by rw [wrap64 (by omega) (by omega)];omega
            have e7:IntKind.wrap .i64 (((1+j.k:Nat):Int) - 1)=(j.k:Int):=by rw [wrap64 (by omega) (by omega)];omega
            have hit:∀ e,pieceE r j.k=e→e ≠ 0→ckC l=e:=fun e he h1=>out e (by rw [hrE,j.hit hjl (by rw [he];exact h1),he]) h1
            have nxt:pieceE r j.k=0→∃ j':FI (errs (r.length - 1) (pieceE r)),r.length - j'.k < r.length - j.k∧j'.k=j.k+1:=fun h1=>⟨j.next hjl h1,by show r.length - (j.k+1) < _;omega,rfl⟩
            by_cases c1:50 < r.getD (1+j.k) 0
            · have h1:=hit 1 (by unfold pieceE;rw [if_pos c1]) (by decide)
              repeat' (first|(apply nx;with_reducible constructor)|refine uq (by decide) ?_|((first|refine vz env fun Q hQ=>?_|refine vj fun Q hQ=>?_);simp only [vkt,seval,tbH3_113,xbH3_2,hr,c1];(try simp only [ite_and]);(repeat' (first|with_reducible assumption|refine And.intro ?_ ?_|intro hp));all_goals (first|(refine hQ _ ?_;clear hQ Q)|(refine hQ _ (fun h=>?_) (fun h=>?_) <;> clear hQ Q <;> (try simp only [vki,reduceCtorEq] at h))|omega|assumption|with_reducible rfl|(refine vq ?_;kernel_rfl)|skip)))
              (simp only [vrt,Try.results113,vkt,seval,tbH3_113,xbH3_2];refine Fin.val rfl ?_;(try simp only [AV.le,AV.leL]))
              all_goals rw [h1]
            by_cases c2:r.getD (1+j.k) 0≤r.getD j.k 0
            · have h1:=hit 5 (by unfold pieceE;rw [if_neg c1,if_pos c2]) (by decide)
              repeat' (first|(apply nx;with_reducible constructor)|refine uq (by decide) ?_|((first|refine vz env fun Q hQ=>?_|refine vj fun Q hQ=>?_);simp only [vkt,seval,tbH3_113,xbH3_2,hr,c1,c2,e7];(try simp only [ite_and]);(repeat' (first|with_reducible assumption|refine And.intro ?_ ?_|intro hp));all_goals (first|(refine hQ _ ?_;clear hQ Q)|(refine hQ _ (fun h=>?_) (fun h=>?_) <;> clear hQ Q <;> (try simp only [vki,reduceCtorEq] at h))|omega|assumption|with_reducible rfl|(refine vq ?_;kernel_rfl)|skip)))
              (simp only [vrt,Try.results113,vkt,seval,tbH3_113,xbH3_2];refine Fin.val rfl ?_;(try simp only [AV.le,AV.leL]))
              all_goals rw [h1]
            · obtain ⟨j',g1,g2⟩:=nxt (by unfold pieceE;rw [if_neg c1,if_neg c2])
              repeat' (first|(apply nx;with_reducible constructor)|refine uq (by decide) ?_|((first|refine vz env fun Q hQ=>?_|refine vj fun Q hQ=>?_);simp only [vkt,seval,tbH3_113,xbH3_2,hr,c1,c2,e7,e8];(try simp only [ite_and]);(repeat' (first|with_reducible assumption|refine And.intro ?_ ?_|intro hp));all_goals (first|(refine hQ _ ?_;clear hQ Q)|(refine hQ _ (fun h=>?_) (fun h=>?_) <;> clear hQ Q <;> (try simp only [vki,reduceCtorEq] at h))|omega|assumption|with_reducible rfl|(refine vq ?_;kernel_rfl)|skip)))
              refine ⟨j',g1,?_⟩
              rw [g2]
              (refine Le.ok some [] ?_;constructor;all_goals (try simp only [vle,vkt,seval,tbH3_113,xbH3_2]))
              all_goals first|rfl|(simp;done)
          · obtain ⟨i',g1,g2⟩:=hN (by rw [hrE];exact j.last (by omega))
            repeat' (first|(apply nx;with_reducible constructor)|refine uq (by decide) ?_|((first|refine vz env fun Q hQ=>?_|refine vj fun Q hQ=>?_);simp only [vkt,seval,tbH3_113,xbH3_2,e9];(try simp only [ite_and]);(repeat' (first|with_reducible assumption|refine And.intro ?_ ?_|intro hp));all_goals (first|(refine hQ _ ?_;clear hQ Q)|(refine hQ _ (fun h=>?_) (fun h=>?_) <;> clear hQ Q <;> (try simp only [vki,reduceCtorEq] at h))|omega|assumption|with_reducible rfl|(refine vq ?_;kernel_rfl)|skip)))
            refine ⟨i',g1,?_⟩
            rw [g2]
            (refine Le.ok some [] ?_;constructor;all_goals (try simp only [vle,vkt,seval,tbH3_113,xbH3_2]))
            all_goals first|rfl|(simp;done)
      · have h1:=out 1 (by unfold coinE;rw [if_neg (by rw [h4];simp),if_pos d3]) (by decide)
        repeat' (first|(apply nx;with_reducible constructor)|refine uq (by decide) ?_|((first|refine vz env fun Q hQ=>?_|refine vj fun Q hQ=>?_);simp only [vkt,seval,tbH3_113,xbH3_2,hr,d1',d2',d3];(try simp only [ite_and]);(repeat' (first|with_reducible assumption|refine And.intro ?_ ?_|intro hp));all_goals (first|(refine hQ _ ?_;clear hQ Q)|(refine hQ _ (fun h=>?_) (fun h=>?_) <;> clear hQ Q <;> (try simp only [vki,reduceCtorEq] at h))|omega|assumption|with_reducible rfl|(refine vq ?_;kernel_rfl)|skip)))
        (simp only [vrt,Try.results113,vkt,seval,tbH3_113,xbH3_2];refine Fin.val rfl ?_;(try simp only [AV.le,AV.leL]))
        all_goals rw [h1]
    · have hf:=i.last (by omega)
      repeat' (first|(apply nx;with_reducible constructor)|refine uq (by decide) ?_|((first|refine vz env fun Q hQ=>?_|refine vj fun Q hQ=>?_);simp only [vkt,seval,tbH3_113,xbH3_2];(try simp only [ite_and]);(repeat' (first|with_reducible assumption|refine And.intro ?_ ?_|intro hp));all_goals (first|(refine hQ _ ?_;clear hQ Q)|(refine hQ _ (fun h=>?_) (fun h=>?_) <;> clear hQ Q <;> (try simp only [vki,reduceCtorEq] at h))|omega|assumption|with_reducible rfl|(refine vq ?_;kernel_rfl)|skip)))
      (simp only [vrt,Try.results113,vkt,seval,tbH3_113,xbH3_2];refine Fin.val rfl ?_;(try simp only [AV.le,AV.leL]))
      all_goals (unfold ckC;rw [if_neg (by rw [h0];simp),if_neg (by rw [hf];simp)])
def c113:List AV→Prop × AV
  |[.agg [.sl cs,.sl rs,.sl ss,.sl es]]=>(isL cs rs ss es∧Fit (ldOf cs rs ss es),aI (ckC (ldOf cs rs ss es)))
  |_=>(False,.junk)
end Go.Sym.B
