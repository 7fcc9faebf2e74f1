/- Walks and what they compute, joined: part 1. -/
import Derived.Test.YtoapndlmbpphfaaB2
set_option linter.all false
namespace Go.Sym.B
open Go Go.Sym Go.Proofs Go.Sym.C
theorem _root_.Go.Sym.vk {a b:Prop} (x:a) (y:b):a∧b:=⟨x,y⟩
def _root_.Go.Sym.uq:=@blockK_miss
def _root_.Go.Sym.ux:=@blockK_hit
def _root_.Go.Sym.uz:=@blockK_n
def _root_.Go.Sym.uj:=@blockK_r
def _root_.Go.Sym.uk:=@thenK_x
def _root_.Go.Sym.uw:=@thenK_r
def _root_.Go.Sym.uv:=@thenK_n
def _root_.Go.Sym.vq:=@drawB_of
def _root_.Go.Sym.vz:=@sym_reg
def _root_.Go.Sym.vj:=@sym_cz
def aD:AV→Int
  |.v (.int _ n)=>n
  |_=>0
theorem aD_e (n:Int):aD (aI n)=n:=rfl
theorem mAD (p:List Int):(p.map aI).map aD=p:=by simp [Function.comp_def,aD_e]
def aPu (p:List Int):AV:=.agg (p.map aI)
structure PuOk (p:List Int):Prop where
  len:p.length=4
  bd:∀ n ∈ p,0≤n∧n≤4
structure PzOk (ps:List Int):Prop where
  len:ps.length≤4
  bd:∀ n ∈ ps,1≤n∧n≤50
theorem pu_one (p:List Int):(p.map aI).all oneB=true:=by simp [aI,oneB]
theorem pu_ids (p:List Int):AV.idsL (p.map aI)=[]:=idsL_nil fun c hc=>by obtain ⟨n,_,rfl⟩:=List.mem_map.1 hc;rfl
theorem pu_le (h:Nat→Option AObj) (σ:Nat→Option Nat):∀ p:List Int,AV.leL h σ (p.map aI) (p.map aI)
  |[]=>by simp [AV.leL]
  |n :: p=>by simp only [List.map_cons,AV.leL];exact ⟨by simp [aI,AV.le],pu_le h σ p⟩
theorem pu_view (h:Nat→Option AObj):∀ p:List Int,AV.viewL h (p.map aI)=p.map aI
  |[]=>rfl
  |n :: p=>by simp only [List.map_cons,AV.viewL,pu_view h p];rfl
theorem pu_plain:∀ p:List Int,AV.plainL (p.map aI)=True
  |[]=>rfl
  |n :: p=>by simp only [List.map_cons,AV.plainL,pu_plain p];simp [aI,AV.plain]
theorem pu_flat:∀ p:List Int,AV.flatL (p.map aI)=True
  |[]=>rfl
  |n :: p=>by simp only [List.map_cons,AV.flatL,pu_flat p];simp [aI,AV.flat]
theorem pu_rows:∀ p:List Int,AV.rowsL (p.map aI)=[]
  |[]=>rfl
  |n :: p=>by simp only [List.map_cons,AV.rowsL,pu_rows p];rfl
theorem pu_ren (τ:Nat→Nat):∀ p:List Int,AV.renL τ (p.map aI)=p.map aI
  |[]=>rfl
  |n :: p=>by simp only [List.map_cons,AV.renL,pu_ren τ p];rfl
def puL:=And.intro pu_one (And.intro pu_ids (And.intro pu_le (And.intro pu_view (And.intro pu_plain (And.intro pu_flat (And.intro pu_rows pu_ren))))))
theorem pu_get {p:List Int} {i:Nat} (h:i < p.length):(((p.map aI).drop i).take 1).headD .junk=aI (p.getD i 0):=by
  rw [List.drop_eq_getElem_cons (by simpa using h)]
  simp [List.getD_eq_getElem?_getD,h]
theorem pu_set {p:List Int} {i:Nat} {n:Int} (h:i < p.length):(p.map aI).take i++[aI n]++(p.map aI).drop (i+1)=(p.set i n).map aI:=by
  rw [List.map_set,List.set_eq_take_append_cons_drop,if_pos (by simpa using h)];simp
def dotL:List Int→List Int→Int
  |a :: xs,b :: ys=>a * b+dotL xs ys
  |_,_=>0
theorem dotL_nil (l:List Int):dotL l []=0:=by cases l <;> rfl
theorem dot_snoc:∀ {i:Nat} {ps p:List Int},i < ps.length→i < p.length→dotL (ps.take (i+1)) (p.take (i+1))=dotL (ps.take i) (p.take i)+ps.getD i 0 * p.getD i 0
  |0,a :: ps,b :: p,_,_=>by simp [dotL]
  |i+1,a :: ps,b :: p,h,h'=>by
    have:=dot_snoc (i:=i) (ps:=ps) (p:=p) (by simpa using h) (by simpa using h')
    simp only [List.take_succ_cons,dotL,List.getD_cons_succ] at this ⊢
    omega
theorem dot_take:∀ {ps p:List Int} {n:Nat},ps.length≤n→dotL ps (p.take n)=dotL ps p
  |[],p,n,_=>by simp [dotL]
  |a :: ps,[],n,_=>by simp
  |a :: ps,b :: p,0,h=>by simp at h
  |a :: ps,b :: p,n+1,h=>by simp only [List.take_succ_cons,dotL];rw [dot_take (by simpa using h)]
theorem mulPu {a b A B:Int} (h:0≤a∧a≤A) (h':0≤b∧b≤B):0≤a * b∧a * b≤A * B :=
  ⟨Int.mul_nonneg h.1 h'.1,Int.mul_le_mul h.2 h'.2 h'.1 (Int.le_trans h.1 h.2)⟩
theorem dot_bd:∀ {ps p:List Int},(∀ n ∈ ps,1≤n∧n≤50)→(∀ n ∈ p,0≤n∧n≤4)→0≤dotL ps p∧dotL ps p≤200 * ps.length
  |[],p,_,_=>by simp [dotL]
  |a :: ps,[],_,_=>by simp [dotL];omega
  |a :: ps,b :: p,h,h'=>by
    have ih:=dot_bd (ps:=ps) (p:=p) (fun n hn=>h n (List.mem_cons_of_mem _ hn)) fun n hn=>h' n (List.mem_cons_of_mem _ hn)
    have h1:=h a List.mem_cons_self
    have h2:=h' b List.mem_cons_self
    have:=mulPu (A:=50) (B:=4) ⟨by omega,h1.2⟩ h2
    simp only [dotL,List.length_cons]
    omega
theorem sum_snoc {p:List Int} {i:Nat} (h:i < p.length):(p.take (i+1)).sum=(p.take i).sum+p.getD i 0:=by
  rw [List.take_succ_eq_append_getElem h,List.sum_append]
  simp [List.getD_eq_getElem?_getD,h]
theorem sum_bd:∀ {p:List Int},(∀ n ∈ p,0≤n∧n≤4)→0≤p.sum∧p.sum≤4 * p.length
  |[],_=>by simp
  |b :: p,h=>by
    have ih:=sum_bd (p:=p) fun n hn=>h n (List.mem_cons_of_mem _ hn)
    have:=h b List.mem_cons_self
    simp only [List.sum_cons,List.length_cons]
    omega
theorem PuOk.at {p:List Int} (h:PuOk p) {i:Nat} (hi:i < 4):0≤p.getD i 0∧p.getD i 0≤4:=h.bd _ (by
  have:i < p.length:=by rw [h.len];exact hi
  simp [List.getD_eq_getElem?_getD,this])
def woPT (ps p:List Int) (i:Nat):St:={ t:=asg [(2,.ptr 0 0),(5,aI (dotL (ps.take i) (p.take i))),(8,aInts ps),(9,aI ps.length),(10,aI i)],h:=hasg [(0,.cells (p.map aI))],n:=1 }
def tbM1_131:=vk @ty3 (vk @ty22 (vk @ty142 (vk @ti3.eq_1 (vk @ti22.eq_1 @ti142.eq_1))))
def xbM1_1:=vk @aI.eq_1 (vk @aB.eq_1 (vk @aInts.eq_1 (vk @aPu.eq_1 (vk @mInt (vk @eInt.eq_1 (@gInt))))))
theorem worthP_fn (ps p:List Int) (hp:PuOk p) (hs:PzOk ps):FnV Try.prog 131 [aPu p,aInts ps] (aI (dotL ps p)):=by
  have env:Env (fun _=>True) Try.prog tyB (tab []):=mkEnv trivial
  refine Fn.of (A:=fun _=>True) (n0:=0) (D:=noD) (Fn0 Try.func131 rfl (fun vs w=>by kernel_rfl) (by kernel_rfl)) (by simp) (by simp [AV.ids,aInts,aPu,pu_ids]) (fun i o h=>by cases h) (fun _ _ _ _=>trivial) noD_ok ?_
  have hl:=hs.len
  have hpl:=hp.len
  have h1:=pu_one p
  repeat' (first|(apply nx;with_reducible constructor)|refine uq (by decide) ?_|((first|refine vz env fun Q hQ=>?_|refine vj fun Q hQ=>?_);simp only [vkt,seval,tbM1_131,xbM1_1,woPT,puL,List.length_map,Nat.mul_one,hpl,h1];(try simp only [ite_and]);(repeat' (first|with_reducible assumption|refine And.intro ?_ ?_|intro hp));all_goals (first|(refine hQ _ ?_;clear hQ Q)|(refine hQ _ (fun h=>?_) (fun h=>?_) <;> clear hQ Q <;> (try simp only [vki,reduceCtorEq] at h))|omega|assumption|with_reducible rfl|(refine vq ?_;kernel_rfl)|skip)))
  refine sym_loop (fun i:{ i:Nat // i≤ps.length }=>woPT ps p i.1) (fun i=>ps.length - i.1) ⟨0,Nat.zero_le _⟩ ?_ fun ⟨i,hi⟩=>?_
  · (refine Le.ok some [] ?_;constructor;all_goals (try simp only [vle,vkt,seval,tbM1_131,xbM1_1,woPT,puL,List.length_map,Nat.mul_one]))
    all_goals first|rfl
  by_cases hlt:i < ps.length
  · have d1:decide ((i:Int) < (ps.length:Int))=true:=decide_eq_true (by omega)
    have hi4:i < p.length:=by omega
    have b1:=hs.bd _ (gMem (d:=0) hlt)
    have b2:=hp.at (show i < 4 by omega)
    have b3:=mulPu (A:=50) (B:=4) ⟨by omega,b1.2⟩ b2
    have b4:=dot_bd (ps:=ps.take i) (p:=p.take i) (fun n hn=>hs.bd n (List.mem_of_mem_take hn)) fun n hn=>hp.bd n (List.mem_of_mem_take hn)
    have b5:(ps.take i).length=i:=by rw [List.length_take];omega
    rw [b5] at b4
    have e1:=wrap64 (n:=(i:Int)+1) (by omega) (by omega)
    have e2:=wrap64 (n:=ps.getD i 0 * p.getD i 0) (by omega) (by omega)
    have e3:=wrap64 (n:=dotL (ps.take i) (p.take i)+ps.getD i 0 * p.getD i 0) (by omega) (by omega)
    have e4:=dot_snoc hlt hi4
    have e5:=pu_get hi4
    repeat' (first|(apply nx;with_reducible constructor)|refine uq (by decide) ?_|((first|refine vz env fun Q hQ=>?_|refine vj fun Q hQ=>?_);simp only [vkt,seval,tbM1_131,xbM1_1,woPT,puL,List.length_map,Nat.mul_one,d1,e1,e2,e3,e5,hpl];(try simp only [ite_and]);(repeat' (first|with_reducible assumption|refine And.intro ?_ ?_|intro hp));all_goals (first|(refine hQ _ ?_;clear hQ Q)|(refine hQ _ (fun h=>?_) (fun h=>?_) <;> clear hQ Q <;> (try simp only [vki,reduceCtorEq] at h))|omega|assumption|with_reducible rfl|(refine vq ?_;kernel_rfl)|skip)))
    refine ⟨⟨i+1,hlt⟩,by show ps.length - (i+1) < ps.length - i;omega,?_⟩
    (refine Le.ok some [] ?_;constructor;all_goals (try simp only [vle,vkt,seval,tbM1_131,xbM1_1,woPT,puL,List.length_map,Nat.mul_one]))
    all_goals first|rfl|(rw [e4];rfl)|exact ⟨by rw [e4],rfl⟩
  · have d1:decide ((i:Int) < (ps.length:Int))=false:=decide_eq_false (by omega)
    have e6:dotL (ps.take i) (p.take i)=dotL ps p:=by rw [List.take_of_length_le (by omega),dot_take (by omega)]
    repeat' (first|(apply nx;with_reducible constructor)|refine uq (by decide) ?_|((first|refine vz env fun Q hQ=>?_|refine vj fun Q hQ=>?_);simp only [vkt,seval,tbM1_131,xbM1_1,woPT,puL,List.length_map,Nat.mul_one,d1,e6];(try simp only [ite_and]);(repeat' (first|with_reducible assumption|refine And.intro ?_ ?_|intro hp));all_goals (first|(refine hQ _ ?_;clear hQ Q)|(refine hQ _ (fun h=>?_) (fun h=>?_) <;> clear hQ Q <;> (try simp only [vki,reduceCtorEq] at h))|omega|assumption|with_reducible rfl|(refine vq ?_;kernel_rfl)|skip)))
    (simp only [vrt,Try.results131,vkt,seval,tbM1_131,xbM1_1,woPT,puL,List.length_map,Nat.mul_one];refine Fin.val rfl ?_;(try simp only [AV.le,AV.leL]))
    all_goals first|rfl
def c131:List AV→Prop × AV
  |[.agg cs,.sl xs]=>(cs=(cs.map aD).map aI∧xs=(xs.map dInt).map eInt∧PuOk (cs.map aD)∧PzOk (xs.map dInt),aI (dotL (xs.map dInt) (cs.map aD)))
  |_=>(False,.junk)
theorem d131 {A:Frm→Prop}:EntryOK A Try.prog 131 (valE true c131):=valE_ok fun vs hv h=>by
  clear hv
  unfold c131 at h ⊢
  split at h
  · refine ⟨by simp [AV.plain,aI],fun _=>by simp [AV.flat,aI],?_⟩
    have:=worthP_fn _ _ h.2.2.1 h.2.2.2
    simp only [aInts,aPu,← h.1,← h.2.1] at this
    exact this
  · exact h.elim
def maT (p:List Int) (i:Nat):St:={ t:=asg [(3,aI (p.take i).sum),(6,.agg (p.map aI)),(7,aI i)],h:=hasg [(0,.cells (p.map aI))],n:=1 }
def tbM1_129:=vk @ty3 (vk @ty142 (vk @ti3.eq_1 @ti142.eq_1))
def xbM1_2:=vk @aI.eq_1 (vk @aB.eq_1 (@aPu.eq_1))
theorem manyP_fn (p:List Int) (hp:PuOk p):FnV Try.prog 129 [aPu p] (aI p.sum):=by
  have env:Env (fun _=>True) Try.prog tyB (tab []):=mkEnv trivial
  refine Fn.of (A:=fun _=>True) (n0:=0) (D:=noD) (Fn0 Try.func129 rfl (fun vs w=>by kernel_rfl) (by kernel_rfl)) (by simp) (by simp [AV.ids,aPu,pu_ids]) (fun i o h=>by cases h) (fun _ _ _ _=>trivial) noD_ok ?_
  have hpl:=hp.len
  have htk:(p.map aI).take 4=p.map aI:=List.take_of_length_le (by simp [hpl])
  repeat' (first|(apply nx;with_reducible constructor)|refine uq (by decide) ?_|((first|refine vz env fun Q hQ=>?_|refine vj fun Q hQ=>?_);simp only [vkt,seval,tbM1_129,xbM1_2,maT,puL,List.length_map,Nat.mul_one,hpl,htk];(try simp only [ite_and]);(repeat' (first|with_reducible assumption|refine And.intro ?_ ?_|intro hp));all_goals (first|(refine hQ _ ?_;clear hQ Q)|(refine hQ _ (fun h=>?_) (fun h=>?_) <;> clear hQ Q <;> (try simp only [vki,reduceCtorEq] at h))|omega|assumption|with_reducible rfl|(refine vq ?_;kernel_rfl)|skip)))
  refine sym_loop (fun i:{ i:Nat // i≤4 }=>maT p i.1) (fun i=>4 - i.1) ⟨0,Nat.zero_le _⟩ ?_ fun ⟨i,hi⟩=>?_
  · (refine Le.ok some [] ?_;constructor;all_goals (try simp only [vle,vkt,seval,tbM1_129,xbM1_2,maT,puL,List.length_map,Nat.mul_one]))
    all_goals first|rfl
  by_cases hlt:i < 4
  · have d1:decide ((i:Int) < 4)=true:=decide_eq_true (by omega)
    have hi4:i < p.length:=by omega
    have b2:=hp.at hlt
    have b4:=sum_bd (p:=p.take i) fun n hn=>hp.bd n (List.mem_of_mem_take hn)
    have b5:(p.take i).length=i:=by rw [List.length_take];omega
    rw [b5] at b4
    have e1:=wrap64 (n:=(i:Int)+1) (by omega) (by omega)
    have e3:=wrap64 (n:=(p.take i).sum+p.getD i 0) (by omega) (by omega)
    have e4:=sum_snoc hi4
    have e5:=pu_get hi4
    repeat' (first|(apply nx;with_reducible constructor)|refine uq (by decide) ?_|((first|refine vz env fun Q hQ=>?_|refine vj fun Q hQ=>?_);simp only [vkt,seval,tbM1_129,xbM1_2,maT,puL,List.length_map,Nat.mul_one,d1,e1,e3,e5,hpl];(try simp only [ite_and]);(repeat' (first|with_reducible assumption|refine And.intro ?_ ?_|intro hp));all_goals (first|(refine hQ _ ?_;clear hQ Q)|(refine hQ _ (fun h=>?_) (fun h=>?_) <;> clear hQ Q <;> (try simp only [vki,reduceCtorEq] at h))|omega|assumption|with_reducible rfl|(refine vq ?_;kernel_rfl)|skip)))
    refine ⟨⟨i+1,hlt⟩,by show 4 - (i+1) < 4 - i;omega,?_⟩
    (refine Le.ok some [] ?_;constructor;all_goals (try simp only [vle,vkt,seval,tbM1_129,xbM1_2,maT,puL,List.length_map,Nat.mul_one]))
    all_goals first|rfl|(rw [e4];rfl)|exact ⟨by rw [e4],rfl⟩
  · have d1:decide ((i:Int) < 4)=false:=decide_eq_false (by omega)
    have e6:p.take i=p:=List.take_of_length_le (by omega)
    repeat' (first|(apply nx;with_reducible constructor)|refine uq (by decide) ?_|((first|refine vz env fun Q hQ=>?_|refine vj fun Q hQ=>?_);simp only [vkt,seval,tbM1_129,xbM1_2,maT,puL,List.length_map,Nat.mul_one,d1,e6];(try simp only [ite_and]);(repeat' (first|with_reducible assumption|refine And.intro ?_ ?_|intro hp));all_goals (first|(refine hQ _ ?_;clear hQ Q)|(refine hQ _ (fun h=>?_) (fun h=>?_) <;> clear hQ Q <;> (try simp only [vki,reduceCtorEq] at h))|omega|assumption|with_reducible rfl|(refine vq ?_;kernel_rfl)|skip)))
    (simp only [vrt,Try.results129,vkt,seval,tbM1_129,xbM1_2,maT,puL,List.length_map,Nat.mul_one];refine Fin.val rfl ?_;(try simp only [AV.le,AV.leL]))
    all_goals first|rfl
def c129:List AV→Prop × AV
  |[.agg cs]=>(cs=(cs.map aD).map aI∧PuOk (cs.map aD),aI (cs.map aD).sum)
  |_=>(False,.junk)
theorem d129 {A:Frm→Prop}:EntryOK A Try.prog 129 (valE true c129):=valE_ok fun vs hv h=>by
  clear hv
  unfold c129 at h ⊢
  split at h
  · refine ⟨by simp [AV.plain,aI],fun _=>by simp [AV.flat,aI],?_⟩
    have:=manyP_fn _ h.2
    simp only [aPu,← h.1] at this
    exact this
  · exact h.elim
def btr {α:Type} (f:α→Int) (a b:α):α:=if f b < f a then b else a
def tbM1_144:=vk @ty3 (vk @ty142 (vk @ti3.eq_1 @ti142.eq_1))
def xbM1_3:=vk @aI.eq_1 (vk @aB.eq_1 (@aPu.eq_1))
theorem better_fn (a b:List Int) (ha:PuOk a) (hb:PuOk b):FnV Try.prog 144 [aPu a,aPu b,.clo 129 []] (aPu (btr List.sum a b)):=by
  have env:Env (fun _=>True) Try.prog tyB (tab [(129,valE true c129)]):=mkEnv ⟨d129,trivial⟩
  refine Fn.of (A:=fun _=>True) (n0:=0) (D:=noD) (Fn0 Try.func144 rfl (fun vs w=>by kernel_rfl) (by kernel_rfl)) (by simp) (by simp [AV.ids,AV.idsL,aPu,pu_ids]) (fun i o h=>by cases h) (fun _ _ _ _=>trivial) noD_ok ?_
  have hal:=ha.len
  have hbl:=hb.len
  have ta:(a.map aI).take 4=a.map aI:=List.take_of_length_le (by simp [hal])
  have tb:(b.map aI).take 4=b.map aI:=List.take_of_length_le (by simp [hbl])
  by_cases hlt:b.sum < a.sum
  · have d1:decide (b.sum < a.sum)=true:=decide_eq_true hlt
    rw [show btr List.sum a b=b from if_pos hlt]
    repeat' (first|(apply nx;with_reducible constructor)|refine uq (by decide) ?_|((first|refine vz env fun Q hQ=>?_|refine vj fun Q hQ=>?_);simp only [vkt,seval,tbM1_144,xbM1_3,puL,c129,mAD,List.length_map,hal,hbl,ta,tb,d1,ha,hb];(try simp only [ite_and]);(repeat' (first|with_reducible assumption|refine And.intro ?_ ?_|intro hp));all_goals (first|(refine hQ _ ?_;clear hQ Q)|(refine hQ _ (fun h=>?_) (fun h=>?_) <;> clear hQ Q <;> (try simp only [vki,reduceCtorEq] at h))|omega|assumption|with_reducible rfl|(refine vq ?_;kernel_rfl)|skip)))
    (simp only [vrt,Try.results144,hal,hbl,ta,tb,vkt,seval,tbM1_144,xbM1_3,puL,c129,mAD,List.length_map];refine Fin.val rfl ?_;(try simp only [AV.le,AV.leL]))
    all_goals first|rfl|exact pu_le _ _ _
  · have d1:decide (b.sum < a.sum)=false:=decide_eq_false hlt
    rw [show btr List.sum a b=a from if_neg hlt]
    repeat' (first|(apply nx;with_reducible constructor)|refine uq (by decide) ?_|((first|refine vz env fun Q hQ=>?_|refine vj fun Q hQ=>?_);simp only [vkt,seval,tbM1_144,xbM1_3,puL,c129,mAD,List.length_map,hal,hbl,ta,tb,d1,ha,hb];(try simp only [ite_and]);(repeat' (first|with_reducible assumption|refine And.intro ?_ ?_|intro hp));all_goals (first|(refine hQ _ ?_;clear hQ Q)|(refine hQ _ (fun h=>?_) (fun h=>?_) <;> clear hQ Q <;> (try simp only [vki,reduceCtorEq] at h))|omega|assumption|with_reducible rfl|(refine vq ?_;kernel_rfl)|skip)))
    (simp only [vrt,Try.results144,hal,hbl,ta,tb,vkt,seval,tbM1_144,xbM1_3,puL,c129,mAD,List.length_map];refine Fin.val rfl ?_;(try simp only [AV.le,AV.leL]))
    all_goals first|rfl|exact pu_le _ _ _
def c144:List AV→Prop × AV
  |[.agg cs,.agg ds,.clo 129 []]=>(cs=(cs.map aD).map aI∧ds=(ds.map aD).map aI∧PuOk (cs.map aD)∧PuOk (ds.map aD),aPu (btr List.sum (cs.map aD) (ds.map aD)))
  |_=>(False,.junk)
theorem d144 {A:Frm→Prop}:EntryOK A Try.prog 144 (valE true c144):=valE_ok fun vs hv h=>by
  clear hv
  unfold c144 at h ⊢
  split at h
  · refine ⟨by simp [aPu,AV.plain,pu_plain],fun _=>by simp [aPu,AV.flat,pu_flat],?_⟩
    have:=better_fn _ _ h.2.2.1 h.2.2.2
    simp only [aPu,← h.1,← h.2.1] at this ⊢
    exact this
  · exact h.elim
def pad (l:List Int):List Int:=l++List.replicate (4 - l.length) 0
theorem pad_len {l:List Int} (h:l.length≤4):(pad l).length=4:=by simp [pad];omega
theorem pad_ok {l:List Int} (h:l.length≤4) (hb:∀ n ∈ l,0≤n∧n≤4):PuOk (pad l) :=
  ⟨pad_len h,fun n hn=>by
    rcases List.mem_append.1 hn with hn|hn
    · exact hb n hn
    · rw [(List.mem_replicate.1 hn).2];omega⟩
theorem flat_eInt:∀ l:List Int,((l.map eInt).flatten).map DV.av=l.map aI
  |[]=>rfl
  |n :: l=>by simp only [List.map_cons,List.flatten_cons,List.map_append,flat_eInt l];rfl
theorem drop_zero4 {n:Nat} (h:n≤4):[aI 0,aI 0,aI 0,aI 0].drop n=(List.replicate (4 - n) (0:Int)).map aI:=by
  match n,h with
  |0,_=>rfl
  |1,_=>rfl
  |2,_=>rfl
  |3,_=>rfl
  |4,_=>rfl
theorem rows_eInt (l:List Int):rowsOK 1 (l.map eInt)=True:=rowsOK_map (f:=eInt) (fun _=>rfl) l
def tbM1_125:=vk @ty3 (vk @ty22 (vk @ty142 (vk @ti3.eq_1 (vk @ti22.eq_1 @ti142.eq_1))))
def xbM1_4:=vk @aI.eq_1 (vk @aB.eq_1 (@aInts.eq_1))
theorem purse_fn (l:List Int) (h0:0 < l.length) (h4:l.length≤4):FnV Try.prog 125 [aInts l] (aPu (pad l)):=by
  have env:Env (fun _=>True) Try.prog tyB (tab []):=mkEnv trivial
  refine Fn.of (A:=fun _=>True) (n0:=0) (D:=noD) (Fn0 Try.func125 rfl (fun vs w=>by kernel_rfl) (by kernel_rfl)) (by simp) (by simp [AV.ids,aInts]) (fun i o h=>by cases h) (fun _ _ _ _=>trivial) noD_ok ?_
  have hm:min l.length 4=l.length:=Nat.min_eq_left h4
  have tk:(l.map eInt).take l.length=l.map eInt:=List.take_of_length_le (by simp)
  have hz:=drop_zero4 h4
  simp only [aI] at hz
  have hc:l.map aI++(List.replicate (4 - l.length) (0:Int)).map aI=(pad l).map aI:=by simp [pad]
  have hpl:=pad_len h4
  have tp:((pad l).map aI).take 4=(pad l).map aI:=List.take_of_length_le (by simp [hpl])
  have hf:=flat_eInt l
  have hml:4≤maxLen:=by decide
  repeat' (first|(apply nx;with_reducible constructor)|refine uq (by decide) ?_|((first|refine vz env fun Q hQ=>?_|refine vj fun Q hQ=>?_);simp only [vkt,seval,tbM1_125,xbM1_4,puL,rows_eInt,List.length_map,Nat.mul_one,h0,hm,tk,hz,hf,hc,hpl,tp,hml];(try simp only [ite_and]);(repeat' (first|with_reducible assumption|refine And.intro ?_ ?_|intro hp));all_goals (first|(refine hQ _ ?_;clear hQ Q)|(refine hQ _ (fun h=>?_) (fun h=>?_) <;> clear hQ Q <;> (try simp only [vki,reduceCtorEq] at h))|omega|assumption|with_reducible rfl|(refine vq ?_;kernel_rfl)|skip)))
  (simp only [vrt,Try.results125,hpl,tp,vkt,seval,tbM1_125,xbM1_4,puL,rows_eInt,List.length_map,Nat.mul_one];refine Fin.val rfl ?_;(try simp only [AV.le,AV.leL]))
  all_goals first|rfl|exact pu_le _ _ _
def c125:List AV→Prop × AV
  |[.sl xs]=>(xs=(xs.map dInt).map eInt∧0 < (xs.map dInt).length∧(xs.map dInt).length≤4,aPu (pad (xs.map dInt)))
  |_=>(False,.junk)
theorem d125 {A:Frm→Prop}:EntryOK A Try.prog 125 (valE true c125):=valE_ok fun vs hv h=>by
  clear hv
  unfold c125 at h ⊢
  split at h
  · refine ⟨by simp [aPu,AV.plain,pu_plain],fun _=>by simp [aPu,AV.flat,pu_flat],?_⟩
    have:=purse_fn _ h.2.1 h.2.2
    simp only [aInts,← h.1] at this
    exact this
  · exact h.elim
def aDe (q:List Int × List Int):AV:=.agg ((q.1++q.2).map aI)
def cntD (q:List Int × List Int):Int:=q.1.sum+q.2.sum
theorem de_1 {a b:List Int} (ha:a.length=4):((a++b).map aI).take 4=a.map aI:=by
  rw [List.map_append,List.take_left' (by simp [ha])]
theorem de_2 {a b:List Int} (ha:a.length=4) (hb:b.length=4):(((a++b).map aI).drop 4).take 4=b.map aI:=by
  rw [List.map_append,List.drop_left' (by simp [ha])];exact List.take_of_length_le (by simp [hb])
def tbM1_128:=vk @ty3 (vk @ty142 (vk @ty149 (vk @ti3.eq_1 (vk @ti142.eq_1 @ti149.eq_1))))
def xbM1_5:=vk @aI.eq_1 (vk @aB.eq_1 (@aPu.eq_1))
theorem cnt_fn (q:List Int × List Int) (ha:PuOk q.1) (hb:PuOk q.2):FnV Try.prog 128 [aDe q] (aI (cntD q)):=by
  have env:Env (fun _=>True) Try.prog tyB (tab [(129,valE true c129)]):=mkEnv ⟨d129,trivial⟩
  refine Fn.of (A:=fun _=>True) (n0:=0) (D:=noD) (Fn0 Try.func128 rfl (fun vs w=>by kernel_rfl) (by kernel_rfl)) (by simp) (by simp [AV.ids,aDe,pu_ids,-List.map_append]) (fun i o h=>by cases h) (fun _ _ _ _=>trivial) noD_ok ?_
  have hal:=ha.len
  have hbl:=hb.len
  have t1:=de_1 (b:=q.2) hal
  have t2:=de_2 hal hbl
  have s1:=sum_bd ha.bd
  have s2:=sum_bd hb.bd
  have e1:=wrap64 (n:=q.1.sum+q.2.sum) (by omega) (by omega)
  repeat' (first|(apply nx;with_reducible constructor)|refine uq (by decide) ?_|((first|refine vz env fun Q hQ=>?_|refine vj fun Q hQ=>?_);simp only [vkt,seval,tbM1_128,xbM1_5,aDe,puL,c129,mAD,List.length_map,List.length_append,hal,hbl,t1,t2,ha,hb,e1];(try simp only [ite_and]);(repeat' (first|with_reducible assumption|refine And.intro ?_ ?_|intro hp));all_goals (first|(refine hQ _ ?_;clear hQ Q)|(refine hQ _ (fun h=>?_) (fun h=>?_) <;> clear hQ Q <;> (try simp only [vki,reduceCtorEq] at h))|omega|assumption|with_reducible rfl|(refine vq ?_;kernel_rfl)|skip)))
  (simp only [vrt,Try.results128,vkt,seval,tbM1_128,xbM1_5,aDe,puL,c129,mAD,List.length_map,List.length_append];refine Fin.val rfl ?_;(try simp only [AV.le,AV.leL]))
  all_goals first|rfl
def dDe (cs:List AV):List Int × List Int:=((cs.take 4).map aD,(cs.drop 4).map aD)
theorem dDe_e {a b:List Int} (ha:a.length=4):dDe ((a++b).map aI)=(a,b):=by
  rw [List.map_append,dDe,List.take_left' (by simp [ha]),List.drop_left' (by simp [ha]),mAD,mAD]
def c128:List AV→Prop × AV
  |[.agg cs]=>(cs=((dDe cs).1++(dDe cs).2).map aI∧PuOk (dDe cs).1∧PuOk (dDe cs).2,aI (cntD (dDe cs)))
  |_=>(False,.junk)
theorem d128 {A:Frm→Prop}:EntryOK A Try.prog 128 (valE true c128):=valE_ok fun vs hv h=>by
  clear hv
  unfold c128 at h ⊢
  split at h
  · refine ⟨by simp [AV.plain,aI],fun _=>by simp [AV.flat,aI],?_⟩
    have:=cnt_fn _ h.2.1 h.2.2
    simp only [aDe,← h.1] at this
    exact this
  · exact h.elim
def tbM1_132:=vk @ty3 (vk @ty149 (vk @ti3.eq_1 @ti149.eq_1))
def xbM1_6:=vk @aI.eq_1 (vk @aB.eq_1 (@aPu.eq_1))
theorem betterD_fn (a b:List Int × List Int) (ha:PuOk a.1∧PuOk a.2) (hb:PuOk b.1∧PuOk b.2):FnV Try.prog 132 [aDe a,aDe b,.clo 128 []] (aDe (btr cntD a b)):=by
  have env:Env (fun _=>True) Try.prog tyB (tab [(128,valE true c128)]):=mkEnv ⟨d128,trivial⟩
  refine Fn.of (A:=fun _=>True) (n0:=0) (D:=noD) (Fn0 Try.func132 rfl (fun vs w=>by kernel_rfl) (by kernel_rfl)) (by simp) (by simp [AV.ids,AV.idsL,aDe,pu_ids,-List.map_append]) (fun i o h=>by cases h) (fun _ _ _ _=>trivial) noD_ok ?_
  have hal:(a.1++a.2).length=8:=by simp [ha.1.len,ha.2.len]
  have hbl:(b.1++b.2).length=8:=by simp [hb.1.len,hb.2.len]
  have ta:((a.1++a.2).map aI).take 8=(a.1++a.2).map aI:=List.take_of_length_le (by simp only [List.length_map,hal];omega)
  have tb:((b.1++b.2).map aI).take 8=(b.1++b.2).map aI:=List.take_of_length_le (by simp only [List.length_map,hbl];omega)
  have da:dDe ((a.1++a.2).map aI)=a:=dDe_e ha.1.len
  have db:dDe ((b.1++b.2).map aI)=b:=dDe_e hb.1.len
  have ha1:=ha.1
  have ha2:=ha.2
  have hb1:=hb.1
  have hb2:=hb.2
  by_cases hlt:cntD b < cntD a
  · have d1:decide (cntD b < cntD a)=true:=decide_eq_true hlt
    rw [show btr cntD a b=b from if_pos hlt]
    repeat' (first|(apply nx;with_reducible constructor)|refine uq (by decide) ?_|((first|refine vz env fun Q hQ=>?_|refine vj fun Q hQ=>?_);simp only [vkt,seval,tbM1_132,xbM1_6,aDe,puL,c128,List.length_map,hal,hbl,ta,tb,d1,da,db,ha1,ha2,hb1,hb2];(try simp only [ite_and]);(repeat' (first|with_reducible assumption|refine And.intro ?_ ?_|intro hp));all_goals (first|(refine hQ _ ?_;clear hQ Q)|(refine hQ _ (fun h=>?_) (fun h=>?_) <;> clear hQ Q <;> (try simp only [vki,reduceCtorEq] at h))|omega|assumption|with_reducible rfl|(refine vq ?_;kernel_rfl)|skip)))
    (simp only [vrt,Try.results132,hal,hbl,ta,tb,vkt,seval,tbM1_132,xbM1_6,aDe,puL,c128,List.length_map];refine Fin.val rfl ?_;(try simp only [AV.le,AV.leL]))
    all_goals first|rfl|exact pu_le _ _ _
  · have d1:decide (cntD b < cntD a)=false:=decide_eq_false hlt
    rw [show btr cntD a b=a from if_neg hlt]
    repeat' (first|(apply nx;with_reducible constructor)|refine uq (by decide) ?_|((first|refine vz env fun Q hQ=>?_|refine vj fun Q hQ=>?_);simp only [vkt,seval,tbM1_132,xbM1_6,aDe,puL,c128,List.length_map,hal,hbl,ta,tb,d1,da,db,ha1,ha2,hb1,hb2];(try simp only [ite_and]);(repeat' (first|with_reducible assumption|refine And.intro ?_ ?_|intro hp));all_goals (first|(refine hQ _ ?_;clear hQ Q)|(refine hQ _ (fun h=>?_) (fun h=>?_) <;> clear hQ Q <;> (try simp only [vki,reduceCtorEq] at h))|omega|assumption|with_reducible rfl|(refine vq ?_;kernel_rfl)|skip)))
    (simp only [vrt,Try.results132,hal,hbl,ta,tb,vkt,seval,tbM1_132,xbM1_6,aDe,puL,c128,List.length_map];refine Fin.val rfl ?_;(try simp only [AV.le,AV.leL]))
    all_goals first|rfl|exact pu_le _ _ _
def c132:List AV→Prop × AV
  |[.agg cs,.agg ds,.clo 128 []]=>(cs=((dDe cs).1++(dDe cs).2).map aI∧ds=((dDe ds).1++(dDe ds).2).map aI∧(PuOk (dDe cs).1∧PuOk (dDe cs).2)∧(PuOk (dDe ds).1∧PuOk (dDe ds).2),aDe (btr cntD (dDe cs) (dDe ds)))
  |_=>(False,.junk)
theorem d132 {A:Frm→Prop}:EntryOK A Try.prog 132 (valE true c132):=valE_ok fun vs hv h=>by
  clear hv
  unfold c132 at h ⊢
  split at h
  · refine ⟨by simp only [aDe,AV.plain,pu_plain],fun _=>by simp only [aDe,AV.flat,pu_flat],?_⟩
    have:=betterD_fn _ _ h.2.2.1 h.2.2.2
    simp only [aDe,← h.1,← h.2.1] at this ⊢
    exact this
  · exact h.elim
end Go.Sym.B
namespace Go.Sym.B
open Go Go.Sym Go.Proofs Go.Sym.C
def partsL:List Int→List (List Int)
  |[]=>[[]]
  |p :: ps=>(List.range (p.toNat+1)).flatMap fun (n:Nat)=>(partsL ps).map ((n:Int) :: ·)
theorem flatMap_len {α β:Type} {f:α→List β} {m:Nat}:∀ {l:List α},(∀ a ∈ l,(f a).length=m)→(l.flatMap f).length=l.length * m
  |[],_=>by simp
  |a :: l,h=>by
    rw [List.flatMap_cons,List.length_append,flatMap_len fun b hb=>h b (List.mem_cons_of_mem _ hb),h a List.mem_cons_self,List.length_cons,Nat.succ_mul];omega
theorem flatMap_get {α β:Type} {f:α→List β} {m:Nat} {d:β} {da:α}:∀ {l:List α},(∀ a ∈ l,(f a).length=m)→∀ n j,n < l.length→j < m→(l.flatMap f).getD (n * m+j) d=(f (l.getD n da)).getD j d
  |[],_,n,j,hn,_=>by simp at hn
  |a :: l,h,n,j,hn,hj=>by
    have h0:=h a List.mem_cons_self
    rw [List.flatMap_cons]
    cases n with
    |zero=>rw [Nat.zero_mul,Nat.zero_add,List.getD_eq_getElem?_getD,List.getElem?_append_left (by omega),← List.getD_eq_getElem?_getD];rfl
    |succ n =>
      rw [List.getD_eq_getElem?_getD,List.getElem?_append_right (by rw [h0,Nat.succ_mul];omega),← List.getD_eq_getElem?_getD,h0,show (n+1) * m+j - m=n * m+j by rw [Nat.succ_mul];omega,flatMap_get (da:=da) (fun b hb=>h b (List.mem_cons_of_mem _ hb)) n j (by simpa using hn) hj]
      rfl
theorem parts_len (p:Int) (ps:List Int):(partsL (p :: ps)).length=(p.toNat+1) * (partsL ps).length:=by
  simp only [partsL]
  rw [flatMap_len (m:=(partsL ps).length) (fun a _=>by simp),List.length_range]
theorem parts_pos:∀ q:List Int,0 < (partsL q).length
  |[]=>by simp [partsL]
  |p :: ps=>by rw [parts_len];exact Nat.mul_pos (by omega) (parts_pos ps)
theorem parts_get {p:Int} {ps:List Int} {n j:Nat} (hn:n≤p.toNat) (hj:j < (partsL ps).length):(partsL (p :: ps)).getD (n * (partsL ps).length+j) []=(n:Int) :: (partsL ps).getD j []:=by
  simp only [partsL]
  rw [flatMap_get (da:=0) (m:=(partsL ps).length) (fun a _=>by simp) n j (by simp;omega) hj]
  have:(List.range (p.toNat+1)).getD n 0=n:=by simp [List.getD_eq_getElem?_getD,List.getElem?_range (show n < p.toNat+1 by omega)]
  rw [this]
  simp [List.getD_eq_getElem?_getD,hj]
theorem parts_mem {q x:List Int} (h:∀ n ∈ q,0≤n) (hx:x ∈ partsL q):x.length=q.length∧∀ i,i < q.length→0≤x.getD i 0∧x.getD i 0≤q.getD i 0:=by
  induction q generalizing x with
  |nil=>simp [partsL] at hx;subst hx;simp
  |cons p ps ih =>
    simp only [partsL,List.mem_flatMap,List.mem_range,List.mem_map] at hx
    obtain ⟨n,hn,y,hy,rfl⟩:=hx
    obtain ⟨i1,i2⟩:=ih (fun m hm=>h m (List.mem_cons_of_mem _ hm)) hy
    have hp:=h p List.mem_cons_self
    refine ⟨by simp [i1],fun i hi=>?_⟩
    cases i with
    |zero=>simp only [List.getD_cons_zero];omega
    |succ i=>simp only [List.getD_cons_succ];exact i2 i (by simpa using hi)
theorem parts_ok {P x:List Int} (h:PuOk P) (hx:x ∈ partsL P):PuOk x:=by
  obtain ⟨h1,h2⟩:=parts_mem (fun n hn=>(h.bd n hn).1) hx
  refine ⟨h1.trans h.len,fun n hn=>?_⟩
  obtain ⟨i,hi,rfl⟩:=List.mem_iff_getElem.1 hn
  have:=h2 i (by omega)
  have hb:=h.at (show i < 4 by have:=h.len;omega)
  rw [show x.getD i 0=x[i] by simp [List.getD_eq_getElem?_getD,hi]] at this
  omega
def gpH (P:List Int):List (Nat × AObj):=[(0,.cells (P.map aI)),(1,.cells [.cb]),(2,.cells [.clo 146 [.ptr 1 0,.ptr 0 0,.ptr 2 0]])]
def gpL (P:List Int):List AObj:=[.cells (P.map aI),.cells [.cb],.cells [.clo 146 [.ptr 1 0,.ptr 0 0,.ptr 2 0]]]
structure GpOk (P B:List Int) (k:Nat) (ys:Nat→List AV) (ans:Nat→Bool) (R:Nat):Prop where
  len:B.length=4
  rounds:Rounds ans R (partsL (P.drop k)).length
  ys:∀ j,j < (partsL (P.drop k)).length→ys j=[aPu (B.take k++(partsL (P.drop k)).getD j [])]
def GpFn (P:List Int) (k:Nat):Prop:=∀ (B:List Int) (ys:Nat→List AV) (ans:Nat→Bool) (R:Nat),GpOk P B k ys ans R →
  Fn (Bcc Try.prog (hasg (enumA 0 [.cells (P.map aI)])) (hasg (enumA 0 (gpL P))) ys (fun _=>nth [.cells (P.map aI)]) ans R) Try.prog 146 [aPu B,aI k,.ptr 1 0,.ptr 0 0,.ptr 2 0] (hasg (enumA 0 (gpL P))) (aB (ans (R - 1))) (hasg (enumO 0 ((gpL P).map some))) R
def p146 (P:List Int) (k:Nat) (ka:Int) (ys:Nat→List AV) (ans:Nat→Bool) (R:Nat) (S:St):List AV→Option PkI
  |[.agg cs,.v (.int .i64 a),.ptr y 0,.ptr p 0,.ptr g 0]=>match S.h p,S.h y,S.h g with
    |some (.cells pp),some (.cells [.cb]),some (.cells [.clo 146 [.ptr y' 0,.ptr p' 0,.ptr g' 0]]) =>
      some { q:={ pre:=y'=y∧p'=p∧g'=g∧pp=P.map aI∧cs=(cs.map aD).map aI∧a=ka∧GpOk P (cs.map aD) k (fun j=>ys (S.j+j)) (fun j=>ans (S.j+j)) (min (partsL (P.drop k)).length (R - S.j)),hs:=[p,y,g],ar:=[.agg cs,.v (.int .i64 a),.ptr 1 0,.ptr 0 0,.ptr 2 0],L0:=gpL P,v:=.v (.bool (ans (S.j+(min (partsL (P.drop k)).length (R - S.j) - 1)))),L1:=(gpL P).map some },dj:=min (partsL (P.drop k)).length (R - S.j) }
    |_,_,_=>none
  |_=>none
theorem e146 {A:Frm→Prop} {P:List Int} {k:Nat} {ka:Int} {ys:Nat→List AV} {ans:Nat→Bool} {R:Nat} {h0:Nat→Option AObj} (hk:ka=(k:Int)) (ih:GpFn P k) (hA:∀ F,A F→Acb Try.prog (hasg (enumA 0 [.cells (P.map aI)])) h0 ys (fun _=>nth [.cells (P.map aI)]) ans R F) :
    EntryOK A Try.prog 146 (fnI [.cells (P.map aI)] R (p146 P k ka ys ans R)):=fnI_ok hA fun S bs q h hp=>by
  unfold p146 at h
  split at h
  · split at h
    · cases h
      obtain ⟨_,_,_,_,h1,rfl,h2⟩:=hp
      have:=ih _ _ _ _ h2
      simp only [aPu,aI,aB,← h1,← hk] at this
      exact this
    · cases h
  · cases h
theorem cb146 {A:Frm→Prop} {P:List Int} {ys:Nat→List AV} {ans:Nat→Bool} {R:Nat} {h0:Nat→Option AObj} (hA:∀ F,A F→Acb Try.prog (hasg (enumA 0 [.cells (P.map aI)])) h0 ys (fun _=>nth [.cells (P.map aI)]) ans R F) :
    ∀ S bs,(cbX [0] ys (fun _=>[.cells (P.map aI)]) ans R S bs).1→Wf S→∀ ops o g args tys caps,Want ops o S→o.op=.call { callee:=.value g,args:=args,argTypes:=tys }→calleeOf (ev S g)=some (none,caps)→args.toList.map (ev S)++caps=bs→VE A Try.prog ops o (cbX [0] ys (fun _=>[.cells (P.map aI)]) ans R S bs).2 S :=
  fun S bs h hS ops o g args tys caps hw ho hg hb=>cbX_sound hA (fun i o hi=>by
    rw [enumA_get] at hi
    cases i with
    |zero=>rfl
    |succ i=>simp at hi) (by simp) h hS hw ho hg hb
theorem gp_env {A:Frm→Prop} {P:List Int} {k:Nat} {ka:Int} {ys:Nat→List AV} {ans:Nat→Bool} {R:Nat} {h0:Nat→Option AObj} (hk:ka=(k:Int)) (ih:GpFn P k) (hA:∀ F,A F→Acb Try.prog (hasg (enumA 0 [.cells (P.map aI)])) h0 ys (fun _=>nth [.cells (P.map aI)]) ans R F) :
    Env A Try.prog tyB (Go.Sym.tabC (cbX [0] ys (fun _=>[.cells (P.map aI)]) ans R) [(146,fnI [.cells (P.map aI)] R (p146 P k ka ys ans R))]):=⟨tyB_ok,tabC_ok (cb146 hA) ⟨e146 hk ih hA,trivial⟩,by kernel_rfl⟩
theorem gp_env0 {A:Frm→Prop} {P:List Int} {ys:Nat→List AV} {ans:Nat→Bool} {R:Nat} {h0:Nat→Option AObj} (hA:∀ F,A F→Acb Try.prog (hasg (enumA 0 [.cells (P.map aI)])) h0 ys (fun _=>nth [.cells (P.map aI)]) ans R F) :
    Env A Try.prog tyB (Go.Sym.tabC (cbX [0] ys (fun _=>[.cells (P.map aI)]) ans R) []):=⟨tyB_ok,tabC_ok (cb146 hA) trivial,by kernel_rfl⟩
def gpT (P B:List Int) (k n j:Nat):St:={ t:=asg [(1,aI k),(2,.ptr 1 0),(3,.ptr 0 0),(4,.ptr 2 0),(5,.ptr 3 0),(7,aB false),(8,aI n)],h:=hasg [(0,.cells (P.map aI)),(1,.cells [.cb]),(2,.cells [.clo 146 [.ptr 1 0,.ptr 0 0,.ptr 2 0]]),(3,.cells (B.map aI))],n:=4,j:=j,m:=3 }
theorem gp_h (P:List Int):hasg (enumA 0 (gpL P))=hasg (gpH P):=rfl
theorem gp_h' (P:List Int):hasg (enumO 0 ((gpL P).map some))=hasg (gpH P):=rfl
def tbM2_146:=vk @ty3 (vk @ty142 (vk @ty166 (vk @ty167 (vk @ti3.eq_1 (vk @ti142.eq_1 (vk @ti166.eq_1 @ti167.eq_1))))))
def xbM2_1:=vk @aI.eq_1 (vk @aB.eq_1 (@aPu.eq_1))
theorem gp_all (P:List Int) (hP:PuOk P):∀ m k,k+m=4→GpFn P k:=by
  intro m
  induction m with
  |zero =>
    intro k hk B ys ans R hG
    obtain rfl:k=4:=by omega
    have hA:∀ F,Acb Try.prog (hasg (enumA 0 [.cells (P.map aI)])) (hasg (gpH P)) ys (fun _=>nth [.cells (P.map aI)]) ans R F→Acb Try.prog (hasg (enumA 0 [.cells (P.map aI)])) (hasg (gpH P)) ys (fun _=>nth [.cells (P.map aI)]) ans R F:=fun _ h=>h
    have env:=gp_env0 hA
    have hd:P.drop 4=[]:=List.drop_of_length_le (by rw [hP.len];omega)
    have hN:(partsL (P.drop 4)).length=1:=by rw [hd];rfl
    have hr:=hG.rounds
    rw [hN] at hr
    have hR:R=1:=by
      have h1:=hr.le
      have h2:=hr.lt (k:=0) (by omega) (fun j hj=>by omega)
      omega
    subst hR
    have hy:=hG.ys 0 (by rw [hN];omega)
    rw [hd] at hy
    have hy:ys 0=[.agg (B.map aI)]:=by
      rw [hy]
      have:B.take 4=B:=List.take_of_length_le (by rw [hG.len];omega)
      simp [partsL,aPu,this]
    have hBl:=hG.len
    have tB:(B.map aI).take 4=B.map aI:=List.take_of_length_le (by simp [hBl])
    rw [gp_h,gp_h']
    refine Fn.of (A:=Acb Try.prog (hasg (enumA 0 [.cells (P.map aI)])) (hasg (gpH P)) ys (fun _=>nth [.cells (P.map aI)]) ans 1) (n0:=3) (D:=noD) (Fn0 Try.func146 rfl (fun vs w=>by kernel_rfl) (by kernel_rfl)) (by simp) (by simp [AV.ids,aPu,pu_ids,aI]) ?_ (fun F hb h0 _=>⟨h0,fun i o hi=>?_,hb⟩) noD_ok ?_
    · intro i o hi
      have h:=hasg_mem hi
      simp [gpH] at h
      rcases h with ⟨rfl,rfl⟩|⟨rfl,rfl⟩|⟨rfl,rfl⟩ <;> simp [AObj.ids,AV.ids,AV.idsL,pu_ids]
    · rw [enumA_get] at hi
      cases i with
      |zero=>exact ⟨_,rfl⟩
      |succ i=>simp at hi
    repeat' (first|(apply nx;with_reducible constructor)|refine uq (by decide) ?_|((first|refine vz env fun Q hQ=>?_|refine vj fun Q hQ=>?_);simp only [vkt,seval,tbM2_146,xbM2_1,gpT,gpH,gpL,puL,p146,mAD,List.length_map,Nat.mul_one,Go.Sym.tabC,cbX,fnI,pinB,lentOK,nth,hwL,hBl,tB,hy];(try simp only [ite_and]);(repeat' (first|with_reducible assumption|refine And.intro ?_ ?_|intro hp));all_goals (first|(refine hQ _ ?_;clear hQ Q)|(refine hQ _ (fun h=>?_) (fun h=>?_) <;> clear hQ Q <;> (try simp only [vki,reduceCtorEq] at h))|omega|assumption|with_reducible rfl|(refine vq ?_;kernel_rfl)|skip)))
    (simp only [vrt,Try.results146,vkt,seval,tbM2_146,xbM2_1,gpT,gpH,gpL,puL,p146,mAD,List.length_map,Nat.mul_one,Go.Sym.tabC,cbX,fnI,pinB,lentOK,nth,hwL];refine Fin.ok some [] ?_ ?_ ?_ ?_ ?_ rfl;all_goals (try simp only [vle,vkt,seval,tbM2_146,xbM2_1,gpT,gpH,gpL,puL,p146,mAD,List.length_map,Nat.mul_one,Go.Sym.tabC,cbX,fnI,pinB,lentOK,nth,hwL]))
    all_goals first|rfl|(simp;done)
  |succ m ih =>
    intro k hk B ys ans R hG
    have hk4:k < 4:=by omega
    have hPl:=hP.len
    have hBl:=hG.len
    have hkP:k < P.length:=by omega
    have hkB:k < B.length:=by omega
    obtain ⟨pk,hpk⟩:∃ x,P.getD k 0=x:=⟨_,rfl⟩
    have hpb:=hP.at hk4
    rw [hpk] at hpb
    have hd:P.drop k=pk :: P.drop (k+1):=by
      rw [List.drop_eq_getElem_cons hkP,← hpk];simp [List.getD_eq_getElem?_getD,hkP]
    have hr:=hG.rounds
    have hys:=hG.ys
    rw [hd] at hr hys
    rw [parts_len] at hr
    have hMp:=parts_pos (P.drop (k+1))
    obtain ⟨M,hM⟩:∃ x,(partsL (P.drop (k+1))).length=x:=⟨_,rfl⟩
    rw [hM] at hr hMp
    have hA:∀ F,Acb Try.prog (hasg (enumA 0 [.cells (P.map aI)])) (hasg (gpH P)) ys (fun _=>nth [.cells (P.map aI)]) ans R F→Acb Try.prog (hasg (enumA 0 [.cells (P.map aI)])) (hasg (gpH P)) ys (fun _=>nth [.cells (P.map aI)]) ans R F:=fun _ h=>h
    have env:=gp_env (ka:=(k:Int)+1) (k:=k+1) rfl (ih (k+1) (by omega)) hA
    rw [gp_h,gp_h']
    refine Fn.of (A:=Acb Try.prog (hasg (enumA 0 [.cells (P.map aI)])) (hasg (gpH P)) ys (fun _=>nth [.cells (P.map aI)]) ans R) (n0:=3) (D:=noD) (Fn0 Try.func146 rfl (fun vs w=>by kernel_rfl) (by kernel_rfl)) (by simp) (by simp [AV.ids,aPu,pu_ids,aI]) ?_ (fun F hb h0 _=>⟨h0,fun i o hi=>?_,hb⟩) noD_ok ?_
    · intro i o hi
      have h:=hasg_mem hi
      simp [gpH] at h
      rcases h with ⟨rfl,rfl⟩|⟨rfl,rfl⟩|⟨rfl,rfl⟩ <;> simp [AObj.ids,AV.ids,AV.idsL,pu_ids]
    · rw [enumA_get] at hi
      cases i with
      |zero=>exact ⟨_,rfl⟩
      |succ i=>simp at hi
    have tB:(B.map aI).take 4=B.map aI:=List.take_of_length_le (by simp [hBl])
    have d4:decide ((k:Int)=4)=false:=decide_eq_false (by omega)
    have e9:=wrap64 (n:=(k:Int)+1) (by omega) (by omega)
    have pg:=pu_get hkP
    rw [hpk] at pg
    have e0:(0:Int)≤(k:Int):=by omega
    repeat' (first|(apply nx;with_reducible constructor)|refine uq (by decide) ?_|((first|refine vz env fun Q hQ=>?_|refine vj fun Q hQ=>?_);simp only [vkt,seval,tbM2_146,xbM2_1,gpT,gpH,gpL,puL,p146,mAD,List.length_map,Nat.mul_one,Go.Sym.tabC,cbX,fnI,pinB,lentOK,nth,hwL,hBl,tB,d4];(try simp only [ite_and]);(repeat' (first|with_reducible assumption|refine And.intro ?_ ?_|intro hp));all_goals (first|(refine hQ _ ?_;clear hQ Q)|(refine hQ _ (fun h=>?_) (fun h=>?_) <;> clear hQ Q <;> (try simp only [vki,reduceCtorEq] at h))|omega|assumption|with_reducible rfl|(refine vq ?_;kernel_rfl)|skip)))
    refine sym_loop (fun x:{ x:Nat × Nat // x.1≤pk.toNat+1∧x.2=x.1 * M∧∀ j,j < x.2→ans j=true }=>gpT P B k x.1.1 x.1.2) (fun x=>pk.toNat+1 - x.1.1) ⟨(0,0),by simp⟩ ?_ fun ⟨(n,j),hn,hj,hy⟩=>?_
    · (refine Le.ok some [] ?_;constructor;all_goals (try simp only [vle,vkt,seval,tbM2_146,xbM2_1,gpT,gpH,gpL,puL,p146,mAD,List.length_map,Nat.mul_one,Go.Sym.tabC,cbX,fnI,pinB,lentOK,nth,hwL]))
      all_goals first|rfl|(simp;done)
    simp only at hn hj hy ⊢
    by_cases hlt:n≤pk.toNat
    · have d1:decide ((n:Int)≤pk)=true:=decide_eq_true (by omega)
      have e1:=wrap64 (n:=(n:Int)+1) (by omega) (by omega)
      have hjN:j+M≤(pk.toNat+1) * M:=by rw [hj,← Nat.succ_mul];exact Nat.mul_le_mul_right _ (by omega)
      have hjR:j < R:=hr.lt (by omega) hy
      have hle:=hr.le
      have hsl:(B.set k (n:Int)).length=4:=by simp [hBl]
      have hst:=pu_set (n:=(n:Int)) hkB
      simp only [show aI (n:Int)=.v (.int .i64 (n:Int)) from rfl] at hst
      have tS:((B.set k (n:Int)).map aI).take 4=(B.set k (n:Int)).map aI:=List.take_of_length_le (by simp [hBl])
      obtain ⟨D,hD⟩:∃ x,min M (R - j)=x:=⟨_,rfl⟩
      have hD1:D≤M∧D≤R - j∧(D=M∨D=R - j)∧0 < D:=by omega
      have hGG:GpOk P (B.set k (n:Int)) (k+1) (fun i=>ys (j+i)) (fun i=>ans (j+i)) D:=by
        refine ⟨hsl,?_,fun i hi=>?_⟩
        · rw [hM]
          refine ⟨hD1.1,fun i hi=>hr.yes (j+i) (by omega),fun h=>⟨hD1.2.2.2,?_⟩⟩
          have h1:=(hr.stop (by omega)).2
          rw [show j+(D - 1)=R - 1 by omega];exact h1
        · rw [hM] at hi
          show ys (j+i)=_
          rw [hys (j+i) (by rw [parts_len,hM];omega),hj,← hM,parts_get hlt (by rw [hM];exact hi)]
          have:(B.set k (n:Int)).take (k+1)=B.take k++[(n:Int)]:=by
            rw [List.take_succ_eq_append_getElem (by simp;omega)];simp [List.take_set_of_le]
          rw [this,List.append_assoc,List.singleton_append]
      cases hb:ans (j+(D - 1)) with
      |false =>
        have eqR:R=j+D:=by have:=hr.last (k:=j+(D - 1)) (by omega) hb;omega
        subst eqR
        have hres:ans (j+D - 1)=false:=by rw [show j+D - 1=j+(D - 1) by omega];exact hb
        rw [hres]
        repeat' (first|(apply nx;with_reducible constructor)|refine uq (by decide) ?_|((first|refine vz env fun Q hQ=>?_|refine vj fun Q hQ=>?_);simp only [vkt,seval,tbM2_146,xbM2_1,gpT,gpH,gpL,puL,p146,mAD,List.length_map,Nat.mul_one,Go.Sym.tabC,cbX,fnI,pinB,lentOK,nth,hwL,hBl,hPl,tB,pg,d1,e9,e1,hst,hsl,tS,hM,hD,hGG,hb,hkP];(try simp only [ite_and]);(repeat' (first|with_reducible assumption|refine And.intro ?_ ?_|intro hp));all_goals (first|(refine hQ _ ?_;clear hQ Q)|(refine hQ _ (fun h=>?_) (fun h=>?_) <;> clear hQ Q <;> (try simp only [vki,reduceCtorEq] at h))|omega|assumption|with_reducible rfl|(refine vq ?_;kernel_rfl)|skip)))
        (simp only [vrt,Try.results146,vkt,seval,tbM2_146,xbM2_1,gpT,gpH,gpL,puL,p146,mAD,List.length_map,Nat.mul_one,Go.Sym.tabC,cbX,fnI,pinB,lentOK,nth,hwL];refine Fin.ok some [] ?_ ?_ ?_ ?_ ?_ rfl;all_goals (try simp only [vle,vkt,seval,tbM2_146,xbM2_1,gpT,gpH,gpL,puL,p146,mAD,List.length_map,Nat.mul_one,Go.Sym.tabC,cbX,fnI,pinB,lentOK,nth,hwL]))
        all_goals first|rfl|(simp;done)
      |true =>
        have hDM:D=M:=by
          refine Classical.byContradiction fun hne=>?_
          have h1:=(hr.stop (by omega)).2
          rw [show R - 1=j+(D - 1) by omega,hb] at h1
          cases h1
        have hnx:n+1≤pk.toNat+1∧j+D=(n+1) * M∧∀ i,i < j+D→ans i=true:=by
          refine ⟨by omega,by rw [hj,hDM,Nat.succ_mul],fun i hi=>?_⟩
          by_cases h1:i < j
          · exact hy i h1
          · by_cases h2:i+1 < R
            · exact hr.yes i h2
            · rw [show i=j+(D - 1) by omega];exact hb
        repeat' (first|(apply nx;with_reducible constructor)|refine uq (by decide) ?_|((first|refine vz env fun Q hQ=>?_|refine vj fun Q hQ=>?_);simp only [vkt,seval,tbM2_146,xbM2_1,gpT,gpH,gpL,puL,p146,mAD,List.length_map,Nat.mul_one,Go.Sym.tabC,cbX,fnI,pinB,lentOK,nth,hwL,hBl,hPl,tB,pg,d1,e9,e1,hst,hsl,tS,hM,hD,hGG,hb,hkP];(try simp only [ite_and]);(repeat' (first|with_reducible assumption|refine And.intro ?_ ?_|intro hp));all_goals (first|(refine hQ _ ?_;clear hQ Q)|(refine hQ _ (fun h=>?_) (fun h=>?_) <;> clear hQ Q <;> (try simp only [vki,reduceCtorEq] at h))|omega|assumption|with_reducible rfl|(refine vq ?_;kernel_rfl)|skip)))
        refine ⟨⟨(n+1,j+D),hnx⟩,by show pk.toNat+1 - (n+1) < pk.toNat+1 - n;omega,?_⟩
        (refine Le.ok some [] ?_;constructor;all_goals (try simp only [vle,vkt,seval,tbM2_146,xbM2_1,gpT,gpH,gpL,puL,p146,mAD,List.length_map,Nat.mul_one,Go.Sym.tabC,cbX,fnI,pinB,lentOK,nth,hwL]))
        all_goals first|rfl|(simp;done)
    · have d1:decide ((n:Int)≤pk)=false:=decide_eq_false (by omega)
      have hn1:n=pk.toNat+1:=by omega
      have eqR:R=j:=by
        have h1:=hr.all (k:=j) (by rw [hj,hn1];exact Nat.le_refl _) hy
        rw [h1,hj,hn1]
      subst eqR
      have hjp:0 < R:=by rw [hj,hn1];exact Nat.mul_pos (by omega) hMp
      have hres:ans (R - 1)=true:=hy _ (by omega)
      rw [hres]
      repeat' (first|(apply nx;with_reducible constructor)|refine uq (by decide) ?_|((first|refine vz env fun Q hQ=>?_|refine vj fun Q hQ=>?_);simp only [vkt,seval,tbM2_146,xbM2_1,gpT,gpH,gpL,puL,p146,mAD,List.length_map,Nat.mul_one,Go.Sym.tabC,cbX,fnI,pinB,lentOK,nth,hwL,hBl,hPl,tB,pg,d1,e9];(try simp only [ite_and]);(repeat' (first|with_reducible assumption|refine And.intro ?_ ?_|intro hp));all_goals (first|(refine hQ _ ?_;clear hQ Q)|(refine hQ _ (fun h=>?_) (fun h=>?_) <;> clear hQ Q <;> (try simp only [vki,reduceCtorEq] at h))|omega|assumption|with_reducible rfl|(refine vq ?_;kernel_rfl)|skip)))
      (simp only [vrt,Try.results146,vkt,seval,tbM2_146,xbM2_1,gpT,gpH,gpL,puL,p146,mAD,List.length_map,Nat.mul_one,Go.Sym.tabC,cbX,fnI,pinB,lentOK,nth,hwL];refine Fin.ok some [] ?_ ?_ ?_ ?_ ?_ rfl;all_goals (try simp only [vle,vkt,seval,tbM2_146,xbM2_1,gpT,gpH,gpL,puL,p146,mAD,List.length_map,Nat.mul_one,Go.Sym.tabC,cbX,fnI,pinB,lentOK,nth,hwL]))
      all_goals first|rfl|(simp;done)
end Go.Sym.B
namespace Go.Sym.B
open Go Go.Sym Go.Proofs Go.Sym.C
def ptY (P:List Int) (j:Nat):List AV:=[aPu ((partsL P).getD j [])]
def tbM3_145:=vk @ty3 (vk @ty142 (vk @ty167 (vk @ti3.eq_1 (vk @ti142.eq_1 @ti167.eq_1))))
def xbM3_1:=vk @aI.eq_1 (vk @aB.eq_1 (@aPu.eq_1))
theorem parts_it (P:List Int) (hP:PuOk P):Iter Try.prog 145 [.cb,.ptr 0 0] (nth [.cells (P.map aI)]) (ptY P) (partsL P).length (fun _=>nth [.cells (P.map aI)]) fun _ _=>.tup []:=by
  intro ans R hr
  obtain ⟨A0,hA0⟩:∃ A0:Frm→Prop,A0=Acb Try.prog (hasg (enumA 0 [.cells (P.map aI)])) (hasg [(0,.cells (P.map aI))]) (ptY P) (fun _=>nth [.cells (P.map aI)]) ans R:=⟨_,rfl⟩
  have hA:∀ F,A0 F→Acb Try.prog (hasg (enumA 0 [.cells (P.map aI)])) (hasg [(0,.cells (P.map aI))]) (ptY P) (fun _=>nth [.cells (P.map aI)]) ans R F:=fun F h=>hA0 ▸ h
  have env:=gp_env (ka:=0) (k:=0) rfl (gp_all P hP 4 0 rfl) hA
  have e0:(nth [.cells (P.map aI)])=hasg [(0,.cells (P.map aI))]:=by
    funext i
    match i with
    |0=>rfl
    |i+1=>simp [nth,hasg]
  have e0':hasg (enumA 0 [.cells (P.map aI)])=hasg [(0,AObj.cells (P.map aI))]:=rfl
  rw [← e0'] at e0
  have hbcc:∀ c,Bcb Try.prog (nth [.cells (P.map aI)]) (ptY P) (fun _=>nth [.cells (P.map aI)]) ans R c→Bcc Try.prog (hasg (enumA 0 [.cells (P.map aI)])) (hasg [(0,.cells (P.map aI))]) (ptY P) (fun _=>nth [.cells (P.map aI)]) ans R c:=fun c h=>by
    show Bcc Try.prog (hasg (enumA 0 [.cells (P.map aI)])) (hasg (enumA 0 [.cells (P.map aI)])) (ptY P) (fun _=>nth [.cells (P.map aI)]) ans R c
    rw [← e0]
    exact h
  have hG:GpOk P [0,0,0,0] 0 (ptY P) ans R:=⟨rfl,by rw [List.drop_zero];exact hr,fun j hj=>by simp [ptY]⟩
  have hG':GpOk P [0,0,0,0] 0 (fun j=>ptY P j) (fun j=>ans j) R:=hG
  have hle:=hr.le
  have m1:min (partsL P).length R=R:=Nat.min_eq_right hle
  have hs0:R - 0=R:=rfl
  have hz:([0,0,0,0]:List Int).map aI=[.v (.int .i64 0),.v (.int .i64 0),.v (.int .i64 0),.v (.int .i64 0)]:=rfl
  have hzd:([.v (.int .i64 0),.v (.int .i64 0),.v (.int .i64 0),.v (.int .i64 0)]:List AV).map aD=[0,0,0,0]:=rfl
  refine Fn.of (A:=A0) (n0:=1) (D:=noD) (Fn0 Try.func145 rfl (fun vs w=>by kernel_rfl) (by kernel_rfl)) (by simp) (by simp [AV.ids]) ?_ (fun F hb h0 _=>hA0 ▸ ⟨h0.trans (e0.trans e0'),fun i o hi=>⟨o,hi⟩,hbcc _ hb⟩) noD_ok ?_
  · intro i o hi
    rw [e0] at hi
    have h:=hasg_mem hi
    simp [enumA] at h
    obtain ⟨rfl,rfl⟩:=h
    simp [AObj.ids,pu_ids]
  rw [e0,e0']
  repeat' (first|(apply nx;with_reducible constructor)|refine uq (by decide) ?_|((first|refine vz env fun Q hQ=>?_|refine vj fun Q hQ=>?_);simp only [vkt,seval,tbM3_145,xbM3_1,gpH,gpL,puL,p146,mAD,List.length_map,Go.Sym.tabC,cbX,fnI,pinB,lentOK,nth,hwL,List.drop_zero,hG,hG',m1,hs0,hz,hzd,hle];(try simp only [ite_and]);(repeat' (first|with_reducible assumption|refine And.intro ?_ ?_|intro hp));all_goals (first|(refine hQ _ ?_;clear hQ Q)|(refine hQ _ (fun h=>?_) (fun h=>?_) <;> clear hQ Q <;> (try simp only [vki,reduceCtorEq] at h))|omega|assumption|with_reducible rfl|(refine vq ?_;kernel_rfl)|skip)))
  (simp only [vrt,Try.results145,vkt,seval,tbM3_145,xbM3_1,gpH,gpL,puL,p146,mAD,List.length_map,Go.Sym.tabC,cbX,fnI,pinB,lentOK,nth,hwL,List.drop_zero];refine Fin.ok some [] ?_ ?_ ?_ ?_ ?_ rfl;all_goals (try simp only [vle,vkt,seval,tbM3_145,xbM3_1,gpH,gpL,puL,p146,mAD,List.length_map,Go.Sym.tabC,cbX,fnI,pinB,lentOK,nth,hwL,List.drop_zero]))
  all_goals first|rfl|(simp;done)
def p130 (_:St):List AV→Option Pk
  |[.agg cs]=>some { pre:=cs=(cs.map aD).map aI,ar:=[.agg cs],v:=.clo 145 [.ptr 0 0],L1:=[some (.cells cs)] }
  |_=>none
def xbM3_2:=vk @aI.eq_1 (vk @aB.eq_1 (@aPu.eq_1))
theorem parts_fn (p:List Int):Fn noB Try.prog 130 [aPu p] (hasg []) (.clo 145 [.ptr 0 0]) (hasg [(0,.cells (p.map aI))]) 0:=by
  have env:Env (fun _=>True) Try.prog tyB (tab []):=mkEnv trivial
  refine Fn.of (A:=fun _=>True) (n0:=0) (D:=noD) (Fn0 Try.func130 rfl (fun vs w=>by kernel_rfl) (by kernel_rfl)) (by simp) (by simp [AV.ids,aPu,pu_ids]) (fun i o h=>by cases h) (fun _ _ _ _=>trivial) noD_ok ?_
  repeat' (first|(apply nx;with_reducible constructor)|refine uq (by decide) ?_|((first|refine vz env fun Q hQ=>?_|refine vj fun Q hQ=>?_);simp only [vkt,seval,xbM3_2,puL,List.length_map];(try simp only [ite_and]);(repeat' (first|with_reducible assumption|refine And.intro ?_ ?_|intro hp));all_goals (first|(refine hQ _ ?_;clear hQ Q)|(refine hQ _ (fun h=>?_) (fun h=>?_) <;> clear hQ Q <;> (try simp only [vki,reduceCtorEq] at h))|omega|assumption|with_reducible rfl|(refine vq ?_;kernel_rfl)|skip)))
  (simp only [vrt,Try.results130,vkt,seval,xbM3_2,puL,List.length_map];refine Fin.ok some [] ?_ ?_ ?_ ?_ ?_ rfl;all_goals (try simp only [vle,vkt,seval,xbM3_2,puL,List.length_map]))
  all_goals first|rfl|exact ⟨pu_le _ _ _,trivial⟩|(simp;done)
theorem e130 {A:Frm→Prop}:EntryOK A Try.prog 130 (fnE p130):=fnE_ok fun S bs q h hp=>by
  unfold p130 at h
  split at h
  · rename_i cs
    cases h
    have:=parts_fn (cs.map aD)
    simp only [aPu,← (show cs=(cs.map aD).map aI from hp)] at this
    exact this
  · cases h
def fwGet:List (Int × List Int)→Int→Option (List Int)
  |[],_=>none
  |q :: m,n=>if q.1=n then some q.2 else fwGet m n
def fwSet:List (Int × List Int)→Int→List Int→List (Int × List Int)
  |[],n,x=>[(n,x)]
  |q :: m,n,x=>if q.1=n then (n,x) :: m else q :: fwSet m n x
def fwStep (ps:List Int) (m:List (Int × List Int)) (x:List Int):List (Int × List Int) :=
  fwSet m (dotL ps x) (match fwGet m (dotL ps x) with|some y=>btr List.sum y x|none=>x)
def fwK (ps P:List Int) (k:Nat):List (Int × List Int):=((partsL P).take k).foldl (fwStep ps) []
def fewL (ps P:List Int):List (Int × List Int):=(partsL P).foldl (fwStep ps) []
theorem fwK_succ {ps P:List Int} {k:Nat} (h:k < (partsL P).length):fwK ps P (k+1)=fwStep ps (fwK ps P k) ((partsL P).getD k []):=by
  rw [fwK,List.take_succ_eq_append_getElem h,List.foldl_append]
  simp [fwK,List.getD_eq_getElem?_getD,h]
def encV (x:List Int):Value:=.agg (x.map (Value.int .i64)).toArray
def encM (m:List (Int × List Int)):List (Value × Value):=m.map fun q=>(.int .i64 q.1,encV q.2)
theorem mget_enc (n:Int):∀ m,mget (encM m) (.int .i64 n)=(fwGet m n).map encV
  |[]=>rfl
  |q :: m=>by
    have ih:=mget_enc n m
    simp only [encM,List.map_cons,mget,fwGet] at ih ⊢
    by_cases h:q.1=n
    · rw [if_pos h,if_pos (by rw [h])];rfl
    · rw [if_neg h,if_neg (by simpa using h)];exact ih
theorem mset_enc (n:Int) (x:List Int):∀ m,mset (encM m) (.int .i64 n) (encV x)=encM (fwSet m n x)
  |[]=>rfl
  |q :: m=>by
    have ih:=mset_enc n x m
    simp only [encM,List.map_cons,mset,fwSet] at ih ⊢
    by_cases h:q.1=n
    · rw [if_pos h,if_pos (by rw [h])];rfl
    · rw [if_neg h,if_neg (by simpa using h),ih];rfl
theorem fwSet_keys (n:Int) (x:List Int):∀ m a,a ∈ (fwSet m n x).map (·.1)→a=n∨a ∈ m.map (·.1)
  |[],a,h=>by simp [fwSet] at h;exact .inl h
  |q :: m,a,h=>by
    simp only [fwSet] at h
    split at h
    · simp only [List.map_cons,List.mem_cons] at h ⊢
      rcases h with h|h
      · exact .inl h
      · exact .inr (.inr h)
    · simp only [List.map_cons,List.mem_cons] at h ⊢
      rcases h with h|h
      · exact .inr (.inl h)
      · rcases fwSet_keys n x m a h with h|h
        · exact .inl h
        · exact .inr (.inr h)
theorem fwSet_nd (n:Int) (x:List Int):∀ m,(m.map (·.1)).Nodup→((fwSet m n x).map (·.1)).Nodup
  |[],_=>by simp [fwSet]
  |q :: m,h=>by
    simp only [List.map_cons,List.nodup_cons] at h
    simp only [fwSet]
    split
    · rename_i hq;simp only [List.map_cons,List.nodup_cons];exact ⟨hq ▸ h.1,h.2⟩
    · rename_i hq
      simp only [List.map_cons,List.nodup_cons]
      refine ⟨fun hm=>?_,fwSet_nd n x m h.2⟩
      rcases fwSet_keys n x m _ hm with h1|h1
      · exact hq h1
      · exact h.1 h1
theorem fwSet_len (n:Int) (x:List Int):∀ m,(fwSet m n x).length≤m.length+1
  |[]=>by simp [fwSet]
  |q :: m=>by
    simp only [fwSet]
    split
    · simp
    · simp only [List.length_cons];have:=fwSet_len n x m;omega
theorem fwK_nd (ps P:List Int):∀ k,((fwK ps P k).map (·.1)).Nodup∧(fwK ps P k).length≤k:=by
  have key:∀ (l:List (List Int)) (m:List (Int × List Int)) (k:Nat),(m.map (·.1)).Nodup→m.length≤k→((l.foldl (fwStep ps) m).map (·.1)).Nodup∧(l.foldl (fwStep ps) m).length≤k+l.length:=by
    intro l
    induction l with
    |nil=>intro m k h1 h2;exact ⟨h1,h2⟩
    |cons x l ih =>
      intro m k h1 h2
      have:=ih (fwStep ps m x) (k+1) (fwSet_nd _ _ _ h1) (Nat.le_trans (fwSet_len _ _ _) (by omega))
      simp only [List.foldl_cons,List.length_cons]
      exact ⟨this.1,by omega⟩
  intro k
  have:=key ((partsL P).take k) [] 0 (by simp) (Nat.le_refl _)
  exact ⟨this.1,by have:=this.2;simp only [fwK];rw [List.length_take] at this;omega⟩
theorem mok_enc {m:List (Int × List Int)} (h:(m.map (·.1)).Nodup):MOK (KD.Q (.one (.int .i64))) (encM m):=by
  refine ⟨?_,fun p hp=>?_⟩
  · have:(encM m).map (·.1)=(m.map (·.1)).map (Value.int .i64):=by simp [encM,Function.comp_def]
    rw [this]
    exact List.Pairwise.map _ (fun a b h e=>h (by simpa using e)) h
  · obtain ⟨q,_,rfl⟩:=List.mem_map.1 hp
    simp [KD.Q,MapKept.IsKey]
theorem vav_enc (x:List Int):vAV (encV x)=.agg (x.map aI):=by simp [vAV,encV,aI,Function.comp_def]
theorem vok_enc (x:List Int):vokB true (encV x)=true:=by simp [vokB,encV,Value.oneCell']
theorem cv_enc:∀ x:List Int,cellsV (x.map aI)=some (x.map (Value.int .i64))
  |[]=>rfl
  |n :: x=>by simp only [List.map_cons,aI,cellsV,cv_enc x];simp
theorem tov2 (x:List Int):Option.map (fun l:List Value=>Value.agg l.toArray) (cellsV (x.map aI))=some (encV x):=by simp [cv_enc,encV]
theorem fw_pu {ps P:List Int} (hP:PuOk P):∀ k,∀ q ∈ fwK ps P k,PuOk q.2:=by
  have set:∀ (n:Int) (x:List Int) (m:List (Int × List Int)),PuOk x→(∀ q ∈ m,PuOk q.2)→∀ q ∈ fwSet m n x,PuOk q.2:=by
    intro n x m hx
    induction m with
    |nil=>intro _ q hq;simp [fwSet] at hq;subst hq;exact hx
    |cons r m ih =>
      intro hm q hq
      simp only [fwSet] at hq
      split at hq
      · rcases List.mem_cons.1 hq with rfl|hq
        · exact hx
        · exact hm q (List.mem_cons_of_mem _ hq)
      · rcases List.mem_cons.1 hq with rfl|hq
        · exact hm _ List.mem_cons_self
        · exact ih (fun q hq=>hm q (List.mem_cons_of_mem _ hq)) q hq
  have get:∀ (n:Int) (m:List (Int × List Int)) (y:List Int),fwGet m n=some y→(∀ q ∈ m,PuOk q.2)→PuOk y:=by
    intro n m
    induction m with
    |nil=>intro y h;simp [fwGet] at h
    |cons r m ih =>
      intro y h hm
      simp only [fwGet] at h
      split at h
      · cases h;exact hm _ List.mem_cons_self
      · exact ih y h fun q hq=>hm q (List.mem_cons_of_mem _ hq)
  have key:∀ (l:List (List Int)) (m:List (Int × List Int)),(∀ x ∈ l,PuOk x)→(∀ q ∈ m,PuOk q.2)→∀ q ∈ l.foldl (fwStep ps) m,PuOk q.2:=by
    intro l
    induction l with
    |nil=>intro m _ h;exact h
    |cons x l ih =>
      intro m hl hm
      refine ih _ (fun y hy=>hl y (List.mem_cons_of_mem _ hy)) (set _ _ _ ?_ hm)
      have hx:=hl x List.mem_cons_self
      split
      · rename_i y hy
        have hyy:=get _ _ _ hy hm
        unfold btr;split <;> assumption
      · exact hx
  intro k
  exact key _ [] (fun x hx=>parts_ok hP (List.mem_of_mem_take hx)) (by simp)
theorem fwGet_pu {m:List (Int × List Int)} {n:Int} {y:List Int} (h:fwGet m n=some y) (hm:∀ q ∈ m,PuOk q.2):PuOk y:=by
  induction m with
  |nil=>simp [fwGet] at h
  |cons r m ih =>
    simp only [fwGet] at h
    split at h
    · cases h;exact hm _ List.mem_cons_self
    · exact ih h fun q hq=>hm q (List.mem_cons_of_mem _ hq)
theorem parts_le:∀ {q:List Int},(∀ n ∈ q,n≤4)→(partsL q).length≤5 ^ q.length
  |[],_=>by simp [partsL]
  |p :: ps,h=>by
    have ih:=parts_le (q:=ps) fun n hn=>h n (List.mem_cons_of_mem _ hn)
    have:=h p List.mem_cons_self
    rw [parts_len,List.length_cons,Nat.pow_succ,Nat.mul_comm]
    exact Nat.mul_le_mul ih (by omega)
theorem PuOk.parts {P:List Int} (h:PuOk P):(partsL P).length≤625:=by
  have:=parts_le (q:=P) fun n hn=>(h.bd n hn).2
  rw [h.len] at this;exact this
theorem pu_nocb:∀ p:List Int,AV.nocbL (p.map aI)=True
  |[]=>rfl
  |n :: p=>by simp only [List.map_cons,AV.nocbL,pu_nocb p];simp [aI,AV.nocb]
def fwC (ps P:List Int) (k:Nat):List (Nat × AObj):=[(0,.cells (P.map aI)),(1,.cells [.sl (ps.map eInt)]),(2,.map (encM (fwK ps P k))),(3,.cells [.mp 2])]
def fwL:List (Nat × AV):=[(2,.ptr 0 0),(3,.ptr 1 0),(5,.ptr 3 0),(12,.clo 145 [.ptr 4 0])]
theorem fw_lent (P:List Int):lentA [4] (5+1) 0 [.cells (P.map aI)]=[(4,.cells (P.map aI))]:=by simp [lentA,callRen,AObj.ren,pu_ren]
theorem all_yes {N:Nat}:Rounds (fun _=>true) N N:=⟨Nat.le_refl _,fun _ _=>rfl,fun h=>absurd h (Nat.lt_irrefl _)⟩
def tbM3_126:=vk @ty3 (vk @ty22 (vk @ty142 (vk @ty144 (vk @ti3.eq_1 (vk @ti22.eq_1 (vk @ti142.eq_1 @ti144.eq_1))))))
def xbM3_3:=vk @aI.eq_1 (vk @aB.eq_1 (vk @aInts.eq_1 (vk @aPu.eq_1 (vk @mInt (vk @eInt.eq_1 (@gInt))))))
theorem fewest_fn (P ps:List Int) (hP:PuOk P) (hs:PzOk ps):Fn noB Try.prog 126 [aPu P,aInts ps] (hasg []) (.mp 0) (hasg [(0,.map (encM (fewL ps P)))]) 0:=by
  have env:Env (fun F=>F.r=none) Try.prog tyB (tab [(130,fnE p130),(131,valE true c131),(144,valE true c144)]):=mkEnv ⟨e130,d131,d144,trivial⟩
  refine Fn.of (A:=fun F=>F.r=none) (n0:=0) (D:=noD) (Fn0 Try.func126 rfl (fun vs w=>by kernel_rfl) (by kernel_rfl)) (by simp) (by simp [AV.ids,aPu,aInts,pu_ids]) (fun i o h=>by cases h) (fun _ _ _ h=>h) noD_ok ?_
  have hPl:=hP.len
  have tP:(P.map aI).take 4=P.map aI:=List.take_of_length_le (by simp [hPl])
  repeat' (first|(apply nx;with_reducible constructor)|refine uq (by decide) ?_|((first|refine vz env fun Q hQ=>?_|refine vj fun Q hQ=>?_);simp only [vkt,seval,tbM3_126,xbM3_3,fwC,fwL,puL,p130,c131,c144,mAD,List.length_map,rStart,fw_lent,vav_enc,vok_enc,tov2,mget_enc,mset_enc,MapKept.IsKey,hPl,tP];(try simp only [ite_and]);(repeat' (first|with_reducible assumption|refine And.intro ?_ ?_|intro hp));all_goals (first|(refine hQ _ ?_;clear hQ Q)|(refine hQ _ (fun h=>?_) (fun h=>?_) <;> clear hQ Q <;> (try simp only [vki,reduceCtorEq] at h))|omega|assumption|with_reducible rfl|(refine vq ?_;kernel_rfl)|skip)))
  refine sym_le (S':={ t:=asg fwL,h:=hasg (fwC ps P 0++[(4,.cells (P.map aI))]),n:=5,j:=0,d:=[],m:=0 }) ?_ ?_
  · show Le _ { t:=asg [(2,.ptr 0 0),(3,.ptr 1 0),(5,.ptr 3 0),(12,.clo 145 [.ptr 4 0])],h:=hasg [(0,.cells (P.map aI)),(1,.cells [.sl (ps.map eInt)]),(2,.map []),(3,.cells [.mp 2]),(4,.cells (P.map aI))],n:=5,j:=0,d:=[],m:=0 }
    (refine Le.ok some [] ?_;constructor;all_goals (try simp only [vle,vkt,seval,tbM3_126,xbM3_3,fwC,fwL,puL,p130,c131,c144,mAD,List.length_map,rStart,fw_lent,vav_enc,vok_enc,tov2,mget_enc,mset_enc,MapKept.IsKey]))
    all_goals first|rfl|(simp;done)
  rw [← fw_lent P]
  refine sym_rangeL (L:=fwL) (hs:=[4]) (n:=5) (nl:=0) (hc:=fwC ps P) (Lp:=[.cells (P.map aI)]) (jj:=fun _=>0) (d:=[]) (ys:=ptY P) (hl:=fun _=>[.cells (P.map aI)]) (ans:=fun _=>true) (ex:=.ret) (caps:=[.ptr 4 0]) (caps0:=[.ptr 0 0]) (N:=(partsL P).length) (R:=(partsL P).length) (A':=fun _=>True) (fun F h=>h) (fun _ _=>trivial) rfl (parts_it P hP) all_yes (.inl rfl) ?_ ?_ ?_ rfl (by simp) ?_ (by simp) ?_ (fun j hj=>?_) ?_ (fun j hj=>?_) (fun _=>?_) (fun _ h=>by cases h)
  · simp [AV.leL,AV.le]
  · simp [AV.nocbL,AV.nocb]
  · simp [lentP,AObj.nocb,pu_nocb,AObj.ids,pu_ids,AObj.ren,pu_ren,AObj.le,pu_le]
  · simp [fwC,hasg]
  · simp [idsT,fwL,AV.ids,AV.idsL]
  · refine ⟨?_,rfl,?_,?_,rfl,?_⟩
    · simp [idsH,fwC,AObj.ids,AV.ids,AV.idsL,pu_ids]
    · simp [lentQ,AObj.nocb,pu_nocb,AObj.ids,pu_ids]
    · simp [argQ,ptY,aPu,AV.nocb,pu_nocb,AV.ids,pu_ids]
    · simp [keysIn,keyIn,fw_lent,fwC,fwL,idsTL,AV.ids,AV.idsL,ADf.ids,List.range_zero]
  · simp [idsH,fwC,AObj.ids,AV.ids,AV.idsL,pu_ids]
  · have env:Env (fun _:Frm=>True) Try.prog tyB (tab [(130,fnE p130),(131,valE true c131),(144,valE true c144)]):=mkEnv ⟨e130,d131,d144,trivial⟩
    obtain ⟨x,hx⟩:∃ x,(partsL P).getD j []=x:=⟨_,rfl⟩
    have hxm:x ∈ partsL P:=hx ▸ gMem hj
    have hxo:=parts_ok hP hxm
    have hxl:=hxo.len
    have tx:(x.map aI).take 4=x.map aI:=List.take_of_length_le (by simp [hxl])
    have hS:=fwK_succ (ps:=ps) hj
    rw [hx,fwStep] at hS
    obtain ⟨nd1,nd2⟩:=fwK_nd ps P j
    have hfw:=fw_pu (ps:=ps) hP j
    have hpz:=hP.parts
    have hst:rStart fwL [13] [4] 5 0 (ptY P j) (fwC ps P j) [.cells (P.map aI)]={ t:=asg [(13,.agg (x.map aI)),(2,.ptr 0 0),(3,.ptr 1 0),(5,.ptr 3 0),(12,.clo 145 [.ptr 4 0])],h:=hasg [(5,.mark),(0,.cells (P.map aI)),(1,.cells [.sl (ps.map eInt)]),(2,.map (encM (fwK ps P j))),(3,.cells [.mp 2]),(4,.cells (P.map aI))],n:=6,m:=6 }:=by
      simp only [rStart,fw_lent,ptY,hx,aPu,List.map_cons,List.map_nil,AV.ren,pu_ren,List.zip_cons_cons,List.zip_nil_right,fwC,fwL,putsL,List.cons_append,List.nil_append]
      rfl
    show Sym _ _ _ (rStart fwL [13] [4] 5 0 (ptY P j) (fwC ps P j) [.cells (P.map aI)]) _
    rw [hst]
    generalize fwK ps P j=m at *
    obtain ⟨n,hn⟩:∃ n,dotL ps x=n:=⟨_,rfl⟩
    rw [hn] at hS
    have hmk:=mok_enc nd1
    have hlen:∀ y,(encM (fwSet m n y)).length≤maxLen:=fun y=>by
      have h1:=fwSet_len n y m
      have h2:(626:Nat)≤maxLen:=by decide
      simp only [encM,List.length_map];omega
    cases hg:fwGet m n with
    |none =>
      rw [hg] at hS
      repeat' (first|(apply nx;with_reducible constructor)|refine uq (by decide) ?_|((first|refine vz env fun Q hQ=>?_|refine vj fun Q hQ=>?_);simp only [vkt,seval,tbM3_126,xbM3_3,fwC,fwL,puL,p130,c131,c144,mAD,List.length_map,rStart,fw_lent,vav_enc,vok_enc,tov2,mget_enc,mset_enc,MapKept.IsKey,hPl,hxl,tx,hxo,hs,hn,hg,hmk,hlen];(try simp only [ite_and]);(repeat' (first|with_reducible assumption|refine And.intro ?_ ?_|intro hp));all_goals (first|(refine hQ _ ?_;clear hQ Q)|(refine hQ _ (fun h=>?_) (fun h=>?_) <;> clear hQ Q <;> (try simp only [vki,reduceCtorEq] at h))|omega|assumption|with_reducible rfl|(refine vq ?_;kernel_rfl)|skip)))
      refine ⟨rfl,rfl,some,_,RFin.ok some [] ?_⟩
      constructor
      all_goals (try simp only [vle,lentR,rensL,callRen,vkt,seval,tbM3_126,xbM3_3,fwC,fwL,puL,p130,c131,c144,mAD,List.length_map,rStart,fw_lent,vav_enc,vok_enc,tov2,mget_enc,mset_enc,MapKept.IsKey])
      all_goals first|rfl|exact congrArg encM hS.symm|(rw [hS,← hz];done)|(simp;done)
    |some y =>
      rw [hg] at hS
      have hyo:=fwGet_pu hg hfw
      have hyl:=hyo.len
      have ty:(y.map aI).take 4=y.map aI:=List.take_of_length_le (by simp [hyl])
      obtain ⟨z,hz⟩:∃ z,btr List.sum y x=z:=⟨_,rfl⟩
      have hzo:PuOk z:=by rw [← hz];unfold btr;split <;> assumption
      have hzl:=hzo.len
      have tz:(z.map aI).take 4=z.map aI:=List.take_of_length_le (by simp [hzl])
      have dz:(x.map aI).drop 4=[]:=List.drop_of_length_le (by simp [hxl])
      repeat' (first|(apply nx;with_reducible constructor)|refine uq (by decide) ?_|((first|refine vz env fun Q hQ=>?_|refine vj fun Q hQ=>?_);simp only [vkt,seval,tbM3_126,xbM3_3,fwC,fwL,puL,p130,c131,c144,mAD,List.length_map,rStart,fw_lent,vav_enc,vok_enc,tov2,mget_enc,mset_enc,MapKept.IsKey,hPl,hxl,tx,hxo,hs,hn,hg,hmk,hlen,hyo,hyl,ty,hz,hzl,tz,dz];(try simp only [ite_and]);(repeat' (first|with_reducible assumption|refine And.intro ?_ ?_|intro hp));all_goals (first|(refine hQ _ ?_;clear hQ Q)|(refine hQ _ (fun h=>?_) (fun h=>?_) <;> clear hQ Q <;> (try simp only [vki,reduceCtorEq] at h))|omega|assumption|with_reducible rfl|(refine vq ?_;kernel_rfl)|skip)))
      refine ⟨rfl,rfl,some,_,RFin.ok some [] ?_⟩
      constructor
      all_goals (try simp only [vle,lentR,rensL,callRen,vkt,seval,tbM3_126,xbM3_3,fwC,fwL,puL,p130,c131,c144,mAD,List.length_map,rStart,fw_lent,vav_enc,vok_enc,tov2,mget_enc,mset_enc,MapKept.IsKey])
      all_goals first|rfl|exact congrArg encM hS.symm|(rw [hS,← hz];done)|(simp;done)
  · have hN:fwK ps P (partsL P).length=fewL ps P:=by rw [fwK,List.take_length];rfl
    rw [fw_lent]
    simp only [fwC,hN]
    repeat' (first|(apply nx;with_reducible constructor)|refine uq (by decide) ?_|((first|refine vz env fun Q hQ=>?_|refine vj fun Q hQ=>?_);simp only [vkt,seval,tbM3_126,xbM3_3,fwC,fwL,puL,p130,c131,c144,mAD,List.length_map,rStart,fw_lent,vav_enc,vok_enc,tov2,mget_enc,mset_enc,MapKept.IsKey];(try simp only [ite_and]);(repeat' (first|with_reducible assumption|refine And.intro ?_ ?_|intro hp));all_goals (first|(refine hQ _ ?_;clear hQ Q)|(refine hQ _ (fun h=>?_) (fun h=>?_) <;> clear hQ Q <;> (try simp only [vki,reduceCtorEq] at h))|omega|assumption|with_reducible rfl|(refine vq ?_;kernel_rfl)|skip)))
    (simp only [vrt,Try.results126,vkt,seval,tbM3_126,xbM3_3,fwC,fwL,puL,p130,c131,c144,mAD,List.length_map,rStart,fw_lent,vav_enc,vok_enc,tov2,mget_enc,mset_enc,MapKept.IsKey];refine Fin.ok (fun _=>some 2) [] ?_ ?_ ?_ ?_ ?_ rfl;all_goals (try simp only [vle,vkt,seval,tbM3_126,xbM3_3,fwC,fwL,puL,p130,c131,c144,mAD,List.length_map,rStart,fw_lent,vav_enc,vok_enc,tov2,mget_enc,mset_enc,MapKept.IsKey]))
    all_goals first|rfl|(simp;done)
def p126 (_:St):List AV→Option Pk
  |[.agg cs,.sl xs]=>some { pre:=cs=(cs.map aD).map aI∧xs=(xs.map dInt).map eInt∧PuOk (cs.map aD)∧PzOk (xs.map dInt),ar:=[.agg cs,.sl xs],v:=.mp 0,L1:=[some (.map (encM (fewL (xs.map dInt) (cs.map aD))))] }
  |_=>none
theorem e126 {A:Frm→Prop}:EntryOK A Try.prog 126 (fnE p126):=fnE_ok fun S bs q h hp=>by
  unfold p126 at h
  split at h
  · cases h
    obtain ⟨h1,h2,h3,h4⟩:=hp
    have:=fewest_fn _ _ h3 h4
    simp only [aPu,aInts,← h1,← h2] at this
    exact this
  · cases h
end Go.Sym.B
namespace Go.Sym.B
open Go Go.Sym Go.Proofs Go.Sym.C
def p88x (S:St):List AV→Option Pk
  |[.psl id off n _]=>match S.h id with
    |some (.cells cs)=>some { pre:=off+n≤cs.length∧(cs.drop off).take n=(((cs.drop off).take n).map aD).map aI∧n≤100000,bo:=[id],ar:=[.sl ((((cs.drop off).take n).map aD).map eInt)],v:=.row 0,L1:=[some (.row 3 1 ((((cs.drop off).take n).map aD).map eInt))],fl:=true }
    |_=>none
  |[.sl xs]=>some { pre:=rowsOK 1 xs∧xs.length≤100000,ar:=[.sl xs],v:=.row 0,L1:=[some (.row 3 1 xs)] }
  |_=>none
theorem e88x {A:Frm→Prop}:EntryOK A Try.prog 88 (fnE p88x):=fnE_ok fun S bs q h hp=>by
  unfold p88x at h
  split at h
  · split at h
    · cases h
      obtain ⟨h1,h2,h3⟩:=hp
      exact clone88 _ (by rw [rows_eInt];trivial) (by simp;omega)
    · cases h
  · cases h;exact clone88 _ hp.1 hp.2
  · cases h
theorem dvp_aI:∀ l:List Int,dvP (l.map aI)=some (l.map fun n=>DV.v (.int .i64 n))
  |[]=>rfl
  |n :: l=>by simp only [List.map_cons,aI,dvP,dvp_aI l];rfl
theorem one_dv (l:List Int):(l.map fun n=>DV.v (.int .i64 n)).map (fun d=>[d])=l.map eInt:=by simp [Function.comp_def,eInt]
theorem flat_dv {l:List Int} {r:List DV} {d:DV} (hr:r ∈ l.map eInt) (hd:d ∈ r):∃ x,d=.v x:=by
  obtain ⟨n,_,rfl⟩:=List.mem_map.1 hr
  simp [eInt] at hd
  exact ⟨_,hd⟩
end Go.Sym.B
namespace Go.Sym.B
open Go Go.Sym Go.Proofs Go.Sym.C
def pkG {α:Type} (c:α→Int) (f:α→Bool) (o:Option α) (x:α):Option α :=
  if f x=true then (match o with|some y=>some (btr c y x)|none=>some x) else o
def pkL {α:Type} (c:α→Int) (f:α→Bool) (l:List α):Option α:=l.foldl (pkG c f) none
theorem btr_or {α:Type} (c:α→Int) (a b:α):(btr c a b=a∨btr c a b=b)∧c (btr c a b)≤c a∧c (btr c a b)≤c b:=by
  unfold btr
  by_cases h:c b < c a
  · rw [if_pos h];exact ⟨.inr rfl,by omega,by omega⟩
  · rw [if_neg h];exact ⟨.inl rfl,by omega,by omega⟩
theorem pkG_none {α:Type} {c:α→Int} {f:α→Bool} {a:α} (hf:f a=true):pkG c f none a=some a:=by unfold pkG;rw [if_pos hf]
theorem pkG_some {α:Type} {c:α→Int} {f:α→Bool} {a y:α} (hf:f a=true):pkG c f (some y) a=some (btr c y a):=by unfold pkG;rw [if_pos hf]
theorem pk_some {α:Type} {c:α→Int} {f:α→Bool}:∀ {l:List α} {o:Option α} {r:α},l.foldl (pkG c f) o=some r→(o=some r∨(r ∈ l∧f r=true))∧(∀ y,o=some y→c r≤c y)∧∀ x ∈ l,f x=true→c r≤c x
  |[],o,r,h=>⟨.inl h,fun y hy=>by rw [List.foldl_nil] at h;rw [h] at hy;cases hy;exact Int.le_refl _,by simp⟩
  |a :: l,o,r,h=>by
    rw [List.foldl_cons] at h
    obtain ⟨h1,h2,h3⟩:=pk_some h
    cases hf:f a with
    |false =>
      have e:pkG c f o a=o:=by unfold pkG;rw [hf,if_neg (by simp)]
      rw [e] at h1 h2
      refine ⟨h1.imp id fun h=>⟨List.mem_cons_of_mem _ h.1,h.2⟩,h2,fun x hx hfx=>?_⟩
      rcases List.mem_cons.1 hx with rfl|hx
      · rw [hf] at hfx;cases hfx
      · exact h3 x hx hfx
    |true =>
      cases o with
      |none =>
        rw [pkG_none hf] at h1 h2
        have h4:=h2 a rfl
        refine ⟨.inr ?_,fun y hy=>(by cases hy),fun x hx hfx=>?_⟩
        · rcases h1 with h1|h1
          · cases h1;exact ⟨List.mem_cons_self,hf⟩
          · exact ⟨List.mem_cons_of_mem _ h1.1,h1.2⟩
        · rcases List.mem_cons.1 hx with rfl|hx
          · exact h4
          · exact h3 x hx hfx
      |some y =>
        rw [pkG_some hf] at h1 h2
        have h4:=h2 _ rfl
        obtain ⟨b1,b2,b3⟩:=btr_or c y a
        refine ⟨?_,fun z hz=>(by cases hz;omega),fun x hx hfx=>?_⟩
        · rcases h1 with h1|h1
          · cases h1
            rcases b1 with b1|b1
            · rw [b1];exact .inl rfl
            · rw [b1];exact .inr ⟨List.mem_cons_self,hf⟩
          · exact .inr ⟨List.mem_cons_of_mem _ h1.1,h1.2⟩
        · rcases List.mem_cons.1 hx with rfl|hx
          · omega
          · exact h3 x hx hfx
theorem pk_map {α β:Type} {c:α→Int} {d:β→Int} {f:β→Bool} {g:α→β} (hc:∀ x,d (g x)=c x):∀ (l:List α) (o:Option α),(l.map g).foldl (pkG d f) (o.map g)=(l.foldl (pkG c fun x=>f (g x)) o).map g
  |[],o=>rfl
  |a :: l,o=>by
    rw [List.map_cons,List.foldl_cons,List.foldl_cons,← pk_map hc l]
    congr 1
    unfold pkG
    cases hf:f (g a) with
    |false=>simp [hf]
    |true =>
      cases o with
      |none=>simp [hf]
      |some y =>
        simp only [hf,if_true,Option.map_some]
        unfold btr
        rw [hc,hc]
        split <;> rfl
theorem pk_congr {α:Type} {c:α→Int} {f g:α→Bool}:∀ {l:List α} {o:Option α},(∀ x ∈ l,f x=g x)→l.foldl (pkG c f) o=l.foldl (pkG c g) o
  |[],_,_=>rfl
  |a :: l,o,h=>by
    rw [List.foldl_cons,List.foldl_cons,pk_congr fun x hx=>h x (List.mem_cons_of_mem _ hx)]
    unfold pkG
    rw [h a List.mem_cons_self]
def pkC {α:Type} (c:α→Int):Option α→Option α→Option α
  |o,none=>o
  |none,some r=>some r
  |some b,some r=>some (btr c b r)
theorem btr_assoc {α:Type} (c:α→Int) (x y z:α):btr c (btr c x y) z=btr c x (btr c y z):=by
  unfold btr
  by_cases h1:c y < c x <;> by_cases h2:c z < c y <;> by_cases h3:c z < c x <;> simp only [h1,h2,h3,if_true,if_false] <;> omega
theorem pkC_assoc {α:Type} (c:α→Int) (o p q:Option α):pkC c (pkC c o p) q=pkC c o (pkC c p q):=by
  cases o <;> cases p <;> cases q <;> simp [pkC,btr_assoc]
theorem pk_one {α:Type} (c:α→Int) (f:α→Bool) (o:Option α) (a:α):pkG c f o a=pkC c o (pkG c f none a):=by
  unfold pkG
  cases f a <;> cases o <;> simp [pkC]
theorem pk_from {α:Type} {c:α→Int} {f:α→Bool}:∀ (l:List α) (o:Option α),l.foldl (pkG c f) o=pkC c o (pkL c f l)
  |[],o=>by cases o <;> rfl
  |a :: l,o=>by
    rw [pkL,List.foldl_cons,List.foldl_cons,pk_from l,pk_from l (pkG c f none a),pk_one,pkC_assoc]
theorem foldl_flat {α β γ:Type} (g:γ→β→γ) (f:α→List β):∀ (l:List α) (o:γ),(l.flatMap f).foldl g o=l.foldl (fun o x=>(f x).foldl g o) o
  |[],_=>rfl
  |a :: l,o=>by rw [List.flatMap_cons,List.foldl_append,foldl_flat g f l,List.foldl_cons]
theorem get_set (n k:Int) (x:List Int):∀ m,fwGet (fwSet m n x) k=if n=k then some x else fwGet m k
  |[]=>rfl
  |q :: m=>by
    have ih:=get_set n k x m
    simp only [fwSet]
    by_cases h:q.1=n
    · rw [if_pos h]
      simp only [fwGet]
      by_cases h1:n=k
      · rw [if_pos h1,if_pos h1]
      · rw [if_neg h1,if_neg h1,if_neg (by rw [h];exact h1)]
    · rw [if_neg h]
      simp only [fwGet]
      by_cases h1:q.1=k
      · rw [if_pos h1,if_pos h1,if_neg (by rw [← h1];exact fun e=>h e.symm)]
      · rw [if_neg h1,if_neg h1,ih]
theorem fold_get (ps:List Int) (n:Int):∀ (l:List (List Int)) (m:List (Int × List Int)),fwGet (l.foldl (fwStep ps) m) n=l.foldl (pkG List.sum fun x=>decide (dotL ps x=n)) (fwGet m n)
  |[],m=>rfl
  |a :: l,m=>by
    rw [List.foldl_cons,List.foldl_cons,fold_get ps n l]
    congr 1
    unfold fwStep pkG
    rw [get_set]
    by_cases h:dotL ps a=n
    · rw [if_pos h,if_pos (by simpa using h),h]
      cases fwGet m n <;> rfl
    · rw [if_neg h,if_neg (by simpa using h)]
def chs (ps:List Int) (d:List Int) (n:Int):Option (List Int):=pkL List.sum (fun x=>decide (dotL ps x=n)) (partsL d)
theorem few_get (ps P:List Int) (n:Int):fwGet (fewL ps P) n=chs ps P n:=fold_get ps n (partsL P) []
theorem zeros_parts:∀ k:Nat,partsL (List.replicate k (0:Int))=[List.replicate k 0]
  |0=>rfl
  |k+1=>by rw [List.replicate_succ,partsL,zeros_parts k];rfl
theorem parts_app (k:Nat):∀ l:List Int,partsL (l++List.replicate k 0)=(partsL l).map (·++List.replicate k 0)
  |[]=>by simp [partsL,zeros_parts]
  |p :: l=>by
    rw [List.cons_append,partsL,partsL,parts_app k l,List.map_flatMap]
    simp [Function.comp_def]
theorem dot_zeros (k:Nat):∀ ps:List Int,dotL ps (List.replicate k (0:Int))=0:=by
  induction k with
  |zero=>intro ps;cases ps <;> rfl
  |succ k ih=>intro ps;cases ps with
    |nil=>rfl
    |cons p ps=>rw [List.replicate_succ,dotL,ih];omega
theorem dot_app (k:Nat):∀ ps x:List Int,dotL ps (x++List.replicate k 0)=dotL ps x
  |[],x=>rfl
  |p :: ps,[]=>by rw [List.nil_append,dot_zeros];rfl
  |p :: ps,y :: x=>by rw [List.cons_append,dotL,dotL,dot_app k ps x]
theorem sum_app (k:Nat) (x:List Int):(x++List.replicate k (0:Int)).sum=x.sum:=by
  rw [List.sum_append]
  have:(List.replicate k (0:Int)).sum=0:=by
    induction k with
    |zero=>rfl
    |succ k ih=>rw [List.replicate_succ,List.sum_cons,ih];rfl
  omega
end Go.Sym.B
namespace Go.Sym.B
open Go Go.Sym Go.Proofs Go.Sym.C
def bgH (x:Int):List (Nat × AObj):=[(0,.cells [.v (.int .u64 x)])]
def xsh (s:Int) (k:Nat):Int:=IntKind.u64.wrap (BitVec.ofInt IntKind.u64.bits s ^^^ BitVec.ofInt IntKind.u64.bits (s.fdiv (2 ^ min k IntKind.u64.bits))).toNat
def nxS (x:Int):Int:=IntKind.u64.wrap (IntKind.u64.wrap (x * 2862933555777941757)+3037000493)
def nxV (x:Int):Int:=xsh (IntKind.u64.wrap (xsh (nxS x) 31 * 10723151780598845931)) 30
def tbG2_77:=vk @ty95 (vk @ty97 (vk @ti95.eq_1 @ti97.eq_1))
def xbG2_1:=vk @aI.eq_1 (vk @aB.eq_1 (@bgH.eq_1))
theorem next_fn (x:Int):Fn noB Try.prog 77 [.ptr 0 0] (hasg (bgH x)) (.v (.int .u64 (nxV x))) (hasg (bgH (nxS x))) 0:=by
  have env:Env (fun _=>True) Try.prog tyB (tab []):=mkEnv trivial
  refine Fn.of (A:=fun _=>True) (n0:=1) (D:=noD) (Fn0 Try.func77 rfl (fun vs w=>by kernel_rfl) (by kernel_rfl)) (by simp) (by simp [AV.ids]) ?_ (fun _ _ _ _=>trivial) noD_ok ?_
  · intro i o hi
    have h:=hasg_mem hi
    simp [bgH] at h
    rcases h with ⟨rfl,rfl⟩;simp [AObj.ids,AV.ids,AV.idsL]
  repeat' (first|(apply nx;with_reducible constructor)|refine uq (by decide) ?_|((first|refine vz env fun Q hQ=>?_|refine vj fun Q hQ=>?_);simp only [vkt,seval,tbG2_77,xbG2_1];(try simp only [ite_and]);(repeat' (first|with_reducible assumption|refine And.intro ?_ ?_|intro hp));all_goals (first|(refine hQ _ ?_;clear hQ Q)|(refine hQ _ (fun h=>?_) (fun h=>?_) <;> clear hQ Q <;> (try simp only [vki,reduceCtorEq] at h))|omega|assumption|with_reducible rfl|(refine vq ?_;kernel_rfl)|skip)))
  (simp only [vrt,Try.results77,vkt,seval,tbG2_77,xbG2_1];refine Fin.ok some [] ?_ ?_ ?_ ?_ ?_ rfl;all_goals (try simp only [vle,vkt,seval,tbG2_77,xbG2_1]))
  all_goals rfl
def p77 (S:St):List AV→Option Pk
  |[.ptr i 0]=>match S.h i with
    |some (.cells [.v (.int .u64 x)])=>some { hs:=[i],ar:=[.ptr 0 0],L0:=[.cells [.v (.int .u64 x)]],v:=.v (.int .u64 (nxV x)),L1:=[some (.cells [.v (.int .u64 (nxS x))])] }
    |_=>none
  |_=>none
theorem e77 {A:Frm→Prop}:EntryOK A Try.prog 77 (fnE p77):=fnE_ok fun S bs q h hp=>by
  unfold p77 at h
  split at h
  · split at h
    · cases h;exact next_fn _
    · cases h
  · cases h
def upV0 (x m:Int):Int:=if m < 1 then 0 else IntKind.i64.wrap (((nxV x).fdiv (2 ^ min 13 IntKind.u64.bits)).tmod (IntKind.u64.wrap (IntKind.i64.wrap (m+1))))
def upS0 (x m:Int):Int:=if m < 1 then x else nxS x
theorem up_ex:∃ f:Int→Int→Int × Int,∀ x m,f x m=(upV0 x m,upS0 x m):=⟨fun x m=>(upV0 x m,upS0 x m),fun _ _=>rfl⟩
noncomputable def upV (x m:Int):Int:=(Classical.choose up_ex x m).1
noncomputable def upS (x m:Int):Int:=(Classical.choose up_ex x m).2
theorem upV_eq (x m:Int):upV x m=upV0 x m:=by unfold upV;rw [Classical.choose_spec up_ex]
theorem upS_eq (x m:Int):upS x m=upS0 x m:=by unfold upS;rw [Classical.choose_spec up_ex]
theorem wrapU2 {n:Int} (h0:0≤n) (h1:n < 18446744073709551616):IntKind.u64.wrap n=n:=by
  unfold IntKind.wrap
  simp only [IntKind.bits,IntKind.signed]
  simp
  omega
theorem wrapU_nn (n:Int):0≤IntKind.u64.wrap n:=by
  unfold IntKind.wrap
  simp only [IntKind.bits,IntKind.signed]
  simp
  omega
theorem upV_bd {x m:Int} (h:m < 9223372036854775807):0≤upV x m∧(upV x m≤m∨upV x m=0):=by
  rw [upV_eq]
  unfold upV0
  split
  · exact ⟨Int.le_refl _,.inr rfl⟩
  · have h1:IntKind.i64.wrap (m+1)=m+1:=wrap64 (by omega) (by omega)
    have h2:IntKind.u64.wrap (m+1)=m+1:=wrapU2 (by omega) (by omega)
    rw [h1,h2]
    have h3:0≤(nxV x).fdiv (2 ^ min 13 IntKind.u64.bits):=Int.fdiv_nonneg (by unfold nxV xsh;exact wrapU_nn _) (by decide)
    rw [Int.tmod_eq_emod_of_nonneg h3]
    have h4:=Int.emod_nonneg ((nxV x).fdiv (2 ^ min 13 IntKind.u64.bits)) (show m+1 ≠ 0 by omega)
    have h5:=Int.emod_lt_of_pos ((nxV x).fdiv (2 ^ min 13 IntKind.u64.bits)) (show 0 < m+1 by omega)
    rw [wrap64 (by omega) (by omega)]
    omega
def tbG2_22:=vk @ty3 (vk @ty95 (vk @ti3.eq_1 @ti95.eq_1))
def xbG2_2:=vk @aI.eq_1 (vk @aB.eq_1 (vk @bgH.eq_1 (vk @p77.eq_1 (@p77.eq_2))))
theorem up_fn (x m:Int) (h:m < 9223372036854775807):Fn noB Try.prog 22 [.ptr 0 0,aI m] (hasg (bgH x)) (aI (upV x m)) (hasg (bgH (upS x m))) 0:=by
  have env:Env (fun _=>True) Try.prog tyB (tab [(77,fnE p77)]):=mkEnv ⟨e77,trivial⟩
  refine Fn.of (A:=fun _=>True) (n0:=1) (D:=noD) (Fn0 Try.func22 rfl (fun vs w=>by kernel_rfl) (by kernel_rfl)) (by simp) (by simp [AV.ids,AV.idsL,aI]) ?_ (fun _ _ _ _=>trivial) noD_ok ?_
  · intro i o hi
    have h:=hasg_mem hi
    simp [bgH] at h
    rcases h with ⟨rfl,rfl⟩;simp [AObj.ids,AV.ids,AV.idsL]
  rw [upV_eq,upS_eq]
  by_cases c1:m < 1
  · rw [show upV0 x m=0 from if_pos c1,show upS0 x m=x from if_pos c1]
    repeat' (first|(apply nx;with_reducible constructor)|refine uq (by decide) ?_|((first|refine vz env fun Q hQ=>?_|refine vj fun Q hQ=>?_);simp only [vkt,seval,tbG2_22,xbG2_2,c1];(try simp only [ite_and]);(repeat' (first|with_reducible assumption|refine And.intro ?_ ?_|intro hp));all_goals (first|(refine hQ _ ?_;clear hQ Q)|(refine hQ _ (fun h=>?_) (fun h=>?_) <;> clear hQ Q <;> (try simp only [vki,reduceCtorEq] at h))|omega|assumption|with_reducible rfl|(refine vq ?_;kernel_rfl)|skip)))
    (simp only [vrt,Try.results22,vkt,seval,tbG2_22,xbG2_2];refine Fin.ok some [] ?_ ?_ ?_ ?_ ?_ rfl;all_goals (try simp only [vle,vkt,seval,tbG2_22,xbG2_2]))
    all_goals simp
  · rw [show upV0 x m=_ from if_neg c1,show upS0 x m=_ from if_neg c1]
    have h1:IntKind.i64.wrap (m+1)=m+1:=wrap64 (by omega) (by omega)
    have h2:IntKind.u64.wrap (m+1)=m+1:=wrapU2 (by omega) (by omega)
    have h0:¬ m+1=0:=by omega
    repeat' (first|(apply nx;with_reducible constructor)|refine uq (by decide) ?_|((first|refine vz env fun Q hQ=>?_|refine vj fun Q hQ=>?_);simp only [vkt,seval,tbG2_22,xbG2_2,c1,h1,h2,h0];(try simp only [ite_and]);(repeat' (first|with_reducible assumption|refine And.intro ?_ ?_|intro hp));all_goals (first|(refine hQ _ ?_;clear hQ Q)|(refine hQ _ (fun h=>?_) (fun h=>?_) <;> clear hQ Q <;> (try simp only [vki,reduceCtorEq] at h))|omega|assumption|with_reducible rfl|(refine vq ?_;kernel_rfl)|skip)))
    (simp only [vrt,Try.results22,vkt,seval,tbG2_22,xbG2_2];refine Fin.ok some [] ?_ ?_ ?_ ?_ ?_ rfl;all_goals (try simp only [vle,vkt,seval,tbG2_22,xbG2_2]))
    all_goals (first|rfl|rw [h1,h2])
noncomputable def p22 (S:St):List AV→Option Pk
  |[.ptr i 0,.v (.int .i64 m)]=>match S.h i with
    |some (.cells [.v (.int .u64 x)])=>some { pre:=m < 9223372036854775807,hs:=[i],ar:=[.ptr 0 0,.v (.int .i64 m)],L0:=[.cells [.v (.int .u64 x)]],v:=.v (.int .i64 (upV x m)),L1:=[some (.cells [.v (.int .u64 (upS x m))])] }
    |_=>none
  |_=>none
theorem e22 {A:Frm→Prop}:EntryOK A Try.prog 22 (fnE p22):=fnE_ok fun S bs q h hp=>by
  unfold p22 at h
  split at h
  · split at h
    · cases h;exact up_fn _ _ hp
    · cases h
  · cases h
def tbG2_21:=vk @ty3 @ti3.eq_1
def xbG2_3:=vk @aI.eq_1 (vk @aB.eq_1 (vk @bgH.eq_1 (vk @p22.eq_1 (@p22.eq_2))))
theorem from_fn (x a b:Int) (h:-100000≤a∧a≤100000∧-100000≤b∧b≤100000):Fn noB Try.prog 21 [.ptr 0 0,aI a,aI b] (hasg (bgH x)) (aI (a+upV x (b - a))) (hasg (bgH (upS x (b - a)))) 0:=by
  have env:Env (fun _=>True) Try.prog tyB (tab [(22,fnE p22)]):=mkEnv ⟨e22,trivial⟩
  refine Fn.of (A:=fun _=>True) (n0:=1) (D:=noD) (Fn0 Try.func21 rfl (fun vs w=>by kernel_rfl) (by kernel_rfl)) (by simp) (by simp [AV.ids,AV.idsL,aI]) ?_ (fun _ _ _ _=>trivial) noD_ok ?_
  · intro i o hi
    have h:=hasg_mem hi
    simp [bgH] at h
    rcases h with ⟨rfl,rfl⟩;simp [AObj.ids,AV.ids,AV.idsL]
  have b1:=upV_bd (x:=x) (m:=b - a) (by omega)
  have h1:IntKind.i64.wrap (b - a)=b - a:=wrap64 (by omega) (by omega)
  have h2:IntKind.i64.wrap (a+upV x (b - a))=a+upV x (b - a):=wrap64 (by omega) (by omega)
  have h3:b - a < 9223372036854775807:=by omega
  repeat' (first|(apply nx;with_reducible constructor)|refine uq (by decide) ?_|((first|refine vz env fun Q hQ=>?_|refine vj fun Q hQ=>?_);simp only [vkt,seval,tbG2_21,xbG2_3,h1,h2];(try simp only [ite_and]);(repeat' (first|with_reducible assumption|refine And.intro ?_ ?_|intro hp));all_goals (first|(refine hQ _ ?_;clear hQ Q)|(refine hQ _ (fun h=>?_) (fun h=>?_) <;> clear hQ Q <;> (try simp only [vki,reduceCtorEq] at h))|omega|assumption|with_reducible rfl|(refine vq ?_;kernel_rfl)|skip)))
  (simp only [vrt,Try.results21,vkt,seval,tbG2_21,xbG2_3];refine Fin.ok some [] ?_ ?_ ?_ ?_ ?_ rfl;all_goals (try simp only [vle,vkt,seval,tbG2_21,xbG2_3]))
  all_goals rfl
noncomputable def p21 (S:St):List AV→Option Pk
  |[.ptr i 0,.v (.int .i64 a),.v (.int .i64 b)]=>match S.h i with
    |some (.cells [.v (.int .u64 x)])=>some { pre:=-100000≤a∧a≤100000∧-100000≤b∧b≤100000,hs:=[i],ar:=[.ptr 0 0,.v (.int .i64 a),.v (.int .i64 b)],L0:=[.cells [.v (.int .u64 x)]],v:=.v (.int .i64 (a+upV x (b - a))),L1:=[some (.cells [.v (.int .u64 (upS x (b - a)))])] }
    |_=>none
  |_=>none
theorem e21 {A:Frm→Prop}:EntryOK A Try.prog 21 (fnE p21):=fnE_ok fun S bs q h hp=>by
  unfold p21 at h
  split at h
  · split at h
    · cases h;exact from_fn _ _ _ hp
    · cases h
  · cases h
def nbK (l:List Int):Nat→Int
  |0=>11400714819323198485
  |k+1=>xsh (IntKind.u64.wrap (IntKind.u64.wrap (nbK l k+IntKind.u64.wrap (l.getD k 0)) * 13787848793156543929)) 29
def nbS (l:List Int):Int:=nbK l l.length
def nbI (l:List Int) (k:Nat):St:={ t:=asg [(0,aInts l),(3,.ptr 0 0),(4,aI k)],h:=hasg (bgH (nbK l k)),n:=1 }
def tbG2_20:=vk @ty3 (vk @ty22 (vk @ty95 (vk @ty97 (vk @ti3.eq_1 (vk @ti22.eq_1 (vk @ti95.eq_1 @ti97.eq_1))))))
def xbG2_4:=vk @aI.eq_1 (vk @aB.eq_1 (vk @bgH.eq_1 (vk @nbI.eq_1 (vk @aInts.eq_1 (vk @gInt (@eInt.eq_1))))))
theorem bag_fn (l:List Int) (hl:l.length≤maxLen):Fn noB Try.prog 20 [aInts l] noH (.ptr 0 0) (hasg (bgH (nbS l))) 0:=by
  have env:Env (fun _=>True) Try.prog tyB (tab []):=mkEnv trivial
  refine Fn.of (A:=fun _=>True) (n0:=0) (D:=noD) (Fn0 Try.func20 rfl (fun vs w=>by kernel_rfl) (by kernel_rfl)) (by simp) (by simp [AV.ids,AV.idsL,aInts]) (fun i o h=>by cases h) (fun _ _ _ _=>trivial) noD_ok ?_
  repeat' (first|(apply nx;with_reducible constructor)|refine uq (by decide) ?_|((first|refine vz env fun Q hQ=>?_|refine vj fun Q hQ=>?_);simp only [vkt,seval,tbG2_20,xbG2_4];(try simp only [ite_and]);(repeat' (first|with_reducible assumption|refine And.intro ?_ ?_|intro hp));all_goals (first|(refine hQ _ ?_;clear hQ Q)|(refine hQ _ (fun h=>?_) (fun h=>?_) <;> clear hQ Q <;> (try simp only [vki,reduceCtorEq] at h))|omega|assumption|with_reducible rfl|(refine vq ?_;kernel_rfl)|skip)))
  refine sym_loop (fun k:{ k:Nat // k≤l.length }=>nbI l k.1) (fun k=>l.length - k.1) ⟨0,Nat.zero_le _⟩ ?_ fun ⟨k,hk⟩=>?_
  · (refine Le.ok some [] ?_;constructor;all_goals (try simp only [vle,vkt,seval,tbG2_20,xbG2_4]))
    all_goals first|rfl|simp
  · repeat' (first|(apply nx;with_reducible constructor)|refine uq (by decide) ?_)
    (refine vz env fun Q hQ=>?_;simp only [vkt,seval,tbG2_20,xbG2_4];(try simp only [ite_and]);(repeat' (first|with_reducible assumption|refine And.intro ?_ ?_|intro hp));all_goals (first|(refine hQ _ ?_;clear hQ Q)|omega|assumption|with_reducible rfl|(refine vq ?_;kernel_rfl)|skip))
    repeat' (first|(apply nx;with_reducible constructor)|refine uq (by decide) ?_)
    (refine sym_cd (by simp only [vkt,seval,tbG2_20,xbG2_4];rfl) (fun h=>?_) (fun h=>?_) <;> (try simp only [vki,reduceCtorEq] at h))
    · have hlt:k < l.length:=by omega
      have e9:=wrap_succ hlt hl
      repeat' (first|(apply nx;with_reducible constructor)|refine uq (by decide) ?_|((first|refine vz env fun Q hQ=>?_|refine vj fun Q hQ=>?_);simp only [vkt,seval,tbG2_20,xbG2_4,e9];(try simp only [ite_and]);(repeat' (first|with_reducible assumption|refine And.intro ?_ ?_|intro hp));all_goals (first|(refine hQ _ ?_;clear hQ Q)|(refine hQ _ (fun h=>?_) (fun h=>?_) <;> clear hQ Q <;> (try simp only [vki,reduceCtorEq] at h))|omega|assumption|with_reducible rfl|(refine vq ?_;kernel_rfl)|skip)))
      refine ⟨⟨k+1,hlt⟩,by show l.length - (k+1) < l.length - k;omega,?_⟩
      (refine Le.ok some [] ?_;constructor;all_goals (try simp only [vle,vkt,seval,tbG2_20,xbG2_4]))
      all_goals first|rfl|(simp [e9];done)
    · have hkn:k=l.length:=by omega
      subst hkn
      repeat' (first|(apply nx;with_reducible constructor)|refine uq (by decide) ?_|((first|refine vz env fun Q hQ=>?_|refine vj fun Q hQ=>?_);simp only [vkt,seval,tbG2_20,xbG2_4];(try simp only [ite_and]);(repeat' (first|with_reducible assumption|refine And.intro ?_ ?_|intro hp));all_goals (first|(refine hQ _ ?_;clear hQ Q)|(refine hQ _ (fun h=>?_) (fun h=>?_) <;> clear hQ Q <;> (try simp only [vki,reduceCtorEq] at h))|omega|assumption|with_reducible rfl|(refine vq ?_;kernel_rfl)|skip)))
      (simp only [vrt,Try.results20,vkt,seval,tbG2_20,xbG2_4];refine Fin.ok some [] ?_ ?_ ?_ ?_ ?_ rfl;all_goals (try simp only [vle,vkt,seval,tbG2_20,xbG2_4]))
      all_goals rfl
def p20 (_:St):List AV→Option Pk
  |[.sl xs]=>some { pre:=xs=(xs.map dInt).map eInt∧xs.length≤maxLen,ar:=[.sl xs],v:=.ptr 0 0,L1:=[some (.cells [.v (.int .u64 (nbS (xs.map dInt)))])] }
  |_=>none
theorem e20 {A:Frm→Prop}:EntryOK A Try.prog 20 (fnE p20):=fnE_ok fun S bs q h hp=>by
  unfold p20 at h
  split at h <;> cases h
  have:=bag_fn (List.map dInt _) (by rw [List.length_map];exact hp.2)
  simp only [aInts,← hp.1] at this
  exact this
end Go.Sym.B
namespace Go.Sym.B
open Go Go.Sym Go.Proofs Go.Sym.C
structure RI (n0 d0 k:Nat) where
  n:Nat
  d:Nat
  n1:1≤n
  n2:n≤n0
  d1:1≤d
  d2:d≤d0
  e:n * d0=d * n0
  c:∀ j,k < j→j≤12→¬ (j ∣ n∧j ∣ d)
def RI.div {n0 d0 k:Nat} (i:RI n0 d0 k) (hk:2≤k) (h1:k ∣ i.n) (h2:k ∣ i.d):RI n0 d0 k where
  n:=i.n / k
  d:=i.d / k
  n1:=Nat.div_pos (Nat.le_of_dvd i.n1 h1) (by omega)
  n2:=Nat.le_trans (Nat.div_le_self _ _) i.n2
  d1:=Nat.div_pos (Nat.le_of_dvd i.d1 h2) (by omega)
  d2:=Nat.le_trans (Nat.div_le_self _ _) i.d2
  e:=by
    obtain ⟨a,ha⟩:=h1
    obtain ⟨b,hb⟩:=h2
    have:=i.e
    rw [ha,hb] at this ⊢
    rw [Nat.mul_div_cancel_left _ (by omega),Nat.mul_div_cancel_left _ (by omega)]
    rw [Nat.mul_assoc,Nat.mul_assoc] at this
    exact Nat.eq_of_mul_eq_mul_left (by omega) this
  c:=fun j hj hl h=>i.c j hj hl ⟨Nat.dvd_trans h.1 (Nat.div_dvd_of_dvd h1),Nat.dvd_trans h.2 (Nat.div_dvd_of_dvd h2)⟩
def RI.less {n0 d0 k:Nat} (i:RI n0 d0 (k+1)) (h:¬ (k+1 ∣ i.n∧k+1 ∣ i.d)):RI n0 d0 k where
  n:=i.n
  d:=i.d
  n1:=i.n1
  n2:=i.n2
  d1:=i.d1
  d2:=i.d2
  e:=i.e
  c:=fun j hj hl hh=>by
    rcases Nat.lt_or_eq_of_le (Nat.succ_le_of_lt hj) with h1|h1
    · exact i.c j h1 hl hh
    · subst h1;exact h hh
theorem RI.last {n0 d0:Nat} (i:RI n0 d0 1) (hd:d0≤12) (hd1:1≤d0):shQ (mkRat n0 d0)=⟨i.n,i.d⟩:=by
  have hg:Nat.gcd i.n i.d=1:=by
    have h1:=Nat.gcd_dvd_left i.n i.d
    have h2:=Nat.gcd_dvd_right i.n i.d
    have h3:0 < Nat.gcd i.n i.d:=Nat.gcd_pos_of_pos_left _ i.n1
    have h4:=Nat.le_of_dvd i.d1 h2
    have h5:=i.d2
    rcases Nat.lt_or_eq_of_le h3 with h6|h6
    · exact absurd ⟨h1,h2⟩ (i.c _ h6 (by omega))
    · exact h6.symm
  have hd0:d0 ≠ 0:=by omega
  have hid:i.d ≠ 0:=by have:=i.d1;omega
  have he:mkRat (n0:Int) d0=mkRat (i.n:Int) i.d:=by
    rw [Rat.mkRat_eq_iff hd0 hid]
    have:=i.e
    rw [Nat.mul_comm i.d] at this
    exact_mod_cast this.symm
  have hp:(0:Int) < (i.d:Int):=by have:=i.d1;omega
  have e1:=mk_num (a:=(i.n:Int)) hp
  have e2:=mk_den (a:=(i.n:Int)) hp
  simp only [Int.toNat_natCast,Int.natAbs_natCast,hg] at e1 e2
  simp only [shQ,he,e1,e2]
  simp
noncomputable def rtN (x:Int):Int:=1+upV (upS x (12 - 1)) (20 - 1)
noncomputable def rtD (x:Int):Int:=1+upV x (12 - 1)
noncomputable def rtV (x:Int):Sh:=shQ (mkRat (rtN x) (rtD x).toNat)
noncomputable def rtS (x:Int):Int:=upS (upS x (12 - 1)) (20 - 1)
theorem rt_bd7 (x:Int):(1≤rtN x∧rtN x≤20)∧1≤rtD x∧rtD x≤12:=by
  have h1:=upV_bd (x:=upS x (12 - 1)) (m:=20 - 1) (by decide)
  have h2:=upV_bd (x:=x) (m:=12 - 1) (by decide)
  unfold rtN rtD
  omega
def rtT (x:Int) (k n d:Nat):St:={ t:=asg [(2,.ptr 1 0),(3,aI d),(4,aI n),(5,aI k)],h:=hasg [(0,.cells [.v (.int .u64 x)]),(1,.cells [.v (.int .i64 0),.v (.int .i64 0)])],n:=2,m:=1 }
theorem tmodN (a b:Nat):((a:Int)).tmod (b:Int)=((a % b:Nat):Int):=rfl
theorem tdivN (a b:Nat):((a:Int)).tdiv (b:Int)=((a / b:Nat):Int):=rfl
theorem wdiv {a b:Nat} (h:a≤1000):IntKind.wrap .i64 ((a:Int).tdiv (b:Int))=((a / b:Nat):Int):=by
  rw [tdivN]
  have:=Nat.div_le_self a b
  generalize a / b=q at *
  exact wrap64 (by omega) (by omega)
def tbG7_84:=vk @ty3 (vk @ty59 (vk @ti3.eq_1 @ti59.eq_1))
def xbG7_1:=vk @aI.eq_1 (vk @aB.eq_1 (vk @aSh.eq_1 (vk @bgH.eq_1 (vk @p21.eq_1 (vk @p21.eq_2 (vk @rtT.eq_1 (@tmodN)))))))
theorem rateOf_fn (x:Int):Fn noB Try.prog 84 [.ptr 0 0] (hasg (bgH x)) (aSh (rtV x)) (hasg (bgH (rtS x))) 0:=by
  have env:Env (fun _=>True) Try.prog tyB (tab [(21,fnE p21)]):=mkEnv ⟨e21,trivial⟩
  refine Fn.of (A:=fun _=>True) (n0:=1) (D:=noD) (Fn0 Try.func84 rfl (fun vs w=>by kernel_rfl) (by kernel_rfl)) (by simp) (by simp [AV.ids]) ?_ (fun _ _ _ _=>trivial) noD_ok ?_
  · intro i o hi
    have h:=hasg_mem hi
    simp [bgH] at h
    rcases h with ⟨rfl,rfl⟩;simp [AObj.ids,AV.ids,AV.idsL]
  have hb:=rt_bd7 x
  obtain ⟨n0,hn0⟩:∃ n:Nat,rtN x=(n:Int):=⟨(rtN x).toNat,by omega⟩
  obtain ⟨d0,hd0⟩:∃ n:Nat,rtD x=(n:Int):=⟨(rtD x).toNat,by omega⟩
  rw [hn0,hd0] at hb
  have hV:rtV x=shQ (mkRat n0 d0):=by unfold rtV;rw [hn0,hd0];rfl
  have hn0':1+upV (upS x (12 - 1)) (20 - 1)=(n0:Int):=hn0
  have hd0':1+upV x (12 - 1)=(d0:Int):=hd0
  have hS:upS (upS x (12 - 1)) (20 - 1)=rtS x:=rfl
  repeat' (first|(apply nx;with_reducible constructor)|refine uq (by decide) ?_|((first|refine vz env fun Q hQ=>?_|refine vj fun Q hQ=>?_);simp only [vkt,seval,-Int.reduceSub,-Int.reduceAdd,-Int.reduceMul,tbG7_84,xbG7_1,hn0',hd0',hS];(try simp only [ite_and]);(repeat' (first|with_reducible assumption|refine And.intro ?_ ?_|intro hp));all_goals (first|(refine hQ _ ?_;clear hQ Q)|(refine hQ _ (fun h=>?_) (fun h=>?_) <;> clear hQ Q <;> (try simp only [vki,reduceCtorEq] at h))|omega|assumption|with_reducible rfl|(refine vq ?_;kernel_rfl)|skip)))
  refine sym_loop (fun i:(k:{ k:Nat // 1≤k∧k≤12 }) × RI n0 d0 k.1=>rtT (rtS x) i.1.1 i.2.n i.2.d) (fun i=>i.1.1) ⟨⟨12,by decide⟩,⟨n0,d0,by omega,Nat.le_refl _,by omega,Nat.le_refl _,Nat.mul_comm _ _,fun j h1 h2=>by have:12 < j:=h1;omega⟩⟩ ?_ fun ⟨⟨k,hk⟩,i⟩=>?_
  · (refine Le.ok some [] ?_;constructor;all_goals (try simp only [vle,vkt,seval,-Int.reduceSub,-Int.reduceAdd,-Int.reduceMul,tbG7_84,xbG7_1]))
    all_goals first|rfl|(simp;done)
  · repeat' (first|(apply nx;with_reducible constructor)|refine uq (by decide) ?_)
    (refine vz env fun Q hQ=>?_;simp only [vkt,seval,-Int.reduceSub,-Int.reduceAdd,-Int.reduceMul,tbG7_84,xbG7_1];(try simp only [ite_and]);(repeat' (first|with_reducible assumption|refine And.intro ?_ ?_|intro hp));all_goals (first|(refine hQ _ ?_;clear hQ Q)|omega|assumption|with_reducible rfl|(refine vq ?_;kernel_rfl)|skip))
    repeat' (first|(apply nx;with_reducible constructor)|refine uq (by decide) ?_)
    (refine sym_cd (by simp only [vkt,seval,-Int.reduceSub,-Int.reduceAdd,-Int.reduceMul,tbG7_84,xbG7_1];rfl) (fun h=>?_) (fun h=>?_) <;> (try simp only [vki,reduceCtorEq] at h))
    · have hk2:1 < k:=by omega
      repeat' (first|(apply nx;with_reducible constructor)|refine uq (by decide) ?_)
      refine sym_loop (fun i:RI n0 d0 k=>rtT (rtS x) k i.n i.d) (fun i=>i.n) i ?_ fun i=>?_
      · (refine Le.ok some [] ?_;constructor;all_goals (try simp only [vle,vkt,seval,-Int.reduceSub,-Int.reduceAdd,-Int.reduceMul,tbG7_84,xbG7_1]))
        all_goals first|rfl|(simp;done)
      · have i1:=i.n1
        have i2:=i.n2
        have i3:=i.d1
        have i4:=i.d2
        have nz:¬ (k:Int)=0:=by omega
        have r1:i.n % k=0 ↔ k ∣ i.n:=(Nat.dvd_iff_mod_eq_zero ..).symm
        have r2:i.d % k=0 ↔ k ∣ i.d:=(Nat.dvd_iff_mod_eq_zero ..).symm
        have w1:IntKind.wrap .i64 ((i.n:Int).tdiv (k:Int))=((i.n / k:Nat):Int):=wdiv (by omega)
        have w2:IntKind.wrap .i64 ((i.d:Int).tdiv (k:Int))=((i.d / k:Nat):Int):=wdiv (by omega)
        have w3:IntKind.wrap .i64 ((k:Int) - 1)=((k - 1:Nat):Int):=by rw [wrap64 (by omega) (by omega)];omega
        by_cases c1:i.n % k=0
        · by_cases c2:i.d % k=0
          · have c1':(((i.n % k:Nat):Int)=0):=by omega
            have c2':(((i.d % k:Nat):Int)=0):=by omega
            repeat' (first|(apply nx;with_reducible constructor)|refine uq (by decide) ?_|((first|refine vz env fun Q hQ=>?_|refine vj fun Q hQ=>?_);simp only [vkt,seval,-Int.reduceSub,-Int.reduceAdd,-Int.reduceMul,tbG7_84,xbG7_1,nz,c1',c2',w1,w2];(try simp only [ite_and]);(repeat' (first|with_reducible assumption|refine And.intro ?_ ?_|intro hp));all_goals (first|(refine hQ _ ?_;clear hQ Q)|(refine hQ _ (fun h=>?_) (fun h=>?_) <;> clear hQ Q <;> (try simp only [vki,reduceCtorEq] at h))|omega|assumption|with_reducible rfl|(refine vq ?_;kernel_rfl)|skip)))
            refine ⟨i.div (by omega) (r1.1 c1) (r2.1 c2),by show i.n / k < i.n;exact Nat.div_lt_self (by omega) hk2,?_⟩
            (refine Le.ok some [] ?_;constructor;all_goals (try simp only [vle,vkt,seval,-Int.reduceSub,-Int.reduceAdd,-Int.reduceMul,tbG7_84,xbG7_1]))
            all_goals first|rfl|(simp [RI.div];done)
          · have c1':(((i.n % k:Nat):Int)=0):=by omega
            have c2':¬ (((i.d % k:Nat):Int)=0):=by omega
            obtain ⟨m,rfl⟩:∃ m,k=m+1:=⟨k - 1,by omega⟩
            repeat' (first|(apply nx;with_reducible constructor)|refine uq (by decide) ?_|((first|refine vz env fun Q hQ=>?_|refine vj fun Q hQ=>?_);simp only [vkt,seval,-Int.reduceSub,-Int.reduceAdd,-Int.reduceMul,tbG7_84,xbG7_1,nz,c1',c2',w3];(try simp only [ite_and]);(repeat' (first|with_reducible assumption|refine And.intro ?_ ?_|intro hp));all_goals (first|(refine hQ _ ?_;clear hQ Q)|(refine hQ _ (fun h=>?_) (fun h=>?_) <;> clear hQ Q <;> (try simp only [vki,reduceCtorEq] at h))|omega|assumption|with_reducible rfl|(refine vq ?_;kernel_rfl)|skip)))
            refine ⟨⟨⟨m,by omega,by omega⟩,i.less fun h=>c2 (r2.2 h.2)⟩,by show m < m+1;omega,?_⟩
            (refine Le.ok some [] ?_;constructor;all_goals (try simp only [vle,vkt,seval,-Int.reduceSub,-Int.reduceAdd,-Int.reduceMul,tbG7_84,xbG7_1]))
            all_goals first|rfl|(simp [RI.less];done)
        · have c1':¬ (((i.n % k:Nat):Int)=0):=by omega
          obtain ⟨m,rfl⟩:∃ m,k=m+1:=⟨k - 1,by omega⟩
          repeat' (first|(apply nx;with_reducible constructor)|refine uq (by decide) ?_|((first|refine vz env fun Q hQ=>?_|refine vj fun Q hQ=>?_);simp only [vkt,seval,-Int.reduceSub,-Int.reduceAdd,-Int.reduceMul,tbG7_84,xbG7_1,nz,c1',w3];(try simp only [ite_and]);(repeat' (first|with_reducible assumption|refine And.intro ?_ ?_|intro hp));all_goals (first|(refine hQ _ ?_;clear hQ Q)|(refine hQ _ (fun h=>?_) (fun h=>?_) <;> clear hQ Q <;> (try simp only [vki,reduceCtorEq] at h))|omega|assumption|with_reducible rfl|(refine vq ?_;kernel_rfl)|skip)))
          refine ⟨⟨⟨m,by omega,by omega⟩,i.less fun h=>c1 (r1.2 h.1)⟩,by show m < m+1;omega,?_⟩
          (refine Le.ok some [] ?_;constructor;all_goals (try simp only [vle,vkt,seval,-Int.reduceSub,-Int.reduceAdd,-Int.reduceMul,tbG7_84,xbG7_1]))
          all_goals first|rfl|(simp [RI.less];done)
    · have hk1:k=1:=by omega
      subst hk1
      have hl:=i.last (by omega) (by omega)
      rw [hV,hl]
      repeat' (first|(apply nx;with_reducible constructor)|refine uq (by decide) ?_|((first|refine vz env fun Q hQ=>?_|refine vj fun Q hQ=>?_);simp only [vkt,seval,-Int.reduceSub,-Int.reduceAdd,-Int.reduceMul,tbG7_84,xbG7_1];(try simp only [ite_and]);(repeat' (first|with_reducible assumption|refine And.intro ?_ ?_|intro hp));all_goals (first|(refine hQ _ ?_;clear hQ Q)|(refine hQ _ (fun h=>?_) (fun h=>?_) <;> clear hQ Q <;> (try simp only [vki,reduceCtorEq] at h))|omega|assumption|with_reducible rfl|(refine vq ?_;kernel_rfl)|skip)))
      (simp only [vrt,Try.results84,vkt,seval,-Int.reduceSub,-Int.reduceAdd,-Int.reduceMul,tbG7_84,xbG7_1];refine Fin.ok some [] ?_ ?_ ?_ ?_ ?_ rfl;all_goals (try simp only [vle,vkt,seval,-Int.reduceSub,-Int.reduceAdd,-Int.reduceMul,tbG7_84,xbG7_1]))
      all_goals first|rfl|(simp;done)
noncomputable def p84 (S:St):List AV→Option Pk
  |[.ptr i 0]=>match S.h i with
    |some (.cells [.v (.int .u64 x)])=>some { hs:=[i],ar:=[.ptr 0 0],L0:=[.cells [.v (.int .u64 x)]],v:=.agg [.v (.int .i64 (rtV x).num),.v (.int .i64 (rtV x).den)],L1:=[some (.cells [.v (.int .u64 (rtS x))])],fl:=true }
    |_=>none
  |_=>none
theorem e84 {A:Frm→Prop}:EntryOK A Try.prog 84 (fnE p84):=fnE_ok fun S bs q h hp=>by
  unfold p84 at h
  split at h
  · split at h
    · cases h;exact rateOf_fn _
    · cases h
  · cases h
noncomputable def oneV (x:Int) (l:List Int):Int:=l.getD (upV x ((l.length:Int) - 1)).toNat 0
theorem upV_le {x m:Int} (h0:0≤m) (h:m < 9223372036854775807):0≤upV x m∧upV x m≤m:=by
  have:=upV_bd (x:=x) h;omega
theorem oneV_mem {x:Int} {l:List Int} (h1:1≤l.length) (h2:l.length≤100):oneV x l ∈ l:=by
  have:=upV_le (x:=x) (m:=(l.length:Int) - 1) (by omega) (by omega)
  exact gMem (by omega)
def tbG7_85:=vk @ty3 (vk @ty22 (vk @ti3.eq_1 @ti22.eq_1))
def xbG7_2:=vk @aI.eq_1 (vk @aB.eq_1 (vk @aInts.eq_1 (vk @bgH.eq_1 (vk @p22.eq_1 (vk @p22.eq_2 (vk @gInt (@eInt.eq_1)))))))
theorem one_fn (x:Int) (l:List Int) (h1:1≤l.length) (h2:l.length≤100):Fn noB Try.prog 85 [.ptr 0 0,aInts l] (hasg (bgH x)) (aI (oneV x l)) (hasg (bgH (upS x ((l.length:Int) - 1)))) 0:=by
  have env:Env (fun _=>True) Try.prog tyB (tab [(22,fnE p22)]):=mkEnv ⟨e22,trivial⟩
  refine Fn.of (A:=fun _=>True) (n0:=1) (D:=noD) (Fn0 Try.func85 rfl (fun vs w=>by kernel_rfl) (by kernel_rfl)) (by simp) (by simp [AV.ids,AV.idsL,aInts]) ?_ (fun _ _ _ _=>trivial) noD_ok ?_
  · intro i o hi
    have h:=hasg_mem hi
    simp [bgH] at h
    rcases h with ⟨rfl,rfl⟩;simp [AObj.ids,AV.ids,AV.idsL]
  have hu:=upV_le (x:=x) (m:=(l.length:Int) - 1) (by omega) (by omega)
  have w1:IntKind.wrap .i64 ((l.length:Int) - 1)=(l.length:Int) - 1:=wrap64 (by omega) (by omega)
  have nz:¬ (l.length:Int)=0:=by omega
  have h3:(l.length:Int) - 1 < 9223372036854775807:=by omega
  have h4:(upV x ((l.length:Int) - 1)).toNat < l.length:=by omega
  repeat' (first|(apply nx;with_reducible constructor)|refine uq (by decide) ?_|((first|refine vz env fun Q hQ=>?_|refine vj fun Q hQ=>?_);simp only [vkt,seval,-Int.reduceSub,-Int.reduceAdd,-Int.reduceMul,tbG7_85,xbG7_2,w1,nz];(try simp only [ite_and]);(repeat' (first|with_reducible assumption|refine And.intro ?_ ?_|intro hp));all_goals (first|(refine hQ _ ?_;clear hQ Q)|(refine hQ _ (fun h=>?_) (fun h=>?_) <;> clear hQ Q <;> (try simp only [vki,reduceCtorEq] at h))|omega|assumption|with_reducible rfl|(refine vq ?_;kernel_rfl)|skip)))
  (simp only [vrt,Try.results85,vkt,seval,-Int.reduceSub,-Int.reduceAdd,-Int.reduceMul,tbG7_85,xbG7_2];refine Fin.ok some [] ?_ ?_ ?_ ?_ ?_ rfl;all_goals (try simp only [vle,vkt,seval,-Int.reduceSub,-Int.reduceAdd,-Int.reduceMul,tbG7_85,xbG7_2]))
  all_goals first|rfl|(simp;done)
noncomputable def p85 (S:St):List AV→Option Pk
  |[.ptr i 0,.row r]=>match S.h i with
    |some (.cells [.v (.int .u64 x)])=>match S.h r with
      |some (.row _ _ xs)=>some { pre:=xs=(xs.map dInt).map eInt∧1≤xs.length∧xs.length≤100,hs:=[i],bo:=[r],ar:=[.ptr 0 0,.sl xs],L0:=[.cells [.v (.int .u64 x)]],v:=.v (.int .i64 (oneV x (xs.map dInt))),L1:=[some (.cells [.v (.int .u64 (upS x ((xs.length:Int) - 1)))])],fl:=true }
      |_=>none
    |_=>none
  |_=>none
theorem e85 {A:Frm→Prop}:EntryOK A Try.prog 85 (fnE p85):=fnE_ok fun S bs q h hp=>by
  unfold p85 at h
  split at h
  · split at h
    · split at h
      · cases h
        obtain ⟨h1,h2,h3⟩:=hp
        rename_i x _ _ _ _ xs _
        have:=one_fn x (List.map dInt xs) (by rw [List.length_map];exact h2) (by rw [List.length_map];exact h3)
        simp only [aInts,← h1,List.length_map] at this
        exact this
      · cases h
    · cases h
  · cases h
def tbG7_71:=vk @ty3 @ti3.eq_1
def xbG7_3:=vk @aI.eq_1 (vk @aB.eq_1 (vk @aInts.eq_1 (vk @bgH.eq_1 (vk @p22.eq_1 (@p22.eq_2)))))
theorem chance_fn (x n m:Int) (h1:1≤m) (h2:m≤1000):Fn noB Try.prog 71 [.ptr 0 0,aI n,aI m] (hasg (bgH x)) (aB (decide (upV x (m - 1) < n))) (hasg (bgH (upS x (m - 1)))) 0:=by
  have env:Env (fun _=>True) Try.prog tyB (tab [(22,fnE p22)]):=mkEnv ⟨e22,trivial⟩
  refine Fn.of (A:=fun _=>True) (n0:=1) (D:=noD) (Fn0 Try.func71 rfl (fun vs w=>by kernel_rfl) (by kernel_rfl)) (by simp) (by simp [AV.ids,AV.idsL,aI]) ?_ (fun _ _ _ _=>trivial) noD_ok ?_
  · intro i o hi
    have h:=hasg_mem hi
    simp [bgH] at h
    rcases h with ⟨rfl,rfl⟩;simp [AObj.ids,AV.ids,AV.idsL]
  have w1:IntKind.wrap .i64 (m - 1)=m - 1:=wrap64 (by omega) (by omega)
  have h3:m - 1 < 9223372036854775807:=by omega
  repeat' (first|(apply nx;with_reducible constructor)|refine uq (by decide) ?_|((first|refine vz env fun Q hQ=>?_|refine vj fun Q hQ=>?_);simp only [vkt,seval,-Int.reduceSub,-Int.reduceAdd,-Int.reduceMul,tbG7_71,xbG7_3,w1];(try simp only [ite_and]);(repeat' (first|with_reducible assumption|refine And.intro ?_ ?_|intro hp));all_goals (first|(refine hQ _ ?_;clear hQ Q)|(refine hQ _ (fun h=>?_) (fun h=>?_) <;> clear hQ Q <;> (try simp only [vki,reduceCtorEq] at h))|omega|assumption|with_reducible rfl|(refine vq ?_;kernel_rfl)|skip)))
  (simp only [vrt,Try.results71,vkt,seval,-Int.reduceSub,-Int.reduceAdd,-Int.reduceMul,tbG7_71,xbG7_3];refine Fin.ok some [] ?_ ?_ ?_ ?_ ?_ rfl;all_goals (try simp only [vle,vkt,seval,-Int.reduceSub,-Int.reduceAdd,-Int.reduceMul,tbG7_71,xbG7_3]))
  all_goals first|rfl|(simp;done)
noncomputable def p71 (S:St):List AV→Option Pk
  |[.ptr i 0,.v (.int .i64 n),.v (.int .i64 m)]=>match S.h i with
    |some (.cells [.v (.int .u64 x)])=>some { pre:=1≤m∧m≤1000,hs:=[i],ar:=[.ptr 0 0,.v (.int .i64 n),.v (.int .i64 m)],L0:=[.cells [.v (.int .u64 x)]],v:=.v (.bool (decide (upV x (m - 1) < n))),L1:=[some (.cells [.v (.int .u64 (upS x (m - 1)))])],fl:=true }
    |_=>none
  |_=>none
theorem e71 {A:Frm→Prop}:EntryOK A Try.prog 71 (fnE p71):=fnE_ok fun S bs q h hp=>by
  unfold p71 at h
  split at h
  · split at h
    · cases h;exact chance_fn _ _ _ hp.1 hp.2
    · cases h
  · cases h
def foldV (x n:Int):Int:=if n < 2 then 0 else (x.tmod n+n).tmod n
def tbG7_54:=vk @ty3 @ti3.eq_1
def xbG7_4:=vk @aI.eq_1 (@aB.eq_1)
theorem fold_fn (x n:Int) (h2:n≤1000000):FnV Try.prog 54 [aI x,aI n] (aI (foldV x n)):=by
  have env:Env (fun _=>True) Try.prog tyB (tab []):=mkEnv trivial
  refine Fn.of (A:=fun _=>True) (n0:=0) (D:=noD) (Fn0 Try.func54 rfl (fun vs w=>by kernel_rfl) (by kernel_rfl)) (by simp) (by simp [AV.ids,AV.idsL,aI]) (fun i o h=>by cases h) (fun _ _ _ _=>trivial) noD_ok ?_
  by_cases c1:n < 2
  · repeat' (first|(apply nx;with_reducible constructor)|refine uq (by decide) ?_|((first|refine vz env fun Q hQ=>?_|refine vj fun Q hQ=>?_);simp only [vkt,seval,-Int.reduceSub,-Int.reduceAdd,-Int.reduceMul,tbG7_54,xbG7_4,c1];(try simp only [ite_and]);(repeat' (first|with_reducible assumption|refine And.intro ?_ ?_|intro hp));all_goals (first|(refine hQ _ ?_;clear hQ Q)|(refine hQ _ (fun h=>?_) (fun h=>?_) <;> clear hQ Q <;> (try simp only [vki,reduceCtorEq] at h))|omega|assumption|with_reducible rfl|(refine vq ?_;kernel_rfl)|skip)))
    (simp only [vrt,Try.results54,vkt,seval,-Int.reduceSub,-Int.reduceAdd,-Int.reduceMul,tbG7_54,xbG7_4];refine Fin.val rfl ?_;(try simp only [AV.le,AV.leL]))
    all_goals simp [foldV,c1]
  · have nz:¬ n=0:=by omega
    have h3:x.tmod n < n:=Int.tmod_lt_of_pos x (by omega)
    have h5:-n < x.tmod n:=Int.lt_tmod_of_pos x (by omega)
    have w1:IntKind.wrap .i64 (x.tmod n+n)=x.tmod n+n:=wrap64 (by omega) (by omega)
    repeat' (first|(apply nx;with_reducible constructor)|refine uq (by decide) ?_|((first|refine vz env fun Q hQ=>?_|refine vj fun Q hQ=>?_);simp only [vkt,seval,-Int.reduceSub,-Int.reduceAdd,-Int.reduceMul,tbG7_54,xbG7_4,c1,nz,w1];(try simp only [ite_and]);(repeat' (first|with_reducible assumption|refine And.intro ?_ ?_|intro hp));all_goals (first|(refine hQ _ ?_;clear hQ Q)|(refine hQ _ (fun h=>?_) (fun h=>?_) <;> clear hQ Q <;> (try simp only [vki,reduceCtorEq] at h))|omega|assumption|with_reducible rfl|(refine vq ?_;kernel_rfl)|skip)))
    (simp only [vrt,Try.results54,vkt,seval,-Int.reduceSub,-Int.reduceAdd,-Int.reduceMul,tbG7_54,xbG7_4];refine Fin.val rfl ?_;(try simp only [AV.le,AV.leL]))
    all_goals simp [foldV,c1]
def s54:List AV→Prop × AV
  |[.v (.int .i64 x),.v (.int .i64 n)]=>(n≤1000000,aI (foldV x n))
  |_=>(False,.junk)
theorem e54 {A:Frm→Prop}:EntryOK A Try.prog 54 (valE true s54):=valE_ok fun vs _ h=>by
  unfold s54 at h ⊢
  split at h
  · exact ⟨trivial,fun _=>trivial,fold_fn _ _ h⟩
  · exact h.elim
theorem foldV_bd {x n:Int} (h:1≤n):0≤foldV x n∧foldV x n < n:=by
  unfold foldV
  split
  · omega
  · have h5:-n < x.tmod n:=Int.lt_tmod_of_pos x (by omega)
    have h1:0≤x.tmod n+n:=by omega
    rw [Int.tmod_eq_emod_of_nonneg h1]
    exact ⟨Int.emod_nonneg _ (by omega),Int.emod_lt_of_pos _ (by omega)⟩
end Go.Sym.B
namespace Go.Sym.B
open Go Go.Sym Go.Proofs Go.Sym.C
noncomputable def pcK (x:Int):Nat→List Int × Int
  |0=>([1],x)
  |k+1=>((pcK x k).1++[(pcK x k).1.getD k 0+(1+upV (pcK x k).2 (12 - 1))],upS (pcK x k).2 (12 - 1))
structure PcOk (p:List Int) (k:Nat):Prop where
  len:p.length=k+1
  one:p.getD 0 0=1
  up:∀ i,i < k→p.getD i 0 < p.getD (i+1) 0
  le:∀ i,i≤k→1≤p.getD i 0∧p.getD i 0≤1+12 * (i:Int)
theorem getD_snocL {α:Type} {l:List α} {v d:α} {i:Nat} (h:i < l.length):(l++[v]).getD i d=l.getD i d:=by
  simp [List.getD_eq_getElem?_getD,List.getElem?_append_left h]
theorem getD_snocR {α:Type} {l:List α} {v d:α} {i:Nat} (h:i=l.length):(l++[v]).getD i d=v:=by
  subst h;simp [List.getD_eq_getElem?_getD]
theorem pcK_ok (x:Int):∀ k,PcOk (pcK x k).1 k
  | 0 => ⟨rfl, rfl, fun i h => by omega, fun i h => by obtain rfl : i = 0 := by omega
                                                       simp [pcK]⟩
  |k+1=>by
    have ih:=pcK_ok x k
    have hu:=upV_bd (x:=(pcK x k).2) (m:=12 - 1) (by decide)
    have hl:=ih.len
    have hk:=ih.le k (Nat.le_refl _)
    rw [pcK]
    refine ⟨by simp [hl],by rw [getD_snocL (by omega)];exact ih.one,fun i hi=>?_,fun i hi=>?_⟩
    · rcases Nat.lt_or_eq_of_le (Nat.le_of_lt_succ hi) with h|h
      · rw [getD_snocL (by omega),getD_snocL (by omega)];exact ih.up i h
      · subst h;rw [getD_snocL (by omega),getD_snocR hl.symm];omega
    · rcases Nat.lt_or_eq_of_le hi with h|h
      · rw [getD_snocL (by omega)];exact ih.le i (by omega)
      · subst h;rw [getD_snocR hl.symm];omega
structure CoS where
  cs:List (List Int)
  ss:List Int
  x:Int
noncomputable def coStep (s:CoS):CoS:=⟨s.cs++[(pcK (upS s.x 3) (upV s.x 3).toNat).1],s.ss++[upV (pcK (upS s.x 3) (upV s.x 3).toNat).2 200],upS (pcK (upS s.x 3) (upV s.x 3).toNat).2 200⟩
noncomputable def coK (x:Int):Nat→CoS
  |0=>⟨[],[],x⟩
  |k+1=>coStep (coK x k)
theorem coK_succ (x:Int) (k:Nat):coK x (k+1)=coStep (coK x k):=rfl
structure CoOk (s:CoS) (k:Nat):Prop where
  c:s.cs.length=k
  l:s.ss.length=k
  p:∀ q ∈ s.cs,∃ j,j≤3∧PcOk q j
  v:∀ n ∈ s.ss,0≤n∧n≤200
theorem coK_ok (x:Int):∀ k,CoOk (coK x k) k
  |0=>⟨rfl,rfl,fun q hq=>by simp [coK] at hq,fun q hq=>by simp [coK] at hq⟩
  |k+1=>by
    have ih:=coK_ok x k
    rw [coK_succ]
    unfold coStep
    have h1:=upV_bd (x:=(coK x k).x) (m:=3) (by decide)
    have h2:=upV_bd (x:=(pcK (upS (coK x k).x 3) (upV (coK x k).x 3).toNat).2) (m:=200) (by decide)
    refine ⟨by simp [ih.c],by simp [ih.l],fun q hq=>?_,fun q hq=>?_⟩
    · rcases List.mem_append.1 hq with hq|hq
      · exact ih.p q hq
      · obtain rfl:=List.mem_singleton.1 hq
        exact ⟨_,by omega,pcK_ok _ _⟩
    · rcases List.mem_append.1 hq with hq|hq
      · exact ih.v q hq
      · obtain rfl:=List.mem_singleton.1 hq
        omega
noncomputable def rtK (x:Int):Nat→List Sh × Int
  |0=>([⟨1,1⟩],x)
  |k+1=>((rtK x k).1++[rtV (rtK x k).2],rtS (rtK x k).2)
structure ShOk (s:Sh):Prop where
  n:1≤s.num∧s.num≤20
  d:1≤s.den∧s.den≤12
  r:s=shQ (mkRat s.num s.den.toNat)
theorem shQ_ok {q:Rat} (h1:1≤q.num∧q.num≤20) (h2:(q.den:Int)≤12):ShOk (shQ q) :=
  ⟨h1,⟨by have:=den_pos q;show (1:Int)≤(q.den:Int);omega,h2⟩,by show shQ q=shQ (mkRat q.num (q.den:Int).toNat);rw [Int.toNat_natCast,Rat.mkRat_self]⟩
theorem mkq_bd {n d:Int} (hn:1≤n∧n≤20) (hd:1≤d∧d≤12):(1≤(mkRat n d.toNat).num∧(mkRat n d.toNat).num≤20)∧((mkRat n d.toNat).den:Int)≤12:=by
  have hq:(0:Int) < d:=by omega
  have e1:=mk_num_le (a:=n) hq
  have e2:=mk_den_le (a:=n) hq
  have hp:0 < (mkRat n d.toNat).num:=by
    have hm:=mk_num (a:=n) hq
    have h5:0 < Nat.gcd n.natAbs d.toNat:=Nat.gcd_pos_of_pos_left _ (by omega)
    have h6:=Nat.gcd_dvd_left n.natAbs d.toNat
    rw [hm]
    generalize Nat.gcd n.natAbs d.toNat=g at *
    obtain ⟨q,hq⟩:=h6
    have h7:n=(g:Int) * (q:Int):=by
      rw [show n=(n.natAbs:Int) by omega,hq];exact Int.natCast_mul g q
    rw [h7,Int.mul_tdiv_cancel_left _ (by omega)]
    rcases Nat.eq_zero_or_pos q with h8|h8
    · subst h8;simp at h7;omega
    · omega
  omega
theorem rtV_ok (x:Int):ShOk (rtV x):=by
  have h:=mkq_bd (rt_bd7 x).1 (rt_bd7 x).2
  unfold rtV
  exact shQ_ok h.1 h.2
structure RwOk (r:List Sh) (m:Nat):Prop where
  len:r.length=m
  one:r.getD 0 default=⟨1,1⟩
  all:∀ s ∈ r,ShOk s
theorem rtK_ok (x:Int):∀ k,RwOk (rtK x k).1 (k+1)
  |0=>⟨rfl,rfl,fun s hs=>by
    obtain rfl:=List.mem_singleton.1 hs
    exact ⟨by decide,by decide,by decide +kernel⟩⟩
  |k+1=>by
    have ih:=rtK_ok x k
    rw [rtK]
    refine ⟨by simp [ih.len],by rw [getD_snocL (by have:=ih.len;omega)];exact ih.one,fun s hs=>?_⟩
    rcases List.mem_append.1 hs with hs|hs
    · exact ih.all s hs
    · obtain rfl:=List.mem_singleton.1 hs
      exact rtV_ok _
noncomputable def dyK (m:Nat) (x:Int):Nat→List (List Sh) × Int
  |0=>([],x)
  |k+1=>((dyK m x k).1++[(rtK (dyK m x k).2 m).1],(rtK (dyK m x k).2 m).2)
theorem dyK_ok (m:Nat) (x:Int):∀ k,(dyK m x k).1.length=k∧∀ r ∈ (dyK m x k).1,RwOk r (m+1)
  |0=>⟨rfl,fun r h=>by simp [dyK] at h⟩
  |k+1=>by
    obtain ⟨h1,h2⟩:=dyK_ok m x k
    rw [dyK]
    refine ⟨by simp [h1],fun r hr=>?_⟩
    rcases List.mem_append.1 hr with hr|hr
    · exact h2 r hr
    · obtain rfl:=List.mem_singleton.1 hr
      exact rtK_ok _ _
structure EnS where
  day:Int
  till:List Int
  es:List Ent
  x:Int
noncomputable def enD (R:Nat) (s:EnS):Int:=s.day+upV s.x (min (s.day+1) ((R:Int) - 1) - s.day)
noncomputable def enX1 (R:Nat) (s:EnS):Int:=upS s.x (min (s.day+1) ((R:Int) - 1) - s.day)
def kinds:List Int:=[1,2,3,3,3,4]
noncomputable def enS1 (s:EnS) (day coin x:Int):EnS:=⟨day,s.till.set coin.toNat (s.till.getD coin.toNat 0+upV x 90),s.es++[⟨day,1,coin,0,upV x 90,0⟩],upS x 90⟩
noncomputable def enS2 (s:EnS) (day coin x:Int):EnS:=⟨day,s.till.set coin.toNat (s.till.getD coin.toNat 0 - upV x (min (s.till.getD coin.toNat 0) 90)),s.es++[⟨day,2,coin,0,upV x (min (s.till.getD coin.toNat 0) 90),0⟩],upS x (min (s.till.getD coin.toNat 0) 90)⟩
noncomputable def enF (x:Int):Int:=-3+upV x (3 - -3)
noncomputable def enA4 (h x:Int):Int:=max 0 (min 999 (h+oneV (upS x (3 - -3)) [0,enF x]))
noncomputable def enS4 (s:EnS) (day coin x:Int):EnS:=⟨day,s.till.set coin.toNat (enA4 (s.till.getD coin.toNat 0) x),s.es++[⟨day,4,coin,0,enA4 (s.till.getD coin.toNat 0) x,0⟩],upS (upS x (3 - -3)) ((2:Nat) - 1)⟩
def enG0 (rs:List (List Sh)) (day coin to am:Int):Int :=
  (am * ((rs.getD day.toNat []).getD coin.toNat default).num * ((rs.getD day.toNat []).getD to.toNat default).den).tdiv (((rs.getD day.toNat []).getD coin.toNat default).den * ((rs.getD day.toNat []).getD to.toNat default).num)
def enS3b (s:EnS) (day coin to am got x:Int):EnS :=
  if 999 < got then ⟨day,s.till,s.es,x⟩ else ⟨day,(s.till.set coin.toNat (s.till.getD coin.toNat 0 - am)).set to.toNat (s.till.getD to.toNat 0+got),s.es++[⟨day,3,coin,to,am,got⟩],x⟩
noncomputable def enS3a (rs:List (List Sh)) (w:Int) (s:EnS) (day coin to am x:Int):EnS :=
  if upV x (10 - 1) < w then enS3b s day coin to am (enG0 rs day coin to am+(1+upV (upS x (10 - 1)) (3 - 1))) (upS (upS x (10 - 1)) (3 - 1))
  else enS3b s day coin to am (enG0 rs day coin to am) (upS x (10 - 1))
noncomputable def enTo (C:Nat) (coin x:Int):Int:=foldV (coin+(1+upV x ((C:Int) - 1 - 1))) C
noncomputable def enS3 (C:Nat) (rs:List (List Sh)) (w:Int) (s:EnS) (day coin x:Int):EnS :=
  if C=1 then ⟨day,s.till,s.es,x⟩ else
  enS3a rs w s day coin (enTo C coin x) (upV (upS x ((C:Int) - 1 - 1)) (min (s.till.getD coin.toNat 0) 40)) (upS (upS x ((C:Int) - 1 - 1)) (min (s.till.getD coin.toNat 0) 40))
noncomputable def enS0 (C:Nat) (rs:List (List Sh)) (w:Int) (s:EnS) (day kind coin x:Int):EnS :=
  if kind=1 then enS1 s day coin x else if kind=2 then enS2 s day coin x else if kind=4 then enS4 s day coin x else enS3 C rs w s day coin x
noncomputable def enK0 (R:Nat) (s:EnS):Int:=oneV (enX1 R s) kinds
noncomputable def enX2 (R:Nat) (s:EnS):Int:=upS (enX1 R s) ((6:Nat) - 1)
noncomputable def enStep (C:Nat) (rs:List (List Sh)) (w:Int) (s:EnS):EnS :=
  enS0 C rs w s (enD rs.length s) (enK0 rs.length s) (upV (enX2 rs.length s) ((C:Int) - 1)) (upS (enX2 rs.length s) ((C:Int) - 1))
noncomputable def enK (C:Nat) (rs:List (List Sh)) (w:Int) (s:EnS):Nat→EnS
  |0=>s
  |k+1=>enStep C rs w (enK C rs w s k)
structure EnI (C R k:Nat) (s:EnS):Prop where
  d0:0≤s.day
  d1:s.day≤(R:Int) - 1
  len:s.till.length=C
  b:∀ v ∈ s.till,0≤v∧v≤999 * ((k:Int)+1)
  es:s.es.length≤k
theorem enD_bd {C R k:Nat} {s:EnS} (h:EnI C R k s) (hR:R≤100):s.day≤enD R s∧enD R s≤(R:Int) - 1:=by
  have h0:=h.d0
  have h1:=h.d1
  have:=upV_le (x:=s.x) (m:=min (s.day+1) ((R:Int) - 1) - s.day) (by omega) (by omega)
  unfold enD
  omega
structure EnJ (C R k:Nat) (s:EnS) (day coin:Int):Prop where
  i:EnI C R k s
  d0:0≤day
  d1:day≤(R:Int) - 1
  c0:0≤coin
  c1:coin≤(C:Int) - 1
theorem EnJ.h {C R k:Nat} {s:EnS} {day coin:Int} (j:EnJ C R k s day coin):0≤s.till.getD coin.toNat 0∧s.till.getD coin.toNat 0≤999 * ((k:Int)+1):=by
  have:=j.c0
  have:=j.c1
  have:=j.i.len
  exact j.i.b _ (gMem (by omega))
theorem mem_set_bd {l:List Int} {i:Nat} {v:Int} {P:Int→Prop} (h:∀ x ∈ l,P x) (hv:P v):∀ x ∈ l.set i v,P x:=fun x hx=>by
  rcases List.mem_or_eq_of_mem_set hx with h1|h1
  · exact h x h1
  · exact h1 ▸ hv
theorem EnJ.bd {C R k:Nat} {s:EnS} {day coin:Int} (j:EnJ C R k s day coin):∀ v ∈ s.till,0≤v∧v≤999 * (((k+1:Nat):Int)+1):=fun v hv=>by
  have:=j.i.b v hv;omega
theorem EnJ.set {C R k:Nat} {s:EnS} {day coin:Int} (j:EnJ C R k s day coin) {v:Int} {e:Ent} {x:Int} (h:0≤v∧v≤999 * ((k:Int)+1)+999):EnI C R (k+1) ⟨day,s.till.set coin.toNat v,s.es++[e],x⟩ :=
  ⟨j.d0,j.d1,by simp [j.i.len],mem_set_bd j.bd (by omega),by simp;exact j.i.es⟩
theorem enA4_bd (h x:Int):0≤enA4 h x∧enA4 h x≤999:=by unfold enA4;omega
theorem enS3b_ok {C R k:Nat} {s:EnS} {day coin:Int} (j:EnJ C R k s day coin) {to am got x:Int} (ha:0≤am) (ha':am≤s.till.getD coin.toNat 0) (ht:0≤to∧to < C) (hg:0≤got):EnI C R (k+1) (enS3b s day coin to am got x):=by
  unfold enS3b
  have hh:=j.h
  have hl:=j.i.len
  split
  · exact ⟨j.d0,j.d1,hl,j.bd,Nat.le_succ_of_le j.i.es⟩
  · have h2:=j.i.b _ (gMem (l:=s.till) (k:=to.toNat) (d:=0) (by omega))
    exact ⟨j.d0,j.d1,by simp [hl],mem_set_bd (mem_set_bd j.bd (by omega)) (by omega),by simp;exact j.i.es⟩
theorem enG0_bd {rs:List (List Sh)} {day coin to am:Int} (h1:ShOk ((rs.getD day.toNat []).getD coin.toNat default)) (h2:ShOk ((rs.getD day.toNat []).getD to.toNat default)) (ha:0≤am) (ha':am≤40) :
    0≤enG0 rs day coin to am∧enG0 rs day coin to am≤9600:=by
  unfold enG0
  have a1:=h1.n
  have a2:=h1.d
  have a3:=h2.n
  have a4:=h2.d
  generalize ((rs.getD day.toNat []).getD coin.toNat default).num=p at *
  generalize ((rs.getD day.toNat []).getD coin.toNat default).den=q at *
  generalize ((rs.getD day.toNat []).getD to.toNat default).num=r at *
  generalize ((rs.getD day.toNat []).getD to.toNat default).den=u at *
  have m1:0≤am * p * u:=Int.mul_nonneg (Int.mul_nonneg ha (by omega)) (by omega)
  have m2:am * p≤40 * 20:=Int.mul_le_mul ha' a1.2 (by omega) (by omega)
  have m3:am * p * u≤40 * 20 * 12:=Int.mul_le_mul m2 a4.2 (by omega) (by omega)
  have m4:0 < q * r:=Int.mul_pos (by omega) (by omega)
  rw [Int.tdiv_eq_ediv_of_nonneg m1]
  refine ⟨Int.ediv_nonneg m1 (by omega),Int.le_trans (Int.ediv_le_self _ m1) (by omega)⟩
structure RsOk (rs:List (List Sh)) (C:Nat):Prop where
  len:1≤rs.length∧rs.length≤4
  all:∀ r ∈ rs,RwOk r C
theorem RsOk.sh {rs:List (List Sh)} {C:Nat} (h:RsOk rs C) {day coin:Int} (h1:0≤day) (h2:day≤(rs.length:Int) - 1) (h3:0≤coin) (h4:coin≤(C:Int) - 1):ShOk ((rs.getD day.toNat []).getD coin.toNat default):=by
  have hr:=h.all _ (gMem (l:=rs) (k:=day.toNat) (d:=[]) (by omega))
  exact hr.all _ (gMem (by have:=hr.len;omega))
theorem enS0_ok {C k:Nat} {rs:List (List Sh)} (hr:RsOk rs C) (hC:1≤C∧C≤4) {w:Int} {s:EnS} {day coin:Int} (j:EnJ C rs.length k s day coin) (kind x:Int):EnI C rs.length (k+1) (enS0 C rs w s day kind coin x):=by
  have hh:=j.h
  have hc0:=j.c0
  have hc1:=j.c1
  unfold enS0
  split
  · unfold enS1
    have:=upV_le (x:=x) (m:=90) (by decide) (by decide)
    exact j.set (by omega)
  split
  · unfold enS2
    have:=upV_bd (x:=x) (m:=min (s.till.getD coin.toNat 0) 90) (by omega)
    exact j.set (by omega)
  split
  · unfold enS4
    have:=enA4_bd (s.till.getD coin.toNat 0) x
    exact j.set (by omega)
  · unfold enS3
    split
    · exact ⟨j.d0,j.d1,j.i.len,j.bd,Nat.le_succ_of_le j.i.es⟩
    · have ht:0≤enTo C coin x∧enTo C coin x < C:=foldV_bd (by omega)
      generalize enTo C coin x=to at *
      generalize upS x ((C:Int) - 1 - 1)=y
      have ha:=upV_bd (x:=y) (m:=min (s.till.getD coin.toNat 0) 40) (by omega)
      generalize upV y (min (s.till.getD coin.toNat 0) 40)=am at *
      have s1:=hr.sh j.d0 j.d1 hc0 hc1
      have s2:=hr.sh j.d0 j.d1 ht.1 (show to≤(C:Int) - 1 by omega)
      have hg:=enG0_bd s1 s2 (am:=am) (by omega) (by omega)
      unfold enS3a
      split
      · have:=upV_bd (x:=upS (upS y (min (s.till.getD coin.toNat 0) 40)) (10 - 1)) (m:=3 - 1) (by decide)
        exact enS3b_ok j (by omega) (by omega) ht (by omega)
      · exact enS3b_ok j (by omega) (by omega) ht (by omega)
theorem enJ_of {C k:Nat} {rs:List (List Sh)} (hr:RsOk rs C) (hC:1≤C∧C≤4) {s:EnS} (h:EnI C rs.length k s):EnJ C rs.length k s (enD rs.length s) (upV (enX2 rs.length s) ((C:Int) - 1)):=by
  have h1:=enD_bd h (by have:=hr.len;omega)
  have h2:=upV_le (x:=enX2 rs.length s) (m:=(C:Int) - 1) (by omega) (by omega)
  exact ⟨h,by have:=h.d0;omega,h1.2,h2.1,h2.2⟩
theorem enK_ok {C:Nat} {rs:List (List Sh)} (hr:RsOk rs C) (hC:1≤C∧C≤4) {w:Int} {s:EnS} (h:EnI C rs.length 0 s):∀ k,EnI C rs.length k (enK C rs w s k)
  |0=>h
  |k+1=>enS0_ok hr hC (enJ_of hr hC (enK_ok hr hC h k)) _ _
noncomputable def lg1 (x c:Int):CoS:=coK (upS x (c - 1)) (1+upV x (c - 1)).toNat
noncomputable def lg2 (x c d:Int):List (List Sh) × Int:=dyK ((lg1 x c).cs.length - 1) (upS (lg1 x c).x (d - 1)) (1+upV (lg1 x c).x (d - 1)).toNat
noncomputable def lg3 (x c d e w:Int):EnS:=enK (lg1 x c).cs.length (lg2 x c d).1 w ⟨0,(lg1 x c).ss,[],upS (lg2 x c d).2 e⟩ (upV (lg2 x c d).2 e).toNat
noncomputable def lgL (x c d e w:Int):Led:=⟨(lg1 x c).cs,(lg2 x c d).1,(lg1 x c).ss,(lg3 x c d e w).es⟩
noncomputable def lgS (x c d e w:Int):Int:=(lg3 x c d e w).x
end Go.Sym.B
namespace Go.Sym.B
open Go Go.Sym Go.Proofs Go.Sym.C
theorem first0 {n:Nat} {f:Nat→Int} (h:∀ k,k < n→f k=0):firstE (errs n f)=0:=by
  have hall:∀ E:List Int,(∀ e ∈ E,e=0)→firstE E=0:=fun E=>by
    induction E with
    |nil=>intro _;rfl
    |cons e E ih=>intro h;rw [firstE,if_pos (h e List.mem_cons_self)];exact ih fun x hx=>h x (List.mem_cons_of_mem _ hx)
  refine hall _ fun e he=>?_
  obtain ⟨j,hj,rfl⟩:=List.mem_map.1 he
  exact h j (List.mem_range.1 hj)
theorem counted0 {n a b:Int} (h1:a≤n) (h2:n≤b):countedE n a b=0:=by unfold countedE;rw [if_neg (by omega),if_neg (by omega)]
theorem coinE_ok {q:List Int} {j:Nat} (h:PcOk q j) (hj:j≤3):coinE q=0:=by
  have hl:=h.len
  unfold coinE
  rw [if_neg (by rw [counted0 (by omega) (by omega)];simp),if_neg (by rw [h.one];simp)]
  refine first0 fun i hi=>?_
  have h1:=h.up i (by omega)
  have h2:=h.le (i+1) (by omega)
  unfold pieceE
  rw [Nat.add_comm 1 i,if_neg (by omega),if_neg (by omega)]
structure LgOk (L:Led):Prop where
  c:1≤L.coins.length∧L.coins.length≤4
  p:∀ q ∈ L.coins,∃ j,j≤3∧PcOk q j
  s:L.start.length=L.coins.length
  v:∀ n ∈ L.start,0≤n∧n≤200
  r:RsOk L.rates L.coins.length
  e:L.entries.length≤6
theorem lg_ok {x c d e w:Int} (hc:1≤c∧c≤4) (hd:1≤d∧d≤4) (he:0≤e∧e≤6):LgOk (lgL x c d e w):=by
  have h1:=upV_le (x:=x) (m:=c - 1) (by omega) (by omega)
  have ok1:CoOk (lg1 x c) (1+upV x (c - 1)).toNat:=coK_ok _ _
  have hl1:=ok1.c
  have h2:=upV_le (x:=(lg1 x c).x) (m:=d - 1) (by omega) (by omega)
  have ok2:(lg2 x c d).1.length=(1+upV (lg1 x c).x (d - 1)).toNat∧∀ r ∈ (lg2 x c d).1,RwOk r ((lg1 x c).cs.length - 1+1):=dyK_ok _ _ _
  rw [show (lg1 x c).cs.length - 1+1=(lg1 x c).cs.length by omega] at ok2
  have hr:RsOk (lg2 x c d).1 (lg1 x c).cs.length:=⟨by have:=ok2.1;omega,ok2.2⟩
  have h3:=upV_le (x:=(lg2 x c d).2) (m:=e) (by omega) (by omega)
  have hI:EnI (lg1 x c).cs.length (lg2 x c d).1.length 0 ⟨0,(lg1 x c).ss,[],upS (lg2 x c d).2 e⟩:=⟨Int.le_refl _,by show (0:Int)≤_;have:=hr.len;omega,by rw [ok1.c];exact ok1.l,fun v hv=>by have:=ok1.v v hv;omega,Nat.le_refl _⟩
  have h4:=(enK_ok hr (by omega) (w:=w) hI (upV (lg2 x c d).2 e).toNat).es
  refine ⟨?_,ok1.p,?_,ok1.v,hr,?_⟩
  · show 1≤(lg1 x c).cs.length∧(lg1 x c).cs.length≤4;omega
  · show (lg1 x c).ss.length=(lg1 x c).cs.length;rw [ok1.c];exact ok1.l
  · show (lg3 x c d e w).es.length≤6
    unfold lg3;omega
theorem LgOk.fit {L:Led} (h:LgOk L):Fit L:=by
  refine ⟨by have:=h.c;omega,fun q hq=>?_,by have:=h.r.len;omega,fun r hr=>?_,by have:=h.c;have:=h.s;omega,by have:=h.e;omega⟩
  · obtain ⟨j,hj,hp⟩:=h.p q hq
    have:=hp.len;omega
  · have:=(h.r.all r hr).len;have:=h.c;omega
end Go.Sym.B
namespace Go.Sym.B
open Go Go.Sym Go.Proofs Go.Sym.C
end Go.Sym.B
namespace Go.Sym.B
open Go Go.Sym Go.Proofs Go.Sym.C
theorem part_bd {d x:List Int} (hd:∀ n ∈ d,0≤n∧n≤4) (hl:d.length≤4) (hx:x ∈ partsL d):x.length=d.length∧(∀ v ∈ x,0≤v∧v≤4)∧0≤x.sum∧x.sum≤16:=by
  obtain ⟨h1,h2⟩:=parts_mem (fun n hn=>(hd n hn).1) hx
  have hb:∀ v ∈ x,0≤v∧v≤4:=fun v hv=>by
    obtain ⟨i,hi,rfl⟩:=List.mem_iff_getElem.1 hv
    have h3:=h2 i (by omega)
    have h4:=hd _ (gMem (l:=d) (k:=i) (d:=0) (by omega))
    rw [show x.getD i 0=x[i] by simp [List.getD_eq_getElem?_getD,hi]] at h3
    omega
  have:=sum_bd hb
  exact ⟨h1,hb,this.1,by omega⟩
end Go.Sym.B
namespace Go.Sym.B
open Go Go.Sym Go.Proofs Go.Sym.C
def ltR (r:Int→Int) (x y:Int):Prop:=r y < r x∨(r y=r x∧x < y)
def Has (l:List Int) (x:Int):Prop:=∃ i,i < l.length∧l.getD i 0=x
structure SoK (r:Int→Int) (n k:Nat) (l:List Int):Prop where
  len:l.length=n
  so:∀ a b,a < b→b≤k→ltR r (l.getD a 0) (l.getD b 0)
  keep:∀ i,k < i→i < n→l.getD i 0=i
  lo:∀ a,a≤k→0≤l.getD a 0∧l.getD a 0≤k
  has:∀ i:Nat,i < n→Has l i
end Go.Sym.B
namespace Go.Sym.B
open Go Go.Sym Go.Proofs Go.Sym.C
theorem sumK_cons (x:Int) (l:List Int):∀ k,sumK (fun i=>(x :: l).getD i 0) (k+1)=x+sumK (fun i=>l.getD i 0) k
  |0=>by simp [sumK]
  |k+1=>by rw [sumK,sumK_cons x l k,sumK];simp;omega
theorem pSum_cons (x:Int) (l:List Int):pSum (x :: l)=x+pSum l:=by unfold pSum;rw [List.length_cons,sumK_cons]
end Go.Sym.B
namespace Go.Sym.B
open Go Go.Sym Go.Proofs Go.Sym.C
theorem sum_pSum:∀ l:List Int,pSum l=l.sum
  |[]=>rfl
  |x :: l=>by rw [pSum_cons,sum_pSum l,List.sum_cons]
structure LeastIs (ps:List Int) (A:Nat) (l:List Int):Prop where
  len:l.length=ps.length
  bd:∀ n ∈ l,0≤n∧n≤(A:Int)
  dot:dotL ps l=(A:Int)
  least:∀ x:List Int,(∀ n ∈ x,0≤n)→x.length=ps.length→dotL ps x=(A:Int)→l.sum≤x.sum
structure DrawIs (ps:List Int) (A:Nat) (l d e:List Int):Prop where
  enough:(∀ i,i < ps.length→l.getD i 0≤d.getD i 0)→∃ x,chs ps d A=some x∧x.sum=l.sum
  out:∀ x,chs ps d A=some x→x.length=ps.length∧(∀ i,i < ps.length→0≤x.getD i 0∧x.getD i 0≤d.getD i 0)∧dotL ps x=(A:Int)∧l.sum≤x.sum∧∃ y,chs ps e A=some y∧y.sum≤x.sum
end Go.Sym.B
namespace Go.Sym.B
open Go Go.Sym Go.Proofs Go.Sym.C
def manyS (l:List Int) (k:Nat):St:={ t:=asg [(0,aInts l),(3,aI (sumK (fun i=>l.getD i 0) k)),(4,aI k)],h:=hasg [],n:=0 }
def tbG3_83:=vk @ty3 (vk @ty22 (vk @ti3.eq_1 @ti22.eq_1))
def xbG3_1:=vk @aI.eq_1 (vk @aB.eq_1 (vk @manyS.eq_1 (vk @aInts.eq_1 (vk @gInt (@eInt.eq_1)))))
theorem many_fn (l:List Int) (hl:l.length≤10000) (hb:∀ x ∈ l,0≤x∧x≤1000000):FnV Try.prog 83 [aInts l] (aI (pSum l)):=by
  have env:Env (fun _=>True) Try.prog tyB (tab []):=mkEnv trivial
  refine Fn.of (A:=fun _=>True) (n0:=0) (D:=noD) (Fn0 Try.func83 rfl (fun vs w=>by kernel_rfl) (by kernel_rfl)) (by simp) (by simp [AV.ids,AV.idsL,aInts]) (fun i o h=>by cases h) (fun _ _ _ _=>trivial) noD_ok ?_
  have big:(100000:Nat)≤maxLen:=by decide
  repeat' (first|(apply nx;with_reducible constructor)|refine uq (by decide) ?_|((first|refine vz env fun Q hQ=>?_|refine vj fun Q hQ=>?_);simp only [vkt,seval,tbG3_83,xbG3_1];(try simp only [ite_and]);(repeat' (first|with_reducible assumption|refine And.intro ?_ ?_|intro hp));all_goals (first|(refine hQ _ ?_;clear hQ Q)|(refine hQ _ (fun h=>?_) (fun h=>?_) <;> clear hQ Q <;> (try simp only [vki,reduceCtorEq] at h))|omega|assumption|with_reducible rfl|(refine vq ?_;kernel_rfl)|skip)))
  refine sym_loop (fun k:{ k:Nat // k≤l.length }=>manyS l k.1) (fun k=>l.length - k.1) ⟨0,Nat.zero_le _⟩ ?_ fun ⟨k,hk⟩=>?_
  · (refine Le.ok some [] ?_;constructor;all_goals (try simp only [vle,vkt,seval,tbG3_83,xbG3_1]))
    all_goals first|rfl|simp [sumK]
  · repeat' (first|(apply nx;with_reducible constructor)|refine uq (by decide) ?_)
    (refine vz env fun Q hQ=>?_;simp only [vkt,seval,tbG3_83,xbG3_1];(try simp only [ite_and]);(repeat' (first|with_reducible assumption|refine And.intro ?_ ?_|intro hp));all_goals (first|(refine hQ _ ?_;clear hQ Q)|omega|assumption|with_reducible rfl|(refine vq ?_;kernel_rfl)|skip))
    repeat' (first|(apply nx;with_reducible constructor)|refine uq (by decide) ?_)
    (refine sym_cd (by simp only [vkt,seval,tbG3_83,xbG3_1];rfl) (fun h=>?_) (fun h=>?_) <;> (try simp only [vki,reduceCtorEq] at h))
    · have hlt:k < l.length:=by omega
      have e9:=wrap_succ hlt (show l.length≤maxLen by omega)
      have s1:=sumK_bd (f:=fun i=>l.getD i 0) (c:=1000000) (k:=k) fun i hi=>hb _ (gMem (by omega))
      have s2:=hb _ (gMem (d:=0) hlt)
      have e8:IntKind.wrap .i64 (sumK (fun i=>l.getD i 0) k+l.getD k 0)=sumK (fun i=>l.getD i 0) (k+1):=wrap64 (by omega) (by omega)
      repeat' (first|(apply nx;with_reducible constructor)|refine uq (by decide) ?_|((first|refine vz env fun Q hQ=>?_|refine vj fun Q hQ=>?_);simp only [vkt,seval,tbG3_83,xbG3_1,e8,e9];(try simp only [ite_and]);(repeat' (first|with_reducible assumption|refine And.intro ?_ ?_|intro hp));all_goals (first|(refine hQ _ ?_;clear hQ Q)|(refine hQ _ (fun h=>?_) (fun h=>?_) <;> clear hQ Q <;> (try simp only [vki,reduceCtorEq] at h))|omega|assumption|with_reducible rfl|(refine vq ?_;kernel_rfl)|skip)))
      refine ⟨⟨k+1,hlt⟩,by show l.length - (k+1) < l.length - k;omega,?_⟩
      (refine Le.ok some [] ?_;constructor;all_goals (try simp only [vle,vkt,seval,tbG3_83,xbG3_1]))
      all_goals first|rfl|(simp [e9];done)
    · have hkn:k=l.length:=by omega
      subst hkn
      repeat' (first|(apply nx;with_reducible constructor)|refine uq (by decide) ?_|((first|refine vz env fun Q hQ=>?_|refine vj fun Q hQ=>?_);simp only [vkt,seval,tbG3_83,xbG3_1];(try simp only [ite_and]);(repeat' (first|with_reducible assumption|refine And.intro ?_ ?_|intro hp));all_goals (first|(refine hQ _ ?_;clear hQ Q)|(refine hQ _ (fun h=>?_) (fun h=>?_) <;> clear hQ Q <;> (try simp only [vki,reduceCtorEq] at h))|omega|assumption|with_reducible rfl|(refine vq ?_;kernel_rfl)|skip)))
      (simp only [vrt,Try.results83,vkt,seval,tbG3_83,xbG3_1];refine Fin.val rfl ?_;(try simp only [AV.le,AV.leL]))
      all_goals first|rfl|(simp [pSum];done)
def s83:List AV→Prop × AV
  |[.sl xs]=>(xs=(xs.map dInt).map eInt∧xs.length≤10000∧(∀ x ∈ xs.map dInt,0≤x∧x≤1000000),aI (pSum (xs.map dInt)))
  |_=>(False,.junk)
theorem e83 {A:Frm→Prop}:EntryOK A Try.prog 83 (valE true s83):=valE_ok fun vs hv h=>by
  clear hv
  unfold s83 at h ⊢
  split at h
  · refine ⟨trivial,fun _=>trivial,?_⟩
    have:=many_fn (List.map dInt _) (by rw [List.length_map];exact h.2.1) h.2.2
    simp only [aInts,← h.1] at this
    exact this
  · exact h.elim
end Go.Sym.B
namespace Go.Sym.B
open Go Go.Sym Go.Proofs Go.Sym.C
def tbG4_23:=vk @ty3 (vk @ty22 (vk @ti3.eq_1 @ti22.eq_1))
def xbG4_1:=vk @aI.eq_1 (vk @aB.eq_1 (vk @aInts.eq_1 (@rInt)))
theorem copy_fn (l:List Int) (hl:l.length≤100000):FnV Try.prog 23 [aInts l] (aInts l):=by
  have env:Env (fun _=>True) Try.prog tyB (tab []):=mkEnv trivial
  refine Fn.of (A:=fun _=>True) (n0:=0) (D:=noD) (Fn0 Try.func23 rfl (fun vs w=>by kernel_rfl) (by kernel_rfl)) (by simp) (by simp [AV.ids,AV.idsL,aInts]) (fun i o h=>by cases h) (fun _ _ _ _=>trivial) noD_ok ?_
  obtain ⟨b1,b2,b3,b4⟩:=b47 hl
  repeat' (first|(apply nx;with_reducible constructor)|refine uq (by decide) ?_|((first|refine vz env fun Q hQ=>?_|refine vj fun Q hQ=>?_);simp only [vkt,Nat.reduceEqDiff,Nat.reduceAdd,Nat.reduceMul,Nat.reduceSub,Nat.reduceLeDiff,reduceCtorEq,↓reduceIte,↓reduceDIte,Int.reduceToNat,Int.reduceLE,Int.reduceLT,Int.reduceEq,Int.reduceNeg,tbG4_23,xbG4_1];(try simp only [ite_and]);(repeat' (first|with_reducible assumption|refine And.intro ?_ ?_|intro hp));all_goals (first|(refine hQ _ ?_;clear hQ Q)|(refine hQ _ (fun h=>?_) (fun h=>?_) <;> clear hQ Q <;> (try simp only [vki,reduceCtorEq] at h))|omega|assumption|with_reducible rfl|(refine vq ?_;kernel_rfl)|skip)))
  (simp only [vrt,Try.results23,vkt,Nat.reduceEqDiff,Nat.reduceAdd,Nat.reduceMul,Nat.reduceSub,Nat.reduceLeDiff,reduceCtorEq,↓reduceIte,↓reduceDIte,Int.reduceToNat,Int.reduceLE,Int.reduceLT,Int.reduceEq,Int.reduceNeg,tbG4_23,xbG4_1];refine Fin.val rfl ?_;(try simp only [AV.le,AV.leL]))
  exact ⟨_,_,rfl⟩
def c23:List AV→Prop × AV
  |[.sl xs]=>(xs=(xs.map dInt).map eInt∧xs.length≤100000,.sl xs)
  |_=>(False,.junk)
theorem d23 {A:Frm→Prop}:EntryOK A Try.prog 23 (valE false c23):=valE_ok fun vs hv h=>by
  clear hv
  unfold c23 at h ⊢
  split at h
  · refine ⟨trivial,fun h=>absurd h (by decide),?_⟩
    have:=copy_fn (List.map dInt _) (by rw [List.length_map];exact h.2)
    simp only [aInts,← h.1] at this
    exact this
  · exact h.elim
noncomputable def dlS (m b:Int):Nat→Int × List Int
  |0=>(b,[])
  |k+1=>(upS (dlS m b k).1 m,(dlS m b k).2++[upV (dlS m b k).1 m])
theorem dlS_len (m b:Int):∀ k,(dlS m b k).2.length=k
  |0=>rfl
  |k+1=>by rw [dlS,List.length_append,dlS_len m b k];rfl
end Go.Sym.B
namespace Go.Sym.B
open Go Go.Sym Go.Proofs Go.Sym.C
noncomputable def pf1 (m b:Int) (V:Nat) (mo:Int) (k:Nat):St:={ t:=asg [(0,.ptr 0 0),(1,aI V),(2,aI mo),(7,.row 1),(8,aI k)],h:=hasg [(0,.cells [.v (.int .u64 (dlS m b k).1)]),(1,.row 3 1 ((dlS m b k).2.map eInt))],n:=2,m:=1 }
def tbN5_67:=vk @ty3 (vk @ty22 (vk @ti3.eq_1 @ti22.eq_1))
def xbN5_1:=vk @aI.eq_1 (vk @aB.eq_1 (vk @bgH.eq_1 (vk @aInts.eq_1 (vk @p22.eq_1 (vk @p22.eq_2 (vk @gInt (vk @eInt.eq_1 (vk @mInt (@rInt)))))))))
theorem purseOf_fn (x:Int) (V:Nat) (mo:Int) (hV:V≤4) (h0:0≤mo) (h4:mo≤4):Fn noB Try.prog 67 [.ptr 0 0,aI V,aI mo] (hasg (bgH x)) (aInts (dlS mo x V).2) (hasg (bgH (dlS mo x V).1)) 0:=by
  have env:Env (fun _=>True) Try.prog tyB (tab [(22,fnE p22)]):=mkEnv ⟨e22,trivial⟩
  refine Fn.of (A:=fun _=>True) (n0:=1) (D:=noD) (Fn0 Try.func67 rfl (fun vs w=>by kernel_rfl) (by kernel_rfl)) (by simp) (by simp [AV.ids,AV.idsL,aI]) ?_ (fun _ _ _ _=>trivial) noD_ok ?_
  · intro i o hi
    have h:=hasg_mem hi
    simp [bgH] at h
    rcases h with ⟨rfl,rfl⟩;simp [AObj.ids,AV.ids,AV.idsL]
  have big:(100000:Nat)≤maxLen:=by decide
  have mm:min mo 4=mo:=by omega
  have mm2:(if 4 < mo then (4:Int) else mo)=mo:=by rw [if_neg (by omega)]
  have mm3:(if mo < 4 then mo else (4:Int))=mo:=by split <;> omega
  have hml:mo < 9223372036854775807:=by omega
  repeat' (first|(apply nx;with_reducible constructor)|refine uq (by decide) ?_|((first|refine vz env fun Q hQ=>?_|refine vj fun Q hQ=>?_);simp only [vkt,seval,tbN5_67,xbN5_1,pf1,mm];(try simp only [ite_and]);(repeat' (first|with_reducible assumption|refine And.intro ?_ ?_|intro hp));all_goals (first|(refine hQ _ ?_;clear hQ Q)|(refine hQ _ (fun h=>?_) (fun h=>?_) <;> clear hQ Q <;> (try simp only [vki,reduceCtorEq] at h))|omega|assumption|with_reducible rfl|(refine vq ?_;kernel_rfl)|skip)))
  refine sym_loop (fun k:{ k:Nat // k≤V }=>pf1 mo x V mo k.1) (fun k=>V - k.1) ⟨0,Nat.zero_le _⟩ ?_ fun ⟨k,hk⟩=>?_
  · (refine Le.ok (fun j=>if j=0 then some 0 else none) [] ?_;constructor;all_goals (try simp only [vle,vkt,seval,tbN5_67,xbN5_1,pf1]))
    all_goals first|rfl|(simp [dlS];done)
  · repeat' (first|(apply nx;with_reducible constructor)|refine uq (by decide) ?_)
    (refine vz env fun Q hQ=>?_;simp only [vkt,seval,tbN5_67,xbN5_1,pf1];(try simp only [ite_and]);(repeat' (first|with_reducible assumption|refine And.intro ?_ ?_|intro hp));all_goals (first|(refine hQ _ ?_;clear hQ Q)|omega|assumption|with_reducible rfl|(refine vq ?_;kernel_rfl)|skip))
    repeat' (first|(apply nx;with_reducible constructor)|refine uq (by decide) ?_)
    (refine sym_cd (by simp only [vkt,seval,tbN5_67,xbN5_1,pf1];rfl) (fun h=>?_) (fun h=>?_) <;> (try simp only [vki,reduceCtorEq] at h))
    · have hlt:k < V:=by omega
      have e7:IntKind.wrap .i64 ((k:Int)+1)=((k+1:Nat):Int):=by rw [wrap64 (by omega) (by omega)];rfl
      have r3:=dlS_len mo x k
      have m1:(k+1) * 8≤140737488355328∧k+1≤maxLen:=by omega
      have r1:(dlS mo x k).2.map eInt++[[.v (.int .i64 (upV (dlS mo x k).1 mo))]]=(dlS mo x (k+1)).2.map eInt:=by rw [dlS,List.map_append];rfl
      repeat' (first|(apply nx;with_reducible constructor)|refine uq (by decide) ?_|((first|refine vz env fun Q hQ=>?_|refine vj fun Q hQ=>?_);simp only [vkt,seval,tbN5_67,xbN5_1,pf1,e7,r1,r3,mm,mm2,mm3];(try simp only [ite_and]);(repeat' (first|with_reducible assumption|refine And.intro ?_ ?_|intro hp));all_goals (first|(refine hQ _ ?_;clear hQ Q)|(refine hQ _ (fun h=>?_) (fun h=>?_) <;> clear hQ Q <;> (try simp only [vki,reduceCtorEq] at h))|omega|assumption|with_reducible rfl|(refine vq ?_;kernel_rfl)|skip)))
      refine ⟨⟨k+1,hlt⟩,by show V - (k+1) < V - k;omega,?_⟩
      (refine Le.ok (fun j=>if j=1 then some 3 else some j) [] ?_;constructor;all_goals (try simp only [vle,vkt,seval,tbN5_67,xbN5_1,pf1]))
      all_goals first|rfl|(simp [dlS];done)
    · have hkn:k=V:=by omega
      subst hkn
      repeat' (first|(apply nx;with_reducible constructor)|refine uq (by decide) ?_|((first|refine vz env fun Q hQ=>?_|refine vj fun Q hQ=>?_);simp only [vkt,seval,tbN5_67,xbN5_1,pf1];(try simp only [ite_and]);(repeat' (first|with_reducible assumption|refine And.intro ?_ ?_|intro hp));all_goals (first|(refine hQ _ ?_;clear hQ Q)|(refine hQ _ (fun h=>?_) (fun h=>?_) <;> clear hQ Q <;> (try simp only [vki,reduceCtorEq] at h))|omega|assumption|with_reducible rfl|(refine vq ?_;kernel_rfl)|skip)))
      (simp only [vrt,Try.results67,vkt,seval,tbN5_67,xbN5_1,pf1];refine Fin.ok some [1] ?_ ?_ ?_ ?_ ?_ rfl;all_goals (try simp only [vle,vkt,seval,tbN5_67,xbN5_1,pf1]))
      all_goals first|rfl|(simp;done)|exact ⟨_,_,rfl⟩
noncomputable def p67 (S:St):List AV→Option Pk
  |[.ptr i 0,.v (.int .i64 V),.v (.int .i64 mo)]=>match S.h i with
    |some (.cells [.v (.int .u64 x)])=>some { pre:=0≤V∧V≤4∧0≤mo∧mo≤4,hs:=[i],ar:=[.ptr 0 0,.v (.int .i64 V),.v (.int .i64 mo)],L0:=[.cells [.v (.int .u64 x)]],v:=aInts (dlS mo x V.toNat).2,L1:=[some (.cells [.v (.int .u64 (dlS mo x V.toNat).1)])] }
    |_=>none
  |_=>none
theorem e67 {A:Frm→Prop}:EntryOK A Try.prog 67 (fnE p67):=fnE_ok fun S bs q h hp=>by
  unfold p67 at h
  split at h
  · split at h
    · cases h
      obtain ⟨h1,h2,h3,h4⟩:=hp
      rename_i V mo _ x _
      have:=purseOf_fn x V.toNat mo (by omega) h3 h4
      simp only [aI,Int.toNat_of_nonneg h1] at this
      exact this
    · cases h
  · cases h
theorem dot_takeL:∀ {ps p:List Int} {n:Nat},p.length≤n→dotL (ps.take n) p=dotL ps p
  |[],p,n,_=>by simp
  |a :: ps,[],n,_=>by simp [dotL_nil]
  |a :: ps,b :: p,0,h=>by simp at h
  |a :: ps,b :: p,n+1,h=>by simp only [List.take_succ_cons,dotL];rw [dot_takeL (by simpa using h)]
def vaT (ps p:List Int) (i:Nat):St:={ t:=asg [(0,aInts ps),(1,aInts p),(5,aI (dotL (ps.take i) (p.take i))),(6,aI i)],h:=hasg [],n:=0 }
def tbN5_72:=vk @ty3 (vk @ty22 (vk @ti3.eq_1 @ti22.eq_1))
def xbN5_2:=vk @aI.eq_1 (vk @aB.eq_1 (vk @aInts.eq_1 (vk @mInt (vk @eInt.eq_1 (@gInt)))))
theorem value_fn (ps p:List Int) (hs:PzOk ps) (hl:p.length≤ps.length) (hp:∀ n ∈ p,0≤n∧n≤4):FnV Try.prog 72 [aInts ps,aInts p] (aI (dotL ps p)):=by
  have env:Env (fun _=>True) Try.prog tyB (tab []):=mkEnv trivial
  refine Fn.of (A:=fun _=>True) (n0:=0) (D:=noD) (Fn0 Try.func72 rfl (fun vs w=>by kernel_rfl) (by kernel_rfl)) (by simp) (by simp [AV.ids,aInts]) (fun i o h=>by cases h) (fun _ _ _ _=>trivial) noD_ok ?_
  have hl4:=hs.len
  repeat' (first|(apply nx;with_reducible constructor)|refine uq (by decide) ?_|((first|refine vz env fun Q hQ=>?_|refine vj fun Q hQ=>?_);simp only [vkt,seval,tbN5_72,xbN5_2,vaT,List.length_map];(try simp only [ite_and]);(repeat' (first|with_reducible assumption|refine And.intro ?_ ?_|intro hp));all_goals (first|(refine hQ _ ?_;clear hQ Q)|(refine hQ _ (fun h=>?_) (fun h=>?_) <;> clear hQ Q <;> (try simp only [vki,reduceCtorEq] at h))|omega|assumption|with_reducible rfl|(refine vq ?_;kernel_rfl)|skip)))
  refine sym_loop (fun i:{ i:Nat // i≤p.length }=>vaT ps p i.1) (fun i=>p.length - i.1) ⟨0,Nat.zero_le _⟩ ?_ fun ⟨i,hi⟩=>?_
  · (refine Le.ok some [] ?_;constructor;all_goals (try simp only [vle,vkt,seval,tbN5_72,xbN5_2,vaT,List.length_map]))
    all_goals first|rfl|(simp [dotL];done)
  by_cases hlt:i < p.length
  · have d1:decide ((i:Int) < (p.length:Int))=true:=decide_eq_true (by omega)
    have hi4:i < ps.length:=by omega
    have b1:=hs.bd _ (gMem (d:=0) hi4)
    have b2:=hp _ (gMem (d:=0) hlt)
    have b3:=mulPu (A:=50) (B:=4) ⟨by omega,b1.2⟩ b2
    have b4:=dot_bd (ps:=ps.take i) (p:=p.take i) (fun n hn=>hs.bd n (List.mem_of_mem_take hn)) fun n hn=>hp n (List.mem_of_mem_take hn)
    have b5:(ps.take i).length=i:=by rw [List.length_take];omega
    rw [b5] at b4
    have e1:=wrap64 (n:=(i:Int)+1) (by omega) (by omega)
    have e2:=wrap64 (n:=ps.getD i 0 * p.getD i 0) (by omega) (by omega)
    have e3:=wrap64 (n:=dotL (ps.take i) (p.take i)+ps.getD i 0 * p.getD i 0) (by omega) (by omega)
    have e4:=dot_snoc hi4 hlt
    repeat' (first|(apply nx;with_reducible constructor)|refine uq (by decide) ?_|((first|refine vz env fun Q hQ=>?_|refine vj fun Q hQ=>?_);simp only [vkt,seval,tbN5_72,xbN5_2,vaT,List.length_map,d1,e1,e2,e3];(try simp only [ite_and]);(repeat' (first|with_reducible assumption|refine And.intro ?_ ?_|intro hp));all_goals (first|(refine hQ _ ?_;clear hQ Q)|(refine hQ _ (fun h=>?_) (fun h=>?_) <;> clear hQ Q <;> (try simp only [vki,reduceCtorEq] at h))|omega|assumption|with_reducible rfl|(refine vq ?_;kernel_rfl)|skip)))
    refine ⟨⟨i+1,hlt⟩,by show p.length - (i+1) < p.length - i;omega,?_⟩
    (refine Le.ok some [] ?_;constructor;all_goals (try simp only [vle,vkt,seval,tbN5_72,xbN5_2,vaT,List.length_map]))
    all_goals first|rfl|(rw [e4];rfl)|exact ⟨by rw [e4],rfl⟩
  · have d1:decide ((i:Int) < (p.length:Int))=false:=decide_eq_false (by omega)
    have e6:dotL (ps.take i) (p.take i)=dotL ps p:=by rw [show p.take i=p from List.take_of_length_le (by omega),dot_takeL (by omega)]
    repeat' (first|(apply nx;with_reducible constructor)|refine uq (by decide) ?_|((first|refine vz env fun Q hQ=>?_|refine vj fun Q hQ=>?_);simp only [vkt,seval,tbN5_72,xbN5_2,vaT,List.length_map,d1,e6];(try simp only [ite_and]);(repeat' (first|with_reducible assumption|refine And.intro ?_ ?_|intro hp));all_goals (first|(refine hQ _ ?_;clear hQ Q)|(refine hQ _ (fun h=>?_) (fun h=>?_) <;> clear hQ Q <;> (try simp only [vki,reduceCtorEq] at h))|omega|assumption|with_reducible rfl|(refine vq ?_;kernel_rfl)|skip)))
    (simp only [vrt,Try.results72,vkt,seval,tbN5_72,xbN5_2,vaT,List.length_map];refine Fin.val rfl ?_;(try simp only [AV.le,AV.leL]))
    all_goals first|rfl
def c72:List AV→Prop × AV
  |[.sl cs,.sl xs]=>(cs=(cs.map dInt).map eInt∧xs=(xs.map dInt).map eInt∧PzOk (cs.map dInt)∧(xs.map dInt).length≤(cs.map dInt).length∧(∀ n ∈ xs.map dInt,0≤n∧n≤4),aI (dotL (cs.map dInt) (xs.map dInt)))
  |_=>(False,.junk)
theorem d72 {A:Frm→Prop}:EntryOK A Try.prog 72 (valE true c72):=valE_ok fun vs hv h=>by
  clear hv
  unfold c72 at h ⊢
  split at h
  · obtain ⟨h1,h2,h3,h4,h5⟩:=h
    refine ⟨by simp [AV.plain,aI],fun _=>by simp [AV.flat,aI],?_⟩
    have:=value_fn _ _ h3 h4 h5
    simp only [aInts,← h1,← h2] at this
    exact this
  · exact h.elim
end Go.Sym.B
namespace Go.Sym.B
open Go Go.Sym Go.Proofs Go.Sym.C
end Go.Sym.B
namespace Go.Sym.B
open Go Go.Sym Go.Proofs Go.Sym.C
def tbG9_23:=vk @ty3 (vk @ty22 (vk @ti3.eq_1 @ti22.eq_1))
def xbG9_1:=vk @aI.eq_1 (vk @aB.eq_1 (vk @aInts.eq_1 (@rInt)))
theorem copyR_fn (l:List Int) (hl:l.length≤100000):Fn noB Try.prog 23 [aInts l] noH (.row 0) (hasg [(0,.row 3 1 (l.map eInt))]) 0:=by
  have env:Env (fun _=>True) Try.prog tyB (tab []):=mkEnv trivial
  refine Fn.of (A:=fun _=>True) (n0:=0) (D:=noD) (Fn0 Try.func23 rfl (fun vs w=>by kernel_rfl) (by kernel_rfl)) (by simp) (by simp [AV.ids,AV.idsL,aInts]) (fun i o h=>by cases h) (fun _ _ _ _=>trivial) noD_ok ?_
  obtain ⟨b1,b2,b3,b4⟩:=b47 hl
  repeat' (first|(apply nx;with_reducible constructor)|refine uq (by decide) ?_|((first|refine vz env fun Q hQ=>?_|refine vj fun Q hQ=>?_);simp only [vkt,Nat.reduceEqDiff,Nat.reduceAdd,Nat.reduceMul,Nat.reduceSub,Nat.reduceLeDiff,reduceCtorEq,↓reduceIte,↓reduceDIte,Int.reduceToNat,Int.reduceLE,Int.reduceLT,Int.reduceEq,Int.reduceNeg,tbG9_23,xbG9_1];(try simp only [ite_and]);(repeat' (first|with_reducible assumption|refine And.intro ?_ ?_|intro hp));all_goals (first|(refine hQ _ ?_;clear hQ Q)|(refine hQ _ (fun h=>?_) (fun h=>?_) <;> clear hQ Q <;> (try simp only [vki,reduceCtorEq] at h))|omega|assumption|with_reducible rfl|(refine vq ?_;kernel_rfl)|skip)))
  (simp only [vrt,Try.results23,vkt,Nat.reduceEqDiff,Nat.reduceAdd,Nat.reduceMul,Nat.reduceSub,Nat.reduceLeDiff,reduceCtorEq,↓reduceIte,↓reduceDIte,Int.reduceToNat,Int.reduceLE,Int.reduceLT,Int.reduceEq,Int.reduceNeg,tbG9_23,xbG9_1];refine Fin.ok some [] ?_ ?_ ?_ ?_ ?_ rfl;all_goals (try simp only [vle,vkt,Nat.reduceEqDiff,Nat.reduceAdd,Nat.reduceMul,Nat.reduceSub,Nat.reduceLeDiff,reduceCtorEq,↓reduceIte,↓reduceDIte,Int.reduceToNat,Int.reduceLE,Int.reduceLT,Int.reduceEq,Int.reduceNeg,tbG9_23,xbG9_1]))
  all_goals first|rfl|(simp;done)
theorem flInt (l:List Int):(∀ r ∈ l.map eInt,∀ d ∈ r,∃ x,d=DV.v x)=True:=by
  simp [eInt]
def p23r (S:St):List AV→Option Pk
  |[.row r]=>match S.h r with
    |some (.row _ _ xs)=>some { pre:=xs=(xs.map dInt).map eInt∧xs.length≤100000,bo:=[r],ar:=[.sl xs],v:=.row 0,L1:=[some (.row 3 1 xs)],fl:=true }
    |_=>none
  |[.sl xs]=>some { pre:=xs=(xs.map dInt).map eInt∧xs.length≤100000,ar:=[.sl xs],v:=.row 0,L1:=[some (.row 3 1 xs)] }
  |_=>none
theorem e23r {A:Frm→Prop}:EntryOK A Try.prog 23 (fnE p23r):=fnE_ok fun S bs q h hp=>by
  unfold p23r at h
  split at h
  · split at h
    · cases h
      rename_i xs _
      have:=copyR_fn (List.map dInt xs) (by rw [List.length_map];exact hp.2)
      simp only [aInts,← hp.1] at this
      exact this
    · cases h
  · cases h
    rename_i xs
    have:=copyR_fn (List.map dInt xs) (by rw [List.length_map];exact hp.2)
    simp only [aInts,← hp.1] at this
    exact this
  · cases h
theorem pcK_1 (y:Int) (j:Nat):(pcK y (j+1)).1=(pcK y j).1++[(pcK y j).1.getD j 0+(1+upV (pcK y j).2 (12 - 1))]:=rfl
theorem pcK_2 (y:Int) (j:Nat):(pcK y (j+1)).2=upS (pcK y j).2 (12 - 1):=rfl
theorem rtK_1 (y:Int) (j:Nat):(rtK y (j+1)).1=(rtK y j).1++[rtV (rtK y j).2]:=rfl
theorem rtK_2 (y:Int) (j:Nat):(rtK y (j+1)).2=rtS (rtK y j).2:=rfl
theorem dyK_1 (m:Nat) (y:Int) (j:Nat):(dyK m y (j+1)).1=(dyK m y j).1++[(rtK (dyK m y j).2 m).1]:=rfl
theorem dyK_2 (m:Nat) (y:Int) (j:Nat):(dyK m y (j+1)).2=(rtK (dyK m y j).2 m).2:=rfl
theorem enK_1 (C:Nat) (rs:List (List Sh)) (w:Int) (s:EnS) (k:Nat):enK C rs w s (k+1)=enStep C rs w (enK C rs w s k):=rfl
theorem gRow {l:List (List Sh)} {n:Nat} (h:n < l.length):(l.map eShs).getD n []=eShs (l.getD n []):=by simp [List.getD_eq_getElem?_getD,h]
theorem dIntW (n:Int):dInt [.v (.int .i64 n)]=n:=rfl
def loT (c d e w:Int):List (Nat × AV):=[(0,.ptr 0 0),(1,aI c),(2,aI d),(3,aI e),(4,aI w),(10,.ptr 1 0),(11,.ptr 2 0)]
def nil4:List AV:=[.nil,.nil,.nil,.nil]
noncomputable def lo1 (c d e w:Int) (b:Int) (V k:Nat):St:={ t:=asg (loT c d e w++[(12,aI ((V:Int) - (k:Int)))]),h:=hasg [(0,.cells [.v (.int .u64 (coK b k).x)]),(1,.cells nil4),(2,.cells [.row 3,.nil,.row 4,.nil]),(3,.row 22 1 ((coK b k).cs.map eInts)),(4,.row 3 1 ((coK b k).ss.map eInt))],n:=5,m:=1 }
noncomputable def lo2 (c d e w:Int) (s:CoS) (y:Int) (V k K j:Nat):St:={ t:=asg (loT c d e w++[(12,aI ((V:Int) - (k:Int))),(13,.row 5),(14,aI ((K:Int) - (j:Int)))]),h:=hasg [(0,.cells [.v (.int .u64 (pcK y j).2)]),(1,.cells nil4),(2,.cells [.row 3,.nil,.row 4,.nil]),(3,.row 22 1 (s.cs.map eInts)),(4,.row 3 1 (s.ss.map eInt)),(5,.row 3 1 ((pcK y j).1.map eInt))],n:=6,m:=1 }
def lo3 (c d e w:Int) (s:CoS) (p:List Int) (y:Int) (V k:Nat):St:={ t:=asg (loT c d e w++[(12,aI ((V:Int) - (k:Int))),(13,aInts p)]),h:=hasg [(0,.cells [.v (.int .u64 y)]),(1,.cells nil4),(2,.cells [.row 3,.nil,.row 4,.nil]),(3,.row 22 1 (s.cs.map eInts)),(4,.row 3 1 (s.ss.map eInt))],n:=5,m:=1 }
noncomputable def ld1 (c d e w:Int) (s:CoS) (m:Nat) (b:Int) (V k:Nat):St:={ t:=asg (loT c d e w++[(15,aI ((V:Int) - (k:Int)))]),h:=hasg [(0,.cells [.v (.int .u64 (dyK m b k).2)]),(1,.cells nil4),(2,.cells [.row 3,.row 5,.row 4,.nil]),(3,.row 22 1 (s.cs.map eInts)),(4,.row 3 1 (s.ss.map eInt)),(5,.row 55 1 ((dyK m b k).1.map eShs))],n:=6,m:=1 }
noncomputable def ld2 (c d e w:Int) (s:CoS) (rs:List (List Sh)) (y:Int) (V k j:Nat):St:={ t:=asg (loT c d e w++[(15,aI ((V:Int) - (k:Int))),(16,.row 6),(17,aI ((j:Int)+1))]),h:=hasg [(0,.cells [.v (.int .u64 (rtK y j).2)]),(1,.cells nil4),(2,.cells [.row 3,.row 5,.row 4,.nil]),(3,.row 22 1 (s.cs.map eInts)),(4,.row 3 1 (s.ss.map eInt)),(5,.row 55 1 (rs.map eShs)),(6,.row 59 2 ((rtK y j).1.map eSh))],n:=7,m:=1 }
def ld3 (c d e w:Int) (s:CoS) (rs:List (List Sh)) (r:List Sh) (y:Int) (V k:Nat):St:={ t:=asg (loT c d e w++[(15,aI ((V:Int) - (k:Int))),(16,aShs r)]),h:=hasg [(0,.cells [.v (.int .u64 y)]),(1,.cells nil4),(2,.cells [.row 3,.row 5,.row 4,.nil]),(3,.row 22 1 (s.cs.map eInts)),(4,.row 3 1 (s.ss.map eInt)),(5,.row 55 1 (rs.map eShs))],n:=6,m:=1 }
def le1 (c d e w:Int) (s:CoS) (rs:List (List Sh)) (t:EnS) (V k:Nat):St:={ t:=asg (loT c d e w++[(18,.row 6),(19,aI t.day),(20,aI ((V:Int) - (k:Int)))]),h:=hasg [(0,.cells [.v (.int .u64 t.x)]),(1,.cells nil4),(2,.cells [.row 3,.row 5,.row 4,.row 7]),(3,.row 22 1 (s.cs.map eInts)),(4,.row 3 1 (s.ss.map eInt)),(5,.row 55 1 (rs.map eShs)),(6,.row 3 1 (t.till.map eInt)),(7,.row 48 6 (t.es.map eEnt))],n:=8,m:=1 }
def tbG9_27:=vk @ty3 (vk @ty22 (vk @ty28 (vk @ty35 (vk @ty36 (vk @ty38 (vk @ty48 (vk @ty55 (vk @ty59 (vk @ti3.eq_1 (vk @ti22.eq_1 (vk @ti28.eq_1 (vk @ti35.eq_1 (vk @ti36.eq_1 (vk @ti38.eq_1 (vk @ti48.eq_1 (vk @ti55.eq_1 @ti59.eq_1))))))))))))))))
def xbG9_2:=vk @aI.eq_1 (vk @aB.eq_1 (vk @aSh.eq_1 (vk @aLed.eq_1 (vk @cLed.eq_1 (vk @aInts.eq_1 (vk @aShs.eq_1 (vk @bgH.eq_1 (vk @mInt (vk @dIntW (vk @loT.eq_1 (vk @nil4.eq_1 (vk @lo1.eq_1 (vk @lo2.eq_1 (vk @lo3.eq_1 (vk @ld1.eq_1 (vk @ld2.eq_1 (vk @ld3.eq_1 (vk @le1.eq_1 (vk @p21.eq_1 (vk @p21.eq_2 (vk @p22.eq_1 (vk @p22.eq_2 (vk @p84.eq_1 (vk @p84.eq_2 (vk @p85.eq_1 (vk @p85.eq_2 (vk @p71.eq_1 (vk @p71.eq_2 (vk @s54.eq_1 (vk @s54.eq_2 (vk @p23r.eq_1 (vk @p23r.eq_2 (vk @p23r.eq_3 (vk @gInt (vk @eInt.eq_1 (vk @eShs.eq_1 (vk @rInt (vk @rSh (vk @rEnt (vk @rInts (vk @rShs (@flInt))))))))))))))))))))))))))))))))))))))))))
set_option maxRecDepth 100000 in
set_option maxHeartbeats 40000000 in
theorem ledgerOf_fn (x c d e w:Int) (hc:1≤c∧c≤4) (hd:1≤d∧d≤4) (he:0≤e∧e≤6):Fn noB Try.prog 27 [.ptr 0 0,aI c,aI d,aI e,aI w] (hasg (bgH x)) (aLed (lgL x c d e w)) (hasg (bgH (lgS x c d e w))) 0:=by
  have env:Env (fun _=>True) Try.prog tyB (tab [(21,fnE p21),(22,fnE p22),(23,fnE p23r),(84,fnE p84),(85,fnE p85),(71,fnE p71),(54,valE true s54)]):=mkEnv ⟨e21,e22,e23r,e84,e85,e71,e54,trivial⟩
  refine Fn.of (A:=fun _=>True) (n0:=1) (D:=noD) (Fn0 Try.func27 rfl (fun vs w=>by kernel_rfl) (by kernel_rfl)) (by simp) (by simp [AV.ids,AV.idsL,aI]) ?_ (fun _ _ _ _=>trivial) noD_ok ?_
  · intro i o hi
    have h:=hasg_mem hi
    simp [bgH] at h
    rcases h with ⟨rfl,rfl⟩;simp [AObj.ids,AV.ids,AV.idsL]
  have mc:min c 4=c:=by omega
  have md:min d 4=d:=by omega
  have me:min e 6=e:=by omega
  have big:(100000:Nat)≤maxLen:=by decide
  have hu:=upV_le (x:=x) (m:=c - 1) (by omega) (by omega)
  obtain ⟨V,hV⟩:∃ V:Nat,1+upV x (c - 1)=(V:Int):=⟨(1+upV x (c - 1)).toNat,by omega⟩
  have hV1:1≤V∧V≤4:=by omega
  have g1:lg1 x c=coK (upS x (c - 1)) V:=by unfold lg1;rw [hV];rfl
  generalize hb:upS x (c - 1)=b at *
  repeat' (first|(apply nx;with_reducible constructor)|refine uq (by decide) ?_|((first|refine vz env fun Q hQ=>?_|refine vj fun Q hQ=>?_);simp only [vkt,Nat.reduceEqDiff,Nat.reduceAdd,Nat.reduceMul,Nat.reduceSub,Nat.reduceLeDiff,reduceCtorEq,↓reduceIte,↓reduceDIte,Int.reduceToNat,Int.reduceLE,Int.reduceLT,Int.reduceEq,Int.reduceNeg,tbG9_27,xbG9_2,List.map_cons,List.map_nil,List.length_cons,List.length_nil,List.nil_append,List.append_nil,List.cons_append,mc,hV,hb];(try simp only [ite_and]);(repeat' (first|with_reducible assumption|refine And.intro ?_ ?_|intro hp));all_goals (first|(refine hQ _ ?_;clear hQ Q)|(refine hQ _ (fun h=>?_) (fun h=>?_) <;> clear hQ Q <;> (try simp only [vki,reduceCtorEq] at h))|omega|assumption|with_reducible rfl|(refine vq ?_;kernel_rfl)|skip)))
  refine sym_loop (fun k:{ k:Nat // k≤V }=>lo1 c d e w b V k.1) (fun k=>V - k.1) ⟨0,Nat.zero_le _⟩ ?_ fun ⟨k,hk⟩=>?_
  · (refine Le.ok (fun j=>if j=3∨j=4 then none else some j) [] ?_;constructor;all_goals (try simp only [vle,vkt,Nat.reduceEqDiff,Nat.reduceAdd,Nat.reduceMul,Nat.reduceSub,Nat.reduceLeDiff,reduceCtorEq,↓reduceIte,↓reduceDIte,Int.reduceToNat,Int.reduceLE,Int.reduceLT,Int.reduceEq,Int.reduceNeg,tbG9_27,xbG9_2,List.map_cons,List.map_nil,List.length_cons,List.length_nil,List.nil_append,List.append_nil,List.cons_append]))
    all_goals first|rfl|(simp [coK,hb,hV];done)
  · repeat' (first|(apply nx;with_reducible constructor)|refine uq (by decide) ?_)
    (refine vz env fun Q hQ=>?_;simp only [vkt,Nat.reduceEqDiff,Nat.reduceAdd,Nat.reduceMul,Nat.reduceSub,Nat.reduceLeDiff,reduceCtorEq,↓reduceIte,↓reduceDIte,Int.reduceToNat,Int.reduceLE,Int.reduceLT,Int.reduceEq,Int.reduceNeg,tbG9_27,xbG9_2,List.map_cons,List.map_nil,List.length_cons,List.length_nil,List.nil_append,List.append_nil,List.cons_append];(try simp only [ite_and]);(repeat' (first|with_reducible assumption|refine And.intro ?_ ?_|intro hp));all_goals (first|(refine hQ _ ?_;clear hQ Q)|omega|assumption|with_reducible rfl|(refine vq ?_;kernel_rfl)|skip))
    repeat' (first|(apply nx;with_reducible constructor)|refine uq (by decide) ?_)
    (refine sym_cd (by simp only [vkt,Nat.reduceEqDiff,Nat.reduceAdd,Nat.reduceMul,Nat.reduceSub,Nat.reduceLeDiff,reduceCtorEq,↓reduceIte,↓reduceDIte,Int.reduceToNat,Int.reduceLE,Int.reduceLT,Int.reduceEq,Int.reduceNeg,tbG9_27,xbG9_2,List.map_cons,List.map_nil,List.length_cons,List.length_nil,List.nil_append,List.append_nil,List.cons_append];rfl) (fun h=>?_) (fun h=>?_) <;> (try simp only [vki,reduceCtorEq] at h))
    · have hlt:k < V:=by omega
      have ok:=coK_ok b k
      have hs:=coK_succ b k
      generalize coK b k=s at *
      have u1:=upV_le (x:=s.x) (m:=3) (by decide) (by decide)
      unfold coStep at hs
      obtain ⟨K,hK⟩:∃ K:Nat,upV s.x 3=(K:Int):=⟨(upV s.x 3).toNat,by omega⟩
      rw [hK,Int.toNat_natCast] at hs
      generalize hy:upS s.x 3=y at *
      repeat' (first|(apply nx;with_reducible constructor)|refine uq (by decide) ?_|((first|refine vz env fun Q hQ=>?_|refine vj fun Q hQ=>?_);simp only [vkt,Nat.reduceEqDiff,Nat.reduceAdd,Nat.reduceMul,Nat.reduceSub,Nat.reduceLeDiff,reduceCtorEq,↓reduceIte,↓reduceDIte,Int.reduceToNat,Int.reduceLE,Int.reduceLT,Int.reduceEq,Int.reduceNeg,tbG9_27,xbG9_2,List.map_cons,List.map_nil,List.length_cons,List.length_nil,List.nil_append,List.append_nil,List.cons_append,hK,hy];(try simp only [ite_and]);(repeat' (first|with_reducible assumption|refine And.intro ?_ ?_|intro hp));all_goals (first|(refine hQ _ ?_;clear hQ Q)|(refine hQ _ (fun h=>?_) (fun h=>?_) <;> clear hQ Q <;> (try simp only [vki,reduceCtorEq] at h))|omega|assumption|with_reducible rfl|(refine vq ?_;kernel_rfl)|skip)))
      refine sym_loop (fun j:{ j:Nat // j≤K }=>lo2 c d e w s y V k K j.1) (fun j=>K - j.1) ⟨0,Nat.zero_le _⟩ ?_ fun ⟨j,hj⟩=>?_
      · (refine Le.ok some [] ?_;constructor;all_goals (try simp only [vle,vkt,Nat.reduceEqDiff,Nat.reduceAdd,Nat.reduceMul,Nat.reduceSub,Nat.reduceLeDiff,reduceCtorEq,↓reduceIte,↓reduceDIte,Int.reduceToNat,Int.reduceLE,Int.reduceLT,Int.reduceEq,Int.reduceNeg,tbG9_27,xbG9_2,List.map_cons,List.map_nil,List.length_cons,List.length_nil,List.nil_append,List.append_nil,List.cons_append]))
        all_goals first|rfl|(simp [pcK,eInt];done)
      · repeat' (first|(apply nx;with_reducible constructor)|refine uq (by decide) ?_)
        (refine vz env fun Q hQ=>?_;simp only [vkt,Nat.reduceEqDiff,Nat.reduceAdd,Nat.reduceMul,Nat.reduceSub,Nat.reduceLeDiff,reduceCtorEq,↓reduceIte,↓reduceDIte,Int.reduceToNat,Int.reduceLE,Int.reduceLT,Int.reduceEq,Int.reduceNeg,tbG9_27,xbG9_2,List.map_cons,List.map_nil,List.length_cons,List.length_nil,List.nil_append,List.append_nil,List.cons_append];(try simp only [ite_and]);(repeat' (first|with_reducible assumption|refine And.intro ?_ ?_|intro hp));all_goals (first|(refine hQ _ ?_;clear hQ Q)|omega|assumption|with_reducible rfl|(refine vq ?_;kernel_rfl)|skip))
        repeat' (first|(apply nx;with_reducible constructor)|refine uq (by decide) ?_)
        (refine sym_cd (by simp only [vkt,Nat.reduceEqDiff,Nat.reduceAdd,Nat.reduceMul,Nat.reduceSub,Nat.reduceLeDiff,reduceCtorEq,↓reduceIte,↓reduceDIte,Int.reduceToNat,Int.reduceLE,Int.reduceLT,Int.reduceEq,Int.reduceNeg,tbG9_27,xbG9_2,List.map_cons,List.map_nil,List.length_cons,List.length_nil,List.nil_append,List.append_nil,List.cons_append];rfl) (fun h=>?_) (fun h=>?_) <;> (try simp only [vki,reduceCtorEq] at h))
        · have hjl:j < K:=by omega
          have pk:=pcK_ok y j
          have pl:=pk.len
          have pb:=pk.le j (Nat.le_refl _)
          have hp1:=pcK_1 y j
          have hp2:=(pcK_2 y j).symm
          have q1:=upV_le (x:=(pcK y j).2) (m:=12 - 1) (by decide) (by decide)
          generalize (pcK y j).1=p at *
          generalize (pcK y j).2=z at *
          have e7:IntKind.wrap .i64 ((K:Int) - (j:Int) - 1)=(K:Int) - ((j+1:Nat):Int):=by rw [wrap64 (by omega) (by omega)];omega
          have e8:IntKind.wrap .i64 (((j+1:Nat):Int) - 1)=(j:Int):=by rw [wrap64 (by omega) (by omega)];omega
          have e9:IntKind.wrap .i64 (p.getD j 0+(1+upV z (12 - 1)))=p.getD j 0+(1+upV z (12 - 1)):=wrap64 (by omega) (by omega)
          have e5:j < p.length:=by omega
          have m1:(j+1+1) * 8≤140737488355328∧j+1+1≤maxLen:=by omega
          have e6:=gI0 e5
          have e4:p.map eInt++[[.v (.int .i64 (p.getD j 0+(1+upV z (12 - 1))))]]=(pcK y (j+1)).1.map eInt:=by rw [hp1,List.map_append];rfl
          repeat' (first|(apply nx;with_reducible constructor)|refine uq (by decide) ?_|((first|refine vz env fun Q hQ=>?_|refine vj fun Q hQ=>?_);simp only [vkt,Nat.reduceEqDiff,Nat.reduceAdd,Nat.reduceMul,Nat.reduceSub,Nat.reduceLeDiff,reduceCtorEq,↓reduceIte,↓reduceDIte,Int.reduceToNat,Int.reduceLE,Int.reduceLT,Int.reduceEq,Int.reduceNeg,tbG9_27,xbG9_2,List.map_cons,List.map_nil,List.length_cons,List.length_nil,List.nil_append,List.append_nil,List.cons_append,e7,e8,e6,e9,e4,pl,hp2];(try simp only [ite_and]);(repeat' (first|with_reducible assumption|refine And.intro ?_ ?_|intro hp));all_goals (first|(refine hQ _ ?_;clear hQ Q)|(refine hQ _ (fun h=>?_) (fun h=>?_) <;> clear hQ Q <;> (try simp only [vki,reduceCtorEq] at h))|omega|assumption|with_reducible rfl|(refine vq ?_;kernel_rfl)|skip)))
          refine ⟨⟨j+1,hjl⟩,by show K - (j+1) < K - j;omega,?_⟩
          (refine Le.ok (fun j=>if j=5 then some 7 else some j) [] ?_;constructor;all_goals (try simp only [vle,vkt,Nat.reduceEqDiff,Nat.reduceAdd,Nat.reduceMul,Nat.reduceSub,Nat.reduceLeDiff,reduceCtorEq,↓reduceIte,↓reduceDIte,Int.reduceToNat,Int.reduceLE,Int.reduceLT,Int.reduceEq,Int.reduceNeg,tbG9_27,xbG9_2,List.map_cons,List.map_nil,List.length_cons,List.length_nil,List.nil_append,List.append_nil,List.cons_append]))
          all_goals first|rfl|(simp;done)
        · have hjk:j=K:=by omega
          subst hjk
          have okc:=ok.c
          have okl:=ok.l
          have pl:=(pcK_ok y j).len
          generalize hq1:(pcK y j).1=p at *
          generalize hq2:(pcK y j).2=z at *
          refine sym_le (S':=lo3 c d e w s p z V k) ?_ ?_
          · (refine Le.ok some [5] ?_;constructor;all_goals (try simp only [vle,vkt,Nat.reduceEqDiff,Nat.reduceAdd,Nat.reduceMul,Nat.reduceSub,Nat.reduceLeDiff,reduceCtorEq,↓reduceIte,↓reduceDIte,Int.reduceToNat,Int.reduceLE,Int.reduceLT,Int.reduceEq,Int.reduceNeg,tbG9_27,xbG9_2,List.map_cons,List.map_nil,List.length_cons,List.length_nil,List.nil_append,List.append_nil,List.cons_append]))
            all_goals first|rfl|(simp [hq1,hq2];done)|(rw [hq1];exact ⟨_,_,rfl⟩)|exact ⟨_,_,rfl⟩
          have m1:(k+1) * 24≤140737488355328∧(k+1) * 8≤140737488355328∧k+1≤maxLen:=by omega
          have e7:IntKind.wrap .i64 ((V:Int) - (k:Int) - 1)=(V:Int) - ((k+1:Nat):Int):=by rw [wrap64 (by omega) (by omega)];omega
          have e4:s.cs.map eInts++[[.sl (p.map eInt)]]=(s.cs++[p]).map eInts:=by rw [List.map_append];rfl
          have e5:s.ss.map eInt++[[.v (.int .i64 (upV z 200))]]=(s.ss++[upV z 200]).map eInt:=by rw [List.map_append];rfl
          repeat' (first|(apply nx;with_reducible constructor)|refine uq (by decide) ?_|((first|refine vz env fun Q hQ=>?_|refine vj fun Q hQ=>?_);simp only [vkt,Nat.reduceEqDiff,Nat.reduceAdd,Nat.reduceMul,Nat.reduceSub,Nat.reduceLeDiff,reduceCtorEq,↓reduceIte,↓reduceDIte,Int.reduceToNat,Int.reduceLE,Int.reduceLT,Int.reduceEq,Int.reduceNeg,tbG9_27,xbG9_2,List.map_cons,List.map_nil,List.length_cons,List.length_nil,List.nil_append,List.append_nil,List.cons_append,e7,e4,e5,okc,okl];(try simp only [ite_and]);(repeat' (first|with_reducible assumption|refine And.intro ?_ ?_|intro hp));all_goals (first|(refine hQ _ ?_;clear hQ Q)|(refine hQ _ (fun h=>?_) (fun h=>?_) <;> clear hQ Q <;> (try simp only [vki,reduceCtorEq] at h))|omega|assumption|with_reducible rfl|(refine vq ?_;kernel_rfl)|skip)))
          refine ⟨⟨k+1,hlt⟩,by show V - (k+1) < V - k;omega,?_⟩
          (refine Le.ok (fun j=>if j=3 then some 6 else if j=4 then some 8 else some j) [] ?_;constructor;all_goals (try simp only [vle,vkt,Nat.reduceEqDiff,Nat.reduceAdd,Nat.reduceMul,Nat.reduceSub,Nat.reduceLeDiff,reduceCtorEq,↓reduceIte,↓reduceDIte,Int.reduceToNat,Int.reduceLE,Int.reduceLT,Int.reduceEq,Int.reduceNeg,tbG9_27,xbG9_2,List.map_cons,List.map_nil,List.length_cons,List.length_nil,List.nil_append,List.append_nil,List.cons_append]))
          all_goals first|rfl|(simp [hs];done)
    · have hkV:k=V:=by omega
      subst hkV
      have ok:=coK_ok b k
      have g2:lg2 x c d=dyK ((lg1 x c).cs.length - 1) (upS (lg1 x c).x (d - 1)) (1+upV (lg1 x c).x (d - 1)).toNat:=rfl
      have g3:lg3 x c d e w=enK (lg1 x c).cs.length (lg2 x c d).1 w ⟨0,(lg1 x c).ss,[],upS (lg2 x c d).2 e⟩ (upV (lg2 x c d).2 e).toNat:=rfl
      have gL:lgL x c d e w=⟨(lg1 x c).cs,(lg2 x c d).1,(lg1 x c).ss,(lg3 x c d e w).es⟩:=rfl
      have gS:lgS x c d e w=(lg3 x c d e w).x:=rfl
      generalize lg1 x c=co at *
      rw [← g1] at ok ⊢
      clear g1 hb
      have okc:=ok.c
      have okl:=ok.l
      have hu2:=upV_le (x:=co.x) (m:=d - 1) (by omega) (by omega)
      obtain ⟨W,hW⟩:∃ W:Nat,1+upV co.x (d - 1)=(W:Int):=⟨(1+upV co.x (d - 1)).toNat,by omega⟩
      have hW1:1≤W∧W≤4:=by omega
      obtain ⟨m,hm⟩:∃ m,m+1=co.cs.length:=⟨co.cs.length - 1,by omega⟩
      have hmC:co.cs.length - 1=m:=by omega
      rw [hW,hmC,Int.toNat_natCast] at g2
      generalize hb2:upS co.x (d - 1)=b2 at *
      repeat' (first|(apply nx;with_reducible constructor)|refine uq (by decide) ?_|((first|refine vz env fun Q hQ=>?_|refine vj fun Q hQ=>?_);simp only [vkt,Nat.reduceEqDiff,Nat.reduceAdd,Nat.reduceMul,Nat.reduceSub,Nat.reduceLeDiff,reduceCtorEq,↓reduceIte,↓reduceDIte,Int.reduceToNat,Int.reduceLE,Int.reduceLT,Int.reduceEq,Int.reduceNeg,tbG9_27,xbG9_2,List.map_cons,List.map_nil,List.length_cons,List.length_nil,List.nil_append,List.append_nil,List.cons_append,md,hW,hb2];(try simp only [ite_and]);(repeat' (first|with_reducible assumption|refine And.intro ?_ ?_|intro hp));all_goals (first|(refine hQ _ ?_;clear hQ Q)|(refine hQ _ (fun h=>?_) (fun h=>?_) <;> clear hQ Q <;> (try simp only [vki,reduceCtorEq] at h))|omega|assumption|with_reducible rfl|(refine vq ?_;kernel_rfl)|skip)))
      refine sym_loop (fun k:{ k:Nat // k≤W }=>ld1 c d e w co m b2 W k.1) (fun k=>W - k.1) ⟨0,Nat.zero_le _⟩ ?_ fun ⟨i,hi⟩=>?_
      · (refine Le.ok (fun j=>if j=5 then none else some j) [] ?_;constructor;all_goals (try simp only [vle,vkt,Nat.reduceEqDiff,Nat.reduceAdd,Nat.reduceMul,Nat.reduceSub,Nat.reduceLeDiff,reduceCtorEq,↓reduceIte,↓reduceDIte,Int.reduceToNat,Int.reduceLE,Int.reduceLT,Int.reduceEq,Int.reduceNeg,tbG9_27,xbG9_2,List.map_cons,List.map_nil,List.length_cons,List.length_nil,List.nil_append,List.append_nil,List.cons_append]))
        all_goals first|rfl|(simp [dyK,hb2,hW];done)
      · repeat' (first|(apply nx;with_reducible constructor)|refine uq (by decide) ?_)
        (refine vz env fun Q hQ=>?_;simp only [vkt,Nat.reduceEqDiff,Nat.reduceAdd,Nat.reduceMul,Nat.reduceSub,Nat.reduceLeDiff,reduceCtorEq,↓reduceIte,↓reduceDIte,Int.reduceToNat,Int.reduceLE,Int.reduceLT,Int.reduceEq,Int.reduceNeg,tbG9_27,xbG9_2,List.map_cons,List.map_nil,List.length_cons,List.length_nil,List.nil_append,List.append_nil,List.cons_append];(try simp only [ite_and]);(repeat' (first|with_reducible assumption|refine And.intro ?_ ?_|intro hp));all_goals (first|(refine hQ _ ?_;clear hQ Q)|omega|assumption|with_reducible rfl|(refine vq ?_;kernel_rfl)|skip))
        repeat' (first|(apply nx;with_reducible constructor)|refine uq (by decide) ?_)
        (refine sym_cd (by simp only [vkt,Nat.reduceEqDiff,Nat.reduceAdd,Nat.reduceMul,Nat.reduceSub,Nat.reduceLeDiff,reduceCtorEq,↓reduceIte,↓reduceDIte,Int.reduceToNat,Int.reduceLE,Int.reduceLT,Int.reduceEq,Int.reduceNeg,tbG9_27,xbG9_2,List.map_cons,List.map_nil,List.length_cons,List.length_nil,List.nil_append,List.append_nil,List.cons_append];rfl) (fun h=>?_) (fun h=>?_) <;> (try simp only [vki,reduceCtorEq] at h))
        · have hlt:i < W:=by omega
          have okd:=dyK_ok m b2 i
          have hs1:=dyK_1 m b2 i
          have hs2:=dyK_2 m b2 i
          generalize (dyK m b2 i).1=rs at *
          generalize (dyK m b2 i).2=y at *
          repeat' (first|(apply nx;with_reducible constructor)|refine uq (by decide) ?_|((first|refine vz env fun Q hQ=>?_|refine vj fun Q hQ=>?_);simp only [vkt,Nat.reduceEqDiff,Nat.reduceAdd,Nat.reduceMul,Nat.reduceSub,Nat.reduceLeDiff,reduceCtorEq,↓reduceIte,↓reduceDIte,Int.reduceToNat,Int.reduceLE,Int.reduceLT,Int.reduceEq,Int.reduceNeg,tbG9_27,xbG9_2,List.map_cons,List.map_nil,List.length_cons,List.length_nil,List.nil_append,List.append_nil,List.cons_append];(try simp only [ite_and]);(repeat' (first|with_reducible assumption|refine And.intro ?_ ?_|intro hp));all_goals (first|(refine hQ _ ?_;clear hQ Q)|(refine hQ _ (fun h=>?_) (fun h=>?_) <;> clear hQ Q <;> (try simp only [vki,reduceCtorEq] at h))|omega|assumption|with_reducible rfl|(refine vq ?_;kernel_rfl)|skip)))
          refine sym_loop (fun j:{ j:Nat // j≤m }=>ld2 c d e w co rs y W i j.1) (fun j=>m - j.1) ⟨0,Nat.zero_le _⟩ ?_ fun ⟨j,hj⟩=>?_
          · (refine Le.ok some [] ?_;constructor;all_goals (try simp only [vle,vkt,Nat.reduceEqDiff,Nat.reduceAdd,Nat.reduceMul,Nat.reduceSub,Nat.reduceLeDiff,reduceCtorEq,↓reduceIte,↓reduceDIte,Int.reduceToNat,Int.reduceLE,Int.reduceLT,Int.reduceEq,Int.reduceNeg,tbG9_27,xbG9_2,List.map_cons,List.map_nil,List.length_cons,List.length_nil,List.nil_append,List.append_nil,List.cons_append]))
            all_goals first|rfl|(simp [rtK,eSh];done)
          · repeat' (first|(apply nx;with_reducible constructor)|refine uq (by decide) ?_)
            (refine vz env fun Q hQ=>?_;simp only [vkt,Nat.reduceEqDiff,Nat.reduceAdd,Nat.reduceMul,Nat.reduceSub,Nat.reduceLeDiff,reduceCtorEq,↓reduceIte,↓reduceDIte,Int.reduceToNat,Int.reduceLE,Int.reduceLT,Int.reduceEq,Int.reduceNeg,tbG9_27,xbG9_2,List.map_cons,List.map_nil,List.length_cons,List.length_nil,List.nil_append,List.append_nil,List.cons_append];(try simp only [ite_and]);(repeat' (first|with_reducible assumption|refine And.intro ?_ ?_|intro hp));all_goals (first|(refine hQ _ ?_;clear hQ Q)|omega|assumption|with_reducible rfl|(refine vq ?_;kernel_rfl)|skip))
            repeat' (first|(apply nx;with_reducible constructor)|refine uq (by decide) ?_)
            (refine sym_cd (by simp only [vkt,Nat.reduceEqDiff,Nat.reduceAdd,Nat.reduceMul,Nat.reduceSub,Nat.reduceLeDiff,reduceCtorEq,↓reduceIte,↓reduceDIte,Int.reduceToNat,Int.reduceLE,Int.reduceLT,Int.reduceEq,Int.reduceNeg,tbG9_27,xbG9_2,List.map_cons,List.map_nil,List.length_cons,List.length_nil,List.nil_append,List.append_nil,List.cons_append];rfl) (fun h=>?_) (fun h=>?_) <;> (try simp only [vki,reduceCtorEq] at h))
            · have hjl:j < m:=by omega
              have pl:=(rtK_ok y j).len
              have hp1:=rtK_1 y j
              have hp2:=(rtK_2 y j).symm
              generalize (rtK y j).1=r at *
              generalize (rtK y j).2=z at *
              have e7:IntKind.wrap .i64 ((j:Int)+1+1)=((j+1:Nat):Int)+1:=by rw [wrap64 (by omega) (by omega)];omega
              have m1:(j+1+1) * 16≤140737488355328∧j+1+1≤maxLen:=by omega
              have e4:r.map eSh++[[.v (.int .i64 (rtV z).num),.v (.int .i64 (rtV z).den)]]=(rtK y (j+1)).1.map eSh:=by rw [hp1,List.map_append];rfl
              repeat' (first|(apply nx;with_reducible constructor)|refine uq (by decide) ?_|((first|refine vz env fun Q hQ=>?_|refine vj fun Q hQ=>?_);simp only [vkt,Nat.reduceEqDiff,Nat.reduceAdd,Nat.reduceMul,Nat.reduceSub,Nat.reduceLeDiff,reduceCtorEq,↓reduceIte,↓reduceDIte,Int.reduceToNat,Int.reduceLE,Int.reduceLT,Int.reduceEq,Int.reduceNeg,tbG9_27,xbG9_2,List.map_cons,List.map_nil,List.length_cons,List.length_nil,List.nil_append,List.append_nil,List.cons_append,e7,e4,pl,hp2];(try simp only [ite_and]);(repeat' (first|with_reducible assumption|refine And.intro ?_ ?_|intro hp));all_goals (first|(refine hQ _ ?_;clear hQ Q)|(refine hQ _ (fun h=>?_) (fun h=>?_) <;> clear hQ Q <;> (try simp only [vki,reduceCtorEq] at h))|omega|assumption|with_reducible rfl|(refine vq ?_;kernel_rfl)|skip)))
              refine ⟨⟨j+1,hjl⟩,by show m - (j+1) < m - j;omega,?_⟩
              (refine Le.ok (fun j=>if j=6 then some 8 else some j) [] ?_;constructor;all_goals (try simp only [vle,vkt,Nat.reduceEqDiff,Nat.reduceAdd,Nat.reduceMul,Nat.reduceSub,Nat.reduceLeDiff,reduceCtorEq,↓reduceIte,↓reduceDIte,Int.reduceToNat,Int.reduceLE,Int.reduceLT,Int.reduceEq,Int.reduceNeg,tbG9_27,xbG9_2,List.map_cons,List.map_nil,List.length_cons,List.length_nil,List.nil_append,List.append_nil,List.cons_append]))
              all_goals first|rfl|(simp;done)
            · have hjm:j=m:=by omega
              subst hjm
              generalize hq1:(rtK y j).1=r at *
              generalize hq2:(rtK y j).2=z at *
              have okd1:=okd.1
              refine sym_le (S':=ld3 c d e w co rs r z W i) ?_ ?_
              · (refine Le.ok some [6] ?_;constructor;all_goals (try simp only [vle,vkt,Nat.reduceEqDiff,Nat.reduceAdd,Nat.reduceMul,Nat.reduceSub,Nat.reduceLeDiff,reduceCtorEq,↓reduceIte,↓reduceDIte,Int.reduceToNat,Int.reduceLE,Int.reduceLT,Int.reduceEq,Int.reduceNeg,tbG9_27,xbG9_2,List.map_cons,List.map_nil,List.length_cons,List.length_nil,List.nil_append,List.append_nil,List.cons_append]))
                all_goals first|rfl|(simp [hq1,hq2];done)|(rw [hq1];exact ⟨_,_,rfl⟩)|exact ⟨_,_,rfl⟩
              have m1:(i+1) * 24≤140737488355328∧i+1≤maxLen:=by omega
              have e7:IntKind.wrap .i64 ((W:Int) - (i:Int) - 1)=(W:Int) - ((i+1:Nat):Int):=by rw [wrap64 (by omega) (by omega)];omega
              have e4:rs.map eShs++[[.sl (r.map eSh)]]=(rs++[r]).map eShs:=by rw [List.map_append];rfl
              repeat' (first|(apply nx;with_reducible constructor)|refine uq (by decide) ?_|((first|refine vz env fun Q hQ=>?_|refine vj fun Q hQ=>?_);simp only [vkt,Nat.reduceEqDiff,Nat.reduceAdd,Nat.reduceMul,Nat.reduceSub,Nat.reduceLeDiff,reduceCtorEq,↓reduceIte,↓reduceDIte,Int.reduceToNat,Int.reduceLE,Int.reduceLT,Int.reduceEq,Int.reduceNeg,tbG9_27,xbG9_2,List.map_cons,List.map_nil,List.length_cons,List.length_nil,List.nil_append,List.append_nil,List.cons_append,e7,e4,okd1];(try simp only [ite_and]);(repeat' (first|with_reducible assumption|refine And.intro ?_ ?_|intro hp));all_goals (first|(refine hQ _ ?_;clear hQ Q)|(refine hQ _ (fun h=>?_) (fun h=>?_) <;> clear hQ Q <;> (try simp only [vki,reduceCtorEq] at h))|omega|assumption|with_reducible rfl|(refine vq ?_;kernel_rfl)|skip)))
              refine ⟨⟨i+1,hlt⟩,by show W - (i+1) < W - i;omega,?_⟩
              (refine Le.ok (fun j=>if j=5 then some 7 else some j) [] ?_;constructor;all_goals (try simp only [vle,vkt,Nat.reduceEqDiff,Nat.reduceAdd,Nat.reduceMul,Nat.reduceSub,Nat.reduceLeDiff,reduceCtorEq,↓reduceIte,↓reduceDIte,Int.reduceToNat,Int.reduceLE,Int.reduceLT,Int.reduceEq,Int.reduceNeg,tbG9_27,xbG9_2,List.map_cons,List.map_nil,List.length_cons,List.length_nil,List.nil_append,List.append_nil,List.cons_append]))
              all_goals first|rfl|(simp [hs1,hs2];done)
        · have hiW:i=W:=by omega
          subst hiW
          have okd:=dyK_ok m b2 i
          generalize lg2 x c d=dy at *
          rw [← g2] at okd ⊢
          clear g2 hb2
          obtain ⟨rs,y⟩:=dy
          dsimp only at okd g3 gL ⊢
          obtain ⟨okd1,okd2⟩:=okd
          subst okd1
          subst okc
          have hrs:RsOk rs co.cs.length:=⟨by omega,fun r hr=>by have:=okd2 r hr;rwa [hm] at this⟩
          have hC:1≤co.cs.length∧co.cs.length≤4:=by omega
          have hu3:=upV_le (x:=y) (m:=e) (by omega) (by omega)
          obtain ⟨U,hU⟩:∃ U:Nat,upV y e=(U:Int):=⟨(upV y e).toNat,by omega⟩
          rw [hU,Int.toNat_natCast] at g3
          have hU6:U≤6:=by omega
          have m6:co.ss.length≤100000:=by omega
          have m7:e < 9223372036854775807:=by omega
          generalize hy3:upS y e=y3 at *
          have hI0:EnI co.cs.length rs.length 0 ⟨0,co.ss,[],y3⟩:=⟨Int.le_refl _,by show (0:Int)≤_;omega,okl,fun v hv=>by have:=ok.v v hv;omega,Nat.le_refl _⟩
          have hIk:=enK_ok hrs hC (w:=w) hI0
          have hE0:enK co.cs.length rs w ⟨0,co.ss,[],y3⟩ 0=⟨0,co.ss,[],y3⟩:=rfl
          have hst:=enK_1 co.cs.length rs w ⟨0,co.ss,[],y3⟩
          generalize enK co.cs.length rs w ⟨0,co.ss,[],y3⟩=EK at *
          repeat' (first|(apply nx;with_reducible constructor)|refine uq (by decide) ?_|((first|refine vz env fun Q hQ=>?_|refine vj fun Q hQ=>?_);simp only [vkt,Nat.reduceEqDiff,Nat.reduceAdd,Nat.reduceMul,Nat.reduceSub,Nat.reduceLeDiff,reduceCtorEq,↓reduceIte,↓reduceDIte,Int.reduceToNat,Int.reduceLE,Int.reduceLT,Int.reduceEq,Int.reduceNeg,tbG9_27,xbG9_2,List.map_cons,List.map_nil,List.length_cons,List.length_nil,List.nil_append,List.append_nil,List.cons_append,me,hU,hy3];(try simp only [ite_and]);(repeat' (first|with_reducible assumption|refine And.intro ?_ ?_|intro hp));all_goals (first|(refine hQ _ ?_;clear hQ Q)|(refine hQ _ (fun h=>?_) (fun h=>?_) <;> clear hQ Q <;> (try simp only [vki,reduceCtorEq] at h))|omega|assumption|with_reducible rfl|(refine vq ?_;kernel_rfl)|skip)))
          all_goals first|exact ⟨_,_,rfl⟩|skip
          refine sym_loop (fun k:{ k:Nat // k≤U }=>le1 c d e w co rs (EK k.1) U k.1) (fun k=>U - k.1) ⟨0,Nat.zero_le _⟩ ?_ fun ⟨q,hq⟩=>?_
          · (refine Le.ok (fun j=>if j=7 then none else some j) [] ?_;constructor;all_goals (try simp only [vle,vkt,Nat.reduceEqDiff,Nat.reduceAdd,Nat.reduceMul,Nat.reduceSub,Nat.reduceLeDiff,reduceCtorEq,↓reduceIte,↓reduceDIte,Int.reduceToNat,Int.reduceLE,Int.reduceLT,Int.reduceEq,Int.reduceNeg,tbG9_27,xbG9_2,List.map_cons,List.map_nil,List.length_cons,List.length_nil,List.nil_append,List.append_nil,List.cons_append]))
            all_goals first|rfl|(simp [hE0,hU];done)
          · repeat' (first|(apply nx;with_reducible constructor)|refine uq (by decide) ?_)
            (refine vz env fun Q hQ=>?_;simp only [vkt,Nat.reduceEqDiff,Nat.reduceAdd,Nat.reduceMul,Nat.reduceSub,Nat.reduceLeDiff,reduceCtorEq,↓reduceIte,↓reduceDIte,Int.reduceToNat,Int.reduceLE,Int.reduceLT,Int.reduceEq,Int.reduceNeg,tbG9_27,xbG9_2,List.map_cons,List.map_nil,List.length_cons,List.length_nil,List.nil_append,List.append_nil,List.cons_append];(try simp only [ite_and]);(repeat' (first|with_reducible assumption|refine And.intro ?_ ?_|intro hp));all_goals (first|(refine hQ _ ?_;clear hQ Q)|omega|assumption|with_reducible rfl|(refine vq ?_;kernel_rfl)|skip))
            repeat' (first|(apply nx;with_reducible constructor)|refine uq (by decide) ?_)
            (refine sym_cd (by simp only [vkt,Nat.reduceEqDiff,Nat.reduceAdd,Nat.reduceMul,Nat.reduceSub,Nat.reduceLeDiff,reduceCtorEq,↓reduceIte,↓reduceDIte,Int.reduceToNat,Int.reduceLE,Int.reduceLT,Int.reduceEq,Int.reduceNeg,tbG9_27,xbG9_2,List.map_cons,List.map_nil,List.length_cons,List.length_nil,List.nil_append,List.append_nil,List.cons_append];rfl) (fun h=>?_) (fun h=>?_) <;> (try simp only [vki,reduceCtorEq] at h))
            · have hlt:q < U:=by omega
              have hI:=hIk q
              have hJ:=enJ_of hrs hC hI
              have hst:=hst q
              generalize EK q=t at *
              unfold enStep enK0 enX2 kinds at hst
              unfold enX2 at hJ
              have hDb:=enD_bd hI (by omega)
              obtain ⟨D,hD⟩:∃ D,enD rs.length t=D:=⟨_,rfl⟩
              obtain ⟨X1,hX1⟩:∃ X1,enX1 rs.length t=X1:=⟨_,rfl⟩
              rw [hD] at hst hJ
              rw [hX1] at hst hJ
              have hD':t.day+upV t.x (min (t.day+1) ((rs.length:Int) - 1) - t.day)=D:=hD
              have hX1':upS t.x (min (t.day+1) ((rs.length:Int) - 1) - t.day)=X1:=hX1
              clear hD hX1 hDb
              obtain ⟨κ,hκ⟩:∃ κ,oneV X1 [1,2,3,3,3,4]=κ:=⟨_,rfl⟩
              obtain ⟨X2,hX2⟩:∃ X2,upS X1 ((6:Nat) - 1)=X2:=⟨_,rfl⟩
              rw [hκ,hX2] at hst
              rw [hX2] at hJ
              obtain ⟨cn,hcn⟩:∃ cn,upV X2 ((co.cs.length:Int) - 1)=cn:=⟨_,rfl⟩
              obtain ⟨X3,hX3⟩:∃ X3,upS X2 ((co.cs.length:Int) - 1)=X3:=⟨_,rfl⟩
              rw [hcn] at hst hJ
              rw [hX3] at hst
              have t1:=hI.len
              have t2:=hI.es
              have t3:=hI.d0
              have t4:=hI.d1
              have j1:=hJ.d0
              have j2:=hJ.d1
              have j3:=hJ.c0
              have j4:=hJ.c1
              have j5:=hJ.h
              have wD:IntKind.wrap .i64 (t.day+1)=t.day+1:=wrap64 (by omega) (by omega)
              have wR:IntKind.wrap .i64 ((rs.length:Int) - 1)=(rs.length:Int) - 1:=wrap64 (by omega) (by omega)
              have wC:IntKind.wrap .i64 ((co.cs.length:Int) - 1)=(co.cs.length:Int) - 1:=wrap64 (by omega) (by omega)
              have e7:IntKind.wrap .i64 ((U:Int) - (q:Int) - 1)=(U:Int) - ((q+1:Nat):Int):=by rw [wrap64 (by omega) (by omega)];omega
              have m1:(t.es.length+1) * 48≤140737488355328∧t.es.length+1≤maxLen:=by omega
              have lc:cn.toNat < t.till.length:=by omega
              have e6:=gI0 lc
              have p1:-100000≤t.day∧t.day≤100000∧-100000≤min (t.day+1) ((rs.length:Int) - 1)∧min (t.day+1) ((rs.length:Int) - 1)≤100000:=by omega
              have p2:(co.cs.length:Int) - 1 < 9223372036854775807:=by omega
              generalize hh:t.till.getD cn.toNat 0=hv at *
              by_cases k1:κ=1
              · subst k1
                have hst:EK (q+1)=⟨D,t.till.set cn.toNat (hv+upV X3 90),t.es++[⟨D,1,cn,0,upV X3 90,0⟩],upS X3 90⟩:=by rw [hst];unfold enS0 enS1;rw [if_pos rfl,hh]
                have u1:=upV_le (x:=X3) (m:=90) (by decide) (by decide)
                have w1:IntKind.wrap .i64 (hv+upV X3 90)=hv+upV X3 90:=wrap64 (by omega) (by omega)
                have e4:t.es.map eEnt++[[.v (.int .i64 D),.v (.int .i64 1),.v (.int .i64 cn),.v (.int .i64 0),.v (.int .i64 (upV X3 90)),.v (.int .i64 0)]]=(t.es++[(⟨D,1,cn,0,upV X3 90,0⟩:Ent)]).map eEnt:=by rw [List.map_append];rfl
                repeat' (first|(apply nx;with_reducible constructor)|refine uq (by decide) ?_|((first|refine vz env fun Q hQ=>?_|refine vj fun Q hQ=>?_);simp only [vkt,Nat.reduceEqDiff,Nat.reduceAdd,Nat.reduceMul,Nat.reduceSub,Nat.reduceLeDiff,reduceCtorEq,↓reduceIte,↓reduceDIte,Int.reduceToNat,Int.reduceLE,Int.reduceLT,Int.reduceEq,Int.reduceNeg,tbG9_27,xbG9_2,List.map_cons,List.map_nil,List.length_cons,List.length_nil,List.nil_append,List.append_nil,List.cons_append,wD,wR,wC,hD',hX1',hκ,hX2,hcn,hX3,e6,w1,e4,e7,setI];(try simp only [ite_and]);(repeat' (first|with_reducible assumption|refine And.intro ?_ ?_));all_goals (first|(refine hQ _ ?_;clear hQ Q)|(refine hQ _ (fun h=>?_) (fun h=>?_) <;> clear hQ Q <;> (try simp only [vki,reduceCtorEq] at h))|omega|with_reducible assumption|with_reducible rfl|(refine vq ?_;kernel_rfl)|skip)))
                all_goals first|exact ⟨_,_,rfl⟩|skip
                refine ⟨⟨q+1,hlt⟩,by show U - (q+1) < U - q;omega,?_⟩
                (refine Le.ok (fun j=>if j=7 then some 11 else some j) [] ?_;constructor;all_goals (try simp only [vle,vkt,Nat.reduceEqDiff,Nat.reduceAdd,Nat.reduceMul,Nat.reduceSub,Nat.reduceLeDiff,reduceCtorEq,↓reduceIte,↓reduceDIte,Int.reduceToNat,Int.reduceLE,Int.reduceLT,Int.reduceEq,Int.reduceNeg,tbG9_27,xbG9_2,List.map_cons,List.map_nil,List.length_cons,List.length_nil,List.nil_append,List.append_nil,List.cons_append]))
                all_goals first|rfl|(simp [hst];done)
              by_cases k2:κ=2
              · subst k2
                have u1:=upV_bd (x:=X3) (m:=min hv 90) (by omega)
                have hst:EK (q+1)=⟨D,t.till.set cn.toNat (hv - upV X3 (min hv 90)),t.es++[(⟨D,2,cn,0,upV X3 (min hv 90),0⟩:Ent)],upS X3 (min hv 90)⟩:=by rw [hst];unfold enS0 enS2;rw [if_neg (by decide),if_pos rfl,hh]
                obtain ⟨am,hA⟩:∃ am,upV X3 (min hv 90)=am:=⟨_,rfl⟩
                obtain ⟨X4,hX4⟩:∃ X4,upS X3 (min hv 90)=X4:=⟨_,rfl⟩
                rw [hA,hX4] at hst
                rw [hA] at u1
                have p3:min hv 90 < 9223372036854775807:=by omega
                have w1:IntKind.wrap .i64 (hv - am)=hv - am:=wrap64 (by omega) (by omega)
                have e4:t.es.map eEnt++[[.v (.int .i64 D),.v (.int .i64 2),.v (.int .i64 cn),.v (.int .i64 0),.v (.int .i64 am),.v (.int .i64 0)]]=(t.es++[(⟨D,2,cn,0,am,0⟩:Ent)]).map eEnt:=by rw [List.map_append];rfl
                repeat' (first|(apply nx;with_reducible constructor)|refine uq (by decide) ?_|((first|refine vz env fun Q hQ=>?_|refine vj fun Q hQ=>?_);simp only [vkt,Nat.reduceEqDiff,Nat.reduceAdd,Nat.reduceMul,Nat.reduceSub,Nat.reduceLeDiff,reduceCtorEq,↓reduceIte,↓reduceDIte,Int.reduceToNat,Int.reduceLE,Int.reduceLT,Int.reduceEq,Int.reduceNeg,tbG9_27,xbG9_2,List.map_cons,List.map_nil,List.length_cons,List.length_nil,List.nil_append,List.append_nil,List.cons_append,wD,wR,wC,hD',hX1',hκ,hX2,hcn,hX3,e6,hA,hX4,w1,e4,e7,setI];(try simp only [ite_and]);(repeat' (first|with_reducible assumption|refine And.intro ?_ ?_));all_goals (first|(refine hQ _ ?_;clear hQ Q)|(refine hQ _ (fun h=>?_) (fun h=>?_) <;> clear hQ Q <;> (try simp only [vki,reduceCtorEq] at h))|omega|with_reducible assumption|with_reducible rfl|(refine vq ?_;kernel_rfl)|skip)))
                all_goals first|exact ⟨_,_,rfl⟩|skip
                refine ⟨⟨q+1,hlt⟩,by show U - (q+1) < U - q;omega,?_⟩
                (refine Le.ok (fun j=>if j=7 then some 11 else some j) [] ?_;constructor;all_goals (try simp only [vle,vkt,Nat.reduceEqDiff,Nat.reduceAdd,Nat.reduceMul,Nat.reduceSub,Nat.reduceLeDiff,reduceCtorEq,↓reduceIte,↓reduceDIte,Int.reduceToNat,Int.reduceLE,Int.reduceLT,Int.reduceEq,Int.reduceNeg,tbG9_27,xbG9_2,List.map_cons,List.map_nil,List.length_cons,List.length_nil,List.nil_append,List.append_nil,List.cons_append]))
                all_goals first|rfl|(simp [hst];done)
              by_cases k4:κ=4
              · subst k4
                have u1:=enA4_bd hv X3
                have u2:=upV_bd (x:=X3) (m:=3 - -3) (by decide)
                have hst:EK (q+1)=⟨D,t.till.set cn.toNat (enA4 hv X3),t.es++[(⟨D,4,cn,0,enA4 hv X3,0⟩:Ent)],upS (upS X3 (3 - -3)) ((2:Nat) - 1)⟩:=by rw [hst];unfold enS0 enS4;rw [if_neg (by decide),if_neg (by decide),if_pos rfl,hh]
                unfold enA4 enF at hst u1
                obtain ⟨f,hf⟩:∃ f,-3+upV X3 (3 - -3)=f:=⟨_,rfl⟩
                obtain ⟨X4,hX4⟩:∃ X4,upS X3 (3 - -3)=X4:=⟨_,rfl⟩
                have hf3:-3≤f∧f≤3:=by omega
                rw [hf,hX4] at hst u1
                have ho:=oneV_mem (x:=X4) (l:=[0,f]) (by simp) (by simp)
                obtain ⟨o,hO⟩:∃ o,oneV X4 [0,f]=o:=⟨_,rfl⟩
                obtain ⟨X5,hX5⟩:∃ X5,upS X4 ((2:Nat) - 1)=X5:=⟨_,rfl⟩
                rw [hO,hX5] at hst
                rw [hO] at u1 ho
                have ho:-3≤o∧o≤3:=by simp at ho;omega
                have w1:IntKind.wrap .i64 (hv+o)=hv+o:=wrap64 (by omega) (by omega)
                obtain ⟨am,hA⟩:∃ am,max 0 (min 999 (hv+o))=am:=⟨_,rfl⟩
                rw [hA] at hst
                have e4:t.es.map eEnt++[[.v (.int .i64 D),.v (.int .i64 4),.v (.int .i64 cn),.v (.int .i64 0),.v (.int .i64 am),.v (.int .i64 0)]]=(t.es++[(⟨D,4,cn,0,am,0⟩:Ent)]).map eEnt:=by rw [List.map_append];rfl
                repeat' (first|(apply nx;with_reducible constructor)|refine uq (by decide) ?_|((first|refine vz env fun Q hQ=>?_|refine vj fun Q hQ=>?_);simp only [vkt,Nat.reduceEqDiff,Nat.reduceAdd,Nat.reduceMul,Nat.reduceSub,Nat.reduceLeDiff,reduceCtorEq,↓reduceIte,↓reduceDIte,Int.reduceToNat,Int.reduceLE,Int.reduceLT,Int.reduceEq,Int.reduceNeg,tbG9_27,xbG9_2,List.map_cons,List.map_nil,List.length_cons,List.length_nil,List.nil_append,List.append_nil,List.cons_append,wD,wR,wC,hD',hX1',hκ,hX2,hcn,hX3,e6,hf,hX4,hO,hX5,w1,hA,e4,e7,setI];(try simp only [ite_and]);(repeat' (first|with_reducible assumption|refine And.intro ?_ ?_));all_goals (first|(refine hQ _ ?_;clear hQ Q)|(refine hQ _ (fun h=>?_) (fun h=>?_) <;> clear hQ Q <;> (try simp only [vki,reduceCtorEq] at h))|omega|with_reducible assumption|with_reducible rfl|(refine vq ?_;kernel_rfl)|skip)))
                all_goals first|exact ⟨_,_,rfl⟩|skip
                all_goals first|exact ⟨_,_,rfl⟩|skip
                refine ⟨⟨q+1,hlt⟩,by show U - (q+1) < U - q;omega,?_⟩
                (refine Le.ok (fun j=>if j=7 then some 12 else some j) [] ?_;constructor;all_goals (try simp only [vle,vkt,Nat.reduceEqDiff,Nat.reduceAdd,Nat.reduceMul,Nat.reduceSub,Nat.reduceLeDiff,reduceCtorEq,↓reduceIte,↓reduceDIte,Int.reduceToNat,Int.reduceLE,Int.reduceLT,Int.reduceEq,Int.reduceNeg,tbG9_27,xbG9_2,List.map_cons,List.map_nil,List.length_cons,List.length_nil,List.nil_append,List.append_nil,List.cons_append]))
                all_goals first|rfl|(simp [hst];done)
              have k3:κ=3:=by
                have:=oneV_mem (x:=X1) (l:=[1,2,3,3,3,4]) (by simp) (by simp)
                rw [hκ] at this
                simp at this
                omega
              subst k3
              unfold enS0 at hst
              rw [if_neg k1,if_neg k2,if_neg k4] at hst
              unfold enS3 at hst
              by_cases cC:co.cs.length=1
              · rw [if_pos cC] at hst
                have cC':decide ((co.cs.length:Int)=1)=true:=by simp [cC]
                repeat' (first|(apply nx;with_reducible constructor)|refine uq (by decide) ?_|((first|refine vz env fun Q hQ=>?_|refine vj fun Q hQ=>?_);simp only [vkt,Nat.reduceEqDiff,Nat.reduceAdd,Nat.reduceMul,Nat.reduceSub,Nat.reduceLeDiff,reduceCtorEq,↓reduceIte,↓reduceDIte,Int.reduceToNat,Int.reduceLE,Int.reduceLT,Int.reduceEq,Int.reduceNeg,tbG9_27,xbG9_2,List.map_cons,List.map_nil,List.length_cons,List.length_nil,List.nil_append,List.append_nil,List.cons_append,wD,wR,wC,hD',hX1',hκ,hX2,hcn,hX3,cC',e7];(try simp only [ite_and]);(repeat' (first|with_reducible assumption|refine And.intro ?_ ?_));all_goals (first|(refine hQ _ ?_;clear hQ Q)|(refine hQ _ (fun h=>?_) (fun h=>?_) <;> clear hQ Q <;> (try simp only [vki,reduceCtorEq] at h))|omega|with_reducible assumption|with_reducible rfl|(refine vq ?_;kernel_rfl)|skip)))
                all_goals first|exact ⟨_,_,rfl⟩|skip
                refine ⟨⟨q+1,hlt⟩,by show U - (q+1) < U - q;omega,?_⟩
                (refine Le.ok some [] ?_;constructor;all_goals (try simp only [vle,vkt,Nat.reduceEqDiff,Nat.reduceAdd,Nat.reduceMul,Nat.reduceSub,Nat.reduceLeDiff,reduceCtorEq,↓reduceIte,↓reduceDIte,Int.reduceToNat,Int.reduceLE,Int.reduceLT,Int.reduceEq,Int.reduceNeg,tbG9_27,xbG9_2,List.map_cons,List.map_nil,List.length_cons,List.length_nil,List.nil_append,List.append_nil,List.cons_append]))
                all_goals first|rfl|(simp [hst];done)
              · rw [if_neg cC] at hst
                have cC':¬ (co.cs.length:Int)=1:=by omega
                have u1:=upV_le (x:=X3) (m:=(co.cs.length:Int) - 1 - 1) (by omega) (by omega)
                have wT:IntKind.wrap .i64 (cn+(1+upV X3 ((co.cs.length:Int) - 1 - 1)))=cn+(1+upV X3 ((co.cs.length:Int) - 1 - 1)):=wrap64 (by omega) (by omega)
                have hT2:foldV (cn+(1+upV X3 ((co.cs.length:Int) - 1 - 1))) (co.cs.length:Int)=enTo co.cs.length cn X3:=rfl
                have hTb:0≤enTo co.cs.length cn X3∧enTo co.cs.length cn X3 < (co.cs.length:Int):=foldV_bd (by omega)
                obtain ⟨to,hT⟩:∃ to,foldV (cn+(1+upV X3 ((co.cs.length:Int) - 1 - 1))) (co.cs.length:Int)=to:=⟨_,rfl⟩
                rw [← hT2,hT] at hst hTb
                clear hT2
                obtain ⟨X4,hX4⟩:∃ X4,upS X3 ((co.cs.length:Int) - 1 - 1)=X4:=⟨_,rfl⟩
                rw [hX4,hh] at hst
                have u2:=upV_bd (x:=X4) (m:=min hv 40) (by omega)
                obtain ⟨am,hA⟩:∃ am,upV X4 (min hv 40)=am:=⟨_,rfl⟩
                obtain ⟨X5,hX5⟩:∃ X5,upS X4 (min hv 40)=X5:=⟨_,rfl⟩
                rw [hA,hX5] at hst
                rw [hA] at u2
                have am0:0≤am∧am≤40∧am≤hv:=by omega
                have s1:=hrs.sh j1 j2 j3 j4
                have s2:=hrs.sh j1 j2 hTb.1 (show to≤(co.cs.length:Int) - 1 by omega)
                have hGb:=enG0_bd s1 s2 am0.1 am0.2.1
                have lD:D.toNat < rs.length:=by omega
                have g1:=gRow lD
                have lR:=(okd2 _ (gMem (l:=rs) (k:=D.toNat) (d:=[]) lD)).len
                have q1:=s1.n
                have q2:=s1.d
                have q3:=s2.n
                have q4:=s2.d
                obtain ⟨G,hG0⟩:∃ G,enG0 rs D cn to am=G:=⟨_,rfl⟩
                unfold enS3a at hst
                rw [hG0] at hst hGb
                unfold enG0 at hG0
                generalize rs.getD D.toNat []=rw at *
                obtain ⟨f,hf⟩:∃ f,rw.getD cn.toNat default=f:=⟨_,rfl⟩
                obtain ⟨g,hg⟩:∃ g,rw.getD to.toNat default=g:=⟨_,rfl⟩
                rw [hf] at q1 q2 hG0
                rw [hg] at q3 q4 hG0
                have lf:cn.toNat < rw.length:=by omega
                have lg:to.toNat < rw.length:=by omega
                have G1:(rw.map eSh).getD cn.toNat [.v (.int .i64 0),.v (.int .i64 0)]=[.v (.int .i64 f.num),.v (.int .i64 f.den)]:=by rw [gSh,hf];rfl
                have G2:(rw.map eSh).getD to.toNat [.v (.int .i64 0),.v (.int .i64 0)]=[.v (.int .i64 g.num),.v (.int .i64 g.den)]:=by rw [gSh,hg];rfl
                have m1':0≤am * f.num∧am * f.num≤800:=⟨Int.mul_nonneg am0.1 (by omega),Int.le_trans (Int.mul_le_mul am0.2.1 q1.2 (by omega) (by omega)) (by decide)⟩
                have m2':0≤am * f.num * g.den∧am * f.num * g.den≤9600:=⟨Int.mul_nonneg m1'.1 (by omega),Int.le_trans (Int.mul_le_mul m1'.2 q4.2 (by omega) (by omega)) (by decide)⟩
                have m3':0 < f.den * g.num∧f.den * g.num≤240:=⟨Int.mul_pos (by omega) (by omega),Int.le_trans (Int.mul_le_mul q2.2 q3.2 (by omega) (by omega)) (by decide)⟩
                have wa:IntKind.wrap .i64 (am * f.num)=am * f.num:=wrap64 (by omega) (by omega)
                have wb:IntKind.wrap .i64 (am * f.num * g.den)=am * f.num * g.den:=wrap64 (by omega) (by omega)
                have wc:IntKind.wrap .i64 (f.den * g.num)=f.den * g.num:=wrap64 (by omega) (by omega)
                have nz:¬ f.den * g.num=0:=by omega
                have hG:(am * f.num * g.den).tdiv (f.den * g.num)=G:=hG0
                have wd:IntKind.wrap .i64 G=G:=wrap64 (by omega) (by omega)
                have ltl:to.toNat < t.till.length:=by omega
                have g2:=gI0 ltl
                have hht0:=hI.b _ (gMem (l:=t.till) (k:=to.toNat) (d:=0) ltl)
                obtain ⟨ht,hht⟩:∃ ht,t.till.getD to.toNat 0=ht:=⟨_,rfl⟩
                rw [hht] at g2 hht0
                have w0:IntKind.wrap .i64 (hv - am)=hv - am:=wrap64 (by omega) (by omega)
                have p3:min hv 40 < 9223372036854775807:=by omega
                have p4:(co.cs.length:Int)≤1000000:=by omega
                have et:to.toNat < (t.till.set cn.toNat (hv - am)).length:=by rw [List.length_set];exact ltl
                have g3:=gI0 et
                obtain ⟨X6,hX6⟩:∃ X6,upS X5 (10 - 1)=X6:=⟨_,rfl⟩
                rw [hX6] at hst
                by_cases c5:upV X5 (10 - 1) < w
                · rw [if_pos c5] at hst
                  have u3:=upV_le (x:=X6) (m:=3 - 1) (by decide) (by decide)
                  obtain ⟨v,hv3⟩:∃ v,1+upV X6 (3 - 1)=v:=⟨_,rfl⟩
                  obtain ⟨X7,hX7⟩:∃ X7,upS X6 (3 - 1)=X7:=⟨_,rfl⟩
                  rw [hv3,hX7] at hst
                  have wg:IntKind.wrap .i64 (G+v)=G+v:=wrap64 (by omega) (by omega)
                  by_cases c6:999 < G+v
                  · have hst:EK (q+1)=⟨D,t.till,t.es,X7⟩:=by rw [hst];unfold enS3b;rw [if_pos c6]
                    repeat' (first|(apply nx;with_reducible constructor)|refine uq (by decide) ?_|((first|refine vz env fun Q hQ=>?_|refine vj fun Q hQ=>?_);simp only [vkt,Nat.reduceEqDiff,Nat.reduceAdd,Nat.reduceMul,Nat.reduceSub,Nat.reduceLeDiff,reduceCtorEq,↓reduceIte,↓reduceDIte,Int.reduceToNat,Int.reduceLE,Int.reduceLT,Int.reduceEq,Int.reduceNeg,tbG9_27,xbG9_2,List.map_cons,List.map_nil,List.length_cons,List.length_nil,List.nil_append,List.append_nil,List.cons_append,wD,wR,wC,hD',hX1',hκ,hX2,hcn,hX3,e6,g1,g2,G1,G2,wT,hT,hX4,hA,hX5,wa,wb,wc,wd,nz,hG,cC',c5,hX6,hv3,hX7,wg,c6,k1,k2,k4,e7,setI];(try simp only [ite_and]);(repeat' (first|with_reducible assumption|refine And.intro ?_ ?_));all_goals (first|(refine hQ _ ?_;clear hQ Q)|(refine hQ _ (fun h=>?_) (fun h=>?_) <;> clear hQ Q <;> (try simp only [vki,reduceCtorEq] at h))|omega|with_reducible assumption|with_reducible rfl|(refine vq ?_;kernel_rfl)|skip)))
                    all_goals first|exact ⟨_,_,rfl⟩|skip
                    refine ⟨⟨q+1,hlt⟩,by show U - (q+1) < U - q;omega,?_⟩
                    (refine Le.ok some [] ?_;constructor;all_goals (try simp only [vle,vkt,Nat.reduceEqDiff,Nat.reduceAdd,Nat.reduceMul,Nat.reduceSub,Nat.reduceLeDiff,reduceCtorEq,↓reduceIte,↓reduceDIte,Int.reduceToNat,Int.reduceLE,Int.reduceLT,Int.reduceEq,Int.reduceNeg,tbG9_27,xbG9_2,List.map_cons,List.map_nil,List.length_cons,List.length_nil,List.nil_append,List.append_nil,List.cons_append]))
                    all_goals first|rfl|(simp [hst];done)
                  · have hst:EK (q+1)=⟨D,(t.till.set cn.toNat (hv - am)).set to.toNat (ht+(G+v)),t.es++[(⟨D,3,cn,to,am,G+v⟩:Ent)],X7⟩:=by rw [hst];unfold enS3b;rw [if_neg c6,hh,hht]
                    have w1:IntKind.wrap .i64 (ht+(G+v))=ht+(G+v):=wrap64 (by omega) (by omega)
                    have e4:t.es.map eEnt++[[.v (.int .i64 D),.v (.int .i64 3),.v (.int .i64 cn),.v (.int .i64 to),.v (.int .i64 am),.v (.int .i64 (G+v))]]=(t.es++[(⟨D,3,cn,to,am,G+v⟩:Ent)]).map eEnt:=by rw [List.map_append];rfl
                    repeat' (first|(apply nx;with_reducible constructor)|refine uq (by decide) ?_|((first|refine vz env fun Q hQ=>?_|refine vj fun Q hQ=>?_);simp only [vkt,Nat.reduceEqDiff,Nat.reduceAdd,Nat.reduceMul,Nat.reduceSub,Nat.reduceLeDiff,reduceCtorEq,↓reduceIte,↓reduceDIte,Int.reduceToNat,Int.reduceLE,Int.reduceLT,Int.reduceEq,Int.reduceNeg,tbG9_27,xbG9_2,List.map_cons,List.map_nil,List.length_cons,List.length_nil,List.nil_append,List.append_nil,List.cons_append,wD,wR,wC,hD',hX1',hκ,hX2,hcn,hX3,e6,g1,g2,G1,G2,wT,hT,hX4,hA,hX5,wa,wb,wc,wd,nz,hG,cC',c5,hX6,hv3,hX7,wg,c6,k1,k2,k4,e7,hh,hht,et,g3,w0,w1,e4,setI];(try simp only [ite_and]);(repeat' (first|with_reducible assumption|refine And.intro ?_ ?_));all_goals (first|(refine hQ _ ?_;clear hQ Q)|(refine hQ _ (fun h=>?_) (fun h=>?_) <;> clear hQ Q <;> (try simp only [vki,reduceCtorEq] at h))|omega|with_reducible assumption|with_reducible rfl|(refine vq ?_;kernel_rfl)|skip)))
                    all_goals first|exact ⟨_,_,rfl⟩|skip
                    refine ⟨⟨q+1,hlt⟩,by show U - (q+1) < U - q;omega,?_⟩
                    (refine Le.ok (fun j=>if j=7 then some 13 else some j) [] ?_;constructor;all_goals (try simp only [vle,vkt,Nat.reduceEqDiff,Nat.reduceAdd,Nat.reduceMul,Nat.reduceSub,Nat.reduceLeDiff,reduceCtorEq,↓reduceIte,↓reduceDIte,Int.reduceToNat,Int.reduceLE,Int.reduceLT,Int.reduceEq,Int.reduceNeg,tbG9_27,xbG9_2,List.map_cons,List.map_nil,List.length_cons,List.length_nil,List.nil_append,List.append_nil,List.cons_append]))
                    all_goals first|rfl|(simp [hst];done)
                · rw [if_neg c5] at hst
                  by_cases c6:999 < G
                  · have hst:EK (q+1)=⟨D,t.till,t.es,X6⟩:=by rw [hst];unfold enS3b;rw [if_pos c6]
                    repeat' (first|(apply nx;with_reducible constructor)|refine uq (by decide) ?_|((first|refine vz env fun Q hQ=>?_|refine vj fun Q hQ=>?_);simp only [vkt,Nat.reduceEqDiff,Nat.reduceAdd,Nat.reduceMul,Nat.reduceSub,Nat.reduceLeDiff,reduceCtorEq,↓reduceIte,↓reduceDIte,Int.reduceToNat,Int.reduceLE,Int.reduceLT,Int.reduceEq,Int.reduceNeg,tbG9_27,xbG9_2,List.map_cons,List.map_nil,List.length_cons,List.length_nil,List.nil_append,List.append_nil,List.cons_append,wD,wR,wC,hD',hX1',hκ,hX2,hcn,hX3,e6,g1,g2,G1,G2,wT,hT,hX4,hA,hX5,wa,wb,wc,wd,nz,hG,cC',c5,hX6,c6,k1,k2,k4,e7,setI];(try simp only [ite_and]);(repeat' (first|with_reducible assumption|refine And.intro ?_ ?_));all_goals (first|(refine hQ _ ?_;clear hQ Q)|(refine hQ _ (fun h=>?_) (fun h=>?_) <;> clear hQ Q <;> (try simp only [vki,reduceCtorEq] at h))|omega|with_reducible assumption|with_reducible rfl|(refine vq ?_;kernel_rfl)|skip)))
                    all_goals first|exact ⟨_,_,rfl⟩|skip
                    refine ⟨⟨q+1,hlt⟩,by show U - (q+1) < U - q;omega,?_⟩
                    (refine Le.ok some [] ?_;constructor;all_goals (try simp only [vle,vkt,Nat.reduceEqDiff,Nat.reduceAdd,Nat.reduceMul,Nat.reduceSub,Nat.reduceLeDiff,reduceCtorEq,↓reduceIte,↓reduceDIte,Int.reduceToNat,Int.reduceLE,Int.reduceLT,Int.reduceEq,Int.reduceNeg,tbG9_27,xbG9_2,List.map_cons,List.map_nil,List.length_cons,List.length_nil,List.nil_append,List.append_nil,List.cons_append]))
                    all_goals first|rfl|(simp [hst];done)
                  · have hst:EK (q+1)=⟨D,(t.till.set cn.toNat (hv - am)).set to.toNat (ht+G),t.es++[(⟨D,3,cn,to,am,G⟩:Ent)],X6⟩:=by rw [hst];unfold enS3b;rw [if_neg c6,hh,hht]
                    have w1:IntKind.wrap .i64 (ht+(G))=ht+(G):=wrap64 (by omega) (by omega)
                    have e4:t.es.map eEnt++[[.v (.int .i64 D),.v (.int .i64 3),.v (.int .i64 cn),.v (.int .i64 to),.v (.int .i64 am),.v (.int .i64 (G))]]=(t.es++[(⟨D,3,cn,to,am,G⟩:Ent)]).map eEnt:=by rw [List.map_append];rfl
                    repeat' (first|(apply nx;with_reducible constructor)|refine uq (by decide) ?_|((first|refine vz env fun Q hQ=>?_|refine vj fun Q hQ=>?_);simp only [vkt,Nat.reduceEqDiff,Nat.reduceAdd,Nat.reduceMul,Nat.reduceSub,Nat.reduceLeDiff,reduceCtorEq,↓reduceIte,↓reduceDIte,Int.reduceToNat,Int.reduceLE,Int.reduceLT,Int.reduceEq,Int.reduceNeg,tbG9_27,xbG9_2,List.map_cons,List.map_nil,List.length_cons,List.length_nil,List.nil_append,List.append_nil,List.cons_append,wD,wR,wC,hD',hX1',hκ,hX2,hcn,hX3,e6,g1,g2,G1,G2,wT,hT,hX4,hA,hX5,wa,wb,wc,wd,nz,hG,cC',c5,hX6,c6,k1,k2,k4,e7,hh,hht,et,g3,w0,w1,e4,setI];(try simp only [ite_and]);(repeat' (first|with_reducible assumption|refine And.intro ?_ ?_));all_goals (first|(refine hQ _ ?_;clear hQ Q)|(refine hQ _ (fun h=>?_) (fun h=>?_) <;> clear hQ Q <;> (try simp only [vki,reduceCtorEq] at h))|omega|with_reducible assumption|with_reducible rfl|(refine vq ?_;kernel_rfl)|skip)))
                    all_goals first|exact ⟨_,_,rfl⟩|skip
                    refine ⟨⟨q+1,hlt⟩,by show U - (q+1) < U - q;omega,?_⟩
                    (refine Le.ok (fun j=>if j=7 then some 13 else some j) [] ?_;constructor;all_goals (try simp only [vle,vkt,Nat.reduceEqDiff,Nat.reduceAdd,Nat.reduceMul,Nat.reduceSub,Nat.reduceLeDiff,reduceCtorEq,↓reduceIte,↓reduceDIte,Int.reduceToNat,Int.reduceLE,Int.reduceLT,Int.reduceEq,Int.reduceNeg,tbG9_27,xbG9_2,List.map_cons,List.map_nil,List.length_cons,List.length_nil,List.nil_append,List.append_nil,List.cons_append]))
                    all_goals first|rfl|(simp [hst];done)
            · have hqU:q=U:=by omega
              subst hqU
              rw [gL,gS,g3]
              repeat' (first|(apply nx;with_reducible constructor)|refine uq (by decide) ?_|((first|refine vz env fun Q hQ=>?_|refine vj fun Q hQ=>?_);simp only [vkt,Nat.reduceEqDiff,Nat.reduceAdd,Nat.reduceMul,Nat.reduceSub,Nat.reduceLeDiff,reduceCtorEq,↓reduceIte,↓reduceDIte,Int.reduceToNat,Int.reduceLE,Int.reduceLT,Int.reduceEq,Int.reduceNeg,tbG9_27,xbG9_2,List.map_cons,List.map_nil,List.length_cons,List.length_nil,List.nil_append,List.append_nil,List.cons_append];(try simp only [ite_and]);(repeat' (first|with_reducible assumption|refine And.intro ?_ ?_));all_goals (first|(refine hQ _ ?_;clear hQ Q)|(refine hQ _ (fun h=>?_) (fun h=>?_) <;> clear hQ Q <;> (try simp only [vki,reduceCtorEq] at h))|omega|with_reducible assumption|with_reducible rfl|(refine vq ?_;kernel_rfl)|skip)))
              (simp only [vrt,Try.results27,vkt,Nat.reduceEqDiff,Nat.reduceAdd,Nat.reduceMul,Nat.reduceSub,Nat.reduceLeDiff,reduceCtorEq,↓reduceIte,↓reduceDIte,Int.reduceToNat,Int.reduceLE,Int.reduceLT,Int.reduceEq,Int.reduceNeg,tbG9_27,xbG9_2,List.map_cons,List.map_nil,List.length_cons,List.length_nil,List.nil_append,List.append_nil,List.cons_append];refine Fin.ok some [3,5,4,7] ?_ ?_ ?_ ?_ ?_ rfl;all_goals (try simp only [vle,vkt,Nat.reduceEqDiff,Nat.reduceAdd,Nat.reduceMul,Nat.reduceSub,Nat.reduceLeDiff,reduceCtorEq,↓reduceIte,↓reduceDIte,Int.reduceToNat,Int.reduceLE,Int.reduceLT,Int.reduceEq,Int.reduceNeg,tbG9_27,xbG9_2,List.map_cons,List.map_nil,List.length_cons,List.length_nil,List.nil_append,List.append_nil,List.cons_append]))
              all_goals first|rfl|(simp;done)|exact ⟨⟨_,_,rfl⟩,⟨_,_,rfl⟩,⟨_,_,rfl⟩,⟨_,_,rfl⟩⟩|exact ⟨⟨_,_,rfl⟩,⟨_,_,rfl⟩,⟨_,_,rfl⟩,⟨_,_,rfl⟩,trivial⟩
noncomputable def p27 (S:St):List AV→Option Pk
  |[.ptr i 0,.v (.int .i64 c),.v (.int .i64 d),.v (.int .i64 e),.v (.int .i64 w)]=>match S.h i with
    |some (.cells [.v (.int .u64 x)])=>some { pre:=(1≤c∧c≤4)∧(1≤d∧d≤4)∧(0≤e∧e≤6),hs:=[i],ar:=[.ptr 0 0,.v (.int .i64 c),.v (.int .i64 d),.v (.int .i64 e),.v (.int .i64 w)],L0:=[.cells [.v (.int .u64 x)]],v:=aLed (lgL x c d e w),L1:=[some (.cells [.v (.int .u64 (lgS x c d e w))])] }
    |_=>none
  |_=>none
theorem e27 {A:Frm→Prop}:EntryOK A Try.prog 27 (fnE p27):=fnE_ok fun S bs q h hp=>by
  unfold p27 at h
  split at h
  · split at h
    · cases h;exact ledgerOf_fn _ _ _ _ _ hp.1 hp.2.1 hp.2.2
    · cases h
  · cases h
end Go.Sym.B
namespace Go.Sym.B
open Go Go.Sym Go.Proofs Go.Sym.C
abbrev DL:=List Int × List Int
def pyStep (ps:List Int) (price:Int) (gives:List (Int × List Int)) (o:Option DL) (x:List Int):Option DL :=
  match fwGet gives (dotL ps x - price) with
  |none=>o
  |some y=>match o with
    |some b=>some (btr cntD b (x,y))
    |none=>some (x,y)
def prs (h d:List Int):List DL:=(partsL h).flatMap fun x=>(partsL d).map fun y=>(x,y)
def pySel (ps:List Int) (price:Int) (q:DL):Bool:=decide (dotL ps q.1 - dotL ps q.2=price)
def payL (ps h d:List Int) (price:Int):Option DL:=pkL cntD (pySel ps price) (prs h d)
theorem btr_congr {α:Type} {c c':α→Int} (h:∀ a b,c b < c a ↔ c' b < c' a) (a b:α):btr c a b=btr c' a b:=by
  unfold btr
  by_cases h1:c b < c a
  · rw [if_pos h1,if_pos ((h a b).1 h1)]
  · rw [if_neg h1,if_neg fun h2=>h1 ((h a b).2 h2)]
theorem pkG_congr {α:Type} {c c':α→Int} (h:∀ a b,c b < c a ↔ c' b < c' a) (f:α→Bool):pkG c f=pkG c' f:=by
  funext o x
  unfold pkG
  cases o with
  |none=>rfl
  |some y=>simp only [btr_congr h]
theorem pay_row (ps d x:List Int) (price:Int):pkL cntD (pySel ps price) ((partsL d).map fun y=>(x,y))=(chs ps d (dotL ps x - price)).map fun y=>(x,y):=by
  have:=pk_map (c:=fun y:List Int=>x.sum+y.sum) (d:=cntD) (f:=pySel ps price) (g:=fun y:List Int=>(x,y)) (fun _=>rfl) (partsL d) none
  simp only [Option.map_none] at this
  unfold pkL
  rw [this]
  congr 1
  unfold chs pkL
  rw [pkG_congr (c:=fun y:List Int=>x.sum+y.sum) (c':=List.sum) (fun a b=>by omega)]
  refine pk_congr fun y _=>?_
  show decide (dotL ps x - dotL ps y=price)=decide (dotL ps y=dotL ps x - price)
  exact decide_eq_decide.2 (by omega)
theorem pay_step (ps d:List Int) (price:Int) (o:Option DL) (x:List Int):((partsL d).map fun y=>(x,y)).foldl (pkG cntD (pySel ps price)) o=pyStep ps price (fewL ps d) o x:=by
  rw [pk_from,pay_row]
  unfold pyStep
  rw [few_get]
  cases chs ps d (dotL ps x - price) <;> cases o <;> rfl
theorem pay_fold (ps h d:List Int) (price:Int):(partsL h).foldl (pyStep ps price (fewL ps d)) none=payL ps h d price:=by
  unfold payL pkL prs
  rw [foldl_flat]
  congr 1
  funext o x
  rw [pay_step]
theorem prs_app (h d:List Int) (a b:Nat):prs (h++List.replicate a 0) (d++List.replicate b 0)=(prs h d).map fun q=>(q.1++List.replicate a 0,q.2++List.replicate b 0):=by
  unfold prs
  rw [parts_app,parts_app,List.map_flatMap,List.flatMap_map]
  simp [Function.comp_def]
theorem pay_pad (ps h d:List Int) (price:Int):payL ps (pad h) (pad d) price=(payL ps h d price).map fun q=>(q.1++List.replicate (4 - h.length) 0,q.2++List.replicate (4 - d.length) 0):=by
  unfold payL pkL pad
  rw [prs_app]
  have:=pk_map (c:=cntD) (d:=cntD) (f:=pySel ps price) (g:=fun q:DL=>(q.1++List.replicate (4 - h.length) 0,q.2++List.replicate (4 - d.length) 0)) (fun q=>by unfold cntD;rw [sum_app,sum_app]) (prs h d) none
  simp only [Option.map_none] at this
  rw [this]
  have e:(fun x:DL=>pySel ps price (x.1++List.replicate (4 - h.length) 0,x.2++List.replicate (4 - d.length) 0))=pySel ps price:=by
    funext x;simp only [pySel,dot_app]
  rw [e]
theorem prs_mem {h d:List Int} {q:DL}:q ∈ prs h d ↔ q.1 ∈ partsL h∧q.2 ∈ partsL d:=by
  unfold prs
  simp only [List.mem_flatMap,List.mem_map]
  constructor
  · rintro ⟨x,hx,y,hy,rfl⟩;exact ⟨hx,hy⟩
  · rintro ⟨hx,hy⟩;exact ⟨_,hx,_,hy,rfl⟩
theorem pay_mem {ps h d:List Int} {n:Int} {q:DL} (e:payL ps h d n=some q):q.1 ∈ partsL h∧q.2 ∈ partsL d∧dotL ps q.1 - dotL ps q.2=n∧∀ x ∈ partsL h,∀ y ∈ partsL d,dotL ps x - dotL ps y=n→q.1.sum+q.2.sum≤x.sum+y.sum:=by
  obtain ⟨h1,_,h3⟩:=pk_some e
  rcases h1 with h1|h1
  · cases h1
  · obtain ⟨m1,m2⟩:=prs_mem.1 h1.1
    exact ⟨m1,m2,by simpa [pySel] using h1.2,fun x hx y hy hn=>h3 (x,y) (prs_mem.2 ⟨hx,hy⟩) (by simpa [pySel] using hn)⟩
theorem pay_is {ps h d:List Int} (hh:∀ n ∈ h,0≤n) (hd:∀ n ∈ d,0≤n) (n:Int):((partsL (pad h)).foldl (pyStep ps n (fewL ps (pad d))) none).map (fun q=>(q.1.take h.length,q.2.take d.length))=payL ps h d n:=by
  rw [pay_fold,pay_pad,Option.map_map]
  cases hc:payL ps h d n with
  |none=>rfl
  |some q =>
    obtain ⟨m1,m2,_,_⟩:=pay_mem hc
    have e1:=(parts_mem hh m1).1
    have e2:=(parts_mem hd m2).1
    simp [← e1,← e2]
end Go.Sym.B
namespace Go.Sym.B
open Go Go.Sym Go.Proofs Go.Sym.C
def dcell:Option DL→List AV
  |none=>[aI 0,aI 0,aI 0,aI 0,aI 0,aI 0,aI 0,aI 0]
  |some q=>(q.1++q.2).map aI
def pyP (ps P G':List Int) (price:Int):Option DL:=(partsL P).foldl (pyStep ps price (fewL ps G')) none
def pyK (ps P:List Int) (price:Int) (G:List (Int × List Int)) (j:Nat):Option DL:=((partsL P).take j).foldl (pyStep ps price G) none
theorem pyK_succ {ps P:List Int} {price:Int} {G:List (Int × List Int)} {k:Nat} (h:k < (partsL P).length):pyK ps P price G (k+1)=pyStep ps price G (pyK ps P price G k) ((partsL P).getD k []):=by
  rw [pyK,List.take_succ_eq_append_getElem h,List.foldl_append]
  simp [pyK,List.getD_eq_getElem?_getD,h]
theorem pyK_ok {ps P:List Int} {price:Int} {G:List (Int × List Int)} (hP:PuOk P) (hG:∀ q ∈ G,PuOk q.2):∀ (l:List (List Int)) (o:Option DL),(∀ x ∈ l,PuOk x)→(∀ q,o=some q→PuOk q.1∧PuOk q.2)→∀ q,l.foldl (pyStep ps price G) o=some q→PuOk q.1∧PuOk q.2
  |[],o,_,ho,q,h=>ho q h
  |x :: l,o,hl,ho,q,h=>by
    rw [List.foldl_cons] at h
    refine pyK_ok hP hG l _ (fun y hy=>hl y (List.mem_cons_of_mem _ hy)) (fun r hr=>?_) q h
    have hx:=hl x List.mem_cons_self
    unfold pyStep at hr
    split at hr
    · exact ho r hr
    · rename_i y hy
      have hyy:=fwGet_pu hy hG
      split at hr
      · rename_i b
        cases hr
        have hb:=ho b rfl
        unfold btr
        split
        · exact ⟨hx,hyy⟩
        · exact hb
      · cases hr;exact ⟨hx,hyy⟩
def pyL (h d:List Int):List (Nat × AV):=[(2,aInts h),(3,aInts d),(9,.ptr 0 0),(14,.ptr 1 0),(15,.ptr 3 0),(16,.ptr 4 0),(17,.ptr 5 0),(18,.ptr 6 0),(44,.clo 145 [.ptr 7 0])]
def pyC (ps:List Int) (price:Int) (G:List (Int × List Int)) (o:Option DL):List (Nat × AObj):=[(0,.cells [aI price]),(1,.cells [.sl (ps.map eInt)]),(2,.map (encM G)),(3,.cells [.mp 2]),(4,.cells [.clo 128 []]),(5,.cells (dcell o)),(6,.cells [aB o.isSome])]
theorem py_lent (P:List Int):lentA [7] (8+1) 0 [.cells (P.map aI)]=[(7,.cells (P.map aI))]:=by simp [lentA,callRen,AObj.ren,pu_ren]
theorem dcell_ids (o:Option DL):AV.idsL (dcell o)=[]:=by
  cases o with
  |none=>rfl
  |some q=>exact pu_ids _
def aPay (l:Led) (c:Int) (h d:List Int) (n:Int):AV:=if moneyE l c n [h,d] ≠ 0 then .tup [.sl [],.sl [],aI (moneyE l c n [h,d])] else match (pyP (l.coins.getD c.toNat []) (pad h) (pad d) n).map (fun q=>(q.1.take h.length,q.2.take d.length)) with
  |none=>.tup [.sl [],.sl [],aI 11]
  |some q=>.tup [aInts q.1,aInts q.2,aI 0]
theorem dcell_le (h:Nat→Option AObj) (σ:Nat→Option Nat) (o:Option DL):AV.leL h σ (dcell o) (dcell o):=by
  cases o with
  |none=>simp [dcell,AV.leL,AV.le,aI]
  |some q=>exact pu_le h σ (q.1++q.2)
def z4:List AV:=[.v (.int .i64 0),.v (.int .i64 0),.v (.int .i64 0),.v (.int .i64 0)]
theorem bl_len {x:List Int} (hx:x.length=4):(x.map aI++z4).length=8:=by simp [hx,z4]
theorem bl_put {x y:List Int} (hx:x.length=4):(x.map aI++z4).take 4++y.map aI++(x.map aI++z4).drop 8=(x++y).map aI:=by
  rw [List.take_left' (by simp [hx]),List.drop_of_length_le (by rw [bl_len hx];exact Nat.le_refl _)];simp
theorem de_o {a b:List Int} (ha:a.length=4) (hb:b.length=4):((a++b).map aI).take 8=(a++b).map aI:=List.take_of_length_le (by simp [ha,hb])
def tbN7_73:=vk @ty3 (vk @ty4 (vk @ty22 (vk @ty28 (vk @ty30 (vk @ty38 (vk @ty142 (vk @ty144 (vk @ty149 (vk @ty150 (vk @ti3.eq_1 (vk @ti4.eq_1 (vk @ti22.eq_1 (vk @ti28.eq_1 (vk @ti30.eq_1 (vk @ti38.eq_1 (vk @ti142.eq_1 (vk @ti144.eq_1 (vk @ti149.eq_1 @ti150.eq_1))))))))))))))))))
def xbN7_1:=vk @aI.eq_1 (vk @aB.eq_1 (vk @aLed.eq_1 (vk @cLed.eq_1 (vk @aInts.eq_1 (vk @aPu.eq_1 (vk @c86.eq_1 (vk @c86.eq_2 (vk @isL_e (vk @ldOf_e (vk @eInt.eq_1 (vk @gInt (vk @mInt (vk @mInts (vk @eInts.eq_1 (@gInts)))))))))))))))
set_option maxHeartbeats 4000000 in
theorem pay_fn (l:Led) (c:Int) (hand d:List Int) (price:Int) (hl:Fit l) (hh:hand.length≤20) (hd:d.length≤20):FnV Try.prog 73 [aLed l,aI c,aInts hand,aInts d,aI price] (aPay l c hand d price):=by
  have env:Env (fun F=>F.r=none) Try.prog tyB (tab [(86,valE true c86),(88,fnE p88x),(125,valE true c125),(126,fnE p126),(130,fnE p130),(131,valE true c131),(132,valE true c132)]):=mkEnv ⟨d86,e88x,d125,e126,e130,d131,d132,trivial⟩
  refine Fn.of (A:=fun F=>F.r=none) (n0:=0) (D:=noD) (Fn0 Try.func73 rfl (fun vs w=>by kernel_rfl) (by kernel_rfl)) (by simp) (by simp [AV.ids,AV.idsL,aI,aLed,cLed,aInts]) (fun i o h=>by cases h) (fun _ _ _ h=>h) noD_ok ?_
  have hml:(20:Nat)≤maxLen:=by decide
  have q0:∀ p ∈ [hand,d],p.length≤maxLen:=fun p hp=>by
    simp at hp
    rcases hp with rfl|rfl <;> omega
  have q1:(2:Nat)≤maxLen:=by omega
  have dI1:dInts [.sl (hand.map eInt)]=hand:=mInt hand
  have dI2:dInts [.sl (d.map eInt)]=d:=mInt d
  by_cases h0:moneyE l c price [hand,d]=0
  · rw [show aPay l c hand d price=_ from if_neg (by rw [h0];simp)]
    obtain ⟨hV,⟨g1,g2⟩,hds,hn0,hn1⟩:=money_ok h0
    obtain ⟨hhl,hhb⟩:=hds hand (by simp)
    obtain ⟨hdl,hdb⟩:=hds d (by simp)
    obtain ⟨ps,hP⟩:∃ x,l.coins.getD c.toNat []=x:=⟨_,rfl⟩
    have hps:PsOk ps:=hP ▸ coin_ok (hV.cs _ g2)
    rw [hP] at hdl hhl ⊢
    have hl1:=hps.l
    have hd0:0 < d.length:=by omega
    have hd4:d.length≤4:=by omega
    have hh0:0 < hand.length:=by omega
    have hh4:hand.length≤4:=by omega
    have hml4:4≤maxLen:=by omega
    have hpd:=pad_ok hd4 hdb
    have hph:=pad_ok hh4 hhb
    have hpc:PzOk ps:=⟨hl1.2,hps.b⟩
    obtain ⟨P,hPp⟩:∃ x,pad hand=x:=⟨_,rfl⟩
    rw [hPp] at hph ⊢
    obtain ⟨m,hm⟩:∃ m,fewL ps (pad d)=m:=⟨_,rfl⟩
    have hk:=fwK_nd ps (pad d) (partsL (pad d)).length
    have hN:fwK ps (pad d) (partsL (pad d)).length=m:=by rw [fwK,List.take_length];exact hm
    have hfw:=fw_pu (ps:=ps) hpd (partsL (pad d)).length
    rw [hN] at hk hfw
    have hmk:=mok_enc hk.1
    have hPl:=hph.len
    have tP:(P.map aI).take 4=P.map aI:=List.take_of_length_le (by simp [hPl])
    simp only [pyP,hm]
    repeat' (first|(apply nx;with_reducible constructor)|refine uq (by decide) ?_|((first|refine vz env fun Q hQ=>?_|refine vj fun Q hQ=>?_);simp only [vkt,seval,tbN7_73,xbN7_1,aDe,puL,pyL,pyC,c125,p126,p130,c131,c132,p88x,mAD,rStart,py_lent,vav_enc,vok_enc,tov2,mget_enc,MapKept.IsKey,List.length_map,dcell.eq_1,dcell.eq_2,hl,q0,q1,dI1,dI2,h0,g1,g2,hP,hd0,hd4,hh0,hh4,hml4,hpd,hph,hpc,hm,hmk,hPp,hPl,tP];(try simp only [ite_and]);(repeat' (first|with_reducible assumption|refine And.intro ?_ ?_|intro hp));all_goals (first|(refine hQ _ ?_;clear hQ Q)|(refine hQ _ (fun h=>?_) (fun h=>?_) <;> clear hQ Q <;> (try simp only [vki,reduceCtorEq] at h))|omega|assumption|with_reducible rfl|(apply drawS_of;(case hs=>(try simp only [vdt,List.map_cons,List.map_nil,List.append_nil,List.nil_append,List.isEmpty_nil,List.flatMap_nil,vk9,vk14,puL,dcell_ids,List.map_append]);rfl);kernel_rfl)|skip)))
    refine sym_le (S':={ t:=asg (pyL hand d),h:=hasg (pyC ps price m none++[(7,.cells (P.map aI))]),n:=8,j:=0,d:=[],m:=0 }) ?_ ?_
    · show Le _ { t:=asg [(2,aInts hand),(3,aInts d),(9,.ptr 0 0),(14,.ptr 1 0),(15,.ptr 3 0),(16,.ptr 4 0),(17,.ptr 5 0),(18,.ptr 6 0),(44,.clo 145 [.ptr 7 0])],h:=hasg [(0,.cells [aI price]),(1,.cells [.sl (ps.map eInt)]),(2,.map (encM m)),(3,.cells [.mp 2]),(4,.cells [.clo 128 []]),(5,.cells [aI 0,aI 0,aI 0,aI 0,aI 0,aI 0,aI 0,aI 0]),(6,.cells [aB false]),(7,.cells (P.map aI))],n:=8,j:=0,d:=[],m:=0 }
      (refine Le.ok (fun j=>if j=0 then some 1 else some (j+2)) [] ?_;constructor;all_goals (try simp only [vle,vkt,seval,tbN7_73,xbN7_1,aDe,puL,pyL,pyC,c125,p126,p130,c131,c132,p88x,mAD,rStart,py_lent,vav_enc,vok_enc,tov2,mget_enc,MapKept.IsKey,List.length_map,dcell.eq_1,dcell.eq_2]))
      all_goals first|rfl|(simp;done)
    rw [← py_lent P]
    refine sym_rangeL (L:=pyL hand d) (hs:=[7]) (n:=8) (nl:=0) (hc:=fun j=>pyC ps price m (pyK ps P price m j)) (Lp:=[.cells (P.map aI)]) (jj:=fun _=>0) (d:=[]) (ys:=ptY P) (hl:=fun _=>[.cells (P.map aI)]) (ans:=fun _=>true) (ex:=.ret) (caps:=[.ptr 7 0]) (caps0:=[.ptr 0 0]) (N:=(partsL P).length) (R:=(partsL P).length) (A':=fun _=>True) (fun F h=>h) (fun _ _=>trivial) rfl (parts_it P hph) all_yes (.inl rfl) ?_ ?_ ?_ rfl (by simp) ?_ (by simp) ?_ (fun j hj=>?_) ?_ (fun j hj=>?_) (fun _=>?_) (fun _ h=>by cases h)
    · simp [AV.leL,AV.le]
    · simp [AV.nocbL,AV.nocb]
    · simp [lentP,AObj.nocb,pu_nocb,AObj.ids,pu_ids,AObj.ren,pu_ren,AObj.le,pu_le]
    · simp [pyC,hasg]
    · simp [idsT,pyL,AV.ids,AV.idsL,aInts]
    · refine ⟨?_,rfl,?_,?_,rfl,?_⟩
      · simp [idsH,pyC,AObj.ids,AV.ids,AV.idsL,pu_ids,dcell_ids,aI,aB]
      · simp [lentQ,AObj.nocb,pu_nocb,AObj.ids,pu_ids]
      · simp [argQ,ptY,aPu,AV.nocb,pu_nocb,AV.ids,pu_ids]
      · simp [keysIn,keyIn,py_lent,pyC,pyL,idsTL,AV.ids,AV.idsL,ADf.ids,List.range_zero,aInts]
    · simp [idsH,pyC,AObj.ids,AV.ids,AV.idsL,pu_ids,dcell_ids,aI,aB]
    · have env:Env (fun _:Frm=>True) Try.prog tyB (tab [(86,valE true c86),(88,fnE p88x),(125,valE true c125),(126,fnE p126),(130,fnE p130),(131,valE true c131),(132,valE true c132)]):=mkEnv ⟨d86,e88x,d125,e126,e130,d131,d132,trivial⟩
      obtain ⟨x,hx⟩:∃ x,(partsL P).getD j []=x:=⟨_,rfl⟩
      have hxm:x ∈ partsL P:=hx ▸ gMem hj
      have hxo:=parts_ok hph hxm
      have hxl:=hxo.len
      have tx:(x.map aI).take 4=x.map aI:=List.take_of_length_le (by simp [hxl])
      have hS:=pyK_succ (ps:=ps) (price:=price) (G:=m) hj
      rw [hx] at hS
      have hok:=pyK_ok (ps:=ps) (price:=price) hph hfw ((partsL P).take j) none (fun y hy=>parts_ok hph (List.mem_of_mem_take hy)) (fun q hq=>by cases hq)
      have hst:∀ o,rStart (pyL hand d) [45] [7] 8 0 (ptY P j) (pyC ps price m o) [.cells (P.map aI)]={ t:=asg [(45,.agg (x.map aI)),(2,aInts hand),(3,aInts d),(9,.ptr 0 0),(14,.ptr 1 0),(15,.ptr 3 0),(16,.ptr 4 0),(17,.ptr 5 0),(18,.ptr 6 0),(44,.clo 145 [.ptr 7 0])],h:=hasg [(8,.mark),(0,.cells [aI price]),(1,.cells [.sl (ps.map eInt)]),(2,.map (encM m)),(3,.cells [.mp 2]),(4,.cells [.clo 128 []]),(5,.cells (dcell o)),(6,.cells [aB o.isSome]),(7,.cells (P.map aI))],n:=9,m:=9 }:=fun o=>by
        simp only [rStart,py_lent,ptY,hx,aPu,List.map_cons,List.map_nil,AV.ren,pu_ren,List.zip_cons_cons,List.zip_nil_right,pyC,pyL,putsL,List.cons_append,List.nil_append]
        rfl
      show Sym _ _ _ (rStart (pyL hand d) [45] [7] 8 0 (ptY P j) (pyC ps price m (pyK ps P price m j)) [.cells (P.map aI)]) _
      rw [hst]
      change ∀ q,pyK ps P price m j=some q→_ at hok
      generalize pyK ps P price m j=o at *
      obtain ⟨n,hn⟩:∃ n,dotL ps x - price=n:=⟨_,rfl⟩
      have hdb2:=dot_bd hpc.bd hxo.bd
      have wn:IntKind.wrap .i64 (dotL ps x - price)=n:=by rw [← hn];exact wrap64 (by omega) (by omega)
      unfold pyStep at hS
      rw [hn] at hS
      cases hg:fwGet m n with
      |none =>
        rw [hg] at hS
        simp only at hS
        repeat' (first|(apply nx;with_reducible constructor)|refine uq (by decide) ?_|((first|refine vz env fun Q hQ=>?_|refine vj fun Q hQ=>?_);simp only [vkt,seval,tbN7_73,xbN7_1,aDe,puL,pyL,pyC,c125,p126,p130,c131,c132,p88x,mAD,rStart,py_lent,vav_enc,vok_enc,tov2,mget_enc,MapKept.IsKey,List.length_map,dcell.eq_1,dcell.eq_2,hPl,hxl,tx,hxo,hpc,wn,hg,hmk];(try simp only [ite_and]);(repeat' (first|with_reducible assumption|refine And.intro ?_ ?_|intro hp));all_goals (first|(refine hQ _ ?_;clear hQ Q)|(refine hQ _ (fun h=>?_) (fun h=>?_) <;> clear hQ Q <;> (try simp only [vki,reduceCtorEq] at h))|omega|assumption|with_reducible rfl|(apply drawS_of;(case hs=>(try simp only [vdt,List.map_cons,List.map_nil,List.append_nil,List.nil_append,List.isEmpty_nil,List.flatMap_nil,vk9,vk14,puL,dcell_ids,List.map_append]);rfl);kernel_rfl)|skip)))
        refine ⟨rfl,rfl,some,_,RFin.ok some [] ?_⟩
        constructor
        all_goals (try simp only [vle,lentR,rensL,callRen,vkt,seval,tbN7_73,xbN7_1,aDe,puL,pyL,pyC,c125,p126,p130,c131,c132,p88x,mAD,rStart,py_lent,vav_enc,vok_enc,tov2,mget_enc,MapKept.IsKey,List.length_map,dcell.eq_1,dcell.eq_2])
        all_goals first|rfl|(rw [hS];exact ⟨dcell_le _ _ _,rfl⟩)|(rw [hS];done)|(simp [hS];done)
      |some y =>
        rw [hg] at hS
        simp only at hS
        have hyo:=fwGet_pu hg hfw
        have hyl:=hyo.len
        have ty:(y.map aI).take 4=y.map aI:=List.take_of_length_le (by simp [hyl])
        have txy:=de_o hxl hyl
        have dxy:dDe ((x++y).map aI)=(x,y):=dDe_e hxl
        have lxy:(x++y).length=8:=by simp [hxl,hyl]
        have bl1:=bl_len hxl
        have bl2:=bl_put (y:=y) hxl
        simp only [z4] at bl1 bl2
        cases ho:o with
        |none =>
          rw [ho] at hS
          simp only at hS
          have hoS:o.isSome=false:=by rw [ho];rfl
          repeat' (first|(apply nx;with_reducible constructor)|refine uq (by decide) ?_|((first|refine vz env fun Q hQ=>?_|refine vj fun Q hQ=>?_);simp only [vkt,seval,tbN7_73,xbN7_1,aDe,puL,pyL,pyC,c125,p126,p130,c131,c132,p88x,mAD,rStart,py_lent,vav_enc,vok_enc,tov2,mget_enc,MapKept.IsKey,List.length_map,dcell.eq_1,dcell.eq_2,hPl,hxl,tx,hxo,hpc,wn,hg,hmk,hyo,hyl,ty,txy,dxy,lxy,bl1,bl2,Option.isSome_none];(try simp only [ite_and]);(repeat' (first|with_reducible assumption|refine And.intro ?_ ?_|intro hp));all_goals (first|(refine hQ _ ?_;clear hQ Q)|(refine hQ _ (fun h=>?_) (fun h=>?_) <;> clear hQ Q <;> (try simp only [vki,reduceCtorEq] at h))|omega|assumption|with_reducible rfl|(apply drawS_of;(case hs=>(try simp only [vdt,List.map_cons,List.map_nil,List.append_nil,List.nil_append,List.isEmpty_nil,List.flatMap_nil,vk9,vk14,puL,dcell_ids,List.map_append]);rfl);kernel_rfl)|skip)))
          refine ⟨rfl,rfl,some,_,RFin.ok some [] ?_⟩
          constructor
          all_goals (try simp only [vle,lentR,rensL,callRen,vkt,seval,tbN7_73,xbN7_1,aDe,puL,pyL,pyC,c125,p126,p130,c131,c132,p88x,mAD,rStart,py_lent,vav_enc,vok_enc,tov2,mget_enc,MapKept.IsKey,List.length_map,dcell.eq_1,dcell.eq_2])
          all_goals first|rfl|(rw [hS];exact ⟨pu_le _ _ _,rfl⟩)|(rw [hS];exact pu_le _ _ _)|(rw [hS];done)|(simp [hS];done)
        |some b =>
          rw [ho] at hS
          simp only at hS
          obtain ⟨hb1,hb2⟩:=hok b ho
          have lb:(b.1++b.2).length=8:=by simp [hb1.len,hb2.len]
          have tb:=de_o hb1.len hb2.len
          have db:dDe ((b.1++b.2).map aI)=b:=dDe_e hb1.len
          obtain ⟨z,hz⟩:∃ z,btr cntD b (x,y)=z:=⟨_,rfl⟩
          have hzo:PuOk z.1∧PuOk z.2:=by rw [← hz];unfold btr;split <;> first|exact ⟨hxo,hyo⟩|exact ⟨hb1,hb2⟩
          have lz:(z.1++z.2).length=8:=by simp [hzo.1.len,hzo.2.len]
          have tz:=de_o hzo.1.len hzo.2.len
          have d8:(((b.1++b.2).map aI).drop 8)=[]:=List.drop_of_length_le (by simp [hb1.len,hb2.len])
          rw [hz] at hS
          repeat' (first|(apply nx;with_reducible constructor)|refine uq (by decide) ?_|((first|refine vz env fun Q hQ=>?_|refine vj fun Q hQ=>?_);simp only [vkt,seval,tbN7_73,xbN7_1,aDe,puL,pyL,pyC,c125,p126,p130,c131,c132,p88x,mAD,rStart,py_lent,vav_enc,vok_enc,tov2,mget_enc,MapKept.IsKey,List.length_map,dcell.eq_1,dcell.eq_2,hPl,hxl,tx,hxo,hpc,wn,hg,hmk,hyo,hyl,ty,txy,dxy,lxy,bl1,bl2,hb1,hb2,tb,db,lb,hz,lz,tz,d8,Option.isSome_some];(try simp only [ite_and]);(repeat' (first|with_reducible assumption|refine And.intro ?_ ?_|intro hp));all_goals (first|(refine hQ _ ?_;clear hQ Q)|(refine hQ _ (fun h=>?_) (fun h=>?_) <;> clear hQ Q <;> (try simp only [vki,reduceCtorEq] at h))|omega|assumption|with_reducible rfl|(apply drawS_of;(case hs=>(try simp only [vdt,List.map_cons,List.map_nil,List.append_nil,List.nil_append,List.isEmpty_nil,List.flatMap_nil,vk9,vk14,puL,dcell_ids,List.map_append]);rfl);kernel_rfl)|skip)))
          refine ⟨rfl,rfl,some,_,RFin.ok some [] ?_⟩
          constructor
          all_goals (try simp only [vle,lentR,rensL,callRen,vkt,seval,tbN7_73,xbN7_1,aDe,puL,pyL,pyC,c125,p126,p130,c131,c132,p88x,mAD,rStart,py_lent,vav_enc,vok_enc,tov2,mget_enc,MapKept.IsKey,List.length_map,dcell.eq_1,dcell.eq_2])
          all_goals first|rfl|(rw [hS];exact ⟨pu_le _ _ _,rfl⟩)|(rw [hS];exact pu_le _ _ _)|(rw [hS];done)|(simp [hS];done)
    · have hN2:pyK ps P price m (partsL P).length=(partsL P).foldl (pyStep ps price m) none:=by rw [pyK,List.take_length]
      have hokE:=pyK_ok (ps:=ps) (price:=price) hph hfw (partsL P) none (fun y hy=>parts_ok hph hy) (fun q hq=>by cases hq)
      rw [py_lent]
      simp only [pyC,hN2]
      generalize (partsL P).foldl (pyStep ps price m) none=o at *
      cases o with
      |none =>
        repeat' (first|(apply nx;with_reducible constructor)|refine uq (by decide) ?_|((first|refine vz env fun Q hQ=>?_|refine vj fun Q hQ=>?_);simp only [vkt,seval,tbN7_73,xbN7_1,aDe,puL,pyL,pyC,c125,p126,p130,c131,c132,p88x,mAD,rStart,py_lent,vav_enc,vok_enc,tov2,mget_enc,MapKept.IsKey,List.length_map,dcell.eq_1,dcell.eq_2,Option.isSome_none];(try simp only [ite_and]);(repeat' (first|with_reducible assumption|refine And.intro ?_ ?_|intro hp));all_goals (first|(refine hQ _ ?_;clear hQ Q)|(refine hQ _ (fun h=>?_) (fun h=>?_) <;> clear hQ Q <;> (try simp only [vki,reduceCtorEq] at h))|omega|assumption|with_reducible rfl|(apply drawS_of;(case hs=>(try simp only [vdt,List.map_cons,List.map_nil,List.append_nil,List.nil_append,List.isEmpty_nil,List.flatMap_nil,vk9,vk14,puL,dcell_ids,List.map_append]);rfl);kernel_rfl)|skip)))
        show retK tyB noD Try.f73 (fun S rv=>Fin S rv (.tup [.sl [],.sl [],aI 11]) 0 noH 0) Exit.ret _
        (simp only [vrt,Try.results73,vkt,seval,tbN7_73,xbN7_1,aDe,puL,pyL,pyC,c125,p126,p130,c131,c132,p88x,mAD,rStart,py_lent,vav_enc,vok_enc,tov2,mget_enc,MapKept.IsKey,List.length_map,dcell.eq_1,dcell.eq_2];refine Fin.val rfl ?_;(try simp only [AV.le,AV.leL]))
        all_goals first|rfl|(simp;done)
      |some q =>
        obtain ⟨hq1,hq2⟩:=hokE q rfl
        have lq:(q.1++q.2).length=8:=by simp [hq1.len,hq2.len]
        have hq1l:=hq1.len
        have hq2l:=hq2.len
        have hh4':(hand.length:Int)≤4:=by omega
        have hd4':(d.length:Int)≤4:=by omega
        have hh5:hand.length≤100000:=by omega
        have hd5:d.length≤100000:=by omega
        have tq1:((q.1++q.2).map aI).take hand.length=(q.1.take hand.length).map aI:=by rw [List.map_append,List.take_append_of_le_length (by simp;omega),List.map_take]
        have tq2:(((q.1++q.2).map aI).drop 4).take d.length=(q.2.take d.length).map aI:=by rw [List.map_append,List.drop_left' (by simp [hq1l]),List.map_take]
        repeat' (first|(apply nx;with_reducible constructor)|refine uq (by decide) ?_|((first|refine vz env fun Q hQ=>?_|refine vj fun Q hQ=>?_);simp only [vkt,seval,tbN7_73,xbN7_1,aDe,puL,pyL,pyC,c125,p126,p130,c131,c132,p88x,mAD,rStart,py_lent,vav_enc,vok_enc,tov2,mget_enc,MapKept.IsKey,List.length_map,dcell.eq_1,dcell.eq_2,hh0,hh4,hh4',hh5,hd0,hd4,hd4',hd5,hml4,lq,tq1,tq2,Option.isSome_some];(try simp only [ite_and]);(repeat' (first|with_reducible assumption|refine And.intro ?_ ?_|intro hp));all_goals (first|(refine hQ _ ?_;clear hQ Q)|(refine hQ _ (fun h=>?_) (fun h=>?_) <;> clear hQ Q <;> (try simp only [vki,reduceCtorEq] at h))|omega|assumption|with_reducible rfl|(apply drawS_of;(case hs=>(try simp only [vdt,List.map_cons,List.map_nil,List.append_nil,List.nil_append,List.isEmpty_nil,List.flatMap_nil,vk9,vk14,puL,dcell_ids,List.map_append]);rfl);kernel_rfl)|skip)))
        all_goals first|exact flat_dv ‹_› ‹_›|exact ⟨_,_,rfl,by simp [hq1l,hq2l];omega,by rw [tq1];exact dvp_aI _,(one_dv _).symm⟩|exact ⟨_,_,rfl,by simp [hq1l,hq2l];omega,by rw [tq2];exact dvp_aI _,(one_dv _).symm⟩|(simp [hq1l,hq2l];omega)|skip
        show retK tyB noD Try.f73 (fun S rv=>Fin S rv (.tup [aInts (q.1.take hand.length),aInts (q.2.take d.length),aI 0]) 0 noH 0) Exit.ret _
        (simp only [vrt,Try.results73,vkt,seval,tbN7_73,xbN7_1,aDe,puL,pyL,pyC,c125,p126,p130,c131,c132,p88x,mAD,rStart,py_lent,vav_enc,vok_enc,tov2,mget_enc,MapKept.IsKey,List.length_map,dcell.eq_1,dcell.eq_2];refine Fin.val rfl ?_;(try simp only [AV.le,AV.leL]))
        all_goals first|rfl|(simp;done)|exact ⟨⟨_,_,rfl⟩,⟨_,_,rfl⟩,trivial,trivial⟩|(simp [upd];done)
  · rw [show aPay l c hand d price=_ from if_pos h0]
    have hne:decide (moneyE l c price [hand,d]=0)=false:=decide_eq_false h0
    repeat' (first|(apply nx;with_reducible constructor)|refine uq (by decide) ?_|((first|refine vz env fun Q hQ=>?_|refine vj fun Q hQ=>?_);simp only [vkt,seval,tbN7_73,xbN7_1,aDe,puL,pyL,pyC,c125,p126,p130,c131,c132,p88x,mAD,rStart,py_lent,vav_enc,vok_enc,tov2,mget_enc,MapKept.IsKey,List.length_map,dcell.eq_1,dcell.eq_2,hl,q0,q1,dI1,dI2,hne];(try simp only [ite_and]);(repeat' (first|with_reducible assumption|refine And.intro ?_ ?_|intro hp));all_goals (first|(refine hQ _ ?_;clear hQ Q)|(refine hQ _ (fun h=>?_) (fun h=>?_) <;> clear hQ Q <;> (try simp only [vki,reduceCtorEq] at h))|omega|assumption|with_reducible rfl|(apply drawS_of;(case hs=>(try simp only [vdt,List.map_cons,List.map_nil,List.append_nil,List.nil_append,List.isEmpty_nil,List.flatMap_nil,vk9,vk14,puL,dcell_ids,List.map_append]);rfl);kernel_rfl)|skip)))
    (simp only [vrt,Try.results73,vkt,seval,tbN7_73,xbN7_1,aDe,puL,pyL,pyC,c125,p126,p130,c131,c132,p88x,mAD,rStart,py_lent,vav_enc,vok_enc,tov2,mget_enc,MapKept.IsKey,List.length_map,dcell.eq_1,dcell.eq_2];refine Fin.val rfl ?_;(try simp only [AV.le,AV.leL]))
    all_goals first|rfl|(simp;done)
end Go.Sym.B
namespace Go.Sym.B
open Go Go.Sym Go.Proofs Go.Sym.C
end Go.Sym.B
namespace Go.Sym.B
open Go Go.Sym Go.Proofs Go.Sym.C
def paK (rs:List (List Int)):Nat→List (List Int)
  |0=>[]
  |n+1=>paK rs n++rs.map ((n:Int) :: ·)
theorem paK_eq (rs:List (List Int)):∀ n,paK rs n=(List.range n).flatMap fun (n:Nat)=>rs.map ((n:Int) :: ·)
  |0=>rfl
  |n+1=>by rw [paK,paK_eq rs n,List.range_succ,List.flatMap_append];simp
theorem paK_len (rs:List (List Int)):∀ n,(paK rs n).length=n * rs.length
  |0=>by simp [paK]
  |n+1=>by rw [paK,List.length_append,paK_len rs n,List.length_map,Nat.succ_mul]
def s75 (ps:List Int):List AV→Prop × AV
  |[.sl xs]=>(xs=ps.map eInt,aIntss (partsL ps))
  |_=>(False,.junk)
theorem parts_env {ps:List Int} (h:FnV Try.prog 75 [aInts ps] (aIntss (partsL ps))) {A:Frm→Prop}:EntryOK A Try.prog 75 (valE false (s75 ps)):=valE_ok fun vs hv h1=>by
  clear hv
  unfold s75 at h1 ⊢
  split at h1
  · refine ⟨trivial,fun h=>absurd h (by decide),?_⟩
    have h2:_=_:=h1
    rw [h2];exact h
  · exact h1.elim
def pa1 (l:List Int) (rs X:List (List Int)) (n:Nat):St:={ t:=asg [(0,aInts l),(3,.row 0),(4,aIntss rs),(5,aI n)],h:=hasg [(0,.row 22 1 (X.map eInts))],n:=1 }
def pa2 (l:List Int) (rs X:List (List Int)) (n k:Nat):St:={ t:=asg [(0,aInts l),(3,.row 0),(4,aIntss rs),(5,aI n),(6,aI k)],h:=hasg [(0,.row 22 1 ((X++(rs.take k).map ((n:Int) :: ·)).map eInts))],n:=1 }
def tbN8_75:=vk @ty3 (vk @ty22 (vk @ty28 (vk @ti3.eq_1 (vk @ti22.eq_1 @ti28.eq_1))))
def xbN8_1:=vk @aI.eq_1 (vk @aB.eq_1 (vk @aInts.eq_1 (vk @aIntss.eq_1 (vk @gInt (vk @gInts (vk @eInt.eq_1 (vk @eInts.eq_1 (vk @slT (vk @slD (vk @rInt (@rInts)))))))))))
end Go.Sym.B
