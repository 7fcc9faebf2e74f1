/- Walks and what they compute, joined: part 1. -/
import Derived.Test.YtfljkbcphmnjkaaHB3
set_option linter.all false
namespace Go.Sym.B
open Go Go.Sym Go.Proofs Go.Sym.C
theorem _root_.Go.Sym.vj {a b:Prop} (x:a) (y:b):a∧b:=⟨x,y⟩
def _root_.Go.Sym.uq:=@blockK_miss
def _root_.Go.Sym.ux:=@blockK_hit
def _root_.Go.Sym.uz:=@blockK_n
def _root_.Go.Sym.uj:=@blockK_r
def _root_.Go.Sym.uk:=@thenK_x
def _root_.Go.Sym.uw:=@thenK_r
def _root_.Go.Sym.uv:=@thenK_n
def _root_.Go.Sym.vq:=@drawB_of
def _root_.Go.Sym.vx:=@sym_reg
def _root_.Go.Sym.vz:=@sym_cz
end Go.Sym.B
namespace Go.Sym.B
open Go Go.Sym Go.Proofs Go.Sym.C
end Go.Sym.B
namespace Go.Sym.B
open Go Go.Sym Go.Proofs Go.Sym.C
def slTk (a:Ask) (l:List Bunk) (k:Nat):List Tk:=(List.range k).map fun i=>tkOf a i (l.getD i default)
theorem tks_succ (a:Ask) (l:List Bunk) (k:Nat):slTk a l (k+1)=slTk a l k++[tkOf a k (l.getD k default)]:=by
  unfold slTk
  rw [List.range_succ,List.map_append];rfl
theorem tks_len (a:Ask) (l:List Bunk) (k:Nat):(slTk a l k).length=k:=by simp [slTk]
end Go.Sym.B
namespace Go.Sym.B
open Go Go.Sym Go.Proofs Go.Sym.C
theorem bunks_3 {cs:List Cabin} (h2:∀ x ∈ cs,1≤x.beds∧x.beds≤3):(bunksL cs).length≤3 * cs.length:=by
  rw [bunks_len]
  induction cs with
  |nil=>simp [bdsL]
  |cons x l ih =>
    have h3:=ih fun y hy=>h2 y (List.mem_cons_of_mem _ hy)
    have h4:=h2 x (List.mem_cons_self ..)
    simp only [bdsL,List.map_cons,List.sum_cons,List.length_cons] at h3 ⊢
    omega
theorem bunks_n {cs:List Cabin} (h1:cs.length≤3) (h2:∀ x ∈ cs,1≤x.beds∧x.beds≤3):(bunksL cs).length≤9:=by
  have:=bunks_3 h2
  omega
end Go.Sym.B
namespace Go.Sym.B
open Go Go.Sym Go.Proofs Go.Sym.C
theorem beside_zero {t:Tk} {l:List Tk}:besideE t l=0 ↔ ∀ x ∈ l,twiceB t x=false∧togB x t=true:=by
  unfold besideE
  constructor
  · intro h x hx
    split at h
    · exact absurd h (by decide)
    rename_i h1
    split at h
    · exact absurd h (by decide)
    rename_i h2
    refine ⟨?_, ?_⟩
    · cases hq:twiceB t x with
      |false=>rfl
      |true=>exact absurd (List.any_eq_true.2 ⟨x,hx,hq⟩) h1
    · cases hq:togB x t with
      |true=>rfl
      |false=>exact absurd (List.any_eq_true.2 ⟨x,hx,by rw [hq];rfl⟩) h2
  · intro h
    rw [if_neg,if_neg]
    · rw [List.any_eq_true]
      rintro ⟨x,hx,h1⟩
      rw [(h x hx).2] at h1
      exact absurd h1 (by decide)
    · rw [List.any_eq_true]
      rintro ⟨x,hx,h1⟩
      rw [(h x hx).1] at h1
      exact absurd h1 (by decide)
theorem near_one (cs:List Cabin) (b:Bunk):nearB cs [b]=true:=by
  unfold nearB
  simp
def askN (a:Ask) (P:Int):Ask:=⟨P,a.frm,a.to,a.sexes,false⟩
theorem askN_ok {c c':Chart} {a:Ask} {P:Int} (h:bothE c a=0) (hs:c'.secs=c.secs) (h':checkE c'=0) (hP:1≤P∧P≤99) (hn:∀ t ∈ c'.sold,t.party ≠ P):bothE c' (askN a P)=0:=by
  have h:=(both_ok h).2
  unfold bothE
  rw [h',if_neg (by decide)]
  unfold askE askN at *
  simp only [hs]
  split at h
  · exact absurd h (by decide)
  split at h
  · exact absurd h (by decide)
  have b1:inB P 1 99=true:=inB_iff.2 hP
  have b2:c'.sold.any (fun t=>decide (t.party=P))=false:=List.any_eq_false.2 fun t ht=>by simpa using hn t ht
  rw [b1,b2]
  exact h
structure RmInv (C:Chart) (a:Ask) (i:Nat) (c:Chart):Prop where
  chk:checkE c=0
  cabs:c.cabins=C.cabins
  secs:c.secs=C.secs
  len:c.sold.length=C.sold.length+i
  lt:∀ t ∈ c.sold,t.party < 60+(i:Int)
end Go.Sym.B
namespace Go.Sym.B
open Go Go.Sym Go.Proofs Go.Sym.C
def bkF (i k:Nat):List Bunk:=(List.range k).map fun (m:Nat)=>⟨(i:Int),(m:Int)⟩
def bkP (cs:List Cabin) (i:Nat):List Bunk:=(List.range i).flatMap fun i=>bkF i (cs.getD i default).beds.toNat
theorem bkF_succ (i k:Nat):bkF i (k+1)=bkF i k++[⟨(i:Int),(k:Int)⟩]:=by
  unfold bkF
  rw [List.range_succ,List.map_append];rfl
theorem bkF_len (i k:Nat):(bkF i k).length=k:=by simp [bkF]
theorem bkP_succ (cs:List Cabin) (i:Nat):bkP cs (i+1)=bkP cs i++bkF i (cs.getD i default).beds.toNat:=by
  unfold bkP
  rw [List.range_succ,List.flatMap_append]
  simp
theorem bkP_len {cs:List Cabin} (hb:∀ x ∈ cs,x.beds≤3):∀ i,i≤cs.length→(bkP cs i).length≤3 * i
  |0,_=>by simp [bkP]
  |i+1,h=>by
    have h1:=bkP_len hb i (by omega)
    have h2:=hb _ (gMem (d:=default) (show i < cs.length by omega))
    rw [bkP_succ,List.length_append,bkF_len]
    omega
def bkS (c:Chart) (T:List (Nat × AV)) (l:List Bunk):St:={ t:=asg (T++[(1,.ptr 0 0),(3,.row 1)]),h:=hasg [(0,.cells (cChart c)),(1,.row 49 2 (l.map eBunk))],n:=2 }
def tbE10_rBunks:=vj @ty3 (vj @ty25 (vj @ty28 (vj @ty37 (vj @ty49 (vj @ty51 (vj @ti3.eq_1 (vj @ti25.eq_1 (vj @ti28.eq_1 (vj @ti37.eq_1 (vj @ti49.eq_1 @ti51.eq_1))))))))))
def xbE10_1:=vj @aI.eq_1 (@aB.eq_1)
theorem rBunks_fn (c:Chart) (hc:c.cabins.length≤3) (hb:∀ x ∈ c.cabins,x.beds≤3):FnV Try.prog 22 [aChart c] (aBunks (bunksL c.cabins)):=by
  have env:Env (fun _=>True) Try.prog tyB (tab []):=mkEnv trivial
  refine Fn.of (A:=fun _=>True) (n0:=0) (D:=noD) (Fn0 Try.func22 rfl (fun vs w=>by kernel_rfl) (by kernel_rfl)) (by simp) (by simp [AV.ids,AV.idsL,aChart,cChart]) (fun i o h=>by cases h) (fun _ _ _ _=>trivial) noD_ok ?_
  have hmx:(100000:Nat)≤maxLen:=by decide
  rw [show bunksL c.cabins=bkP c.cabins c.cabins.length from rfl]
  repeat' (first|(apply nx;with_reducible constructor)|refine uq (by decide) ?_|((first|refine vx env fun Q hQ=>?_|refine vz fun Q hQ=>?_);simp only [vkt,seval,tbE10_rBunks,xbE10_1,aBunk,aBunks,eBunk,gBunk,rBunk,eCabin,gCabin,mBunk,mCabin,mTk,aChart,cChart,bkS,List.length_map];(try simp only [ite_and]);(repeat' (first|with_reducible assumption|refine And.intro ?_ ?_|intro hp));all_goals (first|(refine hQ _ ?_;clear hQ Q)|(refine hQ _ (fun h=>?_) (fun h=>?_) <;> clear hQ Q <;> (try simp only [vki,reduceCtorEq] at h))|(refine vq ?_;kernel_rfl)|omega|assumption|with_reducible rfl|skip)))
  refine sym_loop (fun i:{ i:Nat // i≤c.cabins.length }=>bkS c [(4,aI i.1)] (bkP c.cabins i.1)) (fun i=>c.cabins.length - i.1) ⟨0,Nat.zero_le _⟩ ?_ fun ⟨i,hi⟩=>?_
  · simp only [bkS,show bkP c.cabins 0=[] from rfl,List.cons_append,List.nil_append]
    (refine Le.ok (fun i=>if i=1 then none else some i) [] ?_;constructor;all_goals (try simp only [vle,vkt,seval,tbE10_rBunks,xbE10_1,aBunk,aBunks,eBunk,gBunk,rBunk,eCabin,gCabin,mBunk,mCabin,mTk,aChart,cChart,bkS,List.length_map]))
    all_goals first|rfl|(simp;done)
  simp only at hi ⊢
  have hL:=bkP_len hb i hi
  have hS:=bkP_succ c.cabins i
  obtain ⟨L,hLe⟩:∃ L,bkP c.cabins i=L:=⟨_,rfl⟩
  rw [hLe] at hL hS
  rw [hLe]
  by_cases hil:i < c.cabins.length
  · have d1:decide ((i:Int) < (c.cabins.length:Int))=true:=decide_eq_true (by omega)
    have e9:IntKind.wrap .i64 ((i:Int)+1)=((i+1:Nat):Int):=by rw [wrap64 (by omega) (by omega)];rfl
    have i0:((i:Int)).toNat=i:=rfl
    obtain ⟨x,hx⟩:∃ x,c.cabins.getD i default=x:=⟨_,rfl⟩
    have hxb:=hb x (by rw [← hx];exact gMem hil)
    rw [hx] at hS
    simp only [bkS,List.cons_append,List.nil_append]
    repeat' (first|(apply nx;with_reducible constructor)|refine uq (by decide) ?_|((first|refine vx env fun Q hQ=>?_|refine vz fun Q hQ=>?_);simp only [vkt,seval,tbE10_rBunks,xbE10_1,aBunk,aBunks,eBunk,gBunk,rBunk,eCabin,gCabin,mBunk,mCabin,mTk,aChart,cChart,bkS,List.length_map,d1,i0];(try simp only [ite_and]);(repeat' (first|with_reducible assumption|refine And.intro ?_ ?_|intro hp));all_goals (first|(refine hQ _ ?_;clear hQ Q)|(refine hQ _ (fun h=>?_) (fun h=>?_) <;> clear hQ Q <;> (try simp only [vki,reduceCtorEq] at h))|(refine vq ?_;kernel_rfl)|omega|assumption|with_reducible rfl|skip)))
    refine sym_loop (fun k:{ k:Nat // k≤x.beds.toNat }=>bkS c [(4,aI i),(5,aI k.1)] (L++bkF i k.1)) (fun k=>x.beds.toNat - k.1) ⟨0,Nat.zero_le _⟩ ?_ fun ⟨k,hk⟩=>?_
    · simp only [bkS,show bkF i 0=[] from rfl,List.append_nil,List.cons_append,List.nil_append]
      (refine Le.ok some [] ?_;constructor;all_goals (try simp only [vle,vkt,seval,tbE10_rBunks,xbE10_1,aBunk,aBunks,eBunk,gBunk,rBunk,eCabin,gCabin,mBunk,mCabin,mTk,aChart,cChart,bkS,List.length_map]))
      all_goals first|rfl|(simp;done)
    simp only at hk ⊢
    have hF:=bkF_succ i k
    have hFl:(L++bkF i k).length≤100:=by rw [List.length_append,bkF_len];omega
    obtain ⟨M,hM⟩:∃ M,L++bkF i k=M:=⟨_,rfl⟩
    have hMS:L++bkF i (k+1)=M++[⟨(i:Int),(k:Int)⟩]:=by rw [hF,← List.append_assoc,hM]
    rw [hM] at hFl
    simp only [bkS,hM,List.cons_append,List.nil_append]
    by_cases hkl:k < x.beds.toNat
    · have d2:decide ((k:Int) < x.beds)=true:=decide_eq_true (by omega)
      have e8:IntKind.wrap .i64 ((k:Int)+1)=((k+1:Nat):Int):=by rw [wrap64 (by omega) (by omega)];rfl
      have hm:M.length+1≤maxLen:=by omega
      repeat' (first|(apply nx;with_reducible constructor)|refine uq (by decide) ?_|((first|refine vx env fun Q hQ=>?_|refine vz fun Q hQ=>?_);simp only [vkt,seval,tbE10_rBunks,xbE10_1,aBunk,aBunks,eBunk,gBunk,rBunk,eCabin,gCabin,mBunk,mCabin,mTk,aChart,cChart,bkS,List.length_map,i0,hil,hx,d2,e8,hm];(try simp only [ite_and]);(repeat' (first|with_reducible assumption|refine And.intro ?_ ?_|intro hp));all_goals (first|(refine hQ _ ?_;clear hQ Q)|(refine hQ _ (fun h=>?_) (fun h=>?_) <;> clear hQ Q <;> (try simp only [vki,reduceCtorEq] at h))|(refine vq ?_;kernel_rfl)|omega|assumption|with_reducible rfl|skip)))
      refine ⟨⟨k+1,hkl⟩,by show x.beds.toNat - (k+1) < x.beds.toNat - k;omega, ?_⟩
      simp only [bkS,hMS,List.cons_append,List.nil_append]
      (refine Le.ok (fun i=>if i=1 then some 3 else some i) [] ?_;constructor;all_goals (try simp only [vle,vkt,seval,tbE10_rBunks,xbE10_1,aBunk,aBunks,eBunk,gBunk,rBunk,eCabin,gCabin,mBunk,mCabin,mTk,aChart,cChart,bkS,List.length_map]))
      all_goals first|rfl|(rw [List.map_append];rfl)|(simp;done)|(intro i hi;rw [if_neg (by omega)];done)
    · have d2:decide ((k:Int) < x.beds)=false:=decide_eq_false (by omega)
      obtain rfl:k=x.beds.toNat:=by omega
      repeat' (first|(apply nx;with_reducible constructor)|refine uq (by decide) ?_|((first|refine vx env fun Q hQ=>?_|refine vz fun Q hQ=>?_);simp only [vkt,seval,tbE10_rBunks,xbE10_1,aBunk,aBunks,eBunk,gBunk,rBunk,eCabin,gCabin,mBunk,mCabin,mTk,aChart,cChart,bkS,List.length_map,i0,hil,hx,d2,e9];(try simp only [ite_and]);(repeat' (first|with_reducible assumption|refine And.intro ?_ ?_|intro hp));all_goals (first|(refine hQ _ ?_;clear hQ Q)|(refine hQ _ (fun h=>?_) (fun h=>?_) <;> clear hQ Q <;> (try simp only [vki,reduceCtorEq] at h))|(refine vq ?_;kernel_rfl)|omega|assumption|with_reducible rfl|skip)))
      refine ⟨⟨i+1,hil⟩,by show c.cabins.length - (i+1) < c.cabins.length - i;omega, ?_⟩
      simp only [bkS,hS,hM,List.cons_append,List.nil_append]
      (refine Le.ok some [] ?_;constructor;all_goals (try simp only [vle,vkt,seval,tbE10_rBunks,xbE10_1,aBunk,aBunks,eBunk,gBunk,rBunk,eCabin,gCabin,mBunk,mCabin,mTk,aChart,cChart,bkS,List.length_map]))
      all_goals first|rfl|(simp;done)
  · have d1:decide ((i:Int) < (c.cabins.length:Int))=false:=decide_eq_false (by omega)
    obtain rfl:i=c.cabins.length:=by omega
    rw [hLe]
    simp only [bkS,List.cons_append,List.nil_append]
    repeat' (first|(apply nx;with_reducible constructor)|refine uq (by decide) ?_|((first|refine vx env fun Q hQ=>?_|refine vz fun Q hQ=>?_);simp only [vkt,seval,tbE10_rBunks,xbE10_1,aBunk,aBunks,eBunk,gBunk,rBunk,eCabin,gCabin,mBunk,mCabin,mTk,aChart,cChart,bkS,List.length_map,d1];(try simp only [ite_and]);(repeat' (first|with_reducible assumption|refine And.intro ?_ ?_|intro hp));all_goals (first|(refine hQ _ ?_;clear hQ Q)|(refine hQ _ (fun h=>?_) (fun h=>?_) <;> clear hQ Q <;> (try simp only [vki,reduceCtorEq] at h))|(refine vq ?_;kernel_rfl)|omega|assumption|with_reducible rfl|skip)))
    (simp only [vrt,Try.results22,vkt,seval,tbE10_rBunks,xbE10_1,aBunk,aBunks,eBunk,gBunk,rBunk,eCabin,gCabin,mBunk,mCabin,mTk,aChart,cChart,bkS,List.length_map];refine Fin.val rfl ?_;(try simp only [AV.le,AV.leL]))
    all_goals first|rfl|(simp;done)|exact ⟨_,_,rfl⟩
def srBunks:List AV→Prop × AV
  |[.agg [.sl c0,.v (.int .i64 c1),.sl c2]]=>(c0=(c0.map dCabin).map eCabin∧c2=(c2.map dTk).map eTk∧((⟨(c0.map dCabin),c1,(c2.map dTk)⟩:Chart)).cabins.length≤3∧∀ x ∈ ((⟨(c0.map dCabin),c1,(c2.map dTk)⟩:Chart)).cabins,x.beds≤3,aBunks (bunksL ((⟨(c0.map dCabin),c1,(c2.map dTk)⟩:Chart)).cabins))
  |_=>(False,.junk)
theorem erBunks {A:Frm→Prop}:EntryOK A Try.prog 22 (valE false srBunks):=valE_ok fun vs hv h=>by
  clear hv
  unfold srBunks at h ⊢
  split at h
  · rename_i c0 c1 c2;obtain ⟨q0,q1,k0,k1⟩:=h
    refine ⟨by first|trivial|(simp [AV.plain,AV.plainL,aI,aB,aInts,aBunks,aTks,aBunk,aTk,cTk];done)|(repeat' split) <;> simp [AV.plain,AV.plainL,aI,aB,aInts,aBunks,aTks,aBunk,aTk,cTk],fun h=>absurd h (by decide), ?_⟩
    have:=rBunks_fn ((⟨(c0.map dCabin),c1,(c2.map dTk)⟩:Chart)) k0 k1
    simp only [aCabins,aChart,aI,aTks,cChart,← q0,← q1] at this
    first|exact this|(simp only [aCabins,aChart,aI,aTks,cChart,← q0,← q1];exact this)
  · exact h.elim
def alL (bs:List Bunk):Nat→List (List Bunk)
  |0=>[[]]
  |m+1=>bs.flatMap fun b=>(alL bs m).map (b :: ·)
theorem alL_len (bs:List Bunk):∀ m,(alL bs m).length=bs.length ^ m
  |0=>rfl
  |m+1=>by
    rw [alL,List.length_flatMap]
    simp only [List.length_map,alL_len bs m]
    rw [List.map_const',List.sum_replicate_nat,Nat.pow_succ,Nat.mul_comm]
theorem alL_one {bs:List Bunk}:∀ {m},∀ p ∈ alL bs m,p.length=m
  |0,p,hp=>by rw [List.mem_singleton.1 hp];rfl
  |m+1,p,hp=>by
    obtain ⟨b,_,hp⟩:=List.mem_flatMap.1 hp
    obtain ⟨q,hq,rfl⟩:=List.mem_map.1 hp
    rw [List.length_cons,alL_one q hq]
def alP (bs:List Bunk) (R:List (List Bunk)) (i:Nat):List (List Bunk):=(bs.take i).flatMap fun b=>R.map (b :: ·)
theorem alP_succ {bs:List Bunk} (R:List (List Bunk)) {i:Nat} (h:i < bs.length):alP bs R (i+1)=alP bs R i++R.map ((bs.getD i default) :: ·):=by
  unfold alP
  rw [List.take_succ_eq_append_getElem h,List.flatMap_append,List.getD_eq_getElem?_getD,List.getElem?_eq_getElem h]
  simp
theorem alP_len (bs:List Bunk) (R:List (List Bunk)) (i:Nat):(alP bs R i).length≤i * R.length:=by
  unfold alP
  rw [List.length_flatMap]
  simp only [List.length_map]
  rw [List.map_const',List.sum_replicate_nat]
  exact Nat.mul_le_mul_right _ (by rw [List.length_take];omega)
def AlFn (m:Nat):Prop:=∀ bs:List Bunk,bs.length≤9→m≤3→Fn noB Try.prog 21 [aBunks bs,aI m] noH (.row 0) (hasg [(0,.row 37 1 ((alL bs m).map eBunks))]) 0
def pAl (m:Nat) (_:St):List AV→Option Pk
  |[.sl bs,.v (.int .i64 n)]=>some { pre:=bs=(bs.map dBunk).map eBunk∧n=m∧bs.length≤9∧m≤3,ar:=[.sl bs,.v (.int .i64 n)],v:=.row 0,L1:=[some (.row 37 1 ((alL (bs.map dBunk) m).map eBunks))] }
  |_=>none
theorem eAl {A:Frm→Prop} {m:Nat} (ih:AlFn m):EntryOK A Try.prog 21 (fnE (pAl m)):=fnE_ok fun S bs q h hp=>by
  unfold pAl at h
  split at h
  · rename_i bs n
    cases h
    obtain ⟨h1,rfl,h3,h4⟩:=hp
    have:=ih (bs.map dBunk) (by rw [List.length_map];exact h3) h4
    rw [aBunks,← h1] at this
    exact this
  · cases h
def alS (bs:List Bunk) (R M:List (List Bunk)) (T:List (Nat × AV)):St:={ t:=asg (T++[(0,aBunks bs),(5,.row 1),(6,.row 0)]),h:=hasg [(0,.row 37 1 (R.map eBunks)),(1,.row 37 1 (M.map eBunks))],n:=2 }
def tbE10_rLists:=vj @ty3 (vj @ty33 (vj @ty37 (vj @ty49 (vj @ti3.eq_1 (vj @ti33.eq_1 (vj @ti37.eq_1 @ti49.eq_1))))))
def xbE10_2:=vj @aI.eq_1 (@aB.eq_1)
theorem al_zero:AlFn 0:=by
  intro bs _ _
  have env:Env (fun _=>True) Try.prog tyB (tab []):=mkEnv trivial
  refine Fn.of (A:=fun _=>True) (n0:=0) (D:=noD) (Fn0 Try.func21 rfl (fun vs w=>by kernel_rfl) (by kernel_rfl)) (by simp) (by simp [AV.ids,AV.idsL,aBunks,aI]) (fun i o h=>by cases h) (fun _ _ _ _=>trivial) noD_ok ?_
  show Sym _ _ _ (startS [aBunks bs,aI 0] 0 noH) (retK tyB noD Try.f21 fun S rv=>Fin S rv (.row 0) 0 (hasg [(0,.row 37 1 [eBunks []])]) 0)
  repeat' (first|(apply nx;with_reducible constructor)|refine uq (by decide) ?_|((first|refine vx env fun Q hQ=>?_|refine vz fun Q hQ=>?_);simp only [vkt,seval,tbE10_rLists,xbE10_2,aBunk,aBunks,eBunk,eBunks,gBunk,gBunks,rBunk,rBunks,mBunk,pAl,alS,List.length_map,decide_true];(try simp only [ite_and]);(repeat' (first|with_reducible assumption|refine And.intro ?_ ?_|intro hp));all_goals (first|(refine hQ _ ?_;clear hQ Q)|(refine hQ _ (fun h=>?_) (fun h=>?_) <;> clear hQ Q <;> (try simp only [vki,reduceCtorEq] at h))|(refine vq ?_;kernel_rfl)|omega|assumption|with_reducible rfl|skip)))
  (simp only [vrt,Try.results21,vkt,seval,tbE10_rLists,xbE10_2,aBunk,aBunks,eBunk,eBunks,gBunk,gBunks,rBunk,rBunks,mBunk,pAl,alS,List.length_map];refine Fin.ok some [] ?_ ?_ ?_ ?_ ?_ rfl;all_goals (try simp only [vle,vkt,seval,tbE10_rLists,xbE10_2,aBunk,aBunks,eBunk,eBunks,gBunk,gBunks,rBunk,rBunks,mBunk,pAl,alS,List.length_map]))
  all_goals first|rfl|(simp;done)
theorem al_succ (m:Nat) (ih:AlFn m):AlFn (m+1):=by
  intro bs hbs hm3
  have env:Env (fun _=>True) Try.prog tyB (tab [(21,fnE (pAl m))]):=mkEnv ⟨eAl ih,trivial⟩
  refine Fn.of (A:=fun _=>True) (n0:=0) (D:=noD) (Fn0 Try.func21 rfl (fun vs w=>by kernel_rfl) (by kernel_rfl)) (by simp) (by simp [AV.ids,AV.idsL,aBunks,aI]) (fun i o h=>by cases h) (fun _ _ _ _=>trivial) noD_ok ?_
  have hmx:(100000:Nat)≤maxLen:=by decide
  obtain ⟨R,hR⟩:∃ R,alL bs m=R:=⟨_,rfl⟩
  have hRl:R.length≤1000:=by
    rw [← hR,alL_len]
    have h1:bs.length ^ m≤9 ^ m:=Nat.pow_le_pow_left hbs m
    have h2:9 ^ m≤9 ^ 3:=Nat.pow_le_pow_right (by decide) (by omega)
    omega
  have hR1:∀ p ∈ R,p.length≤3:=fun p hp=>by
    rw [← hR] at hp
    have:=alL_one p hp
    omega
  have hF:alL bs (m+1)=alP bs R bs.length:=by unfold alP;rw [List.take_length,← hR];rfl
  rw [hF]
  have d0:decide (((m+1:Nat):Int)=0)=false:=decide_eq_false (by omega)
  have w0:IntKind.wrap .i64 (((m+1:Nat):Int) - 1)=(m:Int):=by rw [wrap64 (by omega) (by omega)];omega
  have hm3':m≤3:=by omega
  repeat' (first|(apply nx;with_reducible constructor)|refine uq (by decide) ?_|((first|refine vx env fun Q hQ=>?_|refine vz fun Q hQ=>?_);simp only [vkt,seval,tbE10_rLists,xbE10_2,aBunk,aBunks,eBunk,eBunks,gBunk,gBunks,rBunk,rBunks,mBunk,pAl,alS,List.length_map,d0,w0,hbs,hm3',hR];(try simp only [ite_and]);(repeat' (first|with_reducible assumption|refine And.intro ?_ ?_|intro hp));all_goals (first|(refine hQ _ ?_;clear hQ Q)|(refine hQ _ (fun h=>?_) (fun h=>?_) <;> clear hQ Q <;> (try simp only [vki,reduceCtorEq] at h))|(refine vq ?_;kernel_rfl)|omega|assumption|with_reducible rfl|skip)))
  refine sym_loop (fun i:{ i:Nat // i≤bs.length }=>alS bs R (alP bs R i.1) [(7,aI i.1)]) (fun i=>bs.length - i.1) ⟨0,Nat.zero_le _⟩ ?_ fun ⟨i,hi⟩=>?_
  · simp only [alS,show alP bs R 0=[] from rfl,List.cons_append,List.nil_append]
    (refine Le.ok (fun i=>if i=1 then none else some i) [] ?_;constructor;all_goals (try simp only [vle,vkt,seval,tbE10_rLists,xbE10_2,aBunk,aBunks,eBunk,eBunks,gBunk,gBunks,rBunk,rBunks,mBunk,pAl,alS,List.length_map]))
    all_goals first|rfl|(simp;done)
  simp only at hi ⊢
  have hL:=alP_len bs R i
  have hL2:i * R.length≤9 * 1000:=Nat.mul_le_mul (by omega) hRl
  obtain ⟨L,hLe⟩:∃ L,alP bs R i=L:=⟨_,rfl⟩
  rw [hLe] at hL
  rw [hLe]
  by_cases hil:i < bs.length
  · have d1:decide ((i:Int) < (bs.length:Int))=true:=decide_eq_true (by omega)
    have e9:IntKind.wrap .i64 ((i:Int)+1)=((i+1:Nat):Int):=by rw [wrap64 (by omega) (by omega)];rfl
    have i0:((i:Int)).toNat=i:=rfl
    obtain ⟨b,hbe⟩:∃ b,bs.getD i default=b:=⟨_,rfl⟩
    have hS:=alP_succ R hil
    rw [hLe,hbe] at hS
    simp only [alS,List.cons_append,List.nil_append]
    repeat' (first|(apply nx;with_reducible constructor)|refine uq (by decide) ?_|((first|refine vx env fun Q hQ=>?_|refine vz fun Q hQ=>?_);simp only [vkt,seval,tbE10_rLists,xbE10_2,aBunk,aBunks,eBunk,eBunks,gBunk,gBunks,rBunk,rBunks,mBunk,pAl,alS,List.length_map,d1,i0];(try simp only [ite_and]);(repeat' (first|with_reducible assumption|refine And.intro ?_ ?_|intro hp));all_goals (first|(refine hQ _ ?_;clear hQ Q)|(refine hQ _ (fun h=>?_) (fun h=>?_) <;> clear hQ Q <;> (try simp only [vki,reduceCtorEq] at h))|(refine vq ?_;kernel_rfl)|omega|assumption|with_reducible rfl|skip)))
    refine sym_loop (fun k:{ k:Nat // k≤R.length }=>alS bs R (L++(R.take k.1).map (b :: ·)) [(7,aI i),(8,aI k.1)]) (fun k=>R.length - k.1) ⟨0,Nat.zero_le _⟩ ?_ fun ⟨k,hk⟩=>?_
    · simp only [alS,List.take_zero,List.map_nil,List.append_nil,List.cons_append,List.nil_append]
      (refine Le.ok some [] ?_;constructor;all_goals (try simp only [vle,vkt,seval,tbE10_rLists,xbE10_2,aBunk,aBunks,eBunk,eBunks,gBunk,gBunks,rBunk,rBunks,mBunk,pAl,alS,List.length_map]))
      all_goals first|rfl|(simp;done)
    simp only at hk ⊢
    obtain ⟨M,hM⟩:∃ M,L++(R.take k).map (b :: ·)=M:=⟨_,rfl⟩
    have hMl:M.length≤10000:=by rw [← hM,List.length_append,List.length_map,List.length_take];omega
    simp only [alS,hM,List.cons_append,List.nil_append]
    by_cases hkl:k < R.length
    · have d2:decide ((k:Int) < (R.length:Int))=true:=decide_eq_true (by omega)
      have e8:IntKind.wrap .i64 ((k:Int)+1)=((k+1:Nat):Int):=by rw [wrap64 (by omega) (by omega)];rfl
      have k0:((k:Int)).toNat=k:=rfl
      have hm:M.length+1≤maxLen:=by omega
      obtain ⟨p,hp⟩:∃ p,R.getD k []=p:=⟨_,rfl⟩
      have hg:=hBunks hkl
      rw [hp] at hg
      have hpl:=hR1 p (by rw [← hp];exact gMem hkl)
      have hpm:1+p.length≤maxLen:=by omega
      have hMS:L++(R.take (k+1)).map (b :: ·)=M++[b :: p]:=by
        rw [List.take_succ_eq_append_getElem hkl,List.map_append,← List.append_assoc,hM,← hp]
        simp [List.getD_eq_getElem?_getD,hkl]
      repeat' (first|(apply nx;with_reducible constructor)|refine uq (by decide) ?_|((first|refine vx env fun Q hQ=>?_|refine vz fun Q hQ=>?_);simp only [vkt,seval,tbE10_rLists,xbE10_2,aBunk,aBunks,eBunk,eBunks,gBunk,gBunks,rBunk,rBunks,mBunk,pAl,alS,List.length_map,i0,k0,hil,hkl,hbe,hp,hg,d2,e8,hm,hpm];(try simp only [ite_and]);(repeat' (first|with_reducible assumption|refine And.intro ?_ ?_|intro hp));all_goals (first|(refine hQ _ ?_;clear hQ Q)|(refine hQ _ (fun h=>?_) (fun h=>?_) <;> clear hQ Q <;> (try simp only [vki,reduceCtorEq] at h))|(refine vq ?_;kernel_rfl)|omega|assumption|with_reducible rfl|skip)))
      refine ⟨⟨k+1,hkl⟩,by show R.length - (k+1) < R.length - k;omega, ?_⟩
      simp only [alS,hMS,List.cons_append,List.nil_append]
      (refine Le.ok (fun i=>if i=1 then some 5 else some i) [] ?_;constructor;all_goals (try simp only [vle,vkt,seval,tbE10_rLists,xbE10_2,aBunk,aBunks,eBunk,eBunks,gBunk,gBunks,rBunk,rBunks,mBunk,pAl,alS,List.length_map]))
      all_goals first|rfl|(rw [List.map_append];rfl)|(simp;done)|(intro i hi;rw [if_neg (by omega)];done)
    · have d2:decide ((k:Int) < (R.length:Int))=false:=decide_eq_false (by omega)
      obtain rfl:k=R.length:=by omega
      rw [List.take_length] at hM
      repeat' (first|(apply nx;with_reducible constructor)|refine uq (by decide) ?_|((first|refine vx env fun Q hQ=>?_|refine vz fun Q hQ=>?_);simp only [vkt,seval,tbE10_rLists,xbE10_2,aBunk,aBunks,eBunk,eBunks,gBunk,gBunks,rBunk,rBunks,mBunk,pAl,alS,List.length_map,d2,e9];(try simp only [ite_and]);(repeat' (first|with_reducible assumption|refine And.intro ?_ ?_|intro hp));all_goals (first|(refine hQ _ ?_;clear hQ Q)|(refine hQ _ (fun h=>?_) (fun h=>?_) <;> clear hQ Q <;> (try simp only [vki,reduceCtorEq] at h))|(refine vq ?_;kernel_rfl)|omega|assumption|with_reducible rfl|skip)))
      refine ⟨⟨i+1,hil⟩,by show bs.length - (i+1) < bs.length - i;omega, ?_⟩
      simp only [alS,hS,hM,List.cons_append,List.nil_append]
      (refine Le.ok some [] ?_;constructor;all_goals (try simp only [vle,vkt,seval,tbE10_rLists,xbE10_2,aBunk,aBunks,eBunk,eBunks,gBunk,gBunks,rBunk,rBunks,mBunk,pAl,alS,List.length_map]))
      all_goals first|rfl|(simp;done)
  · have d1:decide ((i:Int) < (bs.length:Int))=false:=decide_eq_false (by omega)
    obtain rfl:i=bs.length:=by omega
    rw [hLe]
    simp only [alS,List.cons_append,List.nil_append]
    repeat' (first|(apply nx;with_reducible constructor)|refine uq (by decide) ?_|((first|refine vx env fun Q hQ=>?_|refine vz fun Q hQ=>?_);simp only [vkt,seval,tbE10_rLists,xbE10_2,aBunk,aBunks,eBunk,eBunks,gBunk,gBunks,rBunk,rBunks,mBunk,pAl,alS,List.length_map,d1];(try simp only [ite_and]);(repeat' (first|with_reducible assumption|refine And.intro ?_ ?_|intro hp));all_goals (first|(refine hQ _ ?_;clear hQ Q)|(refine hQ _ (fun h=>?_) (fun h=>?_) <;> clear hQ Q <;> (try simp only [vki,reduceCtorEq] at h))|(refine vq ?_;kernel_rfl)|omega|assumption|with_reducible rfl|skip)))
    (simp only [vrt,Try.results21,vkt,seval,tbE10_rLists,xbE10_2,aBunk,aBunks,eBunk,eBunks,gBunk,gBunks,rBunk,rBunks,mBunk,pAl,alS,List.length_map];refine Fin.ok (fun j=>[1][j]?) [] ?_ ?_ ?_ ?_ ?_ rfl;all_goals (try simp only [vle,vkt,seval,tbE10_rLists,xbE10_2,aBunk,aBunks,eBunk,eBunks,gBunk,gBunks,rBunk,rBunks,mBunk,pAl,alS,List.length_map]))
    all_goals first|rfl|(simp;done)
theorem al_all:∀ m,AlFn m
  |0=>al_zero
  |m+1=>al_succ m (al_all m)
end Go.Sym.B
namespace Go.Sym.B
open Go Go.Sym Go.Proofs Go.Sym.C
def tbE11_isBunk:=vj @ty3 (vj @ty25 (vj @ty28 (vj @ty49 (vj @ty51 (vj @ti3.eq_1 (vj @ti25.eq_1 (vj @ti28.eq_1 (vj @ti49.eq_1 @ti51.eq_1))))))))
def xbE11_1:=vj @aI.eq_1 (@aB.eq_1)
theorem isBunk_fn (c:Chart) (b:Bunk) (hc:CarOk c):FnV Try.prog 73 [aChart c,aBunk b] (aB (isBunkB c.cabins b.cab b.bed)):=by
  have env:Env (fun _=>True) Try.prog tyB (tab [(81,valE true sbetw)]):=mkEnv ⟨ebetw,trivial⟩
  refine Fn.of (A:=fun _=>True) (n0:=0) (D:=noD) (Fn0 Try.func73 rfl (fun vs w=>by kernel_rfl) (by kernel_rfl)) (by simp) (by simp [AV.ids,AV.idsL,aChart,cChart,aBunk]) (fun i o h=>by cases h) (fun _ _ _ _=>trivial) noD_ok ?_
  have hcl:=hc.cabs
  have w1:IntKind.wrap .i64 ((c.cabins.length:Int) - 1)=(c.cabins.length:Int) - 1:=wrap64 (by omega) (by omega)
  have hE:isBunkB c.cabins b.cab b.bed=(inB b.cab 0 ((c.cabins.length:Int) - 1) && inB b.bed 0 ((c.cabins.getD b.cab.toNat default).beds - 1)):=rfl
  cases h3:inB b.cab 0 ((c.cabins.length:Int) - 1) with
  |false =>
    rw [hE,h3]
    repeat' (first|(apply nx;with_reducible constructor)|refine uq (by decide) ?_|((first|refine vx env fun Q hQ=>?_|refine vz fun Q hQ=>?_);simp only [vkt,seval,tbE11_isBunk,xbE11_1,aBunk,eBunk,aChart,cChart,eCabin,gCabin,mCabin,sbetw,List.length_map,h3,w1];(try simp only [ite_and]);(repeat' (first|with_reducible assumption|refine And.intro ?_ ?_|intro hp));all_goals (first|(refine hQ _ ?_;clear hQ Q)|(refine hQ _ (fun h=>?_) (fun h=>?_) <;> clear hQ Q <;> (try simp only [vki,reduceCtorEq] at h))|(refine vq ?_;kernel_rfl)|omega|assumption|with_reducible rfl|skip)))
    (simp only [vrt,Try.results73,vkt,seval,tbE11_isBunk,xbE11_1,aBunk,eBunk,aChart,cChart,eCabin,gCabin,mCabin,sbetw,List.length_map];refine Fin.val rfl ?_;(try simp only [AV.le,AV.leL]))
    all_goals first|rfl|(simp;done)
  |true =>
    have b3:=inB_iff.1 h3
    have g1:0≤b.cab:=b3.1
    have g2:b.cab.toNat < c.cabins.length:=by omega
    obtain ⟨x,hx⟩:∃ x,c.cabins.getD b.cab.toNat default=x:=⟨_,rfl⟩
    have hxb:=hc.beds _ (gMem (d:=default) g2)
    rw [hx] at hxb
    have w2:IntKind.wrap .i64 (x.beds - 1)=x.beds - 1:=wrap64 (by omega) (by omega)
    rw [hE,h3,hx,Bool.true_and]
    repeat' (first|(apply nx;with_reducible constructor)|refine uq (by decide) ?_|((first|refine vx env fun Q hQ=>?_|refine vz fun Q hQ=>?_);simp only [vkt,seval,tbE11_isBunk,xbE11_1,aBunk,eBunk,aChart,cChart,eCabin,gCabin,mCabin,sbetw,List.length_map,h3,w1,w2,hx,g1,g2];(try simp only [ite_and]);(repeat' (first|with_reducible assumption|refine And.intro ?_ ?_|intro hp));all_goals (first|(refine hQ _ ?_;clear hQ Q)|(refine hQ _ (fun h=>?_) (fun h=>?_) <;> clear hQ Q <;> (try simp only [vki,reduceCtorEq] at h))|(refine vq ?_;kernel_rfl)|omega|assumption|with_reducible rfl|skip)))
    (simp only [vrt,Try.results73,vkt,seval,tbE11_isBunk,xbE11_1,aBunk,eBunk,aChart,cChart,eCabin,gCabin,mCabin,sbetw,List.length_map];refine Fin.val rfl ?_;(try simp only [AV.le,AV.leL]))
    all_goals first|rfl|(simp;done)
def sisBunk:List AV→Prop × AV
  |[.agg [.sl c0,.v (.int .i64 c1),.sl c2],.agg [.v (.int .i64 b0),.v (.int .i64 b1)]]=>(c0=(c0.map dCabin).map eCabin∧c2=(c2.map dTk).map eTk∧CarOk ((⟨(c0.map dCabin),c1,(c2.map dTk)⟩:Chart)),aB (isBunkB ((⟨(c0.map dCabin),c1,(c2.map dTk)⟩:Chart)).cabins ((⟨b0,b1⟩:Bunk)).cab ((⟨b0,b1⟩:Bunk)).bed))
  |_=>(False,.junk)
theorem eisBunk {A:Frm→Prop}:EntryOK A Try.prog 73 (valE true sisBunk):=valE_ok fun vs hv h=>by
  clear hv
  unfold sisBunk at h ⊢
  split at h
  · rename_i c0 c1 c2 b0 b1;obtain ⟨q0,q1,k0⟩:=h
    refine ⟨by first|trivial|(simp [AV.plain,AV.plainL,aI,aB,aInts,aBunks,aTks,aBunk,aTk,cTk];done)|(repeat' split) <;> simp [AV.plain,AV.plainL,aI,aB,aInts,aBunks,aTks,aBunk,aTk,cTk],fun _=>(by simp [AV.flat,AV.flatL,aI,aB]), ?_⟩
    have:=isBunk_fn ((⟨(c0.map dCabin),c1,(c2.map dTk)⟩:Chart)) ((⟨b0,b1⟩:Bunk)) k0
    simp only [aBunk,aCabins,aChart,aI,aTks,cChart,← q0,← q1] at this
    first|exact this|(simp only [aBunk,aCabins,aChart,aI,aTks,cChart,← q0,← q1];exact this)
  · exact h.elim
def rnS (c:Chart) (l:List Bunk) (k:Nat) (lo hi:Int):St:={ t:=asg [(1,aBunks l),(2,.ptr 0 0),(4,aB false),(5,aI lo),(6,aI hi),(7,aI k)],h:=hasg [(0,.cells (cChart c))],n:=1 }
def tbE11_rnear:=vj @ty3 (vj @ty4 (vj @ty25 (vj @ty28 (vj @ty37 (vj @ty49 (vj @ty51 (vj @ti3.eq_1 (vj @ti4.eq_1 (vj @ti25.eq_1 (vj @ti28.eq_1 (vj @ti37.eq_1 (vj @ti49.eq_1 @ti51.eq_1))))))))))))
def xbE11_2:=vj @aI.eq_1 (@aB.eq_1)
theorem rnear_fn (c:Chart) (l:List Bunk) (ok:NearOk c.cabins l):FnV Try.prog 76 [aChart c,aBunks l] (aB (nearB c.cabins l)):=by
  have env:Env (fun _=>True) Try.prog tyB (tab []):=mkEnv trivial
  refine Fn.of (A:=fun _=>True) (n0:=0) (D:=noD) (Fn0 Try.func76 rfl (fun vs w=>by kernel_rfl) (by kernel_rfl)) (by simp) (by simp [AV.ids,AV.idsL,aChart,cChart,aBunks]) (fun i o h=>by cases h) (fun _ _ _ _=>trivial) noD_ok ?_
  have hne:=ok.ne
  have hll:=ok.len
  have hcl:=ok.cabs
  have hbd:=nearOk_bd ok
  obtain ⟨x0,hx0⟩:∃ x,l.getD 0 default=x:=⟨_,rfl⟩
  have l0:loK l 0=x0.cab:=by rw [← hx0];rfl
  have h0:hiK l 0=x0.cab:=by rw [← hx0];rfl
  rw [near_eq]
  repeat' (first|(apply nx;with_reducible constructor)|refine uq (by decide) ?_|((first|refine vx env fun Q hQ=>?_|refine vz fun Q hQ=>?_);simp only [vkt,seval,tbE11_rnear,xbE11_2,aBunk,aBunks,eBunk,gBunk,eCabin,gCabin,aChart,cChart,rnS,List.length_map,hx0,hne];(try simp only [ite_and]);(repeat' (first|with_reducible assumption|refine And.intro ?_ ?_|intro hp));all_goals (first|(refine hQ _ ?_;clear hQ Q)|(refine hQ _ (fun h=>?_) (fun h=>?_) <;> clear hQ Q <;> (try simp only [vki,reduceCtorEq] at h))|(refine vq ?_;kernel_rfl)|omega|assumption|with_reducible rfl|skip)))
  refine sym_loop (fun k:{ k:Nat // k≤l.length }=>rnS c l k.1 (loK l k.1) (hiK l k.1)) (fun k=>l.length - k.1) ⟨0,Nat.zero_le _⟩ ?_ fun ⟨k,hk⟩=>?_
  · simp only [l0,h0]
    (refine Le.ok some [] ?_;constructor;all_goals (try simp only [vle,vkt,seval,tbE11_rnear,xbE11_2,aBunk,aBunks,eBunk,gBunk,eCabin,gCabin,aChart,cChart,rnS,List.length_map]))
    all_goals first|rfl|(simp;done)
  simp only at hk ⊢
  by_cases hlt:k < l.length
  · have d1:decide ((k:Int) < (l.length:Int))=true:=decide_eq_true (by omega)
    have e9:IntKind.wrap .i64 ((k:Int)+1)=((k+1:Nat):Int):=by rw [wrap64 (by omega) (by omega)];rfl
    have k0:((k:Int)).toNat=k:=rfl
    obtain ⟨x,hx⟩:∃ x,l.getD k default=x:=⟨_,rfl⟩
    have hl1:=loK_succ hlt
    have hh1:=hiK_succ hlt
    rw [hx] at hl1 hh1
    repeat' (first|(apply nx;with_reducible constructor)|refine uq (by decide) ?_|((first|refine vx env fun Q hQ=>?_|refine vz fun Q hQ=>?_);simp only [vkt,seval,tbE11_rnear,xbE11_2,aBunk,aBunks,eBunk,gBunk,eCabin,gCabin,aChart,cChart,rnS,List.length_map,d1,k0,hx,hlt,e9];(try simp only [ite_and]);(repeat' (first|with_reducible assumption|refine And.intro ?_ ?_|intro hp));all_goals (first|(refine hQ _ ?_;clear hQ Q)|(refine hQ _ (fun h=>?_) (fun h=>?_) <;> clear hQ Q <;> (try simp only [vki,reduceCtorEq] at h))|(refine vq ?_;kernel_rfl)|omega|assumption|with_reducible rfl|skip)))
    refine ⟨⟨k+1,hlt⟩,by show l.length - (k+1) < l.length - k;omega, ?_⟩
    simp only [hl1,hh1]
    (refine Le.ok some [] ?_;constructor;all_goals (try simp only [vle,vkt,seval,tbE11_rnear,xbE11_2,aBunk,aBunks,eBunk,gBunk,eCabin,gCabin,aChart,cChart,rnS,List.length_map]))
    all_goals first|rfl|(simp;done)
  · have d0:decide ((k:Int) < (l.length:Int))=false:=decide_eq_false (by omega)
    have hke:k=l.length:=by omega
    subst hke
    obtain ⟨g1,g2,g3,g4⟩:=hbd l.length (Nat.le_refl _)
    obtain ⟨lo,hlo⟩:∃ x,loK l l.length=x:=⟨_,rfl⟩
    obtain ⟨hi,hhi⟩:∃ x,hiK l l.length=x:=⟨_,rfl⟩
    rw [hlo] at g1 g2
    rw [hhi] at g3 g4
    obtain ⟨x,hx⟩:∃ x,c.cabins.getD lo.toNat default=x:=⟨_,rfl⟩
    have w1:IntKind.wrap .i64 (lo+1)=lo+1:=wrap64 (by omega) (by omega)
    simp only [hlo,hhi]
    by_cases c1:lo=hi
    · rw [show (decide (lo=hi) || (decide (lo+1=hi) && (c.cabins.getD lo.toNat default).door))=true by simp [c1]]
      have d1:decide (lo=hi)=true:=decide_eq_true c1
      have d1':(lo == hi)=true:=by simpa using c1
      repeat' (first|(apply nx;with_reducible constructor)|refine uq (by decide) ?_|((first|refine vx env fun Q hQ=>?_|refine vz fun Q hQ=>?_);simp only [vkt,seval,tbE11_rnear,xbE11_2,aBunk,aBunks,eBunk,gBunk,eCabin,gCabin,aChart,cChart,rnS,List.length_map,d0,d1,d1',w1,hx,g1,g2];(try simp only [ite_and]);(repeat' (first|with_reducible assumption|refine And.intro ?_ ?_|intro hp));all_goals (first|(refine hQ _ ?_;clear hQ Q)|(refine hQ _ (fun h=>?_) (fun h=>?_) <;> clear hQ Q <;> (try simp only [vki,reduceCtorEq] at h))|(refine vq ?_;kernel_rfl)|omega|assumption|with_reducible rfl|skip)))
      (simp only [vrt,Try.results76,vkt,seval,tbE11_rnear,xbE11_2,aBunk,aBunks,eBunk,gBunk,eCabin,gCabin,aChart,cChart,rnS,List.length_map];refine Fin.val rfl ?_;(try simp only [AV.le,AV.leL]))
      all_goals first|rfl|(simp;done)
    · have d1:decide (lo=hi)=false:=decide_eq_false c1
      have d1':(lo == hi)=false:=by simpa using c1
      by_cases c2:lo+1=hi
      · rw [show (decide (lo=hi) || (decide (lo+1=hi) && (c.cabins.getD lo.toNat default).door))=x.door by rw [d1,hx,decide_eq_true c2];simp]
        have d2:decide (hi=lo+1)=true:=decide_eq_true c2.symm
        repeat' (first|(apply nx;with_reducible constructor)|refine uq (by decide) ?_|((first|refine vx env fun Q hQ=>?_|refine vz fun Q hQ=>?_);simp only [vkt,seval,tbE11_rnear,xbE11_2,aBunk,aBunks,eBunk,gBunk,eCabin,gCabin,aChart,cChart,rnS,List.length_map,d0,d1,d1',d2,w1,hx,g1,g2];(try simp only [ite_and]);(repeat' (first|with_reducible assumption|refine And.intro ?_ ?_|intro hp));all_goals (first|(refine hQ _ ?_;clear hQ Q)|(refine hQ _ (fun h=>?_) (fun h=>?_) <;> clear hQ Q <;> (try simp only [vki,reduceCtorEq] at h))|(refine vq ?_;kernel_rfl)|omega|assumption|with_reducible rfl|skip)))
        (simp only [vrt,Try.results76,vkt,seval,tbE11_rnear,xbE11_2,aBunk,aBunks,eBunk,gBunk,eCabin,gCabin,aChart,cChart,rnS,List.length_map];refine Fin.val rfl ?_;(try simp only [AV.le,AV.leL]))
        all_goals first|rfl|(simp;done)
      · rw [show (decide (lo=hi) || (decide (lo+1=hi) && (c.cabins.getD lo.toNat default).door))=false by rw [d1,decide_eq_false c2];simp]
        have d2:decide (hi=lo+1)=false:=decide_eq_false fun h=>c2 h.symm
        repeat' (first|(apply nx;with_reducible constructor)|refine uq (by decide) ?_|((first|refine vx env fun Q hQ=>?_|refine vz fun Q hQ=>?_);simp only [vkt,seval,tbE11_rnear,xbE11_2,aBunk,aBunks,eBunk,gBunk,eCabin,gCabin,aChart,cChart,rnS,List.length_map,d0,d1,d1',d2,w1,hx,g1,g2];(try simp only [ite_and]);(repeat' (first|with_reducible assumption|refine And.intro ?_ ?_|intro hp));all_goals (first|(refine hQ _ ?_;clear hQ Q)|(refine hQ _ (fun h=>?_) (fun h=>?_) <;> clear hQ Q <;> (try simp only [vki,reduceCtorEq] at h))|(refine vq ?_;kernel_rfl)|omega|assumption|with_reducible rfl|skip)))
        (simp only [vrt,Try.results76,vkt,seval,tbE11_rnear,xbE11_2,aBunk,aBunks,eBunk,gBunk,eCabin,gCabin,aChart,cChart,rnS,List.length_map];refine Fin.val rfl ?_;(try simp only [AV.le,AV.leL]))
        all_goals first|rfl|(simp;done)
def srnear:List AV→Prop × AV
  |[.agg [.sl c0,.v (.int .i64 c1),.sl c2],.sl l]=>(c0=(c0.map dCabin).map eCabin∧c2=(c2.map dTk).map eTk∧l=(l.map dBunk).map eBunk∧NearOk ((⟨(c0.map dCabin),c1,(c2.map dTk)⟩:Chart)).cabins (l.map dBunk),aB (nearB ((⟨(c0.map dCabin),c1,(c2.map dTk)⟩:Chart)).cabins (l.map dBunk)))
  |_=>(False,.junk)
theorem ernear {A:Frm→Prop}:EntryOK A Try.prog 76 (valE true srnear):=valE_ok fun vs hv h=>by
  clear hv
  unfold srnear at h ⊢
  split at h
  · rename_i c0 c1 c2 l;obtain ⟨q0,q1,q2,k0⟩:=h
    refine ⟨by first|trivial|(simp [AV.plain,AV.plainL,aI,aB,aInts,aBunks,aTks,aBunk,aTk,cTk];done)|(repeat' split) <;> simp [AV.plain,AV.plainL,aI,aB,aInts,aBunks,aTks,aBunk,aTk,cTk],fun _=>(by simp [AV.flat,AV.flatL,aI,aB]), ?_⟩
    have:=rnear_fn ((⟨(c0.map dCabin),c1,(c2.map dTk)⟩:Chart)) (l.map dBunk) k0
    simp only [aBunks,aCabins,aChart,aI,aTks,cChart,← q0,← q1,← q2] at this
    first|exact this|(simp only [aBunks,aCabins,aChart,aI,aTks,cChart,← q0,← q1,← q2];exact this)
  · exact h.elim
def rtS (a:Ask) (l:List Bunk) (k:Nat):St:={ t:=asg [(1,aBunks l),(2,.ptr 0 0),(5,.row 1),(6,aI k)],h:=hasg [(0,.cells (cAsk a)),(1,rowT (slTk a l k))],n:=2 }
def tbE11_rTks:=vj @ty3 (vj @ty4 (vj @ty22 (vj @ty26 (vj @ty31 (vj @ty37 (vj @ty49 (vj @ty81 (vj @ti3.eq_1 (vj @ti4.eq_1 (vj @ti22.eq_1 (vj @ti26.eq_1 (vj @ti31.eq_1 (vj @ti37.eq_1 (vj @ti49.eq_1 @ti81.eq_1))))))))))))))
def xbE11_3:=vj @aI.eq_1 (vj @aB.eq_1 (vj @eInt.eq_1 (vj @gInt (@mInt))))
theorem rTks_fn (a:Ask) (l:List Bunk) (hl:l.length≤100) (ha:a.sexes.length=l.length):FnV Try.prog 75 [aAsk a,aBunks l] (aTks (slTk a l l.length)):=by
  have env:Env (fun _=>True) Try.prog tyB (tab []):=mkEnv trivial
  refine Fn.of (A:=fun _=>True) (n0:=0) (D:=noD) (Fn0 Try.func75 rfl (fun vs w=>by kernel_rfl) (by kernel_rfl)) (by simp) (by simp [AV.ids,AV.idsL,aAsk,cAsk,aBunks]) (fun i o h=>by cases h) (fun _ _ _ _=>trivial) noD_ok ?_
  have hmx:(100000:Nat)≤maxLen:=by decide
  repeat' (first|(apply nx;with_reducible constructor)|refine uq (by decide) ?_|((first|refine vx env fun Q hQ=>?_|refine vz fun Q hQ=>?_);simp only [vkt,seval,tbE11_rTks,xbE11_3,aBunk,aBunks,eBunk,gBunk,aTk,cTk,aTks,eTk,rTk,aAsk,cAsk,rowT,rtS,List.length_map];(try simp only [ite_and]);(repeat' (first|with_reducible assumption|refine And.intro ?_ ?_|intro hp));all_goals (first|(refine hQ _ ?_;clear hQ Q)|(refine hQ _ (fun h=>?_) (fun h=>?_) <;> clear hQ Q <;> (try simp only [vki,reduceCtorEq] at h))|(refine vq ?_;kernel_rfl)|omega|assumption|with_reducible rfl|skip)))
  refine sym_loop (fun k:{ k:Nat // k≤l.length }=>rtS a l k.1) (fun k=>l.length - k.1) ⟨0,Nat.zero_le _⟩ ?_ fun ⟨k,hk⟩=>?_
  · simp only [rtS,show slTk a l 0=[] from rfl]
    (refine Le.ok (fun i=>if i=1 then none else some i) [] ?_;constructor;all_goals (try simp only [vle,vkt,seval,tbE11_rTks,xbE11_3,aBunk,aBunks,eBunk,gBunk,aTk,cTk,aTks,eTk,rTk,aAsk,cAsk,rowT,rtS,List.length_map]))
    all_goals first|rfl|(simp;done)
  simp only at hk ⊢
  have hS:=tks_succ a l k
  have hT:=tks_len a l k
  obtain ⟨T,hTe⟩:∃ T,slTk a l k=T:=⟨_,rfl⟩
  rw [hTe] at hS hT
  simp only [rtS,hTe]
  by_cases hkl:k < l.length
  · have d1:decide ((k:Int) < (l.length:Int))=true:=decide_eq_true (by omega)
    have d2:decide ((k:Int) < (a.sexes.length:Int))=true:=decide_eq_true (by omega)
    have e9:IntKind.wrap .i64 ((k:Int)+1)=((k+1:Nat):Int):=by rw [wrap64 (by omega) (by omega)];rfl
    have k0:((k:Int)).toNat=k:=rfl
    have hka:k < a.sexes.length:=by omega
    obtain ⟨b,hb⟩:∃ b,l.getD k default=b:=⟨_,rfl⟩
    rw [hb] at hS
    have hm:T.length+1≤maxLen:=by omega
    repeat' (first|(apply nx;with_reducible constructor)|refine uq (by decide) ?_|((first|refine vx env fun Q hQ=>?_|refine vz fun Q hQ=>?_);simp only [vkt,seval,tbE11_rTks,xbE11_3,aBunk,aBunks,eBunk,gBunk,aTk,cTk,aTks,eTk,rTk,aAsk,cAsk,rowT,rtS,List.length_map,d1,d2,e9,k0,hkl,hka,hb,hm];(try simp only [ite_and]);(repeat' (first|with_reducible assumption|refine And.intro ?_ ?_|intro hp));all_goals (first|(refine hQ _ ?_;clear hQ Q)|(refine hQ _ (fun h=>?_) (fun h=>?_) <;> clear hQ Q <;> (try simp only [vki,reduceCtorEq] at h))|(refine vq ?_;kernel_rfl)|omega|assumption|with_reducible rfl|skip)))
    refine ⟨⟨k+1,hkl⟩,by show l.length - (k+1) < l.length - k;omega, ?_⟩
    simp only [rtS,hS]
    (refine Le.ok (fun i=>if i=1 then some 3 else some i) [] ?_;constructor;all_goals (try simp only [vle,vkt,seval,tbE11_rTks,xbE11_3,aBunk,aBunks,eBunk,gBunk,aTk,cTk,aTks,eTk,rTk,aAsk,cAsk,rowT,rtS,List.length_map]))
    all_goals first|rfl|(rw [List.map_append];rfl)|(simp;done)|(intro i hi;rw [if_neg (by omega)];done)
  · have d1:decide ((k:Int) < (l.length:Int))=false:=decide_eq_false (by omega)
    obtain rfl:k=l.length:=by omega
    rw [hTe]
    repeat' (first|(apply nx;with_reducible constructor)|refine uq (by decide) ?_|((first|refine vx env fun Q hQ=>?_|refine vz fun Q hQ=>?_);simp only [vkt,seval,tbE11_rTks,xbE11_3,aBunk,aBunks,eBunk,gBunk,aTk,cTk,aTks,eTk,rTk,aAsk,cAsk,rowT,rtS,List.length_map,d1];(try simp only [ite_and]);(repeat' (first|with_reducible assumption|refine And.intro ?_ ?_|intro hp));all_goals (first|(refine hQ _ ?_;clear hQ Q)|(refine hQ _ (fun h=>?_) (fun h=>?_) <;> clear hQ Q <;> (try simp only [vki,reduceCtorEq] at h))|(refine vq ?_;kernel_rfl)|omega|assumption|with_reducible rfl|skip)))
    (simp only [vrt,Try.results75,vkt,seval,tbE11_rTks,xbE11_3,aBunk,aBunks,eBunk,gBunk,aTk,cTk,aTks,eTk,rTk,aAsk,cAsk,rowT,rtS,List.length_map];refine Fin.val rfl ?_;(try simp only [AV.le,AV.leL]))
    all_goals first|rfl|(simp;done)|exact ⟨_,_,rfl⟩
def srTks:List AV→Prop × AV
  |[.agg [.v (.int .i64 a0),.v (.int .i64 a1),.v (.int .i64 a2),.sl a3,.v (.bool a4)],.sl l]=>(a3=(a3.map dInt).map eInt∧l=(l.map dBunk).map eBunk∧(l.map dBunk).length≤100∧((⟨a0,a1,a2,(a3.map dInt),a4⟩:Ask)).sexes.length=(l.map dBunk).length,aTks (slTk ((⟨a0,a1,a2,(a3.map dInt),a4⟩:Ask)) (l.map dBunk) (l.map dBunk).length))
  |_=>(False,.junk)
theorem erTks {A:Frm→Prop}:EntryOK A Try.prog 75 (valE false srTks):=valE_ok fun vs hv h=>by
  clear hv
  unfold srTks at h ⊢
  split at h
  · rename_i a0 a1 a2 a3 a4 l;obtain ⟨q0,q1,k0,k1⟩:=h
    refine ⟨by first|trivial|(simp [AV.plain,AV.plainL,aI,aB,aInts,aBunks,aTks,aBunk,aTk,cTk];done)|(repeat' split) <;> simp [AV.plain,AV.plainL,aI,aB,aInts,aBunks,aTks,aBunk,aTk,cTk],fun h=>absurd h (by decide), ?_⟩
    have:=rTks_fn ((⟨a0,a1,a2,(a3.map dInt),a4⟩:Ask)) (l.map dBunk) k0 k1
    simp only [aAsk,aB,aBunks,aI,aInts,cAsk,← q0,← q1] at this
    first|exact this|(simp only [aAsk,aB,aBunks,aI,aInts,cAsk,← q0,← q1];exact this)
  · exact h.elim
end Go.Sym.B
namespace Go.Sym.B
open Go Go.Sym Go.Proofs Go.Sym.C
theorem anyNo {α:Type} [Inhabited α] {l:List α} {p:α→Bool} (h:∀ j,j < l.length→p (l.getD j default)=false):l.any p=false:=List.any_eq_false.2 fun x hx=>by
  obtain ⟨j,hj,rfl⟩:=List.mem_iff_getElem.1 hx
  have:=h j hj
  rw [show l.getD j default=l[j] by simp [List.getD_eq_getElem?_getD,hj]] at this
  rw [this];simp
theorem anyHit {α:Type} [Inhabited α] {l:List α} {p:α→Bool} {k:Nat} (hk:k < l.length) (h:p (l.getD k default)=true):l.any p=true:=List.any_eq_true.2 ⟨_,gMem hk,h⟩
def rsA (c:Chart) (t:Tk) (l:List Tk) (T:List (Nat × AV)):St:={ t:=asg (T++[(2,aTks l),(4,.ptr 1 0),(6,aI 0)]),h:=hasg [(0,.cells (cChart c)),(1,.cells (cTk t))],n:=2 }
def tbE12_rsold:=vj @ty3 (vj @ty26 (vj @ty28 (vj @ty34 (vj @ty49 (vj @ty81 (vj @ti3.eq_1 (vj @ti26.eq_1 (vj @ti28.eq_1 (vj @ti34.eq_1 (vj @ti49.eq_1 @ti81.eq_1))))))))))
def xbE12_1:=vj @aI.eq_1 (@aB.eq_1)
theorem rsold_fn (c:Chart) (t:Tk) (l:List Tk) (hc:CarOk c) (hl:l.length≤100):FnV Try.prog 116 [aChart c,aTk t,aTks l] (aI (ticketE c t l)):=by
  have env:Env (fun _=>True) Try.prog tyB (tab [(81,valE true sbetw),(73,valE true sisBunk),(137,valE true srway),(138,valE true srmeet),(139,valE true srtog)]):=mkEnv ⟨ebetw,eisBunk,erway,ermeet,ertog,trivial⟩
  refine Fn.of (A:=fun _=>True) (n0:=0) (D:=noD) (Fn0 Try.func116 rfl (fun vs w=>by kernel_rfl) (by kernel_rfl)) (by simp) (by simp [AV.ids,AV.idsL,aChart,cChart,aTk,cTk,aTks]) (fun i o h=>by cases h) (fun _ _ _ _=>trivial) noD_ok ?_
  have et:(⟨t.party,t.sex,t.cab,t.bed,t.frm,t.to,t.dog⟩:Tk)=t:=rfl
  have ec:(⟨c.cabins,c.secs,c.sold⟩:Chart)=c:=rfl
  have eb:(⟨t.cab,t.bed⟩:Bunk)=⟨t.cab,t.bed⟩:=rfl
  have hc':=hc
  cases h1:inB t.party 1 99
  · rw [show ticketE c t l=1 by simp [ticketE,h1]]
    repeat' (first|(apply nx;with_reducible constructor)|refine uq (by decide) ?_|((first|refine vx env fun Q hQ=>?_|refine vz fun Q hQ=>?_);simp only [vkt,seval,tbE12_rsold,xbE12_1,aBunk,aTk,cTk,aTks,eTk,gTk,mTk,mCabin,aChart,cChart,rsA,sbetw,sisBunk,srway,srmeet,srtog,List.length_map,h1,et,ec];(try simp only [ite_and]);(repeat' (first|with_reducible assumption|refine And.intro ?_ ?_|intro hp));all_goals (first|(refine hQ _ ?_;clear hQ Q)|(refine hQ _ (fun h=>?_) (fun h=>?_) <;> clear hQ Q <;> (try simp only [vki,reduceCtorEq] at h))|(refine vq ?_;kernel_rfl)|omega|assumption|with_reducible rfl|skip)))
    (simp only [vrt,Try.results116,vkt,seval,tbE12_rsold,xbE12_1,aBunk,aTk,cTk,aTks,eTk,gTk,mTk,mCabin,aChart,cChart,rsA,sbetw,sisBunk,srway,srmeet,srtog,List.length_map];refine Fin.val rfl ?_;(try simp only [AV.le,AV.leL]))
    all_goals first|rfl|(simp;done)
  cases h2:inB t.sex 1 2
  · rw [show ticketE c t l=8 by simp [ticketE,h1,h2]]
    repeat' (first|(apply nx;with_reducible constructor)|refine uq (by decide) ?_|((first|refine vx env fun Q hQ=>?_|refine vz fun Q hQ=>?_);simp only [vkt,seval,tbE12_rsold,xbE12_1,aBunk,aTk,cTk,aTks,eTk,gTk,mTk,mCabin,aChart,cChart,rsA,sbetw,sisBunk,srway,srmeet,srtog,List.length_map,h1,h2,et,ec];(try simp only [ite_and]);(repeat' (first|with_reducible assumption|refine And.intro ?_ ?_|intro hp));all_goals (first|(refine hQ _ ?_;clear hQ Q)|(refine hQ _ (fun h=>?_) (fun h=>?_) <;> clear hQ Q <;> (try simp only [vki,reduceCtorEq] at h))|(refine vq ?_;kernel_rfl)|omega|assumption|with_reducible rfl|skip)))
    (simp only [vrt,Try.results116,vkt,seval,tbE12_rsold,xbE12_1,aBunk,aTk,cTk,aTks,eTk,gTk,mTk,mCabin,aChart,cChart,rsA,sbetw,sisBunk,srway,srmeet,srtog,List.length_map];refine Fin.val rfl ?_;(try simp only [AV.le,AV.leL]))
    all_goals first|rfl|(simp;done)
  cases h3:isBunkB c.cabins t.cab t.bed
  · rw [show ticketE c t l=3 by simp [ticketE,h1,h2,h3]]
    repeat' (first|(apply nx;with_reducible constructor)|refine uq (by decide) ?_|((first|refine vx env fun Q hQ=>?_|refine vz fun Q hQ=>?_);simp only [vkt,seval,tbE12_rsold,xbE12_1,aBunk,aTk,cTk,aTks,eTk,gTk,mTk,mCabin,aChart,cChart,rsA,sbetw,sisBunk,srway,srmeet,srtog,List.length_map,h1,h2,h3,et,ec];(try simp only [ite_and]);(repeat' (first|with_reducible assumption|refine And.intro ?_ ?_|intro hp));all_goals (first|(refine hQ _ ?_;clear hQ Q)|(refine hQ _ (fun h=>?_) (fun h=>?_) <;> clear hQ Q <;> (try simp only [vki,reduceCtorEq] at h))|(refine vq ?_;kernel_rfl)|omega|assumption|with_reducible rfl|skip)))
    (simp only [vrt,Try.results116,vkt,seval,tbE12_rsold,xbE12_1,aBunk,aTk,cTk,aTks,eTk,gTk,mTk,mCabin,aChart,cChart,rsA,sbetw,sisBunk,srway,srmeet,srtog,List.length_map];refine Fin.val rfl ?_;(try simp only [AV.le,AV.leL]))
    all_goals first|rfl|(simp;done)
  have hr:ticketE c t l=if wayE c.secs t.frm t.to ≠ 0 then wayE c.secs t.frm t.to else besideE t l:=by unfold ticketE;simp [h1,h2,h3]
  rw [hr]
  obtain ⟨w,hw⟩:∃ w,wayE c.secs t.frm t.to=w:=⟨_,rfl⟩
  rw [hw]
  by_cases h5:w=0
  · rw [if_neg (fun h=>h h5)]
    rw [h5] at hw
    unfold besideE
    repeat' (first|(apply nx;with_reducible constructor)|refine uq (by decide) ?_|((first|refine vx env fun Q hQ=>?_|refine vz fun Q hQ=>?_);simp only [vkt,seval,tbE12_rsold,xbE12_1,aBunk,aTk,cTk,aTks,eTk,gTk,mTk,mCabin,aChart,cChart,rsA,sbetw,sisBunk,srway,srmeet,srtog,List.length_map,h1,h2,h3,hw,et,ec,decide_true];(try simp only [ite_and]);(repeat' (first|with_reducible assumption|refine And.intro ?_ ?_|intro hp));all_goals (first|(refine hQ _ ?_;clear hQ Q)|(refine hQ _ (fun h=>?_) (fun h=>?_) <;> clear hQ Q <;> (try simp only [vki,reduceCtorEq] at h))|(refine vq ?_;kernel_rfl)|omega|assumption|with_reducible rfl|skip)))
    refine sym_loop (fun k:{ k:Nat // k≤l.length∧∀ j,j < k→twiceB t (l.getD j default)=false }=>rsA c t l [(8,aI k.1)]) (fun k=>l.length - k.1) ⟨0,Nat.zero_le _,fun j h=>absurd h (Nat.not_lt_zero _)⟩ ?_ fun ⟨k,hk,hno⟩=>?_
    · simp only [rsA,List.cons_append,List.nil_append]
      (refine Le.ok some [] ?_;constructor;all_goals (try simp only [vle,vkt,seval,tbE12_rsold,xbE12_1,aBunk,aTk,cTk,aTks,eTk,gTk,mTk,mCabin,aChart,cChart,rsA,sbetw,sisBunk,srway,srmeet,srtog,List.length_map]))
      all_goals first|rfl|(simp;done)
    simp only at hk hno ⊢
    simp only [rsA,List.cons_append,List.nil_append]
    by_cases hkl:k < l.length
    · have d1:decide ((k:Int) < (l.length:Int))=true:=decide_eq_true (by omega)
      have e9:IntKind.wrap .i64 ((k:Int)+1)=((k+1:Nat):Int):=by rw [wrap64 (by omega) (by omega)];rfl
      have k0:((k:Int)).toNat=k:=rfl
      obtain ⟨x,hx⟩:∃ x,l.getD k default=x:=⟨_,rfl⟩
      have ex:(⟨x.party,x.sex,x.cab,x.bed,x.frm,x.to,x.dog⟩:Tk)=x:=rfl
      have hT:twiceB t x=(decide (x.cab=t.cab) && decide (x.bed=t.bed) && meetB x t):=rfl
      cases q1:(decide (x.cab=t.cab) && decide (x.bed=t.bed)) with
      |false =>
        rw [q1,Bool.false_and] at hT
        repeat' (first|(apply nx;with_reducible constructor)|refine uq (by decide) ?_|((first|refine vx env fun Q hQ=>?_|refine vz fun Q hQ=>?_);simp only [vkt,seval,tbE12_rsold,xbE12_1,aBunk,aTk,cTk,aTks,eTk,gTk,mTk,mCabin,aChart,cChart,rsA,sbetw,sisBunk,srway,srmeet,srtog,List.length_map,d1,e9,k0,hkl,hx,q1,et,ex];(try simp only [ite_and]);(repeat' (first|with_reducible assumption|refine And.intro ?_ ?_|intro hp));all_goals (first|(refine hQ _ ?_;clear hQ Q)|(refine hQ _ (fun h=>?_) (fun h=>?_) <;> clear hQ Q <;> (try simp only [vki,reduceCtorEq] at h))|(refine vq ?_;kernel_rfl)|omega|assumption|with_reducible rfl|skip)))
        refine ⟨⟨k+1,hkl,fun j hj=>?_⟩,by show l.length - (k+1) < l.length - k;omega, ?_⟩
        · rcases Nat.lt_or_eq_of_le (Nat.le_of_lt_succ hj) with h|h
          · exact hno j h
          · rw [h,hx];exact hT
        simp only [rsA,List.cons_append,List.nil_append]
        (refine Le.ok some [] ?_;constructor;all_goals (try simp only [vle,vkt,seval,tbE12_rsold,xbE12_1,aBunk,aTk,cTk,aTks,eTk,gTk,mTk,mCabin,aChart,cChart,rsA,sbetw,sisBunk,srway,srmeet,srtog,List.length_map]))
        all_goals first|rfl|(simp;done)
      |true =>
        cases q2:meetB x t with
        |false =>
          rw [q1,q2,Bool.true_and] at hT
          repeat' (first|(apply nx;with_reducible constructor)|refine uq (by decide) ?_|((first|refine vx env fun Q hQ=>?_|refine vz fun Q hQ=>?_);simp only [vkt,seval,tbE12_rsold,xbE12_1,aBunk,aTk,cTk,aTks,eTk,gTk,mTk,mCabin,aChart,cChart,rsA,sbetw,sisBunk,srway,srmeet,srtog,List.length_map,d1,e9,k0,hkl,hx,q1,q2,et,ex];(try simp only [ite_and]);(repeat' (first|with_reducible assumption|refine And.intro ?_ ?_|intro hp));all_goals (first|(refine hQ _ ?_;clear hQ Q)|(refine hQ _ (fun h=>?_) (fun h=>?_) <;> clear hQ Q <;> (try simp only [vki,reduceCtorEq] at h))|(refine vq ?_;kernel_rfl)|omega|assumption|with_reducible rfl|skip)))
          refine ⟨⟨k+1,hkl,fun j hj=>?_⟩,by show l.length - (k+1) < l.length - k;omega, ?_⟩
          · rcases Nat.lt_or_eq_of_le (Nat.le_of_lt_succ hj) with h|h
            · exact hno j h
            · rw [h,hx];exact hT
          simp only [rsA,List.cons_append,List.nil_append]
          (refine Le.ok some [] ?_;constructor;all_goals (try simp only [vle,vkt,seval,tbE12_rsold,xbE12_1,aBunk,aTk,cTk,aTks,eTk,gTk,mTk,mCabin,aChart,cChart,rsA,sbetw,sisBunk,srway,srmeet,srtog,List.length_map]))
          all_goals first|rfl|(simp;done)
        |true =>
          rw [q1,q2,Bool.true_and] at hT
          rw [if_pos (anyHit hkl (by rw [hx];exact hT))]
          repeat' (first|(apply nx;with_reducible constructor)|refine uq (by decide) ?_|((first|refine vx env fun Q hQ=>?_|refine vz fun Q hQ=>?_);simp only [vkt,seval,tbE12_rsold,xbE12_1,aBunk,aTk,cTk,aTks,eTk,gTk,mTk,mCabin,aChart,cChart,rsA,sbetw,sisBunk,srway,srmeet,srtog,List.length_map,d1,e9,k0,hkl,hx,q1,q2,et,ex];(try simp only [ite_and]);(repeat' (first|with_reducible assumption|refine And.intro ?_ ?_|intro hp));all_goals (first|(refine hQ _ ?_;clear hQ Q)|(refine hQ _ (fun h=>?_) (fun h=>?_) <;> clear hQ Q <;> (try simp only [vki,reduceCtorEq] at h))|(refine vq ?_;kernel_rfl)|omega|assumption|with_reducible rfl|skip)))
          (simp only [vrt,Try.results116,vkt,seval,tbE12_rsold,xbE12_1,aBunk,aTk,cTk,aTks,eTk,gTk,mTk,mCabin,aChart,cChart,rsA,sbetw,sisBunk,srway,srmeet,srtog,List.length_map];refine Fin.val rfl ?_;(try simp only [AV.le,AV.leL]))
          all_goals first|rfl|(simp;done)
    · have d1:decide ((k:Int) < (l.length:Int))=false:=decide_eq_false (by omega)
      obtain rfl:k=l.length:=by omega
      rw [if_neg (by rw [anyNo hno];decide)]
      repeat' (first|(apply nx;with_reducible constructor)|refine uq (by decide) ?_|((first|refine vx env fun Q hQ=>?_|refine vz fun Q hQ=>?_);simp only [vkt,seval,tbE12_rsold,xbE12_1,aBunk,aTk,cTk,aTks,eTk,gTk,mTk,mCabin,aChart,cChart,rsA,sbetw,sisBunk,srway,srmeet,srtog,List.length_map,d1];(try simp only [ite_and]);(repeat' (first|with_reducible assumption|refine And.intro ?_ ?_|intro hp));all_goals (first|(refine hQ _ ?_;clear hQ Q)|(refine hQ _ (fun h=>?_) (fun h=>?_) <;> clear hQ Q <;> (try simp only [vki,reduceCtorEq] at h))|(refine vq ?_;kernel_rfl)|omega|assumption|with_reducible rfl|skip)))
      refine sym_loop (fun k:{ k:Nat // k≤l.length∧∀ j,j < k→(!togB (l.getD j default) t)=false }=>rsA c t l [(9,aI k.1)]) (fun k=>l.length - k.1) ⟨0,Nat.zero_le _,fun j h=>absurd h (Nat.not_lt_zero _)⟩ ?_ fun ⟨k,hk,hno⟩=>?_
      · simp only [rsA,List.cons_append,List.nil_append]
        (refine Le.ok some [] ?_;constructor;all_goals (try simp only [vle,vkt,seval,tbE12_rsold,xbE12_1,aBunk,aTk,cTk,aTks,eTk,gTk,mTk,mCabin,aChart,cChart,rsA,sbetw,sisBunk,srway,srmeet,srtog,List.length_map]))
        all_goals first|rfl|(simp;done)
      simp only at hk hno ⊢
      simp only [rsA,List.cons_append,List.nil_append]
      by_cases hkl:k < l.length
      · have d1:decide ((k:Int) < (l.length:Int))=true:=decide_eq_true (by omega)
        have e9:IntKind.wrap .i64 ((k:Int)+1)=((k+1:Nat):Int):=by rw [wrap64 (by omega) (by omega)];rfl
        have k0:((k:Int)).toNat=k:=rfl
        obtain ⟨x,hx⟩:∃ x,l.getD k default=x:=⟨_,rfl⟩
        have ex:(⟨x.party,x.sex,x.cab,x.bed,x.frm,x.to,x.dog⟩:Tk)=x:=rfl
        cases q2:togB x t with
        |true =>
          repeat' (first|(apply nx;with_reducible constructor)|refine uq (by decide) ?_|((first|refine vx env fun Q hQ=>?_|refine vz fun Q hQ=>?_);simp only [vkt,seval,tbE12_rsold,xbE12_1,aBunk,aTk,cTk,aTks,eTk,gTk,mTk,mCabin,aChart,cChart,rsA,sbetw,sisBunk,srway,srmeet,srtog,List.length_map,d1,e9,k0,hkl,hx,q2,et,ex];(try simp only [ite_and]);(repeat' (first|with_reducible assumption|refine And.intro ?_ ?_|intro hp));all_goals (first|(refine hQ _ ?_;clear hQ Q)|(refine hQ _ (fun h=>?_) (fun h=>?_) <;> clear hQ Q <;> (try simp only [vki,reduceCtorEq] at h))|(refine vq ?_;kernel_rfl)|omega|assumption|with_reducible rfl|skip)))
          refine ⟨⟨k+1,hkl,fun j hj=>?_⟩,by show l.length - (k+1) < l.length - k;omega, ?_⟩
          · rcases Nat.lt_or_eq_of_le (Nat.le_of_lt_succ hj) with h|h
            · exact hno j h
            · rw [h,hx,q2];rfl
          simp only [rsA,List.cons_append,List.nil_append]
          (refine Le.ok some [] ?_;constructor;all_goals (try simp only [vle,vkt,seval,tbE12_rsold,xbE12_1,aBunk,aTk,cTk,aTks,eTk,gTk,mTk,mCabin,aChart,cChart,rsA,sbetw,sisBunk,srway,srmeet,srtog,List.length_map]))
          all_goals first|rfl|(simp;done)
        |false =>
          rw [if_pos (anyHit (p:=fun x=>!togB x t) hkl (by rw [hx,q2];rfl))]
          repeat' (first|(apply nx;with_reducible constructor)|refine uq (by decide) ?_|((first|refine vx env fun Q hQ=>?_|refine vz fun Q hQ=>?_);simp only [vkt,seval,tbE12_rsold,xbE12_1,aBunk,aTk,cTk,aTks,eTk,gTk,mTk,mCabin,aChart,cChart,rsA,sbetw,sisBunk,srway,srmeet,srtog,List.length_map,d1,e9,k0,hkl,hx,q2,et,ex];(try simp only [ite_and]);(repeat' (first|with_reducible assumption|refine And.intro ?_ ?_|intro hp));all_goals (first|(refine hQ _ ?_;clear hQ Q)|(refine hQ _ (fun h=>?_) (fun h=>?_) <;> clear hQ Q <;> (try simp only [vki,reduceCtorEq] at h))|(refine vq ?_;kernel_rfl)|omega|assumption|with_reducible rfl|skip)))
          (simp only [vrt,Try.results116,vkt,seval,tbE12_rsold,xbE12_1,aBunk,aTk,cTk,aTks,eTk,gTk,mTk,mCabin,aChart,cChart,rsA,sbetw,sisBunk,srway,srmeet,srtog,List.length_map];refine Fin.val rfl ?_;(try simp only [AV.le,AV.leL]))
          all_goals first|rfl|(simp;done)
      · have d1:decide ((k:Int) < (l.length:Int))=false:=decide_eq_false (by omega)
        obtain rfl:k=l.length:=by omega
        rw [if_neg (by rw [anyNo (p:=fun x=>!togB x t) hno];decide)]
        repeat' (first|(apply nx;with_reducible constructor)|refine uq (by decide) ?_|((first|refine vx env fun Q hQ=>?_|refine vz fun Q hQ=>?_);simp only [vkt,seval,tbE12_rsold,xbE12_1,aBunk,aTk,cTk,aTks,eTk,gTk,mTk,mCabin,aChart,cChart,rsA,sbetw,sisBunk,srway,srmeet,srtog,List.length_map,d1];(try simp only [ite_and]);(repeat' (first|with_reducible assumption|refine And.intro ?_ ?_|intro hp));all_goals (first|(refine hQ _ ?_;clear hQ Q)|(refine hQ _ (fun h=>?_) (fun h=>?_) <;> clear hQ Q <;> (try simp only [vki,reduceCtorEq] at h))|(refine vq ?_;kernel_rfl)|omega|assumption|with_reducible rfl|skip)))
        (simp only [vrt,Try.results116,vkt,seval,tbE12_rsold,xbE12_1,aBunk,aTk,cTk,aTks,eTk,gTk,mTk,mCabin,aChart,cChart,rsA,sbetw,sisBunk,srway,srmeet,srtog,List.length_map];refine Fin.val rfl ?_;(try simp only [AV.le,AV.leL]))
        all_goals first|rfl|(simp;done)
  · rw [if_pos h5]
    have d5:decide (w=0)=false:=decide_eq_false h5
    repeat' (first|(apply nx;with_reducible constructor)|refine uq (by decide) ?_|((first|refine vx env fun Q hQ=>?_|refine vz fun Q hQ=>?_);simp only [vkt,seval,tbE12_rsold,xbE12_1,aBunk,aTk,cTk,aTks,eTk,gTk,mTk,mCabin,aChart,cChart,rsA,sbetw,sisBunk,srway,srmeet,srtog,List.length_map,h1,h2,h3,hw,d5,et,ec];(try simp only [ite_and]);(repeat' (first|with_reducible assumption|refine And.intro ?_ ?_|intro hp));all_goals (first|(refine hQ _ ?_;clear hQ Q)|(refine hQ _ (fun h=>?_) (fun h=>?_) <;> clear hQ Q <;> (try simp only [vki,reduceCtorEq] at h))|(refine vq ?_;kernel_rfl)|omega|assumption|with_reducible rfl|skip)))
    (simp only [vrt,Try.results116,vkt,seval,tbE12_rsold,xbE12_1,aBunk,aTk,cTk,aTks,eTk,gTk,mTk,mCabin,aChart,cChart,rsA,sbetw,sisBunk,srway,srmeet,srtog,List.length_map];refine Fin.val rfl ?_;(try simp only [AV.le,AV.leL]))
    all_goals first|rfl|(simp;done)
def srsold:List AV→Prop × AV
  |[.agg [.sl c0,.v (.int .i64 c1),.sl c2],.agg [.v (.int .i64 t0),.v (.int .i64 t1),.v (.int .i64 t2),.v (.int .i64 t3),.v (.int .i64 t4),.v (.int .i64 t5),.v (.bool t6)],.sl l]=>(c0=(c0.map dCabin).map eCabin∧c2=(c2.map dTk).map eTk∧l=(l.map dTk).map eTk∧CarOk ((⟨(c0.map dCabin),c1,(c2.map dTk)⟩:Chart))∧(l.map dTk).length≤100,aI (ticketE ((⟨(c0.map dCabin),c1,(c2.map dTk)⟩:Chart)) (⟨t0,t1,t2,t3,t4,t5,t6⟩:Tk) (l.map dTk)))
  |_=>(False,.junk)
theorem ersold {A:Frm→Prop}:EntryOK A Try.prog 116 (valE true srsold):=valE_ok fun vs hv h=>by
  clear hv
  unfold srsold at h ⊢
  split at h
  · rename_i c0 c1 c2 t0 t1 t2 t3 t4 t5 t6 l;obtain ⟨q0,q1,q2,k0,k1⟩:=h
    refine ⟨by first|trivial|(simp [AV.plain,AV.plainL,aI,aB,aInts,aBunks,aTks,aBunk,aTk,cTk];done)|(repeat' split) <;> simp [AV.plain,AV.plainL,aI,aB,aInts,aBunks,aTks,aBunk,aTk,cTk],fun _=>(by simp [AV.flat,AV.flatL,aI,aB]), ?_⟩
    have:=rsold_fn ((⟨(c0.map dCabin),c1,(c2.map dTk)⟩:Chart)) (⟨t0,t1,t2,t3,t4,t5,t6⟩:Tk) (l.map dTk) k0 k1
    simp only [aB,aCabins,aChart,aI,aTk,aTks,cChart,cTk,← q0,← q1,← q2] at this
    first|exact this|(simp only [aB,aCabins,aChart,aI,aTk,aTks,cChart,cTk,← q0,← q1,← q2];exact this)
  · exact h.elim
def rkS (c:Chart) (l:List Tk) (k:Nat):St:={ t:=asg [(1,aTks l),(2,.ptr 0 0),(4,aI 0),(5,aI k)],h:=hasg [(0,.cells (cChart c))],n:=1 }
def tbE12_rtks:=vj @ty3 (vj @ty26 (vj @ty28 (vj @ty34 (vj @ty81 (vj @ti3.eq_1 (vj @ti26.eq_1 (vj @ti28.eq_1 (vj @ti34.eq_1 @ti81.eq_1))))))))
def xbE12_2:=vj @aI.eq_1 (@aB.eq_1)
theorem rtks_fn (c:Chart) (l:List Tk) (hc:CarOk c) (hl:l.length≤100):FnV Try.prog 74 [aChart c,aTks l] (aI (ticketsE c l)):=by
  have env:Env (fun _=>True) Try.prog tyB (tab [(116,valE true srsold)]):=mkEnv ⟨ersold,trivial⟩
  refine Fn.of (A:=fun _=>True) (n0:=0) (D:=noD) (Fn0 Try.func74 rfl (fun vs w=>by kernel_rfl) (by kernel_rfl)) (by simp) (by simp [AV.ids,AV.idsL,aChart,cChart,aTks]) (fun i o h=>by cases h) (fun _ _ _ _=>trivial) noD_ok ?_
  have ec:(⟨c.cabins,c.secs,c.sold⟩:Chart)=c:=rfl
  repeat' (first|(apply nx;with_reducible constructor)|refine uq (by decide) ?_|((first|refine vx env fun Q hQ=>?_|refine vz fun Q hQ=>?_);simp only [vkt,seval,tbE12_rtks,xbE12_2,aTk,cTk,aTks,eTk,gTk,rTk,mTk,mCabin,aChart,cChart,rkS,srsold,List.length_map];(try simp only [ite_and]);(repeat' (first|with_reducible assumption|refine And.intro ?_ ?_|intro hp));all_goals (first|(refine hQ _ ?_;clear hQ Q)|(refine hQ _ (fun h=>?_) (fun h=>?_) <;> clear hQ Q <;> (try simp only [vki,reduceCtorEq] at h))|(refine vq ?_;kernel_rfl)|omega|assumption|with_reducible rfl|skip)))
  refine sym_loop (fun k:{ k:Nat // k≤l.length∧∀ j,j < k→ticketE c (l.getD j default) (l.take j)=0 }=>rkS c l k.1) (fun k=>l.length - k.1) ⟨0,Nat.zero_le _,fun j h=>absurd h (Nat.not_lt_zero _)⟩ ?_ fun ⟨k,hk,hno⟩=>?_
  · (refine Le.ok some [] ?_;constructor;all_goals (try simp only [vle,vkt,seval,tbE12_rtks,xbE12_2,aTk,cTk,aTks,eTk,gTk,rTk,mTk,mCabin,aChart,cChart,rkS,srsold,List.length_map]))
    all_goals first|rfl|(simp;done)
  simp only at hk hno ⊢
  simp only [rkS]
  by_cases hlt:k < l.length
  · have d1:decide ((k:Int) < (l.length:Int))=true:=decide_eq_true (by omega)
    have e9:IntKind.wrap .i64 ((k:Int)+1)=((k+1:Nat):Int):=by rw [wrap64 (by omega) (by omega)];rfl
    have k0:((k:Int)).toNat=k:=rfl
    obtain ⟨x,hx⟩:∃ x,l.getD k default=x:=⟨_,rfl⟩
    have ex:(⟨x.party,x.sex,x.cab,x.bed,x.frm,x.to,x.dog⟩:Tk)=x:=rfl
    have tk:List.take k (l.map eTk)=(l.take k).map eTk:=List.map_take.symm
    have t100:(l.take k).length≤100:=by rw [List.length_take];omega
    have hkl:k≤l.length:=hk
    have hg:=rngD (f:=fun i=>ticketE c (l.getD i default) (l.take i)) hlt
    obtain ⟨e,he⟩:∃ e,ticketE c x (l.take k)=e:=⟨_,rfl⟩
    by_cases h2:e=0
    · rw [h2] at he
      repeat' (first|(apply nx;with_reducible constructor)|refine uq (by decide) ?_|((first|refine vx env fun Q hQ=>?_|refine vz fun Q hQ=>?_);simp only [vkt,seval,tbE12_rtks,xbE12_2,aTk,cTk,aTks,eTk,gTk,rTk,mTk,mCabin,aChart,cChart,rkS,srsold,List.length_map,d1,k0,hlt,hkl,hx,ex,ec,tk,he,e9,decide_true];(try simp only [ite_and]);(repeat' (first|with_reducible assumption|refine And.intro ?_ ?_|intro hp));all_goals (first|(refine hQ _ ?_;clear hQ Q)|(refine hQ _ (fun h=>?_) (fun h=>?_) <;> clear hQ Q <;> (try simp only [vki,reduceCtorEq] at h))|(refine vq ?_;kernel_rfl)|omega|assumption|with_reducible rfl|skip)))
      refine ⟨⟨k+1,hlt,fun j hj=>?_⟩,by show l.length - (k+1) < l.length - k;omega, ?_⟩
      · rcases Nat.lt_or_eq_of_le (Nat.le_of_lt_succ hj) with h3|h3
        · exact hno j h3
        · rw [h3,hx];exact he
      · (refine Le.ok some [] ?_;constructor;all_goals (try simp only [vle,vkt,seval,tbE12_rtks,xbE12_2,aTk,cTk,aTks,eTk,gTk,rTk,mTk,mCabin,aChart,cChart,rkS,srsold,List.length_map]))
        all_goals first|rfl|(simp;done)
    · have hf:ticketsE c l=e:=by
        unfold ticketsE
        rw [firstE_take (k:=k) (fun j hj=>by rw [rngD (by omega)];exact hno j hj) (by simpa using hlt) (by rw [hg,hx,he];exact h2),hg,hx,he]
      rw [hf]
      have d2:decide (e=0)=false:=decide_eq_false h2
      repeat' (first|(apply nx;with_reducible constructor)|refine uq (by decide) ?_|((first|refine vx env fun Q hQ=>?_|refine vz fun Q hQ=>?_);simp only [vkt,seval,tbE12_rtks,xbE12_2,aTk,cTk,aTks,eTk,gTk,rTk,mTk,mCabin,aChart,cChart,rkS,srsold,List.length_map,d1,k0,hlt,hkl,hx,ex,ec,tk,he,d2];(try simp only [ite_and]);(repeat' (first|with_reducible assumption|refine And.intro ?_ ?_|intro hp));all_goals (first|(refine hQ _ ?_;clear hQ Q)|(refine hQ _ (fun h=>?_) (fun h=>?_) <;> clear hQ Q <;> (try simp only [vki,reduceCtorEq] at h))|(refine vq ?_;kernel_rfl)|omega|assumption|with_reducible rfl|skip)))
      (simp only [vrt,Try.results74,vkt,seval,tbE12_rtks,xbE12_2,aTk,cTk,aTks,eTk,gTk,rTk,mTk,mCabin,aChart,cChart,rkS,srsold,List.length_map];refine Fin.val rfl ?_;(try simp only [AV.le,AV.leL]))
      all_goals first|rfl|(simp;done)
  · have d1:decide ((k:Int) < (l.length:Int))=false:=decide_eq_false (by omega)
    have hke:k=l.length:=by omega
    subst hke
    rw [show ticketsE c l=0 from firstE_all fun j hj=>by
      have hj':j < l.length:=by simpa using hj
      rw [rngD hj'];exact hno j hj']
    repeat' (first|(apply nx;with_reducible constructor)|refine uq (by decide) ?_|((first|refine vx env fun Q hQ=>?_|refine vz fun Q hQ=>?_);simp only [vkt,seval,tbE12_rtks,xbE12_2,aTk,cTk,aTks,eTk,gTk,rTk,mTk,mCabin,aChart,cChart,rkS,srsold,List.length_map,d1];(try simp only [ite_and]);(repeat' (first|with_reducible assumption|refine And.intro ?_ ?_|intro hp));all_goals (first|(refine hQ _ ?_;clear hQ Q)|(refine hQ _ (fun h=>?_) (fun h=>?_) <;> clear hQ Q <;> (try simp only [vki,reduceCtorEq] at h))|(refine vq ?_;kernel_rfl)|omega|assumption|with_reducible rfl|skip)))
    (simp only [vrt,Try.results74,vkt,seval,tbE12_rtks,xbE12_2,aTk,cTk,aTks,eTk,gTk,rTk,mTk,mCabin,aChart,cChart,rkS,srsold,List.length_map];refine Fin.val rfl ?_;(try simp only [AV.le,AV.leL]))
    all_goals first|rfl|(simp;done)
def srtks:List AV→Prop × AV
  |[.agg [.sl c0,.v (.int .i64 c1),.sl c2],.sl l]=>(c0=(c0.map dCabin).map eCabin∧c2=(c2.map dTk).map eTk∧l=(l.map dTk).map eTk∧CarOk ((⟨(c0.map dCabin),c1,(c2.map dTk)⟩:Chart))∧(l.map dTk).length≤100,aI (ticketsE ((⟨(c0.map dCabin),c1,(c2.map dTk)⟩:Chart)) (l.map dTk)))
  |_=>(False,.junk)
theorem ertks {A:Frm→Prop}:EntryOK A Try.prog 74 (valE true srtks):=valE_ok fun vs hv h=>by
  clear hv
  unfold srtks at h ⊢
  split at h
  · rename_i c0 c1 c2 l;obtain ⟨q0,q1,q2,k0,k1⟩:=h
    refine ⟨by first|trivial|(simp [AV.plain,AV.plainL,aI,aB,aInts,aBunks,aTks,aBunk,aTk,cTk];done)|(repeat' split) <;> simp [AV.plain,AV.plainL,aI,aB,aInts,aBunks,aTks,aBunk,aTk,cTk],fun _=>(by simp [AV.flat,AV.flatL,aI,aB]), ?_⟩
    have:=rtks_fn ((⟨(c0.map dCabin),c1,(c2.map dTk)⟩:Chart)) (l.map dTk) k0 k1
    simp only [aCabins,aChart,aI,aTks,cChart,← q0,← q1,← q2] at this
    first|exact this|(simp only [aCabins,aChart,aI,aTks,cChart,← q0,← q1,← q2];exact this)
  · exact h.elim
def isPlaceB (c:Chart) (a:Ask) (l:List Bunk):Bool:=decide (l.length=a.sexes.length) && l.all (fun b=>isBunkB c.cabins b.cab b.bed) && decide (ticketsE c (c.sold++slTk a l l.length)=0) && nearB c.cabins l
theorem isPlace_no {c:Chart} {a:Ask} {l:List Bunk} {k:Nat} (hk:k < l.length) (h:isBunkB c.cabins (l.getD k default).cab (l.getD k default).bed=false):isPlaceB c a l=false:=by
  have:l.all (fun b=>isBunkB c.cabins b.cab b.bed)=false:=by
    rw [List.all_eq_false]
    exact ⟨_,gMem hk,by rw [h];decide⟩
  unfold isPlaceB
  rw [this];simp
def ipS (c:Chart) (a:Ask) (l:List Bunk) (k:Nat):St:={ t:=asg [(2,aBunks l),(3,.ptr 0 0),(4,.ptr 1 0),(6,aB false),(7,aI k)],h:=hasg [(0,.cells (cChart c)),(1,.cells (cAsk a))],n:=2 }
def tbE12_isPlace:=vj @ty3 (vj @ty22 (vj @ty26 (vj @ty28 (vj @ty31 (vj @ty34 (vj @ty37 (vj @ty49 (vj @ty81 (vj @ti3.eq_1 (vj @ti22.eq_1 (vj @ti26.eq_1 (vj @ti28.eq_1 (vj @ti31.eq_1 (vj @ti34.eq_1 (vj @ti37.eq_1 (vj @ti49.eq_1 @ti81.eq_1))))))))))))))))
def xbE12_3:=vj @aI.eq_1 (vj @aB.eq_1 (@mInt))
theorem isPlace_fn (c:Chart) (a:Ask) (l:List Bunk) (hc:CarOk c) (hs:c.sold.length≤20) (ha:0 < a.sexes.length∧a.sexes.length≤20) (hl:l.length≤maxLen):FnV Try.prog 20 [aChart c,aAsk a,aBunks l] (aB (isPlaceB c a l)):=by
  have env:Env (fun _=>True) Try.prog tyB (tab [(73,valE true sisBunk),(75,valE false srTks),(74,valE true srtks),(76,valE true srnear)]):=mkEnv ⟨eisBunk,erTks,ertks,ernear,trivial⟩
  refine Fn.of (A:=fun _=>True) (n0:=0) (D:=noD) (Fn0 Try.func20 rfl (fun vs w=>by kernel_rfl) (by kernel_rfl)) (by simp) (by simp [AV.ids,AV.idsL,aChart,cChart,aAsk,cAsk,aBunks]) (fun i o h=>by cases h) (fun _ _ _ _=>trivial) noD_ok ?_
  have ec:(⟨c.cabins,c.secs,c.sold⟩:Chart)=c:=rfl
  have ea:(⟨a.party,a.frm,a.to,a.sexes,a.dog⟩:Ask)=a:=rfl
  have hmx:(100000:Nat)≤maxLen:=by decide
  by_cases hn:l.length=a.sexes.length
  · have d0:decide ((l.length:Int)=(a.sexes.length:Int))=true:=decide_eq_true (by omega)
    repeat' (first|(apply nx;with_reducible constructor)|refine uq (by decide) ?_|((first|refine vx env fun Q hQ=>?_|refine vz fun Q hQ=>?_);simp only [vkt,seval,tbE12_isPlace,xbE12_3,aBunk,aBunks,eBunk,gBunk,mBunk,aTks,eTk,rTk,mTk,mCabin,aChart,cChart,aAsk,cAsk,ipS,sisBunk,srTks,srtks,srnear,List.length_map,d0];(try simp only [ite_and]);(repeat' (first|with_reducible assumption|refine And.intro ?_ ?_|intro hp));all_goals (first|(refine hQ _ ?_;clear hQ Q)|(refine hQ _ (fun h=>?_) (fun h=>?_) <;> clear hQ Q <;> (try simp only [vki,reduceCtorEq] at h))|(refine vq ?_;kernel_rfl)|omega|assumption|with_reducible rfl|skip)))
    refine sym_loop (fun k:{ k:Nat // k≤l.length∧∀ j,j < k→isBunkB c.cabins (l.getD j default).cab (l.getD j default).bed=true }=>ipS c a l k.1) (fun k=>l.length - k.1) ⟨0,Nat.zero_le _,fun j h=>absurd h (Nat.not_lt_zero _)⟩ ?_ fun ⟨k,hk,hno⟩=>?_
    · (refine Le.ok some [] ?_;constructor;all_goals (try simp only [vle,vkt,seval,tbE12_isPlace,xbE12_3,aBunk,aBunks,eBunk,gBunk,mBunk,aTks,eTk,rTk,mTk,mCabin,aChart,cChart,aAsk,cAsk,ipS,sisBunk,srTks,srtks,srnear,List.length_map]))
      all_goals first|rfl|(simp;done)
    simp only at hk hno ⊢
    simp only [ipS]
    by_cases hlt:k < l.length
    · have d1:decide ((k:Int) < (l.length:Int))=true:=decide_eq_true (by omega)
      have e9:IntKind.wrap .i64 ((k:Int)+1)=((k+1:Nat):Int):=by rw [wrap64 (by omega) (by omega)];rfl
      have k0:((k:Int)).toNat=k:=rfl
      have hP:=isPlace_no (c:=c) (a:=a) hlt
      have hnk:=hno
      obtain ⟨x,hx⟩:∃ x,l.getD k default=x:=⟨_,rfl⟩
      rw [hx] at hP
      cases q:isBunkB c.cabins x.cab x.bed with
      |true =>
        repeat' (first|(apply nx;with_reducible constructor)|refine uq (by decide) ?_|((first|refine vx env fun Q hQ=>?_|refine vz fun Q hQ=>?_);simp only [vkt,seval,tbE12_isPlace,xbE12_3,aBunk,aBunks,eBunk,gBunk,mBunk,aTks,eTk,rTk,mTk,mCabin,aChart,cChart,aAsk,cAsk,ipS,sisBunk,srTks,srtks,srnear,List.length_map,d1,k0,hlt,hx,ec,q,e9];(try simp only [ite_and]);(repeat' (first|with_reducible assumption|refine And.intro ?_ ?_|intro hp));all_goals (first|(refine hQ _ ?_;clear hQ Q)|(refine hQ _ (fun h=>?_) (fun h=>?_) <;> clear hQ Q <;> (try simp only [vki,reduceCtorEq] at h))|(refine vq ?_;kernel_rfl)|omega|assumption|with_reducible rfl|skip)))
        refine ⟨⟨k+1,hlt,fun j hj=>?_⟩,by show l.length - (k+1) < l.length - k;omega, ?_⟩
        · rcases Nat.lt_or_eq_of_le (Nat.le_of_lt_succ hj) with h3|h3
          · exact hno j h3
          · rw [h3,hx];exact q
        · (refine Le.ok some [] ?_;constructor;all_goals (try simp only [vle,vkt,seval,tbE12_isPlace,xbE12_3,aBunk,aBunks,eBunk,gBunk,mBunk,aTks,eTk,rTk,mTk,mCabin,aChart,cChart,aAsk,cAsk,ipS,sisBunk,srTks,srtks,srnear,List.length_map]))
          all_goals first|rfl|(simp;done)
      |false =>
        rw [hP q]
        repeat' (first|(apply nx;with_reducible constructor)|refine uq (by decide) ?_|((first|refine vx env fun Q hQ=>?_|refine vz fun Q hQ=>?_);simp only [vkt,seval,tbE12_isPlace,xbE12_3,aBunk,aBunks,eBunk,gBunk,mBunk,aTks,eTk,rTk,mTk,mCabin,aChart,cChart,aAsk,cAsk,ipS,sisBunk,srTks,srtks,srnear,List.length_map,d1,k0,hlt,hx,ec,q];(try simp only [ite_and]);(repeat' (first|with_reducible assumption|refine And.intro ?_ ?_|intro hp));all_goals (first|(refine hQ _ ?_;clear hQ Q)|(refine hQ _ (fun h=>?_) (fun h=>?_) <;> clear hQ Q <;> (try simp only [vki,reduceCtorEq] at h))|(refine vq ?_;kernel_rfl)|omega|assumption|with_reducible rfl|skip)))
        (simp only [vrt,Try.results20,vkt,seval,tbE12_isPlace,xbE12_3,aBunk,aBunks,eBunk,gBunk,mBunk,aTks,eTk,rTk,mTk,mCabin,aChart,cChart,aAsk,cAsk,ipS,sisBunk,srTks,srtks,srnear,List.length_map];refine Fin.val rfl ?_;(try simp only [AV.le,AV.leL]))
        all_goals first|rfl|(simp;done)
    · have d1:decide ((k:Int) < (l.length:Int))=false:=decide_eq_false (by omega)
      obtain rfl:k=l.length:=by omega
      have hall:l.all (fun b=>isBunkB c.cabins b.cab b.bed)=true:=by
        rw [List.all_eq_true]
        intro b hb
        obtain ⟨j,hj,rfl⟩:=List.mem_iff_getElem.1 hb
        have:=hno j hj
        rw [show l.getD j default=l[j] by simp [List.getD_eq_getElem?_getD,hj]] at this
        exact this
      have hcl:=hc.cabs
      have hnear:NearOk c.cabins l:=⟨by omega,by omega,by omega,fun b hb=>by
        have:=List.all_eq_true.1 hall b hb
        have:=isBunk_ok this
        exact ⟨this.1,this.2.1⟩⟩
      have b1:l.length≤100:=by omega
      have b2:a.sexes.length=l.length:=hn.symm
      have hTl:=tks_len a l l.length
      obtain ⟨T,hT⟩:∃ T,slTk a l l.length=T:=⟨_,rfl⟩
      rw [hT] at hTl
      have b3:c.sold.length≤maxLen:=by omega
      have b4:c.sold.length+T.length≤maxLen:=by omega
      have b5:(c.sold++T).length≤100:=by rw [List.length_append];omega
      have hE:isPlaceB c a l=(decide (ticketsE c (c.sold++T)=0) && nearB c.cabins l):=by
        unfold isPlaceB
        rw [hall,decide_eq_true hn,hT];rfl
      rw [hE]
      have ma:List.map eTk c.sold++List.map eTk T=List.map eTk (c.sold++T):=by rw [List.map_append]
      cases q:decide (ticketsE c (c.sold++T)=0) with
      |true =>
        repeat' (first|(apply nx;with_reducible constructor)|refine uq (by decide) ?_|((first|refine vx env fun Q hQ=>?_|refine vz fun Q hQ=>?_);simp only [vkt,seval,tbE12_isPlace,xbE12_3,aBunk,aBunks,eBunk,gBunk,mBunk,aTks,eTk,rTk,mTk,mCabin,aChart,cChart,aAsk,cAsk,ipS,sisBunk,srTks,srtks,srnear,List.length_map,d1,ec,ea,b1,b2,hT,b3,b4,b5,ma,q,hnear];(try simp only [ite_and]);(repeat' (first|with_reducible assumption|refine And.intro ?_ ?_|intro hp));all_goals (first|(refine hQ _ ?_;clear hQ Q)|(refine hQ _ (fun h=>?_) (fun h=>?_) <;> clear hQ Q <;> (try simp only [vki,reduceCtorEq] at h))|(refine vq ?_;kernel_rfl)|omega|assumption|with_reducible rfl|skip)))
        (simp only [vrt,Try.results20,vkt,seval,tbE12_isPlace,xbE12_3,aBunk,aBunks,eBunk,gBunk,mBunk,aTks,eTk,rTk,mTk,mCabin,aChart,cChart,aAsk,cAsk,ipS,sisBunk,srTks,srtks,srnear,List.length_map];refine Fin.val rfl ?_;(try simp only [AV.le,AV.leL]))
        all_goals first|rfl|(simp;done)
      |false =>
        repeat' (first|(apply nx;with_reducible constructor)|refine uq (by decide) ?_|((first|refine vx env fun Q hQ=>?_|refine vz fun Q hQ=>?_);simp only [vkt,seval,tbE12_isPlace,xbE12_3,aBunk,aBunks,eBunk,gBunk,mBunk,aTks,eTk,rTk,mTk,mCabin,aChart,cChart,aAsk,cAsk,ipS,sisBunk,srTks,srtks,srnear,List.length_map,d1,ec,ea,b1,b2,hT,b3,b4,b5,ma,q,hnear];(try simp only [ite_and]);(repeat' (first|with_reducible assumption|refine And.intro ?_ ?_|intro hp));all_goals (first|(refine hQ _ ?_;clear hQ Q)|(refine hQ _ (fun h=>?_) (fun h=>?_) <;> clear hQ Q <;> (try simp only [vki,reduceCtorEq] at h))|(refine vq ?_;kernel_rfl)|omega|assumption|with_reducible rfl|skip)))
        (simp only [vrt,Try.results20,vkt,seval,tbE12_isPlace,xbE12_3,aBunk,aBunks,eBunk,gBunk,mBunk,aTks,eTk,rTk,mTk,mCabin,aChart,cChart,aAsk,cAsk,ipS,sisBunk,srTks,srtks,srnear,List.length_map];refine Fin.val rfl ?_;(try simp only [AV.le,AV.leL]))
        all_goals first|rfl|(simp;done)
  · have d0:decide ((l.length:Int)=(a.sexes.length:Int))=false:=decide_eq_false (by omega)
    have hE:isPlaceB c a l=false:=by unfold isPlaceB;rw [decide_eq_false hn];rfl
    rw [hE]
    repeat' (first|(apply nx;with_reducible constructor)|refine uq (by decide) ?_|((first|refine vx env fun Q hQ=>?_|refine vz fun Q hQ=>?_);simp only [vkt,seval,tbE12_isPlace,xbE12_3,aBunk,aBunks,eBunk,gBunk,mBunk,aTks,eTk,rTk,mTk,mCabin,aChart,cChart,aAsk,cAsk,ipS,sisBunk,srTks,srtks,srnear,List.length_map,d0];(try simp only [ite_and]);(repeat' (first|with_reducible assumption|refine And.intro ?_ ?_|intro hp));all_goals (first|(refine hQ _ ?_;clear hQ Q)|(refine hQ _ (fun h=>?_) (fun h=>?_) <;> clear hQ Q <;> (try simp only [vki,reduceCtorEq] at h))|(refine vq ?_;kernel_rfl)|omega|assumption|with_reducible rfl|skip)))
    (simp only [vrt,Try.results20,vkt,seval,tbE12_isPlace,xbE12_3,aBunk,aBunks,eBunk,gBunk,mBunk,aTks,eTk,rTk,mTk,mCabin,aChart,cChart,aAsk,cAsk,ipS,sisBunk,srTks,srtks,srnear,List.length_map];refine Fin.val rfl ?_;(try simp only [AV.le,AV.leL]))
    all_goals first|rfl|(simp;done)
def sisPlace:List AV→Prop × AV
  |[.agg [.sl c0,.v (.int .i64 c1),.sl c2],.agg [.v (.int .i64 a0),.v (.int .i64 a1),.v (.int .i64 a2),.sl a3,.v (.bool a4)],.sl l]=>(c0=(c0.map dCabin).map eCabin∧c2=(c2.map dTk).map eTk∧a3=(a3.map dInt).map eInt∧l=(l.map dBunk).map eBunk∧CarOk ((⟨(c0.map dCabin),c1,(c2.map dTk)⟩:Chart))∧((⟨(c0.map dCabin),c1,(c2.map dTk)⟩:Chart)).sold.length≤20∧0 < ((⟨a0,a1,a2,(a3.map dInt),a4⟩:Ask)).sexes.length∧((⟨a0,a1,a2,(a3.map dInt),a4⟩:Ask)).sexes.length≤20∧(l.map dBunk).length≤maxLen,aB (isPlaceB ((⟨(c0.map dCabin),c1,(c2.map dTk)⟩:Chart)) ((⟨a0,a1,a2,(a3.map dInt),a4⟩:Ask)) (l.map dBunk)))
  |_=>(False,.junk)
theorem eisPlace {A:Frm→Prop}:EntryOK A Try.prog 20 (valE true sisPlace):=valE_ok fun vs hv h=>by
  clear hv
  unfold sisPlace at h ⊢
  split at h
  · rename_i c0 c1 c2 a0 a1 a2 a3 a4 l;obtain ⟨q0,q1,q2,q3,k0,k1,k2,k3,k4⟩:=h
    refine ⟨by first|trivial|(simp [AV.plain,AV.plainL,aI,aB,aInts,aBunks,aTks,aBunk,aTk,cTk];done)|(repeat' split) <;> simp [AV.plain,AV.plainL,aI,aB,aInts,aBunks,aTks,aBunk,aTk,cTk],fun _=>(by simp [AV.flat,AV.flatL,aI,aB]), ?_⟩
    have:=isPlace_fn ((⟨(c0.map dCabin),c1,(c2.map dTk)⟩:Chart)) ((⟨a0,a1,a2,(a3.map dInt),a4⟩:Ask)) (l.map dBunk) k0 k1 ⟨k2,k3⟩ k4
    simp only [aAsk,aB,aBunks,aCabins,aChart,aI,aInts,aTks,cAsk,cChart,← q0,← q1,← q2,← q3] at this
    first|exact this|(simp only [aAsk,aB,aBunks,aCabins,aChart,aI,aInts,aTks,cAsk,cChart,← q0,← q1,← q2,← q3];exact this)
  · exact h.elim
end Go.Sym.B
namespace Go.Sym.B
open Go Go.Sym Go.Proofs Go.Sym.C
def stB (a b:Tk) (s:Int):Bool:=decide (a.cab=b.cab) && !decide (s < a.frm) && !decide (a.to≤s) && !decide (s < b.frm) && !decide (b.to≤s) && (decide (a.bed=b.bed) || (!decide (a.party=b.party) && (!decide (a.sex=b.sex) || a.dog || b.dog)))
def prB (c:Chart) (a b:Tk):Bool:=(List.range c.secs.toNat).any fun (s:Nat)=>stB a b s
def rwB (c:Chart) (i:Nat):Bool:=(List.range i).any fun k=>prB c (c.sold.getD i default) (c.sold.getD k default)
def strB (c:Chart):Bool:=(List.range c.sold.length).any (rwB c)
def isFreeB (c:Chart) (a:Ask) (l:List Bunk):Bool:=nearB c.cabins l && !strB ⟨c.cabins,c.secs,c.sold++slTk a l l.length⟩
end Go.Sym.B
namespace Go.Sym.B
open Go Go.Sym Go.Proofs Go.Sym.C
def stpB (cs:List Cabin) (a:Ask):List Tk→List Bunk→List Bunk→Bool
  |_,_,[]=>true
  |sold,begun,b :: r=>goB cs a sold begun b && stpB cs a (sold++[tkOf a begun.length b]) (begun++[b]) r
theorem grow_stp (cs:List Cabin) (a:Ask):∀ (m:Nat) (sold:List Tk) (begun:List Bunk),(growP cs a m sold begun).map (·.1)=((alL (bunksL cs) m).filter (stpB cs a sold begun)).map (begun++·)
  |0,sold,begun=>by
    show [begun]=(([[]]:List (List Bunk)).filter (stpB cs a sold begun)).map (begun++·)
    rw [List.filter_cons_of_pos (by rfl)]
    simp
  |m+1,sold,begun=>by
    rw [growP_succ,alL,List.map_flatMap,List.filter_flatMap,List.map_flatMap]
    refine congrArg (List.flatMap · (bunksL cs)) (funext fun b=>?_)
    unfold gbL
    cases h:goB cs a sold begun b with
    |true =>
      rw [if_pos rfl,grow_stp cs a m,List.filter_map,List.map_map]
      have e1:(stpB cs a sold begun ∘ fun x=>b :: x)=stpB cs a (sold++[tkOf a begun.length b]) (begun++[b]):=funext fun r=>by
        show stpB cs a sold begun (b :: r)=_
        rw [stpB,h,Bool.true_and]
      rw [e1]
      refine congrArg (List.map · _) (funext fun r=>?_)
      show (begun++[b])++r=begun++b :: r
      simp
    |false =>
      rw [if_neg (by decide),List.filter_map]
      have e1:(stpB cs a sold begun ∘ fun x=>b :: x)=fun _=>false:=funext fun r=>by
        show stpB cs a sold begun (b :: r)=_
        rw [stpB,h,Bool.false_and]
      rw [e1]
      simp
def PWr:List Tk→List Tk→Prop
  |_,[]=>True
  |s,t :: ts=>besideE t s=0∧PWr (s++[t]) ts
theorem pwr_app:∀ (s l r:List Tk),PWr s (l++r) ↔ PWr s l∧PWr (s++l) r
  |s,[],r=>by simp [PWr]
  |s,t :: l,r=>by
    show besideE t s=0∧PWr (s++[t]) (l++r) ↔ (besideE t s=0∧PWr (s++[t]) l)∧PWr (s++t :: l) r
    rw [pwr_app (s++[t]) l r,and_assoc]
    simp
theorem pwr_iff:∀ (s l:List Tk),PWr s l ↔ ∀ i,i < l.length→besideE (l.getD i default) (s++l.take i)=0
  |s,[]=>by simp [PWr]
  |s,t :: l=>by
    show besideE t s=0∧PWr (s++[t]) l ↔ _
    rw [pwr_iff (s++[t]) l]
    constructor
    · rintro ⟨h1,h2⟩ i hi
      cases i with
      |zero=>simpa using h1
      |succ i =>
        have:=h2 i (by simpa using hi)
        simpa using this
    · intro h
      refine ⟨by simpa using h 0 (by simp),fun i hi=>?_⟩
      have:=h (i+1) (by simpa using hi)
      simpa using this
def tkR (a:Ask):Nat→List Bunk→List Tk
  |_,[]=>[]
  |n,b :: r=>tkOf a n b :: tkR a (n+1) r
theorem tkR_app (a:Ask):∀ (n:Nat) (l r:List Bunk),tkR a n (l++r)=tkR a n l++tkR a (n+l.length) r
  |n,[],r=>by simp [tkR]
  |n,b :: l,r=>by
    show tkOf a n b :: tkR a (n+1) (l++r)=_
    rw [tkR_app a (n+1) l r]
    simp [tkR,Nat.add_assoc,Nat.add_comm 1]
theorem tkR_sl (a:Ask) (l:List Bunk):∀ k,k≤l.length→slTk a l k=tkR a 0 (l.take k)
  |0,_=>by simp [slTk,tkR]
  |k+1,h=>by
    rw [tks_succ,tkR_sl a l k (by omega),List.take_succ_eq_append_getElem h,tkR_app,List.length_take]
    have hk:k < l.length:=h
    simp [tkR,List.getD_eq_getElem?_getD,hk,Nat.min_eq_left (show k≤l.length by omega)]
theorem mem_tkR {a:Ask} {t:Tk}:∀ {n:Nat} {l:List Bunk},t ∈ tkR a n l→∃ i b,i < l.length∧b ∈ l∧t=tkOf a (n+i) b
  |n,[],h=>by simp [tkR] at h
  |n,b :: l,h=>by
    rcases List.mem_cons.1 h with rfl|h
    · exact ⟨0,b,by simp,by simp,rfl⟩
    · obtain ⟨i,b',h1,h2,h3⟩:=mem_tkR h
      exact ⟨i+1,b',by simpa using h1,List.mem_cons_of_mem _ h2,by rw [h3,show n+1+i=n+(i+1) by omega]⟩
theorem fmin_le (l:List Bunk):∀ m:Int,l.foldl (fun m b=>min m b.cab) m≤m:=by
  induction l with
  |nil=>intro m;exact Int.le_refl _
  |cons b l ih=>intro m;have:=ih (min m b.cab);rw [List.foldl_cons];omega
theorem fmax_le (l:List Bunk):∀ m:Int,m≤l.foldl (fun m b=>max m b.cab) m:=by
  induction l with
  |nil=>intro m;exact Int.le_refl _
  |cons b l ih=>intro m;have:=ih (max m b.cab);rw [List.foldl_cons];omega
theorem near_pre {cs:List Cabin} {l r:List Bunk} (h:nearB cs (l++r)=true) (hl:l ≠ []):nearB cs l=true:=by
  have h0:(l++r).getD 0 default=l.getD 0 default:=by
    cases l with
    |nil=>exact absurd rfl hl
    |cons b l=>rfl
  unfold nearB at h ⊢
  simp only [h0,List.foldl_append] at h ⊢
  have g1:=fmin_le r (l.foldl (fun m b=>min m b.cab) (l.getD 0 default).cab)
  have g2:=fmax_le r (l.foldl (fun m b=>max m b.cab) (l.getD 0 default).cab)
  have g3:=fmin_le l (l.getD 0 default).cab
  have g4:=fmax_le l (l.getD 0 default).cab
  generalize l.foldl (fun m b=>min m b.cab) (l.getD 0 default).cab=lo at *
  generalize l.foldl (fun m b=>max m b.cab) (l.getD 0 default).cab=hi at *
  generalize r.foldl (fun m b=>min m b.cab) lo=lo2 at *
  generalize r.foldl (fun m b=>max m b.cab) hi=hi2 at *
  rw [Bool.or_eq_true,Bool.and_eq_true,decide_eq_true_eq,decide_eq_true_eq] at h ⊢
  rcases h with h|⟨h,hd⟩
  · exact .inl (by omega)
  · by_cases he:lo=hi
    · exact .inl he
    · have:lo=lo2:=by omega
      exact .inr ⟨by omega,by rw [this];exact hd⟩
theorem stp_iff {cs:List Cabin} {a:Ask} (hw:a.frm < a.to):∀ (r:List Bunk) (sold:List Tk) (begun:List Bunk),(∀ b ∈ begun,∃ x ∈ sold,x.cab=b.cab∧x.bed=b.bed∧x.frm=a.frm∧x.to=a.to) →
    (stpB cs a sold begun r=true ↔ PWr sold (tkR a begun.length r)∧(r ≠ []→nearB cs (begun++r)=true))
  |[],sold,begun,_=>by simp [stpB,tkR,PWr]
  |b :: r,sold,begun,hb=>by
    have hb':∀ b' ∈ begun++[b],∃ x ∈ sold++[tkOf a begun.length b],x.cab=b'.cab∧x.bed=b'.bed∧x.frm=a.frm∧x.to=a.to:=fun b' h=>by
      rcases List.mem_append.1 h with h|h
      · obtain ⟨x,h1,h2⟩:=hb b' h
        exact ⟨x,List.mem_append.2 (.inl h1),h2⟩
      · rw [List.mem_singleton.1 h]
        exact ⟨_,List.mem_append.2 (.inr (List.mem_singleton.2 rfl)),rfl,rfl,rfl,rfl⟩
    have ih:=stp_iff (cs:=cs) hw r (sold++[tkOf a begun.length b]) (begun++[b]) hb'
    rw [stpB,Bool.and_eq_true,ih]
    have el:(begun++[b]).length=begun.length+1:=by simp
    rw [el]
    show _ ↔ (besideE (tkOf a begun.length b) sold=0∧PWr (sold++[tkOf a begun.length b]) (tkR a (begun.length+1) r))∧_
    have ea:begun++[b]++r=begun++b :: r:=by simp
    rw [ea]
    unfold goB
    rw [Bool.and_eq_true,Bool.and_eq_true,decide_eq_true_eq]
    constructor
    · rintro ⟨⟨⟨_,h2⟩,h3⟩,h4,h5⟩
      refine ⟨⟨h3,h4⟩,fun _=>?_⟩
      cases r with
      |nil=>exact h2
      |cons b2 r=>exact h5 (by simp)
    · rintro ⟨⟨h3,h4⟩,h5⟩
      have h5:=h5 (by simp)
      refine ⟨⟨⟨?_, ?_⟩,h3⟩,h4,fun _=>h5⟩
      · cases hc:begun.contains b with
        |false=>rfl
        |true =>
          obtain ⟨x,hx,g1,g2,g3,g4⟩:=hb b (by simpa using hc)
          have:=(beside_zero.1 h3 x hx).1
          unfold twiceB meetB tkOf at this
          simp [g1,g2,g3,g4,hw] at this
      · refine near_pre (r:=r) ?_ (by simp)
        rw [ea];exact h5
theorem st_no {secs:Int} {t x:Tk} (ht:0≤t.frm∧t.frm < t.to∧t.to≤secs) (hx:0≤x.frm∧x.frm < x.to∧x.to≤secs):(∀ s:Nat,s < secs.toNat→stB t x s=false) ↔ twiceB t x=false∧togB x t=true:=by
  constructor
  · intro h
    cases hm:meetB x t with
    |false =>
      unfold twiceB togB
      rw [hm];simp
    |true =>
      have hm2:=hm
      unfold meetB at hm2
      rw [Bool.and_eq_true,decide_eq_true_eq,decide_eq_true_eq] at hm2
      obtain ⟨s,hs⟩:∃ s:Nat,(s:Int)=max t.frm x.frm:=⟨(max t.frm x.frm).toNat,by omega⟩
      have:=h s (by omega)
      unfold stB at this
      rw [decide_eq_false (show ¬ (s:Int) < t.frm by omega),decide_eq_false (show ¬ t.to≤(s:Int) by omega),decide_eq_false (show ¬ (s:Int) < x.frm by omega),decide_eq_false (show ¬ x.to≤(s:Int) by omega)] at this
      have e1:decide (x.cab=t.cab)=decide (t.cab=x.cab):=by rw [decide_eq_decide];exact eq_comm
      have e2:decide (x.bed=t.bed)=decide (t.bed=x.bed):=by rw [decide_eq_decide];exact eq_comm
      have e3:decide (x.party=t.party)=decide (t.party=x.party):=by rw [decide_eq_decide];exact eq_comm
      have e4:decide (x.sex=t.sex)=decide (t.sex=x.sex):=by rw [decide_eq_decide];exact eq_comm
      have e5:decide (x.cab ≠ t.cab)=!decide (t.cab=x.cab):=by rw [decide_not,e1]
      unfold twiceB togB
      rw [hm,e5,e1,e2,e3,e4]
      revert this
      generalize decide (t.cab=x.cab)=A
      generalize decide (t.bed=x.bed)=B
      generalize decide (t.party=x.party)=C
      generalize decide (t.sex=x.sex)=D
      generalize x.dog=E
      generalize t.dog=F
      revert A B C D E F
      decide
  · rintro ⟨h1,h2⟩ s _
    have e1:decide (x.cab=t.cab)=decide (t.cab=x.cab):=by rw [decide_eq_decide];exact eq_comm
    have e2:decide (x.bed=t.bed)=decide (t.bed=x.bed):=by rw [decide_eq_decide];exact eq_comm
    have e3:decide (x.party=t.party)=decide (t.party=x.party):=by rw [decide_eq_decide];exact eq_comm
    have e4:decide (x.sex=t.sex)=decide (t.sex=x.sex):=by rw [decide_eq_decide];exact eq_comm
    have e5:decide (x.cab ≠ t.cab)=!decide (t.cab=x.cab):=by rw [decide_not,e1]
    cases hm:meetB x t with
    |false =>
      unfold stB
      by_cases g1:(s:Int) < t.frm
      · simp [g1]
      by_cases g2:t.to≤(s:Int)
      · simp [g2]
      by_cases g3:(s:Int) < x.frm
      · simp [g3]
      by_cases g4:x.to≤(s:Int)
      · simp [g4]
      exfalso
      unfold meetB at hm
      rw [decide_eq_true (show x.frm < t.to by omega),decide_eq_true (show t.frm < x.to by omega)] at hm
      exact absurd hm (by decide)
    |true =>
      unfold twiceB at h1
      unfold togB at h2
      rw [hm,e1,e2] at h1
      rw [hm,e5,e3,e4] at h2
      unfold stB
      generalize decide ((s:Int) < t.frm)=G
      generalize decide (t.to≤(s:Int))=H
      generalize decide ((s:Int) < x.frm)=I
      generalize decide (x.to≤(s:Int))=J
      revert h1 h2
      generalize decide (t.cab=x.cab)=A
      generalize decide (t.bed=x.bed)=B
      generalize decide (t.party=x.party)=C
      generalize decide (t.sex=x.sex)=D
      generalize x.dog=E
      generalize t.dog=F
      revert A B C D E F G H I J
      decide
theorem str_iff {cs:List Cabin} {secs:Int} {l:List Tk} (h:∀ t ∈ l,0≤t.frm∧t.frm < t.to∧t.to≤secs):strB ⟨cs,secs,l⟩=false ↔ PWr [] l:=by
  rw [pwr_iff]
  unfold strB
  rw [List.any_eq_false]
  have hg:∀ {i:Nat},i < l.length→l.getD i default ∈ l:=fun hi=>gMem hi
  constructor
  · intro hs i hi
    rw [List.nil_append,beside_zero]
    intro x hx
    obtain ⟨k,hk,rfl⟩:=List.mem_iff_getElem.1 hx
    rw [List.length_take] at hk
    have h1:=hs i (List.mem_range.2 hi)
    unfold rwB at h1
    rw [Bool.not_eq_true,List.any_eq_false] at h1
    have h2:=h1 k (List.mem_range.2 (by omega))
    have ek:l.getD k default=(l.take i)[k]'(by rw [List.length_take];omega):=by simp [List.getD_eq_getElem?_getD,show k < l.length by omega]
    unfold prB at h2
    rw [Bool.not_eq_true,List.any_eq_false] at h2
    simp only at h2
    rw [← ek]
    refine (st_no (h _ (hg hi)) (h _ (hg (show k < l.length by omega)))).1 fun s hs=>?_
    have:=h2 s (List.mem_range.2 hs)
    simpa using this
  · intro hp i hi
    have hi:=List.mem_range.1 hi
    unfold rwB
    rw [Bool.not_eq_true,List.any_eq_false]
    intro k hk
    have hk:=List.mem_range.1 hk
    unfold prB
    rw [Bool.not_eq_true,List.any_eq_false]
    intro s hs
    have hi':i < l.length:=hi
    have h1:=hp i hi'
    rw [List.nil_append,beside_zero] at h1
    have hkl:k < l.length:=by omega
    have h2:=h1 (l.getD k default) (by
      rw [List.mem_iff_getElem]
      exact ⟨k,by rw [List.length_take];omega,by simp [List.getD_eq_getElem?_getD,hkl]⟩)
    have:=(st_no (h _ (hg hi')) (h _ (hg hkl))).2 h2 s (List.mem_range.1 hs)
    simpa using this
theorem val_ways {c:Chart} (hv:Val c):∀ t ∈ c.sold,0≤t.frm∧t.frm < t.to∧t.to≤c.secs:=fun t ht=>by
  have:=hv.tk t ht
  exact ⟨this.frm,this.way,this.to⟩
theorem val_pwr {c:Chart} (h:checkE c=0):PWr [] c.sold:=by
  rw [pwr_iff]
  intro i hi
  unfold checkE at h
  split at h
  · exact absurd h ‹_›
  rw [List.nil_append]
  exact (tickets_ok h i hi).2
theorem al_mem {bs:List Bunk}:∀ {m:Nat} {l:List Bunk},l ∈ alL bs m→∀ b ∈ l,b ∈ bs
  |0,l,hl,b,hb=>by rw [List.mem_singleton.1 hl] at hb;simp at hb
  |m+1,l,hl,b,hb=>by
    obtain ⟨b0,h0,hl⟩:=List.mem_flatMap.1 hl
    obtain ⟨q,hq,rfl⟩:=List.mem_map.1 hl
    rcases List.mem_cons.1 hb with rfl|hb
    · exact h0
    · exact al_mem hq b hb
theorem stp_free {c:Chart} {a:Ask} (h:bothE c a=0) {l:List Bunk} (hl:l ∈ alL (bunksL c.cabins) a.sexes.length) (hne:l ≠ []):stpB c.cabins a c.sold [] l=isFreeB c a l:=by
  have hc:=(both_ok h).1
  have hv:=val_of hc
  have hw:=ask_way h
  have hll:=alL_one l hl
  have hT:slTk a l l.length=tkR a 0 l:=by rw [tkR_sl a l l.length (Nat.le_refl _),List.take_length]
  have hways:∀ t ∈ c.sold++slTk a l l.length,0≤t.frm∧t.frm < t.to∧t.to≤c.secs:=fun t ht=>by
    rcases List.mem_append.1 ht with ht|ht
    · exact val_ways hv t ht
    · rw [hT] at ht
      obtain ⟨i,b,_,_,rfl⟩:=mem_tkR ht
      exact hw
  rw [Bool.eq_iff_iff,stp_iff hw.2.1 l c.sold [] (fun b hb=>by simp at hb)]
  unfold isFreeB
  rw [Bool.and_eq_true]
  have e1:(!strB ⟨c.cabins,c.secs,c.sold++slTk a l l.length⟩)=true ↔ PWr [] (c.sold++slTk a l l.length):=by
    rw [← str_iff (cs:=c.cabins) hways]
    simp
  rw [e1,pwr_app,hT]
  simp only [List.nil_append]
  constructor
  · rintro ⟨h1,h2⟩
    exact ⟨h2 hne,val_pwr hc,h1⟩
  · rintro ⟨h1,_,h3⟩
    exact ⟨h3,fun _=>h1⟩
theorem places_free {c:Chart} {a:Ask} (h:bothE c a=0) (hs:1≤a.sexes.length):placesA c a=(alL (bunksL c.cabins) a.sexes.length).filter (isFreeB c a):=by
  have e1:placesA c a=(plP c a).map (·.1):=by unfold placesA;rw [if_pos h]
  rw [e1]
  unfold plP
  rw [grow_stp]
  simp only [List.nil_append,List.map_id']
  refine List.filter_congr fun l hl=>stp_free h hl ?_
  rintro rfl
  have:=alL_one _ hl
  simp at this
  omega
theorem isPlace_of {c:Chart} {a:Ask} (h:bothE c a=0) (hs:1≤a.sexes.length) {l:List Bunk} (hl:l ∈ placesA c a):isPlaceB c a l=true:=by
  rw [places_free h hs] at hl
  obtain ⟨h1,h2⟩:=List.mem_filter.1 hl
  have hll:=alL_one l h1
  have hc:=(both_ok h).1
  have hv:=val_of hc
  have hw:=ask_way h
  have hT:slTk a l l.length=tkR a 0 l:=by rw [tkR_sl a l l.length (Nat.le_refl _),List.take_length]
  have hway:∀ t ∈ c.sold++slTk a l l.length,TkOk c t:=fun t ht=>by
    rcases List.mem_append.1 ht with ht|ht
    · exact hv.tk t ht
    · rw [hT] at ht
      obtain ⟨i,b,hi,hb,rfl⟩:=mem_tkR ht
      exact ask_tk h (by omega) (al_mem h1 b hb)
  unfold isFreeB at h2
  rw [Bool.and_eq_true] at h2
  have hp:PWr [] (c.sold++slTk a l l.length):=(str_iff (cs:=c.cabins) (secs:=c.secs) (fun t ht=>⟨(hway t ht).frm,(hway t ht).way,(hway t ht).to⟩)).1 (by simpa using h2.2)
  rw [pwr_iff] at hp
  unfold isPlaceB
  rw [h2.1,decide_eq_true hll,Bool.and_true,Bool.true_and,Bool.and_eq_true,List.all_eq_true,decide_eq_true_eq]
  refine ⟨fun b hb=>?_, ?_⟩
  · obtain ⟨i,k,g1,g2,rfl⟩:=bunk_mem.1 (al_mem h1 b hb)
    unfold isBunkB
    rw [Bool.and_eq_true,inB_iff,inB_iff]
    refine ⟨⟨by simp only;omega,by simp only;omega⟩,by simp only;omega, ?_⟩
    simp only [Int.toNat_natCast]
    omega
  · unfold ticketsE
    refine firstE_all fun j hj=>?_
    rw [List.length_map,List.length_range] at hj
    rw [List.getD_eq_getElem?_getD,List.getElem?_map,List.getElem?_range hj]
    have hk:=hway _ (gMem (d:=default) hj)
    exact ticket_zero (cs:=c.cabins) (secs:=c.secs) hk.party hk.sex hk.cab hk.bed ⟨hk.frm,hk.way,hk.to⟩ (by have:=hp j hj;rwa [List.nil_append] at this)
end Go.Sym.B
namespace Go.Sym.B
open Go Go.Sym Go.Proofs Go.Sym.C
end Go.Sym.B
namespace Go.Sym.B
open Go Go.Sym Go.Proofs Go.Sym.C
end Go.Sym.B
namespace Go.Sym.B
open Go Go.Sym Go.Proofs Go.Sym.C
end Go.Sym.B
namespace Go.Sym.B
open Go Go.Sym Go.Proofs Go.Sym.C
end Go.Sym.B
namespace Go.Sym.B
open Go Go.Sym Go.Proofs Go.Sym.C
end Go.Sym.B
namespace Go.Sym.B
open Go Go.Sym Go.Proofs Go.Sym.C
end Go.Sym.B
namespace Go.Sym.B
open Go Go.Sym Go.Proofs Go.Sym.C
end Go.Sym.B
namespace Go.Sym.B
open Go Go.Sym Go.Proofs Go.Sym.C
end Go.Sym.B
namespace Go.Sym.B
open Go Go.Sym Go.Proofs Go.Sym.C
end Go.Sym.B
namespace Go.Sym.B
open Go Go.Sym Go.Proofs Go.Sym.C
theorem tickets_app_way {c:Chart} {a:Ask} (h:bothE c a=0) {l:List Bunk} (hl:l ∈ alL (bunksL c.cabins) a.sexes.length):∀ t ∈ c.sold++slTk a l l.length,TkOk c t:=fun t ht=>by
  have hll:=alL_one l hl
  have hT:slTk a l l.length=tkR a 0 l:=by rw [tkR_sl a l l.length (Nat.le_refl _),List.take_length]
  rcases List.mem_append.1 ht with ht|ht
  · exact (val_of (both_ok h).1).tk t ht
  · rw [hT] at ht
    obtain ⟨i,b,hi,hb,rfl⟩:=mem_tkR ht
    exact ask_tk h (by omega) (al_mem hl b hb)
theorem place_free {c:Chart} {a:Ask} (h:bothE c a=0) (hs:1≤a.sexes.length) {l:List Bunk} (hl:l ∈ alL (bunksL c.cabins) a.sexes.length):isPlaceB c a l=isFreeB c a l:=by
  cases hq:isFreeB c a l with
  |true=>exact isPlace_of h hs (by rw [places_free h hs];exact List.mem_filter.2 ⟨hl,hq⟩)
  |false =>
    cases hp:isPlaceB c a l with
    |false=>rfl
    |true =>
      have hway:=tickets_app_way h hl
      unfold isPlaceB at hp
      simp only [Bool.and_eq_true,decide_eq_true_eq] at hp
      obtain ⟨⟨_,h3⟩,h4⟩:=hp
      have h5:=tickets_ok h3
      have hpw:PWr [] (c.sold++slTk a l l.length):=(pwr_iff _ _).2 fun i hi=>by rw [List.nil_append];exact (h5 i hi).2
      have hst:=(str_iff (cs:=c.cabins) (secs:=c.secs) (fun t ht=>⟨(hway t ht).frm,(hway t ht).way,(hway t ht).to⟩)).2 hpw
      unfold isFreeB at hq
      rw [h4,hst] at hq
      exact absurd hq (by decide)
theorem places_place {c:Chart} {a:Ask} (h:bothE c a=0) (hs:1≤a.sexes.length):placesA c a=(alL (bunksL c.cabins) a.sexes.length).filter (isPlaceB c a):=by
  rw [places_free h hs]
  exact List.filter_congr fun l hl=>(place_free h hs hl).symm
end Go.Sym.B
namespace Go.Sym.B
open Go Go.Sym Go.Proofs Go.Sym.C
def fitB (c:Chart) (a:Ask) (b:Bunk):Bool:=decide (besideE (tkOf a 0 b) c.sold=0)
theorem pl_fit {c:Chart} {a:Ask} (h:a.sexes.length=1):(plP c a).map (·.1)=((bunksL c.cabins).filter (fitB c a)).map fun b=>[b]:=by
  unfold plP
  rw [h,growP_succ,List.map_flatMap]
  have key:∀ l:List Bunk,(l.flatMap fun b=>(gbL c.cabins a 0 c.sold [] b).map (·.1))=(l.filter (fitB c a)).map fun b=>[b]:=fun l=>by
    induction l with
    |nil=>rfl
    |cons b l ih =>
      rw [List.flatMap_cons,ih]
      unfold gbL goB fitB
      rw [show ([]:List Bunk)++[b]=[b] from rfl,near_one,show ([]:List Bunk).length=0 from rfl]
      simp only [List.contains_nil,Bool.not_false,Bool.true_and]
      cases hq:decide (besideE (tkOf a 0 b) c.sold=0) with
      |true =>
        rw [if_pos rfl,List.filter_cons_of_pos (by simpa using hq)]
        rfl
      |false =>
        rw [if_neg (by decide),List.filter_cons_of_neg (by simpa using hq)]
        rfl
  exact key _
theorem open_fit {c:Chart} {a:Ask} (h:a.sexes.length=1) (s:Int):openAt c a s=(bunksL c.cabins).filter (fitB c (oneA a s)):=by
  have h1:(plP c (oneA a s)).map (·.1)=_:=pl_fit (a:=oneA a s) h
  unfold openAt
  rw [show (plP c (oneA a s)).map (fun x=>x.1.getD 0 default)=((plP c (oneA a s)).map (·.1)).map (fun l=>l.getD 0 default) by rw [List.map_map];rfl,h1,List.map_map]
  simp [Function.comp_def]
def bdB (a:Ask) (b:Bunk) (x:Tk):Bool:=decide (x.cab=b.cab) && (decide (x.bed=b.bed) || (!decide (x.party=a.party) && !(decide (x.sex=a.sexes.getD 0 0) && !x.dog && !a.dog)))
theorem fit_bd {c:Chart} {a:Ask} {b:Bunk}:fitB c a b=true ↔ ∀ x ∈ c.sold,meetB x (tkOf a 0 b)=true→bdB a b x=false:=by
  unfold fitB
  rw [decide_eq_true_eq,beside_zero]
  refine forall_congr' fun x=>forall_congr' fun _=>?_
  unfold twiceB togB bdB
  show ((decide (x.cab=b.cab) && decide (x.bed=b.bed) && meetB x (tkOf a 0 b))=false∧(decide (x.party=a.party) || decide (x.cab ≠ b.cab) || !meetB x (tkOf a 0 b) || (decide (x.sex=a.sexes.getD 0 0) && !x.dog && !a.dog))=true) ↔ _
  cases meetB x (tkOf a 0 b) with
  |false=>simp
  |true =>
    by_cases h1:x.cab=b.cab <;> by_cases h2:x.bed=b.bed <;> by_cases h3:x.party=a.party <;> simp [h1,h2,h3]
theorem meet_one {a:Ask} {b:Bunk} {x:Tk} (hx:x.frm < x.to) (ha:a.frm < a.to):meetB x (tkOf a 0 b)=true ↔ ∃ s:Int,a.frm≤s∧s < a.to∧meetB x (tkOf (oneA a s) 0 b)=true:=by
  have e1:meetB x (tkOf a 0 b)=(decide (x.frm < a.to) && decide (a.frm < x.to)):=rfl
  have e2:∀ s,meetB x (tkOf (oneA a s) 0 b)=(decide (x.frm < s+1) && decide (s < x.to)):=fun s=>rfl
  rw [e1,Bool.and_eq_true,decide_eq_true_eq,decide_eq_true_eq]
  constructor
  · rintro ⟨h1,h2⟩
    by_cases h:x.frm≤a.frm
    · exact ⟨a.frm,by omega,ha,by rw [e2,Bool.and_eq_true,decide_eq_true_eq,decide_eq_true_eq];omega⟩
    · exact ⟨x.frm,by omega,by omega,by rw [e2,Bool.and_eq_true,decide_eq_true_eq,decide_eq_true_eq];omega⟩
  · rintro ⟨s,h1,h2,h3⟩
    rw [e2,Bool.and_eq_true,decide_eq_true_eq,decide_eq_true_eq] at h3
    omega
theorem fit_all {c:Chart} {a:Ask} (hw:∀ x ∈ c.sold,x.frm < x.to) (ha:a.frm < a.to) (b:Bunk):fitB c a b=true ↔ ∀ s:Int,a.frm≤s→s < a.to→fitB c (oneA a s) b=true:=by
  simp only [fit_bd]
  constructor
  · intro h s h1 h2 x hx hm
    exact h x hx ((meet_one (hw x hx) ha).2 ⟨s,h1,h2,hm⟩)
  · intro h x hx hm
    obtain ⟨s,h1,h2,h3⟩:=(meet_one (hw x hx) ha).1 hm
    exact h s h1 h2 x hx h3
theorem fit_open {c:Chart} {a:Ask} (h1:a.sexes.length=1) (hw:∀ x ∈ c.sold,x.frm < x.to) (ha:a.frm < a.to) {b:Bunk} (hb:b ∈ bunksL c.cabins):fitB c a b=true ↔ ∀ l ∈ openL c a,b ∈ l:=by
  rw [fit_all hw ha]
  constructor
  · intro h l hl
    obtain ⟨i,hi,rfl⟩:=List.mem_map.1 hl
    have:=List.mem_range.1 hi
    rw [open_fit h1]
    exact List.mem_filter.2 ⟨hb,h _ (by omega) (by omega)⟩
  · intro h s hs1 hs2
    have:=h (openAt c a (a.frm+(s - a.frm).toNat)) (List.mem_map.2 ⟨(s - a.frm).toNat,List.mem_range.2 (by omega),rfl⟩)
    rw [show a.frm+((s - a.frm).toNat:Int)=s by omega,open_fit h1] at this
    exact (List.mem_filter.1 this).2
def fwK (f:Bunk→Int) (l:List Bunk):Nat→Int
  |0=>-1
  |i+1=>if f (l.getD i default) < 0 then fwK f l i else if fwK f l i < 0∨f (l.getD i default) < fwK f l i then f (l.getD i default) else fwK f l i
def upB (b y:Bunk):Bool:=decide (0≤b.cab) && !decide (b=y)
def fewA:List (List Bunk)→Bunk→Int
  |[],_=>0
  |l :: rest,b=>fwK (fun y=>if fewA rest y < 0 then -1 else if upB b y then fewA rest y+1 else fewA rest y) l l.length
theorem fw_pk {f g:Bunk→Int} {l:List Bunk} {d:Int} (hg:∀ y ∈ l,0≤g y∧f y=g y+d) (hd:0≤d):∀ i,0 < i→i≤l.length→(pkK f l i).2=fwK g l i+d∧0≤fwK g l i
  |0,h,_=>absurd h (Nat.lt_irrefl _)
  |i+1,_,hi=>by
    obtain ⟨h1,h2⟩:=hg _ (gMem (d:=default) (show i < l.length by omega))
    have hR:fwK g l (i+1)=if fwK g l i < 0∨g (l.getD i default) < fwK g l i then g (l.getD i default) else fwK g l i:=by
      rw [fwK,if_neg (by omega)]
    rw [pkK,hR]
    by_cases h0:i=0
    · subst h0
      rw [if_pos (Or.inl rfl),if_pos (Or.inl (show fwK g l 0 < 0 by show (-1:Int) < 0;decide))]
      exact ⟨h2,h1⟩
    · obtain ⟨h3,h4⟩:=fw_pk hg hd i (by omega) (by omega)
      by_cases h5:g (l.getD i default) < fwK g l i
      · rw [if_pos (.inr (by omega)),if_pos (.inr h5)]
        exact ⟨h2,h1⟩
      · rw [if_neg (by rintro (h|h) <;> omega),if_neg (by rintro (h|h) <;> omega)]
        exact ⟨h3,h4⟩
theorem fwK_neg {f:Bunk→Int} {l:List Bunk} (h:∀ y ∈ l,f y < 0):∀ i,i≤l.length→fwK f l i=-1
  |0,_=>rfl
  |i+1,hi=>by rw [fwK,if_pos (h _ (gMem (by omega))),fwK_neg h i (by omega)]
theorem few_none:∀ {L:List (List Bunk)} (b:Bunk),L.any (·.isEmpty)=true→fewA L b=-1
  |[],_,h=>by simp at h
  |l :: rest,b,h=>by
    rw [fewA]
    cases l with
    |nil=>rfl
    |cons x l =>
      have h:rest.any (·.isEmpty)=true:=by simpa using h
      exact fwK_neg (fun y _=>by simp only [few_none y h];rw [if_pos (by decide)];decide) _ (Nat.le_refl _)
theorem few_next:∀ {L:List (List Bunk)} (b:Bunk),L.any (·.isEmpty)=false→(∀ l ∈ L,∀ y ∈ l,0≤y.cab)→0≤b.cab→fewA L b=(nextA L b).2∧0≤fewA L b
  |[],_,_,_,_=>⟨rfl,Int.le_refl 0⟩
  |l :: rest,b,h,hc,hb=>by
    have h1:l ≠ []:=by rintro rfl;simp at h
    have h2:rest.any (·.isEmpty)=false:=by
      rw [List.any_cons,Bool.or_eq_false_iff] at h;exact h.2
    have hl:0 < l.length:=List.length_pos_iff.2 h1
    rw [fewA,nextA]
    have key:=fw_pk (f:=fun y=>(nextA rest y).2+if y=b then 0 else 1) (g:=fun y=>if fewA rest y < 0 then -1 else if upB b y then fewA rest y+1 else fewA rest y) (l:=l) (d:=0) (fun y hy=>by
      obtain ⟨g1,g2⟩:=few_next y h2 (fun l hl=>hc l (List.mem_cons_of_mem _ hl)) (hc l (List.mem_cons_self ..) y hy)
      rw [if_neg (by omega),← g1]
      unfold upB
      rw [decide_eq_true hb,Bool.true_and]
      by_cases hyb:y=b
      · rw [if_pos hyb,decide_eq_true hyb.symm,if_neg (by decide)];omega
      · rw [if_neg hyb,decide_eq_false (fun h=>hyb h.symm),if_pos (by decide)];omega) (Int.le_refl 0) l.length hl (Nat.le_refl _)
    omega
theorem few_first {L:List (List Bunk)} (h:L.any (·.isEmpty)=false) (hc:∀ l ∈ L,∀ y ∈ l,0≤y.cab) (hL:L ≠ []):fewA L ⟨-1,0⟩=(nextA L ⟨-1,0⟩).2 - 1∧0≤fewA L ⟨-1,0⟩:=by
  cases L with
  |nil=>exact absurd rfl hL
  |cons l rest =>
    have h1:l ≠ []:=by rintro rfl;simp at h
    have h2:rest.any (·.isEmpty)=false:=by
      rw [List.any_cons,Bool.or_eq_false_iff] at h;exact h.2
    have hl:0 < l.length:=List.length_pos_iff.2 h1
    rw [fewA,nextA]
    have key:=fw_pk (f:=fun y=>(nextA rest y).2+if y=⟨-1,0⟩ then 0 else 1) (g:=fun y=>if fewA rest y < 0 then -1 else if upB ⟨-1,0⟩ y then fewA rest y+1 else fewA rest y) (l:=l) (d:=1) (fun y hy=>by
      have hy0:=hc l (List.mem_cons_self ..) y hy
      obtain ⟨g1,g2⟩:=few_next y h2 (fun l hl=>hc l (List.mem_cons_of_mem _ hl)) hy0
      rw [if_neg (by omega),← g1,if_neg (show ¬ upB ⟨-1,0⟩ y=true by unfold upB;simp),if_neg (by rintro rfl;exact absurd hy0 (by decide))]
      omega) (by decide) l.length hl (Nat.le_refl _)
    omega
theorem pkK_at {f:Bunk→Int} {l:List Bunk}:∀ i,0 < i→i≤l.length→(pkK f l i).1 ∈ l∧(pkK f l i).2=f (pkK f l i).1
  |0,h,_=>absurd h (Nat.lt_irrefl _)
  |i+1,_,hi=>by
    rw [pkK]
    by_cases hq:i=0∨f (l.getD i default) < (pkK f l i).2
    · rw [if_pos hq]
      exact ⟨gMem (by omega),rfl⟩
    · rw [if_neg hq]
      exact pkK_at i (by omega) (by omega)
theorem pkK_min {f:Bunk→Int} {l:List Bunk}:∀ i,i≤l.length→∀ j,j < i→(pkK f l i).2≤f (l.getD j default)
  |0,_,j,hj=>absurd hj (Nat.not_lt_zero _)
  |i+1,hi,j,hj=>by
    rw [pkK]
    by_cases hq:i=0∨f (l.getD i default) < (pkK f l i).2
    · rw [if_pos hq]
      by_cases hji:j=i
      · rw [hji];exact Int.le_refl _
      · have:=pkK_min (f:=f) (l:=l) i (by omega) j (by omega)
        rcases hq with h|h
        · omega
        · simp only;omega
    · rw [if_neg hq]
      by_cases hji:j=i
      · rw [hji]
        have:¬ f (l.getD i default) < (pkK f l i).2:=fun h=>hq (.inr h)
        omega
      · exact pkK_min i (by omega) j (by omega)
theorem pkK_first {f:Bunk→Int} {l:List Bunk} (hf:∀ y,0≤f y):∀ i,0 < i→i≤l.length→(pkK f l i).2=0→(l.take i).find? (fun y=>decide (f y=0))=some (pkK f l i).1
  |0,h,_,_=>absurd h (Nat.lt_irrefl _)
  |i+1,_,hi,h=>by
    have hlt:i < l.length:=by omega
    rw [pkK] at h ⊢
    rw [List.take_succ_eq_append_getElem hlt,List.find?_append]
    have hg:l[i]=l.getD i default:=by simp [List.getD_eq_getElem?_getD,hlt]
    by_cases hq:i=0∨f (l.getD i default) < (pkK f l i).2
    · rw [if_pos hq] at h ⊢
      have hn:(l.take i).find? (fun y=>decide (f y=0))=none:=by
        rw [List.find?_eq_none]
        intro y hy
        obtain ⟨j,hj,rfl⟩:=List.mem_iff_getElem.1 hy
        rw [List.length_take] at hj
        have h1:=pkK_min (f:=f) (l:=l) i (by omega) j (by omega)
        have h2:(l.take i)[j]=l.getD j default:=by simp [List.getD_eq_getElem?_getD,show j < l.length by omega]
        rw [h2,decide_eq_true_eq]
        simp only at h
        rcases hq with h0|h0
        · omega
        · omega
      rw [hn,hg]
      simp only at h
      simp only [List.find?_cons,h,decide_true,Option.none_or]
    · rw [if_neg hq] at h ⊢
      rw [pkK_first hf i (by omega) (by omega) h]
      rfl
theorem pkK_zero {f:Bunk→Int} {l:List Bunk} (hf:∀ y,0≤f y) (hl:l ≠ []):(pkK f l l.length).2=0 ↔ ∃ y ∈ l,f y=0:=by
  have h0:0 < l.length:=List.length_pos_iff.2 hl
  obtain ⟨h1,h2⟩:=pkK_at (f:=f) l.length h0 (Nat.le_refl _)
  constructor
  · intro h;exact ⟨_,h1,by rw [← h2];exact h⟩
  · rintro ⟨y,hy,h⟩
    obtain ⟨j,hj,rfl⟩:=List.mem_iff_getElem.1 hy
    have h3:=pkK_min (f:=f) (l:=l) l.length (Nat.le_refl _) j hj
    rw [show l.getD j default=l[j] by simp [List.getD_eq_getElem?_getD,hj],h] at h3
    have:=hf (pkK f l l.length).1
    omega
theorem next_zero:∀ {L:List (List Bunk)} (b:Bunk),L.any (·.isEmpty)=false→((nextA L b).2=0 ↔ ∀ l ∈ L,b ∈ l)
  |[],b,_=>by simp [nextA]
  |l :: rest,b,h=>by
    have h1:l ≠ []:=by rintro rfl;simp at h
    have h2:rest.any (·.isEmpty)=false:=by
      rw [List.any_cons,Bool.or_eq_false_iff] at h;exact h.2
    rw [nextA,pkK_zero (fun y=>by have:=(nextA_bd rest y).1;split <;> omega) h1]
    constructor
    · rintro ⟨y,hy,h3⟩
      have h4:=(nextA_bd rest y).1
      by_cases hyb:y=b
      · subst hyb
        simp only [if_pos] at h3
        have h5:=(next_zero y h2).1 (by omega)
        intro l' hl'
        rcases List.mem_cons.1 hl' with rfl|hl'
        · exact hy
        · exact h5 l' hl'
      · simp only [if_neg hyb] at h3
        omega
    · intro h3
      refine ⟨b,h3 l (List.mem_cons_self ..), ?_⟩
      have h5:=(next_zero b h2).2 fun l' hl'=>h3 l' (List.mem_cons_of_mem _ hl')
      simp only [if_pos]
      omega
def chgN (b:Bunk):List Bunk→Int
  |[]=>0
  |y :: r=>(if y=b then 0 else 1)+chgN y r
theorem walk_chg:∀ {L:List (List Bunk)} (b:Bunk),L.any (·.isEmpty)=false→chgN b (walkB L b)=(nextA L b).2
  |[],_,_=>rfl
  |l :: rest,b,h=>by
    have h1:l ≠ []:=by rintro rfl;simp at h
    have h2:rest.any (·.isEmpty)=false:=by
      rw [List.any_cons,Bool.or_eq_false_iff] at h;exact h.2
    obtain ⟨g1,g2⟩:=pkK_at (f:=fun y=>(nextA rest y).2+if y=b then 0 else 1) l.length (List.length_pos_iff.2 h1) (Nat.le_refl _)
    rw [walkB,chgN,walk_chg _ h2]
    rw [nextA]
    rw [g2]
    omega
theorem walk_in:∀ {L:List (List Bunk)} (b:Bunk),L.any (·.isEmpty)=false→∀ i,i < L.length→(walkB L b).getD i default ∈ L.getD i []
  |[],_,_,i,hi=>by simp at hi
  |l :: rest,b,h,i,hi=>by
    have h1:l ≠ []:=by rintro rfl;simp at h
    have h2:rest.any (·.isEmpty)=false:=by
      rw [List.any_cons,Bool.or_eq_false_iff] at h;exact h.2
    obtain ⟨g1,g2⟩:=pkK_at (f:=fun y=>(nextA rest y).2+if y=b then 0 else 1) l.length (List.length_pos_iff.2 h1) (Nat.le_refl _)
    rw [walkB]
    cases i with
    |zero=>exact g1
    |succ i=>exact walk_in _ h2 i (by simpa using hi)
def cgK (w:List Bunk):Nat→Nat
  |0=>0
  |i+1=>cgK w i+if 0 < i∧w.getD i default ≠ w.getD (i - 1) default then 1 else 0
theorem cgK_le (w:List Bunk):∀ i,cgK w i≤i
  |0=>Nat.le_refl _
  |i+1=>by have:=cgK_le w i;rw [cgK];split <;> omega
def prW (b:Bunk) (w:List Bunk) (i:Nat):Bunk:=if i=0 then b else w.getD (i - 1) default
theorem chg_sum (b:Bunk):∀ (w:List Bunk),∀ i,i≤w.length→chgN b w=chgN b (w.take i)+chgN (prW b w i) (w.drop i)
  |w,0,_=>by simp [chgN,prW]
  |[],i+1,h=>by simp at h
  |y :: r,i+1,h=>by
    rw [List.take_succ_cons,List.drop_succ_cons,chgN,chgN,chg_sum y r i (by simpa using h)]
    have:prW b (y :: r) (i+1)=prW y r i:=by
      unfold prW
      rw [if_neg (by omega)]
      cases i with
      |zero=>rfl
      |succ i=>rw [if_neg (by omega)];rfl
    rw [this];omega
theorem cg_chg {b:Bunk} {w:List Bunk} (h0:w.getD 0 default ≠ b):∀ i,0 < i→i≤w.length→chgN b (w.take i)=(cgK w i:Int)+1
  |0,h,_=>absurd h (Nat.lt_irrefl _)
  |i+1,_,hi=>by
    have hlt:i < w.length:=hi
    have hs:=chg_sum b (w.take (i+1)) i (by rw [List.length_take];omega)
    rw [List.take_take,Nat.min_eq_left (Nat.le_succ i)] at hs
    have hd:(w.take (i+1)).drop i=[w.getD i default]:=by
      rw [List.take_succ_eq_append_getElem hlt,List.drop_append_of_le_length (by rw [List.length_take];omega),List.drop_of_length_le (by rw [List.length_take];omega)]
      simp [List.getD_eq_getElem?_getD,hlt]
    have hp:prW b (w.take (i+1)) i=prW b w i:=by
      unfold prW
      split
      · rfl
      · simp [List.getD_eq_getElem?_getD,List.getElem?_take,show i - 1 < i+1 by omega]
    rw [hd,hp] at hs
    rw [hs,cgK]
    cases i with
    |zero =>
      simp only [List.take_zero,chgN,prW,if_pos,cgK]
      rw [if_neg h0,if_neg (fun h=>absurd h.1 (Nat.lt_irrefl _))]
      rfl
    |succ i =>
      rw [cg_chg h0 (i+1) (by omega) (by omega)]
      unfold prW
      rw [if_neg (by omega)]
      simp only [chgN]
      by_cases hq:w.getD (i+1) default=w.getD (i+1 - 1) default
      · rw [if_pos hq,if_neg (fun h=>h.2 hq)];omega
      · rw [if_neg hq,if_pos ⟨by omega,hq⟩];omega
theorem change_places {c:Chart} {a:Ask} (h:bothE c a=0) (h1:a.sexes.length=1):((openL c a).any (·.isEmpty)=true→placesA c a=[]) ∧
    ((openL c a).any (·.isEmpty)=false→((nextA (openL c a) ⟨-1,0⟩).2 - 1=0 ↔ placesA c a ≠ [])∧((nextA (openL c a) ⟨-1,0⟩).2 - 1=0→(placesA c a).getD 0 []=[(walkB (openL c a) ⟨-1,0⟩).getD 0 default])):=by
  have hv:=val_of (both_ok h).1
  have hw:=ask_way h
  have hwy:∀ x ∈ c.sold,x.frm < x.to:=fun x hx=>(hv.tk x hx).way
  have hP:placesA c a=((bunksL c.cabins).filter (fitB c a)).map fun b=>[b]:=by
    unfold placesA;rw [if_pos h];exact pl_fit h1
  have hfo:∀ b ∈ bunksL c.cabins,fitB c a b=true ↔ ∀ l ∈ openL c a,b ∈ l:=fun b hb=>fit_open h1 hwy hw.2.1 hb
  have hn:(openL c a).length=(a.to - a.frm).toNat:=openL_len c a
  have hsub:∀ l ∈ openL c a,∀ b ∈ l,b ∈ bunksL c.cabins:=fun l hl b hb=>by
    obtain ⟨i,hi,rfl⟩:=List.mem_map.1 hl
    rw [open_fit h1] at hb
    exact (List.mem_filter.1 hb).1
  have hcab:∀ l ∈ openL c a,∀ b ∈ l,b ≠ ⟨-1,0⟩:=fun l hl b hb=>by
    obtain ⟨i,k,g1,g2,rfl⟩:=bunk_mem.1 (hsub l hl b hb)
    intro h
    have:=congrArg Bunk.cab h
    simp only at this
    omega
  constructor
  · intro hE
    rw [hP]
    obtain ⟨l,hl,hl0⟩:=List.any_eq_true.1 hE
    have hl0:l=[]:=by simpa using hl0
    rw [List.map_eq_nil_iff,List.filter_eq_nil_iff]
    intro b hb hq
    have:=(hfo b hb).1 hq l hl
    rw [hl0] at this
    simp at this
  · intro hE
    have hL0:∃ rest,openL c a=openAt c a a.frm :: rest:=by
      unfold openL openK
      rw [show (a.to - a.frm).toNat=((a.to - a.frm).toNat - 1)+1 by omega,List.range_succ_eq_map,List.map_cons]
      refine ⟨(List.map Nat.succ (List.range ((a.to - a.frm).toNat - 1))).map fun (i:Nat)=>openAt c a (a.frm+i), ?_⟩
      show openAt c a (a.frm+((0:Nat):Int)) :: _=_
      rw [show a.frm+((0:Nat):Int)=a.frm by omega]
    obtain ⟨rest,hR⟩:=hL0
    have hr2:rest.any (·.isEmpty)=false:=by rw [hR,List.any_cons,Bool.or_eq_false_iff] at hE;exact hE.2
    have hr1:openAt c a a.frm ≠ []:=by
      intro h0;rw [hR,h0] at hE;simp at hE
    have hof:openAt c a a.frm=(bunksL c.cabins).filter (fitB c (oneA a a.frm)):=open_fit h1 _
    have hlpos:0 < (openAt c a a.frm).length:=List.length_pos_iff.2 hr1
    have hmo:∀ y ∈ openAt c a a.frm,y ∈ bunksL c.cabins∧y ≠ ⟨-1,0⟩:=fun y hy=>⟨hsub _ (by rw [hR];exact List.mem_cons_self ..) y hy,hcab _ (by rw [hR];exact List.mem_cons_self ..) y hy⟩
    have hnx:nextA (openL c a) ⟨-1,0⟩=pkK (fun y=>(nextA rest y).2+if y=⟨-1,0⟩ then 0 else 1) (openAt c a a.frm) (openAt c a a.frm).length:=by rw [hR,nextA]
    have hpk:∀ i,i≤(openAt c a a.frm).length→0 < i→(pkK (fun y=>(nextA rest y).2+if y=⟨-1,0⟩ then 0 else 1) (openAt c a a.frm) i).1=(pkK (fun y=>(nextA rest y).2) (openAt c a a.frm) i).1∧(pkK (fun y=>(nextA rest y).2+if y=⟨-1,0⟩ then 0 else 1) (openAt c a a.frm) i).2=(pkK (fun y=>(nextA rest y).2) (openAt c a a.frm) i).2+1:=by
      intro i
      induction i with
      |zero=>intro _ h;exact absurd h (Nat.lt_irrefl _)
      |succ i ih =>
        intro hi _
        have hy:=(hmo _ (gMem (d:=default) (show i < (openAt c a a.frm).length by omega))).2
        rw [pkK,pkK]
        simp only [if_neg hy]
        by_cases h0:i=0
        · rw [if_pos (.inl h0),if_pos (.inl h0)]
          exact ⟨rfl,rfl⟩
        · obtain ⟨i1,i2⟩:=ih (by omega) (by omega)
          rw [i2]
          by_cases hq:(nextA rest ((openAt c a a.frm).getD i default)).2 < (pkK (fun y=>(nextA rest y).2) (openAt c a a.frm) i).2
          · rw [if_pos (.inr (by omega)),if_pos (.inr hq)]
            exact ⟨rfl,rfl⟩
          · rw [if_neg (by rintro (h|h) <;> omega),if_neg (by rintro (h|h) <;> omega)]
            exact ⟨i1,i2⟩
    obtain ⟨hk1,hk2⟩:=hpk _ (Nat.le_refl _) hlpos
    have hf0:∀ y,0≤(nextA rest y).2:=fun y=>(nextA_bd rest y).1
    have hz:=pkK_zero (f:=fun y=>(nextA rest y).2) hf0 hr1
    have hall:∀ y,y ∈ openAt c a a.frm→((nextA rest y).2=0 ↔ fitB c a y=true):=fun y hy=>by
      rw [next_zero y hr2,hfo y (hmo y hy).1,hR]
      constructor
      · intro h l hl
        rcases List.mem_cons.1 hl with rfl|hl
        · exact hy
        · exact h l hl
      · intro h l hl
        exact h l (List.mem_cons_of_mem _ hl)
    have hin:∀ y ∈ bunksL c.cabins,fitB c a y=true→y ∈ openAt c a a.frm:=fun y hy hq=>(hfo y hy).1 hq _ (by rw [hR];exact List.mem_cons_self ..)
    have hff:(bunksL c.cabins).filter (fitB c a)=(openAt c a a.frm).filter (fun y=>decide ((nextA rest y).2=0)):=by
      rw [hof,List.filter_filter]
      refine List.filter_congr fun y hy=>?_
      cases hq:fitB c a y with
      |true =>
        have h2:=hin y hy hq
        have h3:=(hall y h2).2 hq
        rw [hof] at h2
        rw [decide_eq_true h3,(List.mem_filter.1 h2).2];rfl
      |false =>
        cases hq2:fitB c (oneA a a.frm) y with
        |false=>simp
        |true =>
          have h2:y ∈ openAt c a a.frm:=by rw [hof];exact List.mem_filter.2 ⟨hy,hq2⟩
          have h3:¬ (nextA rest y).2=0:=fun h=>by rw [(hall y h2).1 h] at hq;exact absurd hq (by decide)
          rw [decide_eq_false h3];rfl
    rw [hnx,hk2,hP,hff]
    refine ⟨?_,fun h0=>?_⟩
    · rw [show (pkK (fun y=>(nextA rest y).2) (openAt c a a.frm) (openAt c a a.frm).length).2+1 - 1=(pkK (fun y=>(nextA rest y).2) (openAt c a a.frm) (openAt c a a.frm).length).2 by omega,hz]
      simp
    · have h0:(pkK (fun y=>(nextA rest y).2) (openAt c a a.frm) (openAt c a a.frm).length).2=0:=by omega
      have hfi:=pkK_first (f:=fun y=>(nextA rest y).2) hf0 _ hlpos (Nat.le_refl _) h0
      rw [List.take_length] at hfi
      rw [hR,walkB,← hR,hnx,hk1]
      rw [← List.head?_filter] at hfi
      obtain ⟨t,ht⟩:=List.head?_eq_some_iff.1 hfi
      rw [ht];rfl
end Go.Sym.B
namespace Go.Sym.B
open Go Go.Sym Go.Proofs Go.Sym.C
def rpS (c:Chart) (a:Ask) (Al M:List (List Bunk)) (T:List (Nat × AV)):St:={ t:=asg (T++[(2,.ptr 0 0),(3,.ptr 1 0),(5,.row 3),(6,.row 2)]),h:=hasg [(0,.cells (cChart c)),(1,.cells (cAsk a)),(2,.row 37 1 (Al.map eBunks)),(3,.row 37 1 (M.map eBunks))],n:=4 }
theorem take_filt {α:Type} {p:α→Bool} {d:α} {l:List α} {i:Nat} (h:i < l.length):(l.take (i+1)).filter p=(l.take i).filter p++if p (l.getD i d) then [l.getD i d] else []:=by
  rw [List.take_succ_eq_append_getElem h,List.filter_append,List.getD_eq_getElem?_getD,List.getElem?_eq_getElem h]
  cases hp:p l[i] <;> simp [hp]
def tbE24_rplaces:=vj @ty3 (vj @ty22 (vj @ty28 (vj @ty31 (vj @ty33 (vj @ty37 (vj @ty49 (vj @ti3.eq_1 (vj @ti22.eq_1 (vj @ti28.eq_1 (vj @ti31.eq_1 (vj @ti33.eq_1 (vj @ti37.eq_1 @ti49.eq_1))))))))))))
def xbE24_1:=vj @aI.eq_1 (vj @aB.eq_1 (@mInt))
theorem rplaces_fn (c:Chart) (a:Ask) (hc:CarOk c) (hs:c.sold.length≤20) (ha:0 < a.sexes.length∧a.sexes.length≤3):FnV Try.prog 83 [aChart c,aAsk a] (aBunkss ((alL (bunksL c.cabins) a.sexes.length).filter (isPlaceB c a))):=by
  have env:Env (fun _=>True) Try.prog tyB (tab [(22,valE false srBunks),(21,fnE (pAl a.sexes.length)),(20,valE true sisPlace)]):=mkEnv ⟨erBunks,eAl (al_all _),eisPlace,trivial⟩
  refine Fn.of (A:=fun _=>True) (n0:=0) (D:=noD) (Fn0 Try.func83 rfl (fun vs w=>by kernel_rfl) (by kernel_rfl)) (by simp) (by simp [AV.ids,AV.idsL,aChart,cChart,aAsk,cAsk]) (fun i o h=>by cases h) (fun _ _ _ _=>trivial) noD_ok ?_
  have eC:(⟨c.cabins,c.secs,c.sold⟩:Chart)=c:=rfl
  have eA:(⟨a.party,a.frm,a.to,a.sexes,a.dog⟩:Ask)=a:=rfl
  have hmx:(100000:Nat)≤maxLen:=by decide
  have hbds:=hc.beds
  have hCar:=hc
  obtain ⟨ha1,ha2⟩:=ha
  have c6:c.cabins.length≤3:=hc.cabs.2
  have c7:∀ x ∈ c.cabins,x.beds≤3:=fun x hx=>(hbds x hx).2
  have c8:(bunksL c.cabins).length≤9:=bunks_n c6 hbds
  have c5:a.sexes.length≤20:=by omega
  have hA1:∀ p ∈ alL (bunksL c.cabins) a.sexes.length,p.length=a.sexes.length:=fun p hp=>alL_one p hp
  obtain ⟨Al,hAl⟩:∃ Al,alL (bunksL c.cabins) a.sexes.length=Al:=⟨_,rfl⟩
  have hAll:Al.length≤1000:=by
    rw [← hAl,alL_len]
    have h1:(bunksL c.cabins).length ^ a.sexes.length≤9 ^ a.sexes.length:=Nat.pow_le_pow_left c8 _
    have h2:9 ^ a.sexes.length≤9 ^ 3:=Nat.pow_le_pow_right (by decide) ha2
    omega
  rw [hAl] at hA1
  rw [hAl]
  repeat' (first|(apply nx;with_reducible constructor)|refine uq (by decide) ?_|((first|refine vx env fun Q hQ=>?_|refine vz fun Q hQ=>?_);simp only [vkt,seval,tbE24_rplaces,xbE24_1,aBunk,aBunks,aBunkss,eBunk,eBunks,gBunk,gBunks,rBunk,rBunks,eCabin,gCabin,mBunk,mCabin,mTk,aChart,cChart,aAsk,cAsk,rpS,srBunks,pAl,sisPlace,List.length_map,eC,eA,c6,c7,c8,ha2,hAl];(try simp only [ite_and]);(repeat' (first|with_reducible assumption|refine And.intro ?_ ?_|intro hp));all_goals (first|(refine hQ _ ?_;clear hQ Q)|(refine hQ _ (fun h=>?_) (fun h=>?_) <;> clear hQ Q <;> (try simp only [vki,reduceCtorEq] at h))|(refine vq ?_;kernel_rfl)|omega|assumption|with_reducible rfl|skip)))
  refine sym_loop (fun i:{ i:Nat // i≤Al.length }=>rpS c a Al ((Al.take i.1).filter (isPlaceB c a)) [(7,aI i.1)]) (fun i=>Al.length - i.1) ⟨0,Nat.zero_le _⟩ ?_ fun ⟨i,hi⟩=>?_
  · simp only [rpS,List.take_zero,List.filter_nil,List.cons_append,List.nil_append]
    (refine Le.ok (fun i=>if i=3 then none else some i) [] ?_;constructor;all_goals (try simp only [vle,vkt,seval,tbE24_rplaces,xbE24_1,aBunk,aBunks,aBunkss,eBunk,eBunks,gBunk,gBunks,rBunk,rBunks,eCabin,gCabin,mBunk,mCabin,mTk,aChart,cChart,aAsk,cAsk,rpS,srBunks,pAl,sisPlace,List.length_map]))
    all_goals first|rfl|(simp;done)|(intro i hi;rw [if_neg (by omega)];done)
  simp only at hi ⊢
  have hMl:((Al.take i).filter (isPlaceB c a)).length≤i:=Nat.le_trans (List.length_filter_le _ _) (by rw [List.length_take];omega)
  by_cases hil:i < Al.length
  · have d1:decide ((i:Int) < (Al.length:Int))=true:=decide_eq_true (by omega)
    have e9:IntKind.wrap .i64 ((i:Int)+1)=((i+1:Nat):Int):=by rw [wrap64 (by omega) (by omega)];rfl
    have i0:((i:Int)).toNat=i:=rfl
    have hS:=take_filt (p:=isPlaceB c a) (d:=[]) hil
    have hg:=hBunks hil
    have hpl:=hA1 (Al.getD i []) (gMem hil)
    obtain ⟨p,hp⟩:∃ p,Al.getD i []=p:=⟨_,rfl⟩
    obtain ⟨M,hM⟩:∃ M,(Al.take i).filter (isPlaceB c a)=M:=⟨_,rfl⟩
    rw [hp] at hg hS hpl
    rw [hM] at hS hMl
    have hm:M.length+1≤maxLen:=by omega
    have p1:p.length≤maxLen:=by omega
    simp only [rpS,hM,List.cons_append,List.nil_append]
    cases q:isPlaceB c a p with
    |true =>
      rw [q,if_pos rfl] at hS
      repeat' (first|(apply nx;with_reducible constructor)|refine uq (by decide) ?_|((first|refine vx env fun Q hQ=>?_|refine vz fun Q hQ=>?_);simp only [vkt,seval,tbE24_rplaces,xbE24_1,aBunk,aBunks,aBunkss,eBunk,eBunks,gBunk,gBunks,rBunk,rBunks,eCabin,gCabin,mBunk,mCabin,mTk,aChart,cChart,aAsk,cAsk,rpS,srBunks,pAl,sisPlace,List.length_map,d1,i0,hil,hp,hg,eC,eA,hCar,hs,ha1,c5,p1,q,e9,hm];(try simp only [ite_and]);(repeat' (first|with_reducible assumption|refine And.intro ?_ ?_|intro hp));all_goals (first|(refine hQ _ ?_;clear hQ Q)|(refine hQ _ (fun h=>?_) (fun h=>?_) <;> clear hQ Q <;> (try simp only [vki,reduceCtorEq] at h))|(refine vq ?_;kernel_rfl)|omega|assumption|with_reducible rfl|skip)))
      refine ⟨⟨i+1,hil⟩,by show Al.length - (i+1) < Al.length - i;omega, ?_⟩
      simp only [rpS,hS,List.cons_append,List.nil_append]
      (refine Le.ok (fun i=>if i=3 then some 5 else some i) [] ?_;constructor;all_goals (try simp only [vle,vkt,seval,tbE24_rplaces,xbE24_1,aBunk,aBunks,aBunkss,eBunk,eBunks,gBunk,gBunks,rBunk,rBunks,eCabin,gCabin,mBunk,mCabin,mTk,aChart,cChart,aAsk,cAsk,rpS,srBunks,pAl,sisPlace,List.length_map]))
      all_goals first|rfl|(rw [List.map_append];rfl)|(simp;done)|(intro i hi;rw [if_neg (by omega)];done)
    |false =>
      rw [q,if_neg (by decide),List.append_nil] at hS
      repeat' (first|(apply nx;with_reducible constructor)|refine uq (by decide) ?_|((first|refine vx env fun Q hQ=>?_|refine vz fun Q hQ=>?_);simp only [vkt,seval,tbE24_rplaces,xbE24_1,aBunk,aBunks,aBunkss,eBunk,eBunks,gBunk,gBunks,rBunk,rBunks,eCabin,gCabin,mBunk,mCabin,mTk,aChart,cChart,aAsk,cAsk,rpS,srBunks,pAl,sisPlace,List.length_map,d1,i0,hil,hp,hg,eC,eA,hCar,hs,ha1,c5,p1,q,e9];(try simp only [ite_and]);(repeat' (first|with_reducible assumption|refine And.intro ?_ ?_|intro hp));all_goals (first|(refine hQ _ ?_;clear hQ Q)|(refine hQ _ (fun h=>?_) (fun h=>?_) <;> clear hQ Q <;> (try simp only [vki,reduceCtorEq] at h))|(refine vq ?_;kernel_rfl)|omega|assumption|with_reducible rfl|skip)))
      refine ⟨⟨i+1,hil⟩,by show Al.length - (i+1) < Al.length - i;omega, ?_⟩
      simp only [rpS,hS,List.cons_append,List.nil_append]
      (refine Le.ok some [] ?_;constructor;all_goals (try simp only [vle,vkt,seval,tbE24_rplaces,xbE24_1,aBunk,aBunks,aBunkss,eBunk,eBunks,gBunk,gBunks,rBunk,rBunks,eCabin,gCabin,mBunk,mCabin,mTk,aChart,cChart,aAsk,cAsk,rpS,srBunks,pAl,sisPlace,List.length_map]))
      all_goals first|rfl|(simp;done)
  · have d1:decide ((i:Int) < (Al.length:Int))=false:=decide_eq_false (by omega)
    obtain rfl:i=Al.length:=by omega
    rw [List.take_length]
    simp only [rpS,List.cons_append,List.nil_append]
    repeat' (first|(apply nx;with_reducible constructor)|refine uq (by decide) ?_|((first|refine vx env fun Q hQ=>?_|refine vz fun Q hQ=>?_);simp only [vkt,seval,tbE24_rplaces,xbE24_1,aBunk,aBunks,aBunkss,eBunk,eBunks,gBunk,gBunks,rBunk,rBunks,eCabin,gCabin,mBunk,mCabin,mTk,aChart,cChart,aAsk,cAsk,rpS,srBunks,pAl,sisPlace,List.length_map,d1];(try simp only [ite_and]);(repeat' (first|with_reducible assumption|refine And.intro ?_ ?_|intro hp));all_goals (first|(refine hQ _ ?_;clear hQ Q)|(refine hQ _ (fun h=>?_) (fun h=>?_) <;> clear hQ Q <;> (try simp only [vki,reduceCtorEq] at h))|(refine vq ?_;kernel_rfl)|omega|assumption|with_reducible rfl|skip)))
    (simp only [vrt,Try.results83,vkt,seval,tbE24_rplaces,xbE24_1,aBunk,aBunks,aBunkss,eBunk,eBunks,gBunk,gBunks,rBunk,rBunks,eCabin,gCabin,mBunk,mCabin,mTk,aChart,cChart,aAsk,cAsk,rpS,srBunks,pAl,sisPlace,List.length_map];refine Fin.val rfl ?_;(try simp only [AV.le,AV.leL]))
    all_goals first|rfl|(simp;done)|exact ⟨_,_,rfl⟩
def srplaces:List AV→Prop × AV
  |[.agg [.sl c0,.v (.int .i64 c1),.sl c2],.agg [.v (.int .i64 a0),.v (.int .i64 a1),.v (.int .i64 a2),.sl a3,.v (.bool a4)]]=>(c0=(c0.map dCabin).map eCabin∧c2=(c2.map dTk).map eTk∧a3=(a3.map dInt).map eInt∧CarOk ((⟨(c0.map dCabin),c1,(c2.map dTk)⟩:Chart))∧((⟨(c0.map dCabin),c1,(c2.map dTk)⟩:Chart)).sold.length≤20∧0 < ((⟨a0,a1,a2,(a3.map dInt),a4⟩:Ask)).sexes.length∧((⟨a0,a1,a2,(a3.map dInt),a4⟩:Ask)).sexes.length≤3,aBunkss ((alL (bunksL ((⟨(c0.map dCabin),c1,(c2.map dTk)⟩:Chart)).cabins) ((⟨a0,a1,a2,(a3.map dInt),a4⟩:Ask)).sexes.length).filter (isPlaceB ((⟨(c0.map dCabin),c1,(c2.map dTk)⟩:Chart)) ((⟨a0,a1,a2,(a3.map dInt),a4⟩:Ask)))))
  |_=>(False,.junk)
theorem erplaces {A:Frm→Prop}:EntryOK A Try.prog 83 (valE false srplaces):=valE_ok fun vs hv h=>by
  clear hv
  unfold srplaces at h ⊢
  split at h
  · rename_i c0 c1 c2 a0 a1 a2 a3 a4;obtain ⟨q0,q1,q2,k0,k1,k2,k3⟩:=h
    refine ⟨by first|trivial|(simp [AV.plain,AV.plainL,aI,aB,aInts,aBunks,aTks,aBunk,aTk,cTk];done)|(repeat' split) <;> simp [AV.plain,AV.plainL,aI,aB,aInts,aBunks,aTks,aBunk,aTk,cTk],fun h=>absurd h (by decide), ?_⟩
    have:=rplaces_fn ((⟨(c0.map dCabin),c1,(c2.map dTk)⟩:Chart)) ((⟨a0,a1,a2,(a3.map dInt),a4⟩:Ask)) k0 k1 ⟨k2,k3⟩
    simp only [aAsk,aB,aCabins,aChart,aI,aInts,aTks,cAsk,cChart,← q0,← q1,← q2] at this
    first|exact this|(simp only [aAsk,aB,aCabins,aChart,aI,aInts,aTks,cAsk,cChart,← q0,← q1,← q2];exact this)
  · exact h.elim
theorem one_ok {c:Chart} {a:Ask} (h:bothE c a=0) {s:Int} (h1:a.frm≤s) (h2:s < a.to):bothE c (oneA a s)=0:=by
  have hw:=ask_way h
  obtain ⟨g1,g2⟩:=both_ok h
  unfold bothE
  rw [g1,if_neg (by decide)]
  unfold askE oneA at *
  split at g2
  · exact absurd g2 (by decide)
  rename_i k1
  split at g2
  · exact absurd g2 (by decide)
  rename_i k2
  split at g2
  · exact absurd g2 ‹_›
  have k4:wayE c.secs s (s+1)=0:=by unfold wayE;rw [if_neg (by omega)]
  rw [if_neg k1,if_neg k2,k4,if_neg (by decide)]
  exact g2
def opS (c:Chart) (a:Ask) (P:List (List Bunk)) (M:List Bunk) (T:List (Nat × AV)):St:={ t:=asg (T++[(7,aBunkss P),(8,.row 3)]),h:=hasg [(3,.row 49 2 (M.map eBunk))],n:=4 }
def tbE24_rOpen:=vj @ty3 (vj @ty28 (vj @ty31 (vj @ty33 (vj @ty37 (vj @ty49 (vj @ti3.eq_1 (vj @ti28.eq_1 (vj @ti31.eq_1 (vj @ti33.eq_1 (vj @ti37.eq_1 @ti49.eq_1))))))))))
def xbE24_2:=vj @aI.eq_1 (vj @aB.eq_1 (@mInt))
theorem rOpen_fn (c:Chart) (a:Ask) (s:Int) (h:bothE c (oneA a s)=0) (hs:0≤s∧s≤100):FnV Try.prog 30 [aChart c,aAsk a,aI s] (aBunks (openAt c a s)):=by
  have env:Env (fun _=>True) Try.prog tyB (tab [(83,valE false srplaces)]):=mkEnv ⟨erplaces,trivial⟩
  refine Fn.of (A:=fun _=>True) (n0:=0) (D:=noD) (Fn0 Try.func30 rfl (fun vs w=>by kernel_rfl) (by kernel_rfl)) (by simp) (by simp [AV.ids,AV.idsL,aChart,cChart,aAsk,cAsk,aI]) (fun i o h=>by cases h) (fun _ _ _ _=>trivial) noD_ok ?_
  have eC:(⟨c.cabins,c.secs,c.sold⟩:Chart)=c:=rfl
  have eA:(⟨a.party,s,s+1,a.sexes,a.dog⟩:Ask)=oneA a s:=rfl
  have hmx:(100000:Nat)≤maxLen:=by decide
  have hv:=val_of (both_ok h).1
  have hCar:=hv.car
  have c1:c.sold.length≤20:=by have:=hv.many;omega
  obtain ⟨hx1,hx2⟩:=sx_of (both_ok h).2
  have a1:0 < (oneA a s).sexes.length:=by omega
  have hP:=places_place h hx2
  have hb:=plP_bd (plOk_of h)
  have hP2:placesA c (oneA a s)=(plP c (oneA a s)).map (·.1):=by unfold placesA;rw [if_pos h]
  have hO:openAt c a s=(placesA c (oneA a s)).map fun p=>p.getD 0 default:=by
    rw [hP2,List.map_map];rfl
  have hl:(placesA c (oneA a s)).length≤1000:=by rw [hP2,List.length_map];omega
  have hne:∀ p ∈ placesA c (oneA a s),0 < p.length:=fun p hp=>by
    rw [hP] at hp
    have:=alL_one p (List.mem_filter.1 hp).1
    omega
  obtain ⟨P,hPe⟩:∃ P,placesA c (oneA a s)=P:=⟨_,rfl⟩
  rw [hPe] at hP hO hl hne
  rw [hO]
  have hP:(alL (bunksL c.cabins) a.sexes.length).filter (isPlaceB c (oneA a s))=P:=hP.symm
  have w1:IntKind.wrap .i64 (s+1)=s+1:=wrap64 (by omega) (by omega)
  repeat' (first|(apply nx;with_reducible constructor)|refine uq (by decide) ?_|((first|refine vx env fun Q hQ=>?_|refine vz fun Q hQ=>?_);simp only [vkt,seval,tbE24_rOpen,xbE24_2,aBunk,aBunks,aBunkss,eBunk,eBunks,gBunk,gBunks,rBunk,rBunks,eCabin,gCabin,mBunk,mCabin,mTk,aChart,cChart,aAsk,cAsk,opS,srplaces,List.length_map,w1,eC,eA,hCar,c1,a1,hx1,hP];(try simp only [ite_and]);(repeat' (first|with_reducible assumption|refine And.intro ?_ ?_|intro hp));all_goals (first|(refine hQ _ ?_;clear hQ Q)|(refine hQ _ (fun h=>?_) (fun h=>?_) <;> clear hQ Q <;> (try simp only [vki,reduceCtorEq] at h))|(refine vq ?_;kernel_rfl)|omega|assumption|with_reducible rfl|skip)))
  refine sym_loop (fun i:{ i:Nat // i≤P.length }=>opS c a P ((P.take i.1).map fun p=>p.getD 0 default) [(9,aI i.1)]) (fun i=>P.length - i.1) ⟨0,Nat.zero_le _⟩ ?_ fun ⟨i,hi⟩=>?_
  · simp only [opS,List.take_zero,List.map_nil,List.cons_append,List.nil_append]
    (refine Le.ok (fun i=>none) [] ?_;constructor;all_goals (try simp only [vle,vkt,seval,tbE24_rOpen,xbE24_2,aBunk,aBunks,aBunkss,eBunk,eBunks,gBunk,gBunks,rBunk,rBunks,eCabin,gCabin,mBunk,mCabin,mTk,aChart,cChart,aAsk,cAsk,opS,srplaces,List.length_map]))
    all_goals first|rfl|(simp;done)|(intro i hi;rw [if_neg (by omega)];done)
  simp only at hi ⊢
  by_cases hil:i < P.length
  · have d1:decide ((i:Int) < (P.length:Int))=true:=decide_eq_true (by omega)
    have e9:IntKind.wrap .i64 ((i:Int)+1)=((i+1:Nat):Int):=by rw [wrap64 (by omega) (by omega)];rfl
    have i0:((i:Int)).toNat=i:=rfl
    have hg:=hBunks hil
    have hpl:=hne (P.getD i []) (gMem hil)
    obtain ⟨p,hp⟩:∃ p,P.getD i []=p:=⟨_,rfl⟩
    rw [hp] at hg hpl
    have hS:(P.take (i+1)).map (fun p=>p.getD 0 default)=(P.take i).map (fun p=>p.getD 0 default)++[p.getD 0 default]:=by
      rw [List.take_succ_eq_append_getElem hil,List.map_append,← hp]
      simp [List.getD_eq_getElem?_getD,hil]
    have hMl:((P.take i).map fun p=>p.getD 0 default).length≤i:=by rw [List.length_map,List.length_take];omega
    obtain ⟨M,hM⟩:∃ M,(P.take i).map (fun p=>p.getD 0 default)=M:=⟨_,rfl⟩
    obtain ⟨b,hb⟩:∃ b,p.getD 0 default=b:=⟨_,rfl⟩
    rw [hM,hb] at hS
    rw [hM] at hMl
    have hm:M.length+1≤maxLen:=by omega
    simp only [opS,hM,List.cons_append,List.nil_append]
    repeat' (first|(apply nx;with_reducible constructor)|refine uq (by decide) ?_|((first|refine vx env fun Q hQ=>?_|refine vz fun Q hQ=>?_);simp only [vkt,seval,tbE24_rOpen,xbE24_2,aBunk,aBunks,aBunkss,eBunk,eBunks,gBunk,gBunks,rBunk,rBunks,eCabin,gCabin,mBunk,mCabin,mTk,aChart,cChart,aAsk,cAsk,opS,srplaces,List.length_map,d1,i0,hil,hp,hg,hpl,hb,e9,hm];(try simp only [ite_and]);(repeat' (first|with_reducible assumption|refine And.intro ?_ ?_|intro hp));all_goals (first|(refine hQ _ ?_;clear hQ Q)|(refine hQ _ (fun h=>?_) (fun h=>?_) <;> clear hQ Q <;> (try simp only [vki,reduceCtorEq] at h))|(refine vq ?_;kernel_rfl)|omega|assumption|with_reducible rfl|skip)))
    refine ⟨⟨i+1,hil⟩,by show P.length - (i+1) < P.length - i;omega, ?_⟩
    simp only [opS,hS,List.cons_append,List.nil_append]
    (refine Le.ok (fun i=>if i=3 then some 5 else none) [] ?_;constructor;all_goals (try simp only [vle,vkt,seval,tbE24_rOpen,xbE24_2,aBunk,aBunks,aBunkss,eBunk,eBunks,gBunk,gBunks,rBunk,rBunks,eCabin,gCabin,mBunk,mCabin,mTk,aChart,cChart,aAsk,cAsk,opS,srplaces,List.length_map]))
    all_goals first|rfl|(rw [List.map_append];rfl)|(simp;done)|(intro i hi;rw [if_neg (by omega)];done)
  · have d1:decide ((i:Int) < (P.length:Int))=false:=decide_eq_false (by omega)
    obtain rfl:i=P.length:=by omega
    rw [List.take_length]
    simp only [opS,List.cons_append,List.nil_append]
    repeat' (first|(apply nx;with_reducible constructor)|refine uq (by decide) ?_|((first|refine vx env fun Q hQ=>?_|refine vz fun Q hQ=>?_);simp only [vkt,seval,tbE24_rOpen,xbE24_2,aBunk,aBunks,aBunkss,eBunk,eBunks,gBunk,gBunks,rBunk,rBunks,eCabin,gCabin,mBunk,mCabin,mTk,aChart,cChart,aAsk,cAsk,opS,srplaces,List.length_map,d1];(try simp only [ite_and]);(repeat' (first|with_reducible assumption|refine And.intro ?_ ?_|intro hp));all_goals (first|(refine hQ _ ?_;clear hQ Q)|(refine hQ _ (fun h=>?_) (fun h=>?_) <;> clear hQ Q <;> (try simp only [vki,reduceCtorEq] at h))|(refine vq ?_;kernel_rfl)|omega|assumption|with_reducible rfl|skip)))
    (simp only [vrt,Try.results30,vkt,seval,tbE24_rOpen,xbE24_2,aBunk,aBunks,aBunkss,eBunk,eBunks,gBunk,gBunks,rBunk,rBunks,eCabin,gCabin,mBunk,mCabin,mTk,aChart,cChart,aAsk,cAsk,opS,srplaces,List.length_map];refine Fin.val rfl ?_;(try simp only [AV.le,AV.leL]))
    all_goals first|rfl|(simp;done)|exact ⟨_,_,rfl⟩
def srOpen:List AV→Prop × AV
  |[.agg [.sl c0,.v (.int .i64 c1),.sl c2],.agg [.v (.int .i64 a0),.v (.int .i64 a1),.v (.int .i64 a2),.sl a3,.v (.bool a4)],.v (.int .i64 s)]=>(c0=(c0.map dCabin).map eCabin∧c2=(c2.map dTk).map eTk∧a3=(a3.map dInt).map eInt∧bothE ((⟨(c0.map dCabin),c1,(c2.map dTk)⟩:Chart)) (oneA ((⟨a0,a1,a2,(a3.map dInt),a4⟩:Ask)) s)=0∧0≤s∧s≤100,aBunks (openAt ((⟨(c0.map dCabin),c1,(c2.map dTk)⟩:Chart)) ((⟨a0,a1,a2,(a3.map dInt),a4⟩:Ask)) s))
  |_=>(False,.junk)
theorem erOpen {A:Frm→Prop}:EntryOK A Try.prog 30 (valE false srOpen):=valE_ok fun vs hv h=>by
  clear hv
  unfold srOpen at h ⊢
  split at h
  · rename_i c0 c1 c2 a0 a1 a2 a3 a4 s;obtain ⟨q0,q1,q2,k0,k1,k2⟩:=h
    refine ⟨by first|trivial|(simp [AV.plain,AV.plainL,aI,aB,aInts,aBunks,aTks,aBunk,aTk,cTk];done)|(repeat' split) <;> simp [AV.plain,AV.plainL,aI,aB,aInts,aBunks,aTks,aBunk,aTk,cTk],fun h=>absurd h (by decide), ?_⟩
    have:=rOpen_fn ((⟨(c0.map dCabin),c1,(c2.map dTk)⟩:Chart)) ((⟨a0,a1,a2,(a3.map dInt),a4⟩:Ask)) s k0 ⟨k1,k2⟩
    simp only [aAsk,aB,aCabins,aChart,aI,aInts,aTks,cAsk,cChart,← q0,← q1,← q2] at this
    first|exact this|(simp only [aAsk,aB,aCabins,aChart,aI,aInts,aTks,cAsk,cChart,← q0,← q1,← q2];exact this)
  · exact h.elim
theorem fwK_bd {f:Bunk→Int} {l:List Bunk} {n:Int} (hn:-1≤n) (h:∀ y ∈ l,-1≤f y∧f y≤n):∀ i,i≤l.length→-1≤fwK f l i∧fwK f l i≤n
  |0,_=>⟨Int.le_refl _,hn⟩
  |i+1,hi=>by
    have h1:=fwK_bd hn h i (by omega)
    have h2:=h _ (gMem (d:=default) (show i < l.length by omega))
    rw [fwK]
    split
    · exact h1
    · split
      · exact h2
      · exact h1
theorem few_bd:∀ (L:List (List Bunk)) (b:Bunk),-1≤fewA L b∧fewA L b≤(L.length:Int)
  |[],_=>by simp [fewA]
  |l :: rest,b=>by
    rw [fewA]
    refine fwK_bd (by omega) (fun y _=>?_) _ (Nat.le_refl _)
    have:=few_bd rest y
    rw [List.length_cons]
    split
    · omega
    · split <;> omega
def FewFn (L:List (List Bunk)):Prop:=∀ b:Bunk,FnV Try.prog 31 [aBunkss L,aBunk b] (aI (fewA L b))
def sFew (L:List (List Bunk)):List AV→Prop × AV
  |[.sl xs,.agg [.v (.int .i64 a),.v (.int .i64 b)]]=>(xs=L.map eBunks,aI (fewA L ⟨a,b⟩))
  |_=>(False,.junk)
theorem eFew {A:Frm→Prop} {L:List (List Bunk)} (ih:FewFn L):EntryOK A Try.prog 31 (valE true (sFew L)):=valE_ok fun vs hv h=>by
  clear hv
  unfold sFew at h ⊢
  split at h
  · rename_i xs a b
    have h:xs=L.map eBunks:=h
    subst h
    refine ⟨by simp [AV.plain,aI],fun _=>by simp [AV.flat,aI], ?_⟩
    exact ih ⟨a,b⟩
  · exact h.elim
def fwF (rest:List (List Bunk)) (b y:Bunk):Int:=if fewA rest y < 0 then -1 else if upB b y then fewA rest y+1 else fewA rest y
def fwS (l:List Bunk) (rest:List (List Bunk)) (b:Bunk) (n:Int) (i:Nat):St:={ t:=asg [(0,.sl (eBunks l :: rest.map eBunks)),(3,.ptr 0 0),(5,aI n),(6,aI i)],h:=hasg [(0,.cells [.v (.int .i64 b.cab),.v (.int .i64 b.bed)])],n:=1 }
def tbE24_few:=vj @ty3 (vj @ty33 (vj @ty37 (vj @ty49 (vj @ti3.eq_1 (vj @ti33.eq_1 (vj @ti37.eq_1 @ti49.eq_1))))))
def xbE24_3:=vj @aI.eq_1 (@aB.eq_1)
theorem few_nil:FewFn []:=by
  intro b
  have env:Env (fun _=>True) Try.prog tyB (tab []):=mkEnv trivial
  refine Fn.of (A:=fun _=>True) (n0:=0) (D:=noD) (Fn0 Try.func31 rfl (fun vs w=>by kernel_rfl) (by kernel_rfl)) (by simp) (by simp [AV.ids,AV.idsL,aBunkss,aBunk]) (fun i o h=>by cases h) (fun _ _ _ _=>trivial) noD_ok ?_
  have e0:aBunkss []=.sl []:=rfl
  have d0:decide (((([]:List (List DV)).length:Nat):Int)=0)=true:=rfl
  rw [e0]
  repeat' (first|(apply nx;with_reducible constructor)|refine uq (by decide) ?_|((first|refine vx env fun Q hQ=>?_|refine vz fun Q hQ=>?_);simp only [vkt,seval,tbE24_few,xbE24_3,aBunk,eBunk,eBunks,gBunk,rBunks,rowsOK_cons,mBunk,fwS,sFew,List.length_map,List.length_cons,List.map_cons,List.getD_cons_zero,List.drop_succ_cons,List.drop_zero,d0,List.length_nil,decide_true];(try simp only [ite_and]);(repeat' (first|with_reducible assumption|refine And.intro ?_ ?_|intro hp));all_goals (first|(refine hQ _ ?_;clear hQ Q)|(refine hQ _ (fun h=>?_) (fun h=>?_) <;> clear hQ Q <;> (try simp only [vki,reduceCtorEq] at h))|(refine vq ?_;kernel_rfl)|omega|assumption|with_reducible rfl|skip)))
  (simp only [vrt,Try.results31,vkt,seval,tbE24_few,xbE24_3,aBunk,eBunk,eBunks,gBunk,rBunks,rowsOK_cons,mBunk,fwS,sFew,List.length_map,List.length_cons,List.map_cons,List.getD_cons_zero,List.drop_succ_cons,List.drop_zero];refine Fin.val rfl ?_;(try simp only [AV.le,AV.leL]))
  all_goals first|rfl|(simp [fewA];done)
set_option maxHeartbeats 4000000 in
theorem few_cons (l:List Bunk) (rest:List (List Bunk)) (hl:l.length≤100000) (hr:rest.length≤1000) (ih:FewFn rest):FewFn (l :: rest):=by
  intro b
  have env:Env (fun _=>True) Try.prog tyB (tab [(31,valE true (sFew rest))]):=mkEnv ⟨eFew ih,trivial⟩
  refine Fn.of (A:=fun _=>True) (n0:=0) (D:=noD) (Fn0 Try.func31 rfl (fun vs w=>by kernel_rfl) (by kernel_rfl)) (by simp) (by simp [AV.ids,AV.idsL,aBunkss,aBunk]) (fun i o h=>by cases h) (fun _ _ _ _=>trivial) noD_ok ?_
  have e0:aBunkss (l :: rest)=.sl (eBunks l :: rest.map eBunks):=rfl
  have e1:fewA (l :: rest) b=fwK (fwF rest b) l l.length:=rfl
  have hmx:(100000:Nat)≤maxLen:=by decide
  have d0:decide ((((eBunks l :: rest.map eBunks).length:Nat):Int)=0)=false:=decide_eq_false (by rw [List.length_cons];omega)
  have d9:decide ((((rest.length+1):Nat):Int)=0)=false:=decide_eq_false (by omega)
  have z1:(0:Nat) < rest.length+1:=by omega
  have z2:(1:Int)≤((rest.length+1:Nat):Int):=by omega
  have z3:(List.take (rest.length+1) (eBunks l :: rest.map eBunks))=eBunks l :: rest.map eBunks:=List.take_of_length_le (by simp)
  have z5:List.take rest.length (rest.map eBunks)=rest.map eBunks:=List.take_of_length_le (by simp)
  have z4:(((rest.length+1:Nat):Int)).toNat=rest.length+1:=rfl
  rw [e0,e1]
  repeat' (first|(apply nx;with_reducible constructor)|refine uq (by decide) ?_|((first|refine vx env fun Q hQ=>?_|refine vz fun Q hQ=>?_);simp only [vkt,seval,tbE24_few,xbE24_3,aBunk,eBunk,eBunks,gBunk,rBunks,rowsOK_cons,mBunk,fwS,sFew,List.length_map,List.length_cons,List.map_cons,List.getD_cons_zero,List.drop_succ_cons,List.drop_zero,d0,d9];(try simp only [ite_and]);(repeat' (first|with_reducible assumption|refine And.intro ?_ ?_|intro hp));all_goals (first|(refine hQ _ ?_;clear hQ Q)|(refine hQ _ (fun h=>?_) (fun h=>?_) <;> clear hQ Q <;> (try simp only [vki,reduceCtorEq] at h))|(refine vq ?_;kernel_rfl)|omega|assumption|with_reducible rfl|skip)))
  refine sym_loop (fun i:{ i:Nat // i≤l.length }=>fwS l rest b (fwK (fwF rest b) l i.1) i.1) (fun i=>l.length - i.1) ⟨0,Nat.zero_le _⟩ ?_ fun ⟨i,hi⟩=>?_
  · simp only [fwS,show fwK (fwF rest b) l 0=-1 from rfl]
    (refine Le.ok some [] ?_;constructor;all_goals (try simp only [vle,vkt,seval,tbE24_few,xbE24_3,aBunk,eBunk,eBunks,gBunk,rBunks,rowsOK_cons,mBunk,fwS,sFew,List.length_map,List.length_cons,List.map_cons,List.getD_cons_zero,List.drop_succ_cons,List.drop_zero]))
    all_goals first|rfl|(simp;done)
  simp only at hi ⊢
  have hS:fwK (fwF rest b) l (i+1)=if fwF rest b (l.getD i default) < 0 then fwK (fwF rest b) l i else if fwK (fwF rest b) l i < 0∨fwF rest b (l.getD i default) < fwK (fwF rest b) l i then fwF rest b (l.getD i default) else fwK (fwF rest b) l i:=rfl
  obtain ⟨n,hn⟩:∃ n,fwK (fwF rest b) l i=n:=⟨_,rfl⟩
  rw [hn] at hS
  simp only [fwS,hn]
  by_cases hil:i < l.length
  · have d1:decide ((i:Int) < (l.length:Int))=true:=decide_eq_true (by omega)
    have e9:IntKind.wrap .i64 ((i:Int)+1)=((i+1:Nat):Int):=by rw [wrap64 (by omega) (by omega)];rfl
    have i0:((i:Int)).toNat=i:=rfl
    obtain ⟨y,hy⟩:∃ y,l.getD i default=y:=⟨_,rfl⟩
    have ey:(⟨y.cab,y.bed⟩:Bunk)=y:=rfl
    rw [hy] at hS
    have hfb:=few_bd rest y
    have hfw:fwF rest b y=if fewA rest y < 0 then -1 else if upB b y then fewA rest y+1 else fewA rest y:=rfl
    obtain ⟨m,hm⟩:∃ m,fewA rest y=m:=⟨_,rfl⟩
    rw [hm] at hfb hfw
    have fin:∀ S n',fwK (fwF rest b) l (i+1)=n'→Le S (fwS l rest b n' (i+1))→∃ y:{ i:Nat // i≤l.length },(l.length - y.1 < l.length - i)∧Le S (fwS l rest b (fwK (fwF rest b) l y.1) y.1):=fun S n' h hle=>⟨⟨i+1,hil⟩,by show l.length - (i+1) < l.length - i;omega,by simp only [h];exact hle⟩
    by_cases hm0:m < 0
    · have d2:decide (m < 0)=true:=decide_eq_true hm0
      rw [hfw,if_pos hm0,if_pos (by decide)] at hS
      repeat' (first|(apply nx;with_reducible constructor)|refine uq (by decide) ?_|((first|refine vx env fun Q hQ=>?_|refine vz fun Q hQ=>?_);simp only [vkt,seval,tbE24_few,xbE24_3,aBunk,eBunk,eBunks,gBunk,rBunks,rowsOK_cons,mBunk,fwS,sFew,List.length_map,List.length_cons,List.map_cons,List.getD_cons_zero,List.drop_succ_cons,List.drop_zero,d1,e9,i0,hil,hy,ey,hm,d2,z1,z2,z3,z4,z5];(try simp only [ite_and]);(repeat' (first|with_reducible assumption|refine And.intro ?_ ?_|intro hp));all_goals (first|(refine hQ _ ?_;clear hQ Q)|(refine hQ _ (fun h=>?_) (fun h=>?_) <;> clear hQ Q <;> (try simp only [vki,reduceCtorEq] at h))|(refine vq ?_;kernel_rfl)|omega|assumption|with_reducible rfl|skip)))
      refine fin _ _ hS ?_
      simp only [fwS]
      (refine Le.ok some [] ?_;constructor;all_goals (try simp only [vle,vkt,seval,tbE24_few,xbE24_3,aBunk,eBunk,eBunks,gBunk,rBunks,rowsOK_cons,mBunk,fwS,sFew,List.length_map,List.length_cons,List.map_cons,List.getD_cons_zero,List.drop_succ_cons,List.drop_zero]))
      all_goals first|rfl|(simp;done)
    · have d2:decide (m < 0)=false:=decide_eq_false hm0
      rw [if_neg hm0] at hfw
      have hup:upB b y=(decide (0≤b.cab) && !(decide (b.cab=y.cab) && decide (b.bed=y.bed))):=by
        unfold upB
        congr 2
        cases b;cases y;rw [Bool.eq_iff_iff];simp
      have w1:IntKind.wrap .i64 (m+1)=m+1:=wrap64 (by omega) (by omega)
      by_cases hn0:n < 0
      · have d3:decide (n < 0)=true:=decide_eq_true hn0
        cases q1:decide (0≤b.cab) with
        |false =>
          rw [hup,q1,Bool.false_and,if_neg (by decide)] at hfw
          rw [hfw,if_neg hm0,if_pos (.inl hn0)] at hS
          repeat' (first|(apply nx;with_reducible constructor)|refine uq (by decide) ?_|((first|refine vx env fun Q hQ=>?_|refine vz fun Q hQ=>?_);simp only [vkt,seval,tbE24_few,xbE24_3,aBunk,eBunk,eBunks,gBunk,rBunks,rowsOK_cons,mBunk,fwS,sFew,List.length_map,List.length_cons,List.map_cons,List.getD_cons_zero,List.drop_succ_cons,List.drop_zero,d1,e9,i0,hil,hy,ey,hm,d2,d3,q1,z1,z2,z3,z4,z5];(try simp only [ite_and]);(repeat' (first|with_reducible assumption|refine And.intro ?_ ?_|intro hp));all_goals (first|(refine hQ _ ?_;clear hQ Q)|(refine hQ _ (fun h=>?_) (fun h=>?_) <;> clear hQ Q <;> (try simp only [vki,reduceCtorEq] at h))|(refine vq ?_;kernel_rfl)|omega|assumption|with_reducible rfl|skip)))
          refine fin _ _ hS ?_
          simp only [fwS]
          (refine Le.ok some [] ?_;constructor;all_goals (try simp only [vle,vkt,seval,tbE24_few,xbE24_3,aBunk,eBunk,eBunks,gBunk,rBunks,rowsOK_cons,mBunk,fwS,sFew,List.length_map,List.length_cons,List.map_cons,List.getD_cons_zero,List.drop_succ_cons,List.drop_zero]))
          all_goals first|rfl|(simp;done)
        |true =>
          cases q2:(decide (b.cab=y.cab) && decide (b.bed=y.bed)) with
          |true =>
            rw [hup,q1,q2,if_neg (by decide)] at hfw
            rw [hfw,if_neg hm0,if_pos (.inl hn0)] at hS
            repeat' (first|(apply nx;with_reducible constructor)|refine uq (by decide) ?_|((first|refine vx env fun Q hQ=>?_|refine vz fun Q hQ=>?_);simp only [vkt,seval,tbE24_few,xbE24_3,aBunk,eBunk,eBunks,gBunk,rBunks,rowsOK_cons,mBunk,fwS,sFew,List.length_map,List.length_cons,List.map_cons,List.getD_cons_zero,List.drop_succ_cons,List.drop_zero,d1,e9,i0,hil,hy,ey,hm,d2,d3,q1,q2,z1,z2,z3,z4,z5];(try simp only [ite_and]);(repeat' (first|with_reducible assumption|refine And.intro ?_ ?_|intro hp));all_goals (first|(refine hQ _ ?_;clear hQ Q)|(refine hQ _ (fun h=>?_) (fun h=>?_) <;> clear hQ Q <;> (try simp only [vki,reduceCtorEq] at h))|(refine vq ?_;kernel_rfl)|omega|assumption|with_reducible rfl|skip)))
            refine fin _ _ hS ?_
            simp only [fwS]
            (refine Le.ok some [] ?_;constructor;all_goals (try simp only [vle,vkt,seval,tbE24_few,xbE24_3,aBunk,eBunk,eBunks,gBunk,rBunks,rowsOK_cons,mBunk,fwS,sFew,List.length_map,List.length_cons,List.map_cons,List.getD_cons_zero,List.drop_succ_cons,List.drop_zero]))
            all_goals first|rfl|(simp;done)
          |false =>
            rw [hup,q1,q2,if_pos (by decide)] at hfw
            rw [hfw,if_neg (by omega),if_pos (.inl hn0)] at hS
            repeat' (first|(apply nx;with_reducible constructor)|refine uq (by decide) ?_|((first|refine vx env fun Q hQ=>?_|refine vz fun Q hQ=>?_);simp only [vkt,seval,tbE24_few,xbE24_3,aBunk,eBunk,eBunks,gBunk,rBunks,rowsOK_cons,mBunk,fwS,sFew,List.length_map,List.length_cons,List.map_cons,List.getD_cons_zero,List.drop_succ_cons,List.drop_zero,d1,e9,i0,hil,hy,ey,hm,d2,d3,q1,q2,z1,z2,z3,z4,z5,w1];(try simp only [ite_and]);(repeat' (first|with_reducible assumption|refine And.intro ?_ ?_|intro hp));all_goals (first|(refine hQ _ ?_;clear hQ Q)|(refine hQ _ (fun h=>?_) (fun h=>?_) <;> clear hQ Q <;> (try simp only [vki,reduceCtorEq] at h))|(refine vq ?_;kernel_rfl)|omega|assumption|with_reducible rfl|skip)))
            refine fin _ _ hS ?_
            simp only [fwS]
            (refine Le.ok some [] ?_;constructor;all_goals (try simp only [vle,vkt,seval,tbE24_few,xbE24_3,aBunk,eBunk,eBunks,gBunk,rBunks,rowsOK_cons,mBunk,fwS,sFew,List.length_map,List.length_cons,List.map_cons,List.getD_cons_zero,List.drop_succ_cons,List.drop_zero]))
            all_goals first|rfl|(simp;done)
      · have d3:decide (n < 0)=false:=decide_eq_false hn0
        cases q1:decide (0≤b.cab) with
        |false =>
          rw [hup,q1,Bool.false_and,if_neg (by decide)] at hfw
          rw [hfw,if_neg hm0] at hS
          by_cases hmn:m < n
          · have d4:decide (m < n)=true:=decide_eq_true hmn
            rw [if_pos (.inr hmn)] at hS
            repeat' (first|(apply nx;with_reducible constructor)|refine uq (by decide) ?_|((first|refine vx env fun Q hQ=>?_|refine vz fun Q hQ=>?_);simp only [vkt,seval,tbE24_few,xbE24_3,aBunk,eBunk,eBunks,gBunk,rBunks,rowsOK_cons,mBunk,fwS,sFew,List.length_map,List.length_cons,List.map_cons,List.getD_cons_zero,List.drop_succ_cons,List.drop_zero,d1,e9,i0,hil,hy,ey,hm,d2,d3,d4,q1,z1,z2,z3,z4,z5];(try simp only [ite_and]);(repeat' (first|with_reducible assumption|refine And.intro ?_ ?_|intro hp));all_goals (first|(refine hQ _ ?_;clear hQ Q)|(refine hQ _ (fun h=>?_) (fun h=>?_) <;> clear hQ Q <;> (try simp only [vki,reduceCtorEq] at h))|(refine vq ?_;kernel_rfl)|omega|assumption|with_reducible rfl|skip)))
            refine fin _ _ hS ?_
            simp only [fwS]
            (refine Le.ok some [] ?_;constructor;all_goals (try simp only [vle,vkt,seval,tbE24_few,xbE24_3,aBunk,eBunk,eBunks,gBunk,rBunks,rowsOK_cons,mBunk,fwS,sFew,List.length_map,List.length_cons,List.map_cons,List.getD_cons_zero,List.drop_succ_cons,List.drop_zero]))
            all_goals first|rfl|(simp;done)
          · have d4:decide (m < n)=false:=decide_eq_false hmn
            rw [if_neg (by rintro (h|h) <;> omega)] at hS
            repeat' (first|(apply nx;with_reducible constructor)|refine uq (by decide) ?_|((first|refine vx env fun Q hQ=>?_|refine vz fun Q hQ=>?_);simp only [vkt,seval,tbE24_few,xbE24_3,aBunk,eBunk,eBunks,gBunk,rBunks,rowsOK_cons,mBunk,fwS,sFew,List.length_map,List.length_cons,List.map_cons,List.getD_cons_zero,List.drop_succ_cons,List.drop_zero,d1,e9,i0,hil,hy,ey,hm,d2,d3,d4,q1,z1,z2,z3,z4,z5];(try simp only [ite_and]);(repeat' (first|with_reducible assumption|refine And.intro ?_ ?_|intro hp));all_goals (first|(refine hQ _ ?_;clear hQ Q)|(refine hQ _ (fun h=>?_) (fun h=>?_) <;> clear hQ Q <;> (try simp only [vki,reduceCtorEq] at h))|(refine vq ?_;kernel_rfl)|omega|assumption|with_reducible rfl|skip)))
            refine fin _ _ hS ?_
            simp only [fwS]
            (refine Le.ok some [] ?_;constructor;all_goals (try simp only [vle,vkt,seval,tbE24_few,xbE24_3,aBunk,eBunk,eBunks,gBunk,rBunks,rowsOK_cons,mBunk,fwS,sFew,List.length_map,List.length_cons,List.map_cons,List.getD_cons_zero,List.drop_succ_cons,List.drop_zero]))
            all_goals first|rfl|(simp;done)
        |true =>
          cases q2:(decide (b.cab=y.cab) && decide (b.bed=y.bed)) with
          |true =>
            rw [hup,q1,q2,if_neg (by decide)] at hfw
            rw [hfw,if_neg hm0] at hS
            by_cases hmn:m < n
            · have d4:decide (m < n)=true:=decide_eq_true hmn
              rw [if_pos (.inr hmn)] at hS
              repeat' (first|(apply nx;with_reducible constructor)|refine uq (by decide) ?_|((first|refine vx env fun Q hQ=>?_|refine vz fun Q hQ=>?_);simp only [vkt,seval,tbE24_few,xbE24_3,aBunk,eBunk,eBunks,gBunk,rBunks,rowsOK_cons,mBunk,fwS,sFew,List.length_map,List.length_cons,List.map_cons,List.getD_cons_zero,List.drop_succ_cons,List.drop_zero,d1,e9,i0,hil,hy,ey,hm,d2,d3,d4,q1,q2,z1,z2,z3,z4,z5];(try simp only [ite_and]);(repeat' (first|with_reducible assumption|refine And.intro ?_ ?_|intro hp));all_goals (first|(refine hQ _ ?_;clear hQ Q)|(refine hQ _ (fun h=>?_) (fun h=>?_) <;> clear hQ Q <;> (try simp only [vki,reduceCtorEq] at h))|(refine vq ?_;kernel_rfl)|omega|assumption|with_reducible rfl|skip)))
              refine fin _ _ hS ?_
              simp only [fwS]
              (refine Le.ok some [] ?_;constructor;all_goals (try simp only [vle,vkt,seval,tbE24_few,xbE24_3,aBunk,eBunk,eBunks,gBunk,rBunks,rowsOK_cons,mBunk,fwS,sFew,List.length_map,List.length_cons,List.map_cons,List.getD_cons_zero,List.drop_succ_cons,List.drop_zero]))
              all_goals first|rfl|(simp;done)
            · have d4:decide (m < n)=false:=decide_eq_false hmn
              rw [if_neg (by rintro (h|h) <;> omega)] at hS
              repeat' (first|(apply nx;with_reducible constructor)|refine uq (by decide) ?_|((first|refine vx env fun Q hQ=>?_|refine vz fun Q hQ=>?_);simp only [vkt,seval,tbE24_few,xbE24_3,aBunk,eBunk,eBunks,gBunk,rBunks,rowsOK_cons,mBunk,fwS,sFew,List.length_map,List.length_cons,List.map_cons,List.getD_cons_zero,List.drop_succ_cons,List.drop_zero,d1,e9,i0,hil,hy,ey,hm,d2,d3,d4,q1,q2,z1,z2,z3,z4,z5];(try simp only [ite_and]);(repeat' (first|with_reducible assumption|refine And.intro ?_ ?_|intro hp));all_goals (first|(refine hQ _ ?_;clear hQ Q)|(refine hQ _ (fun h=>?_) (fun h=>?_) <;> clear hQ Q <;> (try simp only [vki,reduceCtorEq] at h))|(refine vq ?_;kernel_rfl)|omega|assumption|with_reducible rfl|skip)))
              refine fin _ _ hS ?_
              simp only [fwS]
              (refine Le.ok some [] ?_;constructor;all_goals (try simp only [vle,vkt,seval,tbE24_few,xbE24_3,aBunk,eBunk,eBunks,gBunk,rBunks,rowsOK_cons,mBunk,fwS,sFew,List.length_map,List.length_cons,List.map_cons,List.getD_cons_zero,List.drop_succ_cons,List.drop_zero]))
              all_goals first|rfl|(simp;done)
          |false =>
            rw [hup,q1,q2,if_pos (by decide)] at hfw
            rw [hfw,if_neg (by omega)] at hS
            by_cases hmn:m+1 < n
            · have d4:decide (m+1 < n)=true:=decide_eq_true hmn
              rw [if_pos (.inr hmn)] at hS
              repeat' (first|(apply nx;with_reducible constructor)|refine uq (by decide) ?_|((first|refine vx env fun Q hQ=>?_|refine vz fun Q hQ=>?_);simp only [vkt,seval,tbE24_few,xbE24_3,aBunk,eBunk,eBunks,gBunk,rBunks,rowsOK_cons,mBunk,fwS,sFew,List.length_map,List.length_cons,List.map_cons,List.getD_cons_zero,List.drop_succ_cons,List.drop_zero,d1,e9,i0,hil,hy,ey,hm,d2,d3,d4,q1,q2,z1,z2,z3,z4,z5,w1];(try simp only [ite_and]);(repeat' (first|with_reducible assumption|refine And.intro ?_ ?_|intro hp));all_goals (first|(refine hQ _ ?_;clear hQ Q)|(refine hQ _ (fun h=>?_) (fun h=>?_) <;> clear hQ Q <;> (try simp only [vki,reduceCtorEq] at h))|(refine vq ?_;kernel_rfl)|omega|assumption|with_reducible rfl|skip)))
              refine fin _ _ hS ?_
              simp only [fwS]
              (refine Le.ok some [] ?_;constructor;all_goals (try simp only [vle,vkt,seval,tbE24_few,xbE24_3,aBunk,eBunk,eBunks,gBunk,rBunks,rowsOK_cons,mBunk,fwS,sFew,List.length_map,List.length_cons,List.map_cons,List.getD_cons_zero,List.drop_succ_cons,List.drop_zero]))
              all_goals first|rfl|(simp;done)
            · have d4:decide (m+1 < n)=false:=decide_eq_false hmn
              rw [if_neg (by rintro (h|h) <;> omega)] at hS
              repeat' (first|(apply nx;with_reducible constructor)|refine uq (by decide) ?_|((first|refine vx env fun Q hQ=>?_|refine vz fun Q hQ=>?_);simp only [vkt,seval,tbE24_few,xbE24_3,aBunk,eBunk,eBunks,gBunk,rBunks,rowsOK_cons,mBunk,fwS,sFew,List.length_map,List.length_cons,List.map_cons,List.getD_cons_zero,List.drop_succ_cons,List.drop_zero,d1,e9,i0,hil,hy,ey,hm,d2,d3,d4,q1,q2,z1,z2,z3,z4,z5,w1];(try simp only [ite_and]);(repeat' (first|with_reducible assumption|refine And.intro ?_ ?_|intro hp));all_goals (first|(refine hQ _ ?_;clear hQ Q)|(refine hQ _ (fun h=>?_) (fun h=>?_) <;> clear hQ Q <;> (try simp only [vki,reduceCtorEq] at h))|(refine vq ?_;kernel_rfl)|omega|assumption|with_reducible rfl|skip)))
              refine fin _ _ hS ?_
              simp only [fwS]
              (refine Le.ok some [] ?_;constructor;all_goals (try simp only [vle,vkt,seval,tbE24_few,xbE24_3,aBunk,eBunk,eBunks,gBunk,rBunks,rowsOK_cons,mBunk,fwS,sFew,List.length_map,List.length_cons,List.map_cons,List.getD_cons_zero,List.drop_succ_cons,List.drop_zero]))
              all_goals first|rfl|(simp;done)
  · have d1:decide ((i:Int) < (l.length:Int))=false:=decide_eq_false (by omega)
    obtain rfl:i=l.length:=by omega
    rw [hn]
    repeat' (first|(apply nx;with_reducible constructor)|refine uq (by decide) ?_|((first|refine vx env fun Q hQ=>?_|refine vz fun Q hQ=>?_);simp only [vkt,seval,tbE24_few,xbE24_3,aBunk,eBunk,eBunks,gBunk,rBunks,rowsOK_cons,mBunk,fwS,sFew,List.length_map,List.length_cons,List.map_cons,List.getD_cons_zero,List.drop_succ_cons,List.drop_zero,d1];(try simp only [ite_and]);(repeat' (first|with_reducible assumption|refine And.intro ?_ ?_|intro hp));all_goals (first|(refine hQ _ ?_;clear hQ Q)|(refine hQ _ (fun h=>?_) (fun h=>?_) <;> clear hQ Q <;> (try simp only [vki,reduceCtorEq] at h))|(refine vq ?_;kernel_rfl)|omega|assumption|with_reducible rfl|skip)))
    (simp only [vrt,Try.results31,vkt,seval,tbE24_few,xbE24_3,aBunk,eBunk,eBunks,gBunk,rBunks,rowsOK_cons,mBunk,fwS,sFew,List.length_map,List.length_cons,List.map_cons,List.getD_cons_zero,List.drop_succ_cons,List.drop_zero];refine Fin.val rfl ?_;(try simp only [AV.le,AV.leL]))
    all_goals first|rfl|(simp;done)
theorem few_all:∀ L:List (List Bunk),L.length≤1000→(∀ l ∈ L,l.length≤100000)→FewFn L
  |[],_,_=>few_nil
  |l :: rest,h1,h2=>few_cons l rest (h2 l (List.mem_cons_self ..)) (by simp at h1;omega) (few_all rest (by simp at h1;omega) fun x hx=>h2 x (List.mem_cons_of_mem _ hx))
end Go.Sym.B
namespace Go.Sym.B
open Go Go.Sym Go.Proofs Go.Sym.C
end Go.Sym.B
namespace Go.Sym.B
open Go Go.Sym Go.Proofs Go.Sym.C
end Go.Sym.B
namespace Go.Sym.B
open Go Go.Sym Go.Proofs Go.Sym.C
theorem ask_nobody {c:Chart} {a:Ask} (h:bothE c a=0):∀ t ∈ c.sold,t.party ≠ a.party:=by
  have h:=(both_ok h).2
  unfold askE at h
  split at h
  · exact absurd h (by decide)
  split at h
  · exact absurd h (by decide)
  rename_i h2
  intro t ht hp
  exact h2 (List.any_eq_true.2 ⟨t,ht,by rw [hp];simp⟩)
end Go.Sym.B
namespace Go.Sym.B
open Go Go.Sym Go.Proofs Go.Sym.C
def cgS (C:Chart) (A:Ask) (w:List Bunk) (n e:Int) (L:List (List Bunk)) (T:List (Nat × AV)) (H:List (Nat × AObj)) (m:Nat):St:={ t:=asg (T++[(4,.ptr 1 0),(5,.ptr 2 0),(6,aBunks w),(7,aI n),(8,aI e),(9,.row 3),(10,aI 0)]),h:=hasg (H++[(1,.cells (cChart C)),(2,.cells [aI A.party,aI A.frm,aI A.to,.sl (A.sexes.map eInt),aB false]),(3,.row 37 1 (L.map eBunks))]),n:=m }
theorem any_succ {l:List Bunk} {k:Nat} (h:k < l.length) (x:Bunk):(l.take (k+1)).any (fun y=>decide (y=x))=((l.take k).any (fun y=>decide (y=x)) || decide (l.getD k default=x)):=by
  rw [List.take_succ_eq_append_getElem h,List.any_append]
  simp [List.getD_eq_getElem?_getD,h]
theorem bunk_eq {x y:Bunk}:decide (x=y)=(decide (x.cab=y.cab) && decide (x.bed=y.bed)):=by
  cases x;cases y;rw [Bool.eq_iff_iff];simp
theorem change_val {c:Chart} {a:Ask} (h:bothE c a=0) (h1:a.sexes.length=1) (hd:a.dog=false):changeA c a=if (openL c a).any (·.isEmpty) then ([],0,11) else (walkB (openL c a) ⟨-1,0⟩,(nextA (openL c a) ⟨-1,0⟩).2 - 1,0):=by
  unfold changeA
  rw [if_neg (fun hn=>hn h),if_neg (by omega),hd,if_neg (by decide)]
theorem open_cab {c:Chart} {a:Ask} (h1:a.sexes.length=1):∀ l ∈ openL c a,∀ y ∈ l,0≤y.cab:=fun l hl y hy=>by
  obtain ⟨i,hi,rfl⟩:=List.mem_map.1 hl
  rw [open_fit h1] at hy
  obtain ⟨p,k,g1,g2,rfl⟩:=bunk_mem.1 (List.mem_filter.1 hy).1
  simp only;omega
def tbE25_law:=vj @ty3 (vj @ty4 (vj @ty28 (vj @ty31 (vj @ty33 (vj @ty34 (vj @ty37 (vj @ty49 (vj @ti3.eq_1 (vj @ti4.eq_1 (vj @ti28.eq_1 (vj @ti31.eq_1 (vj @ti33.eq_1 (vj @ti34.eq_1 (vj @ti37.eq_1 @ti49.eq_1))))))))))))))
def xbE25_1:=vj @aI.eq_1 (vj @aB.eq_1 (vj @aInts.eq_1 (vj @eInt.eq_1 (@mInt))))
set_option maxRecDepth 100000 in
set_option maxHeartbeats 40000000 in
theorem changeLaw_fn (nums:List Int) (hnums:nums.length≤maxLen):FnV Try.prog 5 [aInts nums] (aB true):=by
  obtain ⟨x0,hx0⟩:∃ x,nbS nums=x:=⟨_,rfl⟩
  obtain ⟨hC0,hCp,hCs,hCc,hCg⟩:=co_ok (x:=x0) (a:=3) (g:=5) (s:=8) (by decide) (by decide) (by decide)
  obtain ⟨C,hC⟩:∃ C,coC x0 3 5 8=C:=⟨_,rfl⟩
  obtain ⟨x1,hx1⟩:∃ x,coX x0 3 5 8=x:=⟨_,rfl⟩
  rw [hC] at hC0 hCp hCs hCc hCg
  obtain ⟨hA0,hA1,hA2⟩:=ao_ok (x:=x1) (n:=1) hC0 hCp (by decide)
  obtain ⟨A,hA⟩:∃ A,aoA x1 C.secs 1=A:=⟨_,rfl⟩
  rw [hA] at hA0 hA1 hA2
  have hv:=val_of hC0
  have hsec:=hv.car.secs
  have hcab:=hv.car.cabs
  have hw0:=ask_way hA0
  have hpa:1≤A.party∧A.party≤99:=by
    have h:=(both_ok hA0).2
    unfold askE at h
    split at h
    · exact absurd h (by decide)
    rename_i h1
    exact inB_iff.1 (by simpa using h1)
  have hA3:bothE C (askN A A.party)=0:=askN_ok hA0 rfl hC0 hpa (ask_nobody hA0)
  have h1:(askN A A.party).sexes.length=1:=by show A.sexes.length=1;omega
  have hd:(askN A A.party).dog=false:=rfl
  have hf:(askN A A.party).frm=A.frm:=rfl
  have ht:(askN A A.party).to=A.to:=rfl
  have eA:(⟨A.party,A.frm,A.to,A.sexes,false⟩:Ask)=askN A A.party:=rfl
  obtain ⟨B,hB⟩:∃ B,askN A A.party=B:=⟨_,rfl⟩
  rw [hB] at hA3 h1 hd hf ht eA
  have hCh:=change_val hA3 h1 hd
  obtain ⟨hn1,hn2⟩:=change_places hA3 h1
  have hpl:=hA3
  have hOl:=openL_len C B
  have hOe:=open_each hA3
  have hOc:=open_cab (c:=C) h1
  rw [hf,ht] at hOl
  have hKl:=openK_len C B
  have hKs:=openK_succ C B
  rw [hf] at hKs
  have hon:=fun s h1 h2=>one_ok (s:=s) hA3 h1 h2
  rw [hf,ht] at hon
  have hOL:openK C B (A.to - A.frm).toNat=openL C B:=by unfold openL;rw [hf,ht]
  obtain ⟨O,hO⟩:∃ O,openL C B=O:=⟨_,rfl⟩
  rw [hO] at hCh hn1 hn2 hOl hOe hOc hOL
  have hO0:O ≠ []:=fun h=>by rw [h] at hOl;simp at hOl;omega
  obtain ⟨L,hL⟩:∃ L,placesA C B=L:=⟨_,rfl⟩
  rw [hL] at hn1 hn2
  obtain ⟨⟨w,n,e⟩,hCa⟩:∃ p,changeA C B=p:=⟨_,rfl⟩
  rw [hCa] at hCh
  have env:Env (fun _=>True) Try.prog tyB (tab [(15,fnE pBag),(16,fnE pChartOf),(17,fnE pAskedOf),(29,valE false sChangeF),(18,fnE pPlacesF),(30,valE false srOpen),(28,valE false sbunk),(31,valE true (sFew O)),(24,valE true seqB),(25,valE true sselling)]):=mkEnv ⟨eBag,eChartOf,eAskedOf,eChangeF,ePlacesF,erOpen,ebunk,eFew (few_all O (by omega) fun l hl=>by have:=hOe l hl;omega),eeqB,eselling,trivial⟩
  refine Fn.of (A:=fun _=>True) (n0:=0) (D:=noD) (Fn0 Try.func5 rfl (fun vs w=>by kernel_rfl) (by kernel_rfl)) (by simp) (by simp [AV.ids,AV.idsL,aInts]) (fun i o h=>by cases h) (fun _ _ _ _=>trivial) noD_ok ?_
  have hmx:(100000:Nat)≤maxLen:=by decide
  have eC:(⟨C.cabins,C.secs,C.sold⟩:Chart)=C:=rfl
  have c1:C.cabins.length≤maxLen:=by omega
  have c2:A.sexes.length≤maxLen:=by omega
  repeat' (first|(apply nx;with_reducible constructor)|refine uq (by decide) ?_)
  ((first|refine vx env fun Q hQ=>?_|refine vz fun Q hQ=>?_);simp only [vkt,seval,tbE25_law,xbE25_1,aBunk,aBunks,aBunkss,eBunk,eBunks,gBunk,gBunks,rBunk,rBunks,eCabin,gCabin,mBunk,mBunks,mCabin,mTk,aChart,cChart,aAsk,cAsk,cgS,pBag,pChartOf,pAskedOf,sChangeF,pPlacesF,srOpen,sbunk,sFew,seqB,sselling,List.length_map];(try simp only [ite_and]);(repeat' (first|with_reducible assumption|refine And.intro ?_ ?_|intro hp));all_goals (first|(refine hQ _ ?_;clear hQ Q)|(refine hQ _ (fun h=>?_) (fun h=>?_) <;> clear hQ Q <;> (try simp only [vki,reduceCtorEq] at h))|(refine vq ?_;kernel_rfl)|omega|assumption|with_reducible rfl|skip))
  repeat' (first|(apply nx;with_reducible constructor)|refine uq (by decide) ?_)
  ((first|refine vx env fun Q hQ=>?_|refine vz fun Q hQ=>?_);simp only [vkt,seval,tbE25_law,xbE25_1,aBunk,aBunks,aBunkss,eBunk,eBunks,gBunk,gBunks,rBunk,rBunks,eCabin,gCabin,mBunk,mBunks,mCabin,mTk,aChart,cChart,aAsk,cAsk,cgS,pBag,pChartOf,pAskedOf,sChangeF,pPlacesF,srOpen,sbunk,sFew,seqB,sselling,List.length_map,hx0];(try simp only [ite_and]);(repeat' (first|with_reducible assumption|refine And.intro ?_ ?_|intro hp));all_goals (first|(refine hQ _ ?_;clear hQ Q)|(refine hQ _ (fun h=>?_) (fun h=>?_) <;> clear hQ Q <;> (try simp only [vki,reduceCtorEq] at h))|(refine vq ?_;kernel_rfl)|omega|assumption|with_reducible rfl|skip))
  repeat' (first|(apply nx;with_reducible constructor)|refine uq (by decide) ?_)
  ((first|refine vx env fun Q hQ=>?_|refine vz fun Q hQ=>?_);simp only [vkt,seval,tbE25_law,xbE25_1,aBunk,aBunks,aBunkss,eBunk,eBunks,gBunk,gBunks,rBunk,rBunks,eCabin,gCabin,mBunk,mBunks,mCabin,mTk,aChart,cChart,aAsk,cAsk,cgS,pBag,pChartOf,pAskedOf,sChangeF,pPlacesF,srOpen,sbunk,sFew,seqB,sselling,List.length_map,hC,hx1];(try simp only [ite_and]);(repeat' (first|with_reducible assumption|refine And.intro ?_ ?_|intro hp));all_goals (first|(refine hQ _ ?_;clear hQ Q)|(refine hQ _ (fun h=>?_) (fun h=>?_) <;> clear hQ Q <;> (try simp only [vki,reduceCtorEq] at h))|(refine vq ?_;kernel_rfl)|omega|assumption|with_reducible rfl|skip))
  repeat' (first|(apply nx;with_reducible constructor)|refine uq (by decide) ?_)
  ((first|refine vx env fun Q hQ=>?_|refine vz fun Q hQ=>?_);simp only [vkt,seval,tbE25_law,xbE25_1,aBunk,aBunks,aBunkss,eBunk,eBunks,gBunk,gBunks,rBunk,rBunks,eCabin,gCabin,mBunk,mBunks,mCabin,mTk,aChart,cChart,aAsk,cAsk,cgS,pBag,pChartOf,pAskedOf,sChangeF,pPlacesF,srOpen,sbunk,sFew,seqB,sselling,List.length_map,hA,hsec];(try simp only [ite_and]);(repeat' (first|with_reducible assumption|refine And.intro ?_ ?_|intro hp));all_goals (first|(refine hQ _ ?_;clear hQ Q)|(refine hQ _ (fun h=>?_) (fun h=>?_) <;> clear hQ Q <;> (try simp only [vki,reduceCtorEq] at h))|(refine vq ?_;kernel_rfl)|omega|assumption|with_reducible rfl|skip))
  repeat' (first|(apply nx;with_reducible constructor)|refine uq (by decide) ?_)
  ((first|refine vx env fun Q hQ=>?_|refine vz fun Q hQ=>?_);simp only [vkt,seval,tbE25_law,xbE25_1,aBunk,aBunks,aBunkss,eBunk,eBunks,gBunk,gBunks,rBunk,rBunks,eCabin,gCabin,mBunk,mBunks,mCabin,mTk,aChart,cChart,aAsk,cAsk,cgS,pBag,pChartOf,pAskedOf,sChangeF,pPlacesF,srOpen,sbunk,sFew,seqB,sselling,List.length_map];(try simp only [ite_and]);(repeat' (first|with_reducible assumption|refine And.intro ?_ ?_|intro hp));all_goals (first|(refine hQ _ ?_;clear hQ Q)|(refine hQ _ (fun h=>?_) (fun h=>?_) <;> clear hQ Q <;> (try simp only [vki,reduceCtorEq] at h))|(refine vq ?_;kernel_rfl)|omega|assumption|with_reducible rfl|skip))
  repeat' (first|(apply nx;with_reducible constructor)|refine uq (by decide) ?_)
  ((first|refine vx env fun Q hQ=>?_|refine vz fun Q hQ=>?_);simp only [vkt,seval,tbE25_law,xbE25_1,aBunk,aBunks,aBunkss,eBunk,eBunks,gBunk,gBunks,rBunk,rBunks,eCabin,gCabin,mBunk,mBunks,mCabin,mTk,aChart,cChart,aAsk,cAsk,cgS,pBag,pChartOf,pAskedOf,sChangeF,pPlacesF,srOpen,sbunk,sFew,seqB,sselling,List.length_map,eC,eA,c1,c2,hCa];(try simp only [ite_and]);(repeat' (first|with_reducible assumption|refine And.intro ?_ ?_|intro hp));all_goals (first|(refine hQ _ ?_;clear hQ Q)|(refine hQ _ (fun h=>?_) (fun h=>?_) <;> clear hQ Q <;> (try simp only [vki,reduceCtorEq] at h))|(refine vq ?_;kernel_rfl)|omega|assumption|with_reducible rfl|skip))
  repeat' (first|(apply nx;with_reducible constructor)|refine uq (by decide) ?_)
  ((first|refine vx env fun Q hQ=>?_|refine vz fun Q hQ=>?_);simp only [vkt,seval,tbE25_law,xbE25_1,aBunk,aBunks,aBunkss,eBunk,eBunks,gBunk,gBunks,rBunk,rBunks,eCabin,gCabin,mBunk,mBunks,mCabin,mTk,aChart,cChart,aAsk,cAsk,cgS,pBag,pChartOf,pAskedOf,sChangeF,pPlacesF,srOpen,sbunk,sFew,seqB,sselling,List.length_map,eC,eA,c1,c2,hL,hpl];(try simp only [ite_and]);(repeat' (first|with_reducible assumption|refine And.intro ?_ ?_|intro hp));all_goals (first|(refine hQ _ ?_;clear hQ Q)|(refine hQ _ (fun h=>?_) (fun h=>?_) <;> clear hQ Q <;> (try simp only [vki,reduceCtorEq] at h))|(refine vq ?_;kernel_rfl)|omega|assumption|with_reducible rfl|skip))
  repeat' (first|(apply nx;with_reducible constructor)|refine uq (by decide) ?_|((first|refine vx env fun Q hQ=>?_|refine vz fun Q hQ=>?_);simp only [vkt,seval,tbE25_law,xbE25_1,aBunk,aBunks,aBunkss,eBunk,eBunks,gBunk,gBunks,rBunk,rBunks,eCabin,gCabin,mBunk,mBunks,mCabin,mTk,aChart,cChart,aAsk,cAsk,cgS,pBag,pChartOf,pAskedOf,sChangeF,pPlacesF,srOpen,sbunk,sFew,seqB,sselling,List.length_map];(try simp only [ite_and]);(repeat' (first|with_reducible assumption|refine And.intro ?_ ?_|intro hp));all_goals (first|(refine hQ _ ?_;clear hQ Q)|(refine hQ _ (fun h=>?_) (fun h=>?_) <;> clear hQ Q <;> (try simp only [vki,reduceCtorEq] at h))|(refine vq ?_;kernel_rfl)|omega|assumption|with_reducible rfl|skip)))
  refine sym_loop (fun k:{ k:Nat // k≤(A.to - A.frm).toNat }=>cgS C A w n e L [(11,.row 4),(12,aI (A.frm+(k.1:Nat)))] [(4,.row 37 1 ((openK C B k.1).map eBunks))] 5) (fun k=>(A.to - A.frm).toNat - k.1) ⟨0,Nat.zero_le _⟩ ?_ fun ⟨k,hk⟩=>?_
  · simp only [cgS,show openK C B 0=[] from rfl,show A.frm+((0:Nat):Int)=A.frm by omega,List.cons_append,List.nil_append]
    (refine Le.ok (fun i=>if i=4 then none else some i) [] ?_;constructor;all_goals (try simp only [vle,vkt,seval,tbE25_law,xbE25_1,aBunk,aBunks,aBunkss,eBunk,eBunks,gBunk,gBunks,rBunk,rBunks,eCabin,gCabin,mBunk,mBunks,mCabin,mTk,aChart,cChart,aAsk,cAsk,cgS,pBag,pChartOf,pAskedOf,sChangeF,pPlacesF,srOpen,sbunk,sFew,seqB,sselling,List.length_map]))
    all_goals first|rfl|(simp;done)|(intro i hi;rw [if_neg (by omega)];done)
  simp only at hk ⊢
  have hKs:=hKs k
  have hKl:=hKl k
  by_cases hkl:k < (A.to - A.frm).toNat
  · obtain ⟨K,hK⟩:∃ K,openK C B k=K:=⟨_,rfl⟩
    rw [hK] at hKs hKl
    obtain ⟨s,hs⟩:∃ s,A.frm+(k:Int)=s:=⟨_,rfl⟩
    rw [hs] at hKs
    have d1:decide (s < A.to)=true:=decide_eq_true (by omega)
    have e9:IntKind.wrap .i64 (s+1)=s+1:=wrap64 (by omega) (by omega)
    have hon:=hon s (by omega) (by omega)
    have s1:0≤s:=by omega
    have s2:s≤100:=by omega
    have hm:K.length+1≤maxLen:=by omega
    simp only [cgS,hK,hs,List.cons_append,List.nil_append]
    repeat' (first|(apply nx;with_reducible constructor)|refine uq (by decide) ?_|((first|refine vx env fun Q hQ=>?_|refine vz fun Q hQ=>?_);simp only [vkt,seval,tbE25_law,xbE25_1,aBunk,aBunks,aBunkss,eBunk,eBunks,gBunk,gBunks,rBunk,rBunks,eCabin,gCabin,mBunk,mBunks,mCabin,mTk,aChart,cChart,aAsk,cAsk,cgS,pBag,pChartOf,pAskedOf,sChangeF,pPlacesF,srOpen,sbunk,sFew,seqB,sselling,List.length_map,d1,e9,eC,eA,hon,s1,s2,hm];(try simp only [ite_and]);(repeat' (first|with_reducible assumption|refine And.intro ?_ ?_|intro hp));all_goals (first|(refine hQ _ ?_;clear hQ Q)|(refine hQ _ (fun h=>?_) (fun h=>?_) <;> clear hQ Q <;> (try simp only [vki,reduceCtorEq] at h))|(refine vq ?_;kernel_rfl)|omega|assumption|with_reducible rfl|skip)))
    refine ⟨⟨k+1,hkl⟩,by show (A.to - A.frm).toNat - (k+1) < (A.to - A.frm).toNat - k;omega, ?_⟩
    simp only [cgS,hKs,show A.frm+((k+1:Nat):Int)=s+1 by omega,List.cons_append,List.nil_append]
    (refine Le.ok (fun i=>if i=4 then some 6 else some i) [] ?_;constructor;all_goals (try simp only [vle,vkt,seval,tbE25_law,xbE25_1,aBunk,aBunks,aBunkss,eBunk,eBunks,gBunk,gBunks,rBunk,rBunks,eCabin,gCabin,mBunk,mBunks,mCabin,mTk,aChart,cChart,aAsk,cAsk,cgS,pBag,pChartOf,pAskedOf,sChangeF,pPlacesF,srOpen,sbunk,sFew,seqB,sselling,List.length_map]))
    all_goals first|rfl|(rw [List.map_append];rfl)|(simp;done)|(intro i hi;rw [if_neg (by omega)];done)
  obtain rfl:k=(A.to - A.frm).toNat:=by omega
  rw [hOL]
  have d1:decide (A.frm+(((A.to - A.frm).toNat:Nat):Int) < A.to)=false:=decide_eq_false (by omega)
  simp only [cgS,List.cons_append,List.nil_append]
  cases hE:O.any (·.isEmpty) with
  |true =>
    have hdue:fewA O ⟨-1,0⟩=-1:=few_none _ hE
    rw [hE,if_pos rfl] at hCh
    simp only [Prod.mk.injEq] at hCh
    obtain ⟨rfl,rfl,rfl⟩:=hCh
    have hL0:=hn1 hE
    subst hL0
    repeat' (first|(apply nx;with_reducible constructor)|refine uq (by decide) ?_|((first|refine vx env fun Q hQ=>?_|refine vz fun Q hQ=>?_);simp only [vkt,seval,tbE25_law,xbE25_1,aBunk,aBunks,aBunkss,eBunk,eBunks,gBunk,gBunks,rBunk,rBunks,eCabin,gCabin,mBunk,mBunks,mCabin,mTk,aChart,cChart,aAsk,cAsk,cgS,pBag,pChartOf,pAskedOf,sChangeF,pPlacesF,srOpen,sbunk,sFew,seqB,sselling,List.length_map,d1,hdue];(try simp only [ite_and]);(repeat' (first|with_reducible assumption|refine And.intro ?_ ?_|intro hp));all_goals (first|(refine hQ _ ?_;clear hQ Q)|(refine hQ _ (fun h=>?_) (fun h=>?_) <;> clear hQ Q <;> (try simp only [vki,reduceCtorEq] at h))|(refine vq ?_;kernel_rfl)|omega|assumption|with_reducible rfl|skip)))
    (simp only [vrt,Try.results5,vkt,seval,tbE25_law,xbE25_1,aBunk,aBunks,aBunkss,eBunk,eBunks,gBunk,gBunks,rBunk,rBunks,eCabin,gCabin,mBunk,mBunks,mCabin,mTk,aChart,cChart,aAsk,cAsk,cgS,pBag,pChartOf,pAskedOf,sChangeF,pPlacesF,srOpen,sbunk,sFew,seqB,sselling,List.length_map];refine Fin.val rfl ?_;(try simp only [AV.le,AV.leL]))
    all_goals first|rfl|(simp;done)
  |false =>
    obtain ⟨hd1,hd2⟩:=few_first hE hOc hO0
    rw [hE,if_neg (by decide)] at hCh
    simp only [Prod.mk.injEq] at hCh
    obtain ⟨hw,hn,rfl⟩:=hCh
    obtain ⟨hz1,hz2⟩:=hn2 hE
    have hwl:=walkB_len O ⟨-1,0⟩
    have hwi:=walk_in ⟨-1,0⟩ hE
    have hwc:=walk_chg ⟨-1,0⟩ hE
    rw [← hn] at hz1 hz2
    rw [← hw] at hz2 hwl hwi hwc
    have hdue:fewA O ⟨-1,0⟩=n:=by rw [hd1,hn]
    have hn0:0≤n:=by omega
    have hw0:0 < w.length:=by rw [hwl];exact List.length_pos_iff.2 hO0
    have hwm:∀ i,i < w.length→(w.getD i default).cab ≠ -1:=fun i hi h=>by
      have h2:=hwi i (by omega)
      have h3:=hOc (O.getD i []) (gMem (by omega)) _ h2
      omega
    have hcg:cgK w w.length=n:=by
      have h2:=cg_chg (b:=⟨-1,0⟩) (w:=w) (fun h=>hwm 0 hw0 (by rw [h])) w.length hw0 (Nat.le_refl _)
      rw [List.take_length,hwc] at h2
      omega
    have hOl9:O.length≤5:=by omega
    have dl:decide ((w.length:Int)=(O.length:Int))=true:=decide_eq_true (by omega)
    have dn:decide (n < 0)=false:=decide_eq_false (by omega)
    repeat' (first|(apply nx;with_reducible constructor)|refine uq (by decide) ?_)
    ((first|refine vx env fun Q hQ=>?_|refine vz fun Q hQ=>?_);simp only [vkt,seval,tbE25_law,xbE25_1,aBunk,aBunks,aBunkss,eBunk,eBunks,gBunk,gBunks,rBunk,rBunks,eCabin,gCabin,mBunk,mBunks,mCabin,mTk,aChart,cChart,aAsk,cAsk,cgS,pBag,pChartOf,pAskedOf,sChangeF,pPlacesF,srOpen,sbunk,sFew,seqB,sselling,List.length_map,d1];(try simp only [ite_and]);(repeat' (first|with_reducible assumption|refine And.intro ?_ ?_|intro hp));all_goals (first|(refine hQ _ ?_;clear hQ Q)|(refine hQ _ (fun h=>?_) (fun h=>?_) <;> clear hQ Q <;> (try simp only [vki,reduceCtorEq] at h))|(refine vq ?_;kernel_rfl)|omega|assumption|with_reducible rfl|skip))
    repeat' (first|(apply nx;with_reducible constructor)|refine uq (by decide) ?_)
    ((first|refine vx env fun Q hQ=>?_|refine vz fun Q hQ=>?_);simp only [vkt,seval,tbE25_law,xbE25_1,aBunk,aBunks,aBunkss,eBunk,eBunks,gBunk,gBunks,rBunk,rBunks,eCabin,gCabin,mBunk,mBunks,mCabin,mTk,aChart,cChart,aAsk,cAsk,cgS,pBag,pChartOf,pAskedOf,sChangeF,pPlacesF,srOpen,sbunk,sFew,seqB,sselling,List.length_map,d1];(try simp only [ite_and]);(repeat' (first|with_reducible assumption|refine And.intro ?_ ?_|intro hp));all_goals (first|(refine hQ _ ?_;clear hQ Q)|(refine hQ _ (fun h=>?_) (fun h=>?_) <;> clear hQ Q <;> (try simp only [vki,reduceCtorEq] at h))|(refine vq ?_;kernel_rfl)|omega|assumption|with_reducible rfl|skip))
    repeat' (first|(apply nx;with_reducible constructor)|refine uq (by decide) ?_)
    ((first|refine vx env fun Q hQ=>?_|refine vz fun Q hQ=>?_);simp only [vkt,seval,tbE25_law,xbE25_1,aBunk,aBunks,aBunkss,eBunk,eBunks,gBunk,gBunks,rBunk,rBunks,eCabin,gCabin,mBunk,mBunks,mCabin,mTk,aChart,cChart,aAsk,cAsk,cgS,pBag,pChartOf,pAskedOf,sChangeF,pPlacesF,srOpen,sbunk,sFew,seqB,sselling,List.length_map,hdue];(try simp only [ite_and]);(repeat' (first|with_reducible assumption|refine And.intro ?_ ?_|intro hp));all_goals (first|(refine hQ _ ?_;clear hQ Q)|(refine hQ _ (fun h=>?_) (fun h=>?_) <;> clear hQ Q <;> (try simp only [vki,reduceCtorEq] at h))|(refine vq ?_;kernel_rfl)|omega|assumption|with_reducible rfl|skip))
    repeat' (first|(apply nx;with_reducible constructor)|refine uq (by decide) ?_)
    ((first|refine vx env fun Q hQ=>?_|refine vz fun Q hQ=>?_);simp only [vkt,seval,tbE25_law,xbE25_1,aBunk,aBunks,aBunkss,eBunk,eBunks,gBunk,gBunks,rBunk,rBunks,eCabin,gCabin,mBunk,mBunks,mCabin,mTk,aChart,cChart,aAsk,cAsk,cgS,pBag,pChartOf,pAskedOf,sChangeF,pPlacesF,srOpen,sbunk,sFew,seqB,sselling,List.length_map,hdue,dn];(try simp only [ite_and]);(repeat' (first|with_reducible assumption|refine And.intro ?_ ?_|intro hp));all_goals (first|(refine hQ _ ?_;clear hQ Q)|(refine hQ _ (fun h=>?_) (fun h=>?_) <;> clear hQ Q <;> (try simp only [vki,reduceCtorEq] at h))|(refine vq ?_;kernel_rfl)|omega|assumption|with_reducible rfl|skip))
    repeat' (first|(apply nx;with_reducible constructor)|refine uq (by decide) ?_)
    ((first|refine vx env fun Q hQ=>?_|refine vz fun Q hQ=>?_);simp only [vkt,seval,tbE25_law,xbE25_1,aBunk,aBunks,aBunkss,eBunk,eBunks,gBunk,gBunks,rBunk,rBunks,eCabin,gCabin,mBunk,mBunks,mCabin,mTk,aChart,cChart,aAsk,cAsk,cgS,pBag,pChartOf,pAskedOf,sChangeF,pPlacesF,srOpen,sbunk,sFew,seqB,sselling,List.length_map];(try simp only [ite_and]);(repeat' (first|with_reducible assumption|refine And.intro ?_ ?_|intro hp));all_goals (first|(refine hQ _ ?_;clear hQ Q)|(refine hQ _ (fun h=>?_) (fun h=>?_) <;> clear hQ Q <;> (try simp only [vki,reduceCtorEq] at h))|(refine vq ?_;kernel_rfl)|omega|assumption|with_reducible rfl|skip))
    repeat' (first|(apply nx;with_reducible constructor)|refine uq (by decide) ?_)
    refine Sym.mono (K:=fun e1 S1=>e1=.normal∧Le S1 (cgS C A w n 0 L [(11,.row 4),(116,aB false)] [(4,.row 37 1 (O.map eBunks))] 5)) ?_ ?_
    · by_cases hnz:n=0
      · have hLp:=hz1.1 hnz
        have hL1:0 < L.length:=List.length_pos_iff.2 hLp
        have hLg:=hz2 hnz
        have q1:decide (n=0)=true:=decide_eq_true hnz
        have q2:decide ((0:Int) < (L.length:Int))=true:=decide_eq_true (by omega)
        have hg:=hBunks hL1
        rw [hLg] at hg
        have hg:(L.map eBunks).getD 0 []=[.sl [[.v (.int .i64 (w.getD 0 default).cab),.v (.int .i64 (w.getD 0 default).bed)]]]:=hg
        have hwd:(w.map eBunk).take 1=[[.v (.int .i64 (w.getD 0 default).cab),.v (.int .i64 (w.getD 0 default).bed)]]:=by
          match w,hw0 with
          |b :: _,_=>rfl
        obtain ⟨wc,hwc⟩:∃ x,(w.getD 0 default).cab=x:=⟨_,rfl⟩
        obtain ⟨wb,hwb⟩:∃ x,(w.getD 0 default).bed=x:=⟨_,rfl⟩
        rw [hwc,hwb] at hg hwd
        have m1:List.map dBunk [[.v (.int .i64 wc),.v (.int .i64 wb)]]=[(⟨wc,wb⟩:Bunk)]:=rfl
        have m2:List.map eBunk [(⟨wc,wb⟩:Bunk)]=[[.v (.int .i64 wc),.v (.int .i64 wb)]]:=rfl
        have m3:(1:Nat)≤1000:=by decide
        have m4:(1:Int)≤(w.length:Int):=by omega
        ((first|refine vx env fun Q hQ=>?_|refine vz fun Q hQ=>?_);simp only [vkt,seval,tbE25_law,xbE25_1,aBunk,aBunks,aBunkss,eBunk,eBunks,gBunk,gBunks,rBunk,rBunks,eCabin,gCabin,mBunk,mBunks,mCabin,mTk,aChart,cChart,aAsk,cAsk,cgS,pBag,pChartOf,pAskedOf,sChangeF,pPlacesF,srOpen,sbunk,sFew,seqB,sselling,List.length_map,dl,q1,q2,hg,hwd,hL1,m1,m2,m3,m4,List.length_cons,List.length_nil,decide_true,Bool.not_true,Bool.not_false];(try simp only [ite_and]);(repeat' (first|with_reducible assumption|refine And.intro ?_ ?_|intro hp));all_goals (first|(refine hQ _ ?_;clear hQ Q)|(refine hQ _ (fun h=>?_) (fun h=>?_) <;> clear hQ Q <;> (try simp only [vki,reduceCtorEq] at h))|(refine vq ?_;kernel_rfl)|omega|assumption|with_reducible rfl|skip))
        refine ⟨rfl, ?_⟩
        simp only [cgS,List.cons_append,List.nil_append]
        (refine Le.ok some [] ?_;constructor;all_goals (try simp only [vle,vkt,seval,tbE25_law,xbE25_1,aBunk,aBunks,aBunkss,eBunk,eBunks,gBunk,gBunks,rBunk,rBunks,eCabin,gCabin,mBunk,mBunks,mCabin,mTk,aChart,cChart,aAsk,cAsk,cgS,pBag,pChartOf,pAskedOf,sChangeF,pPlacesF,srOpen,sbunk,sFew,seqB,sselling,List.length_map]))
        all_goals first|rfl|(simp;done)
      · have hLp:L=[]:=Classical.not_not.1 fun h=>hnz (hz1.2 h)
        have q1:decide (n=0)=false:=decide_eq_false hnz
        have q2:decide ((0:Int) < (L.length:Int))=false:=decide_eq_false (by rw [hLp];simp)
        ((first|refine vx env fun Q hQ=>?_|refine vz fun Q hQ=>?_);simp only [vkt,seval,tbE25_law,xbE25_1,aBunk,aBunks,aBunkss,eBunk,eBunks,gBunk,gBunks,rBunk,rBunks,eCabin,gCabin,mBunk,mBunks,mCabin,mTk,aChart,cChart,aAsk,cAsk,cgS,pBag,pChartOf,pAskedOf,sChangeF,pPlacesF,srOpen,sbunk,sFew,seqB,sselling,List.length_map,dl,q1,q2,decide_true,Bool.not_true,Bool.not_false];(try simp only [ite_and]);(repeat' (first|with_reducible assumption|refine And.intro ?_ ?_|intro hp));all_goals (first|(refine hQ _ ?_;clear hQ Q)|(refine hQ _ (fun h=>?_) (fun h=>?_) <;> clear hQ Q <;> (try simp only [vki,reduceCtorEq] at h))|(refine vq ?_;kernel_rfl)|omega|assumption|with_reducible rfl|skip))
        refine ⟨rfl, ?_⟩
        simp only [cgS,List.cons_append,List.nil_append]
        (refine Le.ok some [] ?_;constructor;all_goals (try simp only [vle,vkt,seval,tbE25_law,xbE25_1,aBunk,aBunks,aBunkss,eBunk,eBunks,gBunk,gBunks,rBunk,rBunks,eCabin,gCabin,mBunk,mBunks,mCabin,mTk,aChart,cChart,aAsk,cAsk,cgS,pBag,pChartOf,pAskedOf,sChangeF,pPlacesF,srOpen,sbunk,sFew,seqB,sselling,List.length_map]))
        all_goals first|rfl|(simp;done)
    rintro e1 S1 ⟨rfl,hle⟩
    refine (sym_le hle ?_:Sym _ _ _ S1 _)
    clear hle S1
    simp only [cgS,List.cons_append,List.nil_append]
    repeat' (first|(apply nx;with_reducible constructor)|refine uq (by decide) ?_|((first|refine vx env fun Q hQ=>?_|refine vz fun Q hQ=>?_);simp only [vkt,seval,tbE25_law,xbE25_1,aBunk,aBunks,aBunkss,eBunk,eBunks,gBunk,gBunks,rBunk,rBunks,eCabin,gCabin,mBunk,mBunks,mCabin,mTk,aChart,cChart,aAsk,cAsk,cgS,pBag,pChartOf,pAskedOf,sChangeF,pPlacesF,srOpen,sbunk,sFew,seqB,sselling,List.length_map];(try simp only [ite_and]);(repeat' (first|with_reducible assumption|refine And.intro ?_ ?_|intro hp));all_goals (first|(refine hQ _ ?_;clear hQ Q)|(refine hQ _ (fun h=>?_) (fun h=>?_) <;> clear hQ Q <;> (try simp only [vki,reduceCtorEq] at h))|(refine vq ?_;kernel_rfl)|omega|assumption|with_reducible rfl|skip)))
    refine sym_loop (fun i:{ i:Nat // i≤w.length }=>cgS C A w n 0 L [(11,.row 4),(14,aI (cgK w i.1)),(15,aI i.1)] [(4,.row 37 1 (O.map eBunks))] 5) (fun i=>w.length - i.1) ⟨0,Nat.zero_le _⟩ ?_ fun ⟨i,hi⟩=>?_
    · simp only [cgS,show cgK w 0=0 from rfl,List.cons_append,List.nil_append]
      (refine Le.ok some [] ?_;constructor;all_goals (try simp only [vle,vkt,seval,tbE25_law,xbE25_1,aBunk,aBunks,aBunkss,eBunk,eBunks,gBunk,gBunks,rBunk,rBunks,eCabin,gCabin,mBunk,mBunks,mCabin,mTk,aChart,cChart,aAsk,cAsk,cgS,pBag,pChartOf,pAskedOf,sChangeF,pPlacesF,srOpen,sbunk,sFew,seqB,sselling,List.length_map]))
      all_goals first|rfl|(simp;done)
    simp only at hi ⊢
    have hgl:=cgK_le w i
    have hgs:cgK w (i+1)=cgK w i+if 0 < i∧w.getD i default ≠ w.getD (i - 1) default then 1 else 0:=rfl
    by_cases hil:i < w.length
    · have d1:decide ((i:Int) < (w.length:Int))=true:=decide_eq_true (by omega)
      have e9:IntKind.wrap .i64 ((i:Int)+1)=((i+1:Nat):Int):=by rw [wrap64 (by omega) (by omega)];rfl
      have i0:((i:Int)).toNat=i:=rfl
      have hwii:=hwi i (by omega)
      have hiO:i < O.length:=by omega
      have hg:=hBunks hiO
      obtain ⟨l,hl⟩:∃ l,O.getD i []=l:=⟨_,rfl⟩
      obtain ⟨x,hx⟩:∃ x,w.getD i default=x:=⟨_,rfl⟩
      have hll:=hOe (O.getD i []) (gMem hiO)
      rw [hl] at hg hwii hll
      rw [hx] at hgs hwii
      obtain ⟨g,hgk⟩:∃ g,cgK w i=g:=⟨_,rfl⟩
      rw [hgk] at hgl hgs
      simp only [cgS,hgk,List.cons_append,List.nil_append]
      repeat' (first|(apply nx;with_reducible constructor)|refine uq (by decide) ?_|((first|refine vx env fun Q hQ=>?_|refine vz fun Q hQ=>?_);simp only [vkt,seval,tbE25_law,xbE25_1,aBunk,aBunks,aBunkss,eBunk,eBunks,gBunk,gBunks,rBunk,rBunks,eCabin,gCabin,mBunk,mBunks,mCabin,mTk,aChart,cChart,aAsk,cAsk,cgS,pBag,pChartOf,pAskedOf,sChangeF,pPlacesF,srOpen,sbunk,sFew,seqB,sselling,List.length_map,d1];(try simp only [ite_and]);(repeat' (first|with_reducible assumption|refine And.intro ?_ ?_|intro hp));all_goals (first|(refine hQ _ ?_;clear hQ Q)|(refine hQ _ (fun h=>?_) (fun h=>?_) <;> clear hQ Q <;> (try simp only [vki,reduceCtorEq] at h))|(refine vq ?_;kernel_rfl)|omega|assumption|with_reducible rfl|skip)))
      refine sym_loop (fun k:{ k:Nat // k≤l.length }=>cgS C A w n 0 L [(11,.row 4),(14,aI g),(15,aI i),(16,aB ((l.take k.1).any fun y=>decide (y=x))),(17,aI k.1)] [(4,.row 37 1 (O.map eBunks))] 5) (fun k=>l.length - k.1) ⟨0,Nat.zero_le _⟩ ?_ fun ⟨k,hk⟩=>?_
      · simp only [cgS,List.take_zero,List.any_nil,List.cons_append,List.nil_append]
        (refine Le.ok some [] ?_;constructor;all_goals (try simp only [vle,vkt,seval,tbE25_law,xbE25_1,aBunk,aBunks,aBunkss,eBunk,eBunks,gBunk,gBunks,rBunk,rBunks,eCabin,gCabin,mBunk,mBunks,mCabin,mTk,aChart,cChart,aAsk,cAsk,cgS,pBag,pChartOf,pAskedOf,sChangeF,pPlacesF,srOpen,sbunk,sFew,seqB,sselling,List.length_map]))
        all_goals first|rfl|(simp;done)
      simp only at hk ⊢
      obtain ⟨so,hso⟩:∃ q,(l.take k).any (fun y=>decide (y=x))=q:=⟨_,rfl⟩
      simp only [cgS,hso,List.cons_append,List.nil_append]
      by_cases hkl:k < l.length
      · have d2:decide ((k:Int) < (l.length:Int))=true:=decide_eq_true (by omega)
        have e8:IntKind.wrap .i64 ((k:Int)+1)=((k+1:Nat):Int):=by rw [wrap64 (by omega) (by omega)];rfl
        have k0:((k:Int)).toNat=k:=rfl
        have hS:=any_succ hkl x
        obtain ⟨y,hy⟩:∃ y,l.getD k default=y:=⟨_,rfl⟩
        rw [hy,hso] at hS
        rw [bunk_eq] at hS
        cases so with
        |true =>
          rw [Bool.true_or] at hS
          repeat' (first|(apply nx;with_reducible constructor)|refine uq (by decide) ?_|((first|refine vx env fun Q hQ=>?_|refine vz fun Q hQ=>?_);simp only [vkt,seval,tbE25_law,xbE25_1,aBunk,aBunks,aBunkss,eBunk,eBunks,gBunk,gBunks,rBunk,rBunks,eCabin,gCabin,mBunk,mBunks,mCabin,mTk,aChart,cChart,aAsk,cAsk,cgS,pBag,pChartOf,pAskedOf,sChangeF,pPlacesF,srOpen,sbunk,sFew,seqB,sselling,List.length_map,d2,e8,k0,i0,hiO,hg];(try simp only [ite_and]);(repeat' (first|with_reducible assumption|refine And.intro ?_ ?_|intro hp));all_goals (first|(refine hQ _ ?_;clear hQ Q)|(refine hQ _ (fun h=>?_) (fun h=>?_) <;> clear hQ Q <;> (try simp only [vki,reduceCtorEq] at h))|(refine vq ?_;kernel_rfl)|omega|assumption|with_reducible rfl|skip)))
          refine ⟨⟨k+1,hkl⟩,by show l.length - (k+1) < l.length - k;omega, ?_⟩
          simp only [cgS,hS,List.cons_append,List.nil_append]
          (refine Le.ok some [] ?_;constructor;all_goals (try simp only [vle,vkt,seval,tbE25_law,xbE25_1,aBunk,aBunks,aBunkss,eBunk,eBunks,gBunk,gBunks,rBunk,rBunks,eCabin,gCabin,mBunk,mBunks,mCabin,mTk,aChart,cChart,aAsk,cAsk,cgS,pBag,pChartOf,pAskedOf,sChangeF,pPlacesF,srOpen,sbunk,sFew,seqB,sselling,List.length_map]))
          all_goals first|rfl|(simp;done)
        |false =>
          rw [Bool.false_or] at hS
          repeat' (first|(apply nx;with_reducible constructor)|refine uq (by decide) ?_|((first|refine vx env fun Q hQ=>?_|refine vz fun Q hQ=>?_);simp only [vkt,seval,tbE25_law,xbE25_1,aBunk,aBunks,aBunkss,eBunk,eBunks,gBunk,gBunks,rBunk,rBunks,eCabin,gCabin,mBunk,mBunks,mCabin,mTk,aChart,cChart,aAsk,cAsk,cgS,pBag,pChartOf,pAskedOf,sChangeF,pPlacesF,srOpen,sbunk,sFew,seqB,sselling,List.length_map,d2,e8,k0,i0,hiO,hg,hkl,hy,hil,hx];(try simp only [ite_and]);(repeat' (first|with_reducible assumption|refine And.intro ?_ ?_|intro hp));all_goals (first|(refine hQ _ ?_;clear hQ Q)|(refine hQ _ (fun h=>?_) (fun h=>?_) <;> clear hQ Q <;> (try simp only [vki,reduceCtorEq] at h))|(refine vq ?_;kernel_rfl)|omega|assumption|with_reducible rfl|skip)))
          refine ⟨⟨k+1,hkl⟩,by show l.length - (k+1) < l.length - k;omega, ?_⟩
          simp only [cgS,hS,List.cons_append,List.nil_append]
          (refine Le.ok some [] ?_;constructor;all_goals (try simp only [vle,vkt,seval,tbE25_law,xbE25_1,aBunk,aBunks,aBunkss,eBunk,eBunks,gBunk,gBunks,rBunk,rBunks,eCabin,gCabin,mBunk,mBunks,mCabin,mTk,aChart,cChart,aAsk,cAsk,cgS,pBag,pChartOf,pAskedOf,sChangeF,pPlacesF,srOpen,sbunk,sFew,seqB,sselling,List.length_map]))
          all_goals first|rfl|(simp;done)
      · have d2:decide ((k:Int) < (l.length:Int))=false:=decide_eq_false (by omega)
        obtain rfl:k=l.length:=by omega
        rw [List.take_length] at hso
        have hsx:so=true:=by rw [← hso];exact List.any_eq_true.2 ⟨x,hwii,by simp⟩
        subst hsx
        have w1:IntKind.wrap .i64 ((g:Int)+1)=((g+1:Nat):Int):=by rw [wrap64 (by omega) (by omega)];rfl
        have fin:∀ S g',cgK w (i+1)=g'→Le S (cgS C A w n 0 L [(11,.row 4),(14,aI (g':Nat)),(15,aI (i+1:Nat))] [(4,.row 37 1 (O.map eBunks))] 5)→∃ y:{ i:Nat // i≤w.length },(w.length - y.1 < w.length - i)∧Le S (cgS C A w n 0 L [(11,.row 4),(14,aI (cgK w y.1)),(15,aI y.1)] [(4,.row 37 1 (O.map eBunks))] 5):=fun S g' h hle=>⟨⟨i+1,hil⟩,by show w.length - (i+1) < w.length - i;omega,by simp only [h];exact hle⟩
        by_cases hi0:0 < i
        · have d3:decide ((0:Int) < (i:Int))=true:=decide_eq_true (by omega)
          have w2:IntKind.wrap .i64 ((i:Int) - 1)=((i - 1:Nat):Int):=by rw [wrap64 (by omega) (by omega)];omega
          have i1:(((i - 1:Nat):Int)).toNat=i - 1:=rfl
          have hi1:i - 1 < w.length:=by omega
          obtain ⟨z,hz⟩:∃ z,w.getD (i - 1) default=z:=⟨_,rfl⟩
          rw [hz] at hgs
          have hxz:=bunk_eq (x:=x) (y:=z)
          by_cases hne:x=z
          · rw [decide_eq_true hne] at hxz
            have hxz:=hxz.symm
            rw [if_neg (fun h=>h.2 hne),Nat.add_zero] at hgs
            repeat' (first|(apply nx;with_reducible constructor)|refine uq (by decide) ?_|((first|refine vx env fun Q hQ=>?_|refine vz fun Q hQ=>?_);simp only [vkt,seval,tbE25_law,xbE25_1,aBunk,aBunks,aBunkss,eBunk,eBunks,gBunk,gBunks,rBunk,rBunks,eCabin,gCabin,mBunk,mBunks,mCabin,mTk,aChart,cChart,aAsk,cAsk,cgS,pBag,pChartOf,pAskedOf,sChangeF,pPlacesF,srOpen,sbunk,sFew,seqB,sselling,List.length_map,d2,d3,i0,hiO,hg,w2,i1,hi1,hil,hx,hz,hxz,e9];(try simp only [ite_and]);(repeat' (first|with_reducible assumption|refine And.intro ?_ ?_|intro hp));all_goals (first|(refine hQ _ ?_;clear hQ Q)|(refine hQ _ (fun h=>?_) (fun h=>?_) <;> clear hQ Q <;> (try simp only [vki,reduceCtorEq] at h))|(refine vq ?_;kernel_rfl)|omega|assumption|with_reducible rfl|skip)))
            refine fin _ _ hgs ?_
            simp only [cgS,List.cons_append,List.nil_append]
            (refine Le.ok some [] ?_;constructor;all_goals (try simp only [vle,vkt,seval,tbE25_law,xbE25_1,aBunk,aBunks,aBunkss,eBunk,eBunks,gBunk,gBunks,rBunk,rBunks,eCabin,gCabin,mBunk,mBunks,mCabin,mTk,aChart,cChart,aAsk,cAsk,cgS,pBag,pChartOf,pAskedOf,sChangeF,pPlacesF,srOpen,sbunk,sFew,seqB,sselling,List.length_map]))
            all_goals first|rfl|(simp;done)
          · rw [decide_eq_false hne] at hxz
            have hxz:=hxz.symm
            rw [if_pos ⟨hi0,hne⟩] at hgs
            repeat' (first|(apply nx;with_reducible constructor)|refine uq (by decide) ?_|((first|refine vx env fun Q hQ=>?_|refine vz fun Q hQ=>?_);simp only [vkt,seval,tbE25_law,xbE25_1,aBunk,aBunks,aBunkss,eBunk,eBunks,gBunk,gBunks,rBunk,rBunks,eCabin,gCabin,mBunk,mBunks,mCabin,mTk,aChart,cChart,aAsk,cAsk,cgS,pBag,pChartOf,pAskedOf,sChangeF,pPlacesF,srOpen,sbunk,sFew,seqB,sselling,List.length_map,d2,d3,i0,hiO,hg,w2,i1,hi1,hil,hx,hz,hxz,e9,w1];(try simp only [ite_and]);(repeat' (first|with_reducible assumption|refine And.intro ?_ ?_|intro hp));all_goals (first|(refine hQ _ ?_;clear hQ Q)|(refine hQ _ (fun h=>?_) (fun h=>?_) <;> clear hQ Q <;> (try simp only [vki,reduceCtorEq] at h))|(refine vq ?_;kernel_rfl)|omega|assumption|with_reducible rfl|skip)))
            refine fin _ _ hgs ?_
            simp only [cgS,List.cons_append,List.nil_append]
            (refine Le.ok some [] ?_;constructor;all_goals (try simp only [vle,vkt,seval,tbE25_law,xbE25_1,aBunk,aBunks,aBunkss,eBunk,eBunks,gBunk,gBunks,rBunk,rBunks,eCabin,gCabin,mBunk,mBunks,mCabin,mTk,aChart,cChart,aAsk,cAsk,cgS,pBag,pChartOf,pAskedOf,sChangeF,pPlacesF,srOpen,sbunk,sFew,seqB,sselling,List.length_map]))
            all_goals first|rfl|(simp;done)
        · have d3:decide ((0:Int) < (i:Int))=false:=decide_eq_false (by omega)
          rw [if_neg (fun h=>hi0 h.1),Nat.add_zero] at hgs
          repeat' (first|(apply nx;with_reducible constructor)|refine uq (by decide) ?_|((first|refine vx env fun Q hQ=>?_|refine vz fun Q hQ=>?_);simp only [vkt,seval,tbE25_law,xbE25_1,aBunk,aBunks,aBunkss,eBunk,eBunks,gBunk,gBunks,rBunk,rBunks,eCabin,gCabin,mBunk,mBunks,mCabin,mTk,aChart,cChart,aAsk,cAsk,cgS,pBag,pChartOf,pAskedOf,sChangeF,pPlacesF,srOpen,sbunk,sFew,seqB,sselling,List.length_map,d2,d3,i0,hiO,hg,e9];(try simp only [ite_and]);(repeat' (first|with_reducible assumption|refine And.intro ?_ ?_|intro hp));all_goals (first|(refine hQ _ ?_;clear hQ Q)|(refine hQ _ (fun h=>?_) (fun h=>?_) <;> clear hQ Q <;> (try simp only [vki,reduceCtorEq] at h))|(refine vq ?_;kernel_rfl)|omega|assumption|with_reducible rfl|skip)))
          refine fin _ _ hgs ?_
          simp only [cgS,List.cons_append,List.nil_append]
          (refine Le.ok some [] ?_;constructor;all_goals (try simp only [vle,vkt,seval,tbE25_law,xbE25_1,aBunk,aBunks,aBunkss,eBunk,eBunks,gBunk,gBunks,rBunk,rBunks,eCabin,gCabin,mBunk,mBunks,mCabin,mTk,aChart,cChart,aAsk,cAsk,cgS,pBag,pChartOf,pAskedOf,sChangeF,pPlacesF,srOpen,sbunk,sFew,seqB,sselling,List.length_map]))
          all_goals first|rfl|(simp;done)
    · have d1:decide ((i:Int) < (w.length:Int))=false:=decide_eq_false (by omega)
      obtain rfl:i=w.length:=by omega
      have d9:decide (((cgK w w.length:Nat):Int)=n)=true:=decide_eq_true hcg
      simp only [cgS,List.cons_append,List.nil_append]
      repeat' (first|(apply nx;with_reducible constructor)|refine uq (by decide) ?_|((first|refine vx env fun Q hQ=>?_|refine vz fun Q hQ=>?_);simp only [vkt,seval,tbE25_law,xbE25_1,aBunk,aBunks,aBunkss,eBunk,eBunks,gBunk,gBunks,rBunk,rBunks,eCabin,gCabin,mBunk,mBunks,mCabin,mTk,aChart,cChart,aAsk,cAsk,cgS,pBag,pChartOf,pAskedOf,sChangeF,pPlacesF,srOpen,sbunk,sFew,seqB,sselling,List.length_map,d1,d9];(try simp only [ite_and]);(repeat' (first|with_reducible assumption|refine And.intro ?_ ?_|intro hp));all_goals (first|(refine hQ _ ?_;clear hQ Q)|(refine hQ _ (fun h=>?_) (fun h=>?_) <;> clear hQ Q <;> (try simp only [vki,reduceCtorEq] at h))|(refine vq ?_;kernel_rfl)|omega|assumption|with_reducible rfl|skip)))
      (simp only [vrt,Try.results5,vkt,seval,tbE25_law,xbE25_1,aBunk,aBunks,aBunkss,eBunk,eBunks,gBunk,gBunks,rBunk,rBunks,eCabin,gCabin,mBunk,mBunks,mCabin,mTk,aChart,cChart,aAsk,cAsk,cgS,pBag,pChartOf,pAskedOf,sChangeF,pPlacesF,srOpen,sbunk,sFew,seqB,sselling,List.length_map];refine Fin.val rfl ?_;(try simp only [AV.le,AV.leL]))
      all_goals first|rfl|(simp;done)
end Go.Sym.B
