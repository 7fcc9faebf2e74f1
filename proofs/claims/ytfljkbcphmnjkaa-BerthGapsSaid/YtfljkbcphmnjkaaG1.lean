/- Walks and what they compute, joined: part 1. -/
import Derived.Test.YtfljkbcphmnjkaaB3
set_option linter.all false
namespace Go.Sym.B
open Go Go.Sym Go.Proofs Go.Sym.C
theorem ty103:tyB 103=some ti103:=rfl
theorem ty188:tyB 188=some ti188:=rfl
theorem z0 {a b:Int} (h:-9223372036854775808≤a+b∧a+b < 9223372036854775808):IntKind.wrap .i64 (a+b)=a+b:=wrap64 h.1 h.2
theorem _root_.Go.Sym.vj {a b:Prop} (x:a) (y:b):a∧b:=⟨x,y⟩
def _root_.Go.Sym.uq:=@blockK_miss
def _root_.Go.Sym.ux:=@blockK_hit
def _root_.Go.Sym.uz:=@blockK_n
def _root_.Go.Sym.uj:=@blockK_r
def _root_.Go.Sym.uk:=@thenK_x
def _root_.Go.Sym.uw:=@thenK_r
def _root_.Go.Sym.uv:=@thenK_n
def _root_.Go.Sym.vq:=@drawB_of
def _root_.Go.Sym.vx:=@sym_reg
def _root_.Go.Sym.vz:=@sym_cz
end Go.Sym.B
namespace Go.Sym.B
open Go Go.Sym Go.Proofs Go.Sym.C
end Go.Sym.B
namespace Go.Sym.B
open Go Go.Sym Go.Proofs Go.Sym.C
end Go.Sym.B
namespace Go.Sym.B
open Go Go.Sym Go.Proofs Go.Sym.C
theorem bunks_3 {cs:List Cabin} (h2:∀ x ∈ cs,1≤x.beds∧x.beds≤3):(bunksL cs).length≤3 * cs.length:=by
  rw [bunks_len]
  induction cs with
  |nil=>simp [bdsL]
  |cons x l ih =>
    have h3:=ih fun y hy=>h2 y (List.mem_cons_of_mem _ hy)
    have h4:=h2 x (List.mem_cons_self ..)
    simp only [bdsL,List.map_cons,List.sum_cons,List.length_cons] at h3 ⊢
    omega
theorem bunks_n {cs:List Cabin} (h1:cs.length≤3) (h2:∀ x ∈ cs,1≤x.beds∧x.beds≤3):(bunksL cs).length≤9:=by
  have:=bunks_3 h2
  omega
end Go.Sym.B
namespace Go.Sym.B
open Go Go.Sym Go.Proofs Go.Sym.C
theorem bunks_nd (cs:List Cabin):(bunksL cs).Nodup:=by
  unfold bunksL List.Nodup
  rw [List.pairwise_flatMap]
  refine ⟨fun i _=>?_, ?_⟩
  · rw [List.pairwise_map]
    refine List.Pairwise.imp (fun {a b} h=>?_) List.pairwise_lt_range
    intro e
    have e:=congrArg Bunk.bed e
    simp only at e
    omega
  · refine List.Pairwise.imp (fun {a b} h=>?_) List.pairwise_lt_range
    intro x hx y hy e
    obtain ⟨k,_,rfl⟩:=List.mem_map.1 hx
    obtain ⟨m,_,rfl⟩:=List.mem_map.1 hy
    have e:=congrArg Bunk.cab e
    simp only at e
    omega
structure RmInv (C:Chart) (a:Ask) (i:Nat) (c:Chart):Prop where
  chk:checkE c=0
  cabs:c.cabins=C.cabins
  secs:c.secs=C.secs
  len:c.sold.length=C.sold.length+i
  lt:∀ t ∈ c.sold,t.party < 60+(i:Int)
end Go.Sym.B
namespace Go.Sym.B
open Go Go.Sym Go.Proofs Go.Sym.C
def bkF (i k:Nat):List Bunk:=(List.range k).map fun (m:Nat)=>⟨(i:Int),(m:Int)⟩
def bkP (cs:List Cabin) (i:Nat):List Bunk:=(List.range i).flatMap fun i=>bkF i (cs.getD i default).beds.toNat
theorem bkF_succ (i k:Nat):bkF i (k+1)=bkF i k++[⟨(i:Int),(k:Int)⟩]:=by
  unfold bkF
  rw [List.range_succ,List.map_append];rfl
theorem bkF_len (i k:Nat):(bkF i k).length=k:=by simp [bkF]
theorem bkP_succ (cs:List Cabin) (i:Nat):bkP cs (i+1)=bkP cs i++bkF i (cs.getD i default).beds.toNat:=by
  unfold bkP
  rw [List.range_succ,List.flatMap_append]
  simp
theorem bkP_len {cs:List Cabin} (hb:∀ x ∈ cs,x.beds≤3):∀ i,i≤cs.length→(bkP cs i).length≤3 * i
  |0,_=>by simp [bkP]
  |i+1,h=>by
    have h1:=bkP_len hb i (by omega)
    have h2:=hb _ (gMem (d:=default) (show i < cs.length by omega))
    rw [bkP_succ,List.length_append,bkF_len]
    omega
def bkS (c:Chart) (T:List (Nat × AV)) (l:List Bunk):St:={ t:=asg (T++[(1,.ptr 0 0),(3,.row 1)]),h:=hasg [(0,.cells (cChart c)),(1,.row 49 2 (l.map eBunk))],n:=2 }
def tbE10_rBunks:=vj @ty3 (vj @ty25 (vj @ty28 (vj @ty37 (vj @ty49 (vj @ty51 (vj @ti3.eq_1 (vj @ti25.eq_1 (vj @ti28.eq_1 (vj @ti37.eq_1 (vj @ti49.eq_1 @ti51.eq_1))))))))))
def xbE10_1:=vj @aI.eq_1 (@aB.eq_1)
theorem rBunks_fn (c:Chart) (hc:c.cabins.length≤3) (hb:∀ x ∈ c.cabins,x.beds≤3):FnV Try.prog 22 [aChart c] (aBunks (bunksL c.cabins)):=by
  have env:Env (fun _=>True) Try.prog tyB (tab []):=mkEnv trivial
  refine Fn.of (A:=fun _=>True) (n0:=0) (D:=noD) (Fn0 Try.func22 rfl (fun vs w=>by kernel_rfl) (by kernel_rfl)) (by simp) (by simp [AV.ids,AV.idsL,aChart,cChart]) (fun i o h=>by cases h) (fun _ _ _ _=>trivial) noD_ok ?_
  have hmx:(100000:Nat)≤maxLen:=by decide
  rw [show bunksL c.cabins=bkP c.cabins c.cabins.length from rfl]
  repeat' (first|(apply nx;with_reducible constructor)|refine uq (by decide) ?_|((first|refine vx env fun Q hQ=>?_|refine vz fun Q hQ=>?_);simp only [vkt,seval,tbE10_rBunks,xbE10_1,aBunk,aBunks,eBunk,gBunk,rBunk,eCabin,gCabin,mBunk,mCabin,mTk,aChart,cChart,bkS,List.length_map];(try simp only [ite_and]);(repeat' (first|with_reducible assumption|refine And.intro ?_ ?_|intro hp));all_goals (first|(refine hQ _ ?_;clear hQ Q)|(refine hQ _ (fun h=>?_) (fun h=>?_) <;> clear hQ Q <;> (try simp only [vki,reduceCtorEq] at h))|(refine vq ?_;kernel_rfl)|omega|assumption|with_reducible rfl|skip)))
  refine sym_loop (fun i:{ i:Nat // i≤c.cabins.length }=>bkS c [(4,aI i.1)] (bkP c.cabins i.1)) (fun i=>c.cabins.length - i.1) ⟨0,Nat.zero_le _⟩ ?_ fun ⟨i,hi⟩=>?_
  · simp only [bkS,show bkP c.cabins 0=[] from rfl,List.cons_append,List.nil_append]
    (refine Le.ok (fun i=>if i=1 then none else some i) [] ?_;constructor;all_goals (try simp only [vle,vkt,seval,tbE10_rBunks,xbE10_1,aBunk,aBunks,eBunk,gBunk,rBunk,eCabin,gCabin,mBunk,mCabin,mTk,aChart,cChart,bkS,List.length_map]))
    all_goals first|rfl|(simp;done)
  simp only at hi ⊢
  have hL:=bkP_len hb i hi
  have hS:=bkP_succ c.cabins i
  obtain ⟨L,hLe⟩:∃ L,bkP c.cabins i=L:=⟨_,rfl⟩
  rw [hLe] at hL hS
  rw [hLe]
  by_cases hil:i < c.cabins.length
  · have d1:decide ((i:Int) < (c.cabins.length:Int))=true:=decide_eq_true (by omega)
    have e9:IntKind.wrap .i64 ((i:Int)+1)=((i+1:Nat):Int):=by rw [wrap64 (by omega) (by omega)];rfl
    have i0:((i:Int)).toNat=i:=rfl
    obtain ⟨x,hx⟩:∃ x,c.cabins.getD i default=x:=⟨_,rfl⟩
    have hxb:=hb x (by rw [← hx];exact gMem hil)
    rw [hx] at hS
    simp only [bkS,List.cons_append,List.nil_append]
    repeat' (first|(apply nx;with_reducible constructor)|refine uq (by decide) ?_|((first|refine vx env fun Q hQ=>?_|refine vz fun Q hQ=>?_);simp only [vkt,seval,tbE10_rBunks,xbE10_1,aBunk,aBunks,eBunk,gBunk,rBunk,eCabin,gCabin,mBunk,mCabin,mTk,aChart,cChart,bkS,List.length_map,d1,i0];(try simp only [ite_and]);(repeat' (first|with_reducible assumption|refine And.intro ?_ ?_|intro hp));all_goals (first|(refine hQ _ ?_;clear hQ Q)|(refine hQ _ (fun h=>?_) (fun h=>?_) <;> clear hQ Q <;> (try simp only [vki,reduceCtorEq] at h))|(refine vq ?_;kernel_rfl)|omega|assumption|with_reducible rfl|skip)))
    refine sym_loop (fun k:{ k:Nat // k≤x.beds.toNat }=>bkS c [(4,aI i),(5,aI k.1)] (L++bkF i k.1)) (fun k=>x.beds.toNat - k.1) ⟨0,Nat.zero_le _⟩ ?_ fun ⟨k,hk⟩=>?_
    · simp only [bkS,show bkF i 0=[] from rfl,List.append_nil,List.cons_append,List.nil_append]
      (refine Le.ok some [] ?_;constructor;all_goals (try simp only [vle,vkt,seval,tbE10_rBunks,xbE10_1,aBunk,aBunks,eBunk,gBunk,rBunk,eCabin,gCabin,mBunk,mCabin,mTk,aChart,cChart,bkS,List.length_map]))
      all_goals first|rfl|(simp;done)
    simp only at hk ⊢
    have hF:=bkF_succ i k
    have hFl:(L++bkF i k).length≤100:=by rw [List.length_append,bkF_len];omega
    obtain ⟨M,hM⟩:∃ M,L++bkF i k=M:=⟨_,rfl⟩
    have hMS:L++bkF i (k+1)=M++[⟨(i:Int),(k:Int)⟩]:=by rw [hF,← List.append_assoc,hM]
    rw [hM] at hFl
    simp only [bkS,hM,List.cons_append,List.nil_append]
    by_cases hkl:k < x.beds.toNat
    · have d2:decide ((k:Int) < x.beds)=true:=decide_eq_true (by omega)
      have e8:IntKind.wrap .i64 ((k:Int)+1)=((k+1:Nat):Int):=by rw [wrap64 (by omega) (by omega)];rfl
      have hm:M.length+1≤maxLen:=by omega
      repeat' (first|(apply nx;with_reducible constructor)|refine uq (by decide) ?_|((first|refine vx env fun Q hQ=>?_|refine vz fun Q hQ=>?_);simp only [vkt,seval,tbE10_rBunks,xbE10_1,aBunk,aBunks,eBunk,gBunk,rBunk,eCabin,gCabin,mBunk,mCabin,mTk,aChart,cChart,bkS,List.length_map,i0,hil,hx,d2,e8,hm];(try simp only [ite_and]);(repeat' (first|with_reducible assumption|refine And.intro ?_ ?_|intro hp));all_goals (first|(refine hQ _ ?_;clear hQ Q)|(refine hQ _ (fun h=>?_) (fun h=>?_) <;> clear hQ Q <;> (try simp only [vki,reduceCtorEq] at h))|(refine vq ?_;kernel_rfl)|omega|assumption|with_reducible rfl|skip)))
      refine ⟨⟨k+1,hkl⟩,by show x.beds.toNat - (k+1) < x.beds.toNat - k;omega, ?_⟩
      simp only [bkS,hMS,List.cons_append,List.nil_append]
      (refine Le.ok (fun i=>if i=1 then some 3 else some i) [] ?_;constructor;all_goals (try simp only [vle,vkt,seval,tbE10_rBunks,xbE10_1,aBunk,aBunks,eBunk,gBunk,rBunk,eCabin,gCabin,mBunk,mCabin,mTk,aChart,cChart,bkS,List.length_map]))
      all_goals first|rfl|(rw [List.map_append];rfl)|(simp;done)|(intro i hi;rw [if_neg (by omega)];done)
    · have d2:decide ((k:Int) < x.beds)=false:=decide_eq_false (by omega)
      obtain rfl:k=x.beds.toNat:=by omega
      repeat' (first|(apply nx;with_reducible constructor)|refine uq (by decide) ?_|((first|refine vx env fun Q hQ=>?_|refine vz fun Q hQ=>?_);simp only [vkt,seval,tbE10_rBunks,xbE10_1,aBunk,aBunks,eBunk,gBunk,rBunk,eCabin,gCabin,mBunk,mCabin,mTk,aChart,cChart,bkS,List.length_map,i0,hil,hx,d2,e9];(try simp only [ite_and]);(repeat' (first|with_reducible assumption|refine And.intro ?_ ?_|intro hp));all_goals (first|(refine hQ _ ?_;clear hQ Q)|(refine hQ _ (fun h=>?_) (fun h=>?_) <;> clear hQ Q <;> (try simp only [vki,reduceCtorEq] at h))|(refine vq ?_;kernel_rfl)|omega|assumption|with_reducible rfl|skip)))
      refine ⟨⟨i+1,hil⟩,by show c.cabins.length - (i+1) < c.cabins.length - i;omega, ?_⟩
      simp only [bkS,hS,hM,List.cons_append,List.nil_append]
      (refine Le.ok some [] ?_;constructor;all_goals (try simp only [vle,vkt,seval,tbE10_rBunks,xbE10_1,aBunk,aBunks,eBunk,gBunk,rBunk,eCabin,gCabin,mBunk,mCabin,mTk,aChart,cChart,bkS,List.length_map]))
      all_goals first|rfl|(simp;done)
  · have d1:decide ((i:Int) < (c.cabins.length:Int))=false:=decide_eq_false (by omega)
    obtain rfl:i=c.cabins.length:=by omega
    rw [hLe]
    simp only [bkS,List.cons_append,List.nil_append]
    repeat' (first|(apply nx;with_reducible constructor)|refine uq (by decide) ?_|((first|refine vx env fun Q hQ=>?_|refine vz fun Q hQ=>?_);simp only [vkt,seval,tbE10_rBunks,xbE10_1,aBunk,aBunks,eBunk,gBunk,rBunk,eCabin,gCabin,mBunk,mCabin,mTk,aChart,cChart,bkS,List.length_map,d1];(try simp only [ite_and]);(repeat' (first|with_reducible assumption|refine And.intro ?_ ?_|intro hp));all_goals (first|(refine hQ _ ?_;clear hQ Q)|(refine hQ _ (fun h=>?_) (fun h=>?_) <;> clear hQ Q <;> (try simp only [vki,reduceCtorEq] at h))|(refine vq ?_;kernel_rfl)|omega|assumption|with_reducible rfl|skip)))
    (simp only [vrt,Try.results22,vkt,seval,tbE10_rBunks,xbE10_1,aBunk,aBunks,eBunk,gBunk,rBunk,eCabin,gCabin,mBunk,mCabin,mTk,aChart,cChart,bkS,List.length_map];refine Fin.val rfl ?_;(try simp only [AV.le,AV.leL]))
    all_goals first|rfl|(simp;done)|exact ⟨_,_,rfl⟩
def srBunks:List AV→Prop × AV
  |[.agg [.sl c0,.v (.int .i64 c1),.sl c2]]=>(c0=(c0.map dCabin).map eCabin∧c2=(c2.map dTk).map eTk∧((⟨(c0.map dCabin),c1,(c2.map dTk)⟩:Chart)).cabins.length≤3∧∀ x ∈ ((⟨(c0.map dCabin),c1,(c2.map dTk)⟩:Chart)).cabins,x.beds≤3,aBunks (bunksL ((⟨(c0.map dCabin),c1,(c2.map dTk)⟩:Chart)).cabins))
  |_=>(False,.junk)
theorem erBunks {A:Frm→Prop}:EntryOK A Try.prog 22 (valE false srBunks):=valE_ok fun vs hv h=>by
  clear hv
  unfold srBunks at h ⊢
  split at h
  · rename_i c0 c1 c2;obtain ⟨q0,q1,k0,k1⟩:=h
    refine ⟨by first|trivial|(simp [AV.plain,AV.plainL,aI,aB,aInts,aBunks,aTks,aBunk,aTk,cTk];done)|(repeat' split) <;> simp [AV.plain,AV.plainL,aI,aB,aInts,aBunks,aTks,aBunk,aTk,cTk],fun h=>absurd h (by decide), ?_⟩
    have:=rBunks_fn ((⟨(c0.map dCabin),c1,(c2.map dTk)⟩:Chart)) k0 k1
    simp only [aCabins,aChart,aI,aTks,cChart,← q0,← q1] at this
    first|exact this|(simp only [aCabins,aChart,aI,aTks,cChart,← q0,← q1];exact this)
  · exact h.elim
end Go.Sym.B
namespace Go.Sym.B
open Go Go.Sym Go.Proofs Go.Sym.C
end Go.Sym.B
namespace Go.Sym.B
open Go Go.Sym Go.Proofs Go.Sym.C
end Go.Sym.B
namespace Go.Sym.B
open Go Go.Sym Go.Proofs Go.Sym.C
end Go.Sym.B
namespace Go.Sym.B
open Go Go.Sym Go.Proofs Go.Sym.C
theorem filt_succ {α:Type} {p:α→Bool} {d:α} {l:List α} {i:Nat} (h:i < l.length):((l.take (i+1)).filter p).length=((l.take i).filter p).length+if p (l.getD i d) then 1 else 0:=by
  rw [List.take_succ_eq_append_getElem h,List.filter_append,List.length_append,List.getD_eq_getElem?_getD,List.getElem?_eq_getElem h]
  cases hp:p l[i] <;> simp [hp]
end Go.Sym.B
namespace Go.Sym.B
open Go Go.Sym Go.Proofs Go.Sym.C
def popN (n:Int):Int:=if n=0 then 0 else if n=1∨n=2∨n=4 then 1 else if n=7 then 3 else 2
def tbE15_oc64:=vj @ty3 (vj @ty100 (vj @ti3.eq_1 @ti100.eq_1))
def xbE15_1:=vj @aI.eq_1 (vj @aB.eq_1 (@aU.eq_1))
theorem oc64_fn (n:Int) (hn:0≤n∧n < 8):FnV Try.prog 145 [aU n] (aI (popN n)):=by
  have env:Env (fun _=>True) Try.prog tyB (tab []):=mkEnv trivial
  have hc:n=0∨n=1∨n=2∨n=3∨n=4∨n=5∨n=6∨n=7:=by omega
  rcases hc with rfl|rfl|rfl|rfl|rfl|rfl|rfl|rfl
  all_goals
    refine Fn.of (A:=fun _=>True) (n0:=0) (D:=noD) (Fn0 Try.func145 rfl (fun vs w=>by kernel_rfl) (by kernel_rfl)) (by simp) (by simp [AV.ids,AV.idsL,aU]) (fun i o h=>by cases h) (fun _ _ _ _=>trivial) noD_ok ?_
    repeat' (first|(apply nx;with_reducible constructor)|refine uq (by decide) ?_|((first|refine vx env fun Q hQ=>?_|refine vz fun Q hQ=>?_);simp only [vkt,seval,tbE15_oc64,xbE15_1];(try simp only [ite_and]);(repeat' (first|with_reducible assumption|refine And.intro ?_ ?_|intro hp));all_goals (first|(refine hQ _ ?_;clear hQ Q)|(refine hQ _ (fun h=>?_) (fun h=>?_) <;> clear hQ Q <;> (try simp only [vki,reduceCtorEq] at h))|(refine vq ?_;kernel_rfl)|omega|assumption|with_reducible rfl|skip)))
    (simp only [vrt,Try.results145,vkt,seval,tbE15_oc64,xbE15_1];refine Fin.val rfl ?_;(try simp only [AV.le,AV.leL]))
    all_goals first|kernel_rfl|rfl
def soc64:List AV→Prop × AV
  |[.v (.int .u64 a)]=>(0≤a∧a < 8,aI (popN a))
  |_=>(False,.junk)
theorem eoc64 {A:Frm→Prop}:EntryOK A Try.prog 145 (valE true soc64):=valE_ok fun vs hv h=>by
  clear hv
  unfold soc64 at h ⊢
  split at h
  · exact ⟨by simp [aI,AV.plain],fun _=>by simp [aI,AV.flat],oc64_fn _ h⟩
  · exact h.elim
def tbE15_oc:=vj @ty103 (vj @ty188 (vj @ti103.eq_1 @ti188.eq_1))
def xbE15_2:=vj @aI.eq_1 (vj @aB.eq_1 (@aU.eq_1))
theorem oc_fn (n:Int) (hn:0≤n∧n < 8):FnV Try.prog 131 [aU n] (aI (popN n)):=by
  have env:Env (fun _=>True) Try.prog tyB (tab [(145,valE true soc64)]):=mkEnv ⟨eoc64,trivial⟩
  refine Fn.of (A:=fun _=>True) (n0:=0) (D:=noD) (Fn0 Try.func131 rfl (fun vs w=>by kernel_rfl) (by kernel_rfl)) (by simp) (by simp [AV.ids,AV.idsL,aU]) (fun i o h=>by cases h) (fun _ _ _ _=>trivial) noD_ok ?_
  obtain ⟨h1,h2⟩:=hn
  repeat' (first|(apply nx;with_reducible constructor)|refine uq (by decide) ?_|((first|refine vx env fun Q hQ=>?_|refine vz fun Q hQ=>?_);simp only [vkt,seval,tbE15_oc,xbE15_2,soc64,h1,h2];(try simp only [ite_and]);(repeat' (first|with_reducible assumption|refine And.intro ?_ ?_|intro hp));all_goals (first|(refine hQ _ ?_;clear hQ Q)|(refine hQ _ (fun h=>?_) (fun h=>?_) <;> clear hQ Q <;> (try simp only [vki,reduceCtorEq] at h))|(refine vq ?_;kernel_rfl)|omega|assumption|with_reducible rfl|skip)))
  (simp only [vrt,Try.results131,vkt,seval,tbE15_oc,xbE15_2,soc64];refine Fin.val rfl ?_;(try simp only [AV.le,AV.leL]))
  all_goals first|rfl|(simp;done)
def soc:List AV→Prop × AV
  |[.v (.int .u64 a)]=>(0≤a∧a < 8,aI (popN a))
  |_=>(False,.junk)
theorem eoc {A:Frm→Prop}:EntryOK A Try.prog 131 (valE true soc):=valE_ok fun vs hv h=>by
  clear hv
  unfold soc at h ⊢
  split at h
  · exact ⟨by simp [aI,AV.plain],fun _=>by simp [aI,AV.flat],oc_fn _ h⟩
  · exact h.elim
def xbE15_3:=vj @aI.eq_1 (vj @aB.eq_1 (@aU.eq_1))
theorem many_fn (n:Int) (hn:0≤n∧n < 8):FnV Try.prog 109 [aU n] (aI (popN n)):=by
  have env:Env (fun _=>True) Try.prog tyB (tab [(131,valE true soc)]):=mkEnv ⟨eoc,trivial⟩
  refine Fn.of (A:=fun _=>True) (n0:=0) (D:=noD) (Fn0 Try.func109 rfl (fun vs w=>by kernel_rfl) (by kernel_rfl)) (by simp) (by simp [AV.ids,AV.idsL,aU]) (fun i o h=>by cases h) (fun _ _ _ _=>trivial) noD_ok ?_
  obtain ⟨h1,h2⟩:=hn
  repeat' (first|(apply nx;with_reducible constructor)|refine uq (by decide) ?_|((first|refine vx env fun Q hQ=>?_|refine vz fun Q hQ=>?_);simp only [vkt,seval,xbE15_3,soc,h1,h2];(try simp only [ite_and]);(repeat' (first|with_reducible assumption|refine And.intro ?_ ?_|intro hp));all_goals (first|(refine hQ _ ?_;clear hQ Q)|(refine hQ _ (fun h=>?_) (fun h=>?_) <;> clear hQ Q <;> (try simp only [vki,reduceCtorEq] at h))|(refine vq ?_;kernel_rfl)|omega|assumption|with_reducible rfl|skip)))
  (simp only [vrt,Try.results109,vkt,seval,xbE15_3,soc];refine Fin.val rfl ?_;(try simp only [AV.le,AV.leL]))
  all_goals first|rfl|(simp;done)
def smany:List AV→Prop × AV
  |[.v (.int .u64 a)]=>(0≤a∧a < 8,aI (popN a))
  |_=>(False,.junk)
theorem emany {A:Frm→Prop}:EntryOK A Try.prog 109 (valE true smany):=valE_ok fun vs hv h=>by
  clear hv
  unfold smany at h ⊢
  split at h
  · exact ⟨by simp [aI,AV.plain],fun _=>by simp [aI,AV.flat],many_fn _ h⟩
  · exact h.elim
def bitB (b n:Int):Bool:=decide (b / 2 ^ n.toNat % 2=1)
def tbE15_has:=vj @ty158 @ti158.eq_1
def xbE15_4:=vj @aI.eq_1 (vj @aB.eq_1 (@aU.eq_1))
theorem has_fn (b n:Int) (hb:0≤b∧b < 8) (hn:0≤n∧n < 3):FnV Try.prog 111 [aU b,aI n] (aB (bitB b n)):=by
  have env:Env (fun _=>True) Try.prog tyB (tab []):=mkEnv trivial
  have hc:b=0∨b=1∨b=2∨b=3∨b=4∨b=5∨b=6∨b=7:=by omega
  have hd:n=0∨n=1∨n=2:=by omega
  rcases hc with rfl|rfl|rfl|rfl|rfl|rfl|rfl|rfl <;> rcases hd with rfl|rfl|rfl
  all_goals
    refine Fn.of (A:=fun _=>True) (n0:=0) (D:=noD) (Fn0 Try.func111 rfl (fun vs w=>by kernel_rfl) (by kernel_rfl)) (by simp) (by simp [AV.ids,AV.idsL,aU,aI]) (fun i o h=>by cases h) (fun _ _ _ _=>trivial) noD_ok ?_
    repeat' (first|(apply nx;with_reducible constructor)|refine uq (by decide) ?_|((first|refine vx env fun Q hQ=>?_|refine vz fun Q hQ=>?_);simp only [vkt,seval,tbE15_has,xbE15_4];(try simp only [ite_and]);(repeat' (first|with_reducible assumption|refine And.intro ?_ ?_|intro hp));all_goals (first|(refine hQ _ ?_;clear hQ Q)|(refine hQ _ (fun h=>?_) (fun h=>?_) <;> clear hQ Q <;> (try simp only [vki,reduceCtorEq] at h))|(refine vq ?_;kernel_rfl)|omega|assumption|with_reducible rfl|skip)))
    (simp only [vrt,Try.results111,vkt,seval,tbE15_has,xbE15_4];refine Fin.val rfl ?_;(try simp only [AV.le,AV.leL]))
    all_goals first|kernel_rfl|rfl
def shas:List AV→Prop × AV
  |[.v (.int .u64 b),.v (.int .i64 n)]=>((0≤b∧b < 8)∧0≤n∧n < 3,aB (bitB b n))
  |_=>(False,.junk)
theorem ehas {A:Frm→Prop}:EntryOK A Try.prog 111 (valE true shas):=valE_ok fun vs hv h=>by
  clear hv
  unfold shas at h ⊢
  split at h
  · exact ⟨by simp [aB,AV.plain],fun _=>by simp [aB,AV.flat],has_fn _ _ h.1 h.2⟩
  · exact h.elim
end Go.Sym.B
namespace Go.Sym.B
open Go Go.Sym Go.Proofs Go.Sym.C
theorem bedE_tab:∀ a:_root_.Fin 8,∀ b:_root_.Fin 3,(0≤bedE (a.val:Int) (b.val:Int)∧bedE (a.val:Int) (b.val:Int) < 8)∧∀ n:_root_.Fin 3,bitB (bedE (a.val:Int) (b.val:Int)) (n.val:Int)=(decide ((b.val:Int)=(n.val:Int)) || bitB (a.val:Int) (n.val:Int)):=by decide +kernel
theorem bedE_bd {a b:Int} (ha:0≤a∧a < 8) (hb:0≤b∧b < 3):0≤bedE a b∧bedE a b < 8:=by
  have:=(bedE_tab ⟨a.toNat,by omega⟩ ⟨b.toNat,by omega⟩).1
  simpa [Int.toNat_of_nonneg ha.1,Int.toNat_of_nonneg hb.1] using this
theorem bedE_bit {a b n:Int} (ha:0≤a∧a < 8) (hb:0≤b∧b < 3) (hn:0≤n∧n < 3):bitB (bedE a b) n=(decide (b=n) || bitB a n):=by
  have:=(bedE_tab ⟨a.toNat,by omega⟩ ⟨b.toNat,by omega⟩).2 ⟨n.toNat,by omega⟩
  simpa [Int.toNat_of_nonneg ha.1,Int.toNat_of_nonneg hb.1,Int.toNat_of_nonneg hn.1] using this
theorem pop_tab:∀ a:_root_.Fin 8,popN (a.val:Int)=(if bitB (a.val:Int) 0 then 1 else 0)+(if bitB (a.val:Int) 1 then 1 else 0)+(if bitB (a.val:Int) 2 then 1 else 0):=by decide +kernel
theorem pop_bits {a:Int} (ha:0≤a∧a < 8):popN a=(if bitB a 0 then 1 else 0)+(if bitB a 1 then 1 else 0)+(if bitB a 2 then 1 else 0):=by
  have:=pop_tab ⟨a.toNat,by omega⟩
  simpa only [Int.toNat_of_nonneg ha.1] using this
theorem pop_bd (a:Int):0≤popN a∧popN a≤3:=by
  unfold popN
  split
  · omega
  split
  · omega
  split <;> omega
theorem heldK_bits {c:Chart} (hv:Van c) (s:Int):∀ k,k≤c.sold.length→∀ i:Nat,i < 3→(0≤(heldK c.sold s k).getD i 0∧(heldK c.sold s k).getD i 0 < 8)∧∀ n:Int,0≤n∧n < 3→bitB ((heldK c.sold s k).getD i 0) n=heldB (c.sold.take k) ⟨(i:Int),n⟩ s
  |0,_,i,hi=>by
    have e:(heldK c.sold s 0).getD i 0=0:=by
      show ([0,0,0]:List Int).getD i 0=0
      match i,hi with
      |0,_=>rfl
      |1,_=>rfl
      |2,_=>rfl
    rw [e]
    refine ⟨by omega,fun n hn=>?_⟩
    have:n=0∨n=1∨n=2:=by omega
    rcases this with rfl|rfl|rfl <;> rfl
  |k+1,h,i,hi=>by
    have hlt:k < c.sold.length:=by omega
    obtain ⟨ih1,ih2⟩:=heldK_bits hv s k (by omega) i hi
    obtain ⟨t,ht⟩:∃ t,c.sold.getD k default=t:=⟨_,rfl⟩
    have hok:=hv.tk t (ht ▸ gMem hlt)
    have hcl:=hv.car.cabs
    have hbb:=hv.car.beds _ (gMem (d:=default) hok.cab.2)
    have hbed:=hok.bed
    have hbed3:0≤t.bed∧t.bed < 3:=by omega
    have hl:=heldK_len c.sold s k (by omega)
    have hcab:=hok.cab
    have hT:heldB (c.sold.take (k+1))=fun b s=>heldB (c.sold.take k) b s || onB b s t:=by
      funext b s
      unfold heldB
      rw [List.take_succ_eq_append_getElem hlt,List.any_append,← ht]
      simp [List.getD_eq_getElem?_getD,hlt]
    rw [heldK_succ hlt,ht,heldStep,hT]
    simp only
    cases hb:inB s t.frm (t.to - 1) with
    |false =>
      rw [if_neg (by decide)]
      refine ⟨ih1,fun n hn=>?_⟩
      rw [ih2 n hn]
      unfold onB
      rw [hb];simp
    |true =>
      rw [if_pos rfl]
      by_cases hci:t.cab.toNat=i
      · have e1:((heldK c.sold s k).set t.cab.toNat (bedE ((heldK c.sold s k).getD t.cab.toNat 0) t.bed)).getD i 0=bedE ((heldK c.sold s k).getD i 0) t.bed:=by
          rw [hci,List.getD_eq_getElem?_getD,List.getElem?_set_self (by omega)];rfl
        rw [e1]
        refine ⟨bedE_bd ih1 hbed3,fun n hn=>?_⟩
        rw [bedE_bit ih1 hbed3 hn,ih2 n hn]
        unfold onB
        rw [hb,decide_eq_true (show t.cab=(i:Int) by omega)]
        simp only [Bool.true_and,Bool.and_true]
        exact Bool.or_comm _ _
      · have e1:((heldK c.sold s k).set t.cab.toNat (bedE ((heldK c.sold s k).getD t.cab.toNat 0) t.bed)).getD i 0=(heldK c.sold s k).getD i 0:=by
          rw [List.getD_eq_getElem?_getD,List.getElem?_set_ne hci,← List.getD_eq_getElem?_getD]
        rw [e1]
        refine ⟨ih1,fun n hn=>?_⟩
        rw [ih2 n hn]
        unfold onB
        rw [decide_eq_false (show ¬ t.cab=(i:Int) by omega)]
        simp
end Go.Sym.B
namespace Go.Sym.B
open Go Go.Sym Go.Proofs Go.Sym.C
def ldP (x y z:Int):Nat→Int
  |0=>0
  |1=>popN x
  |2=>popN x+popN y
  |_=>popN x+popN y+popN z
def loadN (c:Chart) (s:Int):Int:=ldP ((heldK c.sold s c.sold.length).getD 0 0) ((heldK c.sold s c.sold.length).getD 1 0) ((heldK c.sold s c.sold.length).getD 2 0) 3
def loadA (c:Chart):List Int × Int:=if checkE c=0 then ((List.range c.secs.toNat).map fun (s:Nat)=>loadN c s,0) else ([],checkE c)
def ldK (c:Chart) (s:Nat):List Int:=(List.range s).map fun (s:Nat)=>loadN c s
theorem ldK_succ (c:Chart) (s:Nat):ldK c (s+1)=ldK c s++[loadN c s]:=by
  unfold ldK
  rw [List.range_succ,List.map_append];rfl
theorem ldK_len (c:Chart) (s:Nat):(ldK c s).length=s:=by simp [ldK]
def ldS (c:Chart) (s:Nat) (T:List (Nat × AV)):St:={ t:=asg (T++[(1,.ptr 0 0),(5,.row 1),(16,aI c.secs),(17,aI s)]),h:=hasg [(0,.cells (cChart c)),(1,.row 3 1 ((ldK c s).map eInt))],n:=2 }
def tbE16_Load:=vj @ty3 (vj @ty22 (vj @ty28 (vj @ty34 (vj @ty158 (vj @ty164 (vj @ti3.eq_1 (vj @ti22.eq_1 (vj @ti28.eq_1 (vj @ti34.eq_1 (vj @ti158.eq_1 @ti164.eq_1))))))))))
def xbE16_1:=vj @aI.eq_1 (vj @aB.eq_1 (vj @aU.eq_1 (vj @aInts.eq_1 (vj @eInt.eq_1 (vj @rInt (@mInt))))))
theorem Load_fn (c:Chart) (hc:c.cabins.length≤maxLen):FnV Try.prog 57 [aChart c] (.tup [aInts (loadA c).1,aI (loadA c).2]):=by
  have env:Env (fun _=>True) Try.prog tyB (tab [(44,valE true scheck),(108,valE true sheldIn),(109,valE true smany)]):=mkEnv ⟨echeck,eheldIn,emany,trivial⟩
  refine Fn.of (A:=fun _=>True) (n0:=0) (D:=noD) (Fn0 Try.func57 rfl (fun vs w=>by kernel_rfl) (by kernel_rfl)) (by simp) (by simp [AV.ids,AV.idsL,aChart,cChart]) (fun i o h=>by cases h) (fun _ _ _ _=>trivial) noD_ok ?_
  have ec:(⟨c.cabins,c.secs,c.sold⟩:Chart)=c:=rfl
  have hmx:(100000:Nat)≤maxLen:=by decide
  obtain ⟨e,he⟩:∃ e,checkE c=e:=⟨_,rfl⟩
  by_cases h0:e=0
  · rw [h0] at he
    have hE:loadA c=(ldK c c.secs.toNat,0):=by unfold loadA;rw [if_pos he];rfl
    rw [hE]
    have hv:=val_of he
    have hvan:=hv.van
    have hsec:=hv.car.secs
    repeat' (first|(apply nx;with_reducible constructor)|refine uq (by decide) ?_|((first|refine vx env fun Q hQ=>?_|refine vz fun Q hQ=>?_);simp only [vkt,seval,tbE16_Load,xbE16_1,aChart,cChart,mCabin,mTk,ldS,scheck,sheldIn,smany,us_one,us_idsL,us_le,us_ren,us_plain,us_flat,List.length_map,ec,he,decide_true];(try simp only [ite_and]);(repeat' (first|with_reducible assumption|refine And.intro ?_ ?_|intro hp));all_goals (first|(refine hQ _ ?_;clear hQ Q)|(refine hQ _ (fun h=>?_) (fun h=>?_) <;> clear hQ Q <;> (try simp only [vki,reduceCtorEq] at h))|(refine vq ?_;kernel_rfl)|omega|assumption|with_reducible rfl|skip)))
    refine sym_loop (fun s:{ s:Nat // s≤c.secs.toNat }=>ldS c s.1 []) (fun s=>c.secs.toNat - s.1) ⟨0,Nat.zero_le _⟩ ?_ fun ⟨s,hs⟩=>?_
    · simp only [ldS,show ldK c 0=[] from rfl,List.cons_append,List.nil_append]
      (refine Le.ok (fun i=>if i=1 then none else some i) [] ?_;constructor;all_goals (try simp only [vle,vkt,seval,tbE16_Load,xbE16_1,aChart,cChart,mCabin,mTk,ldS,scheck,sheldIn,smany,us_one,us_idsL,us_le,us_ren,us_plain,us_flat,List.length_map]))
      all_goals first|rfl|(simp;done)
    simp only at hs ⊢
    have hS:=ldK_succ c s
    have hl:=ldK_len c s
    obtain ⟨K,hK⟩:∃ K,ldK c s=K:=⟨_,rfl⟩
    rw [hK] at hS hl
    simp only [ldS,hK,List.nil_append]
    by_cases hsl:s < c.secs.toNat
    · have d1:decide ((s:Int) < c.secs)=true:=decide_eq_true (by omega)
      have e9:IntKind.wrap .i64 ((s:Int)+1)=((s+1:Nat):Int):=by rw [wrap64 (by omega) (by omega)];rfl
      have hb:=fun i hi=>(heldK_bits hvan s c.sold.length (Nat.le_refl _) i hi).1
      have hPl:=heldK_len c.sold s c.sold.length (Nat.le_refl _)
      have hLN:loadN c s=ldP ((heldK c.sold s c.sold.length).getD 0 0) ((heldK c.sold s c.sold.length).getD 1 0) ((heldK c.sold s c.sold.length).getD 2 0) 3:=rfl
      obtain ⟨P,hP⟩:∃ P,heldK c.sold s c.sold.length=P:=⟨_,rfl⟩
      rw [hP] at hb hPl hLN
      obtain ⟨x,y,z,rfl⟩:∃ x y z,P=[x,y,z]:=by
        match P,hPl with
        |[x,y,z],_=>exact ⟨x,y,z,rfl⟩
      have bx:0≤x∧x < 8:=hb 0 (by omega)
      have by':0≤y∧y < 8:=hb 1 (by omega)
      have bz:0≤z∧z < 8:=hb 2 (by omega)
      have hLN:loadN c s=ldP x y z 3:=hLN
      have px:=pop_bd x
      have py:=pop_bd y
      have pz:=pop_bd z
      obtain ⟨bx1,bx2⟩:=bx
      obtain ⟨by1,by2⟩:=by'
      obtain ⟨bz1,bz2⟩:=bz
      have hap:AV.agg (List.map aU [x,y,z])=.agg [.v (.int .u64 x),.v (.int .u64 y),.v (.int .u64 z)]:=rfl
      have hm1:List.map (fun n=>AV.v (.int .u64 n)) [x,y,z]=[.v (.int .u64 x),.v (.int .u64 y),.v (.int .u64 z)]:=rfl
      repeat' (first|(apply nx;with_reducible constructor)|refine uq (by decide) ?_|((first|refine vx env fun Q hQ=>?_|refine vz fun Q hQ=>?_);simp only [vkt,seval,tbE16_Load,xbE16_1,aChart,cChart,mCabin,mTk,ldS,scheck,sheldIn,smany,us_one,us_idsL,us_le,us_ren,us_plain,us_flat,List.length_map,ec,d1,hP,hvan,List.map_cons,List.map_nil];(try simp only [ite_and]);(repeat' (first|with_reducible assumption|refine And.intro ?_ ?_|intro hp));all_goals (first|(refine hQ _ ?_;clear hQ Q)|(refine hQ _ (fun h=>?_) (fun h=>?_) <;> clear hQ Q <;> (try simp only [vki,reduceCtorEq] at h))|(refine vq ?_;kernel_rfl)|omega|assumption|with_reducible rfl|skip)))
      refine sym_loop (fun k:{ k:Nat // k≤3 }=>ldS c s [(7,aI (ldP x y z k.1)),(22,.agg [.v (.int .u64 x),.v (.int .u64 y),.v (.int .u64 z)]),(23,aI k.1)]) (fun k=>3 - k.1) ⟨0,Nat.zero_le _⟩ ?_ fun ⟨k,hk⟩=>?_
      · simp only [ldS,hK,show ldP x y z 0=0 from rfl,List.cons_append,List.nil_append]
        (refine Le.ok some [] ?_;constructor;all_goals (try simp only [vle,vkt,seval,tbE16_Load,xbE16_1,aChart,cChart,mCabin,mTk,ldS,scheck,sheldIn,smany,us_one,us_idsL,us_le,us_ren,us_plain,us_flat,List.length_map]))
        all_goals first|rfl|(simp;done)
      simp only at hk ⊢
      have hc4:k=0∨k=1∨k=2∨k=3:=by omega
      simp only [ldS,hK,List.cons_append,List.nil_append]
      rcases hc4 with rfl|rfl|rfl|rfl
      · have w1:IntKind.wrap .i64 (0+popN x)=popN x:=by rw [Int.zero_add];exact wrap64 (by omega) (by omega)
        simp only [show ldP x y z 0=0 from rfl]
        repeat' (first|(apply nx;with_reducible constructor)|refine uq (by decide) ?_|((first|refine vx env fun Q hQ=>?_|refine vz fun Q hQ=>?_);simp only [vkt,seval,tbE16_Load,xbE16_1,aChart,cChart,mCabin,mTk,ldS,scheck,sheldIn,smany,us_one,us_idsL,us_le,us_ren,us_plain,us_flat,List.length_map,bx1,bx2,w1];(try simp only [ite_and]);(repeat' (first|with_reducible assumption|refine And.intro ?_ ?_|intro hp));all_goals (first|(refine hQ _ ?_;clear hQ Q)|(refine hQ _ (fun h=>?_) (fun h=>?_) <;> clear hQ Q <;> (try simp only [vki,reduceCtorEq] at h))|(refine vq ?_;kernel_rfl)|omega|assumption|with_reducible rfl|skip)))
        refine ⟨⟨1,by omega⟩,by show 3 - 1 < 3 - 0;omega, ?_⟩
        simp only [ldS,hK,show ldP x y z 1=popN x from rfl,List.cons_append,List.nil_append]
        (refine Le.ok some [] ?_;constructor;all_goals (try simp only [vle,vkt,seval,tbE16_Load,xbE16_1,aChart,cChart,mCabin,mTk,ldS,scheck,sheldIn,smany,us_one,us_idsL,us_le,us_ren,us_plain,us_flat,List.length_map]))
        all_goals first|rfl|(simp;done)
      · have w1:IntKind.wrap .i64 (popN x+popN y)=popN x+popN y:=wrap64 (by omega) (by omega)
        simp only [show ldP x y z 1=popN x from rfl]
        repeat' (first|(apply nx;with_reducible constructor)|refine uq (by decide) ?_|((first|refine vx env fun Q hQ=>?_|refine vz fun Q hQ=>?_);simp only [vkt,seval,tbE16_Load,xbE16_1,aChart,cChart,mCabin,mTk,ldS,scheck,sheldIn,smany,us_one,us_idsL,us_le,us_ren,us_plain,us_flat,List.length_map,by1,by2,w1];(try simp only [ite_and]);(repeat' (first|with_reducible assumption|refine And.intro ?_ ?_|intro hp));all_goals (first|(refine hQ _ ?_;clear hQ Q)|(refine hQ _ (fun h=>?_) (fun h=>?_) <;> clear hQ Q <;> (try simp only [vki,reduceCtorEq] at h))|(refine vq ?_;kernel_rfl)|omega|assumption|with_reducible rfl|skip)))
        refine ⟨⟨2,by omega⟩,by show 3 - 2 < 3 - 1;omega, ?_⟩
        simp only [ldS,hK,show ldP x y z 2=popN x+popN y from rfl,List.cons_append,List.nil_append]
        (refine Le.ok some [] ?_;constructor;all_goals (try simp only [vle,vkt,seval,tbE16_Load,xbE16_1,aChart,cChart,mCabin,mTk,ldS,scheck,sheldIn,smany,us_one,us_idsL,us_le,us_ren,us_plain,us_flat,List.length_map]))
        all_goals first|rfl|(simp;done)
      · have w1:IntKind.wrap .i64 (popN x+popN y+popN z)=popN x+popN y+popN z:=wrap64 (by omega) (by omega)
        simp only [show ldP x y z 2=popN x+popN y from rfl]
        repeat' (first|(apply nx;with_reducible constructor)|refine uq (by decide) ?_|((first|refine vx env fun Q hQ=>?_|refine vz fun Q hQ=>?_);simp only [vkt,seval,tbE16_Load,xbE16_1,aChart,cChart,mCabin,mTk,ldS,scheck,sheldIn,smany,us_one,us_idsL,us_le,us_ren,us_plain,us_flat,List.length_map,bz1,bz2,w1];(try simp only [ite_and]);(repeat' (first|with_reducible assumption|refine And.intro ?_ ?_|intro hp));all_goals (first|(refine hQ _ ?_;clear hQ Q)|(refine hQ _ (fun h=>?_) (fun h=>?_) <;> clear hQ Q <;> (try simp only [vki,reduceCtorEq] at h))|(refine vq ?_;kernel_rfl)|omega|assumption|with_reducible rfl|skip)))
        refine ⟨⟨3,by omega⟩,by show 3 - 3 < 3 - 2;omega, ?_⟩
        simp only [ldS,hK,show ldP x y z 3=popN x+popN y+popN z from rfl,List.cons_append,List.nil_append]
        (refine Le.ok some [] ?_;constructor;all_goals (try simp only [vle,vkt,seval,tbE16_Load,xbE16_1,aChart,cChart,mCabin,mTk,ldS,scheck,sheldIn,smany,us_one,us_idsL,us_le,us_ren,us_plain,us_flat,List.length_map]))
        all_goals first|rfl|(simp;done)
      · have hm:K.length+1≤maxLen:=by omega
        have ek:K++[ldP x y z 3]=ldK c (s+1):=by rw [hS,hLN]
        obtain ⟨r,hr⟩:∃ r,ldP x y z 3=r:=⟨_,rfl⟩
        rw [hr] at ek
        simp only [hr]
        repeat' (first|(apply nx;with_reducible constructor)|refine uq (by decide) ?_|((first|refine vx env fun Q hQ=>?_|refine vz fun Q hQ=>?_);simp only [vkt,seval,tbE16_Load,xbE16_1,aChart,cChart,mCabin,mTk,ldS,scheck,sheldIn,smany,us_one,us_idsL,us_le,us_ren,us_plain,us_flat,List.length_map,hm,e9];(try simp only [ite_and]);(repeat' (first|with_reducible assumption|refine And.intro ?_ ?_|intro hp));all_goals (first|(refine hQ _ ?_;clear hQ Q)|(refine hQ _ (fun h=>?_) (fun h=>?_) <;> clear hQ Q <;> (try simp only [vki,reduceCtorEq] at h))|(refine vq ?_;kernel_rfl)|omega|assumption|with_reducible rfl|skip)))
        refine ⟨⟨s+1,hsl⟩,by show c.secs.toNat - (s+1) < c.secs.toNat - s;omega, ?_⟩
        simp only [ldS,← ek,List.cons_append,List.nil_append]
        (refine Le.ok (fun i=>if i=1 then some 3 else some i) [] ?_;constructor;all_goals (try simp only [vle,vkt,seval,tbE16_Load,xbE16_1,aChart,cChart,mCabin,mTk,ldS,scheck,sheldIn,smany,us_one,us_idsL,us_le,us_ren,us_plain,us_flat,List.length_map]))
        all_goals first|rfl|(rw [List.map_append];rfl)|(simp;done)|(intro i hi;rw [if_neg (by omega)];done)
    · have d1:decide ((s:Int) < c.secs)=false:=decide_eq_false (by omega)
      obtain rfl:s=c.secs.toNat:=by omega
      rw [hK]
      repeat' (first|(apply nx;with_reducible constructor)|refine uq (by decide) ?_|((first|refine vx env fun Q hQ=>?_|refine vz fun Q hQ=>?_);simp only [vkt,seval,tbE16_Load,xbE16_1,aChart,cChart,mCabin,mTk,ldS,scheck,sheldIn,smany,us_one,us_idsL,us_le,us_ren,us_plain,us_flat,List.length_map,d1];(try simp only [ite_and]);(repeat' (first|with_reducible assumption|refine And.intro ?_ ?_|intro hp));all_goals (first|(refine hQ _ ?_;clear hQ Q)|(refine hQ _ (fun h=>?_) (fun h=>?_) <;> clear hQ Q <;> (try simp only [vki,reduceCtorEq] at h))|(refine vq ?_;kernel_rfl)|omega|assumption|with_reducible rfl|skip)))
      (simp only [vrt,Try.results57,vkt,seval,tbE16_Load,xbE16_1,aChart,cChart,mCabin,mTk,ldS,scheck,sheldIn,smany,us_one,us_idsL,us_le,us_ren,us_plain,us_flat,List.length_map];refine Fin.val rfl ?_;(try simp only [AV.le,AV.leL]))
      all_goals first|rfl|(simp;done)|exact ⟨⟨_,_,rfl⟩,trivial,trivial⟩
  · have hE:loadA c=([],e):=by unfold loadA;rw [if_neg (by rw [he];exact h0),he]
    rw [hE]
    have d0:decide (e=0)=false:=decide_eq_false h0
    repeat' (first|(apply nx;with_reducible constructor)|refine uq (by decide) ?_|((first|refine vx env fun Q hQ=>?_|refine vz fun Q hQ=>?_);simp only [vkt,seval,tbE16_Load,xbE16_1,aChart,cChart,mCabin,mTk,ldS,scheck,sheldIn,smany,us_one,us_idsL,us_le,us_ren,us_plain,us_flat,List.length_map,ec,he,d0];(try simp only [ite_and]);(repeat' (first|with_reducible assumption|refine And.intro ?_ ?_|intro hp));all_goals (first|(refine hQ _ ?_;clear hQ Q)|(refine hQ _ (fun h=>?_) (fun h=>?_) <;> clear hQ Q <;> (try simp only [vki,reduceCtorEq] at h))|(refine vq ?_;kernel_rfl)|omega|assumption|with_reducible rfl|skip)))
    (simp only [vrt,Try.results57,vkt,seval,tbE16_Load,xbE16_1,aChart,cChart,mCabin,mTk,ldS,scheck,sheldIn,smany,us_one,us_idsL,us_le,us_ren,us_plain,us_flat,List.length_map];refine Fin.val rfl ?_;(try simp only [AV.le,AV.leL]))
    all_goals first|rfl|(simp;done)
end Go.Sym.B
namespace Go.Sym.B
open Go Go.Sym Go.Proofs Go.Sym.C
def frB (c:Chart) (b:Bunk) (s:Nat):Bool:=decide ((s:Int) < c.secs) && !heldB c.sold b s
def gpK (c:Chart) (b:Bunk):Nat→Int × List Tk
  |0=>(-1,[])
  |s+1=>if frB c b s then (if (gpK c b s).1 < 0 then ((s:Int),(gpK c b s).2) else gpK c b s) else (if 0≤(gpK c b s).1 then (-1,(gpK c b s).2++[⟨0,0,b.cab,b.bed,(gpK c b s).1,(s:Int),false⟩]) else gpK c b s)
theorem gpK_len (c:Chart) (b:Bunk):∀ s,(gpK c b s).2.length≤s
  |0=>Nat.le_refl _
  |s+1=>by
    have:=gpK_len c b s
    rw [gpK]
    split
    · split
      · simp only;omega
      · omega
    · split
      · rw [List.length_append,List.length_singleton];omega
      · omega
def gpN (c:Chart):Nat:=c.secs.toNat+1
def gpP (c:Chart) (j:Nat):List Tk:=((bunksL c.cabins).take j).flatMap fun b=>(gpK c b (gpN c)).2
theorem gpP_succ (c:Chart) {j:Nat} (h:j < (bunksL c.cabins).length):gpP c (j+1)=gpP c j++(gpK c ((bunksL c.cabins).getD j default) (gpN c)).2:=by
  unfold gpP
  rw [List.take_succ_eq_append_getElem h,List.flatMap_append,List.getD_eq_getElem?_getD,List.getElem?_eq_getElem h]
  simp
theorem gpP_len (c:Chart):∀ j,j≤(bunksL c.cabins).length→(gpP c j).length≤j * gpN c
  |0,_=>by simp [gpP]
  |j+1,h=>by
    have h1:=gpP_len c j (by omega)
    have h2:=gpK_len c ((bunksL c.cabins).getD j default) (gpN c)
    rw [gpP_succ c (by omega),List.length_append,Nat.succ_mul]
    omega
def gapsL (c:Chart):List Tk:=gpP c (bunksL c.cabins).length
def gapsA (c:Chart):List Tk × Int:=if checkE c=0 then (gapsL c,0) else ([],checkE c)
def gaL0:List (Nat × AV):=[(1,.ptr 0 0),(5,.ptr 1 0),(16,.clo 123 [.ptr 2 0])]
def gaL:List (Nat × AV):=[(1,.ptr 0 0),(5,.ptr 1 0)]
def gaH (c:Chart) (j:Nat):List (Nat × AObj):=[(0,.cells (cChart c)),(1,.cells [.row 3]),(3,rowT (gpP c j))]
theorem ga_lent (cs:List Cabin) (s:Int):lentA [2] 5 0 [buO cs s]=[(2,buO cs s)]:=rfl
def gaS (c:Chart) (b:Bunk) (T:List Tk) (U:List (Nat × AV)):St:={ t:=asg (U++[(1,.ptr 0 0),(5,.ptr 1 0),(6,.ptr 5 0),(20,aI (gpN c:Nat))]),h:=hasg [(4,.mark),(0,.cells (cChart c)),(1,.cells [.row 6]),(6,rowT T),(2,buO c.cabins c.secs),(5,.cells [.v (.int .i64 b.cab),.v (.int .i64 b.bed)])],n:=7,m:=5 }
def tbE17_Gaps:=vj @ty3 (vj @ty26 (vj @ty28 (vj @ty34 (vj @ty49 (vj @ty81 (vj @ty158 (vj @ty164 (vj @ti3.eq_1 (vj @ti26.eq_1 (vj @ti28.eq_1 (vj @ti34.eq_1 (vj @ti49.eq_1 (vj @ti81.eq_1 (vj @ti158.eq_1 @ti164.eq_1))))))))))))))
def xbE17_1:=vj @aI.eq_1 (vj @aB.eq_1 (vj @aU.eq_1 (@gaH.eq_1)))
set_option maxHeartbeats 4000000 in
theorem Gaps_fn (c:Chart) (hc:c.cabins.length≤maxLen):FnV Try.prog 60 [aChart c] (.tup [aTks (gapsA c).1,aI (gapsA c).2]):=by
  have env:Env (fun F=>F.r=none) Try.prog tyB (tab [(44,valE true scheck),(94,fnE pBunks)]):=mkEnv ⟨echeck,eBunksF,trivial⟩
  refine Fn.of (A:=fun F=>F.r=none) (n0:=0) (D:=noD) (Fn0 Try.func60 rfl (fun vs w=>by kernel_rfl) (by kernel_rfl)) (by simp) (by simp [AV.ids,AV.idsL,aChart,cChart]) (fun i o h=>by cases h) (fun _ _ _ h=>h) noD_ok ?_
  have ec:(⟨c.cabins,c.secs,c.sold⟩:Chart)=c:=rfl
  have hmx:(100000:Nat)≤maxLen:=by decide
  obtain ⟨e,he⟩:∃ e,checkE c=e:=⟨_,rfl⟩
  by_cases h0:e=0
  · rw [h0] at he
    have hE:gapsA c=(gapsL c,0):=by unfold gapsA;rw [if_pos he]
    rw [hE]
    have hv:=val_of he
    have hvan:=hv.van
    have hsec:=hv.car.secs
    have hcab:=hv.car.cabs
    have hbds:=hv.car.beds
    have hb9:=bunks_n hcab.2 hbds
    repeat' (first|(apply nx;with_reducible constructor)|refine uq (by decide) ?_|refine sym_scope ?_|refine scopeK_n ?_|refine scopeK_x ?_|refine scopeK_r ?_|((first|refine vx env fun Q hQ=>?_|refine vz fun Q hQ=>?_);simp only [vkt,seval,tbE17_Gaps,xbE17_1,aBunk,aTk,cTk,aTks,eTk,rTk,mTk,mCabin,aChart,cChart,rowT,buO,gaL0,gaL,gaS,scheck,sheldIn,shas,pBunks,us_one,us_idsL,us_le,us_ren,us_plain,us_flat,List.length_map,ec,he,decide_true];(try simp only [ite_and]);(repeat' (first|with_reducible assumption|refine And.intro ?_ ?_|intro hp));all_goals (first|(refine hQ _ ?_;clear hQ Q)|(refine hQ _ (fun h=>?_) (fun h=>?_) <;> clear hQ Q <;> (try simp only [vki,reduceCtorEq] at h))|(refine vq ?_;kernel_rfl)|omega|assumption|with_reducible rfl|skip)))
    refine sym_le (S':={ t:=asg gaL0,h:=hasg (gaH c 0++[(2,buO c.cabins c.secs)]),n:=4,j:=0,d:=[],m:=0 }) ?_ ?_
    · show Le _ { t:=asg [(1,.ptr 0 0),(5,.ptr 1 0),(16,.clo 123 [.ptr 2 0])],h:=hasg [(0,.cells (cChart c)),(1,.cells [.row 3]),(3,rowT []),(2,buO c.cabins c.secs)],n:=4,j:=0,d:=[],m:=0 }
      (refine Le.ok (fun i=>if i=3 then none else some i) [] ?_;constructor;all_goals (try simp only [vle,vkt,seval,tbE17_Gaps,xbE17_1,aBunk,aTk,cTk,aTks,eTk,rTk,mTk,mCabin,aChart,cChart,rowT,buO,gaL0,gaL,gaS,scheck,sheldIn,shas,pBunks,us_one,us_idsL,us_le,us_ren,us_plain,us_flat,List.length_map]))
      all_goals first|rfl|(simp;done)|(intro i hi;rw [if_neg (by omega)];done)
    rw [← ga_lent c.cabins c.secs]
    have hRo:Rounds (fun _=>true) (bunksL c.cabins).length (bunksL c.cabins).length:=⟨Nat.le_refl _,fun _ _=>rfl,fun h=>absurd h (Nat.lt_irrefl _)⟩
    refine sym_rangeP (fun F h=>h) 1 (L:=gaL0) (L':=gaL) (xs:=[]) (hs:=[2]) (n:=4) (nl:=0) (hc:=gaH c) (Lp:=[buO c.cabins c.secs]) (jj:=fun _=>0) (d:=[]) (ys:=buY c.cabins) (hl:=fun _=>[buO c.cabins c.secs]) (ans:=fun _=>true) (ex:=.ret) (caps:=[.ptr 2 0]) (caps0:=[.ptr 0 0]) (N:=(bunksL c.cabins).length) (R:=(bunksL c.cabins).length) (A':=fun _ _=>True) rfl (bunks_it c.cabins c.secs ⟨by omega,fun x hx=>by have:=hbds x hx;omega⟩) hRo (.inl rfl) ?_ ?_ ?_ rfl (by simp) ?_ (by simp) (fun _ _ _ _ _ _=>trivial) ?_ ?_ ?_ (fun x hx=>by cases hx) (fun j hj p _ h=>by cases h) ?_ (fun j hj=>?_) ?_ (fun j hj=>?_) (fun hall=>?_) (fun hpos hlast=>by cases hlast)
    · simp [AV.leL,AV.le]
    · simp [AV.nocbL,AV.nocb]
    · simp [lentP,buO,AObj.nocb,AV.nocbL,AV.nocb,AObj.ids,AV.ids,AV.idsL,AObj.ren,AV.renL,AV.ren,AObj.le,AV.leL,AV.le,oneB]
    · simp [gaH,hasg]
    · simp [gaH,hasg]
    · simp [gaH,AObj.ids,AV.ids,AV.idsL,rowT,cChart,aI]
    · simp [subL,gaL,gaL0,asg,upd]
    · simp [idsT,gaL,AV.ids,AV.idsL]
    · refine ⟨?_,rfl, ?_, ?_,rfl, ?_⟩
      · simp [idsH,gaH,AObj.ids,AV.ids,AV.idsL,rowT,cChart,aI]
      · simp [lentQ,buO,AObj.nocb,AV.nocbL,AV.nocb,AObj.ids,AV.ids,AV.idsL]
      · simp [argQ,buY,aBunk,AV.nocb,AV.nocbL,AV.ids,AV.idsL]
      · simp [keysIn,keyIn,lentA,callRen,gaH,gaL,idsTL,AV.ids,AV.idsL,ADf.ids,List.range_succ]
    · simp [idsH,gaH,AObj.ids,AV.ids,AV.idsL,rowT,cChart,aI]
    · have env:Env (fun _:Frm=>True) Try.prog tyB (tab [(108,valE true sheldIn),(111,valE true shas)]):=mkEnv ⟨eheldIn,ehas,trivial⟩
      have hS:=gpP_succ c hj
      have hTl:=gpP_len c j (by omega)
      have hTl2:j * gpN c≤9 * 6:=Nat.mul_le_mul (by omega) (by unfold gpN;omega)
      have hbi:=bunk_in hj
      have hbm:(bunksL c.cabins).getD j default ∈ bunksL c.cabins:=gMem hj
      obtain ⟨b,hb⟩:∃ b,(bunksL c.cabins).getD j default=b:=⟨_,rfl⟩
      obtain ⟨T,hT⟩:∃ T,gpP c j=T:=⟨_,rfl⟩
      rw [hb,hT] at hS
      rw [hT] at hTl
      rw [hb] at hbi hbm
      have hbed:0≤b.bed∧b.bed < 3:=by
        obtain ⟨i,k,g1,g2,rfl⟩:=bunk_mem.1 hbm
        have:=hbds _ (gMem (d:=default) g1)
        simp only;omega
      have hN6:gpN c≤6:=by unfold gpN;omega
      have hNs:(gpN c:Int)=c.secs+1:=by unfold gpN;omega
      have w1:IntKind.wrap .i64 (c.secs+1)=(gpN c:Int):=by rw [hNs];exact wrap64 (by omega) (by omega)
      have hst:rStart gaL [17] [2] 4 0 (buY c.cabins j) (gaH c j) [buO c.cabins c.secs]={ t:=asg [(17,aBunk b),(1,.ptr 0 0),(5,.ptr 1 0)],h:=hasg [(4,.mark),(0,.cells (cChart c)),(1,.cells [.row 3]),(3,rowT T),(2,buO c.cabins c.secs)],n:=5,m:=5 }:=by
        simp only [rStart,buY,hb,hT,aBunk,List.map_cons,List.map_nil,AV.ren,AV.renL,List.zip_cons_cons,List.zip_nil_right,gaH,gaL,putsL,List.cons_append,List.nil_append,ga_lent]
        rfl
      show Sym _ _ _ (rStart gaL [17] [2] 4 0 (buY c.cabins j) (gaH c j) [buO c.cabins c.secs]) _
      rw [hst]
      repeat' (first|(apply nx;with_reducible constructor)|refine uq (by decide) ?_|refine sym_scope ?_|refine scopeK_n ?_|refine scopeK_x ?_|refine scopeK_r ?_|((first|refine vx env fun Q hQ=>?_|refine vz fun Q hQ=>?_);simp only [vkt,seval,tbE17_Gaps,xbE17_1,aBunk,aTk,cTk,aTks,eTk,rTk,mTk,mCabin,aChart,cChart,rowT,buO,gaL0,gaL,gaS,scheck,sheldIn,shas,pBunks,us_one,us_idsL,us_le,us_ren,us_plain,us_flat,List.length_map,w1];(try simp only [ite_and]);(repeat' (first|with_reducible assumption|refine And.intro ?_ ?_|intro hp));all_goals (first|(refine hQ _ ?_;clear hQ Q)|(refine hQ _ (fun h=>?_) (fun h=>?_) <;> clear hQ Q <;> (try simp only [vki,reduceCtorEq] at h))|(refine vq ?_;kernel_rfl)|omega|assumption|with_reducible rfl|skip)))
      refine sym_loop (fun s:{ s:Nat // s≤gpN c }=>gaS c b (T++(gpK c b s.1).2) [(7,aI (gpK c b s.1).1),(21,aI s.1)]) (fun s=>gpN c - s.1) ⟨0,Nat.zero_le _⟩ ?_ fun ⟨s,hs⟩=>?_
      · simp only [gaS,show gpK c b 0=(-1,[]) from rfl,List.append_nil,List.cons_append,List.nil_append]
        (refine Le.ok (fun i=>if i=6 then some 3 else some i) [] ?_;constructor;all_goals (try simp only [vle,vkt,seval,tbE17_Gaps,xbE17_1,aBunk,aTk,cTk,aTks,eTk,rTk,mTk,mCabin,aChart,cChart,rowT,buO,gaL0,gaL,gaS,scheck,sheldIn,shas,pBunks,us_one,us_idsL,us_le,us_ren,us_plain,us_flat,List.length_map]))
        all_goals first|rfl|(simp;done)|(intro i hi;rw [if_neg (by omega)];done)
      simp only at hs ⊢
      have hKS:gpK c b (s+1)=if frB c b s then (if (gpK c b s).1 < 0 then ((s:Int),(gpK c b s).2) else gpK c b s) else (if 0≤(gpK c b s).1 then (-1,(gpK c b s).2++[⟨0,0,b.cab,b.bed,(gpK c b s).1,(s:Int),false⟩]) else gpK c b s):=rfl
      have hKl:=gpK_len c b s
      obtain ⟨⟨f,G⟩,hG⟩:∃ q,gpK c b s=q:=⟨_,rfl⟩
      rw [hG] at hKS hKl
      simp only at hKS hKl
      have hAl:(T++G).length+1≤maxLen:=by rw [List.length_append];omega
      have hAm:(T++G).length≤200:=by rw [List.length_append];omega
      obtain ⟨M,hM⟩:∃ M,T++G=M:=⟨_,rfl⟩
      rw [hM] at hAl hAm
      have fin:∀ S f' G',gpK c b (s+1)=(f',G')→s < gpN c→Le S (gaS c b (T++G') [(7,aI f'),(21,aI (s+1:Nat))])→∃ y:{ s:Nat // s≤gpN c },(gpN c - y.1 < gpN c - s)∧Le S (gaS c b (T++(gpK c b y.1).2) [(7,aI (gpK c b y.1).1),(21,aI y.1)]):=fun S f' G' h hlt hle=>⟨⟨s+1,hlt⟩,by show gpN c - (s+1) < gpN c - s;omega,by rw [h];exact hle⟩
      simp only [hG,hM,gaS,List.cons_append,List.nil_append]
      by_cases hsl:s < gpN c
      · have d1:decide ((s:Int) < (gpN c:Int))=true:=decide_eq_true (by omega)
        have e9:IntKind.wrap .i64 ((s:Int)+1)=((s+1:Nat):Int):=by rw [wrap64 (by omega) (by omega)];rfl
        obtain ⟨q,hq⟩:∃ q,frB c b s=q:=⟨_,rfl⟩
        rw [hq] at hKS
        repeat' (first|(apply nx;with_reducible constructor)|refine uq (by decide) ?_|refine sym_scope ?_|refine scopeK_n ?_|refine scopeK_x ?_|refine scopeK_r ?_)
        ((first|refine vx env fun Q hQ=>?_|refine vz fun Q hQ=>?_);simp only [vkt,seval,tbE17_Gaps,xbE17_1,aBunk,aTk,cTk,aTks,eTk,rTk,mTk,mCabin,aChart,cChart,rowT,buO,gaL0,gaL,gaS,scheck,sheldIn,shas,pBunks,us_one,us_idsL,us_le,us_ren,us_plain,us_flat,List.length_map,d1];(try simp only [ite_and]);(repeat' (first|with_reducible assumption|refine And.intro ?_ ?_|intro hp));all_goals (first|(refine hQ _ ?_;clear hQ Q)|(refine hQ _ (fun h=>?_) (fun h=>?_) <;> clear hQ Q <;> (try simp only [vki,reduceCtorEq] at h))|(refine vq ?_;kernel_rfl)|omega|assumption|with_reducible rfl|skip))
        repeat' (first|(apply nx;with_reducible constructor)|refine uq (by decide) ?_|refine sym_scope ?_|refine scopeK_n ?_|refine scopeK_x ?_|refine scopeK_r ?_)
        ((first|refine vx env fun Q hQ=>?_|refine vz fun Q hQ=>?_);simp only [vkt,seval,tbE17_Gaps,xbE17_1,aBunk,aTk,cTk,aTks,eTk,rTk,mTk,mCabin,aChart,cChart,rowT,buO,gaL0,gaL,gaS,scheck,sheldIn,shas,pBunks,us_one,us_idsL,us_le,us_ren,us_plain,us_flat,List.length_map];(try simp only [ite_and]);(repeat' (first|with_reducible assumption|refine And.intro ?_ ?_|intro hp));all_goals (first|(refine hQ _ ?_;clear hQ Q)|(refine hQ _ (fun h=>?_) (fun h=>?_) <;> clear hQ Q <;> (try simp only [vki,reduceCtorEq] at h))|(refine vq ?_;kernel_rfl)|omega|assumption|with_reducible rfl|skip))
        repeat' (first|(apply nx;with_reducible constructor)|refine uq (by decide) ?_|refine sym_scope ?_|refine scopeK_n ?_|refine scopeK_x ?_|refine scopeK_r ?_)
        ((first|refine vx env fun Q hQ=>?_|refine vz fun Q hQ=>?_);simp only [vkt,seval,tbE17_Gaps,xbE17_1,aBunk,aTk,cTk,aTks,eTk,rTk,mTk,mCabin,aChart,cChart,rowT,buO,gaL0,gaL,gaS,scheck,sheldIn,shas,pBunks,us_one,us_idsL,us_le,us_ren,us_plain,us_flat,List.length_map];(try simp only [ite_and]);(repeat' (first|with_reducible assumption|refine And.intro ?_ ?_|intro hp));all_goals (first|(refine hQ _ ?_;clear hQ Q)|(refine hQ _ (fun h=>?_) (fun h=>?_) <;> clear hQ Q <;> (try simp only [vki,reduceCtorEq] at h))|(refine vq ?_;kernel_rfl)|omega|assumption|with_reducible rfl|skip))
        repeat' (first|(apply nx;with_reducible constructor)|refine uq (by decide) ?_|refine sym_scope ?_|refine scopeK_n ?_|refine scopeK_x ?_|refine scopeK_r ?_)
        refine Sym.mono (K:=fun e S1=>e=.normal∧Le S1 (gaS c b M [(7,aI f),(8,aI s),(9,aB q),(21,aI s)])) ?_ ?_
        · by_cases hss:(s:Int) < c.secs
          · have d2:decide ((s:Int) < c.secs)=true:=decide_eq_true hss
            have hbits:=heldK_bits hvan (s:Int) c.sold.length (Nat.le_refl _)
            have hPl:=heldK_len c.sold (s:Int) c.sold.length (Nat.le_refl _)
            rw [List.take_length] at hbits
            obtain ⟨P,hP⟩:∃ P,heldK c.sold (s:Int) c.sold.length=P:=⟨_,rfl⟩
            rw [hP] at hbits hPl
            obtain ⟨x,y,z,rfl⟩:∃ x y z,P=[x,y,z]:=by
              match P,hPl with
              |[x,y,z],_=>exact ⟨x,y,z,rfl⟩
            obtain ⟨⟨x1,x2⟩,x3⟩:=hbits 0 (by omega)
            obtain ⟨⟨y1,y2⟩,y3⟩:=hbits 1 (by omega)
            obtain ⟨⟨z1,z2⟩,z3⟩:=hbits 2 (by omega)
            have x3:=x3 b.bed hbed
            have y3:=y3 b.bed hbed
            have z3:=z3 b.bed hbed
            have hfr:frB c b s=!heldB c.sold b s:=by unfold frB;rw [d2,Bool.true_and]
            rw [hq] at hfr
            obtain ⟨b1,b2⟩:=hbed
            obtain ⟨cab,bed⟩:=b
            simp only at *
            have hc3:cab=0∨cab=1∨cab=2:=by omega
            rcases hc3 with rfl|rfl|rfl
            · have hx:bitB x bed=!q:=by rw [hfr,Bool.not_not];exact x3
              ((first|refine vx env fun Q hQ=>?_|refine vz fun Q hQ=>?_);simp only [vkt,seval,tbE17_Gaps,xbE17_1,aBunk,aTk,cTk,aTks,eTk,rTk,mTk,mCabin,aChart,cChart,rowT,buO,gaL0,gaL,gaS,scheck,sheldIn,shas,pBunks,us_one,us_idsL,us_le,us_ren,us_plain,us_flat,List.length_map,ec,d2,hP,hvan,List.map_cons,List.map_nil,x1,x2,b1,b2,hx,Bool.not_not];(try simp only [ite_and]);(repeat' (first|with_reducible assumption|refine And.intro ?_ ?_|intro hp));all_goals (first|(refine hQ _ ?_;clear hQ Q)|(refine hQ _ (fun h=>?_) (fun h=>?_) <;> clear hQ Q <;> (try simp only [vki,reduceCtorEq] at h))|(refine vq ?_;kernel_rfl)|omega|assumption|with_reducible rfl|skip))
              refine ⟨rfl, ?_⟩
              simp only [gaS,List.cons_append,List.nil_append]
              (refine Le.ok some [] ?_;constructor;all_goals (try simp only [vle,vkt,seval,tbE17_Gaps,xbE17_1,aBunk,aTk,cTk,aTks,eTk,rTk,mTk,mCabin,aChart,cChart,rowT,buO,gaL0,gaL,gaS,scheck,sheldIn,shas,pBunks,us_one,us_idsL,us_le,us_ren,us_plain,us_flat,List.length_map]))
              all_goals first|rfl|(simp;done)
            · have hx:bitB y bed=!q:=by rw [hfr,Bool.not_not];exact y3
              ((first|refine vx env fun Q hQ=>?_|refine vz fun Q hQ=>?_);simp only [vkt,seval,tbE17_Gaps,xbE17_1,aBunk,aTk,cTk,aTks,eTk,rTk,mTk,mCabin,aChart,cChart,rowT,buO,gaL0,gaL,gaS,scheck,sheldIn,shas,pBunks,us_one,us_idsL,us_le,us_ren,us_plain,us_flat,List.length_map,ec,d2,hP,hvan,List.map_cons,List.map_nil,y1,y2,b1,b2,hx,Bool.not_not];(try simp only [ite_and]);(repeat' (first|with_reducible assumption|refine And.intro ?_ ?_|intro hp));all_goals (first|(refine hQ _ ?_;clear hQ Q)|(refine hQ _ (fun h=>?_) (fun h=>?_) <;> clear hQ Q <;> (try simp only [vki,reduceCtorEq] at h))|(refine vq ?_;kernel_rfl)|omega|assumption|with_reducible rfl|skip))
              refine ⟨rfl, ?_⟩
              simp only [gaS,List.cons_append,List.nil_append]
              (refine Le.ok some [] ?_;constructor;all_goals (try simp only [vle,vkt,seval,tbE17_Gaps,xbE17_1,aBunk,aTk,cTk,aTks,eTk,rTk,mTk,mCabin,aChart,cChart,rowT,buO,gaL0,gaL,gaS,scheck,sheldIn,shas,pBunks,us_one,us_idsL,us_le,us_ren,us_plain,us_flat,List.length_map]))
              all_goals first|rfl|(simp;done)
            · have hx:bitB z bed=!q:=by rw [hfr,Bool.not_not];exact z3
              ((first|refine vx env fun Q hQ=>?_|refine vz fun Q hQ=>?_);simp only [vkt,seval,tbE17_Gaps,xbE17_1,aBunk,aTk,cTk,aTks,eTk,rTk,mTk,mCabin,aChart,cChart,rowT,buO,gaL0,gaL,gaS,scheck,sheldIn,shas,pBunks,us_one,us_idsL,us_le,us_ren,us_plain,us_flat,List.length_map,ec,d2,hP,hvan,List.map_cons,List.map_nil,z1,z2,b1,b2,hx,Bool.not_not];(try simp only [ite_and]);(repeat' (first|with_reducible assumption|refine And.intro ?_ ?_|intro hp));all_goals (first|(refine hQ _ ?_;clear hQ Q)|(refine hQ _ (fun h=>?_) (fun h=>?_) <;> clear hQ Q <;> (try simp only [vki,reduceCtorEq] at h))|(refine vq ?_;kernel_rfl)|omega|assumption|with_reducible rfl|skip))
              refine ⟨rfl, ?_⟩
              simp only [gaS,List.cons_append,List.nil_append]
              (refine Le.ok some [] ?_;constructor;all_goals (try simp only [vle,vkt,seval,tbE17_Gaps,xbE17_1,aBunk,aTk,cTk,aTks,eTk,rTk,mTk,mCabin,aChart,cChart,rowT,buO,gaL0,gaL,gaS,scheck,sheldIn,shas,pBunks,us_one,us_idsL,us_le,us_ren,us_plain,us_flat,List.length_map]))
              all_goals first|rfl|(simp;done)
          · have d2:decide ((s:Int) < c.secs)=false:=decide_eq_false hss
            have hq0:q=false:=by rw [← hq];unfold frB;rw [d2];rfl
            ((first|refine vx env fun Q hQ=>?_|refine vz fun Q hQ=>?_);simp only [vkt,seval,tbE17_Gaps,xbE17_1,aBunk,aTk,cTk,aTks,eTk,rTk,mTk,mCabin,aChart,cChart,rowT,buO,gaL0,gaL,gaS,scheck,sheldIn,shas,pBunks,us_one,us_idsL,us_le,us_ren,us_plain,us_flat,List.length_map,d2];(try simp only [ite_and]);(repeat' (first|with_reducible assumption|refine And.intro ?_ ?_|intro hp));all_goals (first|(refine hQ _ ?_;clear hQ Q)|(refine hQ _ (fun h=>?_) (fun h=>?_) <;> clear hQ Q <;> (try simp only [vki,reduceCtorEq] at h))|(refine vq ?_;kernel_rfl)|omega|assumption|with_reducible rfl|skip))
            refine ⟨rfl, ?_⟩
            simp only [gaS,hq0,List.cons_append,List.nil_append]
            (refine Le.ok some [] ?_;constructor;all_goals (try simp only [vle,vkt,seval,tbE17_Gaps,xbE17_1,aBunk,aTk,cTk,aTks,eTk,rTk,mTk,mCabin,aChart,cChart,rowT,buO,gaL0,gaL,gaS,scheck,sheldIn,shas,pBunks,us_one,us_idsL,us_le,us_ren,us_plain,us_flat,List.length_map]))
            all_goals first|rfl|(simp;done)
        rintro e S1 ⟨rfl,hle⟩
        refine (sym_le hle ?_:Sym _ _ _ S1 _)
        clear hle S1
        simp only [gaS,List.cons_append,List.nil_append]
        by_cases hf:f < 0
        · have d3:decide (f < 0)=true:=decide_eq_true hf
          have d4:decide (0≤f)=false:=decide_eq_false (by omega)
          cases q with
          |true =>
            rw [if_pos rfl,if_pos hf] at hKS
            repeat' (first|(apply nx;with_reducible constructor)|refine uq (by decide) ?_|refine sym_scope ?_|refine scopeK_n ?_|refine scopeK_x ?_|refine scopeK_r ?_|((first|refine vx env fun Q hQ=>?_|refine vz fun Q hQ=>?_);simp only [vkt,seval,tbE17_Gaps,xbE17_1,aBunk,aTk,cTk,aTks,eTk,rTk,mTk,mCabin,aChart,cChart,rowT,buO,gaL0,gaL,gaS,scheck,sheldIn,shas,pBunks,us_one,us_idsL,us_le,us_ren,us_plain,us_flat,List.length_map,d3,e9];(try simp only [ite_and]);(repeat' (first|with_reducible assumption|refine And.intro ?_ ?_|intro hp));all_goals (first|(refine hQ _ ?_;clear hQ Q)|(refine hQ _ (fun h=>?_) (fun h=>?_) <;> clear hQ Q <;> (try simp only [vki,reduceCtorEq] at h))|(refine vq ?_;kernel_rfl)|omega|assumption|with_reducible rfl|skip)))
            refine fin _ _ _ hKS hsl ?_
            simp only [gaS,hM,List.cons_append,List.nil_append]
            (refine Le.ok some [] ?_;constructor;all_goals (try simp only [vle,vkt,seval,tbE17_Gaps,xbE17_1,aBunk,aTk,cTk,aTks,eTk,rTk,mTk,mCabin,aChart,cChart,rowT,buO,gaL0,gaL,gaS,scheck,sheldIn,shas,pBunks,us_one,us_idsL,us_le,us_ren,us_plain,us_flat,List.length_map]))
            all_goals first|rfl|(simp;done)
          |false =>
            rw [if_neg (by decide),if_neg (by omega)] at hKS
            repeat' (first|(apply nx;with_reducible constructor)|refine uq (by decide) ?_|refine sym_scope ?_|refine scopeK_n ?_|refine scopeK_x ?_|refine scopeK_r ?_|((first|refine vx env fun Q hQ=>?_|refine vz fun Q hQ=>?_);simp only [vkt,seval,tbE17_Gaps,xbE17_1,aBunk,aTk,cTk,aTks,eTk,rTk,mTk,mCabin,aChart,cChart,rowT,buO,gaL0,gaL,gaS,scheck,sheldIn,shas,pBunks,us_one,us_idsL,us_le,us_ren,us_plain,us_flat,List.length_map,d3,d4,e9];(try simp only [ite_and]);(repeat' (first|with_reducible assumption|refine And.intro ?_ ?_|intro hp));all_goals (first|(refine hQ _ ?_;clear hQ Q)|(refine hQ _ (fun h=>?_) (fun h=>?_) <;> clear hQ Q <;> (try simp only [vki,reduceCtorEq] at h))|(refine vq ?_;kernel_rfl)|omega|assumption|with_reducible rfl|skip)))
            refine fin _ _ _ hKS hsl ?_
            simp only [gaS,hM,List.cons_append,List.nil_append]
            (refine Le.ok some [] ?_;constructor;all_goals (try simp only [vle,vkt,seval,tbE17_Gaps,xbE17_1,aBunk,aTk,cTk,aTks,eTk,rTk,mTk,mCabin,aChart,cChart,rowT,buO,gaL0,gaL,gaS,scheck,sheldIn,shas,pBunks,us_one,us_idsL,us_le,us_ren,us_plain,us_flat,List.length_map]))
            all_goals first|rfl|(simp;done)
        · have d3:decide (f < 0)=false:=decide_eq_false hf
          have d4:decide (0≤f)=true:=decide_eq_true (by omega)
          cases q with
          |true =>
            rw [if_pos rfl,if_neg hf] at hKS
            repeat' (first|(apply nx;with_reducible constructor)|refine uq (by decide) ?_|refine sym_scope ?_|refine scopeK_n ?_|refine scopeK_x ?_|refine scopeK_r ?_|((first|refine vx env fun Q hQ=>?_|refine vz fun Q hQ=>?_);simp only [vkt,seval,tbE17_Gaps,xbE17_1,aBunk,aTk,cTk,aTks,eTk,rTk,mTk,mCabin,aChart,cChart,rowT,buO,gaL0,gaL,gaS,scheck,sheldIn,shas,pBunks,us_one,us_idsL,us_le,us_ren,us_plain,us_flat,List.length_map,d3,d4,e9];(try simp only [ite_and]);(repeat' (first|with_reducible assumption|refine And.intro ?_ ?_|intro hp));all_goals (first|(refine hQ _ ?_;clear hQ Q)|(refine hQ _ (fun h=>?_) (fun h=>?_) <;> clear hQ Q <;> (try simp only [vki,reduceCtorEq] at h))|(refine vq ?_;kernel_rfl)|omega|assumption|with_reducible rfl|skip)))
            refine fin _ _ _ hKS hsl ?_
            simp only [gaS,hM,List.cons_append,List.nil_append]
            (refine Le.ok some [] ?_;constructor;all_goals (try simp only [vle,vkt,seval,tbE17_Gaps,xbE17_1,aBunk,aTk,cTk,aTks,eTk,rTk,mTk,mCabin,aChart,cChart,rowT,buO,gaL0,gaL,gaS,scheck,sheldIn,shas,pBunks,us_one,us_idsL,us_le,us_ren,us_plain,us_flat,List.length_map]))
            all_goals first|rfl|(simp;done)
          |false =>
            rw [if_neg (by decide),if_pos (by omega)] at hKS
            have hMS:T++(G++[(⟨0,0,b.cab,b.bed,f,(s:Int),false⟩:Tk)])=M++[⟨0,0,b.cab,b.bed,f,(s:Int),false⟩]:=by rw [← List.append_assoc,hM]
            repeat' (first|(apply nx;with_reducible constructor)|refine uq (by decide) ?_|refine sym_scope ?_|refine scopeK_n ?_|refine scopeK_x ?_|refine scopeK_r ?_|((first|refine vx env fun Q hQ=>?_|refine vz fun Q hQ=>?_);simp only [vkt,seval,tbE17_Gaps,xbE17_1,aBunk,aTk,cTk,aTks,eTk,rTk,mTk,mCabin,aChart,cChart,rowT,buO,gaL0,gaL,gaS,scheck,sheldIn,shas,pBunks,us_one,us_idsL,us_le,us_ren,us_plain,us_flat,List.length_map,d3,d4,e9,hAl];(try simp only [ite_and]);(repeat' (first|with_reducible assumption|refine And.intro ?_ ?_|intro hp));all_goals (first|(refine hQ _ ?_;clear hQ Q)|(refine hQ _ (fun h=>?_) (fun h=>?_) <;> clear hQ Q <;> (try simp only [vki,reduceCtorEq] at h))|(refine vq ?_;kernel_rfl)|omega|assumption|with_reducible rfl|skip)))
            refine fin _ _ _ hKS hsl ?_
            simp only [gaS,hMS,List.cons_append,List.nil_append]
            (refine Le.ok (fun i=>if i=6 then some 8 else some i) [] ?_;constructor;all_goals (try simp only [vle,vkt,seval,tbE17_Gaps,xbE17_1,aBunk,aTk,cTk,aTks,eTk,rTk,mTk,mCabin,aChart,cChart,rowT,buO,gaL0,gaL,gaS,scheck,sheldIn,shas,pBunks,us_one,us_idsL,us_le,us_ren,us_plain,us_flat,List.length_map]))
            all_goals first|rfl|(rw [List.map_append];rfl)|(simp;done)|(intro i hi;rw [if_neg (by omega)];done)
      · have d1:decide ((s:Int) < (gpN c:Int))=false:=decide_eq_false (by omega)
        obtain rfl:s=gpN c:=by omega
        have hS:gpP c (j+1)=M:=by rw [hS,hG];exact hM
        repeat' (first|(apply nx;with_reducible constructor)|refine uq (by decide) ?_|refine sym_scope ?_|refine scopeK_n ?_|refine scopeK_x ?_|refine scopeK_r ?_|((first|refine vx env fun Q hQ=>?_|refine vz fun Q hQ=>?_);simp only [vkt,seval,tbE17_Gaps,xbE17_1,aBunk,aTk,cTk,aTks,eTk,rTk,mTk,mCabin,aChart,cChart,rowT,buO,gaL0,gaL,gaS,scheck,sheldIn,shas,pBunks,us_one,us_idsL,us_le,us_ren,us_plain,us_flat,List.length_map,d1];(try simp only [ite_and]);(repeat' (first|with_reducible assumption|refine And.intro ?_ ?_|intro hp));all_goals (first|(refine hQ _ ?_;clear hQ Q)|(refine hQ _ (fun h=>?_) (fun h=>?_) <;> clear hQ Q <;> (try simp only [vki,reduceCtorEq] at h))|(refine vq ?_;kernel_rfl)|omega|assumption|with_reducible rfl|skip)))
        refine ⟨rfl,rfl,(fun i=>if i=3 then some 6 else some i),_,RFin.okQ (fun i=>if i=3 then some 6 else some i) [] ?_⟩
        constructor
        all_goals (try simp only [vle,lentR,rensL,callRen,hS,vkt,seval,tbE17_Gaps,xbE17_1,aBunk,aTk,cTk,aTks,eTk,rTk,mTk,mCabin,aChart,cChart,rowT,buO,gaL0,gaL,gaS,scheck,sheldIn,shas,pBunks,us_one,us_idsL,us_le,us_ren,us_plain,us_flat,List.length_map])
        all_goals first|rfl|(simp;done)|(simp [gaL,idsTL,AV.ids,ADf.ids,List.range_succ];done)
    · have eh:hasg ((4,AObj.mark) :: gaH c (bunksL c.cabins).length++lentA [2] (4+1) 0 [buO c.cabins c.secs])=hasg [(4,.mark),(0,.cells (cChart c)),(1,.cells [.row 3]),(3,rowT (gapsL c)),(2,buO c.cabins c.secs)]:=by
        rw [show lentA [2] (4+1) 0 [buO c.cabins c.secs]=lentA [2] 5 0 [buO c.cabins c.secs] from rfl,ga_lent];rfl
      rw [eh]
      simp only [gaL]
      repeat' (first|(apply nx;with_reducible constructor)|refine uq (by decide) ?_|refine sym_scope ?_|refine scopeK_n ?_|refine scopeK_x ?_|refine scopeK_r ?_|((first|refine vx env fun Q hQ=>?_|refine vz fun Q hQ=>?_);simp only [vkt,seval,tbE17_Gaps,xbE17_1,aBunk,aTk,cTk,aTks,eTk,rTk,mTk,mCabin,aChart,cChart,rowT,buO,gaL0,gaL,gaS,scheck,sheldIn,shas,pBunks,us_one,us_idsL,us_le,us_ren,us_plain,us_flat,List.length_map];(try simp only [ite_and]);(repeat' (first|with_reducible assumption|refine And.intro ?_ ?_|intro hp));all_goals (first|(refine hQ _ ?_;clear hQ Q)|(refine hQ _ (fun h=>?_) (fun h=>?_) <;> clear hQ Q <;> (try simp only [vki,reduceCtorEq] at h))|(refine vq ?_;kernel_rfl)|omega|assumption|with_reducible rfl|skip)))
      (simp only [vrt,Try.results60,vkt,seval,tbE17_Gaps,xbE17_1,aBunk,aTk,cTk,aTks,eTk,rTk,mTk,mCabin,aChart,cChart,rowT,buO,gaL0,gaL,gaS,scheck,sheldIn,shas,pBunks,us_one,us_idsL,us_le,us_ren,us_plain,us_flat,List.length_map];refine Fin.val rfl ?_;(try simp only [AV.le,AV.leL]))
      all_goals first|rfl|(simp;done)|exact ⟨⟨_,_,rfl⟩,trivial,trivial⟩
  · have hE:gapsA c=([],e):=by unfold gapsA;rw [if_neg (by rw [he];exact h0),he]
    rw [hE]
    have d0:decide (e=0)=false:=decide_eq_false h0
    repeat' (first|(apply nx;with_reducible constructor)|refine uq (by decide) ?_|refine sym_scope ?_|refine scopeK_n ?_|refine scopeK_x ?_|refine scopeK_r ?_|((first|refine vx env fun Q hQ=>?_|refine vz fun Q hQ=>?_);simp only [vkt,seval,tbE17_Gaps,xbE17_1,aBunk,aTk,cTk,aTks,eTk,rTk,mTk,mCabin,aChart,cChart,rowT,buO,gaL0,gaL,gaS,scheck,sheldIn,shas,pBunks,us_one,us_idsL,us_le,us_ren,us_plain,us_flat,List.length_map,ec,he,d0];(try simp only [ite_and]);(repeat' (first|with_reducible assumption|refine And.intro ?_ ?_|intro hp));all_goals (first|(refine hQ _ ?_;clear hQ Q)|(refine hQ _ (fun h=>?_) (fun h=>?_) <;> clear hQ Q <;> (try simp only [vki,reduceCtorEq] at h))|(refine vq ?_;kernel_rfl)|omega|assumption|with_reducible rfl|skip)))
    (simp only [vrt,Try.results60,vkt,seval,tbE17_Gaps,xbE17_1,aBunk,aTk,cTk,aTks,eTk,rTk,mTk,mCabin,aChart,cChart,rowT,buO,gaL0,gaL,gaS,scheck,sheldIn,shas,pBunks,us_one,us_idsL,us_le,us_ren,us_plain,us_flat,List.length_map];refine Fin.val rfl ?_;(try simp only [AV.le,AV.leL]))
    all_goals first|rfl|(simp;done)
end Go.Sym.B
namespace Go.Sym.B
open Go Go.Sym Go.Proofs Go.Sym.C
def cvB (b:Bunk) (s:Nat) (t:Tk):Bool:=decide (t.cab=b.cab) && decide (t.bed=b.bed) && decide (t.frm≤(s:Int)) && decide ((s:Int) < t.to)
def cvN (l:List Tk) (b:Bunk) (s:Nat):Nat:=(l.filter (cvB b s)).length
theorem cvN_app (l r:List Tk) (b:Bunk) (s:Nat):cvN (l++r) b s=cvN l b s+cvN r b s:=by
  unfold cvN
  rw [List.filter_append,List.length_append]
theorem gpK_cov (c:Chart) (b:Bunk):∀ k:Nat,(∀ s:Nat,cvN (gpK c b k).2 b s=if ((s:Int) < (if (gpK c b k).1 < 0 then (k:Int) else (gpK c b k).1))∧frB c b s=true then 1 else 0) ∧
    (0≤(gpK c b k).1→(gpK c b k).1≤k∧∀ s:Nat,(gpK c b k).1≤(s:Int)→s < k→frB c b s=true)∧(∀ t ∈ (gpK c b k).2,t.cab=b.cab∧t.bed=b.bed)
  |0=>by
    refine ⟨fun s=>?_,fun h=>absurd (show (0:Int)≤-1 from h) (by decide),fun t ht=>by simp [gpK] at ht⟩
    rw [if_neg]
    · rfl
    · rintro ⟨h,_⟩
      rw [show (gpK c b 0).1=-1 from rfl,if_pos (by decide)] at h
      omega
  |k+1=>by
    obtain ⟨h1,h2,h3⟩:=gpK_cov c b k
    have hK:gpK c b (k+1)=if frB c b k then (if (gpK c b k).1 < 0 then ((k:Int),(gpK c b k).2) else gpK c b k) else (if 0≤(gpK c b k).1 then (-1,(gpK c b k).2++[⟨0,0,b.cab,b.bed,(gpK c b k).1,(k:Int),false⟩]) else gpK c b k):=rfl
    obtain ⟨⟨f,G⟩,hG⟩:∃ q,gpK c b k=q:=⟨_,rfl⟩
    rw [hG] at h1 h2 h3 hK
    simp only at h1 h2 h3 hK
    cases hq:frB c b k with
    |true =>
      rw [hq,if_pos rfl] at hK
      by_cases hf:f < 0
      · rw [if_pos hf] at hK
        rw [hK]
        refine ⟨fun s=>?_,fun _=>⟨by simp only;omega,fun s hs hsk=>?_⟩,h3⟩
        · simp only
          rw [h1 s,if_pos hf,if_neg (show ¬ (k:Int) < 0 by omega)]
        · simp only at hs
          have:s=k:=by omega
          rw [this];exact hq
      · rw [if_neg hf] at hK
        rw [hK]
        obtain ⟨g1,g2⟩:=h2 (by omega)
        refine ⟨fun s=>?_,fun _=>⟨by simp only;omega,fun s hs hsk=>?_⟩,h3⟩
        · simp only
          rw [h1 s,if_neg hf,if_neg hf]
        · by_cases hsk2:s=k
          · rw [hsk2];exact hq
          · exact g2 s hs (by omega)
    |false =>
      rw [hq,if_neg (by decide)] at hK
      by_cases hf:0≤f
      · rw [if_pos hf] at hK
        rw [hK]
        obtain ⟨g1,g2⟩:=h2 hf
        refine ⟨fun s=>?_,fun h=>absurd (show (0:Int)≤-1 from h) (by decide),fun t ht=>?_⟩
        · simp only
          rw [cvN_app,h1 s,if_neg (show ¬ f < 0 by omega),if_pos (show (-1:Int) < 0 by decide)]
          have e1:cvN [⟨0,0,b.cab,b.bed,f,(k:Int),false⟩] b s=if f≤(s:Int)∧(s:Int) < k then 1 else 0:=by
            unfold cvN cvB
            by_cases p1:f≤(s:Int) <;> by_cases p2:(s:Int) < (k:Int) <;> simp [p1,p2]
          rw [e1]
          by_cases p0:(s:Int) < f
          · rw [if_neg (show ¬ (f≤(s:Int)∧(s:Int) < k) by omega)]
            cases hfs:frB c b s with
            |true=>rw [if_pos ⟨p0,rfl⟩,if_pos ⟨by omega,rfl⟩]
            |false=>rw [if_neg (by simp),if_neg (by simp)]
          · rw [if_neg (fun h=>p0 h.1)]
            by_cases p2:(s:Int) < k
            · rw [if_pos ⟨by omega,p2⟩,if_pos ⟨by omega,g2 s (by omega) (by omega)⟩]
            · rw [if_neg (fun h=>p2 h.2),if_neg]
              rintro ⟨p3,p4⟩
              have:s=k:=by omega
              rw [this,hq] at p4
              exact absurd p4 (by decide)
        · rcases List.mem_append.1 ht with ht|ht
          · exact h3 t ht
          · rw [List.mem_singleton.1 ht];exact ⟨rfl,rfl⟩
      · rw [if_neg hf] at hK
        rw [hK]
        refine ⟨fun s=>?_,fun h=>absurd h hf,h3⟩
        simp only
        rw [h1 s,if_pos (show f < 0 by omega),if_pos (show f < 0 by omega)]
        by_cases hsk:s=k
        · rw [hsk,hq];simp
        · by_cases p2:(s:Int) < k
          · cases hfs:frB c b s with
            |true=>rw [if_pos ⟨p2,rfl⟩,if_pos ⟨by omega,rfl⟩]
            |false=>rw [if_neg (by simp),if_neg (by simp)]
          · rw [if_neg (fun h=>p2 h.1),if_neg (fun h=>by omega)]
theorem gpK_end (c:Chart) (b:Bunk) (hs:0≤c.secs):(gpK c b (gpN c)).1 < 0:=by
  have hfr:frB c b c.secs.toNat=false:=by unfold frB;rw [decide_eq_false (by omega)];rfl
  show (gpK c b (c.secs.toNat+1)).1 < 0
  rw [gpK,hfr,if_neg (by decide)]
  split
  · show (-1:Int) < 0;decide
  · omega
theorem gp_cov {c:Chart} (hs:0≤c.secs) (b:Bunk) {s:Nat} (hsl:(s:Int) < c.secs):cvN (gpK c b (gpN c)).2 b s=if heldB c.sold b s then 0 else 1:=by
  rw [(gpK_cov c b (gpN c)).1 s,if_pos (gpK_end c b hs)]
  have hfr:frB c b s=!heldB c.sold b s:=by unfold frB;rw [decide_eq_true hsl,Bool.true_and]
  rw [hfr]
  have hN:(s:Int) < (gpN c:Int):=by unfold gpN;omega
  cases heldB c.sold b s <;> simp [hN]
theorem cv_other (c:Chart) {b b':Bunk} (h:b' ≠ b) (s k:Nat):cvN (gpK c b' k).2 b s=0:=by
  unfold cvN
  rw [List.length_eq_zero_iff,List.filter_eq_nil_iff]
  intro t ht hc
  obtain ⟨h1,h2⟩:=(gpK_cov c b' k).2.2 t ht
  unfold cvB at hc
  simp only [Bool.and_eq_true,decide_eq_true_eq] at hc
  obtain ⟨⟨⟨p1,p2⟩,_⟩,_⟩:=hc
  apply h
  cases b;cases b'
  simp only at *
  rw [← p1,← p2,h1,h2]
theorem gaps_one {c:Chart} (hs:0≤c.secs) {b:Bunk} (hb:b ∈ bunksL c.cabins) {s:Nat} (hsl:(s:Int) < c.secs):cvN (gapsL c) b s=if heldB c.sold b s then 0 else 1:=by
  have key:∀ l:List Bunk,l.Nodup→cvN (l.flatMap fun b=>(gpK c b (gpN c)).2) b s=if b ∈ l then (if heldB c.sold b s then 0 else 1) else 0:=fun l=>by
    induction l with
    |nil=>intro _;rfl
    |cons x l ih =>
      intro hn
      obtain ⟨h1,h2⟩:=List.nodup_cons.1 hn
      rw [List.flatMap_cons,cvN_app,ih h2]
      by_cases hx:x=b
      · subst hx
        rw [gp_cov hs x hsl,if_neg h1,if_pos (List.mem_cons_self ..)]
        rfl
      · rw [cv_other c hx,Nat.zero_add]
        by_cases hm:b ∈ l
        · rw [if_pos hm,if_pos (List.mem_cons_of_mem _ hm)]
        · rw [if_neg hm,if_neg]
          intro h
          rcases List.mem_cons.1 h with h|h
          · exact hx h.symm
          · exact hm h
  have:=key (bunksL c.cabins) (bunks_nd _)
  unfold gapsL gpP
  rw [List.take_length,this,if_pos hb]
end Go.Sym.B
namespace Go.Sym.B
open Go Go.Sym Go.Proofs Go.Sym.C
def hlN (c:Chart) (s:Int) (l:List Bunk):Nat:=(l.filter fun b=>heldB c.sold b s).length
theorem hlN_app (c:Chart) (s:Int) (l r:List Bunk):hlN c s (l++r)=hlN c s l+hlN c s r:=by
  unfold hlN
  rw [List.filter_append,List.length_append]
def one (b:Bool):Nat:=if b then 1 else 0
theorem hlN_one (c:Chart) (s:Int) (b:Bunk):hlN c s [b]=one (heldB c.sold b s):=by
  unfold hlN one
  cases h:heldB c.sold b s <;> simp [h]
theorem held_in {c:Chart} (hv:Val c) {i:Nat} {n:Nat} {s:Int} (h:(c.cabins.getD i default).beds≤(n:Int)∨c.cabins.length≤i):heldB c.sold ⟨(i:Int),(n:Int)⟩ s=false:=by
  cases hq:heldB c.sold ⟨(i:Int),(n:Int)⟩ s with
  |false=>rfl
  |true =>
    exfalso
    obtain ⟨t,ht,ho⟩:=List.any_eq_true.1 hq
    unfold onB at ho
    simp only [Bool.and_eq_true,decide_eq_true_eq] at ho
    obtain ⟨⟨h1,h2⟩,_⟩:=ho
    have hk:=hv.tk t ht
    have hc:=hk.cab
    have hb:=hk.bed
    rw [h1] at hc hb
    simp only [Int.toNat_natCast] at hc hb
    rcases h with h|h
    · omega
    · omega
theorem cab_row {c:Chart} (hv:Val c) (i:Nat) (s:Int):hlN c s (bkF i (c.cabins.getD i default).beds.toNat)=one (heldB c.sold ⟨(i:Int),0⟩ s)+one (heldB c.sold ⟨(i:Int),1⟩ s)+one (heldB c.sold ⟨(i:Int),2⟩ s):=by
  have hF:∀ k,hlN c s (bkF i (k+1))=hlN c s (bkF i k)+one (heldB c.sold ⟨(i:Int),(k:Int)⟩ s):=fun k=>by rw [bkF_succ,hlN_app,hlN_one]
  have h0:hlN c s (bkF i 0)=0:=rfl
  have hz:∀ n:Nat,(c.cabins.getD i default).beds≤(n:Int)→one (heldB c.sold ⟨(i:Int),(n:Int)⟩ s)=0:=fun n hn=>by rw [held_in hv (.inl hn)];rfl
  have hle:(c.cabins.getD i default).beds≤3:=by
    by_cases hi:i < c.cabins.length
    · exact (hv.car.beds _ (gMem hi)).2
    · rw [List.getD_eq_getElem?_getD,List.getElem?_eq_none (by omega)]
      decide
  have z0:=hz 0
  have z1:=hz 1
  have z2:=hz 2
  have f0:=hF 0
  have f1:=hF 1
  have f2:=hF 2
  simp only [Nat.zero_add,Nat.reduceAdd] at f0 f1 f2
  obtain ⟨B,hB⟩:∃ B,(c.cabins.getD i default).beds=B:=⟨_,rfl⟩
  rw [hB] at hle z0 z1 z2 ⊢
  have e0:(((0:Nat):Int))=0:=rfl
  have e1:(((1:Nat):Int))=1:=rfl
  have e2:(((2:Nat):Int))=2:=rfl
  rw [e0] at z0 f0
  rw [e1] at z1 f1
  rw [e2] at z2 f2
  have hc:B.toNat=0∨B.toNat=1∨B.toNat=2∨B.toNat=3:=by omega
  rcases hc with h|h|h|h
  · rw [h,h0,z0 (by omega),z1 (by omega),z2 (by omega)]
  · rw [h,f0,h0,z1 (by omega),z2 (by omega)];omega
  · rw [h,f1,f0,h0,z2 (by omega)];omega
  · rw [h,f2,f1,f0,h0];omega
theorem load_held {c:Chart} (hv:Val c) (s:Int):loadN c s=(hlN c s (bunksL c.cabins):Int):=by
  have hP:∀ j,hlN c s (bkP c.cabins (j+1))=hlN c s (bkP c.cabins j)+(one (heldB c.sold ⟨(j:Int),0⟩ s)+one (heldB c.sold ⟨(j:Int),1⟩ s)+one (heldB c.sold ⟨(j:Int),2⟩ s)):=fun j=>by rw [bkP_succ,hlN_app,cab_row hv]
  have p0:hlN c s (bkP c.cabins 0)=0:=rfl
  have hz:∀ i:Nat,c.cabins.length≤i→one (heldB c.sold ⟨(i:Int),0⟩ s)=0∧one (heldB c.sold ⟨(i:Int),1⟩ s)=0∧one (heldB c.sold ⟨(i:Int),2⟩ s)=0:=fun i hi=>by
    have g0:=held_in hv (n:=0) (s:=s) (.inr hi)
    have g1:=held_in hv (n:=1) (s:=s) (.inr hi)
    have g2:=held_in hv (n:=2) (s:=s) (.inr hi)
    refine ⟨?_, ?_, ?_⟩
    · rw [show (0:Int)=((0:Nat):Int) from rfl,g0];rfl
    · rw [show (1:Int)=((1:Nat):Int) from rfl,g1];rfl
    · rw [show (2:Int)=((2:Nat):Int) from rfl,g2];rfl
  have hbits:=heldK_bits hv.van s c.sold.length (Nat.le_refl _)
  rw [List.take_length] at hbits
  have row:∀ i:Nat,i < 3→popN ((heldK c.sold s c.sold.length).getD i 0)=((one (heldB c.sold ⟨(i:Int),0⟩ s)+one (heldB c.sold ⟨(i:Int),1⟩ s)+one (heldB c.sold ⟨(i:Int),2⟩ s):Nat):Int):=fun i hi=>by
    obtain ⟨h1,h2⟩:=hbits i hi
    rw [pop_bits h1,h2 0 (by omega),h2 1 (by omega),h2 2 (by omega)]
    unfold one
    cases heldB c.sold ⟨(i:Int),0⟩ s <;> cases heldB c.sold ⟨(i:Int),1⟩ s <;> cases heldB c.sold ⟨(i:Int),2⟩ s <;> rfl
  have r0:=row 0 (by omega)
  have r1:=row 1 (by omega)
  have r2:=row 2 (by omega)
  have hL:loadN c s=popN ((heldK c.sold s c.sold.length).getD 0 0)+popN ((heldK c.sold s c.sold.length).getD 1 0)+popN ((heldK c.sold s c.sold.length).getD 2 0):=rfl
  rw [hL,r0,r1,r2,show bunksL c.cabins=bkP c.cabins c.cabins.length from rfl]
  have q0:=hP 0
  have q1:=hP 1
  have q2:=hP 2
  have z1:=hz 1
  have z2:=hz 2
  simp only [Nat.zero_add,Nat.reduceAdd] at q0 q1 q2
  have hl:=hv.car.cabs
  have hc:c.cabins.length=1∨c.cabins.length=2∨c.cabins.length=3:=by omega
  rcases hc with h|h|h
  · obtain ⟨a1,a2,a3⟩:=z1 (by omega)
    obtain ⟨b1,b2,b3⟩:=z2 (by omega)
    rw [h,q0,p0,a1,a2,a3,b1,b2,b3];omega
  · obtain ⟨b1,b2,b3⟩:=z2 (by omega)
    rw [h,q1,q0,p0,b1,b2,b3];omega
  · rw [h,q2,q1,q0,p0];omega
end Go.Sym.B
namespace Go.Sym.B
open Go Go.Sym Go.Proofs Go.Sym.C
def sGapsF:List AV→Prop × AV
  |[.agg [.sl c0,.v (.int .i64 c1),.sl c2]]=>(c0=(c0.map dCabin).map eCabin∧c2=(c2.map dTk).map eTk∧((⟨(c0.map dCabin),c1,(c2.map dTk)⟩:Chart)).cabins.length≤maxLen,.tup [aTks (gapsA ((⟨(c0.map dCabin),c1,(c2.map dTk)⟩:Chart))).1,aI (gapsA ((⟨(c0.map dCabin),c1,(c2.map dTk)⟩:Chart))).2])
  |_=>(False,.junk)
theorem eGapsF {A:Frm→Prop}:EntryOK A Try.prog 60 (valE false sGapsF):=valE_ok fun vs hv h=>by
  clear hv
  unfold sGapsF at h ⊢
  split at h
  · rename_i c0 c1 c2;obtain ⟨q0,q1,k0⟩:=h
    refine ⟨by first|trivial|(simp [AV.plain,AV.plainL,aI,aB,aInts,aBunks,aTks,aBunk,aTk,cTk];done)|(repeat' split) <;> simp [AV.plain,AV.plainL,aI,aB,aInts,aBunks,aTks,aBunk,aTk,cTk],fun h=>absurd h (by decide), ?_⟩
    have:=Gaps_fn ((⟨(c0.map dCabin),c1,(c2.map dTk)⟩:Chart)) k0
    simp only [aCabins,aChart,aI,aTks,cChart,← q0,← q1] at this
    first|exact this|(simp only [aCabins,aChart,aI,aTks,cChart,← q0,← q1];exact this)
  · exact h.elim
def sLoadF:List AV→Prop × AV
  |[.agg [.sl c0,.v (.int .i64 c1),.sl c2]]=>(c0=(c0.map dCabin).map eCabin∧c2=(c2.map dTk).map eTk∧((⟨(c0.map dCabin),c1,(c2.map dTk)⟩:Chart)).cabins.length≤maxLen,.tup [aInts (loadA ((⟨(c0.map dCabin),c1,(c2.map dTk)⟩:Chart))).1,aI (loadA ((⟨(c0.map dCabin),c1,(c2.map dTk)⟩:Chart))).2])
  |_=>(False,.junk)
theorem eLoadF {A:Frm→Prop}:EntryOK A Try.prog 57 (valE false sLoadF):=valE_ok fun vs hv h=>by
  clear hv
  unfold sLoadF at h ⊢
  split at h
  · rename_i c0 c1 c2;obtain ⟨q0,q1,k0⟩:=h
    refine ⟨by first|trivial|(simp [AV.plain,AV.plainL,aI,aB,aInts,aBunks,aTks,aBunk,aTk,cTk];done)|(repeat' split) <;> simp [AV.plain,AV.plainL,aI,aB,aInts,aBunks,aTks,aBunk,aTk,cTk],fun h=>absurd h (by decide), ?_⟩
    have:=Load_fn ((⟨(c0.map dCabin),c1,(c2.map dTk)⟩:Chart)) k0
    simp only [aCabins,aChart,aI,aTks,cChart,← q0,← q1] at this
    first|exact this|(simp only [aCabins,aChart,aI,aTks,cChart,← q0,← q1];exact this)
  · exact h.elim
def fre (C:Chart) (s:Int) (b:Bunk):Bool:=!heldB C.sold b s
theorem fre_len (C:Chart) (s:Int) (l:List Bunk):(l.filter (fre C s)).length+hlN C s l=l.length:=by
  induction l with
  |nil=>rfl
  |cons b l ih =>
    unfold hlN fre at *
    cases h:heldB C.sold b s <;> simp [h] <;> omega
def ggS (C:Chart) (L:List Tk) (K:List Int) (BS:List Bunk) (T:List (Nat × AV)):St:={ t:=asg (T++[(3,.ptr 1 0),(4,aTks L),(6,aInts K),(8,aBunks BS)]),h:=hasg [(1,.cells (cChart C))],n:=2 }
def tbE18_law:=vj @ty3 (vj @ty4 (vj @ty22 (vj @ty26 (vj @ty28 (vj @ty34 (vj @ty37 (vj @ty49 (vj @ty81 (vj @ti3.eq_1 (vj @ti4.eq_1 (vj @ti22.eq_1 (vj @ti26.eq_1 (vj @ti28.eq_1 (vj @ti34.eq_1 (vj @ti37.eq_1 (vj @ti49.eq_1 @ti81.eq_1))))))))))))))))
def xbE18_1:=vj @aI.eq_1 (vj @aB.eq_1 (vj @aInts.eq_1 (vj @eInt.eq_1 (vj @gInt (@mInt)))))
set_option maxRecDepth 100000 in
set_option maxHeartbeats 40000000 in
theorem gapsLaw_fn (nums:List Int) (hnums:nums.length≤maxLen):FnV Try.prog 14 [aInts nums] (aB true):=by
  have env:Env (fun _=>True) Try.prog tyB (tab [(15,fnE pBag),(16,fnE pChartOf),(60,valE false sGapsF),(57,valE false sLoadF),(22,valE false srBunks),(27,valE true sheld),(25,valE true sselling)]):=mkEnv ⟨eBag,eChartOf,eGapsF,eLoadF,erBunks,eheld,eselling,trivial⟩
  refine Fn.of (A:=fun _=>True) (n0:=0) (D:=noD) (Fn0 Try.func14 rfl (fun vs w=>by kernel_rfl) (by kernel_rfl)) (by simp) (by simp [AV.ids,AV.idsL,aInts]) (fun i o h=>by cases h) (fun _ _ _ _=>trivial) noD_ok ?_
  obtain ⟨x0,hx0⟩:∃ x,nbS nums=x:=⟨_,rfl⟩
  obtain ⟨hC0,hCp,hCs,hCc,hCg⟩:=co_ok (x:=x0) (a:=3) (g:=5) (s:=8) (by decide) (by decide) (by decide)
  obtain ⟨C,hC⟩:∃ C,coC x0 3 5 8=C:=⟨_,rfl⟩
  rw [hC] at hC0 hCp hCs hCc hCg
  have hv:=val_of hC0
  have hsec:=hv.car.secs
  have hcab:=hv.car.cabs
  have hbds:=hv.car.beds
  have eC:(⟨C.cabins,C.secs,C.sold⟩:Chart)=C:=rfl
  have hmx:(100000:Nat)≤maxLen:=by decide
  have c1:C.cabins.length≤maxLen:=by omega
  have c3:C.sold.length≤100:=by omega
  have c4:=small_val hv
  have c6:C.cabins.length≤3:=by omega
  have c7:∀ x ∈ C.cabins,x.beds≤3:=fun x hx=>(hbds x hx).2
  have c8:=bunks_n c6 hbds
  have hGa:gapsA C=(gapsL C,0):=by unfold gapsA;rw [if_pos hC0]
  have hLo:loadA C=(ldK C C.secs.toNat,0):=by unfold loadA;rw [if_pos hC0];rfl
  have hLl:=gpP_len C (bunksL C.cabins).length (Nat.le_refl _)
  have hLl2:(bunksL C.cabins).length * gpN C≤9 * 6:=Nat.mul_le_mul c8 (by unfold gpN;omega)
  have hone:=fun b hb s hs=>gaps_one (c:=C) (by omega) (b:=b) hb (s:=s) hs
  have hheld:=load_held hv
  have hKl:=ldK_len C C.secs.toNat
  have hKg:∀ s:Nat,s < C.secs.toNat→(ldK C C.secs.toNat).getD s 0=loadN C s:=fun s hs=>by
    unfold ldK
    simp [List.getD_eq_getElem?_getD,hs]
  obtain ⟨L,hL⟩:∃ L,gapsL C=L:=⟨_,rfl⟩
  obtain ⟨K,hK⟩:∃ K,ldK C C.secs.toNat=K:=⟨_,rfl⟩
  have hLl3:L.length≤54:=by rw [← hL];unfold gapsL;omega
  rw [hL] at hGa
  rw [hK] at hLo hKl hKg
  rw [hL] at hone
  have hnd:=fre_len C
  obtain ⟨BS,hBS⟩:∃ BS,bunksL C.cabins=BS:=⟨_,rfl⟩
  rw [hBS] at c8 hone hheld
  have hKs:((K.length:Nat):Int)=C.secs:=by omega
  have q1:decide ((K.length:Int)=C.secs)=true:=decide_eq_true hKs
  repeat' (first|(apply nx;with_reducible constructor)|refine uq (by decide) ?_|((first|refine vx env fun Q hQ=>?_|refine vz fun Q hQ=>?_);simp only [vkt,seval,tbE18_law,xbE18_1,aBunk,aBunks,aTk,cTk,aTks,eTk,gTk,eBunk,gBunk,mBunk,eCabin,mCabin,mTk,aChart,cChart,ggS,pBag,pChartOf,sGapsF,sLoadF,srBunks,sheld,sselling,List.length_map,hx0,hC,eC,c1,hGa,hLo,q1,c6,c7,hBS,decide_true];(try simp only [ite_and]);(repeat' (first|with_reducible assumption|refine And.intro ?_ ?_|intro hp));all_goals (first|(refine hQ _ ?_;clear hQ Q)|(refine hQ _ (fun h=>?_) (fun h=>?_) <;> clear hQ Q <;> (try simp only [vki,reduceCtorEq] at h))|(refine vq ?_;kernel_rfl)|omega|assumption|with_reducible rfl|skip)))
  refine sym_loop (fun s:{ s:Nat // s≤C.secs.toNat }=>ggS C L K BS [(9,aI s.1)]) (fun s=>C.secs.toNat - s.1) ⟨0,Nat.zero_le _⟩ ?_ fun ⟨s,hs⟩=>?_
  · simp only [ggS,List.cons_append,List.nil_append]
    (refine Le.ok some [] ?_;constructor;all_goals (try simp only [vle,vkt,seval,tbE18_law,xbE18_1,aBunk,aBunks,aTk,cTk,aTks,eTk,gTk,eBunk,gBunk,mBunk,eCabin,mCabin,mTk,aChart,cChart,ggS,pBag,pChartOf,sGapsF,sLoadF,srBunks,sheld,sselling,List.length_map]))
    all_goals first|rfl|(simp;done)
  simp only at hs ⊢
  simp only [ggS,List.cons_append,List.nil_append]
  by_cases hsl:s < C.secs.toNat
  · have d1:decide ((s:Int) < C.secs)=true:=decide_eq_true (by omega)
    have e9:IntKind.wrap .i64 ((s:Int)+1)=((s+1:Nat):Int):=by rw [wrap64 (by omega) (by omega)];rfl
    have s0:((s:Int)).toNat=s:=rfl
    repeat' (first|(apply nx;with_reducible constructor)|refine uq (by decide) ?_|((first|refine vx env fun Q hQ=>?_|refine vz fun Q hQ=>?_);simp only [vkt,seval,tbE18_law,xbE18_1,aBunk,aBunks,aTk,cTk,aTks,eTk,gTk,eBunk,gBunk,mBunk,eCabin,mCabin,mTk,aChart,cChart,ggS,pBag,pChartOf,sGapsF,sLoadF,srBunks,sheld,sselling,List.length_map,d1];(try simp only [ite_and]);(repeat' (first|with_reducible assumption|refine And.intro ?_ ?_|intro hp));all_goals (first|(refine hQ _ ?_;clear hQ Q)|(refine hQ _ (fun h=>?_) (fun h=>?_) <;> clear hQ Q <;> (try simp only [vki,reduceCtorEq] at h))|(refine vq ?_;kernel_rfl)|omega|assumption|with_reducible rfl|skip)))
    refine sym_loop (fun i:{ i:Nat // i≤BS.length }=>ggS C L K BS [(9,aI s),(10,aI ((BS.take i.1).filter (fre C s)).length),(11,aI i.1)]) (fun i=>BS.length - i.1) ⟨0,Nat.zero_le _⟩ ?_ fun ⟨i,hi⟩=>?_
    · simp only [ggS,List.take_zero,List.filter_nil,List.cons_append,List.nil_append]
      (refine Le.ok some [] ?_;constructor;all_goals (try simp only [vle,vkt,seval,tbE18_law,xbE18_1,aBunk,aBunks,aTk,cTk,aTks,eTk,gTk,eBunk,gBunk,mBunk,eCabin,mCabin,mTk,aChart,cChart,ggS,pBag,pChartOf,sGapsF,sLoadF,srBunks,sheld,sselling,List.length_map]))
      all_goals first|rfl|(simp;done)
    simp only at hi ⊢
    have hfl:((BS.take i).filter (fre C s)).length≤i:=Nat.le_trans (List.length_filter_le _ _) (by rw [List.length_take];omega)
    obtain ⟨n,hn⟩:∃ n,((BS.take i).filter (fre C s)).length=n:=⟨_,rfl⟩
    simp only [ggS,hn,List.cons_append,List.nil_append]
    rw [hn] at hfl
    by_cases hil:i < BS.length
    · have d2:decide ((i:Int) < (BS.length:Int))=true:=decide_eq_true (by omega)
      have e8:IntKind.wrap .i64 ((i:Int)+1)=((i+1:Nat):Int):=by rw [wrap64 (by omega) (by omega)];rfl
      have i0:((i:Int)).toNat=i:=rfl
      have hS:=filt_succ (p:=fre C s) (d:=default) hil
      have hbm:BS.getD i default ∈ BS:=gMem hil
      obtain ⟨b,hb⟩:∃ b,BS.getD i default=b:=⟨_,rfl⟩
      rw [hn,hb] at hS
      rw [hb] at hbm
      have eb:(⟨b.cab,b.bed⟩:Bunk)=b:=rfl
      have hg:=hone b hbm s (by omega)
      have f1:(false == true)=false:=rfl
      have f2:(true == false)=false:=rfl
      have f3:decide (false=true)=false:=rfl
      have f4:decide (true=false)=false:=rfl
      repeat' (first|(apply nx;with_reducible constructor)|refine uq (by decide) ?_|((first|refine vx env fun Q hQ=>?_|refine vz fun Q hQ=>?_);simp only [vkt,seval,tbE18_law,xbE18_1,aBunk,aBunks,aTk,cTk,aTks,eTk,gTk,eBunk,gBunk,mBunk,eCabin,mCabin,mTk,aChart,cChart,ggS,pBag,pChartOf,sGapsF,sLoadF,srBunks,sheld,sselling,List.length_map,d2];(try simp only [ite_and]);(repeat' (first|with_reducible assumption|refine And.intro ?_ ?_|intro hp));all_goals (first|(refine hQ _ ?_;clear hQ Q)|(refine hQ _ (fun h=>?_) (fun h=>?_) <;> clear hQ Q <;> (try simp only [vki,reduceCtorEq] at h))|(refine vq ?_;kernel_rfl)|omega|assumption|with_reducible rfl|skip)))
      refine sym_loop (fun k:{ k:Nat // k≤L.length }=>ggS C L K BS [(9,aI s),(10,aI n),(11,aI i),(12,aI (cvN (L.take k.1) b s)),(13,aI k.1)]) (fun k=>L.length - k.1) ⟨0,Nat.zero_le _⟩ ?_ fun ⟨k,hk⟩=>?_
      · simp only [ggS,List.take_zero,show cvN [] b s=0 from rfl,List.cons_append,List.nil_append]
        (refine Le.ok some [] ?_;constructor;all_goals (try simp only [vle,vkt,seval,tbE18_law,xbE18_1,aBunk,aBunks,aTk,cTk,aTks,eTk,gTk,eBunk,gBunk,mBunk,eCabin,mCabin,mTk,aChart,cChart,ggS,pBag,pChartOf,sGapsF,sLoadF,srBunks,sheld,sselling,List.length_map]))
        all_goals first|rfl|(simp;done)
      simp only at hk ⊢
      have hgl:cvN (L.take k) b s≤k:=by unfold cvN;exact Nat.le_trans (List.length_filter_le _ _) (by rw [List.length_take];omega)
      obtain ⟨g,hge⟩:∃ g,cvN (L.take k) b s=g:=⟨_,rfl⟩
      rw [hge] at hgl
      simp only [ggS,hge,List.cons_append,List.nil_append]
      by_cases hkl:k < L.length
      · have d3:decide ((k:Int) < (L.length:Int))=true:=decide_eq_true (by omega)
        have e7:IntKind.wrap .i64 ((k:Int)+1)=((k+1:Nat):Int):=by rw [wrap64 (by omega) (by omega)];rfl
        have e6:IntKind.wrap .i64 ((g:Int)+1)=((g+1:Nat):Int):=by rw [wrap64 (by omega) (by omega)];rfl
        have k0:((k:Int)).toNat=k:=rfl
        have hS2:cvN (L.take (k+1)) b s=g+if cvB b s (L.getD k default) then 1 else 0:=by rw [← hge];exact filt_succ (p:=cvB b s) (d:=default) hkl
        obtain ⟨x,hx⟩:∃ x,L.getD k default=x:=⟨_,rfl⟩
        rw [hx] at hS2
        have hcv:cvB b s x=(decide (x.cab=b.cab) && decide (x.bed=b.bed) && decide (x.frm≤(s:Int)) && decide ((s:Int) < x.to)):=rfl
        have fin:∀ S g',cvN (L.take (k+1)) b s=g'→Le S (ggS C L K BS [(9,aI s),(10,aI n),(11,aI i),(12,aI (g':Nat)),(13,aI (k+1:Nat))])→∃ y:{ k:Nat // k≤L.length },(L.length - y.1 < L.length - k)∧Le S (ggS C L K BS [(9,aI s),(10,aI n),(11,aI i),(12,aI (cvN (L.take y.1) b s)),(13,aI y.1)]):=fun S g' h hle=>⟨⟨k+1,hkl⟩,by show L.length - (k+1) < L.length - k;omega,by rw [h];exact hle⟩
        cases r1:(decide (x.cab=b.cab) && decide (x.bed=b.bed)) with
        |false =>
          rw [hcv,r1] at hS2
          have hS2:cvN (L.take (k+1)) b s=g:=hS2
          repeat' (first|(apply nx;with_reducible constructor)|refine uq (by decide) ?_|((first|refine vx env fun Q hQ=>?_|refine vz fun Q hQ=>?_);simp only [vkt,seval,tbE18_law,xbE18_1,aBunk,aBunks,aTk,cTk,aTks,eTk,gTk,eBunk,gBunk,mBunk,eCabin,mCabin,mTk,aChart,cChart,ggS,pBag,pChartOf,sGapsF,sLoadF,srBunks,sheld,sselling,List.length_map,d3,e7,k0,i0,hkl,hil,hx,hb,r1];(try simp only [ite_and]);(repeat' (first|with_reducible assumption|refine And.intro ?_ ?_|intro hp));all_goals (first|(refine hQ _ ?_;clear hQ Q)|(refine hQ _ (fun h=>?_) (fun h=>?_) <;> clear hQ Q <;> (try simp only [vki,reduceCtorEq] at h))|(refine vq ?_;kernel_rfl)|omega|assumption|with_reducible rfl|skip)))
          refine fin _ g hS2 ?_
          simp only [ggS,List.cons_append,List.nil_append]
          (refine Le.ok some [] ?_;constructor;all_goals (try simp only [vle,vkt,seval,tbE18_law,xbE18_1,aBunk,aBunks,aTk,cTk,aTks,eTk,gTk,eBunk,gBunk,mBunk,eCabin,mCabin,mTk,aChart,cChart,ggS,pBag,pChartOf,sGapsF,sLoadF,srBunks,sheld,sselling,List.length_map]))
          all_goals first|rfl|(simp;done)
        |true =>
          cases r2:decide (x.frm≤(s:Int)) with
          |false =>
            rw [hcv,r1,r2] at hS2
            have hS2:cvN (L.take (k+1)) b s=g:=hS2
            repeat' (first|(apply nx;with_reducible constructor)|refine uq (by decide) ?_|((first|refine vx env fun Q hQ=>?_|refine vz fun Q hQ=>?_);simp only [vkt,seval,tbE18_law,xbE18_1,aBunk,aBunks,aTk,cTk,aTks,eTk,gTk,eBunk,gBunk,mBunk,eCabin,mCabin,mTk,aChart,cChart,ggS,pBag,pChartOf,sGapsF,sLoadF,srBunks,sheld,sselling,List.length_map,d3,e7,k0,i0,hkl,hil,hx,hb,r1,r2];(try simp only [ite_and]);(repeat' (first|with_reducible assumption|refine And.intro ?_ ?_|intro hp));all_goals (first|(refine hQ _ ?_;clear hQ Q)|(refine hQ _ (fun h=>?_) (fun h=>?_) <;> clear hQ Q <;> (try simp only [vki,reduceCtorEq] at h))|(refine vq ?_;kernel_rfl)|omega|assumption|with_reducible rfl|skip)))
            refine fin _ g hS2 ?_
            simp only [ggS,List.cons_append,List.nil_append]
            (refine Le.ok some [] ?_;constructor;all_goals (try simp only [vle,vkt,seval,tbE18_law,xbE18_1,aBunk,aBunks,aTk,cTk,aTks,eTk,gTk,eBunk,gBunk,mBunk,eCabin,mCabin,mTk,aChart,cChart,ggS,pBag,pChartOf,sGapsF,sLoadF,srBunks,sheld,sselling,List.length_map]))
            all_goals first|rfl|(simp;done)
          |true =>
            cases r3:decide ((s:Int) < x.to) with
            |false =>
              rw [hcv,r1,r2,r3] at hS2
              have hS2:cvN (L.take (k+1)) b s=g:=hS2
              repeat' (first|(apply nx;with_reducible constructor)|refine uq (by decide) ?_|((first|refine vx env fun Q hQ=>?_|refine vz fun Q hQ=>?_);simp only [vkt,seval,tbE18_law,xbE18_1,aBunk,aBunks,aTk,cTk,aTks,eTk,gTk,eBunk,gBunk,mBunk,eCabin,mCabin,mTk,aChart,cChart,ggS,pBag,pChartOf,sGapsF,sLoadF,srBunks,sheld,sselling,List.length_map,d3,e7,k0,i0,hkl,hil,hx,hb,r1,r2,r3];(try simp only [ite_and]);(repeat' (first|with_reducible assumption|refine And.intro ?_ ?_|intro hp));all_goals (first|(refine hQ _ ?_;clear hQ Q)|(refine hQ _ (fun h=>?_) (fun h=>?_) <;> clear hQ Q <;> (try simp only [vki,reduceCtorEq] at h))|(refine vq ?_;kernel_rfl)|omega|assumption|with_reducible rfl|skip)))
              refine fin _ g hS2 ?_
              simp only [ggS,List.cons_append,List.nil_append]
              (refine Le.ok some [] ?_;constructor;all_goals (try simp only [vle,vkt,seval,tbE18_law,xbE18_1,aBunk,aBunks,aTk,cTk,aTks,eTk,gTk,eBunk,gBunk,mBunk,eCabin,mCabin,mTk,aChart,cChart,ggS,pBag,pChartOf,sGapsF,sLoadF,srBunks,sheld,sselling,List.length_map]))
              all_goals first|rfl|(simp;done)
            |true =>
              rw [hcv,r1,r2,r3] at hS2
              have hS2:cvN (L.take (k+1)) b s=g+1:=hS2
              repeat' (first|(apply nx;with_reducible constructor)|refine uq (by decide) ?_|((first|refine vx env fun Q hQ=>?_|refine vz fun Q hQ=>?_);simp only [vkt,seval,tbE18_law,xbE18_1,aBunk,aBunks,aTk,cTk,aTks,eTk,gTk,eBunk,gBunk,mBunk,eCabin,mCabin,mTk,aChart,cChart,ggS,pBag,pChartOf,sGapsF,sLoadF,srBunks,sheld,sselling,List.length_map,d3,e7,e6,k0,i0,hkl,hil,hx,hb,r1,r2,r3];(try simp only [ite_and]);(repeat' (first|with_reducible assumption|refine And.intro ?_ ?_|intro hp));all_goals (first|(refine hQ _ ?_;clear hQ Q)|(refine hQ _ (fun h=>?_) (fun h=>?_) <;> clear hQ Q <;> (try simp only [vki,reduceCtorEq] at h))|(refine vq ?_;kernel_rfl)|omega|assumption|with_reducible rfl|skip)))
              refine fin _ (g+1) hS2 ?_
              simp only [ggS,List.cons_append,List.nil_append]
              (refine Le.ok some [] ?_;constructor;all_goals (try simp only [vle,vkt,seval,tbE18_law,xbE18_1,aBunk,aBunks,aTk,cTk,aTks,eTk,gTk,eBunk,gBunk,mBunk,eCabin,mCabin,mTk,aChart,cChart,ggS,pBag,pChartOf,sGapsF,sLoadF,srBunks,sheld,sselling,List.length_map]))
              all_goals first|rfl|(simp;done)
      · have d3:decide ((k:Int) < (L.length:Int))=false:=decide_eq_false (by omega)
        obtain rfl:k=L.length:=by omega
        rw [List.take_length] at hge
        rw [hge] at hg
        have fin:∀ S n',((BS.take (i+1)).filter (fre C s)).length=n'→Le S (ggS C L K BS [(9,aI s),(10,aI (n':Nat)),(11,aI (i+1:Nat))])→∃ y:{ i:Nat // i≤BS.length },(BS.length - y.1 < BS.length - i)∧Le S (ggS C L K BS [(9,aI s),(10,aI ((BS.take y.1).filter (fre C s)).length),(11,aI y.1)]):=fun S n' h hle=>⟨⟨i+1,hil⟩,by show BS.length - (i+1) < BS.length - i;omega,by rw [h];exact hle⟩
        have d4:decide ((1:Int) < (g:Int))=false:=decide_eq_false (by split at hg <;> omega)
        have e6:IntKind.wrap .i64 ((n:Int)+(g:Int))=((n+g:Nat):Int):=by rw [wrap64 (by omega) (by omega)];rfl
        cases q:heldB C.sold b s with
        |true =>
          rw [q] at hg
          have hg:g=0:=hg
          have d5:decide ((g:Int)=1)=false:=decide_eq_false (by omega)
          have hS:((BS.take (i+1)).filter (fre C s)).length=n+g:=by rw [hS];unfold fre;rw [q,hg];rfl
          repeat' (first|(apply nx;with_reducible constructor)|refine uq (by decide) ?_|((first|refine vx env fun Q hQ=>?_|refine vz fun Q hQ=>?_);simp only [vkt,seval,tbE18_law,xbE18_1,aBunk,aBunks,aTk,cTk,aTks,eTk,gTk,eBunk,gBunk,mBunk,eCabin,mCabin,mTk,aChart,cChart,ggS,pBag,pChartOf,sGapsF,sLoadF,srBunks,sheld,sselling,List.length_map,d3,d4,d5,i0,hil,hb,eC,eb,c3,c4,q,e6,e8,f1,f2,f3,f4,decide_true];(try simp only [ite_and]);(repeat' (first|with_reducible assumption|refine And.intro ?_ ?_|intro hp));all_goals (first|(refine hQ _ ?_;clear hQ Q)|(refine hQ _ (fun h=>?_) (fun h=>?_) <;> clear hQ Q <;> (try simp only [vki,reduceCtorEq] at h))|(refine vq ?_;kernel_rfl)|omega|assumption|with_reducible rfl|skip)))
          refine fin _ _ hS ?_
          simp only [ggS,List.cons_append,List.nil_append]
          (refine Le.ok some [] ?_;constructor;all_goals (try simp only [vle,vkt,seval,tbE18_law,xbE18_1,aBunk,aBunks,aTk,cTk,aTks,eTk,gTk,eBunk,gBunk,mBunk,eCabin,mCabin,mTk,aChart,cChart,ggS,pBag,pChartOf,sGapsF,sLoadF,srBunks,sheld,sselling,List.length_map]))
          all_goals first|rfl|(simp;done)
        |false =>
          rw [q] at hg
          have hg:g=1:=hg
          have d5:decide ((g:Int)=1)=true:=decide_eq_true (by omega)
          have hS:((BS.take (i+1)).filter (fre C s)).length=n+g:=by rw [hS];unfold fre;rw [q,hg];rfl
          repeat' (first|(apply nx;with_reducible constructor)|refine uq (by decide) ?_|((first|refine vx env fun Q hQ=>?_|refine vz fun Q hQ=>?_);simp only [vkt,seval,tbE18_law,xbE18_1,aBunk,aBunks,aTk,cTk,aTks,eTk,gTk,eBunk,gBunk,mBunk,eCabin,mCabin,mTk,aChart,cChart,ggS,pBag,pChartOf,sGapsF,sLoadF,srBunks,sheld,sselling,List.length_map,d3,d4,d5,i0,hil,hb,eC,eb,c3,c4,q,e6,e8,f1,f2,f3,f4,decide_true];(try simp only [ite_and]);(repeat' (first|with_reducible assumption|refine And.intro ?_ ?_|intro hp));all_goals (first|(refine hQ _ ?_;clear hQ Q)|(refine hQ _ (fun h=>?_) (fun h=>?_) <;> clear hQ Q <;> (try simp only [vki,reduceCtorEq] at h))|(refine vq ?_;kernel_rfl)|omega|assumption|with_reducible rfl|skip)))
          refine fin _ _ hS ?_
          simp only [ggS,List.cons_append,List.nil_append]
          (refine Le.ok some [] ?_;constructor;all_goals (try simp only [vle,vkt,seval,tbE18_law,xbE18_1,aBunk,aBunks,aTk,cTk,aTks,eTk,gTk,eBunk,gBunk,mBunk,eCabin,mCabin,mTk,aChart,cChart,ggS,pBag,pChartOf,sGapsF,sLoadF,srBunks,sheld,sselling,List.length_map]))
          all_goals first|rfl|(simp;done)
    · have d2:decide ((i:Int) < (BS.length:Int))=false:=decide_eq_false (by omega)
      obtain rfl:i=BS.length:=by omega
      rw [List.take_length] at hn
      have hsum:=hnd s BS
      rw [hn] at hsum
      have hKk:s < K.length:=by omega
      have hKv:K.getD s 0=(hlN C s BS:Int):=by rw [hKg s hsl,hheld]
      obtain ⟨m,hm⟩:∃ m,hlN C s BS=m:=⟨_,rfl⟩
      rw [hm] at hsum hKv
      have w1:IntKind.wrap .i64 ((n:Int)+(m:Int))=(BS.length:Int):=by rw [wrap64 (by omega) (by omega)];omega
      repeat' (first|(apply nx;with_reducible constructor)|refine uq (by decide) ?_|((first|refine vx env fun Q hQ=>?_|refine vz fun Q hQ=>?_);simp only [vkt,seval,tbE18_law,xbE18_1,aBunk,aBunks,aTk,cTk,aTks,eTk,gTk,eBunk,gBunk,mBunk,eCabin,mCabin,mTk,aChart,cChart,ggS,pBag,pChartOf,sGapsF,sLoadF,srBunks,sheld,sselling,List.length_map,d2,s0,hKk,hKv,w1,e9,decide_true];(try simp only [ite_and]);(repeat' (first|with_reducible assumption|refine And.intro ?_ ?_|intro hp));all_goals (first|(refine hQ _ ?_;clear hQ Q)|(refine hQ _ (fun h=>?_) (fun h=>?_) <;> clear hQ Q <;> (try simp only [vki,reduceCtorEq] at h))|(refine vq ?_;kernel_rfl)|omega|assumption|with_reducible rfl|skip)))
      refine ⟨⟨s+1,hsl⟩,by show C.secs.toNat - (s+1) < C.secs.toNat - s;omega, ?_⟩
      simp only [ggS,List.cons_append,List.nil_append]
      (refine Le.ok some [] ?_;constructor;all_goals (try simp only [vle,vkt,seval,tbE18_law,xbE18_1,aBunk,aBunks,aTk,cTk,aTks,eTk,gTk,eBunk,gBunk,mBunk,eCabin,mCabin,mTk,aChart,cChart,ggS,pBag,pChartOf,sGapsF,sLoadF,srBunks,sheld,sselling,List.length_map]))
      all_goals first|rfl|(simp;done)
  · have d1:decide ((s:Int) < C.secs)=false:=decide_eq_false (by omega)
    repeat' (first|(apply nx;with_reducible constructor)|refine uq (by decide) ?_|((first|refine vx env fun Q hQ=>?_|refine vz fun Q hQ=>?_);simp only [vkt,seval,tbE18_law,xbE18_1,aBunk,aBunks,aTk,cTk,aTks,eTk,gTk,eBunk,gBunk,mBunk,eCabin,mCabin,mTk,aChart,cChart,ggS,pBag,pChartOf,sGapsF,sLoadF,srBunks,sheld,sselling,List.length_map,d1];(try simp only [ite_and]);(repeat' (first|with_reducible assumption|refine And.intro ?_ ?_|intro hp));all_goals (first|(refine hQ _ ?_;clear hQ Q)|(refine hQ _ (fun h=>?_) (fun h=>?_) <;> clear hQ Q <;> (try simp only [vki,reduceCtorEq] at h))|(refine vq ?_;kernel_rfl)|omega|assumption|with_reducible rfl|skip)))
    (simp only [vrt,Try.results14,vkt,seval,tbE18_law,xbE18_1,aBunk,aBunks,aTk,cTk,aTks,eTk,gTk,eBunk,gBunk,mBunk,eCabin,mCabin,mTk,aChart,cChart,ggS,pBag,pChartOf,sGapsF,sLoadF,srBunks,sheld,sselling,List.length_map];refine Fin.val rfl ?_;(try simp only [AV.le,AV.leL]))
    all_goals first|rfl|(simp;done)
end Go.Sym.B
