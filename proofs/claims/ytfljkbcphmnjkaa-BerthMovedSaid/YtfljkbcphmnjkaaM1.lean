/- Walks and what they compute, joined: part 1. -/
import Derived.Test.YtfljkbcphmnjkaaB3
set_option linter.all false
namespace Go.Sym.B
open Go Go.Sym Go.Proofs Go.Sym.C
theorem _root_.Go.Sym.vj {a b:Prop} (x:a) (y:b):a∧b:=⟨x,y⟩
def _root_.Go.Sym.uq:=@blockK_miss
def _root_.Go.Sym.ux:=@blockK_hit
def _root_.Go.Sym.uz:=@blockK_n
def _root_.Go.Sym.uj:=@blockK_r
def _root_.Go.Sym.uk:=@thenK_x
def _root_.Go.Sym.uw:=@thenK_r
def _root_.Go.Sym.uv:=@thenK_n
def _root_.Go.Sym.vq:=@drawB_of
def _root_.Go.Sym.vx:=@sym_reg
def _root_.Go.Sym.vz:=@sym_cz
end Go.Sym.B
namespace Go.Sym.B
open Go Go.Sym Go.Proofs Go.Sym.C
end Go.Sym.B
namespace Go.Sym.B
open Go Go.Sym Go.Proofs Go.Sym.C
end Go.Sym.B
namespace Go.Sym.B
open Go Go.Sym Go.Proofs Go.Sym.C
theorem bunks_3 {cs:List Cabin} (h2:∀ x ∈ cs,1≤x.beds∧x.beds≤3):(bunksL cs).length≤3 * cs.length:=by
  rw [bunks_len]
  induction cs with
  |nil=>simp [bdsL]
  |cons x l ih =>
    have h3:=ih fun y hy=>h2 y (List.mem_cons_of_mem _ hy)
    have h4:=h2 x (List.mem_cons_self ..)
    simp only [bdsL,List.map_cons,List.sum_cons,List.length_cons] at h3 ⊢
    omega
theorem bunks_n {cs:List Cabin} (h1:cs.length≤3) (h2:∀ x ∈ cs,1≤x.beds∧x.beds≤3):(bunksL cs).length≤9:=by
  have:=bunks_3 h2
  omega
end Go.Sym.B
namespace Go.Sym.B
open Go Go.Sym Go.Proofs Go.Sym.C
structure RmInv (C:Chart) (a:Ask) (i:Nat) (c:Chart):Prop where
  chk:checkE c=0
  cabs:c.cabins=C.cabins
  secs:c.secs=C.secs
  len:c.sold.length=C.sold.length+i
  lt:∀ t ∈ c.sold,t.party < 60+(i:Int)
end Go.Sym.B
namespace Go.Sym.B
open Go Go.Sym Go.Proofs Go.Sym.C
def bkF (i k:Nat):List Bunk:=(List.range k).map fun (m:Nat)=>⟨(i:Int),(m:Int)⟩
def bkP (cs:List Cabin) (i:Nat):List Bunk:=(List.range i).flatMap fun i=>bkF i (cs.getD i default).beds.toNat
theorem bkF_succ (i k:Nat):bkF i (k+1)=bkF i k++[⟨(i:Int),(k:Int)⟩]:=by
  unfold bkF
  rw [List.range_succ,List.map_append];rfl
theorem bkF_len (i k:Nat):(bkF i k).length=k:=by simp [bkF]
theorem bkP_succ (cs:List Cabin) (i:Nat):bkP cs (i+1)=bkP cs i++bkF i (cs.getD i default).beds.toNat:=by
  unfold bkP
  rw [List.range_succ,List.flatMap_append]
  simp
theorem bkP_len {cs:List Cabin} (hb:∀ x ∈ cs,x.beds≤3):∀ i,i≤cs.length→(bkP cs i).length≤3 * i
  |0,_=>by simp [bkP]
  |i+1,h=>by
    have h1:=bkP_len hb i (by omega)
    have h2:=hb _ (gMem (d:=default) (show i < cs.length by omega))
    rw [bkP_succ,List.length_append,bkF_len]
    omega
def bkS (c:Chart) (T:List (Nat × AV)) (l:List Bunk):St:={ t:=asg (T++[(1,.ptr 0 0),(3,.row 1)]),h:=hasg [(0,.cells (cChart c)),(1,.row 49 2 (l.map eBunk))],n:=2 }
def tbE10_rBunks:=vj @ty3 (vj @ty25 (vj @ty28 (vj @ty37 (vj @ty49 (vj @ty51 (vj @ti3.eq_1 (vj @ti25.eq_1 (vj @ti28.eq_1 (vj @ti37.eq_1 (vj @ti49.eq_1 @ti51.eq_1))))))))))
def xbE10_1:=vj @aI.eq_1 (@aB.eq_1)
theorem rBunks_fn (c:Chart) (hc:c.cabins.length≤3) (hb:∀ x ∈ c.cabins,x.beds≤3):FnV Try.prog 22 [aChart c] (aBunks (bunksL c.cabins)):=by
  have env:Env (fun _=>True) Try.prog tyB (tab []):=mkEnv trivial
  refine Fn.of (A:=fun _=>True) (n0:=0) (D:=noD) (Fn0 Try.func22 rfl (fun vs w=>by kernel_rfl) (by kernel_rfl)) (by simp) (by simp [AV.ids,AV.idsL,aChart,cChart]) (fun i o h=>by cases h) (fun _ _ _ _=>trivial) noD_ok ?_
  have hmx:(100000:Nat)≤maxLen:=by decide
  rw [show bunksL c.cabins=bkP c.cabins c.cabins.length from rfl]
  repeat' (first|(apply nx;with_reducible constructor)|refine uq (by decide) ?_|((first|refine vx env fun Q hQ=>?_|refine vz fun Q hQ=>?_);simp only [vkt,seval,tbE10_rBunks,xbE10_1,aBunk,aBunks,eBunk,gBunk,rBunk,eCabin,gCabin,mBunk,mCabin,mTk,aChart,cChart,bkS,List.length_map];(try simp only [ite_and]);(repeat' (first|with_reducible assumption|refine And.intro ?_ ?_|intro hp));all_goals (first|(refine hQ _ ?_;clear hQ Q)|(refine hQ _ (fun h=>?_) (fun h=>?_) <;> clear hQ Q <;> (try simp only [vki,reduceCtorEq] at h))|(refine vq ?_;kernel_rfl)|omega|assumption|with_reducible rfl|skip)))
  refine sym_loop (fun i:{ i:Nat // i≤c.cabins.length }=>bkS c [(4,aI i.1)] (bkP c.cabins i.1)) (fun i=>c.cabins.length - i.1) ⟨0,Nat.zero_le _⟩ ?_ fun ⟨i,hi⟩=>?_
  · simp only [bkS,show bkP c.cabins 0=[] from rfl,List.cons_append,List.nil_append]
    (refine Le.ok (fun i=>if i=1 then none else some i) [] ?_;constructor;all_goals (try simp only [vle,vkt,seval,tbE10_rBunks,xbE10_1,aBunk,aBunks,eBunk,gBunk,rBunk,eCabin,gCabin,mBunk,mCabin,mTk,aChart,cChart,bkS,List.length_map]))
    all_goals first|rfl|(simp;done)
  simp only at hi ⊢
  have hL:=bkP_len hb i hi
  have hS:=bkP_succ c.cabins i
  obtain ⟨L,hLe⟩:∃ L,bkP c.cabins i=L:=⟨_,rfl⟩
  rw [hLe] at hL hS
  rw [hLe]
  by_cases hil:i < c.cabins.length
  · have d1:decide ((i:Int) < (c.cabins.length:Int))=true:=decide_eq_true (by omega)
    have e9:IntKind.wrap .i64 ((i:Int)+1)=((i+1:Nat):Int):=by rw [wrap64 (by omega) (by omega)];rfl
    have i0:((i:Int)).toNat=i:=rfl
    obtain ⟨x,hx⟩:∃ x,c.cabins.getD i default=x:=⟨_,rfl⟩
    have hxb:=hb x (by rw [← hx];exact gMem hil)
    rw [hx] at hS
    simp only [bkS,List.cons_append,List.nil_append]
    repeat' (first|(apply nx;with_reducible constructor)|refine uq (by decide) ?_|((first|refine vx env fun Q hQ=>?_|refine vz fun Q hQ=>?_);simp only [vkt,seval,tbE10_rBunks,xbE10_1,aBunk,aBunks,eBunk,gBunk,rBunk,eCabin,gCabin,mBunk,mCabin,mTk,aChart,cChart,bkS,List.length_map,d1,i0];(try simp only [ite_and]);(repeat' (first|with_reducible assumption|refine And.intro ?_ ?_|intro hp));all_goals (first|(refine hQ _ ?_;clear hQ Q)|(refine hQ _ (fun h=>?_) (fun h=>?_) <;> clear hQ Q <;> (try simp only [vki,reduceCtorEq] at h))|(refine vq ?_;kernel_rfl)|omega|assumption|with_reducible rfl|skip)))
    refine sym_loop (fun k:{ k:Nat // k≤x.beds.toNat }=>bkS c [(4,aI i),(5,aI k.1)] (L++bkF i k.1)) (fun k=>x.beds.toNat - k.1) ⟨0,Nat.zero_le _⟩ ?_ fun ⟨k,hk⟩=>?_
    · simp only [bkS,show bkF i 0=[] from rfl,List.append_nil,List.cons_append,List.nil_append]
      (refine Le.ok some [] ?_;constructor;all_goals (try simp only [vle,vkt,seval,tbE10_rBunks,xbE10_1,aBunk,aBunks,eBunk,gBunk,rBunk,eCabin,gCabin,mBunk,mCabin,mTk,aChart,cChart,bkS,List.length_map]))
      all_goals first|rfl|(simp;done)
    simp only at hk ⊢
    have hF:=bkF_succ i k
    have hFl:(L++bkF i k).length≤100:=by rw [List.length_append,bkF_len];omega
    obtain ⟨M,hM⟩:∃ M,L++bkF i k=M:=⟨_,rfl⟩
    have hMS:L++bkF i (k+1)=M++[⟨(i:Int),(k:Int)⟩]:=by rw [hF,← List.append_assoc,hM]
    rw [hM] at hFl
    simp only [bkS,hM,List.cons_append,List.nil_append]
    by_cases hkl:k < x.beds.toNat
    · have d2:decide ((k:Int) < x.beds)=true:=decide_eq_true (by omega)
      have e8:IntKind.wrap .i64 ((k:Int)+1)=((k+1:Nat):Int):=by rw [wrap64 (by omega) (by omega)];rfl
      have hm:M.length+1≤maxLen:=by omega
      repeat' (first|(apply nx;with_reducible constructor)|refine uq (by decide) ?_|((first|refine vx env fun Q hQ=>?_|refine vz fun Q hQ=>?_);simp only [vkt,seval,tbE10_rBunks,xbE10_1,aBunk,aBunks,eBunk,gBunk,rBunk,eCabin,gCabin,mBunk,mCabin,mTk,aChart,cChart,bkS,List.length_map,i0,hil,hx,d2,e8,hm];(try simp only [ite_and]);(repeat' (first|with_reducible assumption|refine And.intro ?_ ?_|intro hp));all_goals (first|(refine hQ _ ?_;clear hQ Q)|(refine hQ _ (fun h=>?_) (fun h=>?_) <;> clear hQ Q <;> (try simp only [vki,reduceCtorEq] at h))|(refine vq ?_;kernel_rfl)|omega|assumption|with_reducible rfl|skip)))
      refine ⟨⟨k+1,hkl⟩,by show x.beds.toNat - (k+1) < x.beds.toNat - k;omega, ?_⟩
      simp only [bkS,hMS,List.cons_append,List.nil_append]
      (refine Le.ok (fun i=>if i=1 then some 3 else some i) [] ?_;constructor;all_goals (try simp only [vle,vkt,seval,tbE10_rBunks,xbE10_1,aBunk,aBunks,eBunk,gBunk,rBunk,eCabin,gCabin,mBunk,mCabin,mTk,aChart,cChart,bkS,List.length_map]))
      all_goals first|rfl|(rw [List.map_append];rfl)|(simp;done)|(intro i hi;rw [if_neg (by omega)];done)
    · have d2:decide ((k:Int) < x.beds)=false:=decide_eq_false (by omega)
      obtain rfl:k=x.beds.toNat:=by omega
      repeat' (first|(apply nx;with_reducible constructor)|refine uq (by decide) ?_|((first|refine vx env fun Q hQ=>?_|refine vz fun Q hQ=>?_);simp only [vkt,seval,tbE10_rBunks,xbE10_1,aBunk,aBunks,eBunk,gBunk,rBunk,eCabin,gCabin,mBunk,mCabin,mTk,aChart,cChart,bkS,List.length_map,i0,hil,hx,d2,e9];(try simp only [ite_and]);(repeat' (first|with_reducible assumption|refine And.intro ?_ ?_|intro hp));all_goals (first|(refine hQ _ ?_;clear hQ Q)|(refine hQ _ (fun h=>?_) (fun h=>?_) <;> clear hQ Q <;> (try simp only [vki,reduceCtorEq] at h))|(refine vq ?_;kernel_rfl)|omega|assumption|with_reducible rfl|skip)))
      refine ⟨⟨i+1,hil⟩,by show c.cabins.length - (i+1) < c.cabins.length - i;omega, ?_⟩
      simp only [bkS,hS,hM,List.cons_append,List.nil_append]
      (refine Le.ok some [] ?_;constructor;all_goals (try simp only [vle,vkt,seval,tbE10_rBunks,xbE10_1,aBunk,aBunks,eBunk,gBunk,rBunk,eCabin,gCabin,mBunk,mCabin,mTk,aChart,cChart,bkS,List.length_map]))
      all_goals first|rfl|(simp;done)
  · have d1:decide ((i:Int) < (c.cabins.length:Int))=false:=decide_eq_false (by omega)
    obtain rfl:i=c.cabins.length:=by omega
    rw [hLe]
    simp only [bkS,List.cons_append,List.nil_append]
    repeat' (first|(apply nx;with_reducible constructor)|refine uq (by decide) ?_|((first|refine vx env fun Q hQ=>?_|refine vz fun Q hQ=>?_);simp only [vkt,seval,tbE10_rBunks,xbE10_1,aBunk,aBunks,eBunk,gBunk,rBunk,eCabin,gCabin,mBunk,mCabin,mTk,aChart,cChart,bkS,List.length_map,d1];(try simp only [ite_and]);(repeat' (first|with_reducible assumption|refine And.intro ?_ ?_|intro hp));all_goals (first|(refine hQ _ ?_;clear hQ Q)|(refine hQ _ (fun h=>?_) (fun h=>?_) <;> clear hQ Q <;> (try simp only [vki,reduceCtorEq] at h))|(refine vq ?_;kernel_rfl)|omega|assumption|with_reducible rfl|skip)))
    (simp only [vrt,Try.results22,vkt,seval,tbE10_rBunks,xbE10_1,aBunk,aBunks,eBunk,gBunk,rBunk,eCabin,gCabin,mBunk,mCabin,mTk,aChart,cChart,bkS,List.length_map];refine Fin.val rfl ?_;(try simp only [AV.le,AV.leL]))
    all_goals first|rfl|(simp;done)|exact ⟨_,_,rfl⟩
def srBunks:List AV→Prop × AV
  |[.agg [.sl c0,.v (.int .i64 c1),.sl c2]]=>(c0=(c0.map dCabin).map eCabin∧c2=(c2.map dTk).map eTk∧((⟨(c0.map dCabin),c1,(c2.map dTk)⟩:Chart)).cabins.length≤3∧∀ x ∈ ((⟨(c0.map dCabin),c1,(c2.map dTk)⟩:Chart)).cabins,x.beds≤3,aBunks (bunksL ((⟨(c0.map dCabin),c1,(c2.map dTk)⟩:Chart)).cabins))
  |_=>(False,.junk)
theorem erBunks {A:Frm→Prop}:EntryOK A Try.prog 22 (valE false srBunks):=valE_ok fun vs hv h=>by
  clear hv
  unfold srBunks at h ⊢
  split at h
  · rename_i c0 c1 c2;obtain ⟨q0,q1,k0,k1⟩:=h
    refine ⟨by first|trivial|(simp [AV.plain,AV.plainL,aI,aB,aInts,aBunks,aTks,aBunk,aTk,cTk];done)|(repeat' split) <;> simp [AV.plain,AV.plainL,aI,aB,aInts,aBunks,aTks,aBunk,aTk,cTk],fun h=>absurd h (by decide), ?_⟩
    have:=rBunks_fn ((⟨(c0.map dCabin),c1,(c2.map dTk)⟩:Chart)) k0 k1
    simp only [aCabins,aChart,aI,aTks,cChart,← q0,← q1] at this
    first|exact this|(simp only [aCabins,aChart,aI,aTks,cChart,← q0,← q1];exact this)
  · exact h.elim
end Go.Sym.B
namespace Go.Sym.B
open Go Go.Sym Go.Proofs Go.Sym.C
def tbE11_isBunk:=vj @ty3 (vj @ty25 (vj @ty28 (vj @ty49 (vj @ty51 (vj @ti3.eq_1 (vj @ti25.eq_1 (vj @ti28.eq_1 (vj @ti49.eq_1 @ti51.eq_1))))))))
def xbE11_1:=vj @aI.eq_1 (@aB.eq_1)
theorem isBunk_fn (c:Chart) (b:Bunk) (hc:CarOk c):FnV Try.prog 73 [aChart c,aBunk b] (aB (isBunkB c.cabins b.cab b.bed)):=by
  have env:Env (fun _=>True) Try.prog tyB (tab [(81,valE true sbetw)]):=mkEnv ⟨ebetw,trivial⟩
  refine Fn.of (A:=fun _=>True) (n0:=0) (D:=noD) (Fn0 Try.func73 rfl (fun vs w=>by kernel_rfl) (by kernel_rfl)) (by simp) (by simp [AV.ids,AV.idsL,aChart,cChart,aBunk]) (fun i o h=>by cases h) (fun _ _ _ _=>trivial) noD_ok ?_
  have hcl:=hc.cabs
  have w1:IntKind.wrap .i64 ((c.cabins.length:Int) - 1)=(c.cabins.length:Int) - 1:=wrap64 (by omega) (by omega)
  have hE:isBunkB c.cabins b.cab b.bed=(inB b.cab 0 ((c.cabins.length:Int) - 1) && inB b.bed 0 ((c.cabins.getD b.cab.toNat default).beds - 1)):=rfl
  cases h3:inB b.cab 0 ((c.cabins.length:Int) - 1) with
  |false =>
    rw [hE,h3]
    repeat' (first|(apply nx;with_reducible constructor)|refine uq (by decide) ?_|((first|refine vx env fun Q hQ=>?_|refine vz fun Q hQ=>?_);simp only [vkt,seval,tbE11_isBunk,xbE11_1,aBunk,eBunk,aChart,cChart,eCabin,gCabin,mCabin,sbetw,List.length_map,h3,w1];(try simp only [ite_and]);(repeat' (first|with_reducible assumption|refine And.intro ?_ ?_|intro hp));all_goals (first|(refine hQ _ ?_;clear hQ Q)|(refine hQ _ (fun h=>?_) (fun h=>?_) <;> clear hQ Q <;> (try simp only [vki,reduceCtorEq] at h))|(refine vq ?_;kernel_rfl)|omega|assumption|with_reducible rfl|skip)))
    (simp only [vrt,Try.results73,vkt,seval,tbE11_isBunk,xbE11_1,aBunk,eBunk,aChart,cChart,eCabin,gCabin,mCabin,sbetw,List.length_map];refine Fin.val rfl ?_;(try simp only [AV.le,AV.leL]))
    all_goals first|rfl|(simp;done)
  |true =>
    have b3:=inB_iff.1 h3
    have g1:0≤b.cab:=b3.1
    have g2:b.cab.toNat < c.cabins.length:=by omega
    obtain ⟨x,hx⟩:∃ x,c.cabins.getD b.cab.toNat default=x:=⟨_,rfl⟩
    have hxb:=hc.beds _ (gMem (d:=default) g2)
    rw [hx] at hxb
    have w2:IntKind.wrap .i64 (x.beds - 1)=x.beds - 1:=wrap64 (by omega) (by omega)
    rw [hE,h3,hx,Bool.true_and]
    repeat' (first|(apply nx;with_reducible constructor)|refine uq (by decide) ?_|((first|refine vx env fun Q hQ=>?_|refine vz fun Q hQ=>?_);simp only [vkt,seval,tbE11_isBunk,xbE11_1,aBunk,eBunk,aChart,cChart,eCabin,gCabin,mCabin,sbetw,List.length_map,h3,w1,w2,hx,g1,g2];(try simp only [ite_and]);(repeat' (first|with_reducible assumption|refine And.intro ?_ ?_|intro hp));all_goals (first|(refine hQ _ ?_;clear hQ Q)|(refine hQ _ (fun h=>?_) (fun h=>?_) <;> clear hQ Q <;> (try simp only [vki,reduceCtorEq] at h))|(refine vq ?_;kernel_rfl)|omega|assumption|with_reducible rfl|skip)))
    (simp only [vrt,Try.results73,vkt,seval,tbE11_isBunk,xbE11_1,aBunk,eBunk,aChart,cChart,eCabin,gCabin,mCabin,sbetw,List.length_map];refine Fin.val rfl ?_;(try simp only [AV.le,AV.leL]))
    all_goals first|rfl|(simp;done)
def sisBunk:List AV→Prop × AV
  |[.agg [.sl c0,.v (.int .i64 c1),.sl c2],.agg [.v (.int .i64 b0),.v (.int .i64 b1)]]=>(c0=(c0.map dCabin).map eCabin∧c2=(c2.map dTk).map eTk∧CarOk ((⟨(c0.map dCabin),c1,(c2.map dTk)⟩:Chart)),aB (isBunkB ((⟨(c0.map dCabin),c1,(c2.map dTk)⟩:Chart)).cabins ((⟨b0,b1⟩:Bunk)).cab ((⟨b0,b1⟩:Bunk)).bed))
  |_=>(False,.junk)
theorem eisBunk {A:Frm→Prop}:EntryOK A Try.prog 73 (valE true sisBunk):=valE_ok fun vs hv h=>by
  clear hv
  unfold sisBunk at h ⊢
  split at h
  · rename_i c0 c1 c2 b0 b1;obtain ⟨q0,q1,k0⟩:=h
    refine ⟨by first|trivial|(simp [AV.plain,AV.plainL,aI,aB,aInts,aBunks,aTks,aBunk,aTk,cTk];done)|(repeat' split) <;> simp [AV.plain,AV.plainL,aI,aB,aInts,aBunks,aTks,aBunk,aTk,cTk],fun _=>(by simp [AV.flat,AV.flatL,aI,aB]), ?_⟩
    have:=isBunk_fn ((⟨(c0.map dCabin),c1,(c2.map dTk)⟩:Chart)) ((⟨b0,b1⟩:Bunk)) k0
    simp only [aBunk,aCabins,aChart,aI,aTks,cChart,← q0,← q1] at this
    first|exact this|(simp only [aBunk,aCabins,aChart,aI,aTks,cChart,← q0,← q1];exact this)
  · exact h.elim
end Go.Sym.B
namespace Go.Sym.B
open Go Go.Sym Go.Proofs Go.Sym.C
theorem anyNo {α:Type} [Inhabited α] {l:List α} {p:α→Bool} (h:∀ j,j < l.length→p (l.getD j default)=false):l.any p=false:=List.any_eq_false.2 fun x hx=>by
  obtain ⟨j,hj,rfl⟩:=List.mem_iff_getElem.1 hx
  have:=h j hj
  rw [show l.getD j default=l[j] by simp [List.getD_eq_getElem?_getD,hj]] at this
  rw [this];simp
theorem anyHit {α:Type} [Inhabited α] {l:List α} {p:α→Bool} {k:Nat} (hk:k < l.length) (h:p (l.getD k default)=true):l.any p=true:=List.any_eq_true.2 ⟨_,gMem hk,h⟩
def rsA (c:Chart) (t:Tk) (l:List Tk) (T:List (Nat × AV)):St:={ t:=asg (T++[(2,aTks l),(4,.ptr 1 0),(6,aI 0)]),h:=hasg [(0,.cells (cChart c)),(1,.cells (cTk t))],n:=2 }
def tbE12_rsold:=vj @ty3 (vj @ty26 (vj @ty28 (vj @ty34 (vj @ty49 (vj @ty81 (vj @ti3.eq_1 (vj @ti26.eq_1 (vj @ti28.eq_1 (vj @ti34.eq_1 (vj @ti49.eq_1 @ti81.eq_1))))))))))
def xbE12_1:=vj @aI.eq_1 (@aB.eq_1)
theorem rsold_fn (c:Chart) (t:Tk) (l:List Tk) (hc:CarOk c) (hl:l.length≤100):FnV Try.prog 116 [aChart c,aTk t,aTks l] (aI (ticketE c t l)):=by
  have env:Env (fun _=>True) Try.prog tyB (tab [(81,valE true sbetw),(73,valE true sisBunk),(137,valE true srway),(138,valE true srmeet),(139,valE true srtog)]):=mkEnv ⟨ebetw,eisBunk,erway,ermeet,ertog,trivial⟩
  refine Fn.of (A:=fun _=>True) (n0:=0) (D:=noD) (Fn0 Try.func116 rfl (fun vs w=>by kernel_rfl) (by kernel_rfl)) (by simp) (by simp [AV.ids,AV.idsL,aChart,cChart,aTk,cTk,aTks]) (fun i o h=>by cases h) (fun _ _ _ _=>trivial) noD_ok ?_
  have et:(⟨t.party,t.sex,t.cab,t.bed,t.frm,t.to,t.dog⟩:Tk)=t:=rfl
  have ec:(⟨c.cabins,c.secs,c.sold⟩:Chart)=c:=rfl
  have eb:(⟨t.cab,t.bed⟩:Bunk)=⟨t.cab,t.bed⟩:=rfl
  have hc':=hc
  cases h1:inB t.party 1 99
  · rw [show ticketE c t l=1 by simp [ticketE,h1]]
    repeat' (first|(apply nx;with_reducible constructor)|refine uq (by decide) ?_|((first|refine vx env fun Q hQ=>?_|refine vz fun Q hQ=>?_);simp only [vkt,seval,tbE12_rsold,xbE12_1,aBunk,aTk,cTk,aTks,eTk,gTk,mTk,mCabin,aChart,cChart,rsA,sbetw,sisBunk,srway,srmeet,srtog,List.length_map,h1,et,ec];(try simp only [ite_and]);(repeat' (first|with_reducible assumption|refine And.intro ?_ ?_|intro hp));all_goals (first|(refine hQ _ ?_;clear hQ Q)|(refine hQ _ (fun h=>?_) (fun h=>?_) <;> clear hQ Q <;> (try simp only [vki,reduceCtorEq] at h))|(refine vq ?_;kernel_rfl)|omega|assumption|with_reducible rfl|skip)))
    (simp only [vrt,Try.results116,vkt,seval,tbE12_rsold,xbE12_1,aBunk,aTk,cTk,aTks,eTk,gTk,mTk,mCabin,aChart,cChart,rsA,sbetw,sisBunk,srway,srmeet,srtog,List.length_map];refine Fin.val rfl ?_;(try simp only [AV.le,AV.leL]))
    all_goals first|rfl|(simp;done)
  cases h2:inB t.sex 1 2
  · rw [show ticketE c t l=8 by simp [ticketE,h1,h2]]
    repeat' (first|(apply nx;with_reducible constructor)|refine uq (by decide) ?_|((first|refine vx env fun Q hQ=>?_|refine vz fun Q hQ=>?_);simp only [vkt,seval,tbE12_rsold,xbE12_1,aBunk,aTk,cTk,aTks,eTk,gTk,mTk,mCabin,aChart,cChart,rsA,sbetw,sisBunk,srway,srmeet,srtog,List.length_map,h1,h2,et,ec];(try simp only [ite_and]);(repeat' (first|with_reducible assumption|refine And.intro ?_ ?_|intro hp));all_goals (first|(refine hQ _ ?_;clear hQ Q)|(refine hQ _ (fun h=>?_) (fun h=>?_) <;> clear hQ Q <;> (try simp only [vki,reduceCtorEq] at h))|(refine vq ?_;kernel_rfl)|omega|assumption|with_reducible rfl|skip)))
    (simp only [vrt,Try.results116,vkt,seval,tbE12_rsold,xbE12_1,aBunk,aTk,cTk,aTks,eTk,gTk,mTk,mCabin,aChart,cChart,rsA,sbetw,sisBunk,srway,srmeet,srtog,List.length_map];refine Fin.val rfl ?_;(try simp only [AV.le,AV.leL]))
    all_goals first|rfl|(simp;done)
  cases h3:isBunkB c.cabins t.cab t.bed
  · rw [show ticketE c t l=3 by simp [ticketE,h1,h2,h3]]
    repeat' (first|(apply nx;with_reducible constructor)|refine uq (by decide) ?_|((first|refine vx env fun Q hQ=>?_|refine vz fun Q hQ=>?_);simp only [vkt,seval,tbE12_rsold,xbE12_1,aBunk,aTk,cTk,aTks,eTk,gTk,mTk,mCabin,aChart,cChart,rsA,sbetw,sisBunk,srway,srmeet,srtog,List.length_map,h1,h2,h3,et,ec];(try simp only [ite_and]);(repeat' (first|with_reducible assumption|refine And.intro ?_ ?_|intro hp));all_goals (first|(refine hQ _ ?_;clear hQ Q)|(refine hQ _ (fun h=>?_) (fun h=>?_) <;> clear hQ Q <;> (try simp only [vki,reduceCtorEq] at h))|(refine vq ?_;kernel_rfl)|omega|assumption|with_reducible rfl|skip)))
    (simp only [vrt,Try.results116,vkt,seval,tbE12_rsold,xbE12_1,aBunk,aTk,cTk,aTks,eTk,gTk,mTk,mCabin,aChart,cChart,rsA,sbetw,sisBunk,srway,srmeet,srtog,List.length_map];refine Fin.val rfl ?_;(try simp only [AV.le,AV.leL]))
    all_goals first|rfl|(simp;done)
  have hr:ticketE c t l=if wayE c.secs t.frm t.to ≠ 0 then wayE c.secs t.frm t.to else besideE t l:=by unfold ticketE;simp [h1,h2,h3]
  rw [hr]
  obtain ⟨w,hw⟩:∃ w,wayE c.secs t.frm t.to=w:=⟨_,rfl⟩
  rw [hw]
  by_cases h5:w=0
  · rw [if_neg (fun h=>h h5)]
    rw [h5] at hw
    unfold besideE
    repeat' (first|(apply nx;with_reducible constructor)|refine uq (by decide) ?_|((first|refine vx env fun Q hQ=>?_|refine vz fun Q hQ=>?_);simp only [vkt,seval,tbE12_rsold,xbE12_1,aBunk,aTk,cTk,aTks,eTk,gTk,mTk,mCabin,aChart,cChart,rsA,sbetw,sisBunk,srway,srmeet,srtog,List.length_map,h1,h2,h3,hw,et,ec,decide_true];(try simp only [ite_and]);(repeat' (first|with_reducible assumption|refine And.intro ?_ ?_|intro hp));all_goals (first|(refine hQ _ ?_;clear hQ Q)|(refine hQ _ (fun h=>?_) (fun h=>?_) <;> clear hQ Q <;> (try simp only [vki,reduceCtorEq] at h))|(refine vq ?_;kernel_rfl)|omega|assumption|with_reducible rfl|skip)))
    refine sym_loop (fun k:{ k:Nat // k≤l.length∧∀ j,j < k→twiceB t (l.getD j default)=false }=>rsA c t l [(8,aI k.1)]) (fun k=>l.length - k.1) ⟨0,Nat.zero_le _,fun j h=>absurd h (Nat.not_lt_zero _)⟩ ?_ fun ⟨k,hk,hno⟩=>?_
    · simp only [rsA,List.cons_append,List.nil_append]
      (refine Le.ok some [] ?_;constructor;all_goals (try simp only [vle,vkt,seval,tbE12_rsold,xbE12_1,aBunk,aTk,cTk,aTks,eTk,gTk,mTk,mCabin,aChart,cChart,rsA,sbetw,sisBunk,srway,srmeet,srtog,List.length_map]))
      all_goals first|rfl|(simp;done)
    simp only at hk hno ⊢
    simp only [rsA,List.cons_append,List.nil_append]
    by_cases hkl:k < l.length
    · have d1:decide ((k:Int) < (l.length:Int))=true:=decide_eq_true (by omega)
      have e9:IntKind.wrap .i64 ((k:Int)+1)=((k+1:Nat):Int):=by rw [wrap64 (by omega) (by omega)];rfl
      have k0:((k:Int)).toNat=k:=rfl
      obtain ⟨x,hx⟩:∃ x,l.getD k default=x:=⟨_,rfl⟩
      have ex:(⟨x.party,x.sex,x.cab,x.bed,x.frm,x.to,x.dog⟩:Tk)=x:=rfl
      have hT:twiceB t x=(decide (x.cab=t.cab) && decide (x.bed=t.bed) && meetB x t):=rfl
      cases q1:(decide (x.cab=t.cab) && decide (x.bed=t.bed)) with
      |false =>
        rw [q1,Bool.false_and] at hT
        repeat' (first|(apply nx;with_reducible constructor)|refine uq (by decide) ?_|((first|refine vx env fun Q hQ=>?_|refine vz fun Q hQ=>?_);simp only [vkt,seval,tbE12_rsold,xbE12_1,aBunk,aTk,cTk,aTks,eTk,gTk,mTk,mCabin,aChart,cChart,rsA,sbetw,sisBunk,srway,srmeet,srtog,List.length_map,d1,e9,k0,hkl,hx,q1,et,ex];(try simp only [ite_and]);(repeat' (first|with_reducible assumption|refine And.intro ?_ ?_|intro hp));all_goals (first|(refine hQ _ ?_;clear hQ Q)|(refine hQ _ (fun h=>?_) (fun h=>?_) <;> clear hQ Q <;> (try simp only [vki,reduceCtorEq] at h))|(refine vq ?_;kernel_rfl)|omega|assumption|with_reducible rfl|skip)))
        refine ⟨⟨k+1,hkl,fun j hj=>?_⟩,by show l.length - (k+1) < l.length - k;omega, ?_⟩
        · rcases Nat.lt_or_eq_of_le (Nat.le_of_lt_succ hj) with h|h
          · exact hno j h
          · rw [h,hx];exact hT
        simp only [rsA,List.cons_append,List.nil_append]
        (refine Le.ok some [] ?_;constructor;all_goals (try simp only [vle,vkt,seval,tbE12_rsold,xbE12_1,aBunk,aTk,cTk,aTks,eTk,gTk,mTk,mCabin,aChart,cChart,rsA,sbetw,sisBunk,srway,srmeet,srtog,List.length_map]))
        all_goals first|rfl|(simp;done)
      |true =>
        cases q2:meetB x t with
        |false =>
          rw [q1,q2,Bool.true_and] at hT
          repeat' (first|(apply nx;with_reducible constructor)|refine uq (by decide) ?_|((first|refine vx env fun Q hQ=>?_|refine vz fun Q hQ=>?_);simp only [vkt,seval,tbE12_rsold,xbE12_1,aBunk,aTk,cTk,aTks,eTk,gTk,mTk,mCabin,aChart,cChart,rsA,sbetw,sisBunk,srway,srmeet,srtog,List.length_map,d1,e9,k0,hkl,hx,q1,q2,et,ex];(try simp only [ite_and]);(repeat' (first|with_reducible assumption|refine And.intro ?_ ?_|intro hp));all_goals (first|(refine hQ _ ?_;clear hQ Q)|(refine hQ _ (fun h=>?_) (fun h=>?_) <;> clear hQ Q <;> (try simp only [vki,reduceCtorEq] at h))|(refine vq ?_;kernel_rfl)|omega|assumption|with_reducible rfl|skip)))
          refine ⟨⟨k+1,hkl,fun j hj=>?_⟩,by show l.length - (k+1) < l.length - k;omega, ?_⟩
          · rcases Nat.lt_or_eq_of_le (Nat.le_of_lt_succ hj) with h|h
            · exact hno j h
            · rw [h,hx];exact hT
          simp only [rsA,List.cons_append,List.nil_append]
          (refine Le.ok some [] ?_;constructor;all_goals (try simp only [vle,vkt,seval,tbE12_rsold,xbE12_1,aBunk,aTk,cTk,aTks,eTk,gTk,mTk,mCabin,aChart,cChart,rsA,sbetw,sisBunk,srway,srmeet,srtog,List.length_map]))
          all_goals first|rfl|(simp;done)
        |true =>
          rw [q1,q2,Bool.true_and] at hT
          rw [if_pos (anyHit hkl (by rw [hx];exact hT))]
          repeat' (first|(apply nx;with_reducible constructor)|refine uq (by decide) ?_|((first|refine vx env fun Q hQ=>?_|refine vz fun Q hQ=>?_);simp only [vkt,seval,tbE12_rsold,xbE12_1,aBunk,aTk,cTk,aTks,eTk,gTk,mTk,mCabin,aChart,cChart,rsA,sbetw,sisBunk,srway,srmeet,srtog,List.length_map,d1,e9,k0,hkl,hx,q1,q2,et,ex];(try simp only [ite_and]);(repeat' (first|with_reducible assumption|refine And.intro ?_ ?_|intro hp));all_goals (first|(refine hQ _ ?_;clear hQ Q)|(refine hQ _ (fun h=>?_) (fun h=>?_) <;> clear hQ Q <;> (try simp only [vki,reduceCtorEq] at h))|(refine vq ?_;kernel_rfl)|omega|assumption|with_reducible rfl|skip)))
          (simp only [vrt,Try.results116,vkt,seval,tbE12_rsold,xbE12_1,aBunk,aTk,cTk,aTks,eTk,gTk,mTk,mCabin,aChart,cChart,rsA,sbetw,sisBunk,srway,srmeet,srtog,List.length_map];refine Fin.val rfl ?_;(try simp only [AV.le,AV.leL]))
          all_goals first|rfl|(simp;done)
    · have d1:decide ((k:Int) < (l.length:Int))=false:=decide_eq_false (by omega)
      obtain rfl:k=l.length:=by omega
      rw [if_neg (by rw [anyNo hno];decide)]
      repeat' (first|(apply nx;with_reducible constructor)|refine uq (by decide) ?_|((first|refine vx env fun Q hQ=>?_|refine vz fun Q hQ=>?_);simp only [vkt,seval,tbE12_rsold,xbE12_1,aBunk,aTk,cTk,aTks,eTk,gTk,mTk,mCabin,aChart,cChart,rsA,sbetw,sisBunk,srway,srmeet,srtog,List.length_map,d1];(try simp only [ite_and]);(repeat' (first|with_reducible assumption|refine And.intro ?_ ?_|intro hp));all_goals (first|(refine hQ _ ?_;clear hQ Q)|(refine hQ _ (fun h=>?_) (fun h=>?_) <;> clear hQ Q <;> (try simp only [vki,reduceCtorEq] at h))|(refine vq ?_;kernel_rfl)|omega|assumption|with_reducible rfl|skip)))
      refine sym_loop (fun k:{ k:Nat // k≤l.length∧∀ j,j < k→(!togB (l.getD j default) t)=false }=>rsA c t l [(9,aI k.1)]) (fun k=>l.length - k.1) ⟨0,Nat.zero_le _,fun j h=>absurd h (Nat.not_lt_zero _)⟩ ?_ fun ⟨k,hk,hno⟩=>?_
      · simp only [rsA,List.cons_append,List.nil_append]
        (refine Le.ok some [] ?_;constructor;all_goals (try simp only [vle,vkt,seval,tbE12_rsold,xbE12_1,aBunk,aTk,cTk,aTks,eTk,gTk,mTk,mCabin,aChart,cChart,rsA,sbetw,sisBunk,srway,srmeet,srtog,List.length_map]))
        all_goals first|rfl|(simp;done)
      simp only at hk hno ⊢
      simp only [rsA,List.cons_append,List.nil_append]
      by_cases hkl:k < l.length
      · have d1:decide ((k:Int) < (l.length:Int))=true:=decide_eq_true (by omega)
        have e9:IntKind.wrap .i64 ((k:Int)+1)=((k+1:Nat):Int):=by rw [wrap64 (by omega) (by omega)];rfl
        have k0:((k:Int)).toNat=k:=rfl
        obtain ⟨x,hx⟩:∃ x,l.getD k default=x:=⟨_,rfl⟩
        have ex:(⟨x.party,x.sex,x.cab,x.bed,x.frm,x.to,x.dog⟩:Tk)=x:=rfl
        cases q2:togB x t with
        |true =>
          repeat' (first|(apply nx;with_reducible constructor)|refine uq (by decide) ?_|((first|refine vx env fun Q hQ=>?_|refine vz fun Q hQ=>?_);simp only [vkt,seval,tbE12_rsold,xbE12_1,aBunk,aTk,cTk,aTks,eTk,gTk,mTk,mCabin,aChart,cChart,rsA,sbetw,sisBunk,srway,srmeet,srtog,List.length_map,d1,e9,k0,hkl,hx,q2,et,ex];(try simp only [ite_and]);(repeat' (first|with_reducible assumption|refine And.intro ?_ ?_|intro hp));all_goals (first|(refine hQ _ ?_;clear hQ Q)|(refine hQ _ (fun h=>?_) (fun h=>?_) <;> clear hQ Q <;> (try simp only [vki,reduceCtorEq] at h))|(refine vq ?_;kernel_rfl)|omega|assumption|with_reducible rfl|skip)))
          refine ⟨⟨k+1,hkl,fun j hj=>?_⟩,by show l.length - (k+1) < l.length - k;omega, ?_⟩
          · rcases Nat.lt_or_eq_of_le (Nat.le_of_lt_succ hj) with h|h
            · exact hno j h
            · rw [h,hx,q2];rfl
          simp only [rsA,List.cons_append,List.nil_append]
          (refine Le.ok some [] ?_;constructor;all_goals (try simp only [vle,vkt,seval,tbE12_rsold,xbE12_1,aBunk,aTk,cTk,aTks,eTk,gTk,mTk,mCabin,aChart,cChart,rsA,sbetw,sisBunk,srway,srmeet,srtog,List.length_map]))
          all_goals first|rfl|(simp;done)
        |false =>
          rw [if_pos (anyHit (p:=fun x=>!togB x t) hkl (by rw [hx,q2];rfl))]
          repeat' (first|(apply nx;with_reducible constructor)|refine uq (by decide) ?_|((first|refine vx env fun Q hQ=>?_|refine vz fun Q hQ=>?_);simp only [vkt,seval,tbE12_rsold,xbE12_1,aBunk,aTk,cTk,aTks,eTk,gTk,mTk,mCabin,aChart,cChart,rsA,sbetw,sisBunk,srway,srmeet,srtog,List.length_map,d1,e9,k0,hkl,hx,q2,et,ex];(try simp only [ite_and]);(repeat' (first|with_reducible assumption|refine And.intro ?_ ?_|intro hp));all_goals (first|(refine hQ _ ?_;clear hQ Q)|(refine hQ _ (fun h=>?_) (fun h=>?_) <;> clear hQ Q <;> (try simp only [vki,reduceCtorEq] at h))|(refine vq ?_;kernel_rfl)|omega|assumption|with_reducible rfl|skip)))
          (simp only [vrt,Try.results116,vkt,seval,tbE12_rsold,xbE12_1,aBunk,aTk,cTk,aTks,eTk,gTk,mTk,mCabin,aChart,cChart,rsA,sbetw,sisBunk,srway,srmeet,srtog,List.length_map];refine Fin.val rfl ?_;(try simp only [AV.le,AV.leL]))
          all_goals first|rfl|(simp;done)
      · have d1:decide ((k:Int) < (l.length:Int))=false:=decide_eq_false (by omega)
        obtain rfl:k=l.length:=by omega
        rw [if_neg (by rw [anyNo (p:=fun x=>!togB x t) hno];decide)]
        repeat' (first|(apply nx;with_reducible constructor)|refine uq (by decide) ?_|((first|refine vx env fun Q hQ=>?_|refine vz fun Q hQ=>?_);simp only [vkt,seval,tbE12_rsold,xbE12_1,aBunk,aTk,cTk,aTks,eTk,gTk,mTk,mCabin,aChart,cChart,rsA,sbetw,sisBunk,srway,srmeet,srtog,List.length_map,d1];(try simp only [ite_and]);(repeat' (first|with_reducible assumption|refine And.intro ?_ ?_|intro hp));all_goals (first|(refine hQ _ ?_;clear hQ Q)|(refine hQ _ (fun h=>?_) (fun h=>?_) <;> clear hQ Q <;> (try simp only [vki,reduceCtorEq] at h))|(refine vq ?_;kernel_rfl)|omega|assumption|with_reducible rfl|skip)))
        (simp only [vrt,Try.results116,vkt,seval,tbE12_rsold,xbE12_1,aBunk,aTk,cTk,aTks,eTk,gTk,mTk,mCabin,aChart,cChart,rsA,sbetw,sisBunk,srway,srmeet,srtog,List.length_map];refine Fin.val rfl ?_;(try simp only [AV.le,AV.leL]))
        all_goals first|rfl|(simp;done)
  · rw [if_pos h5]
    have d5:decide (w=0)=false:=decide_eq_false h5
    repeat' (first|(apply nx;with_reducible constructor)|refine uq (by decide) ?_|((first|refine vx env fun Q hQ=>?_|refine vz fun Q hQ=>?_);simp only [vkt,seval,tbE12_rsold,xbE12_1,aBunk,aTk,cTk,aTks,eTk,gTk,mTk,mCabin,aChart,cChart,rsA,sbetw,sisBunk,srway,srmeet,srtog,List.length_map,h1,h2,h3,hw,d5,et,ec];(try simp only [ite_and]);(repeat' (first|with_reducible assumption|refine And.intro ?_ ?_|intro hp));all_goals (first|(refine hQ _ ?_;clear hQ Q)|(refine hQ _ (fun h=>?_) (fun h=>?_) <;> clear hQ Q <;> (try simp only [vki,reduceCtorEq] at h))|(refine vq ?_;kernel_rfl)|omega|assumption|with_reducible rfl|skip)))
    (simp only [vrt,Try.results116,vkt,seval,tbE12_rsold,xbE12_1,aBunk,aTk,cTk,aTks,eTk,gTk,mTk,mCabin,aChart,cChart,rsA,sbetw,sisBunk,srway,srmeet,srtog,List.length_map];refine Fin.val rfl ?_;(try simp only [AV.le,AV.leL]))
    all_goals first|rfl|(simp;done)
def srsold:List AV→Prop × AV
  |[.agg [.sl c0,.v (.int .i64 c1),.sl c2],.agg [.v (.int .i64 t0),.v (.int .i64 t1),.v (.int .i64 t2),.v (.int .i64 t3),.v (.int .i64 t4),.v (.int .i64 t5),.v (.bool t6)],.sl l]=>(c0=(c0.map dCabin).map eCabin∧c2=(c2.map dTk).map eTk∧l=(l.map dTk).map eTk∧CarOk ((⟨(c0.map dCabin),c1,(c2.map dTk)⟩:Chart))∧(l.map dTk).length≤100,aI (ticketE ((⟨(c0.map dCabin),c1,(c2.map dTk)⟩:Chart)) (⟨t0,t1,t2,t3,t4,t5,t6⟩:Tk) (l.map dTk)))
  |_=>(False,.junk)
theorem ersold {A:Frm→Prop}:EntryOK A Try.prog 116 (valE true srsold):=valE_ok fun vs hv h=>by
  clear hv
  unfold srsold at h ⊢
  split at h
  · rename_i c0 c1 c2 t0 t1 t2 t3 t4 t5 t6 l;obtain ⟨q0,q1,q2,k0,k1⟩:=h
    refine ⟨by first|trivial|(simp [AV.plain,AV.plainL,aI,aB,aInts,aBunks,aTks,aBunk,aTk,cTk];done)|(repeat' split) <;> simp [AV.plain,AV.plainL,aI,aB,aInts,aBunks,aTks,aBunk,aTk,cTk],fun _=>(by simp [AV.flat,AV.flatL,aI,aB]), ?_⟩
    have:=rsold_fn ((⟨(c0.map dCabin),c1,(c2.map dTk)⟩:Chart)) (⟨t0,t1,t2,t3,t4,t5,t6⟩:Tk) (l.map dTk) k0 k1
    simp only [aB,aCabins,aChart,aI,aTk,aTks,cChart,cTk,← q0,← q1,← q2] at this
    first|exact this|(simp only [aB,aCabins,aChart,aI,aTk,aTks,cChart,cTk,← q0,← q1,← q2];exact this)
  · exact h.elim
def rkS (c:Chart) (l:List Tk) (k:Nat):St:={ t:=asg [(1,aTks l),(2,.ptr 0 0),(4,aI 0),(5,aI k)],h:=hasg [(0,.cells (cChart c))],n:=1 }
def tbE12_rtks:=vj @ty3 (vj @ty26 (vj @ty28 (vj @ty34 (vj @ty81 (vj @ti3.eq_1 (vj @ti26.eq_1 (vj @ti28.eq_1 (vj @ti34.eq_1 @ti81.eq_1))))))))
def xbE12_2:=vj @aI.eq_1 (@aB.eq_1)
theorem rtks_fn (c:Chart) (l:List Tk) (hc:CarOk c) (hl:l.length≤100):FnV Try.prog 74 [aChart c,aTks l] (aI (ticketsE c l)):=by
  have env:Env (fun _=>True) Try.prog tyB (tab [(116,valE true srsold)]):=mkEnv ⟨ersold,trivial⟩
  refine Fn.of (A:=fun _=>True) (n0:=0) (D:=noD) (Fn0 Try.func74 rfl (fun vs w=>by kernel_rfl) (by kernel_rfl)) (by simp) (by simp [AV.ids,AV.idsL,aChart,cChart,aTks]) (fun i o h=>by cases h) (fun _ _ _ _=>trivial) noD_ok ?_
  have ec:(⟨c.cabins,c.secs,c.sold⟩:Chart)=c:=rfl
  repeat' (first|(apply nx;with_reducible constructor)|refine uq (by decide) ?_|((first|refine vx env fun Q hQ=>?_|refine vz fun Q hQ=>?_);simp only [vkt,seval,tbE12_rtks,xbE12_2,aTk,cTk,aTks,eTk,gTk,rTk,mTk,mCabin,aChart,cChart,rkS,srsold,List.length_map];(try simp only [ite_and]);(repeat' (first|with_reducible assumption|refine And.intro ?_ ?_|intro hp));all_goals (first|(refine hQ _ ?_;clear hQ Q)|(refine hQ _ (fun h=>?_) (fun h=>?_) <;> clear hQ Q <;> (try simp only [vki,reduceCtorEq] at h))|(refine vq ?_;kernel_rfl)|omega|assumption|with_reducible rfl|skip)))
  refine sym_loop (fun k:{ k:Nat // k≤l.length∧∀ j,j < k→ticketE c (l.getD j default) (l.take j)=0 }=>rkS c l k.1) (fun k=>l.length - k.1) ⟨0,Nat.zero_le _,fun j h=>absurd h (Nat.not_lt_zero _)⟩ ?_ fun ⟨k,hk,hno⟩=>?_
  · (refine Le.ok some [] ?_;constructor;all_goals (try simp only [vle,vkt,seval,tbE12_rtks,xbE12_2,aTk,cTk,aTks,eTk,gTk,rTk,mTk,mCabin,aChart,cChart,rkS,srsold,List.length_map]))
    all_goals first|rfl|(simp;done)
  simp only at hk hno ⊢
  simp only [rkS]
  by_cases hlt:k < l.length
  · have d1:decide ((k:Int) < (l.length:Int))=true:=decide_eq_true (by omega)
    have e9:IntKind.wrap .i64 ((k:Int)+1)=((k+1:Nat):Int):=by rw [wrap64 (by omega) (by omega)];rfl
    have k0:((k:Int)).toNat=k:=rfl
    obtain ⟨x,hx⟩:∃ x,l.getD k default=x:=⟨_,rfl⟩
    have ex:(⟨x.party,x.sex,x.cab,x.bed,x.frm,x.to,x.dog⟩:Tk)=x:=rfl
    have tk:List.take k (l.map eTk)=(l.take k).map eTk:=List.map_take.symm
    have t100:(l.take k).length≤100:=by rw [List.length_take];omega
    have hkl:k≤l.length:=hk
    have hg:=rngD (f:=fun i=>ticketE c (l.getD i default) (l.take i)) hlt
    obtain ⟨e,he⟩:∃ e,ticketE c x (l.take k)=e:=⟨_,rfl⟩
    by_cases h2:e=0
    · rw [h2] at he
      repeat' (first|(apply nx;with_reducible constructor)|refine uq (by decide) ?_|((first|refine vx env fun Q hQ=>?_|refine vz fun Q hQ=>?_);simp only [vkt,seval,tbE12_rtks,xbE12_2,aTk,cTk,aTks,eTk,gTk,rTk,mTk,mCabin,aChart,cChart,rkS,srsold,List.length_map,d1,k0,hlt,hkl,hx,ex,ec,tk,he,e9,decide_true];(try simp only [ite_and]);(repeat' (first|with_reducible assumption|refine And.intro ?_ ?_|intro hp));all_goals (first|(refine hQ _ ?_;clear hQ Q)|(refine hQ _ (fun h=>?_) (fun h=>?_) <;> clear hQ Q <;> (try simp only [vki,reduceCtorEq] at h))|(refine vq ?_;kernel_rfl)|omega|assumption|with_reducible rfl|skip)))
      refine ⟨⟨k+1,hlt,fun j hj=>?_⟩,by show l.length - (k+1) < l.length - k;omega, ?_⟩
      · rcases Nat.lt_or_eq_of_le (Nat.le_of_lt_succ hj) with h3|h3
        · exact hno j h3
        · rw [h3,hx];exact he
      · (refine Le.ok some [] ?_;constructor;all_goals (try simp only [vle,vkt,seval,tbE12_rtks,xbE12_2,aTk,cTk,aTks,eTk,gTk,rTk,mTk,mCabin,aChart,cChart,rkS,srsold,List.length_map]))
        all_goals first|rfl|(simp;done)
    · have hf:ticketsE c l=e:=by
        unfold ticketsE
        rw [firstE_take (k:=k) (fun j hj=>by rw [rngD (by omega)];exact hno j hj) (by simpa using hlt) (by rw [hg,hx,he];exact h2),hg,hx,he]
      rw [hf]
      have d2:decide (e=0)=false:=decide_eq_false h2
      repeat' (first|(apply nx;with_reducible constructor)|refine uq (by decide) ?_|((first|refine vx env fun Q hQ=>?_|refine vz fun Q hQ=>?_);simp only [vkt,seval,tbE12_rtks,xbE12_2,aTk,cTk,aTks,eTk,gTk,rTk,mTk,mCabin,aChart,cChart,rkS,srsold,List.length_map,d1,k0,hlt,hkl,hx,ex,ec,tk,he,d2];(try simp only [ite_and]);(repeat' (first|with_reducible assumption|refine And.intro ?_ ?_|intro hp));all_goals (first|(refine hQ _ ?_;clear hQ Q)|(refine hQ _ (fun h=>?_) (fun h=>?_) <;> clear hQ Q <;> (try simp only [vki,reduceCtorEq] at h))|(refine vq ?_;kernel_rfl)|omega|assumption|with_reducible rfl|skip)))
      (simp only [vrt,Try.results74,vkt,seval,tbE12_rtks,xbE12_2,aTk,cTk,aTks,eTk,gTk,rTk,mTk,mCabin,aChart,cChart,rkS,srsold,List.length_map];refine Fin.val rfl ?_;(try simp only [AV.le,AV.leL]))
      all_goals first|rfl|(simp;done)
  · have d1:decide ((k:Int) < (l.length:Int))=false:=decide_eq_false (by omega)
    have hke:k=l.length:=by omega
    subst hke
    rw [show ticketsE c l=0 from firstE_all fun j hj=>by
      have hj':j < l.length:=by simpa using hj
      rw [rngD hj'];exact hno j hj']
    repeat' (first|(apply nx;with_reducible constructor)|refine uq (by decide) ?_|((first|refine vx env fun Q hQ=>?_|refine vz fun Q hQ=>?_);simp only [vkt,seval,tbE12_rtks,xbE12_2,aTk,cTk,aTks,eTk,gTk,rTk,mTk,mCabin,aChart,cChart,rkS,srsold,List.length_map,d1];(try simp only [ite_and]);(repeat' (first|with_reducible assumption|refine And.intro ?_ ?_|intro hp));all_goals (first|(refine hQ _ ?_;clear hQ Q)|(refine hQ _ (fun h=>?_) (fun h=>?_) <;> clear hQ Q <;> (try simp only [vki,reduceCtorEq] at h))|(refine vq ?_;kernel_rfl)|omega|assumption|with_reducible rfl|skip)))
    (simp only [vrt,Try.results74,vkt,seval,tbE12_rtks,xbE12_2,aTk,cTk,aTks,eTk,gTk,rTk,mTk,mCabin,aChart,cChart,rkS,srsold,List.length_map];refine Fin.val rfl ?_;(try simp only [AV.le,AV.leL]))
    all_goals first|rfl|(simp;done)
def srtks:List AV→Prop × AV
  |[.agg [.sl c0,.v (.int .i64 c1),.sl c2],.sl l]=>(c0=(c0.map dCabin).map eCabin∧c2=(c2.map dTk).map eTk∧l=(l.map dTk).map eTk∧CarOk ((⟨(c0.map dCabin),c1,(c2.map dTk)⟩:Chart))∧(l.map dTk).length≤100,aI (ticketsE ((⟨(c0.map dCabin),c1,(c2.map dTk)⟩:Chart)) (l.map dTk)))
  |_=>(False,.junk)
theorem ertks {A:Frm→Prop}:EntryOK A Try.prog 74 (valE true srtks):=valE_ok fun vs hv h=>by
  clear hv
  unfold srtks at h ⊢
  split at h
  · rename_i c0 c1 c2 l;obtain ⟨q0,q1,q2,k0,k1⟩:=h
    refine ⟨by first|trivial|(simp [AV.plain,AV.plainL,aI,aB,aInts,aBunks,aTks,aBunk,aTk,cTk];done)|(repeat' split) <;> simp [AV.plain,AV.plainL,aI,aB,aInts,aBunks,aTks,aBunk,aTk,cTk],fun _=>(by simp [AV.flat,AV.flatL,aI,aB]), ?_⟩
    have:=rtks_fn ((⟨(c0.map dCabin),c1,(c2.map dTk)⟩:Chart)) (l.map dTk) k0 k1
    simp only [aCabins,aChart,aI,aTks,cChart,← q0,← q1,← q2] at this
    first|exact this|(simp only [aCabins,aChart,aI,aTks,cChart,← q0,← q1,← q2];exact this)
  · exact h.elim
end Go.Sym.B
namespace Go.Sym.B
open Go Go.Sym Go.Proofs Go.Sym.C
end Go.Sym.B
namespace Go.Sym.B
open Go Go.Sym Go.Proofs Go.Sym.C
end Go.Sym.B
namespace Go.Sym.B
open Go Go.Sym Go.Proofs Go.Sym.C
end Go.Sym.B
namespace Go.Sym.B
open Go Go.Sym Go.Proofs Go.Sym.C
end Go.Sym.B
namespace Go.Sym.B
open Go Go.Sym Go.Proofs Go.Sym.C
def tbE20_copied:=vj @ty25 (vj @ty26 (vj @ty28 (vj @ty51 (vj @ty81 (vj @ti25.eq_1 (vj @ti26.eq_1 (vj @ti28.eq_1 (vj @ti51.eq_1 @ti81.eq_1))))))))
def xbE20_5:=vj @aI.eq_1 (@aB.eq_1)
theorem copied_fn (cs ts:List (List DV)) (s:Int) (h1:rowsOK 2 cs) (h2:rowsOK 7 ts) (h3:cs.length≤100000) (h4:ts.length≤100000):Fn noB Try.prog 88 [.agg [.sl cs,.v (.int .i64 s),.sl ts]] noH (.agg [.row 0,.v (.int .i64 s),.row 1]) (hasg [(0,.row 51 2 cs),(1,.row 81 7 ts)]) 0:=by
  have env:Env (fun _=>True) Try.prog tyB (tab []):=mkEnv trivial
  obtain ⟨b1,b2,b3,b5,b4⟩:=b47 h3
  obtain ⟨c1,c2,c3,c5,c4⟩:=b47 h4
  refine Fn.of (A:=fun _=>True) (n0:=0) (D:=noD) (Fn0 Try.func88 rfl (fun vs w=>by kernel_rfl) (by kernel_rfl)) (by simp) (by simp [AV.ids,AV.idsL]) (fun i o h=>by cases h) (fun _ _ _ _=>trivial) noD_ok ?_
  repeat' (first|(apply nx;with_reducible constructor)|refine uq (by decide) ?_|((first|refine vx env fun Q hQ=>?_|refine vz fun Q hQ=>?_);simp only [vkt,seval,tbE20_copied,xbE20_5,aChart,cChart,rTk,rCabin,List.nil_append,h1,h2];(try simp only [ite_and]);(repeat' (first|with_reducible assumption|refine And.intro ?_ ?_|intro hp));all_goals (first|(refine hQ _ ?_;clear hQ Q)|(refine hQ _ (fun h=>?_) (fun h=>?_) <;> clear hQ Q <;> (try simp only [vki,reduceCtorEq] at h))|(refine vq ?_;kernel_rfl)|omega|assumption|with_reducible rfl|skip)))
  (simp only [vrt,Try.results88,vkt,seval,tbE20_copied,xbE20_5,aChart,cChart,rTk,rCabin,List.nil_append];refine Fin.ok (fun j=>[2,3][j]?) [] ?_ ?_ ?_ ?_ ?_ rfl;all_goals (try simp only [vle,vkt,seval,tbE20_copied,xbE20_5,aChart,cChart,rTk,rCabin,List.nil_append]))
  all_goals first|rfl|(simp;done)
def pCopied (_:St):List AV→Option Pk
  |[.agg [.sl cs,.v (.int .i64 s),.sl ts]]=>some { pre:=rowsOK 2 cs∧rowsOK 7 ts∧cs.length≤100000∧ts.length≤100000,ar:=[.agg [.sl cs,.v (.int .i64 s),.sl ts]],v:=.agg [.row 0,.v (.int .i64 s),.row 1],L1:=[some (.row 51 2 cs),some (.row 81 7 ts)] }
  |_=>none
theorem eCopied {A:Frm→Prop}:EntryOK A Try.prog 88 (fnE pCopied):=fnE_ok fun S bs q h hp=>by
  unfold pCopied at h
  split at h
  · cases h;exact copied_fn _ _ _ hp.1 hp.2.1 hp.2.2.1 hp.2.2.2
  · cases h
end Go.Sym.B
namespace Go.Sym.B
open Go Go.Sym Go.Proofs Go.Sym.C
end Go.Sym.B
namespace Go.Sym.B
open Go Go.Sym Go.Proofs Go.Sym.C
end Go.Sym.B
namespace Go.Sym.B
open Go Go.Sym Go.Proofs Go.Sym.C
end Go.Sym.B
namespace Go.Sym.B
open Go Go.Sym Go.Proofs Go.Sym.C
end Go.Sym.B
namespace Go.Sym.B
open Go Go.Sym Go.Proofs Go.Sym.C
end Go.Sym.B
namespace Go.Sym.B
open Go Go.Sym Go.Proofs Go.Sym.C
end Go.Sym.B
namespace Go.Sym.B
open Go Go.Sym Go.Proofs Go.Sym.C
end Go.Sym.B
namespace Go.Sym.B
open Go Go.Sym Go.Proofs Go.Sym.C
end Go.Sym.B
namespace Go.Sym.B
open Go Go.Sym Go.Proofs Go.Sym.C
end Go.Sym.B
namespace Go.Sym.B
open Go Go.Sym Go.Proofs Go.Sym.C
def sfA:List Tk→List Tr→Option (List Tk)
  |sold,[]=>some sold
  |sold,t :: r=>if (sold.getD t.ticket.toNat default).bunk=⟨t.cab,t.bed⟩ then none else sfA (putB sold t.ticket.toNat ⟨t.cab,t.bed⟩) r
theorem fs_some {α β:Type} {f:α→Option β}:∀ {l:List α} {b:β},l.findSome? f=some b→∃ x ∈ l,f x=some b
  |[],b,h=>by simp at h
  |x :: l,b,h=>by
    rw [List.findSome?_cons] at h
    split at h
    · rename_i v hv
      cases h
      exact ⟨x,List.mem_cons_self ..,hv⟩
    · obtain ⟨y,hy,h2⟩:=fs_some h
      exact ⟨y,List.mem_cons_of_mem _ hy,h2⟩
theorem fs_none {α β:Type} {f:α→Option β} {l:List α}:l.findSome? f=none ↔ ∀ x ∈ l,f x=none:=by
  rw [List.findSome?_eq_none_iff]
theorem shift_sf {cs:List Cabin} {s:Int} {a:Ask}:∀ {ts:List Int} {sold:List Tk} {l:List Tr},shiftA cs s a ts sold=some l→l.map (·.ticket)=ts∧∃ sold',sfA sold l=some sold'∧checkE ⟨cs,s,sold'⟩=0∧plP ⟨cs,s,sold'⟩ a ≠ []
  |[],sold,l,h=>by
    unfold shiftA at h
    split at h
    · rename_i h1
      cases h
      exact ⟨rfl,sold,rfl,h1⟩
    · cases h
  |n :: r,sold,l,h=>by
    unfold shiftA at h
    obtain ⟨b,hb,h2⟩:=fs_some h
    split at h2
    · cases h2
    rename_i hne
    obtain ⟨l',h3,rfl⟩:=Option.map_eq_some_iff.1 h2
    obtain ⟨g1,sold',g2,g3⟩:=shift_sf h3
    refine ⟨by rw [List.map_cons,g1],sold', ?_,g3⟩
    rw [sfA,if_neg (fun h=>hne (by rw [h])),← g2]
def Asc (l:List Int):Prop:=∀ i j,i < j→j < l.length→l.getD i 0 < l.getD j 0
theorem asc_pair {l:List Int}:Asc l ↔ l.Pairwise (· < ·):=by
  rw [List.pairwise_iff_getElem]
  constructor
  · intro h i j hi hj hij
    have:=h i j hij hj
    simpa [List.getD_eq_getElem?_getD,hi,hj] using this
  · intro h i j hij hj
    have:=h i j (by omega) hj hij
    simpa [List.getD_eq_getElem?_getD,show i < l.length by omega,hj] using this
theorem lone_asc (sold:List Tk):Asc (loneL sold):=by
  rw [asc_pair]
  unfold loneL
  rw [List.pairwise_map]
  refine List.Pairwise.imp (fun {a b} h=>by omega) (List.Pairwise.filter _ List.pairwise_lt_range)
theorem lone_bd {sold:List Tk}:∀ n ∈ loneL sold,0≤n∧n.toNat < sold.length:=by
  intro n hn
  unfold loneL at hn
  obtain ⟨i,hi,rfl⟩:=List.mem_map.1 hn
  have:=List.mem_range.1 (List.mem_filter.1 hi).1
  exact ⟨by omega,by simpa using this⟩
theorem subs_asc {n:Nat}:∀ (m:Nat) (l:List Int) (f:Nat),(∀ x ∈ l,0≤x∧x < f)→f≤n→l.Pairwise (· < ·)→∀ r ∈ subsF n m l f,r.length=l.length+m∧r.Pairwise (· < ·)∧∀ x ∈ r,0≤x∧x < n
  |0,l,f,h1,hf,h2,r,hr=>by
    rw [subsF,List.mem_singleton] at hr
    subst hr
    exact ⟨rfl,h2,fun x hx=>by have:=h1 x hx;omega⟩
  |m+1,l,f,h1,hf,h2,r,hr=>by
    rw [subsF,List.mem_flatMap] at hr
    obtain ⟨k,hk,hr⟩:=hr
    have hk:=List.mem_range.1 hk
    obtain ⟨g1,g2,g3⟩:=subs_asc m (l++[((f+k:Nat):Int)]) (f+k+1) (fun x hx=>by
      rcases List.mem_append.1 hx with hx|hx
      · have:=h1 x hx;omega
      · rw [List.mem_singleton.1 hx];omega) (by omega) (by
      rw [List.pairwise_append]
      refine ⟨h2,by simp,fun a ha b hb=>?_⟩
      rw [List.mem_singleton.1 hb]
      have:=h1 a ha;omega) r hr
    exact ⟨by rw [g1,List.length_append,List.length_singleton];omega,g2,g3⟩
theorem someT_asc {c:Chart} {l:List Int} (h1:l.Pairwise (· < ·)) (h2:∀ x ∈ l,0≤x∧x < ((loneL c.sold).length:Int)):(someT c l).Pairwise (· < ·)∧∀ x ∈ someT c l,x ∈ loneL c.sold:=by
  unfold someT
  constructor
  · rw [List.pairwise_map]
    refine List.Pairwise.imp_of_mem (fun {a b} ha hb h=>?_) h1
    have h3:=h2 a ha
    have h4:=h2 b hb
    exact lone_asc c.sold _ _ (by omega) (by omega)
  · intro x hx
    obtain ⟨i,hi,rfl⟩:=List.mem_map.1 hx
    have:=h2 i hi
    exact gMem (by omega)
theorem movedN_ok {c:Chart} {a:Ask} {m:Nat} {l:List Tr} (h:movedN c a m=some l):l.length=m∧(l.map (·.ticket)).Pairwise (· < ·)∧(∀ t ∈ l,t.ticket ∈ loneL c.sold)∧∃ sold',sfA c.sold l=some sold'∧checkE ⟨c.cabins,c.secs,sold'⟩=0∧plP ⟨c.cabins,c.secs,sold'⟩ a ≠ []:=by
  unfold movedN at h
  obtain ⟨r,hr,h2⟩:=fs_some h
  obtain ⟨g1,g2,g3⟩:=subs_asc (n:=(loneL c.sold).length) m [] 0 (fun x hx=>by simp at hx) (Nat.zero_le _) List.Pairwise.nil r hr
  obtain ⟨g4,g5⟩:=shift_sf h2
  obtain ⟨g6,g7⟩:=someT_asc (c:=c) g2 g3
  rw [← g4] at g6 g7
  refine ⟨?_,g6,fun t ht=>g7 _ (List.mem_map_of_mem ht),g5⟩
  have:=congrArg List.length g4
  rw [List.length_map] at this
  rw [this]
  unfold someT
  rw [List.length_map,g1];simp
theorem moved_zero {c:Chart} {a:Ask} (h:checkE c=0):movedN c a 0=if plP c a ≠ [] then some [] else none:=by
  unfold movedN
  rw [subsF,List.findSome?_cons]
  rw [show someT c []=[] from rfl]
  unfold shiftA
  by_cases hp:plP c a ≠ []
  · rw [if_pos ⟨h,hp⟩,if_pos hp]
  · rw [if_neg (fun h=>hp h.2),if_neg hp];rfl
def oneP (c:Chart) (a:Ask):Prop:=∃ n ∈ loneL c.sold,∃ b ∈ bunksL c.cabins,(c.sold.getD n.toNat default).bunk ≠ b∧checkE ⟨c.cabins,c.secs,putB c.sold n.toNat b⟩=0∧plP ⟨c.cabins,c.secs,putB c.sold n.toNat b⟩ a ≠ []
theorem moved_one {c:Chart} {a:Ask}:movedN c a 1 ≠ none ↔ oneP c a:=by
  have hs:∀ n:Int,shiftA c.cabins c.secs a [n] c.sold ≠ none ↔ ∃ b ∈ bunksL c.cabins,(c.sold.getD n.toNat default).bunk ≠ b∧checkE ⟨c.cabins,c.secs,putB c.sold n.toNat b⟩=0∧plP ⟨c.cabins,c.secs,putB c.sold n.toNat b⟩ a ≠ []:=fun n=>by
    unfold shiftA
    rw [Ne,fs_none,Classical.not_forall]
    simp only [Classical.not_imp]
    constructor
    · rintro ⟨b,hb,h⟩
      refine ⟨b,hb, ?_⟩
      split at h
      · exact absurd rfl h
      rename_i hne
      refine ⟨fun h=>hne h.symm, ?_⟩
      unfold shiftA at h
      split at h
      · assumption
      · exact absurd rfl h
    · rintro ⟨b,hb,h1,h2⟩
      refine ⟨b,hb, ?_⟩
      rw [if_neg (fun h=>h1 h.symm)]
      unfold shiftA
      rw [if_pos h2]
      simp
  have hsub:subsF (loneL c.sold).length 1 [] 0=(List.range (loneL c.sold).length).map fun (k:Nat)=>[(k:Int)]:=by
    rw [subsF]
    have:∀ l:List Nat,(l.flatMap fun k=>subsF (loneL c.sold).length 0 ([]++[((0+k:Nat):Int)]) (0+k+1))=l.map fun (k:Nat)=>[(k:Int)]:=fun l=>by
      induction l with
      |nil=>rfl
      |cons x l ih =>
        rw [List.flatMap_cons,ih,subsF,List.map_cons,Nat.zero_add];rfl
    exact this _
  unfold movedN oneP
  rw [hsub,Ne,fs_none,Classical.not_forall]
  simp only [Classical.not_imp]
  constructor
  · rintro ⟨r,hr,h⟩
    obtain ⟨k,hk,rfl⟩:=List.mem_map.1 hr
    have hk:=List.mem_range.1 hk
    have h:¬ shiftA c.cabins c.secs a [(loneL c.sold).getD k 0] c.sold=none:=h
    exact ⟨_,gMem hk,(hs _).1 h⟩
  · rintro ⟨n,hn,h⟩
    obtain ⟨k,hk,rfl⟩:=List.mem_iff_getElem.1 hn
    refine ⟨[(k:Int)],List.mem_map.2 ⟨k,List.mem_range.2 hk,rfl⟩, ?_⟩
    show ¬ shiftA c.cabins c.secs a [(loneL c.sold).getD k 0] c.sold=none
    rw [show (loneL c.sold).getD k 0=(loneL c.sold)[k] by simp [List.getD_eq_getElem?_getD,hk]]
    exact (hs _).2 h
theorem moved_cases {c:Chart} {a:Ask} (h:bothE c a=0):(plP c a ≠ []∧movedA c a=([],0))∨(plP c a=[]∧((∃ t,movedA c a=([t],0)∧movedN c a 1=some [t])∨(¬ oneP c a∧((∃ l,movedA c a=(l,0)∧movedN c a 2=some l)∨movedA c a=([],11))))):=by
  have h0:=moved_zero (a:=a) (both_ok h).1
  have hr:List.range 3=[0,1,2]:=rfl
  have hM:movedA c a=match (List.range 3).findSome? (movedN c a) with|some t=>(t,0)|none=>([],11):=by
    unfold movedA
    rw [if_neg (fun hn=>hn h)];rfl
  rw [hM,hr,List.findSome?_cons,h0]
  by_cases hp:plP c a=[]
  · rw [if_neg (fun hn=>hn hp)]
    refine .inr ⟨hp, ?_⟩
    rw [List.findSome?_cons]
    cases h1:movedN c a 1 with
    |some l =>
      obtain ⟨g1,_⟩:=movedN_ok h1
      match l,g1 with
      |[t],_=>exact .inl ⟨t,rfl,rfl⟩
    |none =>
      refine .inr ⟨fun ho=>moved_one.2 ho h1, ?_⟩
      rw [List.findSome?_cons]
      cases h2:movedN c a 2 with
      |some l=>exact .inl ⟨l,rfl,rfl⟩
      |none=>exact .inr rfl
  · rw [if_pos hp]
    exact .inl ⟨hp,rfl⟩
end Go.Sym.B
namespace Go.Sym.B
open Go Go.Sym Go.Proofs Go.Sym.C
end Go.Sym.B
namespace Go.Sym.B
open Go Go.Sym Go.Proofs Go.Sym.C
theorem car_zero {c:Chart} (h:CarOk c) (h8:c.sold.length≤8):carE c=0:=by
  have h1:=h.cabs
  have h2:countedE c.cabins.length 1 3=0:=by
    unfold countedE
    rw [if_neg (by omega),if_neg (by omega)]
  have h3:firstE (c.cabins.map cabE)=0:=firstE_all fun j hj=>by
    rw [List.length_map] at hj
    rw [mapD hj]
    unfold cabE
    rw [inB_iff.2 (h.beds _ (gMem hj))];rfl
  unfold carE
  rw [h2,h3,inB_iff.2 h.secs]
  simp only [ne_eq,not_true_eq_false,if_false,Bool.not_true,Bool.false_eq_true]
  unfold countedE
  rw [if_neg (by omega),if_neg (by omega)]
theorem TkOk.to' {c:Chart} {t:Tk} (h:TkOk c t) (l:List Tk):TkOk ⟨c.cabins,c.secs,l⟩ t:=⟨h.party,h.sex,h.cab,h.bed,h.frm,h.way,h.to⟩
theorem CarOk.to' {c:Chart} (h:CarOk c) (l:List Tk):CarOk ⟨c.cabins,c.secs,l⟩:=⟨h.cabs,h.beds,h.secs⟩
theorem ask_nobody {c:Chart} {a:Ask} (h:bothE c a=0):∀ t ∈ c.sold,t.party ≠ a.party:=by
  have h:=(both_ok h).2
  unfold askE at h
  split at h
  · exact absurd h (by decide)
  split at h
  · exact absurd h (by decide)
  rename_i h2
  intro t ht hp
  exact h2 (List.any_eq_true.2 ⟨t,ht,by rw [hp];simp⟩)
def askP (a:Ask) (P:Int):Ask:=⟨P,a.frm,a.to,a.sexes,a.dog⟩
theorem askP_ok {c c':Chart} {a:Ask} {P:Int} (h:bothE c a=0) (hs:c'.secs=c.secs) (h':checkE c'=0) (hP:1≤P∧P≤99) (hn:∀ t ∈ c'.sold,t.party ≠ P):bothE c' (askP a P)=0:=by
  have h:=(both_ok h).2
  unfold bothE
  rw [h',if_neg (by decide)]
  unfold askE askP at *
  simp only [hs]
  split at h
  · exact absurd h (by decide)
  split at h
  · exact absurd h (by decide)
  have b1:inB P 1 99=true:=inB_iff.2 hP
  have b2:c'.sold.any (fun t=>decide (t.party=P))=false:=List.any_eq_false.2 fun t ht=>by simpa using hn t ht
  rw [b1,b2]
  exact h
end Go.Sym.B
namespace Go.Sym.B
open Go Go.Sym Go.Proofs Go.Sym.C
def loS1 (c:Chart) (K:List Int) (T:List (Nat × AV)):St:={ t:=asg (T++[(1,.ptr 0 0),(3,.row 1)]),h:=hasg [(0,.cells (cChart c)),(1,.row 3 1 (K.map eInt))],n:=2 }
def tbE32_rLone:=vj @ty3 (vj @ty22 (vj @ty26 (vj @ty28 (vj @ty81 (vj @ti3.eq_1 (vj @ti22.eq_1 (vj @ti26.eq_1 (vj @ti28.eq_1 @ti81.eq_1))))))))
def xbE32_1:=vj @aI.eq_1 (vj @aB.eq_1 (vj @aInts.eq_1 (vj @eInt.eq_1 (@rInt))))
theorem rLone_fn (c:Chart) (hs:c.sold.length≤100):FnV Try.prog 33 [aChart c] (aInts (loneL c.sold)):=by
  have env:Env (fun _=>True) Try.prog tyB (tab []):=mkEnv trivial
  refine Fn.of (A:=fun _=>True) (n0:=0) (D:=noD) (Fn0 Try.func33 rfl (fun vs w=>by kernel_rfl) (by kernel_rfl)) (by simp) (by simp [AV.ids,AV.idsL,aChart,cChart]) (fun i o h=>by cases h) (fun _ _ _ _=>trivial) noD_ok ?_
  have hmx:(100000:Nat)≤maxLen:=by decide
  rw [← lnK_all]
  repeat' (first|(apply nx;with_reducible constructor)|refine uq (by decide) ?_|((first|refine vx env fun Q hQ=>?_|refine vz fun Q hQ=>?_);simp only [vkt,seval,tbE32_rLone,xbE32_1,eTk,gTk,mTk,aChart,cChart,loS1,List.length_map];(try simp only [ite_and]);(repeat' (first|with_reducible assumption|refine And.intro ?_ ?_|intro hp));all_goals (first|(refine hQ _ ?_;clear hQ Q)|(refine hQ _ (fun h=>?_) (fun h=>?_) <;> clear hQ Q <;> (try simp only [vki,reduceCtorEq] at h))|(refine vq ?_;kernel_rfl)|omega|assumption|with_reducible rfl|skip)))
  refine sym_loop (fun i:{ i:Nat // i≤c.sold.length }=>loS1 c (lnK c.sold i.1) [(4,aI i.1)]) (fun i=>c.sold.length - i.1) ⟨0,Nat.zero_le _⟩ ?_ fun ⟨i,hi⟩=>?_
  · simp only [loS1,show lnK c.sold 0=[] from rfl,List.cons_append,List.nil_append]
    (refine Le.ok (fun i=>if i=1 then none else some i) [] ?_;constructor;all_goals (try simp only [vle,vkt,seval,tbE32_rLone,xbE32_1,eTk,gTk,mTk,aChart,cChart,loS1,List.length_map]))
    all_goals first|rfl|(simp;done)|(intro i hi;rw [if_neg (by omega)];done)
  simp only at hi ⊢
  have hS:=lnK_succ c.sold i
  have hKl:=lnK_len c.sold i
  obtain ⟨K,hK⟩:∃ K,lnK c.sold i=K:=⟨_,rfl⟩
  rw [hK] at hS hKl
  simp only [loS1,hK,List.cons_append,List.nil_append]
  by_cases hil:i < c.sold.length
  · have d1:decide ((i:Int) < (c.sold.length:Int))=true:=decide_eq_true (by omega)
    have e9:IntKind.wrap .i64 ((i:Int)+1)=((i+1:Nat):Int):=by rw [wrap64 (by omega) (by omega)];rfl
    have i0:((i:Int)).toNat=i:=rfl
    obtain ⟨x,hx⟩:∃ x,c.sold.getD i default=x:=⟨_,rfl⟩
    rw [hx] at hS
    have hm:K.length+1≤maxLen:=by omega
    repeat' (first|(apply nx;with_reducible constructor)|refine uq (by decide) ?_|((first|refine vx env fun Q hQ=>?_|refine vz fun Q hQ=>?_);simp only [vkt,seval,tbE32_rLone,xbE32_1,eTk,gTk,mTk,aChart,cChart,loS1,List.length_map,d1];(try simp only [ite_and]);(repeat' (first|with_reducible assumption|refine And.intro ?_ ?_|intro hp));all_goals (first|(refine hQ _ ?_;clear hQ Q)|(refine hQ _ (fun h=>?_) (fun h=>?_) <;> clear hQ Q <;> (try simp only [vki,reduceCtorEq] at h))|(refine vq ?_;kernel_rfl)|omega|assumption|with_reducible rfl|skip)))
    refine sym_loop (fun k:{ k:Nat // k≤c.sold.length }=>loS1 c K [(4,aI i),(5,aI (partyN (c.sold.take k.1) x.party)),(6,aI k.1)]) (fun k=>c.sold.length - k.1) ⟨0,Nat.zero_le _⟩ ?_ fun ⟨k,hk⟩=>?_
    · simp only [loS1,List.take_zero,show partyN [] x.party=0 from rfl,List.cons_append,List.nil_append]
      (refine Le.ok some [] ?_;constructor;all_goals (try simp only [vle,vkt,seval,tbE32_rLone,xbE32_1,eTk,gTk,mTk,aChart,cChart,loS1,List.length_map]))
      all_goals first|rfl|(simp;done)
    simp only at hk ⊢
    have hle:=partyN_le (c.sold.take k) x.party
    rw [List.length_take] at hle
    obtain ⟨m,hm0⟩:∃ m,partyN (c.sold.take k) x.party=m:=⟨_,rfl⟩
    rw [hm0] at hle
    simp only [loS1,hm0,List.cons_append,List.nil_append]
    by_cases hkl:k < c.sold.length
    · have d2:decide ((k:Int) < (c.sold.length:Int))=true:=decide_eq_true (by omega)
      have e8:IntKind.wrap .i64 ((k:Int)+1)=((k+1:Nat):Int):=by rw [wrap64 (by omega) (by omega)];rfl
      have k0:((k:Int)).toNat=k:=rfl
      have hP:=partyN_succ hkl x.party
      obtain ⟨y,hy⟩:∃ y,c.sold.getD k default=y:=⟨_,rfl⟩
      rw [hy,hm0] at hP
      have w1:IntKind.wrap .i64 ((m:Int)+1)=((m+1:Nat):Int):=by rw [wrap64 (by omega) (by omega)];rfl
      by_cases hq:y.party=x.party
      · have d3:decide (y.party=x.party)=true:=decide_eq_true hq
        rw [if_pos hq] at hP
        repeat' (first|(apply nx;with_reducible constructor)|refine uq (by decide) ?_|((first|refine vx env fun Q hQ=>?_|refine vz fun Q hQ=>?_);simp only [vkt,seval,tbE32_rLone,xbE32_1,eTk,gTk,mTk,aChart,cChart,loS1,List.length_map,d2,e8,k0,i0,hkl,hil,hx,hy,d3,w1];(try simp only [ite_and]);(repeat' (first|with_reducible assumption|refine And.intro ?_ ?_|intro hp));all_goals (first|(refine hQ _ ?_;clear hQ Q)|(refine hQ _ (fun h=>?_) (fun h=>?_) <;> clear hQ Q <;> (try simp only [vki,reduceCtorEq] at h))|(refine vq ?_;kernel_rfl)|omega|assumption|with_reducible rfl|skip)))
        refine ⟨⟨k+1,hkl⟩,by show c.sold.length - (k+1) < c.sold.length - k;omega, ?_⟩
        simp only [loS1,hP,List.cons_append,List.nil_append]
        (refine Le.ok some [] ?_;constructor;all_goals (try simp only [vle,vkt,seval,tbE32_rLone,xbE32_1,eTk,gTk,mTk,aChart,cChart,loS1,List.length_map]))
        all_goals first|rfl|(simp;done)
      · have d3:decide (y.party=x.party)=false:=decide_eq_false hq
        rw [if_neg hq,Nat.add_zero] at hP
        repeat' (first|(apply nx;with_reducible constructor)|refine uq (by decide) ?_|((first|refine vx env fun Q hQ=>?_|refine vz fun Q hQ=>?_);simp only [vkt,seval,tbE32_rLone,xbE32_1,eTk,gTk,mTk,aChart,cChart,loS1,List.length_map,d2,e8,k0,i0,hkl,hil,hx,hy,d3];(try simp only [ite_and]);(repeat' (first|with_reducible assumption|refine And.intro ?_ ?_|intro hp));all_goals (first|(refine hQ _ ?_;clear hQ Q)|(refine hQ _ (fun h=>?_) (fun h=>?_) <;> clear hQ Q <;> (try simp only [vki,reduceCtorEq] at h))|(refine vq ?_;kernel_rfl)|omega|assumption|with_reducible rfl|skip)))
        refine ⟨⟨k+1,hkl⟩,by show c.sold.length - (k+1) < c.sold.length - k;omega, ?_⟩
        simp only [loS1,hP,List.cons_append,List.nil_append]
        (refine Le.ok some [] ?_;constructor;all_goals (try simp only [vle,vkt,seval,tbE32_rLone,xbE32_1,eTk,gTk,mTk,aChart,cChart,loS1,List.length_map]))
        all_goals first|rfl|(simp;done)
    · have d2:decide ((k:Int) < (c.sold.length:Int))=false:=decide_eq_false (by omega)
      obtain rfl:k=c.sold.length:=by omega
      rw [List.take_length] at hm0
      rw [hm0] at hS
      by_cases hq:m=1
      · have d3:decide ((m:Int)=1)=true:=decide_eq_true (by omega)
        rw [if_pos hq] at hS
        repeat' (first|(apply nx;with_reducible constructor)|refine uq (by decide) ?_|((first|refine vx env fun Q hQ=>?_|refine vz fun Q hQ=>?_);simp only [vkt,seval,tbE32_rLone,xbE32_1,eTk,gTk,mTk,aChart,cChart,loS1,List.length_map,d2,d3,e9,hm];(try simp only [ite_and]);(repeat' (first|with_reducible assumption|refine And.intro ?_ ?_|intro hp));all_goals (first|(refine hQ _ ?_;clear hQ Q)|(refine hQ _ (fun h=>?_) (fun h=>?_) <;> clear hQ Q <;> (try simp only [vki,reduceCtorEq] at h))|(refine vq ?_;kernel_rfl)|omega|assumption|with_reducible rfl|skip)))
        refine ⟨⟨i+1,hil⟩,by show c.sold.length - (i+1) < c.sold.length - i;omega, ?_⟩
        simp only [loS1,hS,List.cons_append,List.nil_append]
        (refine Le.ok (fun i=>if i=1 then some 3 else some i) [] ?_;constructor;all_goals (try simp only [vle,vkt,seval,tbE32_rLone,xbE32_1,eTk,gTk,mTk,aChart,cChart,loS1,List.length_map]))
        all_goals first|rfl|(rw [List.map_append];rfl)|(simp;done)|(intro i hi;rw [if_neg (by omega)];done)
      · have d3:decide ((m:Int)=1)=false:=decide_eq_false (by omega)
        rw [if_neg hq] at hS
        repeat' (first|(apply nx;with_reducible constructor)|refine uq (by decide) ?_|((first|refine vx env fun Q hQ=>?_|refine vz fun Q hQ=>?_);simp only [vkt,seval,tbE32_rLone,xbE32_1,eTk,gTk,mTk,aChart,cChart,loS1,List.length_map,d2,d3,e9];(try simp only [ite_and]);(repeat' (first|with_reducible assumption|refine And.intro ?_ ?_|intro hp));all_goals (first|(refine hQ _ ?_;clear hQ Q)|(refine hQ _ (fun h=>?_) (fun h=>?_) <;> clear hQ Q <;> (try simp only [vki,reduceCtorEq] at h))|(refine vq ?_;kernel_rfl)|omega|assumption|with_reducible rfl|skip)))
        refine ⟨⟨i+1,hil⟩,by show c.sold.length - (i+1) < c.sold.length - i;omega, ?_⟩
        simp only [loS1,hS,List.cons_append,List.nil_append]
        (refine Le.ok some [] ?_;constructor;all_goals (try simp only [vle,vkt,seval,tbE32_rLone,xbE32_1,eTk,gTk,mTk,aChart,cChart,loS1,List.length_map]))
        all_goals first|rfl|(simp;done)
  · have d1:decide ((i:Int) < (c.sold.length:Int))=false:=decide_eq_false (by omega)
    obtain rfl:i=c.sold.length:=by omega
    rw [hK]
    repeat' (first|(apply nx;with_reducible constructor)|refine uq (by decide) ?_|((first|refine vx env fun Q hQ=>?_|refine vz fun Q hQ=>?_);simp only [vkt,seval,tbE32_rLone,xbE32_1,eTk,gTk,mTk,aChart,cChart,loS1,List.length_map,d1];(try simp only [ite_and]);(repeat' (first|with_reducible assumption|refine And.intro ?_ ?_|intro hp));all_goals (first|(refine hQ _ ?_;clear hQ Q)|(refine hQ _ (fun h=>?_) (fun h=>?_) <;> clear hQ Q <;> (try simp only [vki,reduceCtorEq] at h))|(refine vq ?_;kernel_rfl)|omega|assumption|with_reducible rfl|skip)))
    (simp only [vrt,Try.results33,vkt,seval,tbE32_rLone,xbE32_1,eTk,gTk,mTk,aChart,cChart,loS1,List.length_map];refine Fin.val rfl ?_;(try simp only [AV.le,AV.leL]))
    all_goals first|rfl|(simp;done)|exact ⟨_,_,rfl⟩
def srLone:List AV→Prop × AV
  |[.agg [.sl x0,.v (.int .i64 x1),.sl x2]]=>(x0=(x0.map dCabin).map eCabin∧x2=(x2.map dTk).map eTk∧((⟨(x0.map dCabin),x1,(x2.map dTk)⟩:Chart)).sold.length≤100,aInts (loneL ((⟨(x0.map dCabin),x1,(x2.map dTk)⟩:Chart)).sold))
  |_=>(False,.junk)
theorem erLone {A:Frm→Prop}:EntryOK A Try.prog 33 (valE false srLone):=valE_ok fun vs hv h=>by
  clear hv
  unfold srLone at h ⊢
  split at h
  · rename_i x0 x1 x2;obtain ⟨q0,q1,k0⟩:=h
    refine ⟨by first|trivial|(simp [AV.plain,AV.plainL,aI,aB,aInts,aBunks,aTks,aBunk,aTk,cTk];done)|(repeat' split) <;> simp [AV.plain,AV.plainL,aI,aB,aInts,aBunks,aTks,aBunk,aTk,cTk],fun h=>absurd h (by decide), ?_⟩
    have:=rLone_fn ((⟨(x0.map dCabin),x1,(x2.map dTk)⟩:Chart)) k0
    simp only [aCabins,aChart,aI,aTks,cChart,← q0,← q1] at this
    first|exact this|(simp only [aCabins,aChart,aI,aTks,cChart,← q0,← q1];exact this)
  · exact h.elim
def stK (l:List Int) (n:Int):Int:=match l.findIdx? (fun x=>decide (x=n)) with
  |some i=>(i:Int)
  |none=>-1
theorem stK_hit {n:Int} {l:List Int} {k:Nat} (hk:k < l.length) (h:∀ j,j < k→l.getD j 0 ≠ n) (hp:l.getD k 0=n):stK l n=(k:Int):=by
  have:l.findIdx? (fun x=>decide (x=n))=some k:=by
    rw [List.findIdx?_eq_some_iff_getElem]
    refine ⟨hk,by simpa [List.getD_eq_getElem?_getD,hk] using hp,fun j hj=>?_⟩
    have:=h j hj
    simpa [List.getD_eq_getElem?_getD,show j < l.length by omega] using this
  simp [stK,this]
theorem stK_none {n:Int} {l:List Int} (h:∀ j,j < l.length→l.getD j 0 ≠ n):stK l n=-1:=by
  have:l.findIdx? (fun x=>decide (x=n))=none:=by
    rw [List.findIdx?_eq_none_iff]
    intro x hx
    obtain ⟨j,hj,rfl⟩:=List.mem_iff_getElem.1 hx
    have:=h j hj
    simpa [List.getD_eq_getElem?_getD,hj] using this
  simp [stK,this]
theorem stK_mem {n:Int} {l:List Int} (h:n ∈ l):0≤stK l n:=by
  unfold stK
  cases hq:l.findIdx? (fun x=>decide (x=n)) with
  |some i=>simp only;omega
  |none =>
    rw [List.findIdx?_eq_none_iff] at hq
    have:=hq n h
    simp at this
def tbE32_Seat:=vj @ty3 (vj @ty22 (vj @ti3.eq_1 @ti22.eq_1))
def xbE32_2:=vj @aI.eq_1 (vj @aB.eq_1 (vj @aInts.eq_1 (vj @eInt.eq_1 (@gInt))))
theorem seat_fn (l:List Int) (n:Int) (hl:l.length≤1000):FnV Try.prog 35 [aInts l,aI n] (aI (stK l n)):=by
  have env:Env (fun _=>True) Try.prog tyB (tab []):=mkEnv trivial
  refine Fn.of (A:=fun _=>True) (n0:=0) (D:=noD) (Fn0 Try.func35 rfl (fun vs w=>by kernel_rfl) (by kernel_rfl)) (by simp) (by simp [AV.ids,AV.idsL,aInts,aI]) (fun i o h=>by cases h) (fun _ _ _ _=>trivial) noD_ok ?_
  repeat' (first|(apply nx;with_reducible constructor)|refine uq (by decide) ?_|((first|refine vx env fun Q hQ=>?_|refine vz fun Q hQ=>?_);simp only [vkt,seval,tbE32_Seat,xbE32_2,List.length_map];(try simp only [ite_and]);(repeat' (first|with_reducible assumption|refine And.intro ?_ ?_|intro hp));all_goals (first|(refine hQ _ ?_;clear hQ Q)|(refine hQ _ (fun h=>?_) (fun h=>?_) <;> clear hQ Q <;> (try simp only [vki,reduceCtorEq] at h))|(refine vq ?_;kernel_rfl)|omega|assumption|with_reducible rfl|skip)))
  refine sym_loop (fun k:{ k:Nat // k≤l.length∧∀ j,j < k→l.getD j 0 ≠ n }=>{ t:=asg [(0,aInts l),(1,aI n),(5,aI k.1)],h:=hasg [],n:=0 }) (fun k=>l.length - k.1) ⟨0,Nat.zero_le _,fun j h=>absurd h (Nat.not_lt_zero _)⟩ ?_ fun ⟨k,hk,hno⟩=>?_
  · (refine Le.ok some [] ?_;constructor;all_goals (try simp only [vle,vkt,seval,tbE32_Seat,xbE32_2,List.length_map]))
    all_goals first|rfl|(simp;done)
  simp only at hk hno ⊢
  by_cases hkl:k < l.length
  · have d1:decide ((k:Int) < (l.length:Int))=true:=decide_eq_true (by omega)
    have e9:IntKind.wrap .i64 ((k:Int)+1)=((k+1:Nat):Int):=by rw [wrap64 (by omega) (by omega)];rfl
    have k0:((k:Int)).toNat=k:=rfl
    obtain ⟨x,hx⟩:∃ x,l.getD k 0=x:=⟨_,rfl⟩
    by_cases hq:x=n
    · have d2:decide (x=n)=true:=decide_eq_true hq
      rw [stK_hit hkl hno (by rw [hx];exact hq)]
      repeat' (first|(apply nx;with_reducible constructor)|refine uq (by decide) ?_|((first|refine vx env fun Q hQ=>?_|refine vz fun Q hQ=>?_);simp only [vkt,seval,tbE32_Seat,xbE32_2,List.length_map,d1,k0,hkl,hx,d2];(try simp only [ite_and]);(repeat' (first|with_reducible assumption|refine And.intro ?_ ?_|intro hp));all_goals (first|(refine hQ _ ?_;clear hQ Q)|(refine hQ _ (fun h=>?_) (fun h=>?_) <;> clear hQ Q <;> (try simp only [vki,reduceCtorEq] at h))|(refine vq ?_;kernel_rfl)|omega|assumption|with_reducible rfl|skip)))
      (simp only [vrt,Try.results35,vkt,seval,tbE32_Seat,xbE32_2,List.length_map];refine Fin.val rfl ?_;(try simp only [AV.le,AV.leL]))
      all_goals first|rfl|(simp;done)
    · have d2:decide (x=n)=false:=decide_eq_false hq
      repeat' (first|(apply nx;with_reducible constructor)|refine uq (by decide) ?_|((first|refine vx env fun Q hQ=>?_|refine vz fun Q hQ=>?_);simp only [vkt,seval,tbE32_Seat,xbE32_2,List.length_map,d1,k0,hkl,hx,d2,e9];(try simp only [ite_and]);(repeat' (first|with_reducible assumption|refine And.intro ?_ ?_|intro hp));all_goals (first|(refine hQ _ ?_;clear hQ Q)|(refine hQ _ (fun h=>?_) (fun h=>?_) <;> clear hQ Q <;> (try simp only [vki,reduceCtorEq] at h))|(refine vq ?_;kernel_rfl)|omega|assumption|with_reducible rfl|skip)))
      refine ⟨⟨k+1,hkl,fun j hj=>?_⟩,by show l.length - (k+1) < l.length - k;omega, ?_⟩
      · rcases Nat.lt_or_eq_of_le (Nat.le_of_lt_succ hj) with h1|h1
        · exact hno j h1
        · rw [h1,hx];exact hq
      (refine Le.ok some [] ?_;constructor;all_goals (try simp only [vle,vkt,seval,tbE32_Seat,xbE32_2,List.length_map]))
      all_goals first|rfl|(simp;done)
  · have d1:decide ((k:Int) < (l.length:Int))=false:=decide_eq_false (by omega)
    obtain rfl:k=l.length:=by omega
    rw [stK_none hno]
    repeat' (first|(apply nx;with_reducible constructor)|refine uq (by decide) ?_|((first|refine vx env fun Q hQ=>?_|refine vz fun Q hQ=>?_);simp only [vkt,seval,tbE32_Seat,xbE32_2,List.length_map,d1];(try simp only [ite_and]);(repeat' (first|with_reducible assumption|refine And.intro ?_ ?_|intro hp));all_goals (first|(refine hQ _ ?_;clear hQ Q)|(refine hQ _ (fun h=>?_) (fun h=>?_) <;> clear hQ Q <;> (try simp only [vki,reduceCtorEq] at h))|(refine vq ?_;kernel_rfl)|omega|assumption|with_reducible rfl|skip)))
    (simp only [vrt,Try.results35,vkt,seval,tbE32_Seat,xbE32_2,List.length_map];refine Fin.val rfl ?_;(try simp only [AV.le,AV.leL]))
    all_goals first|rfl|(simp;done)
def sSeat:List AV→Prop × AV
  |[.sl l,.v (.int .i64 n)]=>(l=(l.map dInt).map eInt∧(l.map dInt).length≤1000,aI (stK (l.map dInt) n))
  |_=>(False,.junk)
theorem eSeat {A:Frm→Prop}:EntryOK A Try.prog 35 (valE true sSeat):=valE_ok fun vs hv h=>by
  clear hv
  unfold sSeat at h ⊢
  split at h
  · rename_i l n;obtain ⟨q0,k0⟩:=h
    refine ⟨by first|trivial|(simp [AV.plain,AV.plainL,aI,aB,aInts,aBunks,aTks,aBunk,aTk,cTk];done)|(repeat' split) <;> simp [AV.plain,AV.plainL,aI,aB,aInts,aBunks,aTks,aBunk,aTk,cTk],fun _=>(by simp [AV.flat,AV.flatL,aI,aB]), ?_⟩
    have:=seat_fn (l.map dInt) n k0
    simp only [aI,aInts,← q0] at this
    first|exact this|(simp only [aI,aInts,← q0];exact this)
  · exact h.elim
def sfP:List Tk→List Tr→List Tk × Bool
  |sold,[]=>(sold,true)
  |sold,t :: r=>if (sold.getD t.ticket.toNat default).bunk=⟨t.cab,t.bed⟩ then (sold,false) else sfP (putB sold t.ticket.toNat ⟨t.cab,t.bed⟩) r
theorem sfP_A:∀ {l:List Tr} {sold:List Tk},sfA sold l=if (sfP sold l).2 then some (sfP sold l).1 else none
  |[],sold=>rfl
  |t :: r,sold=>by
    rw [sfA,sfP]
    by_cases h:(sold.getD t.ticket.toNat default).bunk=⟨t.cab,t.bed⟩
    · rw [if_pos h,if_pos h];rfl
    · rw [if_neg h,if_neg h,sfP_A]
theorem sfP_some {l:List Tr} {sold s:List Tk} (h:sfA sold l=some s):sfP sold l=(s,true):=by
  rw [sfP_A] at h
  split at h
  · rename_i h1
    cases h
    exact Prod.ext rfl h1
  · cases h
theorem put_party {sold:List Tk} {n:Nat} {b:Bunk} {P:Int} (h:∀ t ∈ sold,t.party ≠ P) (hn:n < sold.length):∀ t ∈ putB sold n b,t.party ≠ P:=fun t ht=>by
  unfold putB at ht
  rcases List.mem_or_eq_of_mem_set ht with h1|h1
  · exact h t h1
  · rw [h1]
    show (sold.getD n default).party ≠ P
    exact h _ (gMem hn)
theorem sfP_len:∀ (l:List Tr) (sold:List Tk),(sfP sold l).1.length=sold.length
  |[],_=>rfl
  |t :: r,sold=>by
    rw [sfP]
    split
    · rfl
    · rw [sfP_len r,putB_len]
theorem sfP_party {P:Int}:∀ {l:List Tr} {sold:List Tk},(∀ t ∈ sold,t.party ≠ P)→(∀ t ∈ l,0≤t.ticket∧t.ticket.toNat < sold.length)→∀ t ∈ (sfP sold l).1,t.party ≠ P
  |[],_,h,_=>h
  |t :: r,sold,h,hl=>by
    rw [sfP]
    split
    · exact h
    · refine sfP_party (put_party h (hl t (List.mem_cons_self ..)).2) fun x hx=>?_
      rw [putB_len]
      exact hl x (List.mem_cons_of_mem _ hx)
def sf1S (c:Chart) (l:List Tr) (M:List Tk) (i:Nat):St:={ t:=asg [(1,aTrs l),(2,.ptr 0 0),(4,.ptr 1 0),(5,aB false),(6,aI i)],h:=hasg [(0,.cells [.row 2,aI c.secs,.row 3]),(1,.cells [.nil,aI 0,.nil]),(2,.row 51 2 (c.cabins.map eCabin)),(3,.row 81 7 (M.map eTk))],n:=4 }
def tbE32_rShift:=vj @ty3 (vj @ty26 (vj @ty28 (vj @ty34 (vj @ty49 (vj @ty58 (vj @ty65 (vj @ty81 (vj @ti3.eq_1 (vj @ti26.eq_1 (vj @ti28.eq_1 (vj @ti34.eq_1 (vj @ti49.eq_1 (vj @ti58.eq_1 (vj @ti65.eq_1 @ti81.eq_1))))))))))))))
def xbE32_3:=vj @aI.eq_1 (@aB.eq_1)
set_option maxHeartbeats 4000000 in
theorem rShift_fn (c:Chart) (l:List Tr) (hc:CarOk c) (hs:c.sold.length≤100) (hl:l.length≤1000) (ht:∀ t ∈ l,0≤t.ticket∧t.ticket.toNat < c.sold.length):FnV Try.prog 34 [aChart c,aTrs l] (.tup [aChart ⟨c.cabins,c.secs,(sfP c.sold l).1⟩,aB ((sfP c.sold l).2 && decide (ticketsE ⟨c.cabins,c.secs,(sfP c.sold l).1⟩ (sfP c.sold l).1=0))]):=by
  have env:Env (fun _=>True) Try.prog tyB (tab [(88,fnE pCopied),(74,valE true srtks)]):=mkEnv ⟨eCopied,ertks,trivial⟩
  refine Fn.of (A:=fun _=>True) (n0:=0) (D:=noD) (Fn0 Try.func34 rfl (fun vs w=>by kernel_rfl) (by kernel_rfl)) (by simp) (by simp [AV.ids,AV.idsL,aChart,cChart,aTrs]) (fun i o h=>by cases h) (fun _ _ _ _=>trivial) noD_ok ?_
  have hcab:=hc.cabs
  have b1:c.cabins.length≤100000:=by omega
  have b2:c.sold.length≤100000:=by omega
  repeat' (first|(apply nx;with_reducible constructor)|refine uq (by decide) ?_|((first|refine vx env fun Q hQ=>?_|refine vz fun Q hQ=>?_);simp only [vkt,seval,tbE32_rShift,xbE32_3,aTrs,aTks,eTr,gTr,eTk,rTk,rCabin,mTk,mCabin,aChart,cChart,sf1S,pCopied,srtks,List.length_map,b1,b2];(try simp only [ite_and]);(repeat' (first|with_reducible assumption|refine And.intro ?_ ?_|intro hp));all_goals (first|(refine hQ _ ?_;clear hQ Q)|(refine hQ _ (fun h=>?_) (fun h=>?_) <;> clear hQ Q <;> (try simp only [vki,reduceCtorEq] at h))|(refine vq ?_;kernel_rfl)|omega|assumption|with_reducible rfl|skip)))
  refine sym_loop (fun y:{ y:Nat × List Tk // y.1≤l.length∧y.2.length=c.sold.length∧sfP c.sold l=sfP y.2 (l.drop y.1) }=>sf1S c l y.1.2 y.1.1) (fun y=>l.length - y.1.1) ⟨(0,c.sold),Nat.zero_le _,rfl,rfl⟩ ?_ fun ⟨⟨i,M⟩,hi,hMl,hin⟩=>?_
  · simp only [sf1S]
    (refine Le.ok some [] ?_;constructor;all_goals (try simp only [vle,vkt,seval,tbE32_rShift,xbE32_3,aTrs,aTks,eTr,gTr,eTk,rTk,rCabin,mTk,mCabin,aChart,cChart,sf1S,pCopied,srtks,List.length_map]))
    all_goals first|rfl|(simp;done)
  simp only at hi hMl hin ⊢
  rw [hin]
  by_cases hil:i < l.length
  · have d1:decide ((i:Int) < (l.length:Int))=true:=decide_eq_true (by omega)
    have e9:IntKind.wrap .i64 ((i:Int)+1)=((i+1:Nat):Int):=by rw [wrap64 (by omega) (by omega)];rfl
    have i0:((i:Int)).toNat=i:=rfl
    have hdr:l.drop i=l.getD i default :: l.drop (i+1):=by
      rw [List.drop_eq_getElem_cons hil]
      simp [List.getD_eq_getElem?_getD,hil]
    have htt:=ht _ (gMem (d:=default) hil)
    obtain ⟨t,hte⟩:∃ t,l.getD i default=t:=⟨_,rfl⟩
    rw [hte] at hdr htt
    obtain ⟨t1,t2⟩:=htt
    have t2M:t.ticket.toNat < M.length:=by omega
    have hgM:=hTk t2M
    rw [hdr,sfP] at hin ⊢
    have hpl:=putB_len M t.ticket.toNat ⟨t.cab,t.bed⟩
    obtain ⟨x,hx⟩:∃ x,M.getD t.ticket.toNat default=x:=⟨_,rfl⟩
    have hbk:x.bunk=⟨t.cab,t.bed⟩ ↔ (decide (x.cab=t.cab) && decide (x.bed=t.bed))=true:=by
      unfold Tk.bunk
      rw [Bool.and_eq_true,decide_eq_true_eq,decide_eq_true_eq]
      simp
    have hset:=putB_map M t.ticket.toNat ⟨t.cab,t.bed⟩ hx
    rw [hx] at hgM hin ⊢
    simp only [sf1S]
    cases q:(decide (x.cab=t.cab) && decide (x.bed=t.bed)) with
    |true =>
      have hq:=hbk.2 q
      rw [if_pos hq]
      repeat' (first|(apply nx;with_reducible constructor)|refine uq (by decide) ?_|((first|refine vx env fun Q hQ=>?_|refine vz fun Q hQ=>?_);simp only [vkt,seval,tbE32_rShift,xbE32_3,aTrs,aTks,eTr,gTr,eTk,rTk,rCabin,mTk,mCabin,aChart,cChart,sf1S,pCopied,srtks,List.length_map,d1,i0,hil,hte,t1,t2M,hgM,q];(try simp only [ite_and]);(repeat' (first|with_reducible assumption|refine And.intro ?_ ?_|intro hp));all_goals (first|(refine hQ _ ?_;clear hQ Q)|(refine hQ _ (fun h=>?_) (fun h=>?_) <;> clear hQ Q <;> (try simp only [vki,reduceCtorEq] at h))|(refine vq ?_;kernel_rfl)|omega|assumption|with_reducible rfl|skip)))
      (simp only [vrt,Try.results34,vkt,seval,tbE32_rShift,xbE32_3,aTrs,aTks,eTr,gTr,eTk,rTk,rCabin,mTk,mCabin,aChart,cChart,sf1S,pCopied,srtks,List.length_map];refine Fin.val rfl ?_;(try simp only [AV.le,AV.leL]))
      all_goals first|rfl|(simp;done)|(refine ⟨⟨⟨_,_,rfl⟩, ?_,⟨_,_,rfl⟩, ?_⟩, ?_⟩ <;> first|trivial|rfl|(simp;done)|exact ⟨rfl,trivial⟩)
    |false =>
      have hq:¬ x.bunk=⟨t.cab,t.bed⟩:=fun h=>by rw [hbk.1 h] at q;exact absurd q (by decide)
      rw [if_neg hq] at hin
      obtain ⟨U,hU⟩:∃ U,putB M t.ticket.toNat ⟨t.cab,t.bed⟩=U:=⟨_,rfl⟩
      rw [hU] at hset hpl hin
      have hset:=hset.symm
      repeat' (first|(apply nx;with_reducible constructor)|refine uq (by decide) ?_|((first|refine vx env fun Q hQ=>?_|refine vz fun Q hQ=>?_);simp only [vkt,seval,tbE32_rShift,xbE32_3,aTrs,aTks,eTr,gTr,eTk,rTk,rCabin,mTk,mCabin,aChart,cChart,sf1S,pCopied,srtks,List.length_map,d1,i0,hil,hte,t1,t2M,hgM,q,e9,hset];(try simp only [ite_and]);(repeat' (first|with_reducible assumption|refine And.intro ?_ ?_|intro hp));all_goals (first|(refine hQ _ ?_;clear hQ Q)|(refine hQ _ (fun h=>?_) (fun h=>?_) <;> clear hQ Q <;> (try simp only [vki,reduceCtorEq] at h))|(refine vq ?_;kernel_rfl)|omega|assumption|with_reducible rfl|skip)))
      refine ⟨⟨(i+1,U),hil,by simp only;omega,by rw [if_neg hq,hU]⟩,by show l.length - (i+1) < l.length - i;omega, ?_⟩
      simp only [sf1S]
      (refine Le.ok some [] ?_;constructor;all_goals (try simp only [vle,vkt,seval,tbE32_rShift,xbE32_3,aTrs,aTks,eTr,gTr,eTk,rTk,rCabin,mTk,mCabin,aChart,cChart,sf1S,pCopied,srtks,List.length_map]))
      all_goals first|rfl|(simp;done)
  · have d1:decide ((i:Int) < (l.length:Int))=false:=decide_eq_false (by omega)
    obtain rfl:i=l.length:=by omega
    rw [List.drop_length,sfP,Bool.true_and]
    have hcar:CarOk ⟨c.cabins,c.secs,M⟩:=hc.to' M
    have hM1:M.length≤100:=by omega
    simp only [sf1S]
    cases q:decide (ticketsE ⟨c.cabins,c.secs,M⟩ M=0) with
    |true =>
      repeat' (first|(apply nx;with_reducible constructor)|refine uq (by decide) ?_|((first|refine vx env fun Q hQ=>?_|refine vz fun Q hQ=>?_);simp only [vkt,seval,tbE32_rShift,xbE32_3,aTrs,aTks,eTr,gTr,eTk,rTk,rCabin,mTk,mCabin,aChart,cChart,sf1S,pCopied,srtks,List.length_map,d1,hcar,hM1,q];(try simp only [ite_and]);(repeat' (first|with_reducible assumption|refine And.intro ?_ ?_|intro hp));all_goals (first|(refine hQ _ ?_;clear hQ Q)|(refine hQ _ (fun h=>?_) (fun h=>?_) <;> clear hQ Q <;> (try simp only [vki,reduceCtorEq] at h))|(refine vq ?_;kernel_rfl)|omega|assumption|with_reducible rfl|skip)))
      (simp only [vrt,Try.results34,vkt,seval,tbE32_rShift,xbE32_3,aTrs,aTks,eTr,gTr,eTk,rTk,rCabin,mTk,mCabin,aChart,cChart,sf1S,pCopied,srtks,List.length_map];refine Fin.val rfl ?_;(try simp only [AV.le,AV.leL]))
      all_goals first|rfl|(simp;done)|(refine ⟨⟨⟨_,_,rfl⟩, ?_,⟨_,_,rfl⟩, ?_⟩, ?_⟩ <;> first|trivial|rfl|(simp;done)|exact ⟨rfl,trivial⟩)
    |false =>
      repeat' (first|(apply nx;with_reducible constructor)|refine uq (by decide) ?_|((first|refine vx env fun Q hQ=>?_|refine vz fun Q hQ=>?_);simp only [vkt,seval,tbE32_rShift,xbE32_3,aTrs,aTks,eTr,gTr,eTk,rTk,rCabin,mTk,mCabin,aChart,cChart,sf1S,pCopied,srtks,List.length_map,d1,hcar,hM1,q];(try simp only [ite_and]);(repeat' (first|with_reducible assumption|refine And.intro ?_ ?_|intro hp));all_goals (first|(refine hQ _ ?_;clear hQ Q)|(refine hQ _ (fun h=>?_) (fun h=>?_) <;> clear hQ Q <;> (try simp only [vki,reduceCtorEq] at h))|(refine vq ?_;kernel_rfl)|omega|assumption|with_reducible rfl|skip)))
      (simp only [vrt,Try.results34,vkt,seval,tbE32_rShift,xbE32_3,aTrs,aTks,eTr,gTr,eTk,rTk,rCabin,mTk,mCabin,aChart,cChart,sf1S,pCopied,srtks,List.length_map];refine Fin.val rfl ?_;(try simp only [AV.le,AV.leL]))
      all_goals first|rfl|(simp;done)|(refine ⟨⟨⟨_,_,rfl⟩, ?_,⟨_,_,rfl⟩, ?_⟩, ?_⟩ <;> first|trivial|rfl|(simp;done)|exact ⟨rfl,trivial⟩)
def srShift:List AV→Prop × AV
  |[.agg [.sl x0,.v (.int .i64 x1),.sl x2],.sl l]=>(x0=(x0.map dCabin).map eCabin∧x2=(x2.map dTk).map eTk∧l=(l.map dTr).map eTr∧CarOk ((⟨(x0.map dCabin),x1,(x2.map dTk)⟩:Chart))∧((⟨(x0.map dCabin),x1,(x2.map dTk)⟩:Chart)).sold.length≤100∧(l.map dTr).length≤1000∧(∀ t ∈ (l.map dTr),0≤t.ticket∧t.ticket.toNat < ((⟨(x0.map dCabin),x1,(x2.map dTk)⟩:Chart)).sold.length),.tup [aChart ⟨((⟨(x0.map dCabin),x1,(x2.map dTk)⟩:Chart)).cabins,((⟨(x0.map dCabin),x1,(x2.map dTk)⟩:Chart)).secs,(sfP ((⟨(x0.map dCabin),x1,(x2.map dTk)⟩:Chart)).sold (l.map dTr)).1⟩,aB ((sfP ((⟨(x0.map dCabin),x1,(x2.map dTk)⟩:Chart)).sold (l.map dTr)).2 && decide (ticketsE ⟨((⟨(x0.map dCabin),x1,(x2.map dTk)⟩:Chart)).cabins,((⟨(x0.map dCabin),x1,(x2.map dTk)⟩:Chart)).secs,(sfP ((⟨(x0.map dCabin),x1,(x2.map dTk)⟩:Chart)).sold (l.map dTr)).1⟩ (sfP ((⟨(x0.map dCabin),x1,(x2.map dTk)⟩:Chart)).sold (l.map dTr)).1=0))])
  |_=>(False,.junk)
theorem erShift {A:Frm→Prop}:EntryOK A Try.prog 34 (valE false srShift):=valE_ok fun vs hv h=>by
  clear hv
  unfold srShift at h ⊢
  split at h
  · rename_i x0 x1 x2 l;obtain ⟨q0,q1,q2,k0,k1,k2,k3⟩:=h
    refine ⟨by first|trivial|(simp [AV.plain,AV.plainL,aI,aB,aInts,aBunks,aTks,aBunk,aTk,cTk];done)|(repeat' split) <;> simp [AV.plain,AV.plainL,aI,aB,aInts,aBunks,aTks,aBunk,aTk,cTk],fun h=>absurd h (by decide), ?_⟩
    have:=rShift_fn ((⟨(x0.map dCabin),x1,(x2.map dTk)⟩:Chart)) (l.map dTr) k0 k1 k2 k3
    simp only [aCabins,aChart,aI,aTks,aTrs,cChart,← q0,← q1,← q2] at this
    first|exact this|(simp only [aCabins,aChart,aI,aTks,aTrs,cChart,← q0,← q1,← q2];exact this)
  · exact h.elim
end Go.Sym.B
namespace Go.Sym.B
open Go Go.Sym Go.Proofs Go.Sym.C
theorem tick_check {c:Chart} (hc:CarOk c) (h8:c.sold.length≤8) (h:ticketsE c c.sold=0):checkE c=0:=by
  unfold checkE
  rw [car_zero hc h8,if_neg (fun h=>h rfl)]
  exact h
theorem check_tick {c:Chart} (h:checkE c=0):ticketsE c c.sold=0:=by
  unfold checkE at h
  split at h
  · exact absurd h ‹_›
  · exact h
theorem ask_par {c:Chart} {a:Ask} (h:bothE c a=0):1≤a.party∧a.party≤99:=by
  have h:=(both_ok h).2
  unfold askE at h
  split at h
  · exact absurd h (by decide)
  rename_i h1
  exact inB_iff.1 (by simpa using h1)
theorem both_as {c:Chart} {a:Ask} {l:List Tk} (h:bothE c a=0) (hl:checkE ⟨c.cabins,c.secs,l⟩=0) (hp:∀ t ∈ l,t.party ≠ a.party):bothE ⟨c.cabins,c.secs,l⟩ a=0:=askP_ok (P:=a.party) h rfl hl (ask_par h) hp
def onB1 (C:Chart) (A:Ask) (n:Int) (b:Bunk):Bool:=(sfP C.sold [⟨n,b.cab,b.bed⟩]).2 && decide (ticketsE ⟨C.cabins,C.secs,(sfP C.sold [⟨n,b.cab,b.bed⟩]).1⟩ (sfP C.sold [⟨n,b.cab,b.bed⟩]).1=0) && !(plP ⟨C.cabins,C.secs,(sfP C.sold [⟨n,b.cab,b.bed⟩]).1⟩ A).isEmpty
def onRow (C:Chart) (A:Ask) (n:Int):Bool:=(bunksL C.cabins).any (onB1 C A n)
theorem on_iff {C:Chart} {A:Ask} (hv:Val C):(loneL C.sold).any (onRow C A)=true ↔ oneP C A:=by
  rw [List.any_eq_true]
  unfold oneP onRow
  refine exists_congr fun n=>and_congr_right fun hn=>?_
  rw [List.any_eq_true]
  refine exists_congr fun b=>and_congr_right fun hb=>?_
  unfold onB1
  have hs:sfP C.sold [⟨n,b.cab,b.bed⟩]=if (C.sold.getD n.toNat default).bunk=b then (C.sold,false) else (putB C.sold n.toNat b,true):=by
    rw [sfP];rfl
  rw [hs]
  by_cases hq:(C.sold.getD n.toNat default).bunk=b
  · rw [if_pos hq]
    exact ⟨fun h=>absurd h (by simp),fun h=>absurd hq h.1⟩
  · rw [if_neg hq]
    have hc:ticketsE ⟨C.cabins,C.secs,putB C.sold n.toNat b⟩ (putB C.sold n.toNat b)=0 ↔ checkE ⟨C.cabins,C.secs,putB C.sold n.toNat b⟩=0 :=
      ⟨fun h=>tick_check (c:=⟨C.cabins,C.secs,putB C.sold n.toNat b⟩) (hv.car.to' _) (by show (putB C.sold n.toNat b).length≤8;rw [putB_len];exact hv.many) h,fun h=>check_tick h⟩
    simp only [Bool.true_and,Bool.and_eq_true,decide_eq_true_eq,hc,Bool.not_eq_true',List.isEmpty_eq_false_iff]
    exact ⟨fun ⟨h1,h2⟩=>⟨hq,h1,h2⟩,fun ⟨_,h1,h2⟩=>⟨h1,h2⟩⟩
theorem anyI_succ {l:List Int} {p:Int→Bool} {k:Nat} (h:k < l.length):(l.take (k+1)).any p=((l.take k).any p || p (l.getD k 0)):=by
  rw [List.take_succ_eq_append_getElem h,List.any_append]
  simp [List.getD_eq_getElem?_getD,h]
theorem anyB_succ {l:List Bunk} {p:Bunk→Bool} {k:Nat} (h:k < l.length):(l.take (k+1)).any p=((l.take k).any p || p (l.getD k default)):=by
  rw [List.take_succ_eq_append_getElem h,List.any_append]
  simp [List.getD_eq_getElem?_getD,h]
def mwS (C:Chart) (A:Ask) (l:List Tr) (e:Int) (L:List (List Bunk)) (T:List (Nat × AV)):St:={ t:=asg (T++[(4,.ptr 1 0),(5,.ptr 2 0),(6,aTrs l),(7,aI e),(8,.row 3)]),h:=hasg [(1,.cells (cChart C)),(2,.cells (cAsk A)),(3,.row 37 1 (L.map eBunks))],n:=4 }
def tbE33_law:=vj @ty3 (vj @ty4 (vj @ty22 (vj @ty28 (vj @ty31 (vj @ty33 (vj @ty34 (vj @ty37 (vj @ty49 (vj @ty58 (vj @ty65 (vj @ti3.eq_1 (vj @ti4.eq_1 (vj @ti22.eq_1 (vj @ti28.eq_1 (vj @ti31.eq_1 (vj @ti33.eq_1 (vj @ti34.eq_1 (vj @ti37.eq_1 (vj @ti49.eq_1 (vj @ti58.eq_1 @ti65.eq_1))))))))))))))))))))
def xbE33_1:=vj @aI.eq_1 (vj @aB.eq_1 (vj @aInts.eq_1 (vj @eInt.eq_1 (vj @gInt (@mInt)))))
set_option maxRecDepth 100000 in
set_option maxHeartbeats 40000000 in
theorem movedLaw_fn (nums:List Int) (hnums:nums.length≤maxLen):FnV Try.prog 6 [aInts nums] (aB true):=by
  have env:Env (fun _=>True) Try.prog tyB (tab [(15,fnE pBag),(16,fnE pChartOf),(17,fnE pAskedOf),(32,valE false sMovedF),(18,fnE pPlacesF),(33,valE false srLone),(22,valE false srBunks),(34,valE false srShift),(35,valE true sSeat),(25,valE true sselling)]):=mkEnv ⟨eBag,eChartOf,eAskedOf,eMovedF,ePlacesF,erLone,erBunks,erShift,eSeat,eselling,trivial⟩
  refine Fn.of (A:=fun _=>True) (n0:=0) (D:=noD) (Fn0 Try.func6 rfl (fun vs w=>by kernel_rfl) (by kernel_rfl)) (by simp) (by simp [AV.ids,AV.idsL,aInts]) (fun i o h=>by cases h) (fun _ _ _ _=>trivial) noD_ok ?_
  obtain ⟨x0,hx0⟩:∃ x,nbS nums=x:=⟨_,rfl⟩
  obtain ⟨hC0,hCp,hCs,hCc,hCg⟩:=co_ok (x:=x0) (a:=2) (g:=3) (s:=5) (by decide) (by decide) (by decide)
  obtain ⟨C,hC⟩:∃ C,coC x0 2 3 5=C:=⟨_,rfl⟩
  obtain ⟨x1,hx1⟩:∃ x,coX x0 2 3 5=x:=⟨_,rfl⟩
  rw [hC] at hC0 hCp hCs hCc hCg
  obtain ⟨hA0,hA1,hA2⟩:=ao_ok (x:=x1) (n:=2) hC0 hCp (by decide)
  obtain ⟨A,hA⟩:∃ A,aoA x1 C.secs 2=A:=⟨_,rfl⟩
  rw [hA] at hA0 hA1 hA2
  have hv:=val_of hC0
  have hsec:=hv.car.secs
  have hcab:=hv.car.cabs
  have hbds:=hv.car.beds
  have hCar:=hv.car
  have hman:=hv.many
  have hmx:(100000:Nat)≤maxLen:=by decide
  have eC:(⟨C.cabins,C.secs,C.sold⟩:Chart)=C:=rfl
  have eA:(⟨A.party,A.frm,A.to,A.sexes,A.dog⟩:Ask)=A:=rfl
  have c1:C.cabins.length≤maxLen:=by omega
  have c2:A.sexes.length≤maxLen:=by omega
  have c3:C.sold.length≤100:=by omega
  have c6:C.cabins.length≤3:=by omega
  have c7:∀ x ∈ C.cabins,x.beds≤3:=fun x hx=>(hbds x hx).2
  have c8:=bunks_n c6 hbds
  have hPl:placesA C A=(plP C A).map (·.1):=by unfold placesA;rw [if_pos hA0]
  have hLn:placesA C A=[] ↔ plP C A=[]:=by rw [hPl,List.map_eq_nil_iff]
  obtain ⟨L,hL⟩:∃ L,placesA C A=L:=⟨_,rfl⟩
  rw [hL] at hLn
  have hmc:=moved_cases hA0
  have hlon:=lone_len C.sold
  have hlob:=fun n h=>lone_bd (sold:=C.sold) n h
  have hon:=on_iff (A:=A) hv
  obtain ⟨⟨l,e⟩,hMv⟩:∃ q,movedA C A=q:=⟨_,rfl⟩
  rw [hMv] at hmc
  have hsum:(e=0∨e=11)∧l.length≤2∧((e=0∧l=[]) ↔ L ≠ [])∧(L=[]→(oneP C A ↔ (e=0∧l.length=1)))∧(e ≠ 0→l=[])∧(e=0→(l.map (·.ticket)).Pairwise (· < ·)∧(∀ t ∈ l,t.ticket ∈ loneL C.sold)∧∃ s,sfA C.sold l=some s∧checkE ⟨C.cabins,C.secs,s⟩=0∧plP ⟨C.cabins,C.secs,s⟩ A ≠ []):=by
    rcases hmc with ⟨h1,h2⟩|⟨h1,⟨t,h2,h3⟩|⟨h2,⟨l',h3,h4⟩|h3⟩⟩
    · cases h2
      exact ⟨.inl rfl,by simp,⟨fun _ h=>h1 (hLn.1 h),fun _=>⟨rfl,rfl⟩⟩,fun h=>absurd (hLn.1 h) h1,fun h=>absurd rfl h,fun _=>⟨List.Pairwise.nil,fun t ht=>by simp at ht,C.sold,rfl,hC0,h1⟩⟩
    · cases h2
      obtain ⟨g1,g2,g3,g4⟩:=movedN_ok h3
      exact ⟨.inl rfl,by simp,⟨fun h=>by simp at h,fun h=>absurd (hLn.2 h1) h⟩,fun _=>⟨fun _=>⟨rfl,rfl⟩,fun _=>moved_one.1 (by rw [h3];simp)⟩,fun h=>absurd rfl h,fun _=>⟨g2,g3,g4⟩⟩
    · cases h3
      obtain ⟨g1,g2,g3,g4⟩:=movedN_ok h4
      exact ⟨.inl rfl,by omega,⟨fun h=>by rw [h.2] at g1;simp at g1,fun h=>absurd (hLn.2 h1) h⟩,fun _=>⟨fun h=>absurd h h2,fun h=>by omega⟩,fun h=>absurd rfl h,fun _=>⟨g2,g3,g4⟩⟩
    · cases h3
      exact ⟨.inr rfl,by simp,⟨fun h=>by simp at h,fun h=>absurd (hLn.2 h1) h⟩,fun _=>⟨fun h=>absurd h h2,fun h=>by simp at h⟩,fun _=>rfl,fun h=>absurd h (by decide)⟩
  clear hmc
  obtain ⟨s1,s2,s3,s4,s5,s6⟩:=hsum
  repeat' (first|(apply nx;with_reducible constructor)|refine uq (by decide) ?_)
  ((first|refine vx env fun Q hQ=>?_|refine vz fun Q hQ=>?_);simp only [vkt,seval,tbE33_law,xbE33_1,aBunk,aBunks,aTrs,eBunk,eBunks,eTr,gBunk,gTr,rTr,mBunk,mTr,mCabin,mTk,aChart,cChart,aAsk,cAsk,mwS,pBag,pChartOf,pAskedOf,sMovedF,pPlacesF,srLone,srBunks,srShift,sSeat,sselling,List.length_map];(try simp only [ite_and]);(repeat' (first|with_reducible assumption|refine And.intro ?_ ?_|intro hp));all_goals (first|(refine hQ _ ?_;clear hQ Q)|(refine hQ _ (fun h=>?_) (fun h=>?_) <;> clear hQ Q <;> (try simp only [vki,reduceCtorEq] at h))|(refine vq ?_;kernel_rfl)|omega|assumption|with_reducible rfl|skip))
  repeat' (first|(apply nx;with_reducible constructor)|refine uq (by decide) ?_)
  ((first|refine vx env fun Q hQ=>?_|refine vz fun Q hQ=>?_);simp only [vkt,seval,tbE33_law,xbE33_1,aBunk,aBunks,aTrs,eBunk,eBunks,eTr,gBunk,gTr,rTr,mBunk,mTr,mCabin,mTk,aChart,cChart,aAsk,cAsk,mwS,pBag,pChartOf,pAskedOf,sMovedF,pPlacesF,srLone,srBunks,srShift,sSeat,sselling,List.length_map,hx0];(try simp only [ite_and]);(repeat' (first|with_reducible assumption|refine And.intro ?_ ?_|intro hp));all_goals (first|(refine hQ _ ?_;clear hQ Q)|(refine hQ _ (fun h=>?_) (fun h=>?_) <;> clear hQ Q <;> (try simp only [vki,reduceCtorEq] at h))|(refine vq ?_;kernel_rfl)|omega|assumption|with_reducible rfl|skip))
  repeat' (first|(apply nx;with_reducible constructor)|refine uq (by decide) ?_)
  ((first|refine vx env fun Q hQ=>?_|refine vz fun Q hQ=>?_);simp only [vkt,seval,tbE33_law,xbE33_1,aBunk,aBunks,aTrs,eBunk,eBunks,eTr,gBunk,gTr,rTr,mBunk,mTr,mCabin,mTk,aChart,cChart,aAsk,cAsk,mwS,pBag,pChartOf,pAskedOf,sMovedF,pPlacesF,srLone,srBunks,srShift,sSeat,sselling,List.length_map,hC,hx1];(try simp only [ite_and]);(repeat' (first|with_reducible assumption|refine And.intro ?_ ?_|intro hp));all_goals (first|(refine hQ _ ?_;clear hQ Q)|(refine hQ _ (fun h=>?_) (fun h=>?_) <;> clear hQ Q <;> (try simp only [vki,reduceCtorEq] at h))|(refine vq ?_;kernel_rfl)|omega|assumption|with_reducible rfl|skip))
  repeat' (first|(apply nx;with_reducible constructor)|refine uq (by decide) ?_)
  ((first|refine vx env fun Q hQ=>?_|refine vz fun Q hQ=>?_);simp only [vkt,seval,tbE33_law,xbE33_1,aBunk,aBunks,aTrs,eBunk,eBunks,eTr,gBunk,gTr,rTr,mBunk,mTr,mCabin,mTk,aChart,cChart,aAsk,cAsk,mwS,pBag,pChartOf,pAskedOf,sMovedF,pPlacesF,srLone,srBunks,srShift,sSeat,sselling,List.length_map,hA,hsec];(try simp only [ite_and]);(repeat' (first|with_reducible assumption|refine And.intro ?_ ?_|intro hp));all_goals (first|(refine hQ _ ?_;clear hQ Q)|(refine hQ _ (fun h=>?_) (fun h=>?_) <;> clear hQ Q <;> (try simp only [vki,reduceCtorEq] at h))|(refine vq ?_;kernel_rfl)|omega|assumption|with_reducible rfl|skip))
  repeat' (first|(apply nx;with_reducible constructor)|refine uq (by decide) ?_)
  ((first|refine vx env fun Q hQ=>?_|refine vz fun Q hQ=>?_);simp only [vkt,seval,tbE33_law,xbE33_1,aBunk,aBunks,aTrs,eBunk,eBunks,eTr,gBunk,gTr,rTr,mBunk,mTr,mCabin,mTk,aChart,cChart,aAsk,cAsk,mwS,pBag,pChartOf,pAskedOf,sMovedF,pPlacesF,srLone,srBunks,srShift,sSeat,sselling,List.length_map,eC,eA,c1,c2,hMv];(try simp only [ite_and]);(repeat' (first|with_reducible assumption|refine And.intro ?_ ?_|intro hp));all_goals (first|(refine hQ _ ?_;clear hQ Q)|(refine hQ _ (fun h=>?_) (fun h=>?_) <;> clear hQ Q <;> (try simp only [vki,reduceCtorEq] at h))|(refine vq ?_;kernel_rfl)|omega|assumption|with_reducible rfl|skip))
  repeat' (first|(apply nx;with_reducible constructor)|refine uq (by decide) ?_)
  ((first|refine vx env fun Q hQ=>?_|refine vz fun Q hQ=>?_);simp only [vkt,seval,tbE33_law,xbE33_1,aBunk,aBunks,aTrs,eBunk,eBunks,eTr,gBunk,gTr,rTr,mBunk,mTr,mCabin,mTk,aChart,cChart,aAsk,cAsk,mwS,pBag,pChartOf,pAskedOf,sMovedF,pPlacesF,srLone,srBunks,srShift,sSeat,sselling,List.length_map,eC,eA,c1,c2,hL,hA0];(try simp only [ite_and]);(repeat' (first|with_reducible assumption|refine And.intro ?_ ?_|intro hp));all_goals (first|(refine hQ _ ?_;clear hQ Q)|(refine hQ _ (fun h=>?_) (fun h=>?_) <;> clear hQ Q <;> (try simp only [vki,reduceCtorEq] at h))|(refine vq ?_;kernel_rfl)|omega|assumption|with_reducible rfl|skip))
  repeat' (first|(apply nx;with_reducible constructor)|refine uq (by decide) ?_)
  refine Sym.mono (K:=fun e1 S1=>e1=.normal∧Le S1 (mwS C A l e L [(70,aB false)])) ?_ ?_
  · have d2:decide ((2:Int) < (l.length:Int))=false:=decide_eq_false (by omega)
    rcases s1 with h0|h0
    · by_cases hl0:l=[]
      · have d3:decide ((l.length:Int)=0)=true:=decide_eq_true (by rw [hl0];rfl)
        have d4:decide ((0:Int) < (L.length:Int))=true:=decide_eq_true (by have:=List.length_pos_iff.2 (s3.1 ⟨h0,hl0⟩);omega)
        have d5:decide (e=0)=true:=decide_eq_true h0
        ((first|refine vx env fun Q hQ=>?_|refine vz fun Q hQ=>?_);simp only [vkt,seval,tbE33_law,xbE33_1,aBunk,aBunks,aTrs,eBunk,eBunks,eTr,gBunk,gTr,rTr,mBunk,mTr,mCabin,mTk,aChart,cChart,aAsk,cAsk,mwS,pBag,pChartOf,pAskedOf,sMovedF,pPlacesF,srLone,srBunks,srShift,sSeat,sselling,List.length_map,d2,d3,d4,d5,decide_true,Bool.not_true,Bool.not_false];(try simp only [ite_and]);(repeat' (first|with_reducible assumption|refine And.intro ?_ ?_|intro hp));all_goals (first|(refine hQ _ ?_;clear hQ Q)|(refine hQ _ (fun h=>?_) (fun h=>?_) <;> clear hQ Q <;> (try simp only [vki,reduceCtorEq] at h))|(refine vq ?_;kernel_rfl)|omega|assumption|with_reducible rfl|skip))
        refine ⟨rfl, ?_⟩
        simp only [mwS,List.cons_append,List.nil_append]
        (refine Le.ok some [] ?_;constructor;all_goals (try simp only [vle,vkt,seval,tbE33_law,xbE33_1,aBunk,aBunks,aTrs,eBunk,eBunks,eTr,gBunk,gTr,rTr,mBunk,mTr,mCabin,mTk,aChart,cChart,aAsk,cAsk,mwS,pBag,pChartOf,pAskedOf,sMovedF,pPlacesF,srLone,srBunks,srShift,sSeat,sselling,List.length_map]))
        all_goals first|rfl|(simp;done)
      · have d3:decide ((l.length:Int)=0)=false:=decide_eq_false (by have:=List.length_pos_iff.2 hl0;omega)
        have hL0:L=[]:=Classical.not_not.1 fun h=>hl0 (s3.2 h).2
        have d4:decide ((0:Int) < (L.length:Int))=false:=by rw [hL0];rfl
        have d5:decide (e=0)=true:=decide_eq_true h0
        ((first|refine vx env fun Q hQ=>?_|refine vz fun Q hQ=>?_);simp only [vkt,seval,tbE33_law,xbE33_1,aBunk,aBunks,aTrs,eBunk,eBunks,eTr,gBunk,gTr,rTr,mBunk,mTr,mCabin,mTk,aChart,cChart,aAsk,cAsk,mwS,pBag,pChartOf,pAskedOf,sMovedF,pPlacesF,srLone,srBunks,srShift,sSeat,sselling,List.length_map,d2,d3,d4,d5,decide_true,Bool.not_true,Bool.not_false];(try simp only [ite_and]);(repeat' (first|with_reducible assumption|refine And.intro ?_ ?_|intro hp));all_goals (first|(refine hQ _ ?_;clear hQ Q)|(refine hQ _ (fun h=>?_) (fun h=>?_) <;> clear hQ Q <;> (try simp only [vki,reduceCtorEq] at h))|(refine vq ?_;kernel_rfl)|omega|assumption|with_reducible rfl|skip))
        refine ⟨rfl, ?_⟩
        simp only [mwS,List.cons_append,List.nil_append]
        (refine Le.ok some [] ?_;constructor;all_goals (try simp only [vle,vkt,seval,tbE33_law,xbE33_1,aBunk,aBunks,aTrs,eBunk,eBunks,eTr,gBunk,gTr,rTr,mBunk,mTr,mCabin,mTk,aChart,cChart,aAsk,cAsk,mwS,pBag,pChartOf,pAskedOf,sMovedF,pPlacesF,srLone,srBunks,srShift,sSeat,sselling,List.length_map]))
        all_goals first|rfl|(simp;done)
    · have hL0:L=[]:=Classical.not_not.1 fun h=>by have:=(s3.2 h).1;omega
      have d4:decide ((0:Int) < (L.length:Int))=false:=by rw [hL0];rfl
      have d5:decide (e=0)=false:=decide_eq_false (by omega)
      have d6:decide (e=11)=true:=decide_eq_true h0
      ((first|refine vx env fun Q hQ=>?_|refine vz fun Q hQ=>?_);simp only [vkt,seval,tbE33_law,xbE33_1,aBunk,aBunks,aTrs,eBunk,eBunks,eTr,gBunk,gTr,rTr,mBunk,mTr,mCabin,mTk,aChart,cChart,aAsk,cAsk,mwS,pBag,pChartOf,pAskedOf,sMovedF,pPlacesF,srLone,srBunks,srShift,sSeat,sselling,List.length_map,d2,d4,d5,d6,decide_true,Bool.not_true,Bool.not_false];(try simp only [ite_and]);(repeat' (first|with_reducible assumption|refine And.intro ?_ ?_|intro hp));all_goals (first|(refine hQ _ ?_;clear hQ Q)|(refine hQ _ (fun h=>?_) (fun h=>?_) <;> clear hQ Q <;> (try simp only [vki,reduceCtorEq] at h))|(refine vq ?_;kernel_rfl)|omega|assumption|with_reducible rfl|skip))
      refine ⟨rfl, ?_⟩
      simp only [mwS,List.cons_append,List.nil_append]
      (refine Le.ok some [] ?_;constructor;all_goals (try simp only [vle,vkt,seval,tbE33_law,xbE33_1,aBunk,aBunks,aTrs,eBunk,eBunks,eTr,gBunk,gTr,rTr,mBunk,mTr,mCabin,mTk,aChart,cChart,aAsk,cAsk,mwS,pBag,pChartOf,pAskedOf,sMovedF,pPlacesF,srLone,srBunks,srShift,sSeat,sselling,List.length_map]))
      all_goals first|rfl|(simp;done)
  rintro e1 S1 ⟨rfl,hle⟩
  refine (sym_le hle ?_:Sym _ _ _ S1 _)
  clear hle S1
  simp only [mwS,List.cons_append,List.nil_append]
  obtain ⟨Q,hQ⟩:∃ Q,loneL C.sold=Q:=⟨_,rfl⟩
  obtain ⟨BS,hBS⟩:∃ BS,bunksL C.cabins=BS:=⟨_,rfl⟩
  have hrw:∀ n,onRow C A n=BS.any (onB1 C A n):=fun n=>by unfold onRow;rw [hBS]
  rw [hQ] at hlon hlob hon s6
  rw [hBS] at c8
  repeat' (first|(apply nx;with_reducible constructor)|refine uq (by decide) ?_|((first|refine vx env fun Q hQ=>?_|refine vz fun Q hQ=>?_);simp only [vkt,seval,tbE33_law,xbE33_1,aBunk,aBunks,aTrs,eBunk,eBunks,eTr,gBunk,gTr,rTr,mBunk,mTr,mCabin,mTk,aChart,cChart,aAsk,cAsk,mwS,pBag,pChartOf,pAskedOf,sMovedF,pPlacesF,srLone,srBunks,srShift,sSeat,sselling,List.length_map,eC,c3,c6,c7,hQ,hBS];(try simp only [ite_and]);(repeat' (first|with_reducible assumption|refine And.intro ?_ ?_|intro hp));all_goals (first|(refine hQ _ ?_;clear hQ Q)|(refine hQ _ (fun h=>?_) (fun h=>?_) <;> clear hQ Q <;> (try simp only [vki,reduceCtorEq] at h))|(refine vq ?_;kernel_rfl)|omega|assumption|with_reducible rfl|skip)))
  refine sym_loop (fun i:{ i:Nat // i≤Q.length }=>mwS C A l e L [(10,aInts Q),(11,aBunks BS),(12,aB ((Q.take i.1).any (onRow C A))),(13,aI i.1)]) (fun i=>Q.length - i.1) ⟨0,Nat.zero_le _⟩ ?_ fun ⟨i,hi⟩=>?_
  · simp only [mwS,List.take_zero,List.any_nil,List.cons_append,List.nil_append]
    (refine Le.ok some [] ?_;constructor;all_goals (try simp only [vle,vkt,seval,tbE33_law,xbE33_1,aBunk,aBunks,aTrs,eBunk,eBunks,eTr,gBunk,gTr,rTr,mBunk,mTr,mCabin,mTk,aChart,cChart,aAsk,cAsk,mwS,pBag,pChartOf,pAskedOf,sMovedF,pPlacesF,srLone,srBunks,srShift,sSeat,sselling,List.length_map]))
    all_goals first|rfl|(rw [hQ];done)|(simp;done)
  simp only at hi ⊢
  by_cases hil:i < Q.length
  · have d1:decide ((i:Int) < (Q.length:Int))=true:=decide_eq_true (by omega)
    have e9:IntKind.wrap .i64 ((i:Int)+1)=((i+1:Nat):Int):=by rw [wrap64 (by omega) (by omega)];rfl
    have i0:((i:Int)).toNat=i:=rfl
    have hS:=anyI_succ (p:=onRow C A) hil
    have hnb:=hlob _ (gMem (d:=0) hil)
    obtain ⟨n,hn⟩:∃ n,Q.getD i 0=n:=⟨_,rfl⟩
    obtain ⟨o,ho⟩:∃ o,(Q.take i).any (onRow C A)=o:=⟨_,rfl⟩
    rw [hn,ho,hrw] at hS
    rw [hn] at hnb
    simp only [mwS,ho,List.cons_append,List.nil_append]
    repeat' (first|(apply nx;with_reducible constructor)|refine uq (by decide) ?_|((first|refine vx env fun Q hQ=>?_|refine vz fun Q hQ=>?_);simp only [vkt,seval,tbE33_law,xbE33_1,aBunk,aBunks,aTrs,eBunk,eBunks,eTr,gBunk,gTr,rTr,mBunk,mTr,mCabin,mTk,aChart,cChart,aAsk,cAsk,mwS,pBag,pChartOf,pAskedOf,sMovedF,pPlacesF,srLone,srBunks,srShift,sSeat,sselling,List.length_map,d1];(try simp only [ite_and]);(repeat' (first|with_reducible assumption|refine And.intro ?_ ?_|intro hp));all_goals (first|(refine hQ _ ?_;clear hQ Q)|(refine hQ _ (fun h=>?_) (fun h=>?_) <;> clear hQ Q <;> (try simp only [vki,reduceCtorEq] at h))|(refine vq ?_;kernel_rfl)|omega|assumption|with_reducible rfl|skip)))
    refine sym_loop (fun k:{ k:Nat // k≤BS.length }=>mwS C A l e L [(10,aInts Q),(11,aBunks BS),(12,aB (o || (BS.take k.1).any (onB1 C A n))),(13,aI i),(14,aI k.1)]) (fun k=>BS.length - k.1) ⟨0,Nat.zero_le _⟩ ?_ fun ⟨k,hk⟩=>?_
    · simp only [mwS,List.take_zero,List.any_nil,Bool.or_false,List.cons_append,List.nil_append]
      (refine Le.ok some [] ?_;constructor;all_goals (try simp only [vle,vkt,seval,tbE33_law,xbE33_1,aBunk,aBunks,aTrs,eBunk,eBunks,eTr,gBunk,gTr,rTr,mBunk,mTr,mCabin,mTk,aChart,cChart,aAsk,cAsk,mwS,pBag,pChartOf,pAskedOf,sMovedF,pPlacesF,srLone,srBunks,srShift,sSeat,sselling,List.length_map]))
      all_goals first|rfl|(simp;done)
    simp only at hk ⊢
    obtain ⟨u,hu⟩:∃ u,(o || (BS.take k).any (onB1 C A n))=u:=⟨_,rfl⟩
    simp only [mwS,hu,List.cons_append,List.nil_append]
    by_cases hkl:k < BS.length
    · have d2:decide ((k:Int) < (BS.length:Int))=true:=decide_eq_true (by omega)
      have e8:IntKind.wrap .i64 ((k:Int)+1)=((k+1:Nat):Int):=by rw [wrap64 (by omega) (by omega)];rfl
      have k0:((k:Int)).toNat=k:=rfl
      have hB:=anyB_succ (p:=onB1 C A n) hkl
      obtain ⟨b,hb⟩:∃ b,BS.getD k default=b:=⟨_,rfl⟩
      have hB2:(o || (BS.take (k+1)).any (onB1 C A n))=(u || onB1 C A n b):=by rw [hB,hb,← Bool.or_assoc,hu]
      have hon1:onB1 C A n b=((sfP C.sold [⟨n,b.cab,b.bed⟩]).2 && decide (ticketsE ⟨C.cabins,C.secs,(sfP C.sold [⟨n,b.cab,b.bed⟩]).1⟩ (sfP C.sold [⟨n,b.cab,b.bed⟩]).1=0) && !(plP ⟨C.cabins,C.secs,(sfP C.sold [⟨n,b.cab,b.bed⟩]).1⟩ A).isEmpty):=rfl
      have htr:List.map dTr [[.v (.int .i64 n),.v (.int .i64 b.cab),.v (.int .i64 b.bed)]]=[⟨n,b.cab,b.bed⟩]:=rfl
      have hre:List.map eTr [⟨n,b.cab,b.bed⟩]=[[.v (.int .i64 n),.v (.int .i64 b.cab),.v (.int .i64 b.bed)]]:=rfl
      have htk:∀ t ∈ [(⟨n,b.cab,b.bed⟩:Tr)],0≤t.ticket∧t.ticket.toNat < C.sold.length:=fun t ht=>by rw [List.mem_singleton.1 ht];exact hnb
      have hpar:=sfP_party (ask_nobody hA0) htk
      have hsl:=sfP_len [⟨n,b.cab,b.bed⟩] C.sold
      have m1:(1:Nat)≤1000:=by decide
      obtain ⟨⟨s,g⟩,hsg⟩:∃ q,sfP C.sold [⟨n,b.cab,b.bed⟩]=q:=⟨_,rfl⟩
      rw [hsg] at hon1 hpar hsl
      simp only at hon1 hpar hsl
      obtain ⟨v,hvv⟩:∃ v,(g && decide (ticketsE ⟨C.cabins,C.secs,s⟩ s=0))=v:=⟨_,rfl⟩
      rw [hvv] at hon1
      cases v with
      |false =>
        rw [Bool.false_and] at hon1
        rw [hon1,Bool.or_false] at hB2
        repeat' (first|(apply nx;with_reducible constructor)|refine uq (by decide) ?_|((first|refine vx env fun Q hQ=>?_|refine vz fun Q hQ=>?_);simp only [vkt,seval,tbE33_law,xbE33_1,aBunk,aBunks,aTrs,eBunk,eBunks,eTr,gBunk,gTr,rTr,mBunk,mTr,mCabin,mTk,aChart,cChart,aAsk,cAsk,mwS,pBag,pChartOf,pAskedOf,sMovedF,pPlacesF,srLone,srBunks,srShift,sSeat,sselling,List.length_map,d2,e8,i0,k0,hil,hkl,hn,hb,htr,hre,htk,m1,hCar,c3,eC,hsg,hvv];(try simp only [ite_and]);(repeat' (first|with_reducible assumption|refine And.intro ?_ ?_|intro hp));all_goals (first|(refine hQ _ ?_;clear hQ Q)|(refine hQ _ (fun h=>?_) (fun h=>?_) <;> clear hQ Q <;> (try simp only [vki,reduceCtorEq] at h))|(refine vq ?_;kernel_rfl)|omega|assumption|with_reducible rfl|skip)))
        refine ⟨⟨k+1,hkl⟩,by show BS.length - (k+1) < BS.length - k;omega, ?_⟩
        simp only [mwS,hB2,List.cons_append,List.nil_append]
        (refine Le.ok some [] ?_;constructor;all_goals (try simp only [vle,vkt,seval,tbE33_law,xbE33_1,aBunk,aBunks,aTrs,eBunk,eBunks,eTr,gBunk,gTr,rTr,mBunk,mTr,mCabin,mTk,aChart,cChart,aAsk,cAsk,mwS,pBag,pChartOf,pAskedOf,sMovedF,pPlacesF,srLone,srBunks,srShift,sSeat,sselling,List.length_map]))
        all_goals first|rfl|(simp;done)
      |true =>
        have hck:checkE ⟨C.cabins,C.secs,s⟩=0:=by
          rw [Bool.and_eq_true,decide_eq_true_eq] at hvv
          exact tick_check (c:=⟨C.cabins,C.secs,s⟩) (hv.car.to' s) (by show s.length≤8;omega) hvv.2
        have hbo:=both_as hA0 hck hpar
        have hPD:placesA ⟨C.cabins,C.secs,s⟩ A=(plP ⟨C.cabins,C.secs,s⟩ A).map (·.1):=by unfold placesA;rw [if_pos hbo]
        obtain ⟨D,hD⟩:∃ D,(⟨C.cabins,C.secs,s⟩:Chart)=D:=⟨_,rfl⟩
        have eD:(⟨D.cabins,D.secs,D.sold⟩:Chart)=D:=rfl
        rw [hD] at hon1 hbo hPD hvv
        obtain ⟨N,hN⟩:∃ N,placesA D A=N:=⟨_,rfl⟩
        have hNe:decide ((0:Int) < (N.length:Int))=onB1 C A n b:=by
          rw [hon1,Bool.true_and,← hN,hPD,List.length_map]
          cases plP D A with
          |nil=>rfl
          |cons _ _=>first|(simp;done)|(simp;omega)
        cases u with
        |true =>
          rw [Bool.true_or] at hB2
          repeat' (first|(apply nx;with_reducible constructor)|refine uq (by decide) ?_|((first|refine vx env fun Q hQ=>?_|refine vz fun Q hQ=>?_);simp only [vkt,seval,tbE33_law,xbE33_1,aBunk,aBunks,aTrs,eBunk,eBunks,eTr,gBunk,gTr,rTr,mBunk,mTr,mCabin,mTk,aChart,cChart,aAsk,cAsk,mwS,pBag,pChartOf,pAskedOf,sMovedF,pPlacesF,srLone,srBunks,srShift,sSeat,sselling,List.length_map,d2,e8,i0,k0,hil,hkl,hn,hb,htr,hre,htk,m1,hCar,c3,eC,eA,hsg,hvv,hD,eD,c1,c2,hN,hbo,decide_true];(try simp only [ite_and]);(repeat' (first|with_reducible assumption|refine And.intro ?_ ?_|intro hp));all_goals (first|(refine hQ _ ?_;clear hQ Q)|(refine hQ _ (fun h=>?_) (fun h=>?_) <;> clear hQ Q <;> (try simp only [vki,reduceCtorEq] at h))|(refine vq ?_;kernel_rfl)|omega|assumption|with_reducible rfl|skip)))
          refine ⟨⟨k+1,hkl⟩,by show BS.length - (k+1) < BS.length - k;omega, ?_⟩
          simp only [mwS,hB2,List.cons_append,List.nil_append]
          (refine Le.ok some [] ?_;constructor;all_goals (try simp only [vle,vkt,seval,tbE33_law,xbE33_1,aBunk,aBunks,aTrs,eBunk,eBunks,eTr,gBunk,gTr,rTr,mBunk,mTr,mCabin,mTk,aChart,cChart,aAsk,cAsk,mwS,pBag,pChartOf,pAskedOf,sMovedF,pPlacesF,srLone,srBunks,srShift,sSeat,sselling,List.length_map]))
          all_goals first|rfl|(simp;done)
        |false =>
          rw [Bool.false_or] at hB2
          repeat' (first|(apply nx;with_reducible constructor)|refine uq (by decide) ?_|((first|refine vx env fun Q hQ=>?_|refine vz fun Q hQ=>?_);simp only [vkt,seval,tbE33_law,xbE33_1,aBunk,aBunks,aTrs,eBunk,eBunks,eTr,gBunk,gTr,rTr,mBunk,mTr,mCabin,mTk,aChart,cChart,aAsk,cAsk,mwS,pBag,pChartOf,pAskedOf,sMovedF,pPlacesF,srLone,srBunks,srShift,sSeat,sselling,List.length_map,d2,e8,i0,k0,hil,hkl,hn,hb,htr,hre,htk,m1,hCar,c3,eC,eA,hsg,hvv,hD,eD,c1,c2,hN,hbo,hNe,decide_true];(try simp only [ite_and]);(repeat' (first|with_reducible assumption|refine And.intro ?_ ?_|intro hp));all_goals (first|(refine hQ _ ?_;clear hQ Q)|(refine hQ _ (fun h=>?_) (fun h=>?_) <;> clear hQ Q <;> (try simp only [vki,reduceCtorEq] at h))|(refine vq ?_;kernel_rfl)|omega|assumption|with_reducible rfl|skip)))
          refine ⟨⟨k+1,hkl⟩,by show BS.length - (k+1) < BS.length - k;omega, ?_⟩
          simp only [mwS,hB2,List.cons_append,List.nil_append]
          (refine Le.ok some [] ?_;constructor;all_goals (try simp only [vle,vkt,seval,tbE33_law,xbE33_1,aBunk,aBunks,aTrs,eBunk,eBunks,eTr,gBunk,gTr,rTr,mBunk,mTr,mCabin,mTk,aChart,cChart,aAsk,cAsk,mwS,pBag,pChartOf,pAskedOf,sMovedF,pPlacesF,srLone,srBunks,srShift,sSeat,sselling,List.length_map]))
          all_goals first|rfl|(simp;done)
    · have d2:decide ((k:Int) < (BS.length:Int))=false:=decide_eq_false (by omega)
      obtain rfl:k=BS.length:=by omega
      rw [List.take_length] at hu
      rw [hu] at hS
      repeat' (first|(apply nx;with_reducible constructor)|refine uq (by decide) ?_|((first|refine vx env fun Q hQ=>?_|refine vz fun Q hQ=>?_);simp only [vkt,seval,tbE33_law,xbE33_1,aBunk,aBunks,aTrs,eBunk,eBunks,eTr,gBunk,gTr,rTr,mBunk,mTr,mCabin,mTk,aChart,cChart,aAsk,cAsk,mwS,pBag,pChartOf,pAskedOf,sMovedF,pPlacesF,srLone,srBunks,srShift,sSeat,sselling,List.length_map,d2,e9];(try simp only [ite_and]);(repeat' (first|with_reducible assumption|refine And.intro ?_ ?_|intro hp));all_goals (first|(refine hQ _ ?_;clear hQ Q)|(refine hQ _ (fun h=>?_) (fun h=>?_) <;> clear hQ Q <;> (try simp only [vki,reduceCtorEq] at h))|(refine vq ?_;kernel_rfl)|omega|assumption|with_reducible rfl|skip)))
      refine ⟨⟨i+1,hil⟩,by show Q.length - (i+1) < Q.length - i;omega, ?_⟩
      simp only [mwS,hS,List.cons_append,List.nil_append]
      (refine Le.ok some [] ?_;constructor;all_goals (try simp only [vle,vkt,seval,tbE33_law,xbE33_1,aBunk,aBunks,aTrs,eBunk,eBunks,eTr,gBunk,gTr,rTr,mBunk,mTr,mCabin,mTk,aChart,cChart,aAsk,cAsk,mwS,pBag,pChartOf,pAskedOf,sMovedF,pPlacesF,srLone,srBunks,srShift,sSeat,sselling,List.length_map]))
      all_goals first|rfl|(simp;done)
  · have d1:decide ((i:Int) < (Q.length:Int))=false:=decide_eq_false (by omega)
    obtain rfl:i=Q.length:=by omega
    rw [List.take_length]
    obtain ⟨o,ho⟩:∃ o,Q.any (onRow C A)=o:=⟨_,rfl⟩
    rw [ho] at hon ⊢
    simp only [mwS,List.cons_append,List.nil_append]
    repeat' (first|(apply nx;with_reducible constructor)|refine uq (by decide) ?_)
    ((first|refine vx env fun Q hQ=>?_|refine vz fun Q hQ=>?_);simp only [vkt,seval,tbE33_law,xbE33_1,aBunk,aBunks,aTrs,eBunk,eBunks,eTr,gBunk,gTr,rTr,mBunk,mTr,mCabin,mTk,aChart,cChart,aAsk,cAsk,mwS,pBag,pChartOf,pAskedOf,sMovedF,pPlacesF,srLone,srBunks,srShift,sSeat,sselling,List.length_map,d1];(try simp only [ite_and]);(repeat' (first|with_reducible assumption|refine And.intro ?_ ?_|intro hp));all_goals (first|(refine hQ _ ?_;clear hQ Q)|(refine hQ _ (fun h=>?_) (fun h=>?_) <;> clear hQ Q <;> (try simp only [vki,reduceCtorEq] at h))|(refine vq ?_;kernel_rfl)|omega|assumption|with_reducible rfl|skip))
    repeat' (first|(apply nx;with_reducible constructor)|refine uq (by decide) ?_)
    ((first|refine vx env fun Q hQ=>?_|refine vz fun Q hQ=>?_);simp only [vkt,seval,tbE33_law,xbE33_1,aBunk,aBunks,aTrs,eBunk,eBunks,eTr,gBunk,gTr,rTr,mBunk,mTr,mCabin,mTk,aChart,cChart,aAsk,cAsk,mwS,pBag,pChartOf,pAskedOf,sMovedF,pPlacesF,srLone,srBunks,srShift,sSeat,sselling,List.length_map,d1];(try simp only [ite_and]);(repeat' (first|with_reducible assumption|refine And.intro ?_ ?_|intro hp));all_goals (first|(refine hQ _ ?_;clear hQ Q)|(refine hQ _ (fun h=>?_) (fun h=>?_) <;> clear hQ Q <;> (try simp only [vki,reduceCtorEq] at h))|(refine vq ?_;kernel_rfl)|omega|assumption|with_reducible rfl|skip))
    repeat' (first|(apply nx;with_reducible constructor)|refine uq (by decide) ?_)
    refine Sym.mono (K:=fun e1 S1=>e1=.normal∧Le S1 (mwS C A l e L [(10,aInts Q),(130,aB false)])) ?_ ?_
    · by_cases hL0:L=[]
      · have d2:decide ((L.length:Int)=0)=true:=by rw [hL0];rfl
        have h4:=s4 hL0
        rw [← hon] at h4
        rcases s1 with h0|h0
        · have d5:decide (e=0)=true:=decide_eq_true h0
          have d6:decide ((l.length:Int)=1)=o:=by
            cases o with
            |true=>exact decide_eq_true (by have:=(h4.1 rfl).2;omega)
            |false=>exact decide_eq_false fun h=>absurd (h4.2 ⟨h0,by omega⟩) (by decide)
          cases o with
          |true =>
            ((first|refine vx env fun Q hQ=>?_|refine vz fun Q hQ=>?_);simp only [vkt,seval,tbE33_law,xbE33_1,aBunk,aBunks,aTrs,eBunk,eBunks,eTr,gBunk,gTr,rTr,mBunk,mTr,mCabin,mTk,aChart,cChart,aAsk,cAsk,mwS,pBag,pChartOf,pAskedOf,sMovedF,pPlacesF,srLone,srBunks,srShift,sSeat,sselling,List.length_map,d2,d5,d6,decide_true,Bool.not_true,Bool.not_false];(try simp only [ite_and]);(repeat' (first|with_reducible assumption|refine And.intro ?_ ?_|intro hp));all_goals (first|(refine hQ _ ?_;clear hQ Q)|(refine hQ _ (fun h=>?_) (fun h=>?_) <;> clear hQ Q <;> (try simp only [vki,reduceCtorEq] at h))|(refine vq ?_;kernel_rfl)|omega|assumption|with_reducible rfl|skip))
            refine ⟨rfl, ?_⟩
            simp only [mwS,List.cons_append,List.nil_append]
            (refine Le.ok some [] ?_;constructor;all_goals (try simp only [vle,vkt,seval,tbE33_law,xbE33_1,aBunk,aBunks,aTrs,eBunk,eBunks,eTr,gBunk,gTr,rTr,mBunk,mTr,mCabin,mTk,aChart,cChart,aAsk,cAsk,mwS,pBag,pChartOf,pAskedOf,sMovedF,pPlacesF,srLone,srBunks,srShift,sSeat,sselling,List.length_map]))
            all_goals first|rfl|(simp;done)
          |false =>
            ((first|refine vx env fun Q hQ=>?_|refine vz fun Q hQ=>?_);simp only [vkt,seval,tbE33_law,xbE33_1,aBunk,aBunks,aTrs,eBunk,eBunks,eTr,gBunk,gTr,rTr,mBunk,mTr,mCabin,mTk,aChart,cChart,aAsk,cAsk,mwS,pBag,pChartOf,pAskedOf,sMovedF,pPlacesF,srLone,srBunks,srShift,sSeat,sselling,List.length_map,d2,d5,d6,decide_true,Bool.not_true,Bool.not_false];(try simp only [ite_and]);(repeat' (first|with_reducible assumption|refine And.intro ?_ ?_|intro hp));all_goals (first|(refine hQ _ ?_;clear hQ Q)|(refine hQ _ (fun h=>?_) (fun h=>?_) <;> clear hQ Q <;> (try simp only [vki,reduceCtorEq] at h))|(refine vq ?_;kernel_rfl)|omega|assumption|with_reducible rfl|skip))
            refine ⟨rfl, ?_⟩
            simp only [mwS,List.cons_append,List.nil_append]
            (refine Le.ok some [] ?_;constructor;all_goals (try simp only [vle,vkt,seval,tbE33_law,xbE33_1,aBunk,aBunks,aTrs,eBunk,eBunks,eTr,gBunk,gTr,rTr,mBunk,mTr,mCabin,mTk,aChart,cChart,aAsk,cAsk,mwS,pBag,pChartOf,pAskedOf,sMovedF,pPlacesF,srLone,srBunks,srShift,sSeat,sselling,List.length_map]))
            all_goals first|rfl|(simp;done)
        · have d5:decide (e=0)=false:=decide_eq_false (by omega)
          have ho2:o=false:=by
            cases o with
            |true=>have:=(h4.1 rfl).1;omega
            |false=>rfl
          subst ho2
          ((first|refine vx env fun Q hQ=>?_|refine vz fun Q hQ=>?_);simp only [vkt,seval,tbE33_law,xbE33_1,aBunk,aBunks,aTrs,eBunk,eBunks,eTr,gBunk,gTr,rTr,mBunk,mTr,mCabin,mTk,aChart,cChart,aAsk,cAsk,mwS,pBag,pChartOf,pAskedOf,sMovedF,pPlacesF,srLone,srBunks,srShift,sSeat,sselling,List.length_map,d2,d5,decide_true,Bool.not_true,Bool.not_false];(try simp only [ite_and]);(repeat' (first|with_reducible assumption|refine And.intro ?_ ?_|intro hp));all_goals (first|(refine hQ _ ?_;clear hQ Q)|(refine hQ _ (fun h=>?_) (fun h=>?_) <;> clear hQ Q <;> (try simp only [vki,reduceCtorEq] at h))|(refine vq ?_;kernel_rfl)|omega|assumption|with_reducible rfl|skip))
          refine ⟨rfl, ?_⟩
          simp only [mwS,List.cons_append,List.nil_append]
          (refine Le.ok some [] ?_;constructor;all_goals (try simp only [vle,vkt,seval,tbE33_law,xbE33_1,aBunk,aBunks,aTrs,eBunk,eBunks,eTr,gBunk,gTr,rTr,mBunk,mTr,mCabin,mTk,aChart,cChart,aAsk,cAsk,mwS,pBag,pChartOf,pAskedOf,sMovedF,pPlacesF,srLone,srBunks,srShift,sSeat,sselling,List.length_map]))
          all_goals first|rfl|(simp;done)
      · have d2:decide ((L.length:Int)=0)=false:=decide_eq_false (by have:=List.length_pos_iff.2 hL0;omega)
        ((first|refine vx env fun Q hQ=>?_|refine vz fun Q hQ=>?_);simp only [vkt,seval,tbE33_law,xbE33_1,aBunk,aBunks,aTrs,eBunk,eBunks,eTr,gBunk,gTr,rTr,mBunk,mTr,mCabin,mTk,aChart,cChart,aAsk,cAsk,mwS,pBag,pChartOf,pAskedOf,sMovedF,pPlacesF,srLone,srBunks,srShift,sSeat,sselling,List.length_map,d2];(try simp only [ite_and]);(repeat' (first|with_reducible assumption|refine And.intro ?_ ?_|intro hp));all_goals (first|(refine hQ _ ?_;clear hQ Q)|(refine hQ _ (fun h=>?_) (fun h=>?_) <;> clear hQ Q <;> (try simp only [vki,reduceCtorEq] at h))|(refine vq ?_;kernel_rfl)|omega|assumption|with_reducible rfl|skip))
        refine ⟨rfl, ?_⟩
        simp only [mwS,List.cons_append,List.nil_append]
        (refine Le.ok some [] ?_;constructor;all_goals (try simp only [vle,vkt,seval,tbE33_law,xbE33_1,aBunk,aBunks,aTrs,eBunk,eBunks,eTr,gBunk,gTr,rTr,mBunk,mTr,mCabin,mTk,aChart,cChart,aAsk,cAsk,mwS,pBag,pChartOf,pAskedOf,sMovedF,pPlacesF,srLone,srBunks,srShift,sSeat,sselling,List.length_map]))
        all_goals first|rfl|(simp;done)
    rintro e1 S1 ⟨rfl,hle⟩
    refine (sym_le hle ?_:Sym _ _ _ S1 _)
    clear hle S1
    simp only [mwS,List.cons_append,List.nil_append]
    rcases s1 with h0|h0
    · obtain ⟨t1,t2,s,t3,t4,t5⟩:=s6 h0
      subst h0
      have hsf:=sfP_some t3
      have htk:∀ t ∈ l,0≤t.ticket∧t.ticket.toNat < C.sold.length:=fun t ht=>hlob _ (t2 t ht)
      have hpar:=sfP_party (ask_nobody hA0) htk
      rw [hsf] at hpar
      have hck:=check_tick t4
      have hbo:=both_as hA0 t4 hpar
      have hPD:placesA ⟨C.cabins,C.secs,s⟩ A=(plP ⟨C.cabins,C.secs,s⟩ A).map (·.1):=by unfold placesA;rw [if_pos hbo]
      have hck:(true && decide (ticketsE ⟨C.cabins,C.secs,s⟩ s=0))=true:=by rw [decide_eq_true hck];rfl
      have hck2:decide (ticketsE ⟨C.cabins,C.secs,s⟩ s=0)=true:=by rw [Bool.true_and] at hck;exact hck
      obtain ⟨D,hD⟩:∃ D,(⟨C.cabins,C.secs,s⟩:Chart)=D:=⟨_,rfl⟩
      have eD:(⟨D.cabins,D.secs,D.sold⟩:Chart)=D:=rfl
      rw [hD] at hbo hPD t5 hck hck2
      obtain ⟨N,hN⟩:∃ N,placesA D A=N:=⟨_,rfl⟩
      have hNe:decide ((0:Int) < (N.length:Int))=true:=decide_eq_true (by rw [← hN,hPD,List.length_map];have:=List.length_pos_iff.2 t5;omega)
      have m1:l.length≤1000:=by omega
      have m2:Q.length≤1000:=by omega
      repeat' (first|(apply nx;with_reducible constructor)|refine uq (by decide) ?_|((first|refine vx env fun Q hQ=>?_|refine vz fun Q hQ=>?_);simp only [vkt,seval,tbE33_law,xbE33_1,aBunk,aBunks,aTrs,eBunk,eBunks,eTr,gBunk,gTr,rTr,mBunk,mTr,mCabin,mTk,aChart,cChart,aAsk,cAsk,mwS,pBag,pChartOf,pAskedOf,sMovedF,pPlacesF,srLone,srBunks,srShift,sSeat,sselling,List.length_map];(try simp only [ite_and]);(repeat' (first|with_reducible assumption|refine And.intro ?_ ?_|intro hp));all_goals (first|(refine hQ _ ?_;clear hQ Q)|(refine hQ _ (fun h=>?_) (fun h=>?_) <;> clear hQ Q <;> (try simp only [vki,reduceCtorEq] at h))|(refine vq ?_;kernel_rfl)|omega|assumption|with_reducible rfl|skip)))
      refine sym_loop (fun i:{ i:Nat // i≤l.length }=>mwS C A l 0 L [(10,aInts Q),(19,aI i.1)]) (fun i=>l.length - i.1) ⟨0,Nat.zero_le _⟩ ?_ fun ⟨i,hi⟩=>?_
      · simp only [mwS,List.cons_append,List.nil_append]
        (refine Le.ok some [] ?_;constructor;all_goals (try simp only [vle,vkt,seval,tbE33_law,xbE33_1,aBunk,aBunks,aTrs,eBunk,eBunks,eTr,gBunk,gTr,rTr,mBunk,mTr,mCabin,mTk,aChart,cChart,aAsk,cAsk,mwS,pBag,pChartOf,pAskedOf,sMovedF,pPlacesF,srLone,srBunks,srShift,sSeat,sselling,List.length_map]))
        all_goals first|rfl|(simp;done)
      simp only at hi ⊢
      simp only [mwS,List.cons_append,List.nil_append]
      by_cases hil:i < l.length
      · have d3:decide ((i:Int) < (l.length:Int))=true:=decide_eq_true (by omega)
        have e9:IntKind.wrap .i64 ((i:Int)+1)=((i+1:Nat):Int):=by rw [wrap64 (by omega) (by omega)];rfl
        have i0:((i:Int)).toNat=i:=rfl
        have hst:=stK_mem (t2 _ (gMem (d:=default) hil))
        obtain ⟨x,hx⟩:∃ x,l.getD i default=x:=⟨_,rfl⟩
        rw [hx] at hst
        have d4:decide (stK Q x.ticket < 0)=false:=decide_eq_false (by omega)
        by_cases hi0:0 < i
        · have d5:decide ((0:Int) < (i:Int))=true:=decide_eq_true (by omega)
          have w2:IntKind.wrap .i64 ((i:Int) - 1)=((i - 1:Nat):Int):=by rw [wrap64 (by omega) (by omega)];omega
          have i1:(((i - 1:Nat):Int)).toNat=i - 1:=rfl
          have hi1:i - 1 < l.length:=by omega
          have hlt:=(List.pairwise_iff_getElem.1 t1) (i - 1) i (by simp;omega) (by simp;omega) (by omega)
          simp only [List.getElem_map] at hlt
          obtain ⟨z,hz⟩:∃ z,l.getD (i - 1) default=z:=⟨_,rfl⟩
          rw [show l[i - 1]=z by rw [← hz];simp [List.getD_eq_getElem?_getD,hi1],show l[i]=x by rw [← hx];simp [List.getD_eq_getElem?_getD,hil]] at hlt
          have d6:decide (x.ticket≤z.ticket)=false:=decide_eq_false (by omega)
          repeat' (first|(apply nx;with_reducible constructor)|refine uq (by decide) ?_|((first|refine vx env fun Q hQ=>?_|refine vz fun Q hQ=>?_);simp only [vkt,seval,tbE33_law,xbE33_1,aBunk,aBunks,aTrs,eBunk,eBunks,eTr,gBunk,gTr,rTr,mBunk,mTr,mCabin,mTk,aChart,cChart,aAsk,cAsk,mwS,pBag,pChartOf,pAskedOf,sMovedF,pPlacesF,srLone,srBunks,srShift,sSeat,sselling,List.length_map,d3,d4,d5,d6,e9,i0,i1,hil,hi1,hx,hz,w2,m2];(try simp only [ite_and]);(repeat' (first|with_reducible assumption|refine And.intro ?_ ?_|intro hp));all_goals (first|(refine hQ _ ?_;clear hQ Q)|(refine hQ _ (fun h=>?_) (fun h=>?_) <;> clear hQ Q <;> (try simp only [vki,reduceCtorEq] at h))|(refine vq ?_;kernel_rfl)|omega|assumption|with_reducible rfl|skip)))
          refine ⟨⟨i+1,hil⟩,by show l.length - (i+1) < l.length - i;omega, ?_⟩
          simp only [mwS,List.cons_append,List.nil_append]
          (refine Le.ok some [] ?_;constructor;all_goals (try simp only [vle,vkt,seval,tbE33_law,xbE33_1,aBunk,aBunks,aTrs,eBunk,eBunks,eTr,gBunk,gTr,rTr,mBunk,mTr,mCabin,mTk,aChart,cChart,aAsk,cAsk,mwS,pBag,pChartOf,pAskedOf,sMovedF,pPlacesF,srLone,srBunks,srShift,sSeat,sselling,List.length_map]))
          all_goals first|rfl|(simp;done)
        · have d5:decide ((0:Int) < (i:Int))=false:=decide_eq_false (by omega)
          repeat' (first|(apply nx;with_reducible constructor)|refine uq (by decide) ?_|((first|refine vx env fun Q hQ=>?_|refine vz fun Q hQ=>?_);simp only [vkt,seval,tbE33_law,xbE33_1,aBunk,aBunks,aTrs,eBunk,eBunks,eTr,gBunk,gTr,rTr,mBunk,mTr,mCabin,mTk,aChart,cChart,aAsk,cAsk,mwS,pBag,pChartOf,pAskedOf,sMovedF,pPlacesF,srLone,srBunks,srShift,sSeat,sselling,List.length_map,d3,d4,d5,e9,i0,hil,hx,m2];(try simp only [ite_and]);(repeat' (first|with_reducible assumption|refine And.intro ?_ ?_|intro hp));all_goals (first|(refine hQ _ ?_;clear hQ Q)|(refine hQ _ (fun h=>?_) (fun h=>?_) <;> clear hQ Q <;> (try simp only [vki,reduceCtorEq] at h))|(refine vq ?_;kernel_rfl)|omega|assumption|with_reducible rfl|skip)))
          refine ⟨⟨i+1,hil⟩,by show l.length - (i+1) < l.length - i;omega, ?_⟩
          simp only [mwS,List.cons_append,List.nil_append]
          (refine Le.ok some [] ?_;constructor;all_goals (try simp only [vle,vkt,seval,tbE33_law,xbE33_1,aBunk,aBunks,aTrs,eBunk,eBunks,eTr,gBunk,gTr,rTr,mBunk,mTr,mCabin,mTk,aChart,cChart,aAsk,cAsk,mwS,pBag,pChartOf,pAskedOf,sMovedF,pPlacesF,srLone,srBunks,srShift,sSeat,sselling,List.length_map]))
          all_goals first|rfl|(simp;done)
      · have d3:decide ((i:Int) < (l.length:Int))=false:=decide_eq_false (by omega)
        repeat' (first|(apply nx;with_reducible constructor)|refine uq (by decide) ?_|((first|refine vx env fun Q hQ=>?_|refine vz fun Q hQ=>?_);simp only [vkt,seval,tbE33_law,xbE33_1,aBunk,aBunks,aTrs,eBunk,eBunks,eTr,gBunk,gTr,rTr,mBunk,mTr,mCabin,mTk,aChart,cChart,aAsk,cAsk,mwS,pBag,pChartOf,pAskedOf,sMovedF,pPlacesF,srLone,srBunks,srShift,sSeat,sselling,List.length_map,d3,eC,eA,hCar,c3,m1,htk,hsf,hck,hck2,hD,eD,c1,c2,hN,hbo,hNe,decide_true];(try simp only [ite_and]);(repeat' (first|with_reducible assumption|refine And.intro ?_ ?_|intro hp));all_goals (first|(refine hQ _ ?_;clear hQ Q)|(refine hQ _ (fun h=>?_) (fun h=>?_) <;> clear hQ Q <;> (try simp only [vki,reduceCtorEq] at h))|(refine vq ?_;kernel_rfl)|omega|assumption|with_reducible rfl|skip)))
        (simp only [vrt,Try.results6,vkt,seval,tbE33_law,xbE33_1,aBunk,aBunks,aTrs,eBunk,eBunks,eTr,gBunk,gTr,rTr,mBunk,mTr,mCabin,mTk,aChart,cChart,aAsk,cAsk,mwS,pBag,pChartOf,pAskedOf,sMovedF,pPlacesF,srLone,srBunks,srShift,sSeat,sselling,List.length_map];refine Fin.val rfl ?_;(try simp only [AV.le,AV.leL]))
        all_goals first|rfl|(simp;done)
    · have hl0:=s5 (by omega)
      subst hl0 h0
      repeat' (first|(apply nx;with_reducible constructor)|refine uq (by decide) ?_|((first|refine vx env fun Q hQ=>?_|refine vz fun Q hQ=>?_);simp only [vkt,seval,tbE33_law,xbE33_1,aBunk,aBunks,aTrs,eBunk,eBunks,eTr,gBunk,gTr,rTr,mBunk,mTr,mCabin,mTk,aChart,cChart,aAsk,cAsk,mwS,pBag,pChartOf,pAskedOf,sMovedF,pPlacesF,srLone,srBunks,srShift,sSeat,sselling,List.length_map];(try simp only [ite_and]);(repeat' (first|with_reducible assumption|refine And.intro ?_ ?_|intro hp));all_goals (first|(refine hQ _ ?_;clear hQ Q)|(refine hQ _ (fun h=>?_) (fun h=>?_) <;> clear hQ Q <;> (try simp only [vki,reduceCtorEq] at h))|(refine vq ?_;kernel_rfl)|omega|assumption|with_reducible rfl|skip)))
      refine sym_loop (fun i:{ i:Nat // i≤0 }=>mwS C A [] 11 L [(10,aInts Q),(19,aI i.1)]) (fun i=>0 - i.1) ⟨0,Nat.zero_le _⟩ ?_ fun ⟨i,hi⟩=>?_
      · simp only [mwS,List.cons_append,List.nil_append]
        (refine Le.ok some [] ?_;constructor;all_goals (try simp only [vle,vkt,seval,tbE33_law,xbE33_1,aBunk,aBunks,aTrs,eBunk,eBunks,eTr,gBunk,gTr,rTr,mBunk,mTr,mCabin,mTk,aChart,cChart,aAsk,cAsk,mwS,pBag,pChartOf,pAskedOf,sMovedF,pPlacesF,srLone,srBunks,srShift,sSeat,sselling,List.length_map]))
        all_goals first|rfl|(simp;done)
      obtain rfl:i=0:=by omega
      have d3:decide ((((0:Nat):Int)) < ((([]:List Tr).length:Nat):Int))=false:=rfl
      simp only [mwS,List.cons_append,List.nil_append]
      repeat' (first|(apply nx;with_reducible constructor)|refine uq (by decide) ?_|((first|refine vx env fun Q hQ=>?_|refine vz fun Q hQ=>?_);simp only [vkt,seval,tbE33_law,xbE33_1,aBunk,aBunks,aTrs,eBunk,eBunks,eTr,gBunk,gTr,rTr,mBunk,mTr,mCabin,mTk,aChart,cChart,aAsk,cAsk,mwS,pBag,pChartOf,pAskedOf,sMovedF,pPlacesF,srLone,srBunks,srShift,sSeat,sselling,List.length_map,d3];(try simp only [ite_and]);(repeat' (first|with_reducible assumption|refine And.intro ?_ ?_|intro hp));all_goals (first|(refine hQ _ ?_;clear hQ Q)|(refine hQ _ (fun h=>?_) (fun h=>?_) <;> clear hQ Q <;> (try simp only [vki,reduceCtorEq] at h))|(refine vq ?_;kernel_rfl)|omega|assumption|with_reducible rfl|skip)))
      (simp only [vrt,Try.results6,vkt,seval,tbE33_law,xbE33_1,aBunk,aBunks,aTrs,eBunk,eBunks,eTr,gBunk,gTr,rTr,mBunk,mTr,mCabin,mTk,aChart,cChart,aAsk,cAsk,mwS,pBag,pChartOf,pAskedOf,sMovedF,pPlacesF,srLone,srBunks,srShift,sSeat,sselling,List.length_map];refine Fin.val rfl ?_;(try simp only [AV.le,AV.leL]))
      all_goals first|rfl|(simp;done)
end Go.Sym.B
