/- Walks and what they compute, joined: part 1. -/
import Derived.Test.YtfljkbcphmnjkaaGreatWB3
set_option linter.all false
namespace Go.Sym.B
open Go Go.Sym Go.Proofs Go.Sym.C
theorem _root_.Go.Sym.vj {a b:Prop} (x:a) (y:b):a∧b:=⟨x,y⟩
def _root_.Go.Sym.uq:=@VU
def _root_.Go.Sym.ux:=@YB
def _root_.Go.Sym.uz:=@Xz
def _root_.Go.Sym.uj:=@XW
def _root_.Go.Sym.uk:=@UH
def _root_.Go.Sym.uw:=@U3
def _root_.Go.Sym.uv:=@Uh
def _root_.Go.Sym.vq:=@QaM
def _root_.Go.Sym.vx:=@Qdk
def _root_.Go.Sym.vz:=@Qho
def Qa2 (p:List Bunk) (k:Int):Bool:=p.any fun b=>decide (b.cab=k)
def emH (c:Chart) (s:Int) (k:Nat) (m:Nat):Bool:=(List.range m).all fun (j:Nat)=>!Jb c.sold ⟨(k:Int),(j:Int)⟩ s
def ltB (c:Chart) (p:List Bunk) (s:Int) (k:Nat):Bool:=Qa2 p k && emH c s k (c.cabins.getD k default).beds.toNat
def ltC (c:Chart) (p:List Bunk) (s:Int):Nat→Nat
 |0=>0
 |k+1=>ltC c p s k+if ltB c p s k then 1 else 0
def ltS (c:Chart) (a:Ask) (p:List Bunk):Nat→Nat
 |0=>0
 |j+1=>ltS c a p j+ltC c p (a.frm+(j:Int)) c.cabins.length
def QhO (c:Chart) (a:Ask) (p:List Bunk):Nat:=ltS c a p (a.to - a.frm).toNat
def mxK (f:Nat→Int):Nat→Int × Nat
 |0=>(-1,0)
 |i+1=>if (mxK f i).1 < f i then (f i,i) else mxK f i
theorem Qex (l:List Tk) (t:Tk) (s i:Int):jB (l++[t]) s i=(jB l s i && !(atB s t && decide (t.cab=i))):=by
 unfold jB
 rw [List.all_append]
 simp
theorem VV {cs:List Cabin} {a:Ask}:∀ (m:Nat) (sold:List Tk) (begun:List Bunk),∀ x ∈ wH cs a m sold begun,∃ new:List Bunk,x.1=begun++new∧∀ s i:Int,jB x.2 s i=(jB sold s i && new.all fun b=>!((decide (a.frm≤s) && decide (s < a.to)) && decide (b.cab=i)))
 |0,sold,begun,x,hx=>by
  simp only [wH,List.mem_singleton] at hx
  subst hx
  exact ⟨[],by simp,fun s i=>by simp⟩
 |m+1,sold,begun,x,hx=>by
  rw [kF,List.mem_flatMap] at hx
  obtain ⟨b,hb,hx⟩:=hx
  unfold gbL at hx
  split at hx
  ·obtain ⟨new,h1,h2⟩:=VV m _ _ x hx
   refine ⟨b :: new,by rw [h1];simp,fun s i=>?_⟩
   rw [h2,Qex,List.all_cons,Bool.and_assoc]
   rfl
  ·simp at hx
theorem UT {s:Int} {t:Tk}:inB s t.frm (t.to - 1)=atB s t:=by
 unfold inB atB
 congr 1
 rw [decide_eq_decide];omega
theorem Qfo {c:Chart} (hv:Val c) {k:Nat} (s:Int):emH c s k (c.cabins.getD k default).beds.toNat=jB c.sold s k:=by
 rw [Bool.eq_iff_iff]
 unfold emH jB
 rw [List.all_eq_true,List.all_eq_true]
 constructor
 ·intro h t ht
  cases hq:(atB s t && decide (t.cab=(k:Int))) with
  |false=>rfl
  |true =>
   rw [Bool.and_eq_true,decide_eq_true_eq] at hq
   obtain ⟨h1,h2⟩:=hq
   have hk:=hv.tk t ht
   have hb:=hk.bed
   rw [h2] at hb
   have hb:0≤t.bed∧t.bed < (c.cabins.getD k default).beds:=hb
   have:=h t.bed.toNat (List.mem_range.2 (by omega))
   rw [Int.toNat_of_nonneg hb.1] at this
   have hh:Jb c.sold ⟨k,t.bed⟩ s=true:=List.any_eq_true.2 ⟨t,ht,by unfold onB;rw [UT,h1,decide_eq_true h2,decide_eq_true rfl];rfl⟩
   rw [hh] at this
   exact absurd this (by decide)
 ·intro h j hj
  cases hq:Jb c.sold ⟨(k:Int),(j:Int)⟩ s with
  |false=>rfl
  |true =>
   obtain ⟨t,ht,h1⟩:=List.any_eq_true.1 hq
   unfold onB at h1
   rw [UT,Bool.and_eq_true,Bool.and_eq_true,decide_eq_true_eq] at h1
   have:=h t ht
   rw [h1.2,decide_eq_true h1.1.1] at this
   exact absurd this (by decide)
def LX (sold:List Tk) (s:Int) (n:Nat):Nat:=((List.range n).filter fun (i:Nat)=>jB sold s i).length
theorem RY (sold:List Tk) (s:Int) (n:Nat):LX sold s (n+1)=LX sold s n+if jB sold s n then 1 else 0:=by
 unfold LX
 rw [List.range_succ,List.filter_append,List.length_append]
 cases h:jB sold s n <;> simp [h]
def Xx (sold:List Tk) (n:Nat):Nat→Nat
 |0=>0
 |s+1=>Xx sold n s+LX sold s n
theorem YY (cs:List Cabin) (secs:Int) (sold:List Tk):xy cs secs sold=(Xx sold cs.length secs.toNat:Int):=by
 unfold xy
 have:∀ k,((List.range k).flatMap fun (s:Nat)=>(List.range cs.length).filter fun (i:Nat)=>jB sold s i).length=Xx sold cs.length k:=by
  intro k
  induction k with
  |zero=>rfl
  |succ k ih =>
   rw [List.range_succ,List.flatMap_append,List.length_append,ih,Xx]
   simp [LX]
 rw [this]
theorem RX {c:Chart} {a:Ask} (hv:Val c) {sold2:List Tk} {p:List Bunk} {s:Int} (h:∀ i:Int,jB sold2 s i=(jB c.sold s i && p.all fun b=>!((decide (a.frm≤s) && decide (s < a.to)) && decide (b.cab=i)))) :
  ∀ n,LX c.sold s n=LX sold2 s n+if a.frm≤s∧s < a.to then ltC c p s n else 0
 |0=>by
  have:∀ l:List Tk,LX l s 0=0:=fun l=>rfl
  rw [this,this]
  split <;> rfl
 |n+1=>by
  have ih:=RX hv h n
  rw [RY,RY,ih,h n]
  by_cases hs:a.frm≤s∧s < a.to
  ·rw [if_pos hs,if_pos hs,ltC]
   have hm:(p.all fun b=>!((decide (a.frm≤s) && decide (s < a.to)) && decide (b.cab=(n:Int))))=!Qa2 p n:=by
    unfold Qa2
    rw [decide_eq_true hs.1,decide_eq_true hs.2,List.not_any_eq_all_not]
    rfl
   have hl:ltB c p s n=(Qa2 p n && jB c.sold s n):=by unfold ltB;rw [Qfo hv]
   rw [hm,hl]
   cases Qa2 p n <;> cases jB c.sold s n <;> simp <;> omega
  ·rw [if_neg hs,if_neg hs]
   have hm:(p.all fun b=>!((decide (a.frm≤s) && decide (s < a.to)) && decide (b.cab=(n:Int))))=true:=by
    rw [show (decide (a.frm≤s) && decide (s < a.to))=false by rw [Bool.and_eq_false_iff];by_cases h1:a.frm≤s;right;simpa using fun h=>hs ⟨h1,h⟩;left;simpa using h1]
    simp
   rw [hm]
   cases jB c.sold s n <;> simp
theorem Rh {c:Chart} {a:Ask} (hv:Val c) {sold2:List Tk} {p:List Bunk} (h:∀ s i:Int,jB sold2 s i=(jB c.sold s i && p.all fun b=>!((decide (a.frm≤s) && decide (s < a.to)) && decide (b.cab=i)))) {f t:Nat} (hf:a.frm=f) (ht:a.to=t) :
  ∀ k,Xx c.sold c.cabins.length k=Xx sold2 c.cabins.length k+ltS c a p (min k t - f)
 |0=>by simp [Xx,ltS]
 |k+1=>by
  rw [Xx,Xx,Rh hv h hf ht k,RX hv (h k)]
  rw [hf,ht]
  by_cases hk:f≤k∧k < t
  ·rw [if_pos (by omega),show min (k+1) t - f=(min k t - f)+1 by omega,ltS,hf,show (f:Int)+((min k t - f:Nat):Int)=(k:Int) by omega]
   omega
  ·rw [if_neg (by omega),show min (k+1) t - f=min k t - f by omega]
   omega
theorem XB {c:Chart} {a:Ask} (h:zq c a=0) {x:List Bunk × List Tk} (hx:x ∈ plP c a):xy c.cabins c.secs x.2=xy c.cabins c.secs c.sold - QhO c a x.1:=by
 have hv:=(Qq h).val
 have hw:=Xc h
 obtain ⟨new,h1,h2⟩:=VV _ _ _ x hx
 rw [List.nil_append] at h1
 rw [YY,YY]
 obtain ⟨f,hf⟩:∃ f:Nat,a.frm=f:=⟨a.frm.toNat,by omega⟩
 obtain ⟨t,ht⟩:∃ t:Nat,a.to=t:=⟨a.to.toNat,by omega⟩
 have:=Rh hv h2 hf ht c.secs.toNat
 rw [this,← h1]
 unfold QhO
 rw [show min c.secs.toNat t - f=(a.to - a.frm).toNat by omega]
 omega
theorem QiF (cs:List Cabin) (secs:Int) (sold:List Tk):0≤xy cs secs sold:=by rw [YY];omega
def rsF (c:Chart) (a:Ask) (i:Nat):Int:=xy c.cabins c.secs c.sold - QhO c a ((plP c a).getD i default).1
theorem Qam {c:Chart} {a:Ask} (h:zq c a=0):∀ j,j≤(plP c a).length→(j=0∧bsK c a j=(false,[],0))∨(bsK c a j=(true,((plP c a).getD (mxK (rsF c a) j).2 default).1,(mxK (rsF c a) j).1)∧(mxK (rsF c a) j).2 < j)
 |0,_=>.inl ⟨rfl,rfl⟩
 |j+1,hj=>by
  right
  have hm:xy c.cabins c.secs ((plP c a).getD j default).2=rsF c a j:=XB h (ve (by omega))
  have h0:0≤rsF c a j:=by rw [← hm];exact QiF _ _ _
  rw [bsK,hm]
  rcases Qam h j (by omega) with ⟨h1,h2⟩|⟨h1,h2⟩
  ·subst h1
   rw [h2,mxK,mxK]
   simp only [Bool.not_false,Bool.true_or,if_true]
   rw [if_pos (by omega)]
   exact ⟨rfl,by simp only;omega⟩
  ·rw [h1,mxK]
   simp only [Bool.not_true,Bool.false_or,decide_eq_true_eq]
   split
   ·exact ⟨rfl,by simp only;omega⟩
   ·exact ⟨rfl,by omega⟩
theorem QgA {c:Chart} {a:Ask} {j:Nat} (hj:j < (plP c a).length):((plP c a).getD j default).1.length=a.sexes.length:=by
 have:=Vd a.sexes.length c.sold [] _ (ve (l:=plP c a) (d:=default) hj)
 simpa using this
theorem Qhn (c:Chart) (s:Int) (k m:Nat):emH c s k (m+1)=(emH c s k m && !Jb c.sold ⟨(k:Int),(m:Int)⟩ s):=by
 unfold emH
 rw [List.range_succ,List.all_append]
 simp
def vB (a:Ask) (l:List Bunk) (k:Nat):List Tk:=(List.range k).map fun i=>Qi a i (l.getD i default)
theorem Xg (a:Ask) (l:List Bunk) (k:Nat):vB a l (k+1)=vB a l k++[Qi a k (l.getD k default)]:=by
 unfold vB
 rw [List.range_succ,List.map_append];rfl
theorem WA (a:Ask) (l:List Bunk) (k:Nat):(vB a l k).length=k:=by simp [vB]
def Zg (c:Chart) (a:Ask):Chart × Int:=if (wG c a).2 ≠ 0 then (⟨[],0,[]⟩,(wG c a).2) else if (8:Int) < (c.sold.length:Int)+((wG c a).1.length:Int) then (⟨[],0,[]⟩,6) else (⟨c.cabins,c.secs,c.sold++vB a (wG c a).1 (wG c a).1.length⟩,0)
theorem QdA {c:Chart} {a:Ask} (h:(wG c a).2=0):zq c a=0∧(wG c a).1.length=a.sexes.length∧(wG c a).1 ∈ zy c a:=by
 have h0:zq c a=0:=by
  unfold wG at h
  split at h
  ·assumption
  ·exact absurd h (by assumption)
 have hP:zy c a=(plP c a).map (·.1):=by unfold zy;rw [if_pos h0]
 rcases Qam h0 (plP c a).length (Nat.le_refl _) with ⟨h1,h2⟩|⟨h1,h2⟩
 ·have:(wG c a).2=11:=by unfold wG;rw [if_pos h0,h2];rfl
  omega
 ·have hb:(wG c a).1=((plP c a).getD (mxK (rsF c a) (plP c a).length).2 default).1:=by
   unfold wG;rw [if_pos h0,h1];rfl
  refine ⟨h0,by rw [hb,QgA h2], ?_⟩
  rw [hb,hP]
  exact List.mem_map.2 ⟨_,ve h2,rfl⟩
def slS (c:Chart) (a:Ask) (l:List Bunk) (k:Nat):St:={ t:=asg [(3,.ptr 1 0),(4,.ptr 2 0),(5,aI 0),(6,qc l),(8,.ptr 3 0),(31,qc l),(32,aI l.length),(33,aI k)],h:=ql [(0,.cells (qb c)),(1,.cells (qh a)),(2,.cells [.nil,aI 0,.nil]),(3,qp c.cabins c.secs 4),(4,qm (c.sold++vB a l k))],n:=5 }
def yY:=vj @ty3 (vj @ty4 (vj @xh (vj @jG (vj @QV (vj @QF (vj @QX (vj @Wx (vj @xA (vj @ym (vj @WZ (vj @ti3.eq_1 (vj @ti4.eq_1 (vj @vF.eq_1 (vj @jh.eq_1 (vj @Qn.eq_1 (vj @kY.eq_1 (vj @Qc.eq_1 (vj @ZH.eq_1 (vj @vN.eq_1 (vj @jS.eq_1 @ZI.eq_1))))))))))))))))))))
def Wi:=vj @aI.eq_1 (vj @aB.eq_1 (vj @qz.eq_1 (vj @zD.eq_1 (vj @Q4 (@Kr)))))
set_option maxHeartbeats 4000000 in
theorem Qi3 (c:Chart) (a:Ask) (hc:c.cabins.length≤maxLen) (ha:a.sexes.length≤maxLen):FnV Tryz.prog 32 [qa c,qx a] (.tup [qa (Zg c a).1,aI (Zg c a).2]):=by
 have env:Env (fun _=>True) Tryz.prog tyB (tab [(18,qQ false yC),(79,fnE jc),(87,fnE kS)]):=qH ⟨QgL,Ls,QjM,trivial⟩
 refine Fn.of (A:=fun _=>True) (n0:=0) (D:=noD) (Fn0 Tryz.func32 rfl (fun vs w=>by kernel_rfl) (by kernel_rfl)) (by simp) (by simp [AV.ids,AV.idsL,qa,qb,qx,qh]) (fun i o h=>by cases h) (fun _ _ _ _=>trivial) qF ?_
 have ec:(⟨c.cabins,c.secs,c.sold⟩:Chart)=c:=rfl
 have ea:(⟨a.party,a.frm,a.to,a.sexes,a.dog⟩:Ask)=a:=rfl
 obtain ⟨l,hl⟩:∃ l,(wG c a).1=l:=⟨_,rfl⟩
 obtain ⟨e,he⟩:∃ e,(wG c a).2=e:=⟨_,rfl⟩
 have hs:Zg c a=if e ≠ 0 then (⟨[],0,[]⟩,e) else if (8:Int) < (c.sold.length:Int)+(l.length:Int) then (⟨[],0,[]⟩,6) else (⟨c.cabins,c.secs,c.sold++vB a l l.length⟩,0):=by unfold Zg;rw [hl,he]
 rw [hs]
 by_cases h0:e=0
 ·obtain ⟨hb,hll,_⟩:=QdA (he.trans h0)
  rw [hl] at hll
  obtain ⟨h1,h2⟩:=vg hb
  have hv:=xV h1
  have b1:=hv.car.cabs
  have b2:=hv.many
  have b3:=Qq hb
  have b4:=b3.sx
  have b5:c.sold.length≤100000:=by omega
  have b6:c.cabins.length≤100000:=by omega
  have b7:l.length≤3:=by omega
  have hm:(100000:Nat)≤maxLen:=by decide
  have w1:IntKind.wrap .i64 ((c.sold.length:Int)+(l.length:Int))=(c.sold.length:Int)+(l.length:Int):=wrap64 (by omega) (by omega)
  rw [if_neg (by omega)]
  rw [h0] at he
  by_cases h8:(8:Int) < (c.sold.length:Int)+(l.length:Int)
  ·rw [if_pos h8]
   have d8:decide ((8:Int) < (c.sold.length:Int)+(l.length:Int))=true:=decide_eq_true h8
   repeat' (first|(apply nx;with_reducible constructor)|refine uq (by decide) ?_|((first|refine vx env fun Q hQ=>?_|refine vz fun Q hQ=>?_);simp only [vkt,seval,yY,Wi,qf,qc,qw,qE,aTk,cTk,qI,qd,mTk,qa,qb,qx,qh,qp,qm,qy,vo,slS,yC,jc,kS,List.length_map,ec,ea,hl,he,w1,d8,decide_true];(try simp only [ite_and]);(repeat' (first|with_reducible assumption|refine And.intro ?_ ?_|intro hp));all_goals (first|(refine hQ _ ?_;clear hQ Q)|(refine hQ _ (fun h=>?_) (fun h=>?_) <;> clear hQ Q <;> (try simp only [vki,reduceCtorEq] at h))|(refine vq ?_;kernel_rfl)|omega|assumption|with_reducible rfl|skip)))
   (simp only [vrt,Tryz.results32,vkt,seval,yY,Wi,qf,qc,qw,qE,aTk,cTk,qI,qd,mTk,qa,qb,qx,qh,qp,qm,qy,vo,slS,yC,jc,kS,List.length_map];refine Fin.val rfl ?_;(try simp only [AV.le,AV.leL]))
   all_goals first|rfl|(simp;done)
  ·rw [if_neg h8]
   have d8:decide ((8:Int) < (c.sold.length:Int)+(l.length:Int))=false:=decide_eq_false h8
   repeat' (first|(apply nx;with_reducible constructor)|refine uq (by decide) ?_|((first|refine vx env fun Q hQ=>?_|refine vz fun Q hQ=>?_);simp only [vkt,seval,yY,Wi,qf,qc,qw,qE,aTk,cTk,qI,qd,mTk,qa,qb,qx,qh,qp,qm,qy,vo,slS,yC,jc,kS,List.length_map,ec,ea,hl,he,w1,d8,b5,b6,decide_true];(try simp only [ite_and]);(repeat' (first|with_reducible assumption|refine And.intro ?_ ?_|intro hp));all_goals (first|(refine hQ _ ?_;clear hQ Q)|(refine hQ _ (fun h=>?_) (fun h=>?_) <;> clear hQ Q <;> (try simp only [vki,reduceCtorEq] at h))|(refine vq ?_;kernel_rfl)|omega|assumption|with_reducible rfl|skip)))
   refine qO (fun k:{ k:Nat // k≤l.length }=>slS c a l k.1) (fun k=>l.length - k.1) ⟨0,Nat.zero_le _⟩ ?_ fun ⟨k,hk⟩=>?_
   ·simp only [slS,show vB a l 0=[] from rfl,List.append_nil]
    (refine Le.ok (fun j=>[0,1,2,3,4][j]?) [] ?_;constructor;all_goals (try simp only [vle,vkt,seval,yY,Wi,qf,qc,qw,qE,aTk,cTk,qI,qd,mTk,qa,qb,qx,qh,qp,qm,qy,vo,slS,yC,jc,kS,List.length_map]))
    all_goals first|rfl|(simp;done)
   simp only at hk ⊢
   obtain ⟨T,hT⟩:∃ T,c.sold++vB a l k=T:=⟨_,rfl⟩
   simp only [slS,hT]
   by_cases hkl:k < l.length
   ·have d1:decide ((k:Int) < (l.length:Int))=true:=decide_eq_true (by omega)
    have e9:IntKind.wrap .i64 ((k:Int)+1)=((k+1:Nat):Int):=by rw [wrap64 (by omega) (by omega)];rfl
    have i0:((k:Int)).toNat=k:=rfl
    have hkx:k < a.sexes.length:=by omega
    obtain ⟨b,hbk⟩:∃ b,l.getD k default=b:=⟨_,rfl⟩
    have htl:T.length≤100:=by rw [← hT,List.length_append,WA];omega
    have hTs:c.sold++vB a l (k+1)=T++[Qi a k b]:=by rw [Xg,← List.append_assoc,hT,hbk]
    repeat' (first|(apply nx;with_reducible constructor)|refine uq (by decide) ?_|((first|refine vx env fun Q hQ=>?_|refine vz fun Q hQ=>?_);simp only [vkt,seval,yY,Wi,qf,qc,qw,qE,aTk,cTk,qI,qd,mTk,qa,qb,qx,qh,qp,qm,qy,vo,slS,yC,jc,kS,List.length_map,d1,e9,i0,hkl,hkx,hbk,htl];(try simp only [ite_and]);(repeat' (first|with_reducible assumption|refine And.intro ?_ ?_|intro hp));all_goals (first|(refine hQ _ ?_;clear hQ Q)|(refine hQ _ (fun h=>?_) (fun h=>?_) <;> clear hQ Q <;> (try simp only [vki,reduceCtorEq] at h))|(refine vq ?_;kernel_rfl)|omega|assumption|with_reducible rfl|skip)))
    refine ⟨⟨k+1,hkl⟩,by show l.length - (k+1) < l.length - k;omega, ?_⟩
    simp only [slS,hTs]
    (refine Le.ok (fun j=>[0,1,2,3,8][j]?) [] ?_;constructor;all_goals (try simp only [vle,vkt,seval,yY,Wi,qf,qc,qw,qE,aTk,cTk,qI,qd,mTk,qa,qb,qx,qh,qp,qm,qy,vo,slS,yC,jc,kS,List.length_map]))
    all_goals first|rfl|(simp;done)
   ·have d1:decide ((k:Int) < (l.length:Int))=false:=decide_eq_false (by omega)
    obtain rfl:k=l.length:=by omega
    rw [hT]
    repeat' (first|(apply nx;with_reducible constructor)|refine uq (by decide) ?_|((first|refine vx env fun Q hQ=>?_|refine vz fun Q hQ=>?_);simp only [vkt,seval,yY,Wi,qf,qc,qw,qE,aTk,cTk,qI,qd,mTk,qa,qb,qx,qh,qp,qm,qy,vo,slS,yC,jc,kS,List.length_map,d1];(try simp only [ite_and]);(repeat' (first|with_reducible assumption|refine And.intro ?_ ?_|intro hp));all_goals (first|(refine hQ _ ?_;clear hQ Q)|(refine hQ _ (fun h=>?_) (fun h=>?_) <;> clear hQ Q <;> (try simp only [vki,reduceCtorEq] at h))|(refine vq ?_;kernel_rfl)|omega|assumption|with_reducible rfl|skip)))
    (simp only [vrt,Tryz.results32,vkt,seval,yY,Wi,qf,qc,qw,qE,aTk,cTk,qI,qd,mTk,qa,qb,qx,qh,qp,qm,qy,vo,slS,yC,jc,kS,List.length_map];refine Fin.val rfl ?_;(try simp only [AV.le,AV.leL]))
    all_goals first|rfl|(simp;done)|exact ⟨⟨trivial,trivial,⟨_,_,rfl⟩,trivial⟩,trivial,trivial⟩
 ·rw [if_pos h0]
  have hne:decide (e=0)=false:=decide_eq_false h0
  repeat' (first|(apply nx;with_reducible constructor)|refine uq (by decide) ?_|((first|refine vx env fun Q hQ=>?_|refine vz fun Q hQ=>?_);simp only [vkt,seval,yY,Wi,qf,qc,qw,qE,aTk,cTk,qI,qd,mTk,qa,qb,qx,qh,qp,qm,qy,vo,slS,yC,jc,kS,List.length_map,ec,ea,hl,he,hne];(try simp only [ite_and]);(repeat' (first|with_reducible assumption|refine And.intro ?_ ?_|intro hp));all_goals (first|(refine hQ _ ?_;clear hQ Q)|(refine hQ _ (fun h=>?_) (fun h=>?_) <;> clear hQ Q <;> (try simp only [vki,reduceCtorEq] at h))|(refine vq ?_;kernel_rfl)|omega|assumption|with_reducible rfl|skip)))
  (simp only [vrt,Tryz.results32,vkt,seval,yY,Wi,qf,qc,qw,qE,aTk,cTk,qI,qd,mTk,qa,qb,qx,qh,qp,qm,qy,vo,slS,yC,jc,kS,List.length_map];refine Fin.val rfl ?_;(try simp only [AV.le,AV.leL]))
  all_goals first|rfl|(simp;done)
theorem QiE {cs:List Cabin} (h2:∀ x ∈ cs,1≤x.beds∧x.beds≤3):(qX cs).length≤3 * cs.length:=by
 rw [Ry]
 induction cs with
 |nil=>simp [Z5]
 |cons x l ih =>
  have h3:=ih fun y hy=>h2 y (List.mem_cons_of_mem _ hy)
  have h4:=h2 x (List.mem_cons_self ..)
  simp only [Z5,List.map_cons,List.sum_cons,List.length_cons] at h3 ⊢
  omega
theorem Qiq {cs:List Cabin} (h1:cs.length≤3) (h2:∀ x ∈ cs,1≤x.beds∧x.beds≤3):(qX cs).length≤9:=by
 have:=QiE h2
 omega
theorem JO {t:Tk} {l:List Tk}:ww t l=0 ↔ ∀ x ∈ l,xB t x=false∧QS x t=true:=by
 unfold ww
 constructor
 ·intro h x hx
  split at h
  ·exact absurd h (by decide)
  rename_i h1
  split at h
  ·exact absurd h (by decide)
  rename_i h2
  refine ⟨?_, ?_⟩
  ·cases hq:xB t x with
   |false=>rfl
   |true=>exact absurd (List.any_eq_true.2 ⟨x,hx,hq⟩) h1
  ·cases hq:QS x t with
   |true=>rfl
   |false=>exact absurd (List.any_eq_true.2 ⟨x,hx,by rw [hq];rfl⟩) h2
 ·intro h
  rw [if_neg,if_neg]
  ·rw [List.any_eq_true]
   rintro ⟨x,hx,h1⟩
   rw [(h x hx).2] at h1
   exact absurd h1 (by decide)
  ·rw [List.any_eq_true]
   rintro ⟨x,hx,h1⟩
   rw [(h x hx).1] at h1
   exact absurd h1 (by decide)
structure RmInv (C:Chart) (a:Ask) (i:Nat) (c:Chart):Prop where
 chk:zY c=0
 cabs:c.cabins=C.cabins
 secs:c.secs=C.secs
 len:c.sold.length=C.sold.length+i
 lt:∀ t ∈ c.sold,t.party < 60+(i:Int)
def bkF (i k:Nat):List Bunk:=(List.range k).map fun (m:Nat)=>⟨(i:Int),(m:Int)⟩
def bkP (cs:List Cabin) (i:Nat):List Bunk:=(List.range i).flatMap fun i=>bkF i (cs.getD i default).beds.toNat
theorem Qf9 (i k:Nat):bkF i (k+1)=bkF i k++[⟨(i:Int),(k:Int)⟩]:=by
 unfold bkF
 rw [List.range_succ,List.map_append];rfl
theorem QcS (i k:Nat):(bkF i k).length=k:=by simp [bkF]
theorem QaF (cs:List Cabin) (i:Nat):bkP cs (i+1)=bkP cs i++bkF i (cs.getD i default).beds.toNat:=by
 unfold bkP
 rw [List.range_succ,List.flatMap_append]
 simp
theorem Qdz {cs:List Cabin} (hb:∀ x ∈ cs,x.beds≤3):∀ i,i≤cs.length→(bkP cs i).length≤3 * i
 |0,_=>by simp [bkP]
 |i+1,h=>by
  have h1:=Qdz hb i (by omega)
  have h2:=hb _ (ve (d:=default) (show i < cs.length by omega))
  rw [QaF,List.length_append,QcS]
  omega
def bkS (c:Chart) (T:List (Nat × AV)) (l:List Bunk):St:={ t:=asg (T++[(1,.ptr 0 0),(3,.row 1)]),h:=ql [(0,.cells (qb c)),(1,.row 62 2 (l.map qw))],n:=2 }
def jD:=vj @ty3 (vj @Jg (vj @jG (vj @Wx (vj @xA (vj @Jh (vj @ti3.eq_1 (vj @Z8.eq_1 (vj @jh.eq_1 (vj @ZH.eq_1 (vj @vN.eq_1 @Wl.eq_1))))))))))
def QH:=vj @aI.eq_1 (@aB.eq_1)
theorem QeL (c:Chart) (hc:c.cabins.length≤3) (hb:∀ x ∈ c.cabins,x.beds≤3):FnV Tryz.prog 70 [qa c] (qc (qX c.cabins)):=by
 have env:Env (fun _=>True) Tryz.prog tyB (tab []):=qH trivial
 refine Fn.of (A:=fun _=>True) (n0:=0) (D:=noD) (Fn0 Tryz.func70 rfl (fun vs w=>by kernel_rfl) (by kernel_rfl)) (by simp) (by simp [AV.ids,AV.idsL,qa,qb]) (fun i o h=>by cases h) (fun _ _ _ _=>trivial) qF ?_
 have hmx:(100000:Nat)≤maxLen:=by decide
 rw [show qX c.cabins=bkP c.cabins c.cabins.length from rfl]
 repeat' (first|(apply nx;with_reducible constructor)|refine uq (by decide) ?_|((first|refine vx env fun Q hQ=>?_|refine vz fun Q hQ=>?_);simp only [vkt,seval,jD,QH,qf,qc,qw,qE,qZ,qg,qA,qI,qd,mTk,qa,qb,bkS,List.length_map];(try simp only [ite_and]);(repeat' (first|with_reducible assumption|refine And.intro ?_ ?_|intro hp));all_goals (first|(refine hQ _ ?_;clear hQ Q)|(refine hQ _ (fun h=>?_) (fun h=>?_) <;> clear hQ Q <;> (try simp only [vki,reduceCtorEq] at h))|(refine vq ?_;kernel_rfl)|omega|assumption|with_reducible rfl|skip)))
 refine qO (fun i:{ i:Nat // i≤c.cabins.length }=>bkS c [(4,aI i.1)] (bkP c.cabins i.1)) (fun i=>c.cabins.length - i.1) ⟨0,Nat.zero_le _⟩ ?_ fun ⟨i,hi⟩=>?_
 ·simp only [bkS,show bkP c.cabins 0=[] from rfl,List.cons_append,List.nil_append]
  (refine Le.ok (fun i=>if i=1 then none else some i) [] ?_;constructor;all_goals (try simp only [vle,vkt,seval,jD,QH,qf,qc,qw,qE,qZ,qg,qA,qI,qd,mTk,qa,qb,bkS,List.length_map]))
  all_goals first|rfl|(simp;done)
 simp only at hi ⊢
 have hL:=Qdz hb i hi
 have hS:=QaF c.cabins i
 obtain ⟨L,hLe⟩:∃ L,bkP c.cabins i=L:=⟨_,rfl⟩
 rw [hLe] at hL hS
 rw [hLe]
 by_cases hil:i < c.cabins.length
 ·have d1:decide ((i:Int) < (c.cabins.length:Int))=true:=decide_eq_true (by omega)
  have e9:IntKind.wrap .i64 ((i:Int)+1)=((i+1:Nat):Int):=by rw [wrap64 (by omega) (by omega)];rfl
  have i0:((i:Int)).toNat=i:=rfl
  obtain ⟨x,hx⟩:∃ x,c.cabins.getD i default=x:=⟨_,rfl⟩
  have hxb:=hb x (by rw [← hx];exact ve hil)
  rw [hx] at hS
  simp only [bkS,List.cons_append,List.nil_append]
  repeat' (first|(apply nx;with_reducible constructor)|refine uq (by decide) ?_|((first|refine vx env fun Q hQ=>?_|refine vz fun Q hQ=>?_);simp only [vkt,seval,jD,QH,qf,qc,qw,qE,qZ,qg,qA,qI,qd,mTk,qa,qb,bkS,List.length_map,d1,i0];(try simp only [ite_and]);(repeat' (first|with_reducible assumption|refine And.intro ?_ ?_|intro hp));all_goals (first|(refine hQ _ ?_;clear hQ Q)|(refine hQ _ (fun h=>?_) (fun h=>?_) <;> clear hQ Q <;> (try simp only [vki,reduceCtorEq] at h))|(refine vq ?_;kernel_rfl)|omega|assumption|with_reducible rfl|skip)))
  refine qO (fun k:{ k:Nat // k≤x.beds.toNat }=>bkS c [(4,aI i),(5,aI k.1)] (L++bkF i k.1)) (fun k=>x.beds.toNat - k.1) ⟨0,Nat.zero_le _⟩ ?_ fun ⟨k,hk⟩=>?_
  ·simp only [bkS,show bkF i 0=[] from rfl,List.append_nil,List.cons_append,List.nil_append]
   (refine Le.ok some [] ?_;constructor;all_goals (try simp only [vle,vkt,seval,jD,QH,qf,qc,qw,qE,qZ,qg,qA,qI,qd,mTk,qa,qb,bkS,List.length_map]))
   all_goals first|rfl|(simp;done)
  simp only at hk ⊢
  have hF:=Qf9 i k
  have hFl:(L++bkF i k).length≤100:=by rw [List.length_append,QcS];omega
  obtain ⟨M,hM⟩:∃ M,L++bkF i k=M:=⟨_,rfl⟩
  have hMS:L++bkF i (k+1)=M++[⟨(i:Int),(k:Int)⟩]:=by rw [hF,← List.append_assoc,hM]
  rw [hM] at hFl
  simp only [bkS,hM,List.cons_append,List.nil_append]
  by_cases hkl:k < x.beds.toNat
  ·have d2:decide ((k:Int) < x.beds)=true:=decide_eq_true (by omega)
   have e8:IntKind.wrap .i64 ((k:Int)+1)=((k+1:Nat):Int):=by rw [wrap64 (by omega) (by omega)];rfl
   have hm:M.length+1≤maxLen:=by omega
   repeat' (first|(apply nx;with_reducible constructor)|refine uq (by decide) ?_|((first|refine vx env fun Q hQ=>?_|refine vz fun Q hQ=>?_);simp only [vkt,seval,jD,QH,qf,qc,qw,qE,qZ,qg,qA,qI,qd,mTk,qa,qb,bkS,List.length_map,i0,hil,hx,d2,e8,hm];(try simp only [ite_and]);(repeat' (first|with_reducible assumption|refine And.intro ?_ ?_|intro hp));all_goals (first|(refine hQ _ ?_;clear hQ Q)|(refine hQ _ (fun h=>?_) (fun h=>?_) <;> clear hQ Q <;> (try simp only [vki,reduceCtorEq] at h))|(refine vq ?_;kernel_rfl)|omega|assumption|with_reducible rfl|skip)))
   refine ⟨⟨k+1,hkl⟩,by show x.beds.toNat - (k+1) < x.beds.toNat - k;omega, ?_⟩
   simp only [bkS,hMS,List.cons_append,List.nil_append]
   (refine Le.ok (fun i=>if i=1 then some 3 else some i) [] ?_;constructor;all_goals (try simp only [vle,vkt,seval,jD,QH,qf,qc,qw,qE,qZ,qg,qA,qI,qd,mTk,qa,qb,bkS,List.length_map]))
   all_goals first|rfl|(rw [List.map_append];rfl)|(simp;done)|(intro i hi;rw [if_neg (by omega)];done)
  ·have d2:decide ((k:Int) < x.beds)=false:=decide_eq_false (by omega)
   obtain rfl:k=x.beds.toNat:=by omega
   repeat' (first|(apply nx;with_reducible constructor)|refine uq (by decide) ?_|((first|refine vx env fun Q hQ=>?_|refine vz fun Q hQ=>?_);simp only [vkt,seval,jD,QH,qf,qc,qw,qE,qZ,qg,qA,qI,qd,mTk,qa,qb,bkS,List.length_map,i0,hil,hx,d2,e9];(try simp only [ite_and]);(repeat' (first|with_reducible assumption|refine And.intro ?_ ?_|intro hp));all_goals (first|(refine hQ _ ?_;clear hQ Q)|(refine hQ _ (fun h=>?_) (fun h=>?_) <;> clear hQ Q <;> (try simp only [vki,reduceCtorEq] at h))|(refine vq ?_;kernel_rfl)|omega|assumption|with_reducible rfl|skip)))
   refine ⟨⟨i+1,hil⟩,by show c.cabins.length - (i+1) < c.cabins.length - i;omega, ?_⟩
   simp only [bkS,hS,hM,List.cons_append,List.nil_append]
   (refine Le.ok some [] ?_;constructor;all_goals (try simp only [vle,vkt,seval,jD,QH,qf,qc,qw,qE,qZ,qg,qA,qI,qd,mTk,qa,qb,bkS,List.length_map]))
   all_goals first|rfl|(simp;done)
 ·have d1:decide ((i:Int) < (c.cabins.length:Int))=false:=decide_eq_false (by omega)
  obtain rfl:i=c.cabins.length:=by omega
  rw [hLe]
  simp only [bkS,List.cons_append,List.nil_append]
  repeat' (first|(apply nx;with_reducible constructor)|refine uq (by decide) ?_|((first|refine vx env fun Q hQ=>?_|refine vz fun Q hQ=>?_);simp only [vkt,seval,jD,QH,qf,qc,qw,qE,qZ,qg,qA,qI,qd,mTk,qa,qb,bkS,List.length_map,d1];(try simp only [ite_and]);(repeat' (first|with_reducible assumption|refine And.intro ?_ ?_|intro hp));all_goals (first|(refine hQ _ ?_;clear hQ Q)|(refine hQ _ (fun h=>?_) (fun h=>?_) <;> clear hQ Q <;> (try simp only [vki,reduceCtorEq] at h))|(refine vq ?_;kernel_rfl)|omega|assumption|with_reducible rfl|skip)))
  (simp only [vrt,Tryz.results70,vkt,seval,jD,QH,qf,qc,qw,qE,qZ,qg,qA,qI,qd,mTk,qa,qb,bkS,List.length_map];refine Fin.val rfl ?_;(try simp only [AV.le,AV.leL]))
  all_goals first|rfl|(simp;done)|exact ⟨_,_,rfl⟩
def Qe:List AV→Prop × AV
 |[.agg [.sl c0,.v (.int .i64 c1),.sl c2]]=>(c0=(c0.map qo).map qg∧c2=(c2.map dTk).map eTk∧((⟨(c0.map qo),c1,(c2.map dTk)⟩:Chart)).cabins.length≤3∧∀ x ∈ ((⟨(c0.map qo),c1,(c2.map dTk)⟩:Chart)).cabins,x.beds≤3,qc (qX ((⟨(c0.map qo),c1,(c2.map dTk)⟩:Chart)).cabins))
 |_=>(False,.junk)
theorem Qjm {A:Frm→Prop}:qD A Tryz.prog 70 (qQ false Qe):=qR fun vs hv h=>by
 clear hv
 unfold Qe at h ⊢
 split at h
 ·rename_i c0 c1 c2;obtain ⟨q0,q1,k0,k1⟩:=h
  refine ⟨by first|trivial|(simp [AV.plain,AV.plainL,aI,aB,qz,qc,qj,qf,aTk,cTk];done)|(repeat' split) <;> simp [AV.plain,AV.plainL,aI,aB,qz,qc,qj,qf,aTk,cTk],fun h=>absurd h (by decide), ?_⟩
  have:=QeL ((⟨(c0.map qo),c1,(c2.map dTk)⟩:Chart)) k0 k1
  simp only [qM,qa,aI,qj,qb,← q0,← q1] at this
  first|exact this|(simp only [qM,qa,aI,qj,qb,← q0,← q1];exact this)
 ·exact h.elim
def alL (bs:List Bunk):Nat→List (List Bunk)
 |0=>[[]]
 |m+1=>bs.flatMap fun b=>(alL bs m).map (b :: ·)
theorem Us (bs:List Bunk):∀ m,(alL bs m).length=bs.length ^ m
 |0=>rfl
 |m+1=>by
  rw [alL,List.length_flatMap]
  simp only [List.length_map,Us bs m]
  rw [List.map_const',List.sum_replicate_nat,Nat.pow_succ,Nat.mul_comm]
theorem ZV {bs:List Bunk}:∀ {m},∀ p ∈ alL bs m,p.length=m
 |0,p,hp=>by rw [List.mem_singleton.1 hp];rfl
 |m+1,p,hp=>by
  obtain ⟨b,_,hp⟩:=List.mem_flatMap.1 hp
  obtain ⟨q,hq,rfl⟩:=List.mem_map.1 hp
  rw [List.length_cons,ZV q hq]
def alP (bs:List Bunk) (R:List (List Bunk)) (i:Nat):List (List Bunk):=(bs.take i).flatMap fun b=>R.map (b :: ·)
theorem Qhp {bs:List Bunk} (R:List (List Bunk)) {i:Nat} (h:i < bs.length):alP bs R (i+1)=alP bs R i++R.map ((bs.getD i default) :: ·):=by
 unfold alP
 rw [List.take_succ_eq_append_getElem h,List.flatMap_append,List.getD_eq_getElem?_getD,List.getElem?_eq_getElem h]
 simp
theorem QiP (bs:List Bunk) (R:List (List Bunk)) (i:Nat):(alP bs R i).length≤i * R.length:=by
 unfold alP
 rw [List.length_flatMap]
 simp only [List.length_map]
 rw [List.map_const',List.sum_replicate_nat]
 exact Nat.mul_le_mul_right _ (by rw [List.length_take];omega)
def Qhy (m:Nat):Prop:=∀ bs:List Bunk,bs.length≤9→m≤3→Fn noB Tryz.prog 69 [qc bs,aI m] noH (.row 0) (ql [(0,.row 44 1 ((alL bs m).map qB))]) 0
def pAl (m:Nat) (_:St):List AV→Option Pk
 |[.sl bs,.v (.int .i64 n)]=>some { pre:=bs=(bs.map zC).map qw∧n=m∧bs.length≤9∧m≤3,ar:=[.sl bs,.v (.int .i64 n)],v:=.row 0,L1:=[some (.row 44 1 ((alL (bs.map zC) m).map qB))] }
 |_=>none
theorem eAl {A:Frm→Prop} {m:Nat} (ih:Qhy m):qD A Tryz.prog 69 (fnE (pAl m)):=zW fun S bs q h hp=>by
 unfold pAl at h
 split at h
 ·rename_i bs n
  cases h
  obtain ⟨h1,rfl,h3,h4⟩:=hp
  have:=ih (bs.map zC) (by rw [List.length_map];exact h3) h4
  rw [qc,← h1] at this
  exact this
 ·cases h
def alS (bs:List Bunk) (R M:List (List Bunk)) (T:List (Nat × AV)):St:={ t:=asg (T++[(0,qc bs),(5,.row 1),(6,.row 0)]),h:=ql [(0,.row 44 1 (R.map qB)),(1,.row 44 1 (M.map qB))],n:=2 }
def wo:=vj @ty3 (vj @QbA (vj @Wx (vj @xA (vj @ti3.eq_1 (vj @KQ.eq_1 (vj @ZH.eq_1 @vN.eq_1))))))
def xw:=vj @aI.eq_1 (@aB.eq_1)
theorem QiV:Qhy 0:=by
 intro bs _ _
 have env:Env (fun _=>True) Tryz.prog tyB (tab []):=qH trivial
 refine Fn.of (A:=fun _=>True) (n0:=0) (D:=noD) (Fn0 Tryz.func69 rfl (fun vs w=>by kernel_rfl) (by kernel_rfl)) (by simp) (by simp [AV.ids,AV.idsL,qc,aI]) (fun i o h=>by cases h) (fun _ _ _ _=>trivial) qF ?_
 show Sym _ _ _ (zV [qc bs,aI 0] 0 noH) (xY tyB noD Tryz.f69 fun S rv=>Fin S rv (.row 0) 0 (ql [(0,.row 44 1 [qB []])]) 0)
 repeat' (first|(apply nx;with_reducible constructor)|refine uq (by decide) ?_|((first|refine vx env fun Q hQ=>?_|refine vz fun Q hQ=>?_);simp only [vkt,seval,wo,xw,qf,qc,qw,qB,qE,qK,qZ,qV,qI,pAl,alS,List.length_map,decide_true];(try simp only [ite_and]);(repeat' (first|with_reducible assumption|refine And.intro ?_ ?_|intro hp));all_goals (first|(refine hQ _ ?_;clear hQ Q)|(refine hQ _ (fun h=>?_) (fun h=>?_) <;> clear hQ Q <;> (try simp only [vki,reduceCtorEq] at h))|(refine vq ?_;kernel_rfl)|omega|assumption|with_reducible rfl|skip)))
 (simp only [vrt,Tryz.results69,vkt,seval,wo,xw,qf,qc,qw,qB,qE,qK,qZ,qV,qI,pAl,alS,List.length_map];refine Fin.ok some [] ?_ ?_ ?_ ?_ ?_ rfl;all_goals (try simp only [vle,vkt,seval,wo,xw,qf,qc,qw,qB,qE,qK,qZ,qV,qI,pAl,alS,List.length_map]))
 all_goals first|rfl|(simp;done)
theorem QiZ (m:Nat) (ih:Qhy m):Qhy (m+1):=by
 intro bs hbs hm3
 have env:Env (fun _=>True) Tryz.prog tyB (tab [(69,fnE (pAl m))]):=qH ⟨eAl ih,trivial⟩
 refine Fn.of (A:=fun _=>True) (n0:=0) (D:=noD) (Fn0 Tryz.func69 rfl (fun vs w=>by kernel_rfl) (by kernel_rfl)) (by simp) (by simp [AV.ids,AV.idsL,qc,aI]) (fun i o h=>by cases h) (fun _ _ _ _=>trivial) qF ?_
 have hmx:(100000:Nat)≤maxLen:=by decide
 obtain ⟨R,hR⟩:∃ R,alL bs m=R:=⟨_,rfl⟩
 have hRl:R.length≤1000:=by
  rw [← hR,Us]
  have h1:bs.length ^ m≤9 ^ m:=Nat.pow_le_pow_left hbs m
  have h2:9 ^ m≤9 ^ 3:=Nat.pow_le_pow_right (by decide) (by omega)
  omega
 have hR1:∀ p ∈ R,p.length≤3:=fun p hp=>by
  rw [← hR] at hp
  have:=ZV p hp
  omega
 have hF:alL bs (m+1)=alP bs R bs.length:=by unfold alP;rw [List.take_length,← hR];rfl
 rw [hF]
 have d0:decide (((m+1:Nat):Int)=0)=false:=decide_eq_false (by omega)
 have w0:IntKind.wrap .i64 (((m+1:Nat):Int) - 1)=(m:Int):=by rw [wrap64 (by omega) (by omega)];omega
 have hm3':m≤3:=by omega
 repeat' (first|(apply nx;with_reducible constructor)|refine uq (by decide) ?_|((first|refine vx env fun Q hQ=>?_|refine vz fun Q hQ=>?_);simp only [vkt,seval,wo,xw,qf,qc,qw,qB,qE,qK,qZ,qV,qI,pAl,alS,List.length_map,d0,w0,hbs,hm3',hR];(try simp only [ite_and]);(repeat' (first|with_reducible assumption|refine And.intro ?_ ?_|intro hp));all_goals (first|(refine hQ _ ?_;clear hQ Q)|(refine hQ _ (fun h=>?_) (fun h=>?_) <;> clear hQ Q <;> (try simp only [vki,reduceCtorEq] at h))|(refine vq ?_;kernel_rfl)|omega|assumption|with_reducible rfl|skip)))
 refine qO (fun i:{ i:Nat // i≤bs.length }=>alS bs R (alP bs R i.1) [(7,aI i.1)]) (fun i=>bs.length - i.1) ⟨0,Nat.zero_le _⟩ ?_ fun ⟨i,hi⟩=>?_
 ·simp only [alS,show alP bs R 0=[] from rfl,List.cons_append,List.nil_append]
  (refine Le.ok (fun i=>if i=1 then none else some i) [] ?_;constructor;all_goals (try simp only [vle,vkt,seval,wo,xw,qf,qc,qw,qB,qE,qK,qZ,qV,qI,pAl,alS,List.length_map]))
  all_goals first|rfl|(simp;done)
 simp only at hi ⊢
 have hL:=QiP bs R i
 have hL2:i * R.length≤9 * 1000:=Nat.mul_le_mul (by omega) hRl
 obtain ⟨L,hLe⟩:∃ L,alP bs R i=L:=⟨_,rfl⟩
 rw [hLe] at hL
 rw [hLe]
 by_cases hil:i < bs.length
 ·have d1:decide ((i:Int) < (bs.length:Int))=true:=decide_eq_true (by omega)
  have e9:IntKind.wrap .i64 ((i:Int)+1)=((i+1:Nat):Int):=by rw [wrap64 (by omega) (by omega)];rfl
  have i0:((i:Int)).toNat=i:=rfl
  obtain ⟨b,hbe⟩:∃ b,bs.getD i default=b:=⟨_,rfl⟩
  have hS:=Qhp R hil
  rw [hLe,hbe] at hS
  simp only [alS,List.cons_append,List.nil_append]
  repeat' (first|(apply nx;with_reducible constructor)|refine uq (by decide) ?_|((first|refine vx env fun Q hQ=>?_|refine vz fun Q hQ=>?_);simp only [vkt,seval,wo,xw,qf,qc,qw,qB,qE,qK,qZ,qV,qI,pAl,alS,List.length_map,d1,i0];(try simp only [ite_and]);(repeat' (first|with_reducible assumption|refine And.intro ?_ ?_|intro hp));all_goals (first|(refine hQ _ ?_;clear hQ Q)|(refine hQ _ (fun h=>?_) (fun h=>?_) <;> clear hQ Q <;> (try simp only [vki,reduceCtorEq] at h))|(refine vq ?_;kernel_rfl)|omega|assumption|with_reducible rfl|skip)))
  refine qO (fun k:{ k:Nat // k≤R.length }=>alS bs R (L++(R.take k.1).map (b :: ·)) [(7,aI i),(8,aI k.1)]) (fun k=>R.length - k.1) ⟨0,Nat.zero_le _⟩ ?_ fun ⟨k,hk⟩=>?_
  ·simp only [alS,List.take_zero,List.map_nil,List.append_nil,List.cons_append,List.nil_append]
   (refine Le.ok some [] ?_;constructor;all_goals (try simp only [vle,vkt,seval,wo,xw,qf,qc,qw,qB,qE,qK,qZ,qV,qI,pAl,alS,List.length_map]))
   all_goals first|rfl|(simp;done)
  simp only at hk ⊢
  obtain ⟨M,hM⟩:∃ M,L++(R.take k).map (b :: ·)=M:=⟨_,rfl⟩
  have hMl:M.length≤10000:=by rw [← hM,List.length_append,List.length_map,List.length_take];omega
  simp only [alS,hM,List.cons_append,List.nil_append]
  by_cases hkl:k < R.length
  ·have d2:decide ((k:Int) < (R.length:Int))=true:=decide_eq_true (by omega)
   have e8:IntKind.wrap .i64 ((k:Int)+1)=((k+1:Nat):Int):=by rw [wrap64 (by omega) (by omega)];rfl
   have k0:((k:Int)).toNat=k:=rfl
   have hm:M.length+1≤maxLen:=by omega
   obtain ⟨p,hp⟩:∃ p,R.getD k []=p:=⟨_,rfl⟩
   have hg:=Vg hkl
   rw [hp] at hg
   have hpl:=hR1 p (by rw [← hp];exact ve hkl)
   have hpm:1+p.length≤maxLen:=by omega
   have hMS:L++(R.take (k+1)).map (b :: ·)=M++[b :: p]:=by
    rw [List.take_succ_eq_append_getElem hkl,List.map_append,← List.append_assoc,hM,← hp]
    simp [List.getD_eq_getElem?_getD,hkl]
   repeat' (first|(apply nx;with_reducible constructor)|refine uq (by decide) ?_|((first|refine vx env fun Q hQ=>?_|refine vz fun Q hQ=>?_);simp only [vkt,seval,wo,xw,qf,qc,qw,qB,qE,qK,qZ,qV,qI,pAl,alS,List.length_map,i0,k0,hil,hkl,hbe,hp,hg,d2,e8,hm,hpm];(try simp only [ite_and]);(repeat' (first|with_reducible assumption|refine And.intro ?_ ?_|intro hp));all_goals (first|(refine hQ _ ?_;clear hQ Q)|(refine hQ _ (fun h=>?_) (fun h=>?_) <;> clear hQ Q <;> (try simp only [vki,reduceCtorEq] at h))|(refine vq ?_;kernel_rfl)|omega|assumption|with_reducible rfl|skip)))
   refine ⟨⟨k+1,hkl⟩,by show R.length - (k+1) < R.length - k;omega, ?_⟩
   simp only [alS,hMS,List.cons_append,List.nil_append]
   (refine Le.ok (fun i=>if i=1 then some 5 else some i) [] ?_;constructor;all_goals (try simp only [vle,vkt,seval,wo,xw,qf,qc,qw,qB,qE,qK,qZ,qV,qI,pAl,alS,List.length_map]))
   all_goals first|rfl|(rw [List.map_append];rfl)|(simp;done)|(intro i hi;rw [if_neg (by omega)];done)
  ·have d2:decide ((k:Int) < (R.length:Int))=false:=decide_eq_false (by omega)
   obtain rfl:k=R.length:=by omega
   rw [List.take_length] at hM
   repeat' (first|(apply nx;with_reducible constructor)|refine uq (by decide) ?_|((first|refine vx env fun Q hQ=>?_|refine vz fun Q hQ=>?_);simp only [vkt,seval,wo,xw,qf,qc,qw,qB,qE,qK,qZ,qV,qI,pAl,alS,List.length_map,d2,e9];(try simp only [ite_and]);(repeat' (first|with_reducible assumption|refine And.intro ?_ ?_|intro hp));all_goals (first|(refine hQ _ ?_;clear hQ Q)|(refine hQ _ (fun h=>?_) (fun h=>?_) <;> clear hQ Q <;> (try simp only [vki,reduceCtorEq] at h))|(refine vq ?_;kernel_rfl)|omega|assumption|with_reducible rfl|skip)))
   refine ⟨⟨i+1,hil⟩,by show bs.length - (i+1) < bs.length - i;omega, ?_⟩
   simp only [alS,hS,hM,List.cons_append,List.nil_append]
   (refine Le.ok some [] ?_;constructor;all_goals (try simp only [vle,vkt,seval,wo,xw,qf,qc,qw,qB,qE,qK,qZ,qV,qI,pAl,alS,List.length_map]))
   all_goals first|rfl|(simp;done)
 ·have d1:decide ((i:Int) < (bs.length:Int))=false:=decide_eq_false (by omega)
  obtain rfl:i=bs.length:=by omega
  rw [hLe]
  simp only [alS,List.cons_append,List.nil_append]
  repeat' (first|(apply nx;with_reducible constructor)|refine uq (by decide) ?_|((first|refine vx env fun Q hQ=>?_|refine vz fun Q hQ=>?_);simp only [vkt,seval,wo,xw,qf,qc,qw,qB,qE,qK,qZ,qV,qI,pAl,alS,List.length_map,d1];(try simp only [ite_and]);(repeat' (first|with_reducible assumption|refine And.intro ?_ ?_|intro hp));all_goals (first|(refine hQ _ ?_;clear hQ Q)|(refine hQ _ (fun h=>?_) (fun h=>?_) <;> clear hQ Q <;> (try simp only [vki,reduceCtorEq] at h))|(refine vq ?_;kernel_rfl)|omega|assumption|with_reducible rfl|skip)))
  (simp only [vrt,Tryz.results69,vkt,seval,wo,xw,qf,qc,qw,qB,qE,qK,qZ,qV,qI,pAl,alS,List.length_map];refine Fin.ok (fun j=>[1][j]?) [] ?_ ?_ ?_ ?_ ?_ rfl;all_goals (try simp only [vle,vkt,seval,wo,xw,qf,qc,qw,qB,qE,qK,qZ,qV,qI,pAl,alS,List.length_map]))
  all_goals first|rfl|(simp;done)
theorem Qgr:∀ m,Qhy m
 |0=>QiV
 |m+1=>QiZ m (Qgr m)
def Zh:=vj @ty3 (vj @Jg (vj @jG (vj @xA (vj @Jh (vj @ti3.eq_1 (vj @Z8.eq_1 (vj @jh.eq_1 (vj @vN.eq_1 @Wl.eq_1))))))))
def V5:=vj @aI.eq_1 (@aB.eq_1)
theorem Qd7 (c:Chart) (b:Bunk) (hc:CarOk c):FnV Tryz.prog 133 [qa c,qf b] (aB (jU c.cabins b.cab b.bed)):=by
 have env:Env (fun _=>True) Tryz.prog tyB (tab [(83,qQ true ze)]):=qH ⟨QaP,trivial⟩
 refine Fn.of (A:=fun _=>True) (n0:=0) (D:=noD) (Fn0 Tryz.func133 rfl (fun vs w=>by kernel_rfl) (by kernel_rfl)) (by simp) (by simp [AV.ids,AV.idsL,qa,qb,qf]) (fun i o h=>by cases h) (fun _ _ _ _=>trivial) qF ?_
 have hcl:=hc.cabs
 have w1:IntKind.wrap .i64 ((c.cabins.length:Int) - 1)=(c.cabins.length:Int) - 1:=wrap64 (by omega) (by omega)
 have hE:jU c.cabins b.cab b.bed=(inB b.cab 0 ((c.cabins.length:Int) - 1) && inB b.bed 0 ((c.cabins.getD b.cab.toNat default).beds - 1)):=rfl
 cases h3:inB b.cab 0 ((c.cabins.length:Int) - 1) with
 |false =>
  rw [hE,h3]
  repeat' (first|(apply nx;with_reducible constructor)|refine uq (by decide) ?_|((first|refine vx env fun Q hQ=>?_|refine vz fun Q hQ=>?_);simp only [vkt,seval,Zh,V5,qf,qw,qa,qb,qg,qA,qd,ze,List.length_map,h3,w1];(try simp only [ite_and]);(repeat' (first|with_reducible assumption|refine And.intro ?_ ?_|intro hp));all_goals (first|(refine hQ _ ?_;clear hQ Q)|(refine hQ _ (fun h=>?_) (fun h=>?_) <;> clear hQ Q <;> (try simp only [vki,reduceCtorEq] at h))|(refine vq ?_;kernel_rfl)|omega|assumption|with_reducible rfl|skip)))
  (simp only [vrt,Tryz.results133,vkt,seval,Zh,V5,qf,qw,qa,qb,qg,qA,qd,ze,List.length_map];refine Fin.val rfl ?_;(try simp only [AV.le,AV.leL]))
  all_goals first|rfl|(simp;done)
 |true =>
  have b3:=jm.1 h3
  have g1:0≤b.cab:=b3.1
  have g2:b.cab.toNat < c.cabins.length:=by omega
  obtain ⟨x,hx⟩:∃ x,c.cabins.getD b.cab.toNat default=x:=⟨_,rfl⟩
  have hxb:=hc.beds _ (ve (d:=default) g2)
  rw [hx] at hxb
  have w2:IntKind.wrap .i64 (x.beds - 1)=x.beds - 1:=wrap64 (by omega) (by omega)
  rw [hE,h3,hx,Bool.true_and]
  repeat' (first|(apply nx;with_reducible constructor)|refine uq (by decide) ?_|((first|refine vx env fun Q hQ=>?_|refine vz fun Q hQ=>?_);simp only [vkt,seval,Zh,V5,qf,qw,qa,qb,qg,qA,qd,ze,List.length_map,h3,w1,w2,hx,g1,g2];(try simp only [ite_and]);(repeat' (first|with_reducible assumption|refine And.intro ?_ ?_|intro hp));all_goals (first|(refine hQ _ ?_;clear hQ Q)|(refine hQ _ (fun h=>?_) (fun h=>?_) <;> clear hQ Q <;> (try simp only [vki,reduceCtorEq] at h))|(refine vq ?_;kernel_rfl)|omega|assumption|with_reducible rfl|skip)))
  (simp only [vrt,Tryz.results133,vkt,seval,Zh,V5,qf,qw,qa,qb,qg,qA,qd,ze,List.length_map];refine Fin.val rfl ?_;(try simp only [AV.le,AV.leL]))
  all_goals first|rfl|(simp;done)
def zn:List AV→Prop × AV
 |[.agg [.sl c0,.v (.int .i64 c1),.sl c2],.agg [.v (.int .i64 b0),.v (.int .i64 b1)]]=>(c0=(c0.map qo).map qg∧c2=(c2.map dTk).map eTk∧CarOk ((⟨(c0.map qo),c1,(c2.map dTk)⟩:Chart)),aB (jU ((⟨(c0.map qo),c1,(c2.map dTk)⟩:Chart)).cabins ((⟨b0,b1⟩:Bunk)).cab ((⟨b0,b1⟩:Bunk)).bed))
 |_=>(False,.junk)
theorem QdB {A:Frm→Prop}:qD A Tryz.prog 133 (qQ true zn):=qR fun vs hv h=>by
 clear hv
 unfold zn at h ⊢
 split at h
 ·rename_i c0 c1 c2 b0 b1;obtain ⟨q0,q1,k0⟩:=h
  refine ⟨by first|trivial|(simp [AV.plain,AV.plainL,aI,aB,qz,qc,qj,qf,aTk,cTk];done)|(repeat' split) <;> simp [AV.plain,AV.plainL,aI,aB,qz,qc,qj,qf,aTk,cTk],fun _=>(by simp [AV.flat,AV.flatL,aI,aB]), ?_⟩
  have:=Qd7 ((⟨(c0.map qo),c1,(c2.map dTk)⟩:Chart)) ((⟨b0,b1⟩:Bunk)) k0
  simp only [qf,qM,qa,aI,qj,qb,← q0,← q1] at this
  first|exact this|(simp only [qf,qM,qa,aI,qj,qb,← q0,← q1];exact this)
 ·exact h.elim
def rnS (c:Chart) (l:List Bunk) (k:Nat) (lo hi:Int):St:={ t:=asg [(1,qc l),(2,.ptr 0 0),(4,aB false),(5,aI lo),(6,aI hi),(7,aI k)],h:=ql [(0,.cells (qb c))],n:=1 }
def yu:=vj @ty3 (vj @ty4 (vj @Jg (vj @jG (vj @Wx (vj @xA (vj @Jh (vj @ti3.eq_1 (vj @ti4.eq_1 (vj @Z8.eq_1 (vj @jh.eq_1 (vj @ZH.eq_1 (vj @vN.eq_1 @Wl.eq_1))))))))))))
def QI:=vj @aI.eq_1 (@aB.eq_1)
theorem QgR (c:Chart) (l:List Bunk) (ok:NearOk c.cabins l):FnV Tryz.prog 134 [qa c,qc l] (aB (ZC c.cabins l)):=by
 have env:Env (fun _=>True) Tryz.prog tyB (tab []):=qH trivial
 refine Fn.of (A:=fun _=>True) (n0:=0) (D:=noD) (Fn0 Tryz.func134 rfl (fun vs w=>by kernel_rfl) (by kernel_rfl)) (by simp) (by simp [AV.ids,AV.idsL,qa,qb,qc]) (fun i o h=>by cases h) (fun _ _ _ _=>trivial) qF ?_
 have hne:=ok.ne
 have hll:=ok.len
 have hcl:=ok.cabs
 have hbd:=RA ok
 obtain ⟨x0,hx0⟩:∃ x,l.getD 0 default=x:=⟨_,rfl⟩
 have l0:loK l 0=x0.cab:=by rw [← hx0];rfl
 have h0:hiK l 0=x0.cab:=by rw [← hx0];rfl
 rw [Qdc]
 repeat' (first|(apply nx;with_reducible constructor)|refine uq (by decide) ?_|((first|refine vx env fun Q hQ=>?_|refine vz fun Q hQ=>?_);simp only [vkt,seval,yu,QI,qf,qc,qw,qE,qg,qA,qa,qb,rnS,List.length_map,hx0,hne];(try simp only [ite_and]);(repeat' (first|with_reducible assumption|refine And.intro ?_ ?_|intro hp));all_goals (first|(refine hQ _ ?_;clear hQ Q)|(refine hQ _ (fun h=>?_) (fun h=>?_) <;> clear hQ Q <;> (try simp only [vki,reduceCtorEq] at h))|(refine vq ?_;kernel_rfl)|omega|assumption|with_reducible rfl|skip)))
 refine qO (fun k:{ k:Nat // k≤l.length }=>rnS c l k.1 (loK l k.1) (hiK l k.1)) (fun k=>l.length - k.1) ⟨0,Nat.zero_le _⟩ ?_ fun ⟨k,hk⟩=>?_
 ·simp only [l0,h0]
  (refine Le.ok some [] ?_;constructor;all_goals (try simp only [vle,vkt,seval,yu,QI,qf,qc,qw,qE,qg,qA,qa,qb,rnS,List.length_map]))
  all_goals first|rfl|(simp;done)
 simp only at hk ⊢
 by_cases hlt:k < l.length
 ·have d1:decide ((k:Int) < (l.length:Int))=true:=decide_eq_true (by omega)
  have e9:IntKind.wrap .i64 ((k:Int)+1)=((k+1:Nat):Int):=by rw [wrap64 (by omega) (by omega)];rfl
  have k0:((k:Int)).toNat=k:=rfl
  obtain ⟨x,hx⟩:∃ x,l.getD k default=x:=⟨_,rfl⟩
  have hl1:=Ky hlt
  have hh1:=XQ hlt
  rw [hx] at hl1 hh1
  repeat' (first|(apply nx;with_reducible constructor)|refine uq (by decide) ?_|((first|refine vx env fun Q hQ=>?_|refine vz fun Q hQ=>?_);simp only [vkt,seval,yu,QI,qf,qc,qw,qE,qg,qA,qa,qb,rnS,List.length_map,d1,k0,hx,hlt,e9];(try simp only [ite_and]);(repeat' (first|with_reducible assumption|refine And.intro ?_ ?_|intro hp));all_goals (first|(refine hQ _ ?_;clear hQ Q)|(refine hQ _ (fun h=>?_) (fun h=>?_) <;> clear hQ Q <;> (try simp only [vki,reduceCtorEq] at h))|(refine vq ?_;kernel_rfl)|omega|assumption|with_reducible rfl|skip)))
  refine ⟨⟨k+1,hlt⟩,by show l.length - (k+1) < l.length - k;omega, ?_⟩
  simp only [hl1,hh1]
  (refine Le.ok some [] ?_;constructor;all_goals (try simp only [vle,vkt,seval,yu,QI,qf,qc,qw,qE,qg,qA,qa,qb,rnS,List.length_map]))
  all_goals first|rfl|(simp;done)
 ·have d0:decide ((k:Int) < (l.length:Int))=false:=decide_eq_false (by omega)
  have hke:k=l.length:=by omega
  subst hke
  obtain ⟨g1,g2,g3,g4⟩:=hbd l.length (Nat.le_refl _)
  obtain ⟨lo,hlo⟩:∃ x,loK l l.length=x:=⟨_,rfl⟩
  obtain ⟨hi,hhi⟩:∃ x,hiK l l.length=x:=⟨_,rfl⟩
  rw [hlo] at g1 g2
  rw [hhi] at g3 g4
  obtain ⟨x,hx⟩:∃ x,c.cabins.getD lo.toNat default=x:=⟨_,rfl⟩
  have w1:IntKind.wrap .i64 (lo+1)=lo+1:=wrap64 (by omega) (by omega)
  simp only [hlo,hhi]
  by_cases c1:lo=hi
  ·rw [show (decide (lo=hi) || (decide (lo+1=hi) && (c.cabins.getD lo.toNat default).door))=true by simp [c1]]
   have d1:decide (lo=hi)=true:=decide_eq_true c1
   have d1':(lo == hi)=true:=by simpa using c1
   repeat' (first|(apply nx;with_reducible constructor)|refine uq (by decide) ?_|((first|refine vx env fun Q hQ=>?_|refine vz fun Q hQ=>?_);simp only [vkt,seval,yu,QI,qf,qc,qw,qE,qg,qA,qa,qb,rnS,List.length_map,d0,d1,d1',w1,hx,g1,g2];(try simp only [ite_and]);(repeat' (first|with_reducible assumption|refine And.intro ?_ ?_|intro hp));all_goals (first|(refine hQ _ ?_;clear hQ Q)|(refine hQ _ (fun h=>?_) (fun h=>?_) <;> clear hQ Q <;> (try simp only [vki,reduceCtorEq] at h))|(refine vq ?_;kernel_rfl)|omega|assumption|with_reducible rfl|skip)))
   (simp only [vrt,Tryz.results134,vkt,seval,yu,QI,qf,qc,qw,qE,qg,qA,qa,qb,rnS,List.length_map];refine Fin.val rfl ?_;(try simp only [AV.le,AV.leL]))
   all_goals first|rfl|(simp;done)
  ·have d1:decide (lo=hi)=false:=decide_eq_false c1
   have d1':(lo == hi)=false:=by simpa using c1
   by_cases c2:lo+1=hi
   ·rw [show (decide (lo=hi) || (decide (lo+1=hi) && (c.cabins.getD lo.toNat default).door))=x.door by rw [d1,hx,decide_eq_true c2];simp]
    have d2:decide (hi=lo+1)=true:=decide_eq_true c2.symm
    repeat' (first|(apply nx;with_reducible constructor)|refine uq (by decide) ?_|((first|refine vx env fun Q hQ=>?_|refine vz fun Q hQ=>?_);simp only [vkt,seval,yu,QI,qf,qc,qw,qE,qg,qA,qa,qb,rnS,List.length_map,d0,d1,d1',d2,w1,hx,g1,g2];(try simp only [ite_and]);(repeat' (first|with_reducible assumption|refine And.intro ?_ ?_|intro hp));all_goals (first|(refine hQ _ ?_;clear hQ Q)|(refine hQ _ (fun h=>?_) (fun h=>?_) <;> clear hQ Q <;> (try simp only [vki,reduceCtorEq] at h))|(refine vq ?_;kernel_rfl)|omega|assumption|with_reducible rfl|skip)))
    (simp only [vrt,Tryz.results134,vkt,seval,yu,QI,qf,qc,qw,qE,qg,qA,qa,qb,rnS,List.length_map];refine Fin.val rfl ?_;(try simp only [AV.le,AV.leL]))
    all_goals first|rfl|(simp;done)
   ·rw [show (decide (lo=hi) || (decide (lo+1=hi) && (c.cabins.getD lo.toNat default).door))=false by rw [d1,decide_eq_false c2];simp]
    have d2:decide (hi=lo+1)=false:=decide_eq_false fun h=>c2 h.symm
    repeat' (first|(apply nx;with_reducible constructor)|refine uq (by decide) ?_|((first|refine vx env fun Q hQ=>?_|refine vz fun Q hQ=>?_);simp only [vkt,seval,yu,QI,qf,qc,qw,qE,qg,qA,qa,qb,rnS,List.length_map,d0,d1,d1',d2,w1,hx,g1,g2];(try simp only [ite_and]);(repeat' (first|with_reducible assumption|refine And.intro ?_ ?_|intro hp));all_goals (first|(refine hQ _ ?_;clear hQ Q)|(refine hQ _ (fun h=>?_) (fun h=>?_) <;> clear hQ Q <;> (try simp only [vki,reduceCtorEq] at h))|(refine vq ?_;kernel_rfl)|omega|assumption|with_reducible rfl|skip)))
    (simp only [vrt,Tryz.results134,vkt,seval,yu,QI,qf,qc,qw,qE,qg,qA,qa,qb,rnS,List.length_map];refine Fin.val rfl ?_;(try simp only [AV.le,AV.leL]))
    all_goals first|rfl|(simp;done)
def kL:List AV→Prop × AV
 |[.agg [.sl c0,.v (.int .i64 c1),.sl c2],.sl l]=>(c0=(c0.map qo).map qg∧c2=(c2.map dTk).map eTk∧l=(l.map zC).map qw∧NearOk ((⟨(c0.map qo),c1,(c2.map dTk)⟩:Chart)).cabins (l.map zC),aB (ZC ((⟨(c0.map qo),c1,(c2.map dTk)⟩:Chart)).cabins (l.map zC)))
 |_=>(False,.junk)
theorem Qkb {A:Frm→Prop}:qD A Tryz.prog 134 (qQ true kL):=qR fun vs hv h=>by
 clear hv
 unfold kL at h ⊢
 split at h
 ·rename_i c0 c1 c2 l;obtain ⟨q0,q1,q2,k0⟩:=h
  refine ⟨by first|trivial|(simp [AV.plain,AV.plainL,aI,aB,qz,qc,qj,qf,aTk,cTk];done)|(repeat' split) <;> simp [AV.plain,AV.plainL,aI,aB,qz,qc,qj,qf,aTk,cTk],fun _=>(by simp [AV.flat,AV.flatL,aI,aB]), ?_⟩
  have:=QgR ((⟨(c0.map qo),c1,(c2.map dTk)⟩:Chart)) (l.map zC) k0
  simp only [qc,qM,qa,aI,qj,qb,← q0,← q1,← q2] at this
  first|exact this|(simp only [qc,qM,qa,aI,qj,qb,← q0,← q1,← q2];exact this)
 ·exact h.elim
def rtS (a:Ask) (l:List Bunk) (k:Nat):St:={ t:=asg [(1,qc l),(2,.ptr 0 0),(5,.row 1),(6,aI k)],h:=ql [(0,.cells (qh a)),(1,qm (vB a l k))],n:=2 }
def Qz:=vj @ty3 (vj @ty4 (vj @xh (vj @QV (vj @QF (vj @Wx (vj @xA (vj @ym (vj @ti3.eq_1 (vj @ti4.eq_1 (vj @vF.eq_1 (vj @Qn.eq_1 (vj @kY.eq_1 (vj @ZH.eq_1 (vj @vN.eq_1 @jS.eq_1))))))))))))))
def JY:=vj @aI.eq_1 (vj @aB.eq_1 (vj @zD.eq_1 (vj @Kr (@Q4))))
theorem Qjd (a:Ask) (l:List Bunk) (hl:l.length≤100) (ha:a.sexes.length=l.length):FnV Tryz.prog 61 [qx a,qc l] (qj (vB a l l.length)):=by
 have env:Env (fun _=>True) Tryz.prog tyB (tab []):=qH trivial
 refine Fn.of (A:=fun _=>True) (n0:=0) (D:=noD) (Fn0 Tryz.func61 rfl (fun vs w=>by kernel_rfl) (by kernel_rfl)) (by simp) (by simp [AV.ids,AV.idsL,qx,qh,qc]) (fun i o h=>by cases h) (fun _ _ _ _=>trivial) qF ?_
 have hmx:(100000:Nat)≤maxLen:=by decide
 repeat' (first|(apply nx;with_reducible constructor)|refine uq (by decide) ?_|((first|refine vx env fun Q hQ=>?_|refine vz fun Q hQ=>?_);simp only [vkt,seval,Qz,JY,qf,qc,qw,qE,aTk,cTk,qj,eTk,rTk,qx,qh,qm,rtS,List.length_map];(try simp only [ite_and]);(repeat' (first|with_reducible assumption|refine And.intro ?_ ?_|intro hp));all_goals (first|(refine hQ _ ?_;clear hQ Q)|(refine hQ _ (fun h=>?_) (fun h=>?_) <;> clear hQ Q <;> (try simp only [vki,reduceCtorEq] at h))|(refine vq ?_;kernel_rfl)|omega|assumption|with_reducible rfl|skip)))
 refine qO (fun k:{ k:Nat // k≤l.length }=>rtS a l k.1) (fun k=>l.length - k.1) ⟨0,Nat.zero_le _⟩ ?_ fun ⟨k,hk⟩=>?_
 ·simp only [rtS,show vB a l 0=[] from rfl]
  (refine Le.ok (fun i=>if i=1 then none else some i) [] ?_;constructor;all_goals (try simp only [vle,vkt,seval,Qz,JY,qf,qc,qw,qE,aTk,cTk,qj,eTk,rTk,qx,qh,qm,rtS,List.length_map]))
  all_goals first|rfl|(simp;done)
 simp only at hk ⊢
 have hS:=Xg a l k
 have hT:=WA a l k
 obtain ⟨T,hTe⟩:∃ T,vB a l k=T:=⟨_,rfl⟩
 rw [hTe] at hS hT
 simp only [rtS,hTe]
 by_cases hkl:k < l.length
 ·have d1:decide ((k:Int) < (l.length:Int))=true:=decide_eq_true (by omega)
  have d2:decide ((k:Int) < (a.sexes.length:Int))=true:=decide_eq_true (by omega)
  have e9:IntKind.wrap .i64 ((k:Int)+1)=((k+1:Nat):Int):=by rw [wrap64 (by omega) (by omega)];rfl
  have k0:((k:Int)).toNat=k:=rfl
  have hka:k < a.sexes.length:=by omega
  obtain ⟨b,hb⟩:∃ b,l.getD k default=b:=⟨_,rfl⟩
  rw [hb] at hS
  have hm:T.length+1≤maxLen:=by omega
  repeat' (first|(apply nx;with_reducible constructor)|refine uq (by decide) ?_|((first|refine vx env fun Q hQ=>?_|refine vz fun Q hQ=>?_);simp only [vkt,seval,Qz,JY,qf,qc,qw,qE,aTk,cTk,qj,eTk,rTk,qx,qh,qm,rtS,List.length_map,d1,d2,e9,k0,hkl,hka,hb,hm];(try simp only [ite_and]);(repeat' (first|with_reducible assumption|refine And.intro ?_ ?_|intro hp));all_goals (first|(refine hQ _ ?_;clear hQ Q)|(refine hQ _ (fun h=>?_) (fun h=>?_) <;> clear hQ Q <;> (try simp only [vki,reduceCtorEq] at h))|(refine vq ?_;kernel_rfl)|omega|assumption|with_reducible rfl|skip)))
  refine ⟨⟨k+1,hkl⟩,by show l.length - (k+1) < l.length - k;omega, ?_⟩
  simp only [rtS,hS]
  (refine Le.ok (fun i=>if i=1 then some 3 else some i) [] ?_;constructor;all_goals (try simp only [vle,vkt,seval,Qz,JY,qf,qc,qw,qE,aTk,cTk,qj,eTk,rTk,qx,qh,qm,rtS,List.length_map]))
  all_goals first|rfl|(rw [List.map_append];rfl)|(simp;done)|(intro i hi;rw [if_neg (by omega)];done)
 ·have d1:decide ((k:Int) < (l.length:Int))=false:=decide_eq_false (by omega)
  obtain rfl:k=l.length:=by omega
  rw [hTe]
  repeat' (first|(apply nx;with_reducible constructor)|refine uq (by decide) ?_|((first|refine vx env fun Q hQ=>?_|refine vz fun Q hQ=>?_);simp only [vkt,seval,Qz,JY,qf,qc,qw,qE,aTk,cTk,qj,eTk,rTk,qx,qh,qm,rtS,List.length_map,d1];(try simp only [ite_and]);(repeat' (first|with_reducible assumption|refine And.intro ?_ ?_|intro hp));all_goals (first|(refine hQ _ ?_;clear hQ Q)|(refine hQ _ (fun h=>?_) (fun h=>?_) <;> clear hQ Q <;> (try simp only [vki,reduceCtorEq] at h))|(refine vq ?_;kernel_rfl)|omega|assumption|with_reducible rfl|skip)))
  (simp only [vrt,Tryz.results61,vkt,seval,Qz,JY,qf,qc,qw,qE,aTk,cTk,qj,eTk,rTk,qx,qh,qm,rtS,List.length_map];refine Fin.val rfl ?_;(try simp only [AV.le,AV.leL]))
  all_goals first|rfl|(simp;done)|exact ⟨_,_,rfl⟩
def jQ:List AV→Prop × AV
 |[.agg [.v (.int .i64 a0),.v (.int .i64 a1),.v (.int .i64 a2),.sl a3,.v (.bool a4)],.sl l]=>(a3=(a3.map za).map zD∧l=(l.map zC).map qw∧(l.map zC).length≤100∧((⟨a0,a1,a2,(a3.map za),a4⟩:Ask)).sexes.length=(l.map zC).length,qj (vB ((⟨a0,a1,a2,(a3.map za),a4⟩:Ask)) (l.map zC) (l.map zC).length))
 |_=>(False,.junk)
theorem Qhr {A:Frm→Prop}:qD A Tryz.prog 61 (qQ false jQ):=qR fun vs hv h=>by
 clear hv
 unfold jQ at h ⊢
 split at h
 ·rename_i a0 a1 a2 a3 a4 l;obtain ⟨q0,q1,k0,k1⟩:=h
  refine ⟨by first|trivial|(simp [AV.plain,AV.plainL,aI,aB,qz,qc,qj,qf,aTk,cTk];done)|(repeat' split) <;> simp [AV.plain,AV.plainL,aI,aB,qz,qc,qj,qf,aTk,cTk],fun h=>absurd h (by decide), ?_⟩
  have:=Qjd ((⟨a0,a1,a2,(a3.map za),a4⟩:Ask)) (l.map zC) k0 k1
  simp only [qx,aB,qc,aI,qz,qh,← q0,← q1] at this
  first|exact this|(simp only [qx,aB,qc,aI,qz,qh,← q0,← q1];exact this)
 ·exact h.elim
theorem QjI {α:Type} [Inhabited α] {l:List α} {p:α→Bool} (h:∀ j,j < l.length→p (l.getD j default)=false):l.any p=false:=List.any_eq_false.2 fun x hx=>by
 obtain ⟨j,hj,rfl⟩:=List.mem_iff_getElem.1 hx
 have:=h j hj
 rw [show l.getD j default=l[j] by simp [List.getD_eq_getElem?_getD,hj]] at this
 rw [this];simp
theorem Qgo {α:Type} [Inhabited α] {l:List α} {p:α→Bool} {k:Nat} (hk:k < l.length) (h:p (l.getD k default)=true):l.any p=true:=List.any_eq_true.2 ⟨_,ve hk,h⟩
def rsA (c:Chart) (t:Tk) (l:List Tk) (T:List (Nat × AV)):St:={ t:=asg (T++[(2,qj l),(4,.ptr 1 0),(6,aI 0)]),h:=ql [(0,.cells (qb c)),(1,.cells (cTk t))],n:=2 }
def zg:=vj @ty3 (vj @xh (vj @jG (vj @QX (vj @xA (vj @ym (vj @ti3.eq_1 (vj @vF.eq_1 (vj @jh.eq_1 (vj @Qc.eq_1 (vj @vN.eq_1 @jS.eq_1))))))))))
def wZ:=vj @aI.eq_1 (@aB.eq_1)
theorem QhD (c:Chart) (t:Tk) (l:List Tk) (hc:CarOk c) (hl:l.length≤100):FnV Tryz.prog 135 [qa c,aTk t,qj l] (aI (zF c t l)):=by
 have env:Env (fun _=>True) Tryz.prog tyB (tab [(83,qQ true ze),(133,qQ true zn),(84,qQ true zX),(120,qQ true wS),(121,qQ true vD)]):=qH ⟨QaP,QdB,QjH,Qhq,ertog,trivial⟩
 refine Fn.of (A:=fun _=>True) (n0:=0) (D:=noD) (Fn0 Tryz.func135 rfl (fun vs w=>by kernel_rfl) (by kernel_rfl)) (by simp) (by simp [AV.ids,AV.idsL,qa,qb,aTk,cTk,qj]) (fun i o h=>by cases h) (fun _ _ _ _=>trivial) qF ?_
 have et:(⟨t.party,t.sex,t.cab,t.bed,t.frm,t.to,t.dog⟩:Tk)=t:=rfl
 have ec:(⟨c.cabins,c.secs,c.sold⟩:Chart)=c:=rfl
 have eb:(⟨t.cab,t.bed⟩:Bunk)=⟨t.cab,t.bed⟩:=rfl
 have hc':=hc
 cases h1:inB t.party 1 99
 ·rw [show zF c t l=1 by simp [zF,h1]]
  repeat' (first|(apply nx;with_reducible constructor)|refine uq (by decide) ?_|((first|refine vx env fun Q hQ=>?_|refine vz fun Q hQ=>?_);simp only [vkt,seval,zg,wZ,qf,aTk,cTk,qj,eTk,gTk,mTk,qd,qa,qb,rsA,ze,zn,zX,wS,vD,List.length_map,h1,et,ec];(try simp only [ite_and]);(repeat' (first|with_reducible assumption|refine And.intro ?_ ?_|intro hp));all_goals (first|(refine hQ _ ?_;clear hQ Q)|(refine hQ _ (fun h=>?_) (fun h=>?_) <;> clear hQ Q <;> (try simp only [vki,reduceCtorEq] at h))|(refine vq ?_;kernel_rfl)|omega|assumption|with_reducible rfl|skip)))
  (simp only [vrt,Tryz.results135,vkt,seval,zg,wZ,qf,aTk,cTk,qj,eTk,gTk,mTk,qd,qa,qb,rsA,ze,zn,zX,wS,vD,List.length_map];refine Fin.val rfl ?_;(try simp only [AV.le,AV.leL]))
  all_goals first|rfl|(simp;done)
 cases h2:inB t.sex 1 2
 ·rw [show zF c t l=8 by simp [zF,h1,h2]]
  repeat' (first|(apply nx;with_reducible constructor)|refine uq (by decide) ?_|((first|refine vx env fun Q hQ=>?_|refine vz fun Q hQ=>?_);simp only [vkt,seval,zg,wZ,qf,aTk,cTk,qj,eTk,gTk,mTk,qd,qa,qb,rsA,ze,zn,zX,wS,vD,List.length_map,h1,h2,et,ec];(try simp only [ite_and]);(repeat' (first|with_reducible assumption|refine And.intro ?_ ?_|intro hp));all_goals (first|(refine hQ _ ?_;clear hQ Q)|(refine hQ _ (fun h=>?_) (fun h=>?_) <;> clear hQ Q <;> (try simp only [vki,reduceCtorEq] at h))|(refine vq ?_;kernel_rfl)|omega|assumption|with_reducible rfl|skip)))
  (simp only [vrt,Tryz.results135,vkt,seval,zg,wZ,qf,aTk,cTk,qj,eTk,gTk,mTk,qd,qa,qb,rsA,ze,zn,zX,wS,vD,List.length_map];refine Fin.val rfl ?_;(try simp only [AV.le,AV.leL]))
  all_goals first|rfl|(simp;done)
 cases h3:jU c.cabins t.cab t.bed
 ·rw [show zF c t l=3 by simp [zF,h1,h2,h3]]
  repeat' (first|(apply nx;with_reducible constructor)|refine uq (by decide) ?_|((first|refine vx env fun Q hQ=>?_|refine vz fun Q hQ=>?_);simp only [vkt,seval,zg,wZ,qf,aTk,cTk,qj,eTk,gTk,mTk,qd,qa,qb,rsA,ze,zn,zX,wS,vD,List.length_map,h1,h2,h3,et,ec];(try simp only [ite_and]);(repeat' (first|with_reducible assumption|refine And.intro ?_ ?_|intro hp));all_goals (first|(refine hQ _ ?_;clear hQ Q)|(refine hQ _ (fun h=>?_) (fun h=>?_) <;> clear hQ Q <;> (try simp only [vki,reduceCtorEq] at h))|(refine vq ?_;kernel_rfl)|omega|assumption|with_reducible rfl|skip)))
  (simp only [vrt,Tryz.results135,vkt,seval,zg,wZ,qf,aTk,cTk,qj,eTk,gTk,mTk,qd,qa,qb,rsA,ze,zn,zX,wS,vD,List.length_map];refine Fin.val rfl ?_;(try simp only [AV.le,AV.leL]))
  all_goals first|rfl|(simp;done)
 have hr:zF c t l=if Zc c.secs t.frm t.to ≠ 0 then Zc c.secs t.frm t.to else ww t l:=by unfold zF;simp [h1,h2,h3]
 rw [hr]
 obtain ⟨w,hw⟩:∃ w,Zc c.secs t.frm t.to=w:=⟨_,rfl⟩
 rw [hw]
 by_cases h5:w=0
 ·rw [if_neg (fun h=>h h5)]
  rw [h5] at hw
  unfold ww
  repeat' (first|(apply nx;with_reducible constructor)|refine uq (by decide) ?_|((first|refine vx env fun Q hQ=>?_|refine vz fun Q hQ=>?_);simp only [vkt,seval,zg,wZ,qf,aTk,cTk,qj,eTk,gTk,mTk,qd,qa,qb,rsA,ze,zn,zX,wS,vD,List.length_map,h1,h2,h3,hw,et,ec,decide_true];(try simp only [ite_and]);(repeat' (first|with_reducible assumption|refine And.intro ?_ ?_|intro hp));all_goals (first|(refine hQ _ ?_;clear hQ Q)|(refine hQ _ (fun h=>?_) (fun h=>?_) <;> clear hQ Q <;> (try simp only [vki,reduceCtorEq] at h))|(refine vq ?_;kernel_rfl)|omega|assumption|with_reducible rfl|skip)))
  refine qO (fun k:{ k:Nat // k≤l.length∧∀ j,j < k→xB t (l.getD j default)=false }=>rsA c t l [(8,aI k.1)]) (fun k=>l.length - k.1) ⟨0,Nat.zero_le _,fun j h=>absurd h (Nat.not_lt_zero _)⟩ ?_ fun ⟨k,hk,hno⟩=>?_
  ·simp only [rsA,List.cons_append,List.nil_append]
   (refine Le.ok some [] ?_;constructor;all_goals (try simp only [vle,vkt,seval,zg,wZ,qf,aTk,cTk,qj,eTk,gTk,mTk,qd,qa,qb,rsA,ze,zn,zX,wS,vD,List.length_map]))
   all_goals first|rfl|(simp;done)
  simp only at hk hno ⊢
  simp only [rsA,List.cons_append,List.nil_append]
  by_cases hkl:k < l.length
  ·have d1:decide ((k:Int) < (l.length:Int))=true:=decide_eq_true (by omega)
   have e9:IntKind.wrap .i64 ((k:Int)+1)=((k+1:Nat):Int):=by rw [wrap64 (by omega) (by omega)];rfl
   have k0:((k:Int)).toNat=k:=rfl
   obtain ⟨x,hx⟩:∃ x,l.getD k default=x:=⟨_,rfl⟩
   have ex:(⟨x.party,x.sex,x.cab,x.bed,x.frm,x.to,x.dog⟩:Tk)=x:=rfl
   have hT:xB t x=(decide (x.cab=t.cab) && decide (x.bed=t.bed) && xR x t):=rfl
   cases q1:(decide (x.cab=t.cab) && decide (x.bed=t.bed)) with
   |false =>
    rw [q1,Bool.false_and] at hT
    repeat' (first|(apply nx;with_reducible constructor)|refine uq (by decide) ?_|((first|refine vx env fun Q hQ=>?_|refine vz fun Q hQ=>?_);simp only [vkt,seval,zg,wZ,qf,aTk,cTk,qj,eTk,gTk,mTk,qd,qa,qb,rsA,ze,zn,zX,wS,vD,List.length_map,d1,e9,k0,hkl,hx,q1,et,ex];(try simp only [ite_and]);(repeat' (first|with_reducible assumption|refine And.intro ?_ ?_|intro hp));all_goals (first|(refine hQ _ ?_;clear hQ Q)|(refine hQ _ (fun h=>?_) (fun h=>?_) <;> clear hQ Q <;> (try simp only [vki,reduceCtorEq] at h))|(refine vq ?_;kernel_rfl)|omega|assumption|with_reducible rfl|skip)))
    refine ⟨⟨k+1,hkl,fun j hj=>?_⟩,by show l.length - (k+1) < l.length - k;omega, ?_⟩
    ·rcases Nat.lt_or_eq_of_le (Nat.le_of_lt_succ hj) with h|h
     ·exact hno j h
     ·rw [h,hx];exact hT
    simp only [rsA,List.cons_append,List.nil_append]
    (refine Le.ok some [] ?_;constructor;all_goals (try simp only [vle,vkt,seval,zg,wZ,qf,aTk,cTk,qj,eTk,gTk,mTk,qd,qa,qb,rsA,ze,zn,zX,wS,vD,List.length_map]))
    all_goals first|rfl|(simp;done)
   |true =>
    cases q2:xR x t with
    |false =>
     rw [q1,q2,Bool.true_and] at hT
     repeat' (first|(apply nx;with_reducible constructor)|refine uq (by decide) ?_|((first|refine vx env fun Q hQ=>?_|refine vz fun Q hQ=>?_);simp only [vkt,seval,zg,wZ,qf,aTk,cTk,qj,eTk,gTk,mTk,qd,qa,qb,rsA,ze,zn,zX,wS,vD,List.length_map,d1,e9,k0,hkl,hx,q1,q2,et,ex];(try simp only [ite_and]);(repeat' (first|with_reducible assumption|refine And.intro ?_ ?_|intro hp));all_goals (first|(refine hQ _ ?_;clear hQ Q)|(refine hQ _ (fun h=>?_) (fun h=>?_) <;> clear hQ Q <;> (try simp only [vki,reduceCtorEq] at h))|(refine vq ?_;kernel_rfl)|omega|assumption|with_reducible rfl|skip)))
     refine ⟨⟨k+1,hkl,fun j hj=>?_⟩,by show l.length - (k+1) < l.length - k;omega, ?_⟩
     ·rcases Nat.lt_or_eq_of_le (Nat.le_of_lt_succ hj) with h|h
      ·exact hno j h
      ·rw [h,hx];exact hT
     simp only [rsA,List.cons_append,List.nil_append]
     (refine Le.ok some [] ?_;constructor;all_goals (try simp only [vle,vkt,seval,zg,wZ,qf,aTk,cTk,qj,eTk,gTk,mTk,qd,qa,qb,rsA,ze,zn,zX,wS,vD,List.length_map]))
     all_goals first|rfl|(simp;done)
    |true =>
     rw [q1,q2,Bool.true_and] at hT
     rw [if_pos (Qgo hkl (by rw [hx];exact hT))]
     repeat' (first|(apply nx;with_reducible constructor)|refine uq (by decide) ?_|((first|refine vx env fun Q hQ=>?_|refine vz fun Q hQ=>?_);simp only [vkt,seval,zg,wZ,qf,aTk,cTk,qj,eTk,gTk,mTk,qd,qa,qb,rsA,ze,zn,zX,wS,vD,List.length_map,d1,e9,k0,hkl,hx,q1,q2,et,ex];(try simp only [ite_and]);(repeat' (first|with_reducible assumption|refine And.intro ?_ ?_|intro hp));all_goals (first|(refine hQ _ ?_;clear hQ Q)|(refine hQ _ (fun h=>?_) (fun h=>?_) <;> clear hQ Q <;> (try simp only [vki,reduceCtorEq] at h))|(refine vq ?_;kernel_rfl)|omega|assumption|with_reducible rfl|skip)))
     (simp only [vrt,Tryz.results135,vkt,seval,zg,wZ,qf,aTk,cTk,qj,eTk,gTk,mTk,qd,qa,qb,rsA,ze,zn,zX,wS,vD,List.length_map];refine Fin.val rfl ?_;(try simp only [AV.le,AV.leL]))
     all_goals first|rfl|(simp;done)
  ·have d1:decide ((k:Int) < (l.length:Int))=false:=decide_eq_false (by omega)
   obtain rfl:k=l.length:=by omega
   rw [if_neg (by rw [QjI hno];decide)]
   repeat' (first|(apply nx;with_reducible constructor)|refine uq (by decide) ?_|((first|refine vx env fun Q hQ=>?_|refine vz fun Q hQ=>?_);simp only [vkt,seval,zg,wZ,qf,aTk,cTk,qj,eTk,gTk,mTk,qd,qa,qb,rsA,ze,zn,zX,wS,vD,List.length_map,d1];(try simp only [ite_and]);(repeat' (first|with_reducible assumption|refine And.intro ?_ ?_|intro hp));all_goals (first|(refine hQ _ ?_;clear hQ Q)|(refine hQ _ (fun h=>?_) (fun h=>?_) <;> clear hQ Q <;> (try simp only [vki,reduceCtorEq] at h))|(refine vq ?_;kernel_rfl)|omega|assumption|with_reducible rfl|skip)))
   refine qO (fun k:{ k:Nat // k≤l.length∧∀ j,j < k→(!QS (l.getD j default) t)=false }=>rsA c t l [(9,aI k.1)]) (fun k=>l.length - k.1) ⟨0,Nat.zero_le _,fun j h=>absurd h (Nat.not_lt_zero _)⟩ ?_ fun ⟨k,hk,hno⟩=>?_
   ·simp only [rsA,List.cons_append,List.nil_append]
    (refine Le.ok some [] ?_;constructor;all_goals (try simp only [vle,vkt,seval,zg,wZ,qf,aTk,cTk,qj,eTk,gTk,mTk,qd,qa,qb,rsA,ze,zn,zX,wS,vD,List.length_map]))
    all_goals first|rfl|(simp;done)
   simp only at hk hno ⊢
   simp only [rsA,List.cons_append,List.nil_append]
   by_cases hkl:k < l.length
   ·have d1:decide ((k:Int) < (l.length:Int))=true:=decide_eq_true (by omega)
    have e9:IntKind.wrap .i64 ((k:Int)+1)=((k+1:Nat):Int):=by rw [wrap64 (by omega) (by omega)];rfl
    have k0:((k:Int)).toNat=k:=rfl
    obtain ⟨x,hx⟩:∃ x,l.getD k default=x:=⟨_,rfl⟩
    have ex:(⟨x.party,x.sex,x.cab,x.bed,x.frm,x.to,x.dog⟩:Tk)=x:=rfl
    cases q2:QS x t with
    |true =>
     repeat' (first|(apply nx;with_reducible constructor)|refine uq (by decide) ?_|((first|refine vx env fun Q hQ=>?_|refine vz fun Q hQ=>?_);simp only [vkt,seval,zg,wZ,qf,aTk,cTk,qj,eTk,gTk,mTk,qd,qa,qb,rsA,ze,zn,zX,wS,vD,List.length_map,d1,e9,k0,hkl,hx,q2,et,ex];(try simp only [ite_and]);(repeat' (first|with_reducible assumption|refine And.intro ?_ ?_|intro hp));all_goals (first|(refine hQ _ ?_;clear hQ Q)|(refine hQ _ (fun h=>?_) (fun h=>?_) <;> clear hQ Q <;> (try simp only [vki,reduceCtorEq] at h))|(refine vq ?_;kernel_rfl)|omega|assumption|with_reducible rfl|skip)))
     refine ⟨⟨k+1,hkl,fun j hj=>?_⟩,by show l.length - (k+1) < l.length - k;omega, ?_⟩
     ·rcases Nat.lt_or_eq_of_le (Nat.le_of_lt_succ hj) with h|h
      ·exact hno j h
      ·rw [h,hx,q2];rfl
     simp only [rsA,List.cons_append,List.nil_append]
     (refine Le.ok some [] ?_;constructor;all_goals (try simp only [vle,vkt,seval,zg,wZ,qf,aTk,cTk,qj,eTk,gTk,mTk,qd,qa,qb,rsA,ze,zn,zX,wS,vD,List.length_map]))
     all_goals first|rfl|(simp;done)
    |false =>
     rw [if_pos (Qgo (p:=fun x=>!QS x t) hkl (by rw [hx,q2];rfl))]
     repeat' (first|(apply nx;with_reducible constructor)|refine uq (by decide) ?_|((first|refine vx env fun Q hQ=>?_|refine vz fun Q hQ=>?_);simp only [vkt,seval,zg,wZ,qf,aTk,cTk,qj,eTk,gTk,mTk,qd,qa,qb,rsA,ze,zn,zX,wS,vD,List.length_map,d1,e9,k0,hkl,hx,q2,et,ex];(try simp only [ite_and]);(repeat' (first|with_reducible assumption|refine And.intro ?_ ?_|intro hp));all_goals (first|(refine hQ _ ?_;clear hQ Q)|(refine hQ _ (fun h=>?_) (fun h=>?_) <;> clear hQ Q <;> (try simp only [vki,reduceCtorEq] at h))|(refine vq ?_;kernel_rfl)|omega|assumption|with_reducible rfl|skip)))
     (simp only [vrt,Tryz.results135,vkt,seval,zg,wZ,qf,aTk,cTk,qj,eTk,gTk,mTk,qd,qa,qb,rsA,ze,zn,zX,wS,vD,List.length_map];refine Fin.val rfl ?_;(try simp only [AV.le,AV.leL]))
     all_goals first|rfl|(simp;done)
   ·have d1:decide ((k:Int) < (l.length:Int))=false:=decide_eq_false (by omega)
    obtain rfl:k=l.length:=by omega
    rw [if_neg (by rw [QjI (p:=fun x=>!QS x t) hno];decide)]
    repeat' (first|(apply nx;with_reducible constructor)|refine uq (by decide) ?_|((first|refine vx env fun Q hQ=>?_|refine vz fun Q hQ=>?_);simp only [vkt,seval,zg,wZ,qf,aTk,cTk,qj,eTk,gTk,mTk,qd,qa,qb,rsA,ze,zn,zX,wS,vD,List.length_map,d1];(try simp only [ite_and]);(repeat' (first|with_reducible assumption|refine And.intro ?_ ?_|intro hp));all_goals (first|(refine hQ _ ?_;clear hQ Q)|(refine hQ _ (fun h=>?_) (fun h=>?_) <;> clear hQ Q <;> (try simp only [vki,reduceCtorEq] at h))|(refine vq ?_;kernel_rfl)|omega|assumption|with_reducible rfl|skip)))
    (simp only [vrt,Tryz.results135,vkt,seval,zg,wZ,qf,aTk,cTk,qj,eTk,gTk,mTk,qd,qa,qb,rsA,ze,zn,zX,wS,vD,List.length_map];refine Fin.val rfl ?_;(try simp only [AV.le,AV.leL]))
    all_goals first|rfl|(simp;done)
 ·rw [if_pos h5]
  have d5:decide (w=0)=false:=decide_eq_false h5
  repeat' (first|(apply nx;with_reducible constructor)|refine uq (by decide) ?_|((first|refine vx env fun Q hQ=>?_|refine vz fun Q hQ=>?_);simp only [vkt,seval,zg,wZ,qf,aTk,cTk,qj,eTk,gTk,mTk,qd,qa,qb,rsA,ze,zn,zX,wS,vD,List.length_map,h1,h2,h3,hw,d5,et,ec];(try simp only [ite_and]);(repeat' (first|with_reducible assumption|refine And.intro ?_ ?_|intro hp));all_goals (first|(refine hQ _ ?_;clear hQ Q)|(refine hQ _ (fun h=>?_) (fun h=>?_) <;> clear hQ Q <;> (try simp only [vki,reduceCtorEq] at h))|(refine vq ?_;kernel_rfl)|omega|assumption|with_reducible rfl|skip)))
  (simp only [vrt,Tryz.results135,vkt,seval,zg,wZ,qf,aTk,cTk,qj,eTk,gTk,mTk,qd,qa,qb,rsA,ze,zn,zX,wS,vD,List.length_map];refine Fin.val rfl ?_;(try simp only [AV.le,AV.leL]))
  all_goals first|rfl|(simp;done)
def Zw:List AV→Prop × AV
 |[.agg [.sl c0,.v (.int .i64 c1),.sl c2],.agg [.v (.int .i64 t0),.v (.int .i64 t1),.v (.int .i64 t2),.v (.int .i64 t3),.v (.int .i64 t4),.v (.int .i64 t5),.v (.bool t6)],.sl l]=>(c0=(c0.map qo).map qg∧c2=(c2.map dTk).map eTk∧l=(l.map dTk).map eTk∧CarOk ((⟨(c0.map qo),c1,(c2.map dTk)⟩:Chart))∧(l.map dTk).length≤100,aI (zF ((⟨(c0.map qo),c1,(c2.map dTk)⟩:Chart)) (⟨t0,t1,t2,t3,t4,t5,t6⟩:Tk) (l.map dTk)))
 |_=>(False,.junk)
theorem QkM {A:Frm→Prop}:qD A Tryz.prog 135 (qQ true Zw):=qR fun vs hv h=>by
 clear hv
 unfold Zw at h ⊢
 split at h
 ·rename_i c0 c1 c2 t0 t1 t2 t3 t4 t5 t6 l;obtain ⟨q0,q1,q2,k0,k1⟩:=h
  refine ⟨by first|trivial|(simp [AV.plain,AV.plainL,aI,aB,qz,qc,qj,qf,aTk,cTk];done)|(repeat' split) <;> simp [AV.plain,AV.plainL,aI,aB,qz,qc,qj,qf,aTk,cTk],fun _=>(by simp [AV.flat,AV.flatL,aI,aB]), ?_⟩
  have:=QhD ((⟨(c0.map qo),c1,(c2.map dTk)⟩:Chart)) (⟨t0,t1,t2,t3,t4,t5,t6⟩:Tk) (l.map dTk) k0 k1
  simp only [aB,qM,qa,aI,aTk,qj,qb,cTk,← q0,← q1,← q2] at this
  first|exact this|(simp only [aB,qM,qa,aI,aTk,qj,qb,cTk,← q0,← q1,← q2];exact this)
 ·exact h.elim
def rkS (c:Chart) (l:List Tk) (k:Nat):St:={ t:=asg [(1,qj l),(2,.ptr 0 0),(4,aI 0),(5,aI k)],h:=ql [(0,.cells (qb c))],n:=1 }
def xH:=vj @ty3 (vj @xh (vj @jG (vj @QX (vj @ym (vj @ti3.eq_1 (vj @vF.eq_1 (vj @jh.eq_1 (vj @Qc.eq_1 @jS.eq_1))))))))
def ZZ:=vj @aI.eq_1 (@aB.eq_1)
theorem Qi5 (c:Chart) (l:List Tk) (hc:CarOk c) (hl:l.length≤100):FnV Tryz.prog 112 [qa c,qj l] (aI (jH c l)):=by
 have env:Env (fun _=>True) Tryz.prog tyB (tab [(135,qQ true Zw)]):=qH ⟨QkM,trivial⟩
 refine Fn.of (A:=fun _=>True) (n0:=0) (D:=noD) (Fn0 Tryz.func112 rfl (fun vs w=>by kernel_rfl) (by kernel_rfl)) (by simp) (by simp [AV.ids,AV.idsL,qa,qb,qj]) (fun i o h=>by cases h) (fun _ _ _ _=>trivial) qF ?_
 have ec:(⟨c.cabins,c.secs,c.sold⟩:Chart)=c:=rfl
 repeat' (first|(apply nx;with_reducible constructor)|refine uq (by decide) ?_|((first|refine vx env fun Q hQ=>?_|refine vz fun Q hQ=>?_);simp only [vkt,seval,xH,ZZ,aTk,cTk,qj,eTk,gTk,rTk,mTk,qd,qa,qb,rkS,Zw,List.length_map];(try simp only [ite_and]);(repeat' (first|with_reducible assumption|refine And.intro ?_ ?_|intro hp));all_goals (first|(refine hQ _ ?_;clear hQ Q)|(refine hQ _ (fun h=>?_) (fun h=>?_) <;> clear hQ Q <;> (try simp only [vki,reduceCtorEq] at h))|(refine vq ?_;kernel_rfl)|omega|assumption|with_reducible rfl|skip)))
 refine qO (fun k:{ k:Nat // k≤l.length∧∀ j,j < k→zF c (l.getD j default) (l.take j)=0 }=>rkS c l k.1) (fun k=>l.length - k.1) ⟨0,Nat.zero_le _,fun j h=>absurd h (Nat.not_lt_zero _)⟩ ?_ fun ⟨k,hk,hno⟩=>?_
 ·(refine Le.ok some [] ?_;constructor;all_goals (try simp only [vle,vkt,seval,xH,ZZ,aTk,cTk,qj,eTk,gTk,rTk,mTk,qd,qa,qb,rkS,Zw,List.length_map]))
  all_goals first|rfl|(simp;done)
 simp only at hk hno ⊢
 simp only [rkS]
 by_cases hlt:k < l.length
 ·have d1:decide ((k:Int) < (l.length:Int))=true:=decide_eq_true (by omega)
  have e9:IntKind.wrap .i64 ((k:Int)+1)=((k+1:Nat):Int):=by rw [wrap64 (by omega) (by omega)];rfl
  have k0:((k:Int)).toNat=k:=rfl
  obtain ⟨x,hx⟩:∃ x,l.getD k default=x:=⟨_,rfl⟩
  have ex:(⟨x.party,x.sex,x.cab,x.bed,x.frm,x.to,x.dog⟩:Tk)=x:=rfl
  have tk:List.take k (l.map eTk)=(l.take k).map eTk:=List.map_take.symm
  have t100:(l.take k).length≤100:=by rw [List.length_take];omega
  have hkl:k≤l.length:=hk
  have hg:=Qfd (f:=fun i=>zF c (l.getD i default) (l.take i)) hlt
  obtain ⟨e,he⟩:∃ e,zF c x (l.take k)=e:=⟨_,rfl⟩
  by_cases h2:e=0
  ·rw [h2] at he
   repeat' (first|(apply nx;with_reducible constructor)|refine uq (by decide) ?_|((first|refine vx env fun Q hQ=>?_|refine vz fun Q hQ=>?_);simp only [vkt,seval,xH,ZZ,aTk,cTk,qj,eTk,gTk,rTk,mTk,qd,qa,qb,rkS,Zw,List.length_map,d1,k0,hlt,hkl,hx,ex,ec,tk,he,e9,decide_true];(try simp only [ite_and]);(repeat' (first|with_reducible assumption|refine And.intro ?_ ?_|intro hp));all_goals (first|(refine hQ _ ?_;clear hQ Q)|(refine hQ _ (fun h=>?_) (fun h=>?_) <;> clear hQ Q <;> (try simp only [vki,reduceCtorEq] at h))|(refine vq ?_;kernel_rfl)|omega|assumption|with_reducible rfl|skip)))
   refine ⟨⟨k+1,hlt,fun j hj=>?_⟩,by show l.length - (k+1) < l.length - k;omega, ?_⟩
   ·rcases Nat.lt_or_eq_of_le (Nat.le_of_lt_succ hj) with h3|h3
    ·exact hno j h3
    ·rw [h3,hx];exact he
   ·(refine Le.ok some [] ?_;constructor;all_goals (try simp only [vle,vkt,seval,xH,ZZ,aTk,cTk,qj,eTk,gTk,rTk,mTk,qd,qa,qb,rkS,Zw,List.length_map]))
    all_goals first|rfl|(simp;done)
  ·have hf:jH c l=e:=by
    unfold jH
    rw [kW (k:=k) (fun j hj=>by rw [Qfd (by omega)];exact hno j hj) (by simpa using hlt) (by rw [hg,hx,he];exact h2),hg,hx,he]
   rw [hf]
   have d2:decide (e=0)=false:=decide_eq_false h2
   repeat' (first|(apply nx;with_reducible constructor)|refine uq (by decide) ?_|((first|refine vx env fun Q hQ=>?_|refine vz fun Q hQ=>?_);simp only [vkt,seval,xH,ZZ,aTk,cTk,qj,eTk,gTk,rTk,mTk,qd,qa,qb,rkS,Zw,List.length_map,d1,k0,hlt,hkl,hx,ex,ec,tk,he,d2];(try simp only [ite_and]);(repeat' (first|with_reducible assumption|refine And.intro ?_ ?_|intro hp));all_goals (first|(refine hQ _ ?_;clear hQ Q)|(refine hQ _ (fun h=>?_) (fun h=>?_) <;> clear hQ Q <;> (try simp only [vki,reduceCtorEq] at h))|(refine vq ?_;kernel_rfl)|omega|assumption|with_reducible rfl|skip)))
   (simp only [vrt,Tryz.results112,vkt,seval,xH,ZZ,aTk,cTk,qj,eTk,gTk,rTk,mTk,qd,qa,qb,rkS,Zw,List.length_map];refine Fin.val rfl ?_;(try simp only [AV.le,AV.leL]))
   all_goals first|rfl|(simp;done)
 ·have d1:decide ((k:Int) < (l.length:Int))=false:=decide_eq_false (by omega)
  have hke:k=l.length:=by omega
  subst hke
  rw [show jH c l=0 from yX fun j hj=>by
   have hj':j < l.length:=by simpa using hj
   rw [Qfd hj'];exact hno j hj']
  repeat' (first|(apply nx;with_reducible constructor)|refine uq (by decide) ?_|((first|refine vx env fun Q hQ=>?_|refine vz fun Q hQ=>?_);simp only [vkt,seval,xH,ZZ,aTk,cTk,qj,eTk,gTk,rTk,mTk,qd,qa,qb,rkS,Zw,List.length_map,d1];(try simp only [ite_and]);(repeat' (first|with_reducible assumption|refine And.intro ?_ ?_|intro hp));all_goals (first|(refine hQ _ ?_;clear hQ Q)|(refine hQ _ (fun h=>?_) (fun h=>?_) <;> clear hQ Q <;> (try simp only [vki,reduceCtorEq] at h))|(refine vq ?_;kernel_rfl)|omega|assumption|with_reducible rfl|skip)))
  (simp only [vrt,Tryz.results112,vkt,seval,xH,ZZ,aTk,cTk,qj,eTk,gTk,rTk,mTk,qd,qa,qb,rkS,Zw,List.length_map];refine Fin.val rfl ?_;(try simp only [AV.le,AV.leL]))
  all_goals first|rfl|(simp;done)
def xU:List AV→Prop × AV
 |[.agg [.sl c0,.v (.int .i64 c1),.sl c2],.sl l]=>(c0=(c0.map qo).map qg∧c2=(c2.map dTk).map eTk∧l=(l.map dTk).map eTk∧CarOk ((⟨(c0.map qo),c1,(c2.map dTk)⟩:Chart))∧(l.map dTk).length≤100,aI (jH ((⟨(c0.map qo),c1,(c2.map dTk)⟩:Chart)) (l.map dTk)))
 |_=>(False,.junk)
theorem Qjz {A:Frm→Prop}:qD A Tryz.prog 112 (qQ true xU):=qR fun vs hv h=>by
 clear hv
 unfold xU at h ⊢
 split at h
 ·rename_i c0 c1 c2 l;obtain ⟨q0,q1,q2,k0,k1⟩:=h
  refine ⟨by first|trivial|(simp [AV.plain,AV.plainL,aI,aB,qz,qc,qj,qf,aTk,cTk];done)|(repeat' split) <;> simp [AV.plain,AV.plainL,aI,aB,qz,qc,qj,qf,aTk,cTk],fun _=>(by simp [AV.flat,AV.flatL,aI,aB]), ?_⟩
  have:=Qi5 ((⟨(c0.map qo),c1,(c2.map dTk)⟩:Chart)) (l.map dTk) k0 k1
  simp only [qM,qa,aI,qj,qb,← q0,← q1,← q2] at this
  first|exact this|(simp only [qM,qa,aI,qj,qb,← q0,← q1,← q2];exact this)
 ·exact h.elim
def wL (c:Chart) (a:Ask) (l:List Bunk):Bool:=decide (l.length=a.sexes.length) && l.all (fun b=>jU c.cabins b.cab b.bed) && decide (jH c (c.sold++vB a l l.length)=0) && ZC c.cabins l
theorem Qcx {c:Chart} {a:Ask} {l:List Bunk} {k:Nat} (hk:k < l.length) (h:jU c.cabins (l.getD k default).cab (l.getD k default).bed=false):wL c a l=false:=by
 have:l.all (fun b=>jU c.cabins b.cab b.bed)=false:=by
  rw [List.all_eq_false]
  exact ⟨_,ve hk,by rw [h];decide⟩
 unfold wL
 rw [this];simp
def ipS (c:Chart) (a:Ask) (l:List Bunk) (k:Nat):St:={ t:=asg [(2,qc l),(3,.ptr 0 0),(4,.ptr 1 0),(6,aB false),(7,aI k)],h:=ql [(0,.cells (qb c)),(1,.cells (qh a))],n:=2 }
def wF:=vj @ty3 (vj @xh (vj @jG (vj @QV (vj @QF (vj @QX (vj @Wx (vj @xA (vj @ym (vj @ti3.eq_1 (vj @vF.eq_1 (vj @jh.eq_1 (vj @Qn.eq_1 (vj @kY.eq_1 (vj @Qc.eq_1 (vj @ZH.eq_1 (vj @vN.eq_1 @jS.eq_1))))))))))))))))
def kw:=vj @aI.eq_1 (vj @aB.eq_1 (@Q4))
theorem Qcv (c:Chart) (a:Ask) (l:List Bunk) (hc:CarOk c) (hs:c.sold.length≤20) (ha:0 < a.sexes.length∧a.sexes.length≤20) (hl:l.length≤maxLen):FnV Tryz.prog 106 [qa c,qx a,qc l] (aB (wL c a l)):=by
 have env:Env (fun _=>True) Tryz.prog tyB (tab [(133,qQ true zn),(61,qQ false jQ),(112,qQ true xU),(134,qQ true kL)]):=qH ⟨QdB,Qhr,Qjz,Qkb,trivial⟩
 refine Fn.of (A:=fun _=>True) (n0:=0) (D:=noD) (Fn0 Tryz.func106 rfl (fun vs w=>by kernel_rfl) (by kernel_rfl)) (by simp) (by simp [AV.ids,AV.idsL,qa,qb,qx,qh,qc]) (fun i o h=>by cases h) (fun _ _ _ _=>trivial) qF ?_
 have ec:(⟨c.cabins,c.secs,c.sold⟩:Chart)=c:=rfl
 have ea:(⟨a.party,a.frm,a.to,a.sexes,a.dog⟩:Ask)=a:=rfl
 have hmx:(100000:Nat)≤maxLen:=by decide
 by_cases hn:l.length=a.sexes.length
 ·have d0:decide ((l.length:Int)=(a.sexes.length:Int))=true:=decide_eq_true (by omega)
  repeat' (first|(apply nx;with_reducible constructor)|refine uq (by decide) ?_|((first|refine vx env fun Q hQ=>?_|refine vz fun Q hQ=>?_);simp only [vkt,seval,wF,kw,qf,qc,qw,qE,qI,qj,eTk,rTk,mTk,qd,qa,qb,qx,qh,ipS,zn,jQ,xU,kL,List.length_map,d0];(try simp only [ite_and]);(repeat' (first|with_reducible assumption|refine And.intro ?_ ?_|intro hp));all_goals (first|(refine hQ _ ?_;clear hQ Q)|(refine hQ _ (fun h=>?_) (fun h=>?_) <;> clear hQ Q <;> (try simp only [vki,reduceCtorEq] at h))|(refine vq ?_;kernel_rfl)|omega|assumption|with_reducible rfl|skip)))
  refine qO (fun k:{ k:Nat // k≤l.length∧∀ j,j < k→jU c.cabins (l.getD j default).cab (l.getD j default).bed=true }=>ipS c a l k.1) (fun k=>l.length - k.1) ⟨0,Nat.zero_le _,fun j h=>absurd h (Nat.not_lt_zero _)⟩ ?_ fun ⟨k,hk,hno⟩=>?_
  ·(refine Le.ok some [] ?_;constructor;all_goals (try simp only [vle,vkt,seval,wF,kw,qf,qc,qw,qE,qI,qj,eTk,rTk,mTk,qd,qa,qb,qx,qh,ipS,zn,jQ,xU,kL,List.length_map]))
   all_goals first|rfl|(simp;done)
  simp only at hk hno ⊢
  simp only [ipS]
  by_cases hlt:k < l.length
  ·have d1:decide ((k:Int) < (l.length:Int))=true:=decide_eq_true (by omega)
   have e9:IntKind.wrap .i64 ((k:Int)+1)=((k+1:Nat):Int):=by rw [wrap64 (by omega) (by omega)];rfl
   have k0:((k:Int)).toNat=k:=rfl
   have hP:=Qcx (c:=c) (a:=a) hlt
   have hnk:=hno
   obtain ⟨x,hx⟩:∃ x,l.getD k default=x:=⟨_,rfl⟩
   rw [hx] at hP
   cases q:jU c.cabins x.cab x.bed with
   |true =>
    repeat' (first|(apply nx;with_reducible constructor)|refine uq (by decide) ?_|((first|refine vx env fun Q hQ=>?_|refine vz fun Q hQ=>?_);simp only [vkt,seval,wF,kw,qf,qc,qw,qE,qI,qj,eTk,rTk,mTk,qd,qa,qb,qx,qh,ipS,zn,jQ,xU,kL,List.length_map,d1,k0,hlt,hx,ec,q,e9];(try simp only [ite_and]);(repeat' (first|with_reducible assumption|refine And.intro ?_ ?_|intro hp));all_goals (first|(refine hQ _ ?_;clear hQ Q)|(refine hQ _ (fun h=>?_) (fun h=>?_) <;> clear hQ Q <;> (try simp only [vki,reduceCtorEq] at h))|(refine vq ?_;kernel_rfl)|omega|assumption|with_reducible rfl|skip)))
    refine ⟨⟨k+1,hlt,fun j hj=>?_⟩,by show l.length - (k+1) < l.length - k;omega, ?_⟩
    ·rcases Nat.lt_or_eq_of_le (Nat.le_of_lt_succ hj) with h3|h3
     ·exact hno j h3
     ·rw [h3,hx];exact q
    ·(refine Le.ok some [] ?_;constructor;all_goals (try simp only [vle,vkt,seval,wF,kw,qf,qc,qw,qE,qI,qj,eTk,rTk,mTk,qd,qa,qb,qx,qh,ipS,zn,jQ,xU,kL,List.length_map]))
     all_goals first|rfl|(simp;done)
   |false =>
    rw [hP q]
    repeat' (first|(apply nx;with_reducible constructor)|refine uq (by decide) ?_|((first|refine vx env fun Q hQ=>?_|refine vz fun Q hQ=>?_);simp only [vkt,seval,wF,kw,qf,qc,qw,qE,qI,qj,eTk,rTk,mTk,qd,qa,qb,qx,qh,ipS,zn,jQ,xU,kL,List.length_map,d1,k0,hlt,hx,ec,q];(try simp only [ite_and]);(repeat' (first|with_reducible assumption|refine And.intro ?_ ?_|intro hp));all_goals (first|(refine hQ _ ?_;clear hQ Q)|(refine hQ _ (fun h=>?_) (fun h=>?_) <;> clear hQ Q <;> (try simp only [vki,reduceCtorEq] at h))|(refine vq ?_;kernel_rfl)|omega|assumption|with_reducible rfl|skip)))
    (simp only [vrt,Tryz.results106,vkt,seval,wF,kw,qf,qc,qw,qE,qI,qj,eTk,rTk,mTk,qd,qa,qb,qx,qh,ipS,zn,jQ,xU,kL,List.length_map];refine Fin.val rfl ?_;(try simp only [AV.le,AV.leL]))
    all_goals first|rfl|(simp;done)
  ·have d1:decide ((k:Int) < (l.length:Int))=false:=decide_eq_false (by omega)
   obtain rfl:k=l.length:=by omega
   have hall:l.all (fun b=>jU c.cabins b.cab b.bed)=true:=by
    rw [List.all_eq_true]
    intro b hb
    obtain ⟨j,hj,rfl⟩:=List.mem_iff_getElem.1 hb
    have:=hno j hj
    rw [show l.getD j default=l[j] by simp [List.getD_eq_getElem?_getD,hj]] at this
    exact this
   have hcl:=hc.cabs
   have hnear:NearOk c.cabins l:=⟨by omega,by omega,by omega,fun b hb=>by
    have:=List.all_eq_true.1 hall b hb
    have:=Rf this
    exact ⟨this.1,this.2.1⟩⟩
   have b1:l.length≤100:=by omega
   have b2:a.sexes.length=l.length:=hn.symm
   have hTl:=WA a l l.length
   obtain ⟨T,hT⟩:∃ T,vB a l l.length=T:=⟨_,rfl⟩
   rw [hT] at hTl
   have b3:c.sold.length≤maxLen:=by omega
   have b4:c.sold.length+T.length≤maxLen:=by omega
   have b5:(c.sold++T).length≤100:=by rw [List.length_append];omega
   have hE:wL c a l=(decide (jH c (c.sold++T)=0) && ZC c.cabins l):=by
    unfold wL
    rw [hall,decide_eq_true hn,hT];rfl
   rw [hE]
   have ma:List.map eTk c.sold++List.map eTk T=List.map eTk (c.sold++T):=by rw [List.map_append]
   cases q:decide (jH c (c.sold++T)=0) with
   |true =>
    repeat' (first|(apply nx;with_reducible constructor)|refine uq (by decide) ?_|((first|refine vx env fun Q hQ=>?_|refine vz fun Q hQ=>?_);simp only [vkt,seval,wF,kw,qf,qc,qw,qE,qI,qj,eTk,rTk,mTk,qd,qa,qb,qx,qh,ipS,zn,jQ,xU,kL,List.length_map,d1,ec,ea,b1,b2,hT,b3,b4,b5,ma,q,hnear];(try simp only [ite_and]);(repeat' (first|with_reducible assumption|refine And.intro ?_ ?_|intro hp));all_goals (first|(refine hQ _ ?_;clear hQ Q)|(refine hQ _ (fun h=>?_) (fun h=>?_) <;> clear hQ Q <;> (try simp only [vki,reduceCtorEq] at h))|(refine vq ?_;kernel_rfl)|omega|assumption|with_reducible rfl|skip)))
    (simp only [vrt,Tryz.results106,vkt,seval,wF,kw,qf,qc,qw,qE,qI,qj,eTk,rTk,mTk,qd,qa,qb,qx,qh,ipS,zn,jQ,xU,kL,List.length_map];refine Fin.val rfl ?_;(try simp only [AV.le,AV.leL]))
    all_goals first|rfl|(simp;done)
   |false =>
    repeat' (first|(apply nx;with_reducible constructor)|refine uq (by decide) ?_|((first|refine vx env fun Q hQ=>?_|refine vz fun Q hQ=>?_);simp only [vkt,seval,wF,kw,qf,qc,qw,qE,qI,qj,eTk,rTk,mTk,qd,qa,qb,qx,qh,ipS,zn,jQ,xU,kL,List.length_map,d1,ec,ea,b1,b2,hT,b3,b4,b5,ma,q,hnear];(try simp only [ite_and]);(repeat' (first|with_reducible assumption|refine And.intro ?_ ?_|intro hp));all_goals (first|(refine hQ _ ?_;clear hQ Q)|(refine hQ _ (fun h=>?_) (fun h=>?_) <;> clear hQ Q <;> (try simp only [vki,reduceCtorEq] at h))|(refine vq ?_;kernel_rfl)|omega|assumption|with_reducible rfl|skip)))
    (simp only [vrt,Tryz.results106,vkt,seval,wF,kw,qf,qc,qw,qE,qI,qj,eTk,rTk,mTk,qd,qa,qb,qx,qh,ipS,zn,jQ,xU,kL,List.length_map];refine Fin.val rfl ?_;(try simp only [AV.le,AV.leL]))
    all_goals first|rfl|(simp;done)
 ·have d0:decide ((l.length:Int)=(a.sexes.length:Int))=false:=decide_eq_false (by omega)
  have hE:wL c a l=false:=by unfold wL;rw [decide_eq_false hn];rfl
  rw [hE]
  repeat' (first|(apply nx;with_reducible constructor)|refine uq (by decide) ?_|((first|refine vx env fun Q hQ=>?_|refine vz fun Q hQ=>?_);simp only [vkt,seval,wF,kw,qf,qc,qw,qE,qI,qj,eTk,rTk,mTk,qd,qa,qb,qx,qh,ipS,zn,jQ,xU,kL,List.length_map,d0];(try simp only [ite_and]);(repeat' (first|with_reducible assumption|refine And.intro ?_ ?_|intro hp));all_goals (first|(refine hQ _ ?_;clear hQ Q)|(refine hQ _ (fun h=>?_) (fun h=>?_) <;> clear hQ Q <;> (try simp only [vki,reduceCtorEq] at h))|(refine vq ?_;kernel_rfl)|omega|assumption|with_reducible rfl|skip)))
  (simp only [vrt,Tryz.results106,vkt,seval,wF,kw,qf,qc,qw,qE,qI,qj,eTk,rTk,mTk,qd,qa,qb,qx,qh,ipS,zn,jQ,xU,kL,List.length_map];refine Fin.val rfl ?_;(try simp only [AV.le,AV.leL]))
  all_goals first|rfl|(simp;done)
def xG:List AV→Prop × AV
 |[.agg [.sl c0,.v (.int .i64 c1),.sl c2],.agg [.v (.int .i64 a0),.v (.int .i64 a1),.v (.int .i64 a2),.sl a3,.v (.bool a4)],.sl l]=>(c0=(c0.map qo).map qg∧c2=(c2.map dTk).map eTk∧a3=(a3.map za).map zD∧l=(l.map zC).map qw∧CarOk ((⟨(c0.map qo),c1,(c2.map dTk)⟩:Chart))∧((⟨(c0.map qo),c1,(c2.map dTk)⟩:Chart)).sold.length≤20∧0 < ((⟨a0,a1,a2,(a3.map za),a4⟩:Ask)).sexes.length∧((⟨a0,a1,a2,(a3.map za),a4⟩:Ask)).sexes.length≤20∧(l.map zC).length≤maxLen,aB (wL ((⟨(c0.map qo),c1,(c2.map dTk)⟩:Chart)) ((⟨a0,a1,a2,(a3.map za),a4⟩:Ask)) (l.map zC)))
 |_=>(False,.junk)
theorem QgG {A:Frm→Prop}:qD A Tryz.prog 106 (qQ true xG):=qR fun vs hv h=>by
 clear hv
 unfold xG at h ⊢
 split at h
 ·rename_i c0 c1 c2 a0 a1 a2 a3 a4 l;obtain ⟨q0,q1,q2,q3,k0,k1,k2,k3,k4⟩:=h
  refine ⟨by first|trivial|(simp [AV.plain,AV.plainL,aI,aB,qz,qc,qj,qf,aTk,cTk];done)|(repeat' split) <;> simp [AV.plain,AV.plainL,aI,aB,qz,qc,qj,qf,aTk,cTk],fun _=>(by simp [AV.flat,AV.flatL,aI,aB]), ?_⟩
  have:=Qcv ((⟨(c0.map qo),c1,(c2.map dTk)⟩:Chart)) ((⟨a0,a1,a2,(a3.map za),a4⟩:Ask)) (l.map zC) k0 k1 ⟨k2,k3⟩ k4
  simp only [qx,aB,qc,qM,qa,aI,qz,qj,qh,qb,← q0,← q1,← q2,← q3] at this
  first|exact this|(simp only [qx,aB,qc,qM,qa,aI,qz,qj,qh,qb,← q0,← q1,← q2,← q3];exact this)
 ·exact h.elim
def stB (a b:Tk) (s:Int):Bool:=decide (a.cab=b.cab) && !decide (s < a.frm) && !decide (a.to≤s) && !decide (s < b.frm) && !decide (b.to≤s) && (decide (a.bed=b.bed) || (!decide (a.party=b.party) && (!decide (a.sex=b.sex) || a.dog || b.dog)))
def prB (c:Chart) (a b:Tk):Bool:=(List.range c.secs.toNat).any fun (s:Nat)=>stB a b s
def rwB (c:Chart) (i:Nat):Bool:=(List.range i).any fun k=>prB c (c.sold.getD i default) (c.sold.getD k default)
def strB (c:Chart):Bool:=(List.range c.sold.length).any (rwB c)
def WK (c:Chart) (a:Ask) (l:List Bunk):Bool:=ZC c.cabins l && !strB ⟨c.cabins,c.secs,c.sold++vB a l l.length⟩
def YX (cs:List Cabin) (a:Ask):List Tk→List Bunk→List Bunk→Bool
 |_,_,[]=>true
 |sold,begun,b :: r=>goB cs a sold begun b && YX cs a (sold++[Qi a begun.length b]) (begun++[b]) r
theorem QaG (cs:List Cabin) (a:Ask):∀ (m:Nat) (sold:List Tk) (begun:List Bunk),(wH cs a m sold begun).map (·.1)=((alL (qX cs) m).filter (YX cs a sold begun)).map (begun++·)
 |0,sold,begun=>by
  show [begun]=(([[]]:List (List Bunk)).filter (YX cs a sold begun)).map (begun++·)
  rw [List.filter_cons_of_pos (by rfl)]
  simp
 |m+1,sold,begun=>by
  rw [kF,alL,List.map_flatMap,List.filter_flatMap,List.map_flatMap]
  refine congrArg (List.flatMap · (qX cs)) (funext fun b=>?_)
  unfold gbL
  cases h:goB cs a sold begun b with
  |true =>
   rw [if_pos rfl,QaG cs a m,List.filter_map,List.map_map]
   have e1:(YX cs a sold begun ∘ fun x=>b :: x)=YX cs a (sold++[Qi a begun.length b]) (begun++[b]):=funext fun r=>by
    show YX cs a sold begun (b :: r)=_
    rw [YX,h,Bool.true_and]
   rw [e1]
   refine congrArg (List.map · _) (funext fun r=>?_)
   show (begun++[b])++r=begun++b :: r
   simp
  |false =>
   rw [if_neg (by decide),List.filter_map]
   have e1:(YX cs a sold begun ∘ fun x=>b :: x)=fun _=>false:=funext fun r=>by
    show YX cs a sold begun (b :: r)=_
    rw [YX,h,Bool.false_and]
   rw [e1]
   simp
def PWr:List Tk→List Tk→Prop
 |_,[]=>True
 |s,t :: ts=>ww t s=0∧PWr (s++[t]) ts
theorem QdK:∀ (s l r:List Tk),PWr s (l++r) ↔ PWr s l∧PWr (s++l) r
 |s,[],r=>by simp [PWr]
 |s,t :: l,r=>by
  show ww t s=0∧PWr (s++[t]) (l++r) ↔ (ww t s=0∧PWr (s++[t]) l)∧PWr (s++t :: l) r
  rw [QdK (s++[t]) l r,and_assoc]
  simp
theorem YE:∀ (s l:List Tk),PWr s l ↔ ∀ i,i < l.length→ww (l.getD i default) (s++l.take i)=0
 |s,[]=>by simp [PWr]
 |s,t :: l=>by
  show ww t s=0∧PWr (s++[t]) l ↔ _
  rw [YE (s++[t]) l]
  constructor
  ·rintro ⟨h1,h2⟩ i hi
   cases i with
   |zero=>simpa using h1
   |succ i =>
    have:=h2 i (by simpa using hi)
    simpa using this
  ·intro h
   refine ⟨by simpa using h 0 (by simp),fun i hi=>?_⟩
   have:=h (i+1) (by simpa using hi)
   simpa using this
def tkR (a:Ask):Nat→List Bunk→List Tk
 |_,[]=>[]
 |n,b :: r=>Qi a n b :: tkR a (n+1) r
theorem QdL (a:Ask):∀ (n:Nat) (l r:List Bunk),tkR a n (l++r)=tkR a n l++tkR a (n+l.length) r
 |n,[],r=>by simp [tkR]
 |n,b :: l,r=>by
  show Qi a n b :: tkR a (n+1) (l++r)=_
  rw [QdL a (n+1) l r]
  simp [tkR,Nat.add_assoc,Nat.add_comm 1]
theorem XN (a:Ask) (l:List Bunk):∀ k,k≤l.length→vB a l k=tkR a 0 (l.take k)
 |0,_=>by simp [vB,tkR]
 |k+1,h=>by
  rw [Xg,XN a l k (by omega),List.take_succ_eq_append_getElem h,QdL,List.length_take]
  have hk:k < l.length:=h
  simp [tkR,List.getD_eq_getElem?_getD,hk,Nat.min_eq_left (show k≤l.length by omega)]
theorem V9 {a:Ask} {t:Tk}:∀ {n:Nat} {l:List Bunk},t ∈ tkR a n l→∃ i b,i < l.length∧b ∈ l∧t=Qi a (n+i) b
 |n,[],h=>by simp [tkR] at h
 |n,b :: l,h=>by
  rcases List.mem_cons.1 h with rfl|h
  ·exact ⟨0,b,by simp,by simp,rfl⟩
  ·obtain ⟨i,b',h1,h2,h3⟩:=V9 h
   exact ⟨i+1,b',by simpa using h1,List.mem_cons_of_mem _ h2,by rw [h3,show n+1+i=n+(i+1) by omega]⟩
theorem Qda (l:List Bunk):∀ m:Int,l.foldl (fun m b=>min m b.cab) m≤m:=by
 induction l with
 |nil=>intro m;exact Int.le_refl _
 |cons b l ih=>intro m;have:=ih (min m b.cab);rw [List.foldl_cons];omega
theorem QdF (l:List Bunk):∀ m:Int,m≤l.foldl (fun m b=>max m b.cab) m:=by
 induction l with
 |nil=>intro m;exact Int.le_refl _
 |cons b l ih=>intro m;have:=ih (max m b.cab);rw [List.foldl_cons];omega
theorem QhI {cs:List Cabin} {l r:List Bunk} (h:ZC cs (l++r)=true) (hl:l ≠ []):ZC cs l=true:=by
 have h0:(l++r).getD 0 default=l.getD 0 default:=by
  cases l with
  |nil=>exact absurd rfl hl
  |cons b l=>rfl
 unfold ZC at h ⊢
 simp only [h0,List.foldl_append] at h ⊢
 have g1:=Qda r (l.foldl (fun m b=>min m b.cab) (l.getD 0 default).cab)
 have g2:=QdF r (l.foldl (fun m b=>max m b.cab) (l.getD 0 default).cab)
 have g3:=Qda l (l.getD 0 default).cab
 have g4:=QdF l (l.getD 0 default).cab
 generalize l.foldl (fun m b=>min m b.cab) (l.getD 0 default).cab=lo at *
 generalize l.foldl (fun m b=>max m b.cab) (l.getD 0 default).cab=hi at *
 generalize r.foldl (fun m b=>min m b.cab) lo=lo2 at *
 generalize r.foldl (fun m b=>max m b.cab) hi=hi2 at *
 rw [Bool.or_eq_true,Bool.and_eq_true,decide_eq_true_eq,decide_eq_true_eq] at h ⊢
 rcases h with h|⟨h,hd⟩
 ·exact .inl (by omega)
 ·by_cases he:lo=hi
  ·exact .inl he
  ·have:lo=lo2:=by omega
   exact .inr ⟨by omega,by rw [this];exact hd⟩
theorem Qdo {cs:List Cabin} {a:Ask} (hw:a.frm < a.to):∀ (r:List Bunk) (sold:List Tk) (begun:List Bunk),(∀ b ∈ begun,∃ x ∈ sold,x.cab=b.cab∧x.bed=b.bed∧x.frm=a.frm∧x.to=a.to) →
  (YX cs a sold begun r=true ↔ PWr sold (tkR a begun.length r)∧(r ≠ []→ZC cs (begun++r)=true))
 |[],sold,begun,_=>by simp [YX,tkR,PWr]
 |b :: r,sold,begun,hb=>by
  have hb':∀ b' ∈ begun++[b],∃ x ∈ sold++[Qi a begun.length b],x.cab=b'.cab∧x.bed=b'.bed∧x.frm=a.frm∧x.to=a.to:=fun b' h=>by
   rcases List.mem_append.1 h with h|h
   ·obtain ⟨x,h1,h2⟩:=hb b' h
    exact ⟨x,List.mem_append.2 (.inl h1),h2⟩
   ·rw [List.mem_singleton.1 h]
    exact ⟨_,List.mem_append.2 (.inr (List.mem_singleton.2 rfl)),rfl,rfl,rfl,rfl⟩
  have ih:=Qdo (cs:=cs) hw r (sold++[Qi a begun.length b]) (begun++[b]) hb'
  rw [YX,Bool.and_eq_true,ih]
  have el:(begun++[b]).length=begun.length+1:=by simp
  rw [el]
  show _ ↔ (ww (Qi a begun.length b) sold=0∧PWr (sold++[Qi a begun.length b]) (tkR a (begun.length+1) r))∧_
  have ea:begun++[b]++r=begun++b :: r:=by simp
  rw [ea]
  unfold goB
  rw [Bool.and_eq_true,Bool.and_eq_true,decide_eq_true_eq]
  constructor
  ·rintro ⟨⟨⟨_,h2⟩,h3⟩,h4,h5⟩
   refine ⟨⟨h3,h4⟩,fun _=>?_⟩
   cases r with
   |nil=>exact h2
   |cons b2 r=>exact h5 (by simp)
  ·rintro ⟨⟨h3,h4⟩,h5⟩
   have h5:=h5 (by simp)
   refine ⟨⟨⟨?_, ?_⟩,h3⟩,h4,fun _=>h5⟩
   ·cases hc:begun.contains b with
    |false=>rfl
    |true =>
     obtain ⟨x,hx,g1,g2,g3,g4⟩:=hb b (by simpa using hc)
     have:=(JO.1 h3 x hx).1
     unfold xB xR Qi at this
     simp [g1,g2,g3,g4,hw] at this
   ·refine QhI (r:=r) ?_ (by simp)
    rw [ea];exact h5
theorem Qjs {secs:Int} {t x:Tk} (ht:0≤t.frm∧t.frm < t.to∧t.to≤secs) (hx:0≤x.frm∧x.frm < x.to∧x.to≤secs):(∀ s:Nat,s < secs.toNat→stB t x s=false) ↔ xB t x=false∧QS x t=true:=by
 constructor
 ·intro h
  cases hm:xR x t with
  |false =>
   unfold xB QS
   rw [hm];simp
  |true =>
   have hm2:=hm
   unfold xR at hm2
   rw [Bool.and_eq_true,decide_eq_true_eq,decide_eq_true_eq] at hm2
   obtain ⟨s,hs⟩:∃ s:Nat,(s:Int)=max t.frm x.frm:=⟨(max t.frm x.frm).toNat,by omega⟩
   have:=h s (by omega)
   unfold stB at this
   rw [decide_eq_false (show ¬ (s:Int) < t.frm by omega),decide_eq_false (show ¬ t.to≤(s:Int) by omega),decide_eq_false (show ¬ (s:Int) < x.frm by omega),decide_eq_false (show ¬ x.to≤(s:Int) by omega)] at this
   have e1:decide (x.cab=t.cab)=decide (t.cab=x.cab):=by rw [decide_eq_decide];exact eq_comm
   have e2:decide (x.bed=t.bed)=decide (t.bed=x.bed):=by rw [decide_eq_decide];exact eq_comm
   have e3:decide (x.party=t.party)=decide (t.party=x.party):=by rw [decide_eq_decide];exact eq_comm
   have e4:decide (x.sex=t.sex)=decide (t.sex=x.sex):=by rw [decide_eq_decide];exact eq_comm
   have e5:decide (x.cab ≠ t.cab)=!decide (t.cab=x.cab):=by rw [decide_not,e1]
   unfold xB QS
   rw [hm,e5,e1,e2,e3,e4]
   revert this
   generalize decide (t.cab=x.cab)=A
   generalize decide (t.bed=x.bed)=B
   generalize decide (t.party=x.party)=C
   generalize decide (t.sex=x.sex)=D
   generalize x.dog=E
   generalize t.dog=F
   revert A B C D E F
   decide
 ·rintro ⟨h1,h2⟩ s _
  have e1:decide (x.cab=t.cab)=decide (t.cab=x.cab):=by rw [decide_eq_decide];exact eq_comm
  have e2:decide (x.bed=t.bed)=decide (t.bed=x.bed):=by rw [decide_eq_decide];exact eq_comm
  have e3:decide (x.party=t.party)=decide (t.party=x.party):=by rw [decide_eq_decide];exact eq_comm
  have e4:decide (x.sex=t.sex)=decide (t.sex=x.sex):=by rw [decide_eq_decide];exact eq_comm
  have e5:decide (x.cab ≠ t.cab)=!decide (t.cab=x.cab):=by rw [decide_not,e1]
  cases hm:xR x t with
  |false =>
   unfold stB
   by_cases g1:(s:Int) < t.frm
   ·simp [g1]
   by_cases g2:t.to≤(s:Int)
   ·simp [g2]
   by_cases g3:(s:Int) < x.frm
   ·simp [g3]
   by_cases g4:x.to≤(s:Int)
   ·simp [g4]
   exfalso
   unfold xR at hm
   rw [decide_eq_true (show x.frm < t.to by omega),decide_eq_true (show t.frm < x.to by omega)] at hm
   exact absurd hm (by decide)
  |true =>
   unfold xB at h1
   unfold QS at h2
   rw [hm,e1,e2] at h1
   rw [hm,e5,e3,e4] at h2
   unfold stB
   generalize decide ((s:Int) < t.frm)=G
   generalize decide (t.to≤(s:Int))=H
   generalize decide ((s:Int) < x.frm)=I
   generalize decide (x.to≤(s:Int))=J
   revert h1 h2
   generalize decide (t.cab=x.cab)=A
   generalize decide (t.bed=x.bed)=B
   generalize decide (t.party=x.party)=C
   generalize decide (t.sex=x.sex)=D
   generalize x.dog=E
   generalize t.dog=F
   revert A B C D E F G H I J
   decide
theorem UK {cs:List Cabin} {secs:Int} {l:List Tk} (h:∀ t ∈ l,0≤t.frm∧t.frm < t.to∧t.to≤secs):strB ⟨cs,secs,l⟩=false ↔ PWr [] l:=by
 rw [YE]
 unfold strB
 rw [List.any_eq_false]
 have hg:∀ {i:Nat},i < l.length→l.getD i default ∈ l:=fun hi=>ve hi
 constructor
 ·intro hs i hi
  rw [List.nil_append,JO]
  intro x hx
  obtain ⟨k,hk,rfl⟩:=List.mem_iff_getElem.1 hx
  rw [List.length_take] at hk
  have h1:=hs i (List.mem_range.2 hi)
  unfold rwB at h1
  rw [Bool.not_eq_true,List.any_eq_false] at h1
  have h2:=h1 k (List.mem_range.2 (by omega))
  have ek:l.getD k default=(l.take i)[k]'(by rw [List.length_take];omega):=by simp [List.getD_eq_getElem?_getD,show k < l.length by omega]
  unfold prB at h2
  rw [Bool.not_eq_true,List.any_eq_false] at h2
  simp only at h2
  rw [← ek]
  refine (Qjs (h _ (hg hi)) (h _ (hg (show k < l.length by omega)))).1 fun s hs=>?_
  have:=h2 s (List.mem_range.2 hs)
  simpa using this
 ·intro hp i hi
  have hi:=List.mem_range.1 hi
  unfold rwB
  rw [Bool.not_eq_true,List.any_eq_false]
  intro k hk
  have hk:=List.mem_range.1 hk
  unfold prB
  rw [Bool.not_eq_true,List.any_eq_false]
  intro s hs
  have hi':i < l.length:=hi
  have h1:=hp i hi'
  rw [List.nil_append,JO] at h1
  have hkl:k < l.length:=by omega
  have h2:=h1 (l.getD k default) (by
   rw [List.mem_iff_getElem]
   exact ⟨k,by rw [List.length_take];omega,by simp [List.getD_eq_getElem?_getD,hkl]⟩)
  have:=(Qjs (h _ (hg hi')) (h _ (hg hkl))).2 h2 s (List.mem_range.1 hs)
  simpa using this
theorem QgC {c:Chart} (hv:Val c):∀ t ∈ c.sold,0≤t.frm∧t.frm < t.to∧t.to≤c.secs:=fun t ht=>by
 have:=hv.tk t ht
 exact ⟨this.frm,this.way,this.to⟩
theorem Qiz {c:Chart} (h:zY c=0):PWr [] c.sold:=by
 rw [YE]
 intro i hi
 unfold zY at h
 split at h
 ·exact absurd h ‹_›
 rw [List.nil_append]
 exact (Yy h i hi).2
theorem Uy {bs:List Bunk}:∀ {m:Nat} {l:List Bunk},l ∈ alL bs m→∀ b ∈ l,b ∈ bs
 |0,l,hl,b,hb=>by rw [List.mem_singleton.1 hl] at hb;simp at hb
 |m+1,l,hl,b,hb=>by
  obtain ⟨b0,h0,hl⟩:=List.mem_flatMap.1 hl
  obtain ⟨q,hq,rfl⟩:=List.mem_map.1 hl
  rcases List.mem_cons.1 hb with rfl|hb
  ·exact h0
  ·exact Uy hq b hb
theorem Qf0 {c:Chart} {a:Ask} (h:zq c a=0) {l:List Bunk} (hl:l ∈ alL (qX c.cabins) a.sexes.length) (hne:l ≠ []):YX c.cabins a c.sold [] l=WK c a l:=by
 have hc:=(vg h).1
 have hv:=xV hc
 have hw:=Xc h
 have hll:=ZV l hl
 have hT:vB a l l.length=tkR a 0 l:=by rw [XN a l l.length (Nat.le_refl _),List.take_length]
 have hways:∀ t ∈ c.sold++vB a l l.length,0≤t.frm∧t.frm < t.to∧t.to≤c.secs:=fun t ht=>by
  rcases List.mem_append.1 ht with ht|ht
  ·exact QgC hv t ht
  ·rw [hT] at ht
   obtain ⟨i,b,_,_,rfl⟩:=V9 ht
   exact hw
 rw [Bool.eq_iff_iff,Qdo hw.2.1 l c.sold [] (fun b hb=>by simp at hb)]
 unfold WK
 rw [Bool.and_eq_true]
 have e1:(!strB ⟨c.cabins,c.secs,c.sold++vB a l l.length⟩)=true ↔ PWr [] (c.sold++vB a l l.length):=by
  rw [← UK (cs:=c.cabins) hways]
  simp
 rw [e1,QdK,hT]
 simp only [List.nil_append]
 constructor
 ·rintro ⟨h1,h2⟩
  exact ⟨h2 hne,Qiz hc,h1⟩
 ·rintro ⟨h1,_,h3⟩
  exact ⟨h3,fun _=>h1⟩
theorem Jk {c:Chart} {a:Ask} (h:zq c a=0) (hs:1≤a.sexes.length):zy c a=(alL (qX c.cabins) a.sexes.length).filter (WK c a):=by
 have e1:zy c a=(plP c a).map (·.1):=by unfold zy;rw [if_pos h]
 rw [e1]
 unfold plP
 rw [QaG]
 simp only [List.nil_append,List.map_id']
 refine List.filter_congr fun l hl=>Qf0 h hl ?_
 rintro rfl
 have:=ZV _ hl
 simp at this
 omega
theorem Qbk {c:Chart} {a:Ask} (h:zq c a=0) (hs:1≤a.sexes.length) {l:List Bunk} (hl:l ∈ zy c a):wL c a l=true:=by
 rw [Jk h hs] at hl
 obtain ⟨h1,h2⟩:=List.mem_filter.1 hl
 have hll:=ZV l h1
 have hc:=(vg h).1
 have hv:=xV hc
 have hw:=Xc h
 have hT:vB a l l.length=tkR a 0 l:=by rw [XN a l l.length (Nat.le_refl _),List.take_length]
 have hway:∀ t ∈ c.sold++vB a l l.length,TkOk c t:=fun t ht=>by
  rcases List.mem_append.1 ht with ht|ht
  ·exact hv.tk t ht
  ·rw [hT] at ht
   obtain ⟨i,b,hi,hb,rfl⟩:=V9 ht
   exact Qbr h (by omega) (Uy h1 b hb)
 unfold WK at h2
 rw [Bool.and_eq_true] at h2
 have hp:PWr [] (c.sold++vB a l l.length):=(UK (cs:=c.cabins) (secs:=c.secs) (fun t ht=>⟨(hway t ht).frm,(hway t ht).way,(hway t ht).to⟩)).1 (by simpa using h2.2)
 rw [YE] at hp
 unfold wL
 rw [h2.1,decide_eq_true hll,Bool.and_true,Bool.true_and,Bool.and_eq_true,List.all_eq_true,decide_eq_true_eq]
 refine ⟨fun b hb=>?_, ?_⟩
 ·obtain ⟨i,k,g1,g2,rfl⟩:=XC.1 (Uy h1 b hb)
  unfold jU
  rw [Bool.and_eq_true,jm,jm]
  refine ⟨⟨by simp only;omega,by simp only;omega⟩,by simp only;omega, ?_⟩
  simp only [Int.toNat_natCast]
  omega
 ·unfold jH
  refine yX fun j hj=>?_
  rw [List.length_map,List.length_range] at hj
  rw [List.getD_eq_getElem?_getD,List.getElem?_map,List.getElem?_range hj]
  have hk:=hway _ (ve (d:=default) hj)
  exact VQ (cs:=c.cabins) (secs:=c.secs) hk.party hk.sex hk.cab hk.bed ⟨hk.frm,hk.way,hk.to⟩ (by have:=hp j hj;rwa [List.nil_append] at this)
theorem Qfe {l m:List Int} (h0:l.length=m.length) (h:∀ j,j < l.length→l.getD j 0=m.getD j 0):l=m:=JI h0 h
theorem QiO {a b c d e f:Int} {g:Bool} {a' b' c' d' e' f':Int} {g':Bool}:decide ((⟨a,b,c,d,e,f,g⟩:Tk)=⟨a',b',c',d',e',f',g'⟩)=(decide (a=a') && (decide (b=b') && (decide (c=c') && (decide (d=d') && (decide (e=e') && (decide (f=f') && (g == g'))))))):=by
 rw [Bool.eq_iff_iff];simp
theorem Qim {a:Int} {g:Bool} {a':Int} {g':Bool}:decide ((⟨a,g⟩:Cabin)=⟨a',g'⟩)=(decide (a=a') && (g == g')):=by
 rw [Bool.eq_iff_iff];simp
def V4 (l m:List Int) (k:Nat):St:={ t:=asg [(0,qz l),(1,qz m),(4,aB false),(5,aI k)],h:=ql [],n:=0 }
def vX:=vj @ty3 (vj @QV (vj @ti3.eq_1 @Qn.eq_1))
def QJ:=vj @aI.eq_1 (vj @aB.eq_1 (vj @qz.eq_1 (vj @zD.eq_1 (@Kr))))
theorem QkR (l m:List Int) (hl:l.length≤maxLen) (hm:m.length≤maxLen):FnV Tryz.prog 41 [qz l,qz m] (aB (decide (l=m))):=by
 have env:Env (fun _=>True) Tryz.prog tyB (tab []):=qH trivial
 refine Fn.of (A:=fun _=>True) (n0:=0) (D:=noD) (Fn0 Tryz.func41 rfl (fun vs w=>by kernel_rfl) (by kernel_rfl)) (by simp) (by simp [AV.ids,qz]) (fun i o h=>by cases h) (fun _ _ _ _=>trivial) qF ?_
 have hmx:maxLen=9223372036854775807:=by decide
 by_cases h0:l.length=m.length
 ·have d0:decide ((l.length:Int)=(m.length:Int))=true:=decide_eq_true (by omega)
  repeat' (first|(apply nx;with_reducible constructor)|refine uq (by decide) ?_|((first|refine vx env fun Q hQ=>?_|refine vz fun Q hQ=>?_);simp only [vkt,seval,vX,QJ,V4,Bool.true_and,Bool.false_and,d0];(try simp only [ite_and]);(repeat' (first|with_reducible assumption|refine And.intro ?_ ?_|intro hp));all_goals (first|(refine hQ _ ?_;clear hQ Q)|(refine hQ _ (fun h=>?_) (fun h=>?_) <;> clear hQ Q <;> (try simp only [vki,reduceCtorEq] at h))|(refine vq ?_;kernel_rfl)|omega|assumption|with_reducible rfl|skip)))
  refine qO (fun k:{ k:Nat // k≤l.length∧∀ j,j < k→l.getD j 0=m.getD j 0 }=>V4 l m k.1) (fun k=>l.length - k.1) ⟨0,Nat.zero_le _,fun j h=>absurd h (Nat.not_lt_zero _)⟩ ?_ fun ⟨k,hk,hno⟩=>?_
  ·(refine Le.ok some [] ?_;constructor;all_goals (try simp only [vle,vkt,seval,vX,QJ,V4,Bool.true_and,Bool.false_and]))
   all_goals first|rfl|(simp;done)
  simp only at hk hno ⊢
  simp only [V4]
  by_cases hlt:k < l.length
  ·have d1:decide ((k:Int) < (l.length:Int))=true:=decide_eq_true (by omega)
   have hlm:k < m.length:=by omega
   have k0:((k:Int)).toNat=k:=rfl
   have e9:IntKind.wrap .i64 ((k:Int)+1)=((k+1:Nat):Int):=by rw [wrap64 (by omega) (by omega)];rfl
   obtain ⟨x,hx⟩:∃ x,l.getD k 0=x:=⟨_,rfl⟩
   obtain ⟨y,hy⟩:∃ x,m.getD k 0=x:=⟨_,rfl⟩
   have hxy:(decide (x=y))=decide (x=y):=by rfl
   have hne:¬ x=y→decide (l=m)=false:=fun h=>decide_eq_false fun e=>h (by rw [← hx,← hy,e])
   cases q:decide (x=y) with
   |false =>
    rw [hne (of_decide_eq_false q)]
    repeat' (first|(apply nx;with_reducible constructor)|refine uq (by decide) ?_|((first|refine vx env fun Q hQ=>?_|refine vz fun Q hQ=>?_);simp only [vkt,seval,vX,QJ,V4,Bool.true_and,Bool.false_and,d1,k0,hlt,hlm,hx,hy,hxy,q];(try simp only [ite_and]);(repeat' (first|with_reducible assumption|refine And.intro ?_ ?_|intro hp));all_goals (first|(refine hQ _ ?_;clear hQ Q)|(refine hQ _ (fun h=>?_) (fun h=>?_) <;> clear hQ Q <;> (try simp only [vki,reduceCtorEq] at h))|(refine vq ?_;kernel_rfl)|omega|assumption|with_reducible rfl|skip)))
    (simp only [vrt,Tryz.results41,vkt,seval,vX,QJ,V4,Bool.true_and,Bool.false_and];refine Fin.val rfl ?_;(try simp only [AV.le,AV.leL]))
    all_goals first|rfl|(simp;done)
   |true =>
    repeat' (first|(apply nx;with_reducible constructor)|refine uq (by decide) ?_|((first|refine vx env fun Q hQ=>?_|refine vz fun Q hQ=>?_);simp only [vkt,seval,vX,QJ,V4,Bool.true_and,Bool.false_and,d1,k0,hlt,hlm,hx,hy,hxy,q,e9];(try simp only [ite_and]);(repeat' (first|with_reducible assumption|refine And.intro ?_ ?_|intro hp));all_goals (first|(refine hQ _ ?_;clear hQ Q)|(refine hQ _ (fun h=>?_) (fun h=>?_) <;> clear hQ Q <;> (try simp only [vki,reduceCtorEq] at h))|(refine vq ?_;kernel_rfl)|omega|assumption|with_reducible rfl|skip)))
    refine ⟨⟨k+1,hlt,fun j hj=>?_⟩,by show l.length - (k+1) < l.length - k;omega, ?_⟩
    ·rcases Nat.lt_or_eq_of_le (Nat.le_of_lt_succ hj) with h1|h1
     ·exact hno j h1
     ·rw [h1,hx,hy];exact of_decide_eq_true q
    ·(refine Le.ok some [] ?_;constructor;all_goals (try simp only [vle,vkt,seval,vX,QJ,V4,Bool.true_and,Bool.false_and]))
     all_goals first|rfl|(simp;done)
  ·have d1:decide ((k:Int) < (l.length:Int))=false:=decide_eq_false (by omega)
   obtain rfl:k=l.length:=by omega
   rw [decide_eq_true (Qfe h0 hno)]
   repeat' (first|(apply nx;with_reducible constructor)|refine uq (by decide) ?_|((first|refine vx env fun Q hQ=>?_|refine vz fun Q hQ=>?_);simp only [vkt,seval,vX,QJ,V4,Bool.true_and,Bool.false_and,d1];(try simp only [ite_and]);(repeat' (first|with_reducible assumption|refine And.intro ?_ ?_|intro hp));all_goals (first|(refine hQ _ ?_;clear hQ Q)|(refine hQ _ (fun h=>?_) (fun h=>?_) <;> clear hQ Q <;> (try simp only [vki,reduceCtorEq] at h))|(refine vq ?_;kernel_rfl)|omega|assumption|with_reducible rfl|skip)))
   (simp only [vrt,Tryz.results41,vkt,seval,vX,QJ,V4,Bool.true_and,Bool.false_and];refine Fin.val rfl ?_;(try simp only [AV.le,AV.leL]))
   all_goals first|rfl|(simp;done)
 ·have d0:decide ((l.length:Int)=(m.length:Int))=false:=decide_eq_false (by omega)
  rw [decide_eq_false (fun e=>h0 (by rw [e]))]
  repeat' (first|(apply nx;with_reducible constructor)|refine uq (by decide) ?_|((first|refine vx env fun Q hQ=>?_|refine vz fun Q hQ=>?_);simp only [vkt,seval,vX,QJ,V4,Bool.true_and,Bool.false_and,d0];(try simp only [ite_and]);(repeat' (first|with_reducible assumption|refine And.intro ?_ ?_|intro hp));all_goals (first|(refine hQ _ ?_;clear hQ Q)|(refine hQ _ (fun h=>?_) (fun h=>?_) <;> clear hQ Q <;> (try simp only [vki,reduceCtorEq] at h))|(refine vq ?_;kernel_rfl)|omega|assumption|with_reducible rfl|skip)))
  (simp only [vrt,Tryz.results41,vkt,seval,vX,QJ,V4,Bool.true_and,Bool.false_and];refine Fin.val rfl ?_;(try simp only [AV.le,AV.leL]))
  all_goals first|rfl|(simp;done)
def Vn:List AV→Prop × AV
 |[.sl l,.sl m]=>(l=(l.map za).map zD∧m=(m.map za).map zD∧(l.map za).length≤maxLen∧(m.map za).length≤maxLen,aB (decide ((l.map za)=(m.map za))))
 |_=>(False,.junk)
theorem eeqI {A:Frm→Prop}:qD A Tryz.prog 41 (qQ true Vn):=qR fun vs hv h=>by
 clear hv
 unfold Vn at h ⊢
 split at h
 ·rename_i l m;obtain ⟨q0,q1,k0,k1⟩:=h
  refine ⟨by first|trivial|(simp [AV.plain,AV.plainL,aI,aB,qz,qc,qj,qf,aTk,cTk];done)|(repeat' split) <;> simp [AV.plain,AV.plainL,aI,aB,qz,qc,qj,qf,aTk,cTk],fun _=>(by simp [AV.flat,AV.flatL,aI,aB]), ?_⟩
  have:=QkR (l.map za) (m.map za) k0 k1
  simp only [qz,← q0,← q1] at this
  first|exact this|(simp only [qz,← q0,← q1];exact this)
 ·exact h.elim
def VY (l m:List Tk) (k:Nat):St:={ t:=asg [(0,qj l),(1,qj m),(4,aB false),(5,aI k)],h:=ql [],n:=0 }
def vZ:=vj @ty3 (vj @xh (vj @ym (vj @ti3.eq_1 (vj @vF.eq_1 @jS.eq_1))))
def QK:=vj @aI.eq_1 (@aB.eq_1)
theorem QjS (l m:List Tk) (hl:l.length≤maxLen) (hm:m.length≤maxLen):FnV Tryz.prog 62 [qj l,qj m] (aB (decide (l=m))):=by
 have env:Env (fun _=>True) Tryz.prog tyB (tab []):=qH trivial
 refine Fn.of (A:=fun _=>True) (n0:=0) (D:=noD) (Fn0 Tryz.func62 rfl (fun vs w=>by kernel_rfl) (by kernel_rfl)) (by simp) (by simp [AV.ids,qj]) (fun i o h=>by cases h) (fun _ _ _ _=>trivial) qF ?_
 have hmx:maxLen=9223372036854775807:=by decide
 by_cases h0:l.length=m.length
 ·have d0:decide ((l.length:Int)=(m.length:Int))=true:=decide_eq_true (by omega)
  repeat' (first|(apply nx;with_reducible constructor)|refine uq (by decide) ?_|((first|refine vx env fun Q hQ=>?_|refine vz fun Q hQ=>?_);simp only [vkt,seval,vZ,QK,qj,eTk,gTk,VY,Bool.true_and,Bool.false_and,d0];(try simp only [ite_and]);(repeat' (first|with_reducible assumption|refine And.intro ?_ ?_|intro hp));all_goals (first|(refine hQ _ ?_;clear hQ Q)|(refine hQ _ (fun h=>?_) (fun h=>?_) <;> clear hQ Q <;> (try simp only [vki,reduceCtorEq] at h))|(refine vq ?_;kernel_rfl)|omega|assumption|with_reducible rfl|skip)))
  refine qO (fun k:{ k:Nat // k≤l.length∧∀ j,j < k→l.getD j default=m.getD j default }=>VY l m k.1) (fun k=>l.length - k.1) ⟨0,Nat.zero_le _,fun j h=>absurd h (Nat.not_lt_zero _)⟩ ?_ fun ⟨k,hk,hno⟩=>?_
  ·(refine Le.ok some [] ?_;constructor;all_goals (try simp only [vle,vkt,seval,vZ,QK,qj,eTk,gTk,VY,Bool.true_and,Bool.false_and]))
   all_goals first|rfl|(simp;done)
  simp only at hk hno ⊢
  simp only [VY]
  by_cases hlt:k < l.length
  ·have d1:decide ((k:Int) < (l.length:Int))=true:=decide_eq_true (by omega)
   have hlm:k < m.length:=by omega
   have k0:((k:Int)).toNat=k:=rfl
   have e9:IntKind.wrap .i64 ((k:Int)+1)=((k+1:Nat):Int):=by rw [wrap64 (by omega) (by omega)];rfl
   obtain ⟨x,hx⟩:∃ x,l.getD k default=x:=⟨_,rfl⟩
   obtain ⟨y,hy⟩:∃ x,m.getD k default=x:=⟨_,rfl⟩
   have hxy:(decide (x.party=y.party) && (decide (x.sex=y.sex) && (decide (x.cab=y.cab) && (decide (x.bed=y.bed) && (decide (x.frm=y.frm) && (decide (x.to=y.to) && ((x.dog == y.dog))))))))=decide (x=y):=by cases x;cases y;rw [QiO]
   have hne:¬ x=y→decide (l=m)=false:=fun h=>decide_eq_false fun e=>h (by rw [← hx,← hy,e])
   cases q:decide (x=y) with
   |false =>
    rw [hne (of_decide_eq_false q)]
    repeat' (first|(apply nx;with_reducible constructor)|refine uq (by decide) ?_|((first|refine vx env fun Q hQ=>?_|refine vz fun Q hQ=>?_);simp only [vkt,seval,vZ,QK,qj,eTk,gTk,VY,Bool.true_and,Bool.false_and,d1,k0,hlt,hlm,hx,hy,hxy,q];(try simp only [ite_and]);(repeat' (first|with_reducible assumption|refine And.intro ?_ ?_|intro hp));all_goals (first|(refine hQ _ ?_;clear hQ Q)|(refine hQ _ (fun h=>?_) (fun h=>?_) <;> clear hQ Q <;> (try simp only [vki,reduceCtorEq] at h))|(refine vq ?_;kernel_rfl)|omega|assumption|with_reducible rfl|skip)))
    (simp only [vrt,Tryz.results62,vkt,seval,vZ,QK,qj,eTk,gTk,VY,Bool.true_and,Bool.false_and];refine Fin.val rfl ?_;(try simp only [AV.le,AV.leL]))
    all_goals first|rfl|(simp;done)
   |true =>
    repeat' (first|(apply nx;with_reducible constructor)|refine uq (by decide) ?_|((first|refine vx env fun Q hQ=>?_|refine vz fun Q hQ=>?_);simp only [vkt,seval,vZ,QK,qj,eTk,gTk,VY,Bool.true_and,Bool.false_and,d1,k0,hlt,hlm,hx,hy,hxy,q,e9];(try simp only [ite_and]);(repeat' (first|with_reducible assumption|refine And.intro ?_ ?_|intro hp));all_goals (first|(refine hQ _ ?_;clear hQ Q)|(refine hQ _ (fun h=>?_) (fun h=>?_) <;> clear hQ Q <;> (try simp only [vki,reduceCtorEq] at h))|(refine vq ?_;kernel_rfl)|omega|assumption|with_reducible rfl|skip)))
    refine ⟨⟨k+1,hlt,fun j hj=>?_⟩,by show l.length - (k+1) < l.length - k;omega, ?_⟩
    ·rcases Nat.lt_or_eq_of_le (Nat.le_of_lt_succ hj) with h1|h1
     ·exact hno j h1
     ·rw [h1,hx,hy];exact of_decide_eq_true q
    ·(refine Le.ok some [] ?_;constructor;all_goals (try simp only [vle,vkt,seval,vZ,QK,qj,eTk,gTk,VY,Bool.true_and,Bool.false_and]))
     all_goals first|rfl|(simp;done)
  ·have d1:decide ((k:Int) < (l.length:Int))=false:=decide_eq_false (by omega)
   obtain rfl:k=l.length:=by omega
   rw [decide_eq_true (JI h0 hno)]
   repeat' (first|(apply nx;with_reducible constructor)|refine uq (by decide) ?_|((first|refine vx env fun Q hQ=>?_|refine vz fun Q hQ=>?_);simp only [vkt,seval,vZ,QK,qj,eTk,gTk,VY,Bool.true_and,Bool.false_and,d1];(try simp only [ite_and]);(repeat' (first|with_reducible assumption|refine And.intro ?_ ?_|intro hp));all_goals (first|(refine hQ _ ?_;clear hQ Q)|(refine hQ _ (fun h=>?_) (fun h=>?_) <;> clear hQ Q <;> (try simp only [vki,reduceCtorEq] at h))|(refine vq ?_;kernel_rfl)|omega|assumption|with_reducible rfl|skip)))
   (simp only [vrt,Tryz.results62,vkt,seval,vZ,QK,qj,eTk,gTk,VY,Bool.true_and,Bool.false_and];refine Fin.val rfl ?_;(try simp only [AV.le,AV.leL]))
   all_goals first|rfl|(simp;done)
 ·have d0:decide ((l.length:Int)=(m.length:Int))=false:=decide_eq_false (by omega)
  rw [decide_eq_false (fun e=>h0 (by rw [e]))]
  repeat' (first|(apply nx;with_reducible constructor)|refine uq (by decide) ?_|((first|refine vx env fun Q hQ=>?_|refine vz fun Q hQ=>?_);simp only [vkt,seval,vZ,QK,qj,eTk,gTk,VY,Bool.true_and,Bool.false_and,d0];(try simp only [ite_and]);(repeat' (first|with_reducible assumption|refine And.intro ?_ ?_|intro hp));all_goals (first|(refine hQ _ ?_;clear hQ Q)|(refine hQ _ (fun h=>?_) (fun h=>?_) <;> clear hQ Q <;> (try simp only [vki,reduceCtorEq] at h))|(refine vq ?_;kernel_rfl)|omega|assumption|with_reducible rfl|skip)))
  (simp only [vrt,Tryz.results62,vkt,seval,vZ,QK,qj,eTk,gTk,VY,Bool.true_and,Bool.false_and];refine Fin.val rfl ?_;(try simp only [AV.le,AV.leL]))
  all_goals first|rfl|(simp;done)
def Yk:List AV→Prop × AV
 |[.sl l,.sl m]=>(l=(l.map dTk).map eTk∧m=(m.map dTk).map eTk∧(l.map dTk).length≤maxLen∧(m.map dTk).length≤maxLen,aB (decide ((l.map dTk)=(m.map dTk))))
 |_=>(False,.junk)
theorem eeqK {A:Frm→Prop}:qD A Tryz.prog 62 (qQ true Yk):=qR fun vs hv h=>by
 clear hv
 unfold Yk at h ⊢
 split at h
 ·rename_i l m;obtain ⟨q0,q1,k0,k1⟩:=h
  refine ⟨by first|trivial|(simp [AV.plain,AV.plainL,aI,aB,qz,qc,qj,qf,aTk,cTk];done)|(repeat' split) <;> simp [AV.plain,AV.plainL,aI,aB,qz,qc,qj,qf,aTk,cTk],fun _=>(by simp [AV.flat,AV.flatL,aI,aB]), ?_⟩
  have:=QjS (l.map dTk) (m.map dTk) k0 k1
  simp only [qj,← q0,← q1] at this
  first|exact this|(simp only [qj,← q0,← q1];exact this)
 ·exact h.elim
def ecS (c d:Chart) (k:Nat):St:={ t:=asg [(2,.ptr 0 0),(3,.ptr 1 0),(4,aB false),(5,aI k)],h:=ql [(0,.cells (qb c)),(1,.cells (qb d))],n:=2 }
def yQ:=vj @ty3 (vj @Jg (vj @xh (vj @jG (vj @ym (vj @Jh (vj @ti3.eq_1 (vj @Z8.eq_1 (vj @vF.eq_1 (vj @jh.eq_1 (vj @jS.eq_1 @Wl.eq_1))))))))))
def kD:=vj @aI.eq_1 (@aB.eq_1)
theorem QjX (c d:Chart) (h1:c.cabins.length≤maxLen) (h2:c.sold.length≤maxLen) (h4:d.sold.length≤maxLen):FnV Tryz.prog 21 [qa c,qa d] (aB (decide (c=d))):=by
 have env:Env (fun _=>True) Tryz.prog tyB (tab [(62,qQ true Yk)]):=qH ⟨eeqK,trivial⟩
 refine Fn.of (A:=fun _=>True) (n0:=0) (D:=noD) (Fn0 Tryz.func21 rfl (fun vs w=>by kernel_rfl) (by kernel_rfl)) (by simp) (by simp [AV.ids,AV.idsL,qa,qb]) (fun i o h=>by cases h) (fun _ _ _ _=>trivial) qF ?_
 have hmx:maxLen=9223372036854775807:=by decide
 have hE:decide (c=d)=(decide (c.cabins=d.cabins) && (decide (c.secs=d.secs) && decide (c.sold=d.sold))):=by
  cases c;cases d;rw [Bool.eq_iff_iff];simp
 rw [hE]
 by_cases h0:c.cabins.length=d.cabins.length
 ·have d0:decide ((c.cabins.length:Int)=(d.cabins.length:Int))=true:=decide_eq_true (by omega)
  cases q0:decide (c.secs=d.secs) with
  |false =>
   rw [Bool.false_and,Bool.and_false]
   repeat' (first|(apply nx;with_reducible constructor)|refine uq (by decide) ?_|((first|refine vx env fun Q hQ=>?_|refine vz fun Q hQ=>?_);simp only [vkt,seval,yQ,kD,qj,qa,qb,qg,qA,mTk,ecS,Yk,Bool.true_and,Bool.false_and,List.length_map,d0,q0];(try simp only [ite_and]);(repeat' (first|with_reducible assumption|refine And.intro ?_ ?_|intro hp));all_goals (first|(refine hQ _ ?_;clear hQ Q)|(refine hQ _ (fun h=>?_) (fun h=>?_) <;> clear hQ Q <;> (try simp only [vki,reduceCtorEq] at h))|(refine vq ?_;kernel_rfl)|omega|assumption|with_reducible rfl|skip)))
   (simp only [vrt,Tryz.results21,vkt,seval,yQ,kD,qj,qa,qb,qg,qA,mTk,ecS,Yk,Bool.true_and,Bool.false_and,List.length_map];refine Fin.val rfl ?_;(try simp only [AV.le,AV.leL]))
   all_goals first|rfl|(simp;done)
  |true =>
   rw [Bool.true_and]
   repeat' (first|(apply nx;with_reducible constructor)|refine uq (by decide) ?_|((first|refine vx env fun Q hQ=>?_|refine vz fun Q hQ=>?_);simp only [vkt,seval,yQ,kD,qj,qa,qb,qg,qA,mTk,ecS,Yk,Bool.true_and,Bool.false_and,List.length_map,d0,q0];(try simp only [ite_and]);(repeat' (first|with_reducible assumption|refine And.intro ?_ ?_|intro hp));all_goals (first|(refine hQ _ ?_;clear hQ Q)|(refine hQ _ (fun h=>?_) (fun h=>?_) <;> clear hQ Q <;> (try simp only [vki,reduceCtorEq] at h))|(refine vq ?_;kernel_rfl)|omega|assumption|with_reducible rfl|skip)))
   refine qO (fun k:{ k:Nat // k≤c.cabins.length∧∀ j,j < k→c.cabins.getD j default=d.cabins.getD j default }=>ecS c d k.1) (fun k=>c.cabins.length - k.1) ⟨0,Nat.zero_le _,fun j h=>absurd h (Nat.not_lt_zero _)⟩ ?_ fun ⟨k,hk,hno⟩=>?_
   ·simp only [ecS]
    (refine Le.ok some [] ?_;constructor;all_goals (try simp only [vle,vkt,seval,yQ,kD,qj,qa,qb,qg,qA,mTk,ecS,Yk,Bool.true_and,Bool.false_and,List.length_map]))
    all_goals first|rfl|(simp;done)
   simp only at hk hno ⊢
   simp only [ecS]
   by_cases hlt:k < c.cabins.length
   ·have d1:decide ((k:Int) < (c.cabins.length:Int))=true:=decide_eq_true (by omega)
    have hlm:k < d.cabins.length:=by omega
    have k0:((k:Int)).toNat=k:=rfl
    have e9:IntKind.wrap .i64 ((k:Int)+1)=((k+1:Nat):Int):=by rw [wrap64 (by omega) (by omega)];rfl
    obtain ⟨x,hx⟩:∃ x,c.cabins.getD k default=x:=⟨_,rfl⟩
    obtain ⟨y,hy⟩:∃ x,d.cabins.getD k default=x:=⟨_,rfl⟩
    have hxy:(decide (x.beds=y.beds) && (x.door == y.door))=decide (x=y):=by cases x;cases y;rw [Qim]
    have hne:¬ x=y→decide (c.cabins=d.cabins)=false:=fun h=>decide_eq_false fun e=>h (by rw [← hx,← hy,e])
    cases q:decide (x=y) with
    |false =>
     rw [hne (of_decide_eq_false q),Bool.false_and]
     repeat' (first|(apply nx;with_reducible constructor)|refine uq (by decide) ?_|((first|refine vx env fun Q hQ=>?_|refine vz fun Q hQ=>?_);simp only [vkt,seval,yQ,kD,qj,qa,qb,qg,qA,mTk,ecS,Yk,Bool.true_and,Bool.false_and,List.length_map,d1,k0,hlt,hlm,hx,hy,hxy,q];(try simp only [ite_and]);(repeat' (first|with_reducible assumption|refine And.intro ?_ ?_|intro hp));all_goals (first|(refine hQ _ ?_;clear hQ Q)|(refine hQ _ (fun h=>?_) (fun h=>?_) <;> clear hQ Q <;> (try simp only [vki,reduceCtorEq] at h))|(refine vq ?_;kernel_rfl)|omega|assumption|with_reducible rfl|skip)))
     (simp only [vrt,Tryz.results21,vkt,seval,yQ,kD,qj,qa,qb,qg,qA,mTk,ecS,Yk,Bool.true_and,Bool.false_and,List.length_map];refine Fin.val rfl ?_;(try simp only [AV.le,AV.leL]))
     all_goals first|rfl|(simp;done)
    |true =>
     repeat' (first|(apply nx;with_reducible constructor)|refine uq (by decide) ?_|((first|refine vx env fun Q hQ=>?_|refine vz fun Q hQ=>?_);simp only [vkt,seval,yQ,kD,qj,qa,qb,qg,qA,mTk,ecS,Yk,Bool.true_and,Bool.false_and,List.length_map,d1,k0,hlt,hlm,hx,hy,hxy,q,e9];(try simp only [ite_and]);(repeat' (first|with_reducible assumption|refine And.intro ?_ ?_|intro hp));all_goals (first|(refine hQ _ ?_;clear hQ Q)|(refine hQ _ (fun h=>?_) (fun h=>?_) <;> clear hQ Q <;> (try simp only [vki,reduceCtorEq] at h))|(refine vq ?_;kernel_rfl)|omega|assumption|with_reducible rfl|skip)))
     refine ⟨⟨k+1,hlt,fun j hj=>?_⟩,by show c.cabins.length - (k+1) < c.cabins.length - k;omega, ?_⟩
     ·rcases Nat.lt_or_eq_of_le (Nat.le_of_lt_succ hj) with h1|h1
      ·exact hno j h1
      ·rw [h1,hx,hy];exact of_decide_eq_true q
     ·simp only [ecS]
      (refine Le.ok some [] ?_;constructor;all_goals (try simp only [vle,vkt,seval,yQ,kD,qj,qa,qb,qg,qA,mTk,ecS,Yk,Bool.true_and,Bool.false_and,List.length_map]))
      all_goals first|rfl|(simp;done)
   ·have d1:decide ((k:Int) < (c.cabins.length:Int))=false:=decide_eq_false (by omega)
    obtain rfl:k=c.cabins.length:=by omega
    rw [decide_eq_true (JI h0 hno),Bool.true_and]
    repeat' (first|(apply nx;with_reducible constructor)|refine uq (by decide) ?_|((first|refine vx env fun Q hQ=>?_|refine vz fun Q hQ=>?_);simp only [vkt,seval,yQ,kD,qj,qa,qb,qg,qA,mTk,ecS,Yk,Bool.true_and,Bool.false_and,List.length_map,d1,h2,h4];(try simp only [ite_and]);(repeat' (first|with_reducible assumption|refine And.intro ?_ ?_|intro hp));all_goals (first|(refine hQ _ ?_;clear hQ Q)|(refine hQ _ (fun h=>?_) (fun h=>?_) <;> clear hQ Q <;> (try simp only [vki,reduceCtorEq] at h))|(refine vq ?_;kernel_rfl)|omega|assumption|with_reducible rfl|skip)))
    (simp only [vrt,Tryz.results21,vkt,seval,yQ,kD,qj,qa,qb,qg,qA,mTk,ecS,Yk,Bool.true_and,Bool.false_and,List.length_map];refine Fin.val rfl ?_;(try simp only [AV.le,AV.leL]))
    all_goals first|rfl|(simp;done)
 ·have d0:decide ((c.cabins.length:Int)=(d.cabins.length:Int))=false:=decide_eq_false (by omega)
  rw [decide_eq_false (fun e:c.cabins=d.cabins=>h0 (by rw [e])),Bool.false_and]
  repeat' (first|(apply nx;with_reducible constructor)|refine uq (by decide) ?_|((first|refine vx env fun Q hQ=>?_|refine vz fun Q hQ=>?_);simp only [vkt,seval,yQ,kD,qj,qa,qb,qg,qA,mTk,ecS,Yk,Bool.true_and,Bool.false_and,List.length_map,d0];(try simp only [ite_and]);(repeat' (first|with_reducible assumption|refine And.intro ?_ ?_|intro hp));all_goals (first|(refine hQ _ ?_;clear hQ Q)|(refine hQ _ (fun h=>?_) (fun h=>?_) <;> clear hQ Q <;> (try simp only [vki,reduceCtorEq] at h))|(refine vq ?_;kernel_rfl)|omega|assumption|with_reducible rfl|skip)))
  (simp only [vrt,Tryz.results21,vkt,seval,yQ,kD,qj,qa,qb,qg,qA,mTk,ecS,Yk,Bool.true_and,Bool.false_and,List.length_map];refine Fin.val rfl ?_;(try simp only [AV.le,AV.leL]))
  all_goals first|rfl|(simp;done)
def QQ:List AV→Prop × AV
 |[.agg [.sl c0,.v (.int .i64 c1),.sl c2],.agg [.sl d0,.v (.int .i64 d1),.sl d2]]=>(c0=(c0.map qo).map qg∧c2=(c2.map dTk).map eTk∧d0=(d0.map qo).map qg∧d2=(d2.map dTk).map eTk∧((⟨(c0.map qo),c1,(c2.map dTk)⟩:Chart)).cabins.length≤maxLen∧((⟨(c0.map qo),c1,(c2.map dTk)⟩:Chart)).sold.length≤maxLen∧((⟨(d0.map qo),d1,(d2.map dTk)⟩:Chart)).sold.length≤maxLen,aB (decide (((⟨(c0.map qo),c1,(c2.map dTk)⟩:Chart))=((⟨(d0.map qo),d1,(d2.map dTk)⟩:Chart)))))
 |_=>(False,.junk)
theorem eeqC {A:Frm→Prop}:qD A Tryz.prog 21 (qQ true QQ):=qR fun vs hv h=>by
 clear hv
 unfold QQ at h ⊢
 split at h
 ·rename_i c0 c1 c2 d0 d1 d2;obtain ⟨q0,q1,q2,q3,k0,k1,k2⟩:=h
  refine ⟨by first|trivial|(simp [AV.plain,AV.plainL,aI,aB,qz,qc,qj,qf,aTk,cTk];done)|(repeat' split) <;> simp [AV.plain,AV.plainL,aI,aB,qz,qc,qj,qf,aTk,cTk],fun _=>(by simp [AV.flat,AV.flatL,aI,aB]), ?_⟩
  have:=QjX ((⟨(c0.map qo),c1,(c2.map dTk)⟩:Chart)) ((⟨(d0.map qo),d1,(d2.map dTk)⟩:Chart)) k0 k1 k2
  simp only [qM,qa,aI,qj,qb,← q0,← q1,← q2,← q3] at this
  first|exact this|(simp only [qM,qa,aI,qj,qb,← q0,← q1,← q2,← q3];exact this)
 ·exact h.elim
def We (p:Nat→Bool) (n:Nat):Nat:=((List.range n).filter p).length
theorem Y8 (p:Nat→Bool) (n:Nat):We p (n+1)=We p n+if p n then 1 else 0:=by
 unfold We
 rw [List.range_succ,List.filter_append,List.length_append]
 cases h:p n <;> simp [h]
theorem QcT (p:Nat→Bool) (n:Nat):We p n≤n:=by
 unfold We;exact Nat.le_trans (List.length_filter_le _ _) (by simp)
def Zk (f:Nat→Nat):Nat→Nat
 |0=>0
 |k+1=>Zk f k+f k
theorem Qdu {f:Nat→Nat} {m:Nat} (h:∀ i,f i≤m):∀ n,Zk f n≤n * m
 |0=>by simp [Zk]
 |n+1=>by
  have:=Qdu h n
  have:=h n
  rw [Zk,Nat.succ_mul];omega
theorem Qbh (f g:Nat→Nat):∀ n,Zk (fun i=>f i+g i) n=Zk f n+Zk g n
 |0=>rfl
 |n+1=>by rw [Zk,Zk,Zk,Qbh f g n];omega
theorem Xf (p:Nat→Bool):∀ n,Zk (fun i=>if p i then 1 else 0) n=We p n
 |0=>rfl
 |n+1=>by rw [Zk,Xf p n,Y8]
theorem Yw {f g:Nat→Nat}:∀ n,(∀ i,i < n→f i=g i)→Zk f n=Zk g n
 |0,_=>rfl
 |n+1,h=>by rw [Zk,Zk,Yw n fun i hi=>h i (by omega),h n (by omega)]
theorem Qcb {p q:Nat→Bool} (n:Nat) (h:∀ i,i < n→p i=q i):We p n=We q n:=by
 rw [← Xf,← Xf]
 exact Yw n fun i hi=>by rw [h i hi]
theorem QaN (p:Nat→Nat→Bool) (m:Nat):∀ n,Zk (fun i=>We (fun s=>p i s) m) n=Zk (fun s=>We (fun i=>p i s) n) m
 |0=>by
  have:∀ m,Zk (fun s=>We (fun i=>p i s) 0) m=0:=fun m=>by
   induction m with
   |zero=>rfl
   |succ m ih=>rw [Zk,ih];rfl
  rw [this];rfl
 |n+1=>by
  rw [Zk,QaN p m n]
  have:(fun s=>We (fun i=>p i s) (n+1))=fun s=>We (fun i=>p i s) n+if p n s then 1 else 0:=funext fun s=>Y8 _ _
  rw [this,Qbh,Xf]
def emR (c:Chart) (i s:Nat):Bool:=emH c s i (c.cabins.getD i default).beds.toNat
def rrN (c:Chart) (i:Nat):Nat:=Zk (fun i=>We (fun s=>emR c i s) c.secs.toNat) i
theorem L9 (sold:List Tk) (n:Nat):∀ k,Xx sold n k=Zk (fun s=>We (fun i=>jB sold s i) n) k
 |0=>rfl
 |k+1=>by rw [Xx,Zk,L9 sold n k];rfl
theorem Qh1 {c:Chart} (hv:Van c) {k:Nat} (s:Int):emH c s k (c.cabins.getD k default).beds.toNat=jB c.sold s k:=by
 rw [Bool.eq_iff_iff]
 unfold emH jB
 rw [List.all_eq_true,List.all_eq_true]
 constructor
 ·intro h t ht
  cases hq:(atB s t && decide (t.cab=(k:Int))) with
  |false=>rfl
  |true =>
   rw [Bool.and_eq_true,decide_eq_true_eq] at hq
   obtain ⟨h1,h2⟩:=hq
   have hk:=hv.tk t ht
   have hb:=hk.bed
   rw [h2] at hb
   have hb:0≤t.bed∧t.bed < (c.cabins.getD k default).beds:=hb
   have:=h t.bed.toNat (List.mem_range.2 (by omega))
   rw [Int.toNat_of_nonneg hb.1] at this
   have hh:Jb c.sold ⟨k,t.bed⟩ s=true:=List.any_eq_true.2 ⟨t,ht,by unfold onB;rw [UT,h1,decide_eq_true h2,decide_eq_true rfl];rfl⟩
   rw [hh] at this
   exact absurd this (by decide)
 ·intro h j hj
  cases hq:Jb c.sold ⟨(k:Int),(j:Int)⟩ s with
  |false=>rfl
  |true =>
   obtain ⟨t,ht,h1⟩:=List.any_eq_true.1 hq
   unfold onB at h1
   rw [UT,Bool.and_eq_true,Bool.and_eq_true,decide_eq_true_eq] at h1
   have:=h t ht
   rw [h1.2,decide_eq_true h1.1.1] at this
   exact absurd this (by decide)
theorem QiT {c:Chart} (hv:Van c):(rrN c c.cabins.length:Int)=xy c.cabins c.secs c.sold:=by
 unfold rrN
 rw [YY,L9,QaN]
 refine congrArg _ (Yw _ fun s _=>Qcb _ fun i _=>?_)
 unfold emR
 rw [Qh1 hv]
theorem rr_bd {c:Chart} (hv:Van c) (i:Nat) (hi:i≤3):rrN c i≤15:=by
 have h1:=Qdu (f:=fun i=>We (fun s=>emR c i s) c.secs.toNat) (m:=5) (fun i=>Nat.le_trans (QcT _ _) (by have:=hv.car.secs;omega)) i
 unfold rrN
 omega
theorem Jd {c:Chart} {a:Ask} (h:zq c a=0) {l:List Bunk} (hl:l ∈ alL (qX c.cabins) a.sexes.length):∀ t ∈ c.sold++vB a l l.length,TkOk c t:=fun t ht=>by
 have hll:=ZV l hl
 have hT:vB a l l.length=tkR a 0 l:=by rw [XN a l l.length (Nat.le_refl _),List.take_length]
 rcases List.mem_append.1 ht with ht|ht
 ·exact (xV (vg h).1).tk t ht
 ·rw [hT] at ht
  obtain ⟨i,b,hi,hb,rfl⟩:=V9 ht
  exact Qbr h (by omega) (Uy hl b hb)
theorem Qb5 {c:Chart} {a:Ask} (h:zq c a=0) (hs:1≤a.sexes.length) {l:List Bunk} (hl:l ∈ alL (qX c.cabins) a.sexes.length):wL c a l=WK c a l:=by
 cases hq:WK c a l with
 |true=>exact Qbk h hs (by rw [Jk h hs];exact List.mem_filter.2 ⟨hl,hq⟩)
 |false =>
  cases hp:wL c a l with
  |false=>rfl
  |true =>
   have hway:=Jd h hl
   unfold wL at hp
   simp only [Bool.and_eq_true,decide_eq_true_eq] at hp
   obtain ⟨⟨_,h3⟩,h4⟩:=hp
   have h5:=Yy h3
   have hpw:PWr [] (c.sold++vB a l l.length):=(YE _ _).2 fun i hi=>by rw [List.nil_append];exact (h5 i hi).2
   have hst:=(UK (cs:=c.cabins) (secs:=c.secs) (fun t ht=>⟨(hway t ht).frm,(hway t ht).way,(hway t ht).to⟩)).2 hpw
   unfold WK at hq
   rw [h4,hst] at hq
   exact absurd hq (by decide)
theorem U6 {c:Chart} {a:Ask} (h:zq c a=0) (hs:1≤a.sexes.length):zy c a=(alL (qX c.cabins) a.sexes.length).filter (wL c a):=by
 rw [Jk h hs]
 exact List.filter_congr fun l hl=>(Qb5 h hs hl).symm
theorem L6 {cs:List Cabin} {a:Ask}:∀ (m:Nat) (sold:List Tk) (begun:List Bunk),∀ x ∈ wH cs a m sold begun,∃ new:List Bunk,x.1=begun++new∧x.2=sold++tkR a begun.length new
 |0,sold,begun,x,hx=>by
  simp only [wH,List.mem_singleton] at hx
  subst hx
  exact ⟨[],by simp,by simp [tkR]⟩
 |m+1,sold,begun,x,hx=>by
  rw [kF,List.mem_flatMap] at hx
  obtain ⟨b,hb,hx⟩:=hx
  unfold gbL at hx
  split at hx
  ·obtain ⟨new,h1,h2⟩:=L6 m _ _ x hx
   refine ⟨b :: new,by rw [h1];simp, ?_⟩
   rw [h2,List.length_append,List.length_singleton]
   simp [tkR]
  ·simp at hx
theorem QiY {c:Chart} {a:Ask} {x:List Bunk × List Tk} (hx:x ∈ plP c a):x.2=c.sold++vB a x.1 x.1.length:=by
 obtain ⟨new,h1,h2⟩:=L6 _ _ _ x hx
 rw [List.nil_append] at h1
 rw [h2,h1,XN a new new.length (Nat.le_refl _),List.take_length];rfl
def rdF (c:Chart) (a:Ask) (j:Nat):Int:=xy c.cabins c.secs (c.sold++vB a ((zy c a).getD j default) ((zy c a).getD j default).length)
theorem RF {f g:Nat→Int}:∀ n,(∀ i,i < n→f i=g i)→mxK f n=mxK g n
 |0,_=>rfl
 |n+1,h=>by rw [mxK,mxK,RF n fun i hi=>h i (by omega),h n (by omega)]
theorem rd_rs {c:Chart} {a:Ask} (h:zq c a=0) {j:Nat} (hj:j < (plP c a).length):rdF c a j=rsF c a j:=by
 have hm:=ve (d:=default) hj
 have hP:zy c a=(plP c a).map (·.1):=by unfold zy;rw [if_pos h]
 have hg:(zy c a).getD j default=((plP c a).getD j default).1:=by
  rw [hP]
  simp [List.getD_eq_getElem?_getD,hj]
 unfold rdF rsF
 rw [hg,← QiY hm]
 exact XB h hm
def rbA (c:Chart) (a:Ask):List Bunk × Int:=if zq c a=0 then (if zy c a=[] then ([],11) else ((zy c a).getD (mxK (rdF c a) (zy c a).length).2 default,0)) else ([],zq c a)
theorem Qjf (c:Chart) (a:Ask):rbA c a=wG c a:=by
 unfold rbA wG
 by_cases h:zq c a=0
 ·rw [if_pos h,if_pos h]
  have hP:zy c a=(plP c a).map (·.1):=by unfold zy;rw [if_pos h]
  have hl:(zy c a).length=(plP c a).length:=by rw [hP,List.length_map]
  rw [hl,RF _ fun j hj=>rd_rs h hj]
  rcases Qam h (plP c a).length (Nat.le_refl _) with ⟨h1,h2⟩|⟨h1,h2⟩
  ·rw [if_pos (List.eq_nil_of_length_eq_zero (by omega)),h2];rfl
  ·have hne:zy c a ≠ []:=fun h0=>by rw [h0] at hl;simp at hl;omega
   rw [if_neg hne,h1]
   have hg:(zy c a).getD (mxK (rsF c a) (plP c a).length).2 default=((plP c a).getD (mxK (rsF c a) (plP c a).length).2 default).1:=by
    rw [hP]
    simp [List.getD_eq_getElem?_getD,h2]
   rw [hg];rfl
 ·rw [if_neg h,if_neg h]
def rpS (c:Chart) (a:Ask) (Al M:List (List Bunk)) (T:List (Nat × AV)):St:={ t:=asg (T++[(2,.ptr 0 0),(3,.ptr 1 0),(5,.row 3),(6,.row 2)]),h:=ql [(0,.cells (qb c)),(1,.cells (qh a)),(2,.row 44 1 (Al.map qB)),(3,.row 44 1 (M.map qB))],n:=4 }
theorem RL {α:Type} {p:α→Bool} {d:α} {l:List α} {i:Nat} (h:i < l.length):(l.take (i+1)).filter p=(l.take i).filter p++if p (l.getD i d) then [l.getD i d] else []:=by
 rw [List.take_succ_eq_append_getElem h,List.filter_append,List.getD_eq_getElem?_getD,List.getElem?_eq_getElem h]
 cases hp:p l[i] <;> simp [hp]
def yo:=vj @ty3 (vj @jG (vj @QV (vj @QF (vj @QbA (vj @Wx (vj @xA (vj @ti3.eq_1 (vj @jh.eq_1 (vj @Qn.eq_1 (vj @kY.eq_1 (vj @KQ.eq_1 (vj @ZH.eq_1 @vN.eq_1))))))))))))
def ZR:=vj @aI.eq_1 (vj @aB.eq_1 (@Q4))
theorem Qcp (c:Chart) (a:Ask) (hc:CarOk c) (hs:c.sold.length≤20) (ha:0 < a.sexes.length∧a.sexes.length≤3):FnV Tryz.prog 54 [qa c,qx a] (jd ((alL (qX c.cabins) a.sexes.length).filter (wL c a))):=by
 have env:Env (fun _=>True) Tryz.prog tyB (tab [(70,qQ false Qe),(69,fnE (pAl a.sexes.length)),(106,qQ true xG)]):=qH ⟨Qjm,eAl (Qgr _),QgG,trivial⟩
 refine Fn.of (A:=fun _=>True) (n0:=0) (D:=noD) (Fn0 Tryz.func54 rfl (fun vs w=>by kernel_rfl) (by kernel_rfl)) (by simp) (by simp [AV.ids,AV.idsL,qa,qb,qx,qh]) (fun i o h=>by cases h) (fun _ _ _ _=>trivial) qF ?_
 have eC:(⟨c.cabins,c.secs,c.sold⟩:Chart)=c:=rfl
 have eA:(⟨a.party,a.frm,a.to,a.sexes,a.dog⟩:Ask)=a:=rfl
 have hmx:(100000:Nat)≤maxLen:=by decide
 have hbds:=hc.beds
 have hCar:=hc
 obtain ⟨ha1,ha2⟩:=ha
 have c6:c.cabins.length≤3:=hc.cabs.2
 have c7:∀ x ∈ c.cabins,x.beds≤3:=fun x hx=>(hbds x hx).2
 have c8:(qX c.cabins).length≤9:=Qiq c6 hbds
 have c5:a.sexes.length≤20:=by omega
 have hA1:∀ p ∈ alL (qX c.cabins) a.sexes.length,p.length=a.sexes.length:=fun p hp=>ZV p hp
 obtain ⟨Al,hAl⟩:∃ Al,alL (qX c.cabins) a.sexes.length=Al:=⟨_,rfl⟩
 have hAll:Al.length≤1000:=by
  rw [← hAl,Us]
  have h1:(qX c.cabins).length ^ a.sexes.length≤9 ^ a.sexes.length:=Nat.pow_le_pow_left c8 _
  have h2:9 ^ a.sexes.length≤9 ^ 3:=Nat.pow_le_pow_right (by decide) ha2
  omega
 rw [hAl] at hA1
 rw [hAl]
 repeat' (first|(apply nx;with_reducible constructor)|refine uq (by decide) ?_|((first|refine vx env fun Q hQ=>?_|refine vz fun Q hQ=>?_);simp only [vkt,seval,yo,ZR,qf,qc,jd,qw,qB,qE,qK,qZ,qV,qg,qA,qI,qd,mTk,qa,qb,qx,qh,rpS,Qe,pAl,xG,List.length_map,eC,eA,c6,c7,c8,ha2,hAl];(try simp only [ite_and]);(repeat' (first|with_reducible assumption|refine And.intro ?_ ?_|intro hp));all_goals (first|(refine hQ _ ?_;clear hQ Q)|(refine hQ _ (fun h=>?_) (fun h=>?_) <;> clear hQ Q <;> (try simp only [vki,reduceCtorEq] at h))|(refine vq ?_;kernel_rfl)|omega|assumption|with_reducible rfl|skip)))
 refine qO (fun i:{ i:Nat // i≤Al.length }=>rpS c a Al ((Al.take i.1).filter (wL c a)) [(7,aI i.1)]) (fun i=>Al.length - i.1) ⟨0,Nat.zero_le _⟩ ?_ fun ⟨i,hi⟩=>?_
 ·simp only [rpS,List.take_zero,List.filter_nil,List.cons_append,List.nil_append]
  (refine Le.ok (fun i=>if i=3 then none else some i) [] ?_;constructor;all_goals (try simp only [vle,vkt,seval,yo,ZR,qf,qc,jd,qw,qB,qE,qK,qZ,qV,qg,qA,qI,qd,mTk,qa,qb,qx,qh,rpS,Qe,pAl,xG,List.length_map]))
  all_goals first|rfl|(simp;done)|(intro i hi;rw [if_neg (by omega)];done)
 simp only at hi ⊢
 have hMl:((Al.take i).filter (wL c a)).length≤i:=Nat.le_trans (List.length_filter_le _ _) (by rw [List.length_take];omega)
 by_cases hil:i < Al.length
 ·have d1:decide ((i:Int) < (Al.length:Int))=true:=decide_eq_true (by omega)
  have e9:IntKind.wrap .i64 ((i:Int)+1)=((i+1:Nat):Int):=by rw [wrap64 (by omega) (by omega)];rfl
  have i0:((i:Int)).toNat=i:=rfl
  have hS:=RL (p:=wL c a) (d:=[]) hil
  have hg:=Vg hil
  have hpl:=hA1 (Al.getD i []) (ve hil)
  obtain ⟨p,hp⟩:∃ p,Al.getD i []=p:=⟨_,rfl⟩
  obtain ⟨M,hM⟩:∃ M,(Al.take i).filter (wL c a)=M:=⟨_,rfl⟩
  rw [hp] at hg hS hpl
  rw [hM] at hS hMl
  have hm:M.length+1≤maxLen:=by omega
  have p1:p.length≤maxLen:=by omega
  simp only [rpS,hM,List.cons_append,List.nil_append]
  cases q:wL c a p with
  |true =>
   rw [q,if_pos rfl] at hS
   repeat' (first|(apply nx;with_reducible constructor)|refine uq (by decide) ?_|((first|refine vx env fun Q hQ=>?_|refine vz fun Q hQ=>?_);simp only [vkt,seval,yo,ZR,qf,qc,jd,qw,qB,qE,qK,qZ,qV,qg,qA,qI,qd,mTk,qa,qb,qx,qh,rpS,Qe,pAl,xG,List.length_map,d1,i0,hil,hp,hg,eC,eA,hCar,hs,ha1,c5,p1,q,e9,hm];(try simp only [ite_and]);(repeat' (first|with_reducible assumption|refine And.intro ?_ ?_|intro hp));all_goals (first|(refine hQ _ ?_;clear hQ Q)|(refine hQ _ (fun h=>?_) (fun h=>?_) <;> clear hQ Q <;> (try simp only [vki,reduceCtorEq] at h))|(refine vq ?_;kernel_rfl)|omega|assumption|with_reducible rfl|skip)))
   refine ⟨⟨i+1,hil⟩,by show Al.length - (i+1) < Al.length - i;omega, ?_⟩
   simp only [rpS,hS,List.cons_append,List.nil_append]
   (refine Le.ok (fun i=>if i=3 then some 5 else some i) [] ?_;constructor;all_goals (try simp only [vle,vkt,seval,yo,ZR,qf,qc,jd,qw,qB,qE,qK,qZ,qV,qg,qA,qI,qd,mTk,qa,qb,qx,qh,rpS,Qe,pAl,xG,List.length_map]))
   all_goals first|rfl|(rw [List.map_append];rfl)|(simp;done)|(intro i hi;rw [if_neg (by omega)];done)
  |false =>
   rw [q,if_neg (by decide),List.append_nil] at hS
   repeat' (first|(apply nx;with_reducible constructor)|refine uq (by decide) ?_|((first|refine vx env fun Q hQ=>?_|refine vz fun Q hQ=>?_);simp only [vkt,seval,yo,ZR,qf,qc,jd,qw,qB,qE,qK,qZ,qV,qg,qA,qI,qd,mTk,qa,qb,qx,qh,rpS,Qe,pAl,xG,List.length_map,d1,i0,hil,hp,hg,eC,eA,hCar,hs,ha1,c5,p1,q,e9];(try simp only [ite_and]);(repeat' (first|with_reducible assumption|refine And.intro ?_ ?_|intro hp));all_goals (first|(refine hQ _ ?_;clear hQ Q)|(refine hQ _ (fun h=>?_) (fun h=>?_) <;> clear hQ Q <;> (try simp only [vki,reduceCtorEq] at h))|(refine vq ?_;kernel_rfl)|omega|assumption|with_reducible rfl|skip)))
   refine ⟨⟨i+1,hil⟩,by show Al.length - (i+1) < Al.length - i;omega, ?_⟩
   simp only [rpS,hS,List.cons_append,List.nil_append]
   (refine Le.ok some [] ?_;constructor;all_goals (try simp only [vle,vkt,seval,yo,ZR,qf,qc,jd,qw,qB,qE,qK,qZ,qV,qg,qA,qI,qd,mTk,qa,qb,qx,qh,rpS,Qe,pAl,xG,List.length_map]))
   all_goals first|rfl|(simp;done)
 ·have d1:decide ((i:Int) < (Al.length:Int))=false:=decide_eq_false (by omega)
  obtain rfl:i=Al.length:=by omega
  rw [List.take_length]
  simp only [rpS,List.cons_append,List.nil_append]
  repeat' (first|(apply nx;with_reducible constructor)|refine uq (by decide) ?_|((first|refine vx env fun Q hQ=>?_|refine vz fun Q hQ=>?_);simp only [vkt,seval,yo,ZR,qf,qc,jd,qw,qB,qE,qK,qZ,qV,qg,qA,qI,qd,mTk,qa,qb,qx,qh,rpS,Qe,pAl,xG,List.length_map,d1];(try simp only [ite_and]);(repeat' (first|with_reducible assumption|refine And.intro ?_ ?_|intro hp));all_goals (first|(refine hQ _ ?_;clear hQ Q)|(refine hQ _ (fun h=>?_) (fun h=>?_) <;> clear hQ Q <;> (try simp only [vki,reduceCtorEq] at h))|(refine vq ?_;kernel_rfl)|omega|assumption|with_reducible rfl|skip)))
  (simp only [vrt,Tryz.results54,vkt,seval,yo,ZR,qf,qc,jd,qw,qB,qE,qK,qZ,qV,qg,qA,qI,qd,mTk,qa,qb,qx,qh,rpS,Qe,pAl,xG,List.length_map];refine Fin.val rfl ?_;(try simp only [AV.le,AV.leL]))
  all_goals first|rfl|(simp;done)|exact ⟨_,_,rfl⟩
def yB:List AV→Prop × AV
 |[.agg [.sl c0,.v (.int .i64 c1),.sl c2],.agg [.v (.int .i64 a0),.v (.int .i64 a1),.v (.int .i64 a2),.sl a3,.v (.bool a4)]]=>(c0=(c0.map qo).map qg∧c2=(c2.map dTk).map eTk∧a3=(a3.map za).map zD∧CarOk ((⟨(c0.map qo),c1,(c2.map dTk)⟩:Chart))∧((⟨(c0.map qo),c1,(c2.map dTk)⟩:Chart)).sold.length≤20∧0 < ((⟨a0,a1,a2,(a3.map za),a4⟩:Ask)).sexes.length∧((⟨a0,a1,a2,(a3.map za),a4⟩:Ask)).sexes.length≤3,jd ((alL (qX ((⟨(c0.map qo),c1,(c2.map dTk)⟩:Chart)).cabins) ((⟨a0,a1,a2,(a3.map za),a4⟩:Ask)).sexes.length).filter (wL ((⟨(c0.map qo),c1,(c2.map dTk)⟩:Chart)) ((⟨a0,a1,a2,(a3.map za),a4⟩:Ask)))))
 |_=>(False,.junk)
theorem Qg2 {A:Frm→Prop}:qD A Tryz.prog 54 (qQ false yB):=qR fun vs hv h=>by
 clear hv
 unfold yB at h ⊢
 split at h
 ·rename_i c0 c1 c2 a0 a1 a2 a3 a4;obtain ⟨q0,q1,q2,k0,k1,k2,k3⟩:=h
  refine ⟨by first|trivial|(simp [AV.plain,AV.plainL,aI,aB,qz,qc,qj,qf,aTk,cTk];done)|(repeat' split) <;> simp [AV.plain,AV.plainL,aI,aB,qz,qc,qj,qf,aTk,cTk],fun h=>absurd h (by decide), ?_⟩
  have:=Qcp ((⟨(c0.map qo),c1,(c2.map dTk)⟩:Chart)) ((⟨a0,a1,a2,(a3.map za),a4⟩:Ask)) k0 k1 ⟨k2,k3⟩
  simp only [qx,aB,qM,qa,aI,qz,qj,qh,qb,← q0,← q1,← q2] at this
  first|exact this|(simp only [qx,aB,qM,qa,aI,qz,qj,qh,qb,← q0,← q1,← q2];exact this)
 ·exact h.elim
def rcS (c:Chart) (k:Nat):St:={ t:=asg [(1,.ptr 0 0),(2,aI 0),(3,aI k)],h:=ql [(0,.cells (qb c))],n:=1 }
def ZW (c:Chart):Int:=if c.cabins.length=0 then 7 else if 3 < c.cabins.length then 6 else if yM (c.cabins.map Qs) ≠ 0 then yM (c.cabins.map Qs) else if !inB c.secs 1 5 then 1 else 0
theorem Qcz (c:Chart):zY c=if ZW c ≠ 0 then ZW c else if 8 < c.sold.length then 6 else jH c c.sold:=by
 unfold zY WS ZW zG
 by_cases h1:c.cabins.length=0
 ·rw [if_pos (show (c.cabins.length:Int) < 1 by omega),if_pos h1];simp
 rw [if_neg (show ¬ (c.cabins.length:Int) < 1 by omega),if_neg h1]
 by_cases h2:3 < c.cabins.length
 ·rw [if_pos (show (3:Int) < (c.cabins.length:Int) by omega),if_pos h2];simp
 rw [if_neg (show ¬ (3:Int) < (c.cabins.length:Int) by omega),if_neg h2]
 simp only [ne_eq,not_true_eq_false,if_false]
 by_cases h3:yM (c.cabins.map Qs)=0
 ·rw [h3]
  simp only [not_true_eq_false,if_false]
  cases inB c.secs 1 5 with
  |false=>simp
  |true =>
   simp only [Bool.not_true,Bool.false_eq_true,if_false,not_true_eq_false]
   by_cases h4:8 < c.sold.length
   ·rw [if_neg (show ¬ (c.sold.length:Int) < 0 by omega),if_pos (show (8:Int) < (c.sold.length:Int) by omega),if_pos h4];simp
   ·rw [if_neg (show ¬ (c.sold.length:Int) < 0 by omega),if_neg (show ¬ (8:Int) < (c.sold.length:Int) by omega),if_neg h4];simp
 ·simp [h3]
theorem QiK {c:Chart} (h:ZW c=0):CarOk c:=by
 unfold ZW at h
 split at h
 ·exact absurd h (by decide)
 split at h
 ·exact absurd h (by decide)
 split at h
 ·exact absurd h ‹_›
 rename_i h3
 split at h
 ·exact absurd h (by decide)
 rename_i h4
 refine ⟨by omega,fun x hx=>?_,jm.1 (by simpa using h4)⟩
 have:=ZP (Decidable.not_not.1 h3) _ (List.mem_map.2 ⟨x,hx,rfl⟩)
 unfold Qs at this
 split at this
 ·exact absurd this (by decide)
 ·rename_i h5;exact jm.1 (by simpa using h5)
def w9:=vj @ty3 (vj @Jg (vj @jG (vj @Jh (vj @ti3.eq_1 (vj @Z8.eq_1 (vj @jh.eq_1 @Wl.eq_1))))))
def xq:=vj @aI.eq_1 (@aB.eq_1)
theorem QhZ (c:Chart) (hc:c.cabins.length≤maxLen):FnV Tryz.prog 119 [qa c] (aI (ZW c)):=by
 have env:Env (fun _=>True) Tryz.prog tyB (tab [(83,qQ true ze)]):=qH ⟨QaP,trivial⟩
 refine Fn.of (A:=fun _=>True) (n0:=0) (D:=noD) (Fn0 Tryz.func119 rfl (fun vs w=>by kernel_rfl) (by kernel_rfl)) (by simp) (by simp [AV.ids,AV.idsL,qa,qb]) (fun i o h=>by cases h) (fun _ _ _ _=>trivial) qF ?_
 by_cases h1:c.cabins.length=0
 ·rw [show ZW c=7 by unfold ZW;rw [if_pos h1]]
  have d1:decide ((c.cabins.length:Int)=0)=true:=decide_eq_true (by omega)
  repeat' (first|(apply nx;with_reducible constructor)|refine uq (by decide) ?_|((first|refine vx env fun Q hQ=>?_|refine vz fun Q hQ=>?_);simp only [vkt,seval,w9,xq,qa,qb,qg,qA,rcS,ze,List.length_map,d1];(try simp only [ite_and]);(repeat' (first|with_reducible assumption|refine And.intro ?_ ?_|intro hp));all_goals (first|(refine hQ _ ?_;clear hQ Q)|(refine hQ _ (fun h=>?_) (fun h=>?_) <;> clear hQ Q <;> (try simp only [vki,reduceCtorEq] at h))|(refine vq ?_;kernel_rfl)|omega|assumption|with_reducible rfl|skip)))
  (simp only [vrt,Tryz.results119,vkt,seval,w9,xq,qa,qb,qg,qA,rcS,ze,List.length_map];refine Fin.val rfl ?_;(try simp only [AV.le,AV.leL]))
  all_goals first|rfl|(simp;done)
 have d1:decide ((c.cabins.length:Int)=0)=false:=decide_eq_false (by omega)
 by_cases h2:3 < c.cabins.length
 ·rw [show ZW c=6 by unfold ZW;rw [if_neg h1,if_pos h2]]
  have d2:decide ((3:Int) < (c.cabins.length:Int))=true:=decide_eq_true (by omega)
  repeat' (first|(apply nx;with_reducible constructor)|refine uq (by decide) ?_|((first|refine vx env fun Q hQ=>?_|refine vz fun Q hQ=>?_);simp only [vkt,seval,w9,xq,qa,qb,qg,qA,rcS,ze,List.length_map,d1,d2];(try simp only [ite_and]);(repeat' (first|with_reducible assumption|refine And.intro ?_ ?_|intro hp));all_goals (first|(refine hQ _ ?_;clear hQ Q)|(refine hQ _ (fun h=>?_) (fun h=>?_) <;> clear hQ Q <;> (try simp only [vki,reduceCtorEq] at h))|(refine vq ?_;kernel_rfl)|omega|assumption|with_reducible rfl|skip)))
  (simp only [vrt,Tryz.results119,vkt,seval,w9,xq,qa,qb,qg,qA,rcS,ze,List.length_map];refine Fin.val rfl ?_;(try simp only [AV.le,AV.leL]))
  all_goals first|rfl|(simp;done)
 have d2:decide ((3:Int) < (c.cabins.length:Int))=false:=decide_eq_false (by omega)
 have hE:ZW c=if yM (c.cabins.map Qs) ≠ 0 then yM (c.cabins.map Qs) else if !inB c.secs 1 5 then 1 else 0:=by unfold ZW;rw [if_neg h1,if_neg h2]
 rw [hE]
 repeat' (first|(apply nx;with_reducible constructor)|refine uq (by decide) ?_|((first|refine vx env fun Q hQ=>?_|refine vz fun Q hQ=>?_);simp only [vkt,seval,w9,xq,qa,qb,qg,qA,rcS,ze,List.length_map,d1,d2];(try simp only [ite_and]);(repeat' (first|with_reducible assumption|refine And.intro ?_ ?_|intro hp));all_goals (first|(refine hQ _ ?_;clear hQ Q)|(refine hQ _ (fun h=>?_) (fun h=>?_) <;> clear hQ Q <;> (try simp only [vki,reduceCtorEq] at h))|(refine vq ?_;kernel_rfl)|omega|assumption|with_reducible rfl|skip)))
 refine qO (fun k:{ k:Nat // k≤c.cabins.length∧∀ j,j < k→(c.cabins.map Qs).getD j 0=0 }=>rcS c k.1) (fun k=>c.cabins.length - k.1) ⟨0,Nat.zero_le _,fun j h=>absurd h (Nat.not_lt_zero _)⟩ ?_ fun ⟨k,hk,hno⟩=>?_
 ·simp only [rcS]
  (refine Le.ok some [] ?_;constructor;all_goals (try simp only [vle,vkt,seval,w9,xq,qa,qb,qg,qA,rcS,ze,List.length_map]))
  all_goals first|rfl|(simp;done)
 simp only at hk hno ⊢
 simp only [rcS]
 by_cases hlt:k < c.cabins.length
 ·have d3:decide ((k:Int) < (c.cabins.length:Int))=true:=decide_eq_true (by omega)
  have k0:((k:Int)).toNat=k:=rfl
  have e9:IntKind.wrap .i64 ((k:Int)+1)=((k+1:Nat):Int):=by rw [wrap64 (by omega) (by omega)];rfl
  obtain ⟨x,hx⟩:∃ x,c.cabins.getD k default=x:=⟨_,rfl⟩
  have hm:(c.cabins.map Qs).getD k 0=Qs x:=by rw [mapD hlt,hx]
  cases hb:inB x.beds 1 3 with
  |false =>
   have hE:Qs x=1:=by simp [Qs,hb]
   have hf:=kW hno (by simpa using hlt) (by rw [hm,hE];decide)
   rw [hm,hE] at hf
   rw [hf,if_pos (by decide)]
   repeat' (first|(apply nx;with_reducible constructor)|refine uq (by decide) ?_|((first|refine vx env fun Q hQ=>?_|refine vz fun Q hQ=>?_);simp only [vkt,seval,w9,xq,qa,qb,qg,qA,rcS,ze,List.length_map,d3,k0,hlt,hx,hb];(try simp only [ite_and]);(repeat' (first|with_reducible assumption|refine And.intro ?_ ?_|intro hp));all_goals (first|(refine hQ _ ?_;clear hQ Q)|(refine hQ _ (fun h=>?_) (fun h=>?_) <;> clear hQ Q <;> (try simp only [vki,reduceCtorEq] at h))|(refine vq ?_;kernel_rfl)|omega|assumption|with_reducible rfl|skip)))
   (simp only [vrt,Tryz.results119,vkt,seval,w9,xq,qa,qb,qg,qA,rcS,ze,List.length_map];refine Fin.val rfl ?_;(try simp only [AV.le,AV.leL]))
   all_goals first|rfl|(simp;done)
  |true =>
   have hE:Qs x=0:=by simp [Qs,hb]
   repeat' (first|(apply nx;with_reducible constructor)|refine uq (by decide) ?_|((first|refine vx env fun Q hQ=>?_|refine vz fun Q hQ=>?_);simp only [vkt,seval,w9,xq,qa,qb,qg,qA,rcS,ze,List.length_map,d3,k0,hlt,hx,hb,e9];(try simp only [ite_and]);(repeat' (first|with_reducible assumption|refine And.intro ?_ ?_|intro hp));all_goals (first|(refine hQ _ ?_;clear hQ Q)|(refine hQ _ (fun h=>?_) (fun h=>?_) <;> clear hQ Q <;> (try simp only [vki,reduceCtorEq] at h))|(refine vq ?_;kernel_rfl)|omega|assumption|with_reducible rfl|skip)))
   refine ⟨⟨k+1,hlt,fun j hj=>?_⟩,by show c.cabins.length - (k+1) < c.cabins.length - k;omega, ?_⟩
   ·rcases Nat.lt_or_eq_of_le (Nat.le_of_lt_succ hj) with h2|h2
    ·exact hno j h2
    ·rw [h2,hm,hE]
   ·simp only [rcS]
    (refine Le.ok some [] ?_;constructor;all_goals (try simp only [vle,vkt,seval,w9,xq,qa,qb,qg,qA,rcS,ze,List.length_map]))
    all_goals first|rfl|(simp;done)
 ·have d3:decide ((k:Int) < (c.cabins.length:Int))=false:=decide_eq_false (by omega)
  obtain rfl:k=c.cabins.length:=by omega
  have hf:yM (c.cabins.map Qs)=0:=yX (by simpa using hno)
  rw [hf,if_neg (by decide)]
  cases hs:inB c.secs 1 5 with
  |false =>
   repeat' (first|(apply nx;with_reducible constructor)|refine uq (by decide) ?_|((first|refine vx env fun Q hQ=>?_|refine vz fun Q hQ=>?_);simp only [vkt,seval,w9,xq,qa,qb,qg,qA,rcS,ze,List.length_map,d3,hs];(try simp only [ite_and]);(repeat' (first|with_reducible assumption|refine And.intro ?_ ?_|intro hp));all_goals (first|(refine hQ _ ?_;clear hQ Q)|(refine hQ _ (fun h=>?_) (fun h=>?_) <;> clear hQ Q <;> (try simp only [vki,reduceCtorEq] at h))|(refine vq ?_;kernel_rfl)|omega|assumption|with_reducible rfl|skip)))
   (simp only [vrt,Tryz.results119,vkt,seval,w9,xq,qa,qb,qg,qA,rcS,ze,List.length_map];refine Fin.val rfl ?_;(try simp only [AV.le,AV.leL]))
   all_goals first|rfl|(simp;done)
  |true =>
   repeat' (first|(apply nx;with_reducible constructor)|refine uq (by decide) ?_|((first|refine vx env fun Q hQ=>?_|refine vz fun Q hQ=>?_);simp only [vkt,seval,w9,xq,qa,qb,qg,qA,rcS,ze,List.length_map,d3,hs];(try simp only [ite_and]);(repeat' (first|with_reducible assumption|refine And.intro ?_ ?_|intro hp));all_goals (first|(refine hQ _ ?_;clear hQ Q)|(refine hQ _ (fun h=>?_) (fun h=>?_) <;> clear hQ Q <;> (try simp only [vki,reduceCtorEq] at h))|(refine vq ?_;kernel_rfl)|omega|assumption|with_reducible rfl|skip)))
   (simp only [vrt,Tryz.results119,vkt,seval,w9,xq,qa,qb,qg,qA,rcS,ze,List.length_map];refine Fin.val rfl ?_;(try simp only [AV.le,AV.leL]))
   all_goals first|rfl|(simp;done)
def YF:List AV→Prop × AV
 |[.agg [.sl c0,.v (.int .i64 c1),.sl c2]]=>(c0=(c0.map qo).map qg∧c2=(c2.map dTk).map eTk∧((⟨(c0.map qo),c1,(c2.map dTk)⟩:Chart)).cabins.length≤maxLen,aI (ZW ((⟨(c0.map qo),c1,(c2.map dTk)⟩:Chart))))
 |_=>(False,.junk)
theorem ercar {A:Frm→Prop}:qD A Tryz.prog 119 (qQ true YF):=qR fun vs hv h=>by
 clear hv
 unfold YF at h ⊢
 split at h
 ·rename_i c0 c1 c2;obtain ⟨q0,q1,k0⟩:=h
  refine ⟨by first|trivial|(simp [AV.plain,AV.plainL,aI,aB,qz,qc,qj,qf,aTk,cTk];done)|(repeat' split) <;> simp [AV.plain,AV.plainL,aI,aB,qz,qc,qj,qf,aTk,cTk],fun _=>(by simp [AV.flat,AV.flatL,aI,aB]), ?_⟩
  have:=QhZ ((⟨(c0.map qo),c1,(c2.map dTk)⟩:Chart)) k0
  simp only [qM,qa,aI,qj,qb,← q0,← q1] at this
  first|exact this|(simp only [qM,qa,aI,qj,qb,← q0,← q1];exact this)
 ·exact h.elim
def xP:=vj @ty3 (vj @xh (vj @jG (vj @QX (vj @ym (vj @ti3.eq_1 (vj @vF.eq_1 (vj @jh.eq_1 (vj @Qc.eq_1 @jS.eq_1))))))))
def J3:=vj @aI.eq_1 (@aB.eq_1)
theorem Qef (c:Chart) (hc:c.cabins.length≤maxLen) (hs:c.sold.length≤100000):FnV Tryz.prog 82 [qa c] (aI (zY c)):=by
 have env:Env (fun _=>True) Tryz.prog tyB (tab [(119,qQ true YF),(112,qQ true xU)]):=qH ⟨ercar,Qjz,trivial⟩
 refine Fn.of (A:=fun _=>True) (n0:=0) (D:=noD) (Fn0 Tryz.func82 rfl (fun vs w=>by kernel_rfl) (by kernel_rfl)) (by simp) (by simp [AV.ids,AV.idsL,qa,qb]) (fun i o h=>by cases h) (fun _ _ _ _=>trivial) qF ?_
 have ec:(⟨c.cabins,c.secs,c.sold⟩:Chart)=c:=rfl
 rw [Qcz]
 obtain ⟨e,he⟩:∃ e,ZW c=e:=⟨_,rfl⟩
 by_cases h0:e=0
 ·have hok:=QiK (he.trans h0)
  rw [h0] at he
  rw [he,if_neg (by decide)]
  by_cases h8:8 < c.sold.length
  ·rw [if_pos h8]
   have d1:decide ((8:Int) < (c.sold.length:Int))=true:=decide_eq_true (by omega)
   repeat' (first|(apply nx;with_reducible constructor)|refine uq (by decide) ?_|((first|refine vx env fun Q hQ=>?_|refine vz fun Q hQ=>?_);simp only [vkt,seval,xP,J3,qa,qb,qj,mTk,qd,YF,xU,List.length_map,hc,ec,he,d1,decide_true];(try simp only [ite_and]);(repeat' (first|with_reducible assumption|refine And.intro ?_ ?_|intro hp));all_goals (first|(refine hQ _ ?_;clear hQ Q)|(refine hQ _ (fun h=>?_) (fun h=>?_) <;> clear hQ Q <;> (try simp only [vki,reduceCtorEq] at h))|(refine vq ?_;kernel_rfl)|omega|assumption|with_reducible rfl|skip)))
   (simp only [vrt,Tryz.results82,vkt,seval,xP,J3,qa,qb,qj,mTk,qd,YF,xU,List.length_map];refine Fin.val rfl ?_;(try simp only [AV.le,AV.leL]))
   all_goals first|rfl|(simp;done)
  ·rw [if_neg h8]
   have d1:decide ((8:Int) < (c.sold.length:Int))=false:=decide_eq_false (by omega)
   have h100:c.sold.length≤100:=by omega
   repeat' (first|(apply nx;with_reducible constructor)|refine uq (by decide) ?_|((first|refine vx env fun Q hQ=>?_|refine vz fun Q hQ=>?_);simp only [vkt,seval,xP,J3,qa,qb,qj,mTk,qd,YF,xU,List.length_map,hc,ec,he,d1,hok,h100,decide_true];(try simp only [ite_and]);(repeat' (first|with_reducible assumption|refine And.intro ?_ ?_|intro hp));all_goals (first|(refine hQ _ ?_;clear hQ Q)|(refine hQ _ (fun h=>?_) (fun h=>?_) <;> clear hQ Q <;> (try simp only [vki,reduceCtorEq] at h))|(refine vq ?_;kernel_rfl)|omega|assumption|with_reducible rfl|skip)))
   (simp only [vrt,Tryz.results82,vkt,seval,xP,J3,qa,qb,qj,mTk,qd,YF,xU,List.length_map];refine Fin.val rfl ?_;(try simp only [AV.le,AV.leL]))
   all_goals first|rfl|(simp;done)
 ·rw [he,if_pos h0]
  have d0:decide (e=0)=false:=decide_eq_false h0
  repeat' (first|(apply nx;with_reducible constructor)|refine uq (by decide) ?_|((first|refine vx env fun Q hQ=>?_|refine vz fun Q hQ=>?_);simp only [vkt,seval,xP,J3,qa,qb,qj,mTk,qd,YF,xU,List.length_map,hc,ec,he,d0];(try simp only [ite_and]);(repeat' (first|with_reducible assumption|refine And.intro ?_ ?_|intro hp));all_goals (first|(refine hQ _ ?_;clear hQ Q)|(refine hQ _ (fun h=>?_) (fun h=>?_) <;> clear hQ Q <;> (try simp only [vki,reduceCtorEq] at h))|(refine vq ?_;kernel_rfl)|omega|assumption|with_reducible rfl|skip)))
  (simp only [vrt,Tryz.results82,vkt,seval,xP,J3,qa,qb,qj,mTk,qd,YF,xU,List.length_map];refine Fin.val rfl ?_;(try simp only [AV.le,AV.leL]))
  all_goals first|rfl|(simp;done)
def jW:List AV→Prop × AV
 |[.agg [.sl c0,.v (.int .i64 c1),.sl c2]]=>(c0=(c0.map qo).map qg∧c2=(c2.map dTk).map eTk∧((⟨(c0.map qo),c1,(c2.map dTk)⟩:Chart)).cabins.length≤maxLen∧((⟨(c0.map qo),c1,(c2.map dTk)⟩:Chart)).sold.length≤100000,aI (zY ((⟨(c0.map qo),c1,(c2.map dTk)⟩:Chart))))
 |_=>(False,.junk)
theorem QdE {A:Frm→Prop}:qD A Tryz.prog 82 (qQ true jW):=qR fun vs hv h=>by
 clear hv
 unfold jW at h ⊢
 split at h
 ·rename_i c0 c1 c2;obtain ⟨q0,q1,k0,k1⟩:=h
  refine ⟨by first|trivial|(simp [AV.plain,AV.plainL,aI,aB,qz,qc,qj,qf,aTk,cTk];done)|(repeat' split) <;> simp [AV.plain,AV.plainL,aI,aB,qz,qc,qj,qf,aTk,cTk],fun _=>(by simp [AV.flat,AV.flatL,aI,aB]), ?_⟩
  have:=Qef ((⟨(c0.map qo),c1,(c2.map dTk)⟩:Chart)) k0 k1
  simp only [qM,qa,aI,qj,qb,← q0,← q1] at this
  first|exact this|(simp only [qM,qa,aI,qj,qb,← q0,← q1];exact this)
 ·exact h.elim
def VS:=vj @Jg (vj @xh (vj @jG (vj @ym (vj @Jh (vj @Z8.eq_1 (vj @vF.eq_1 (vj @jh.eq_1 (vj @jS.eq_1 @Wl.eq_1))))))))
def Qc3:=vj @aI.eq_1 (@aB.eq_1)
theorem Qgb (c:Chart) (h3:c.cabins.length≤100000) (h4:c.sold.length≤100000):FnV Tryz.prog 14 [qa c] (qa c):=by
 have env:Env (fun _=>True) Tryz.prog tyB (tab []):=qH trivial
 obtain ⟨b1,b2,b3,b5,b4⟩:=b47 h3
 obtain ⟨c1,c2,c3,c5,c4⟩:=b47 h4
 refine Fn.of (A:=fun _=>True) (n0:=0) (D:=noD) (Fn0 Tryz.func14 rfl (fun vs w=>by kernel_rfl) (by kernel_rfl)) (by simp) (by simp [AV.ids,AV.idsL,qa,qb]) (fun i o h=>by cases h) (fun _ _ _ _=>trivial) qF ?_
 repeat' (first|(apply nx;with_reducible constructor)|refine uq (by decide) ?_|((first|refine vx env fun Q hQ=>?_|refine vz fun Q hQ=>?_);simp only [vkt,seval,VS,Qc3,qa,qb,rTk,qW,mTk,qd,List.nil_append,List.length_map,b4,c4];(try simp only [ite_and]);(repeat' (first|with_reducible assumption|refine And.intro ?_ ?_|intro hp));all_goals (first|(refine hQ _ ?_;clear hQ Q)|(refine hQ _ (fun h=>?_) (fun h=>?_) <;> clear hQ Q <;> (try simp only [vki,reduceCtorEq] at h))|(refine vq ?_;kernel_rfl)|omega|assumption|with_reducible rfl|skip)))
 (simp only [vrt,Tryz.results14,vkt,seval,VS,Qc3,qa,qb,rTk,qW,mTk,qd,List.nil_append,List.length_map];refine Fin.val rfl ?_;(try simp only [AV.le,AV.leL]))
 all_goals first|rfl|(simp;done)|exact ⟨⟨_,_,rfl⟩,trivial,⟨_,_,rfl⟩,trivial⟩
def jM:List AV→Prop × AV
 |[.agg [.sl c0,.v (.int .i64 c1),.sl c2]]=>(c0=(c0.map qo).map qg∧c2=(c2.map dTk).map eTk∧((⟨(c0.map qo),c1,(c2.map dTk)⟩:Chart)).cabins.length≤100000∧((⟨(c0.map qo),c1,(c2.map dTk)⟩:Chart)).sold.length≤100000,qa ((⟨(c0.map qo),c1,(c2.map dTk)⟩:Chart)))
 |_=>(False,.junk)
theorem Qku {A:Frm→Prop}:qD A Tryz.prog 14 (qQ false jM):=qR fun vs hv h=>by
 clear hv
 unfold jM at h ⊢
 split at h
 ·rename_i c0 c1 c2;obtain ⟨q0,q1,k0,k1⟩:=h
  refine ⟨by first|trivial|(simp [AV.plain,AV.plainL,aI,aB,qz,qc,qj,qf,aTk,cTk];done)|(repeat' split) <;> simp [AV.plain,AV.plainL,aI,aB,qz,qc,qj,qf,aTk,cTk],fun h=>absurd h (by decide), ?_⟩
  have:=Qgb ((⟨(c0.map qo),c1,(c2.map dTk)⟩:Chart)) k0 k1
  simp only [qM,qa,aI,qj,qb,← q0,← q1] at this
  first|exact this|(simp only [qM,qa,aI,qj,qb,← q0,← q1];exact this)
 ·exact h.elim
def WV:=vj @Jg (vj @xh (vj @jG (vj @ym (vj @Jh (vj @Z8.eq_1 (vj @vF.eq_1 (vj @jh.eq_1 (vj @jS.eq_1 @Wl.eq_1))))))))
def U9:=vj @aI.eq_1 (@aB.eq_1)
theorem Qes (cs ts:List (List DV)) (s:Int) (h1:zJ 2 cs) (h2:zJ 7 ts) (h3:cs.length≤100000) (h4:ts.length≤100000):Fn noB Tryz.prog 90 [.agg [.sl cs,.v (.int .i64 s),.sl ts]] noH (.agg [.row 0,.v (.int .i64 s),.row 1]) (ql [(0,.row 89 2 cs),(1,.row 64 7 ts)]) 0:=by
 have env:Env (fun _=>True) Tryz.prog tyB (tab []):=qH trivial
 obtain ⟨b1,b2,b3,b5,b4⟩:=b47 h3
 obtain ⟨c1,c2,c3,c5,c4⟩:=b47 h4
 refine Fn.of (A:=fun _=>True) (n0:=0) (D:=noD) (Fn0 Tryz.func90 rfl (fun vs w=>by kernel_rfl) (by kernel_rfl)) (by simp) (by simp [AV.ids,AV.idsL]) (fun i o h=>by cases h) (fun _ _ _ _=>trivial) qF ?_
 repeat' (first|(apply nx;with_reducible constructor)|refine uq (by decide) ?_|((first|refine vx env fun Q hQ=>?_|refine vz fun Q hQ=>?_);simp only [vkt,seval,WV,U9,qa,qb,rTk,qW,List.nil_append,h1,h2];(try simp only [ite_and]);(repeat' (first|with_reducible assumption|refine And.intro ?_ ?_|intro hp));all_goals (first|(refine hQ _ ?_;clear hQ Q)|(refine hQ _ (fun h=>?_) (fun h=>?_) <;> clear hQ Q <;> (try simp only [vki,reduceCtorEq] at h))|(refine vq ?_;kernel_rfl)|omega|assumption|with_reducible rfl|skip)))
 (simp only [vrt,Tryz.results90,vkt,seval,WV,U9,qa,qb,rTk,qW,List.nil_append];refine Fin.ok (fun j=>[2,3][j]?) [] ?_ ?_ ?_ ?_ ?_ rfl;all_goals (try simp only [vle,vkt,seval,WV,U9,qa,qb,rTk,qW,List.nil_append]))
 all_goals first|rfl|(simp;done)
def yI (_:St):List AV→Option Pk
 |[.agg [.sl cs,.v (.int .i64 s),.sl ts]]=>some { pre:=zJ 2 cs∧zJ 7 ts∧cs.length≤100000∧ts.length≤100000,ar:=[.agg [.sl cs,.v (.int .i64 s),.sl ts]],v:=.agg [.row 0,.v (.int .i64 s),.row 1],L1:=[some (.row 89 2 cs),some (.row 64 7 ts)] }
 |_=>none
theorem Qde {A:Frm→Prop}:qD A Tryz.prog 90 (fnE yI):=zW fun S bs q h hp=>by
 unfold yI at h
 split at h
 ·cases h;exact Qes _ _ _ hp.1 hp.2.1 hp.2.2.1 hp.2.2.2
 ·cases h
def VN:=vj @xh (vj @jG (vj @ym (vj @vF.eq_1 (vj @jh.eq_1 @jS.eq_1))))
def QdO:=vj @aI.eq_1 (@aB.eq_1)
theorem QfJ (c:Chart) (l:List Tk) (h1:c.cabins.length≤100000) (h2:c.sold.length≤1000) (h3:l.length≤1000):FnV Tryz.prog 60 [qa c,qj l] (qa ⟨c.cabins,c.secs,c.sold++l⟩):=by
 have env:Env (fun _=>True) Tryz.prog tyB (tab [(90,fnE yI)]):=qH ⟨Qde,trivial⟩
 refine Fn.of (A:=fun _=>True) (n0:=0) (D:=noD) (Fn0 Tryz.func60 rfl (fun vs w=>by kernel_rfl) (by kernel_rfl)) (by simp) (by simp [AV.ids,AV.idsL,qa,qb,qj]) (fun i o h=>by cases h) (fun _ _ _ _=>trivial) qF ?_
 have hmx:(100000:Nat)≤maxLen:=by decide
 have h4:c.sold.length≤100000:=by omega
 have h5:c.sold.length+l.length≤maxLen:=by omega
 have hA:qa ⟨c.cabins,c.secs,c.sold++l⟩=.agg [.sl (c.cabins.map qg),.v (.int .i64 c.secs),.sl (c.sold.map eTk++l.map eTk)]:=by
  unfold qa qb
  rw [List.map_append]
 rw [hA]
 repeat' (first|(apply nx;with_reducible constructor)|refine uq (by decide) ?_|((first|refine vx env fun Q hQ=>?_|refine vz fun Q hQ=>?_);simp only [vkt,seval,VN,QdO,qa,qb,qj,rTk,qW,mTk,qd,yI,List.length_map,h1,h4,h5];(try simp only [ite_and]);(repeat' (first|with_reducible assumption|refine And.intro ?_ ?_|intro hp));all_goals (first|(refine hQ _ ?_;clear hQ Q)|(refine hQ _ (fun h=>?_) (fun h=>?_) <;> clear hQ Q <;> (try simp only [vki,reduceCtorEq] at h))|(refine vq ?_;kernel_rfl)|omega|assumption|with_reducible rfl|skip)))
 (simp only [vrt,Tryz.results60,vkt,seval,VN,QdO,qa,qb,qj,rTk,qW,mTk,qd,yI,List.length_map];refine Fin.val rfl ?_;(try simp only [AV.le,AV.leL]))
 all_goals first|rfl|(simp;done)|exact ⟨⟨_,_,rfl⟩,trivial,⟨_,_,rfl⟩,trivial⟩
def yK:List AV→Prop × AV
 |[.agg [.sl c0,.v (.int .i64 c1),.sl c2],.sl l]=>(c0=(c0.map qo).map qg∧c2=(c2.map dTk).map eTk∧l=(l.map dTk).map eTk∧((⟨(c0.map qo),c1,(c2.map dTk)⟩:Chart)).cabins.length≤100000∧((⟨(c0.map qo),c1,(c2.map dTk)⟩:Chart)).sold.length≤1000∧(l.map dTk).length≤1000,qa ⟨((⟨(c0.map qo),c1,(c2.map dTk)⟩:Chart)).cabins,((⟨(c0.map qo),c1,(c2.map dTk)⟩:Chart)).secs,((⟨(c0.map qo),c1,(c2.map dTk)⟩:Chart)).sold++(l.map dTk)⟩)
 |_=>(False,.junk)
theorem QhJ {A:Frm→Prop}:qD A Tryz.prog 60 (qQ false yK):=qR fun vs hv h=>by
 clear hv
 unfold yK at h ⊢
 split at h
 ·rename_i c0 c1 c2 l;obtain ⟨q0,q1,q2,k0,k1,k2⟩:=h
  refine ⟨by first|trivial|(simp [AV.plain,AV.plainL,aI,aB,qz,qc,qj,qf,aTk,cTk];done)|(repeat' split) <;> simp [AV.plain,AV.plainL,aI,aB,qz,qc,qj,qf,aTk,cTk],fun h=>absurd h (by decide), ?_⟩
  have:=QfJ ((⟨(c0.map qo),c1,(c2.map dTk)⟩:Chart)) (l.map dTk) k0 k1 k2
  simp only [qM,qa,aI,qj,qb,← q0,← q1,← q2] at this
  first|exact this|(simp only [qM,qa,aI,qj,qb,← q0,← q1,← q2];exact this)
 ·exact h.elim
def VM:=vj @ty3 (vj @QV (vj @ti3.eq_1 @Qn.eq_1))
def Qc6:=vj @aI.eq_1 (vj @aB.eq_1 (vj @qz.eq_1 (@Qas)))
theorem Qfq (l:List Int) (h:l.length≤100000):FnV Tryz.prog 49 [qz l] (qz l):=by
 have env:Env (fun _=>True) Tryz.prog tyB (tab []):=qH trivial
 refine Fn.of (A:=fun _=>True) (n0:=0) (D:=noD) (Fn0 Tryz.func49 rfl (fun vs w=>by kernel_rfl) (by kernel_rfl)) (by simp) (by simp [AV.ids,qz]) (fun i o h=>by cases h) (fun _ _ _ _=>trivial) qF ?_
 have hmx:(100000:Nat)≤maxLen:=by decide
 have h5:l.length≤maxLen:=by omega
 repeat' (first|(apply nx;with_reducible constructor)|refine uq (by decide) ?_|((first|refine vx env fun Q hQ=>?_|refine vz fun Q hQ=>?_);simp only [vkt,seval,VM,Qc6,List.nil_append,List.length_map,h,h5];(try simp only [ite_and]);(repeat' (first|with_reducible assumption|refine And.intro ?_ ?_|intro hp));all_goals (first|(refine hQ _ ?_;clear hQ Q)|(refine hQ _ (fun h=>?_) (fun h=>?_) <;> clear hQ Q <;> (try simp only [vki,reduceCtorEq] at h))|(refine vq ?_;kernel_rfl)|omega|assumption|with_reducible rfl|skip)))
 (simp only [vrt,Tryz.results49,vkt,seval,VM,Qc6,List.nil_append,List.length_map];refine Fin.val rfl ?_;(try simp only [AV.le,AV.leL]))
 all_goals first|rfl|(simp;done)|exact ⟨_,_,rfl⟩
def XR:List AV→Prop × AV
 |[.sl l]=>(l=(l.map za).map zD∧(l.map za).length≤100000,qz (l.map za))
 |_=>(False,.junk)
theorem Qkn {A:Frm→Prop}:qD A Tryz.prog 49 (qQ false XR):=qR fun vs hv h=>by
 clear hv
 unfold XR at h ⊢
 split at h
 ·rename_i l;obtain ⟨q0,k0⟩:=h
  refine ⟨by first|trivial|(simp [AV.plain,AV.plainL,aI,aB,qz,qc,qj,qf,aTk,cTk];done)|(repeat' split) <;> simp [AV.plain,AV.plainL,aI,aB,qz,qc,qj,qf,aTk,cTk],fun h=>absurd h (by decide), ?_⟩
  have:=Qfq (l.map za) k0
  simp only [qz,← q0] at this
  first|exact this|(simp only [qz,← q0];exact this)
 ·exact h.elim
def VO:=vj @ty3 (vj @QV (vj @QF (vj @ti3.eq_1 (vj @Qn.eq_1 @kY.eq_1))))
def Qdp:=vj @aI.eq_1 (vj @aB.eq_1 (vj @qz.eq_1 (@Q4)))
theorem QfU (a:Ask) (h:a.sexes.length≤100000):FnV Tryz.prog 15 [qx a] (qx a):=by
 have env:Env (fun _=>True) Tryz.prog tyB (tab [(49,qQ false XR)]):=qH ⟨Qkn,trivial⟩
 refine Fn.of (A:=fun _=>True) (n0:=0) (D:=noD) (Fn0 Tryz.func15 rfl (fun vs w=>by kernel_rfl) (by kernel_rfl)) (by simp) (by simp [AV.ids,AV.idsL,qx,qh]) (fun i o h=>by cases h) (fun _ _ _ _=>trivial) qF ?_
 repeat' (first|(apply nx;with_reducible constructor)|refine uq (by decide) ?_|((first|refine vx env fun Q hQ=>?_|refine vz fun Q hQ=>?_);simp only [vkt,seval,VO,Qdp,qx,qh,XR,List.length_map,h];(try simp only [ite_and]);(repeat' (first|with_reducible assumption|refine And.intro ?_ ?_|intro hp));all_goals (first|(refine hQ _ ?_;clear hQ Q)|(refine hQ _ (fun h=>?_) (fun h=>?_) <;> clear hQ Q <;> (try simp only [vki,reduceCtorEq] at h))|(refine vq ?_;kernel_rfl)|omega|assumption|with_reducible rfl|skip)))
 (simp only [vrt,Tryz.results15,vkt,seval,VO,Qdp,qx,qh,XR,List.length_map];refine Fin.val rfl ?_;(try simp only [AV.le,AV.leL]))
 all_goals first|rfl|(simp;done)|exact ⟨_,_,rfl⟩
def jR:List AV→Prop × AV
 |[.agg [.v (.int .i64 a0),.v (.int .i64 a1),.v (.int .i64 a2),.sl a3,.v (.bool a4)]]=>(a3=(a3.map za).map zD∧((⟨a0,a1,a2,(a3.map za),a4⟩:Ask)).sexes.length≤100000,qx ((⟨a0,a1,a2,(a3.map za),a4⟩:Ask)))
 |_=>(False,.junk)
theorem Qko {A:Frm→Prop}:qD A Tryz.prog 15 (qQ false jR):=qR fun vs hv h=>by
 clear hv
 unfold jR at h ⊢
 split at h
 ·rename_i a0 a1 a2 a3 a4;obtain ⟨q0,k0⟩:=h
  refine ⟨by first|trivial|(simp [AV.plain,AV.plainL,aI,aB,qz,qc,qj,qf,aTk,cTk];done)|(repeat' split) <;> simp [AV.plain,AV.plainL,aI,aB,qz,qc,qj,qf,aTk,cTk],fun h=>absurd h (by decide), ?_⟩
  have:=QfU ((⟨a0,a1,a2,(a3.map za),a4⟩:Ask)) k0
  simp only [qx,aB,aI,qz,qh,← q0] at this
  first|exact this|(simp only [qx,aB,aI,qz,qh,← q0];exact this)
 ·exact h.elim
def Z0:=vj @ty3 (vj @Jg (vj @xh (vj @jG (vj @ym (vj @Jh (vj @ti3.eq_1 (vj @Z8.eq_1 (vj @vF.eq_1 (vj @jh.eq_1 (vj @jS.eq_1 @Wl.eq_1))))))))))
def Xb:=vj @aI.eq_1 (@aB.eq_1)
theorem QfR (c:Chart):FnV Tryz.prog 8 [qa c] (aB (decide (20 < (c.cabins.length:Int)) || decide (20 < (c.sold.length:Int)))):=by
 have env:Env (fun _=>True) Tryz.prog tyB (tab []):=qH trivial
 refine Fn.of (A:=fun _=>True) (n0:=0) (D:=noD) (Fn0 Tryz.func8 rfl (fun vs w=>by kernel_rfl) (by kernel_rfl)) (by simp) (by simp [AV.ids,AV.idsL,qa,qb]) (fun i o h=>by cases h) (fun _ _ _ _=>trivial) qF ?_
 cases q:decide (20 < (c.cabins.length:Int)) with
 |true =>
  repeat' (first|(apply nx;with_reducible constructor)|refine uq (by decide) ?_|((first|refine vx env fun Q hQ=>?_|refine vz fun Q hQ=>?_);simp only [vkt,seval,Z0,Xb,qa,qb,List.length_map,q];(try simp only [ite_and]);(repeat' (first|with_reducible assumption|refine And.intro ?_ ?_|intro hp));all_goals (first|(refine hQ _ ?_;clear hQ Q)|(refine hQ _ (fun h=>?_) (fun h=>?_) <;> clear hQ Q <;> (try simp only [vki,reduceCtorEq] at h))|(refine vq ?_;kernel_rfl)|omega|assumption|with_reducible rfl|skip)))
  (simp only [vrt,Tryz.results8,vkt,seval,Z0,Xb,qa,qb,List.length_map];refine Fin.val rfl ?_;(try simp only [AV.le,AV.leL]))
  all_goals first|rfl|(simp;done)
 |false =>
  repeat' (first|(apply nx;with_reducible constructor)|refine uq (by decide) ?_|((first|refine vx env fun Q hQ=>?_|refine vz fun Q hQ=>?_);simp only [vkt,seval,Z0,Xb,qa,qb,List.length_map,q];(try simp only [ite_and]);(repeat' (first|with_reducible assumption|refine And.intro ?_ ?_|intro hp));all_goals (first|(refine hQ _ ?_;clear hQ Q)|(refine hQ _ (fun h=>?_) (fun h=>?_) <;> clear hQ Q <;> (try simp only [vki,reduceCtorEq] at h))|(refine vq ?_;kernel_rfl)|omega|assumption|with_reducible rfl|skip)))
  (simp only [vrt,Tryz.results8,vkt,seval,Z0,Xb,qa,qb,List.length_map];refine Fin.val rfl ?_;(try simp only [AV.le,AV.leL]))
  all_goals first|rfl|(simp;done)
def jK:List AV→Prop × AV
 |[.agg [.sl c0,.v (.int .i64 c1),.sl c2]]=>(c0=(c0.map qo).map qg∧c2=(c2.map dTk).map eTk,aB (decide (20 < ((((⟨(c0.map qo),c1,(c2.map dTk)⟩:Chart)).cabins.length:Nat):Int)) || decide (20 < ((((⟨(c0.map qo),c1,(c2.map dTk)⟩:Chart)).sold.length:Nat):Int))))
 |_=>(False,.junk)
theorem QjV {A:Frm→Prop}:qD A Tryz.prog 8 (qQ true jK):=qR fun vs hv h=>by
 clear hv
 unfold jK at h ⊢
 split at h
 ·rename_i c0 c1 c2;obtain ⟨q0,q1⟩:=h
  refine ⟨by first|trivial|(simp [AV.plain,AV.plainL,aI,aB,qz,qc,qj,qf,aTk,cTk];done)|(repeat' split) <;> simp [AV.plain,AV.plainL,aI,aB,qz,qc,qj,qf,aTk,cTk],fun _=>(by simp [AV.flat,AV.flatL,aI,aB]), ?_⟩
  have:=QfR ((⟨(c0.map qo),c1,(c2.map dTk)⟩:Chart))
  simp only [qM,qa,aI,qj,qb,← q0,← q1] at this
  first|exact this|(simp only [qM,qa,aI,qj,qb,← q0,← q1];exact this)
 ·exact h.elim
def rrS (c:Chart) (n i:Nat) (T:List (Nat × AV)):St:={ t:=asg (T++[(1,.ptr 0 0),(3,aI n),(4,aI i)]),h:=ql [(0,.cells (qb c))],n:=1 }
def zL:=vj @ty3 (vj @Jg (vj @jG (vj @xA (vj @Jh (vj @ti3.eq_1 (vj @Z8.eq_1 (vj @jh.eq_1 (vj @vN.eq_1 @Wl.eq_1))))))))
def yH:=vj @aI.eq_1 (@aB.eq_1)
theorem QhL (c:Chart) (hv:Van c) (hsm:YW c.sold):FnV Tryz.prog 59 [qa c] (aI (xy c.cabins c.secs c.sold)):=by
 have env:Env (fun _=>True) Tryz.prog tyB (tab [(108,qQ true x8)]):=qH ⟨eheld,trivial⟩
 refine Fn.of (A:=fun _=>True) (n0:=0) (D:=noD) (Fn0 Tryz.func59 rfl (fun vs w=>by kernel_rfl) (by kernel_rfl)) (by simp) (by simp [AV.ids,AV.idsL,qa,qb]) (fun i o h=>by cases h) (fun _ _ _ _=>trivial) qF ?_
 have ec:(⟨c.cabins,c.secs,c.sold⟩:Chart)=c:=rfl
 rw [← QiT hv]
 have hsec:=hv.car.secs
 have hcab:=hv.car.cabs
 have hbds:=hv.car.beds
 have b3:=hv.many
 repeat' (first|(apply nx;with_reducible constructor)|refine uq (by decide) ?_|((first|refine vx env fun Q hQ=>?_|refine vz fun Q hQ=>?_);simp only [vkt,seval,zL,yH,qf,qg,qA,qa,qb,mTk,qd,rrS,x8,List.length_map];(try simp only [ite_and]);(repeat' (first|with_reducible assumption|refine And.intro ?_ ?_|intro hp));all_goals (first|(refine hQ _ ?_;clear hQ Q)|(refine hQ _ (fun h=>?_) (fun h=>?_) <;> clear hQ Q <;> (try simp only [vki,reduceCtorEq] at h))|(refine vq ?_;kernel_rfl)|omega|assumption|with_reducible rfl|skip)))
 refine qO (fun i:{ i:Nat // i≤c.cabins.length }=>rrS c (rrN c i.1) i.1 []) (fun i=>c.cabins.length - i.1) ⟨0,Nat.zero_le _⟩ ?_ fun ⟨i,hi⟩=>?_
 ·simp only [rrS,show rrN c 0=0 from rfl,List.cons_append,List.nil_append]
  (refine Le.ok some [] ?_;constructor;all_goals (try simp only [vle,vkt,seval,zL,yH,qf,qg,qA,qa,qb,mTk,qd,rrS,x8,List.length_map]))
  all_goals first|rfl|(simp;done)
 simp only at hi ⊢
 have hbd:=rr_bd hv i (by omega)
 have hS:rrN c (i+1)=rrN c i+We (fun s=>emR c i s) c.secs.toNat:=rfl
 obtain ⟨R,hR⟩:∃ R,rrN c i=R:=⟨_,rfl⟩
 rw [hR] at hbd hS
 simp only [rrS,hR,List.nil_append]
 by_cases hil:i < c.cabins.length
 ·have d1:decide ((i:Int) < (c.cabins.length:Int))=true:=decide_eq_true (by omega)
  have e9:IntKind.wrap .i64 ((i:Int)+1)=((i+1:Nat):Int):=by rw [wrap64 (by omega) (by omega)];rfl
  have i0:((i:Int)).toNat=i:=rfl
  obtain ⟨x,hx⟩:∃ x,c.cabins.getD i default=x:=⟨_,rfl⟩
  have hxb:=hbds x (by rw [← hx];exact ve hil)
  repeat' (first|(apply nx;with_reducible constructor)|refine uq (by decide) ?_|((first|refine vx env fun Q hQ=>?_|refine vz fun Q hQ=>?_);simp only [vkt,seval,zL,yH,qf,qg,qA,qa,qb,mTk,qd,rrS,x8,List.length_map,d1];(try simp only [ite_and]);(repeat' (first|with_reducible assumption|refine And.intro ?_ ?_|intro hp));all_goals (first|(refine hQ _ ?_;clear hQ Q)|(refine hQ _ (fun h=>?_) (fun h=>?_) <;> clear hQ Q <;> (try simp only [vki,reduceCtorEq] at h))|(refine vq ?_;kernel_rfl)|omega|assumption|with_reducible rfl|skip)))
  refine qO (fun s:{ s:Nat // s≤c.secs.toNat }=>rrS c (R+We (fun s=>emR c i s) s.1) i [(5,aI s.1)]) (fun s=>c.secs.toNat - s.1) ⟨0,Nat.zero_le _⟩ ?_ fun ⟨s,hs⟩=>?_
  ·simp only [rrS,show We (fun s=>emR c i s) 0=0 from rfl,Nat.add_zero,List.cons_append,List.nil_append]
   (refine Le.ok some [] ?_;constructor;all_goals (try simp only [vle,vkt,seval,zL,yH,qf,qg,qA,qa,qb,mTk,qd,rrS,x8,List.length_map]))
   all_goals first|rfl|(simp;done)
  simp only at hs ⊢
  have hCl:=QcT (fun s=>emR c i s) s
  have hC:=Y8 (fun s=>emR c i s) s
  obtain ⟨Q,hQ⟩:∃ Q,We (fun s=>emR c i s) s=Q:=⟨_,rfl⟩
  rw [hQ] at hCl hC
  simp only [rrS,hQ,List.cons_append,List.nil_append]
  obtain ⟨N,hN⟩:∃ N,R+Q=N:=⟨_,rfl⟩
  simp only [hN]
  by_cases hsl:s < c.secs.toNat
  ·have d2:decide ((s:Int) < c.secs)=true:=decide_eq_true (by omega)
   have e8:IntKind.wrap .i64 ((s:Int)+1)=((s+1:Nat):Int):=by rw [wrap64 (by omega) (by omega)];rfl
   have w1:IntKind.wrap .i64 ((N:Int)+1)=((N+1:Nat):Int):=by rw [wrap64 (by omega) (by omega)];rfl
   have hER:emR c i s=emH c s i x.beds.toNat:=by unfold emR;rw [hx]
   repeat' (first|(apply nx;with_reducible constructor)|refine uq (by decide) ?_|((first|refine vx env fun Q hQ=>?_|refine vz fun Q hQ=>?_);simp only [vkt,seval,zL,yH,qf,qg,qA,qa,qb,mTk,qd,rrS,x8,List.length_map,d2];(try simp only [ite_and]);(repeat' (first|with_reducible assumption|refine And.intro ?_ ?_|intro hp));all_goals (first|(refine hQ _ ?_;clear hQ Q)|(refine hQ _ (fun h=>?_) (fun h=>?_) <;> clear hQ Q <;> (try simp only [vki,reduceCtorEq] at h))|(refine vq ?_;kernel_rfl)|omega|assumption|with_reducible rfl|skip)))
   refine qO (fun k:{ k:Nat // k≤x.beds.toNat }=>rrS c N i [(5,aI s),(6,aB (emH c s i k.1)),(7,aI k.1)]) (fun k=>x.beds.toNat - k.1) ⟨0,Nat.zero_le _⟩ ?_ fun ⟨k,hk⟩=>?_
   ·simp only [rrS,show emH c s i 0=true from rfl,List.cons_append,List.nil_append]
    (refine Le.ok some [] ?_;constructor;all_goals (try simp only [vle,vkt,seval,zL,yH,qf,qg,qA,qa,qb,mTk,qd,rrS,x8,List.length_map]))
    all_goals first|rfl|(simp;done)
   simp only at hk ⊢
   have hSk:=Qhn c s i k
   obtain ⟨em,hem⟩:∃ em,emH c s i k=em:=⟨_,rfl⟩
   rw [hem] at hSk
   simp only [rrS,hem,List.cons_append,List.nil_append]
   by_cases hkl:k < x.beds.toNat
   ·have d3:decide ((k:Int) < x.beds)=true:=decide_eq_true (by omega)
    have e7:IntKind.wrap .i64 ((k:Int)+1)=((k+1:Nat):Int):=by rw [wrap64 (by omega) (by omega)];rfl
    cases em with
    |true =>
     rw [Bool.true_and] at hSk
     obtain ⟨hh,hhe⟩:∃ hh,Jb c.sold ⟨(i:Int),(k:Int)⟩ s=hh:=⟨_,rfl⟩
     rw [hhe] at hSk
     repeat' (first|(apply nx;with_reducible constructor)|refine uq (by decide) ?_|((first|refine vx env fun Q hQ=>?_|refine vz fun Q hQ=>?_);simp only [vkt,seval,zL,yH,qf,qg,qA,qa,qb,mTk,qd,rrS,x8,List.length_map,d3,i0,hil,hx,ec,b3,hsm,hhe,e7];(try simp only [ite_and]);(repeat' (first|with_reducible assumption|refine And.intro ?_ ?_|intro hp));all_goals (first|(refine hQ _ ?_;clear hQ Q)|(refine hQ _ (fun h=>?_) (fun h=>?_) <;> clear hQ Q <;> (try simp only [vki,reduceCtorEq] at h))|(refine vq ?_;kernel_rfl)|omega|assumption|with_reducible rfl|skip)))
     refine ⟨⟨k+1,hkl⟩,by show x.beds.toNat - (k+1) < x.beds.toNat - k;omega, ?_⟩
     simp only [rrS,hSk,List.cons_append,List.nil_append]
     (refine Le.ok some [] ?_;constructor;all_goals (try simp only [vle,vkt,seval,zL,yH,qf,qg,qA,qa,qb,mTk,qd,rrS,x8,List.length_map]))
     all_goals first|rfl|(simp;done)
    |false =>
     rw [Bool.false_and] at hSk
     repeat' (first|(apply nx;with_reducible constructor)|refine uq (by decide) ?_|((first|refine vx env fun Q hQ=>?_|refine vz fun Q hQ=>?_);simp only [vkt,seval,zL,yH,qf,qg,qA,qa,qb,mTk,qd,rrS,x8,List.length_map,d3,i0,hil,hx,e7];(try simp only [ite_and]);(repeat' (first|with_reducible assumption|refine And.intro ?_ ?_|intro hp));all_goals (first|(refine hQ _ ?_;clear hQ Q)|(refine hQ _ (fun h=>?_) (fun h=>?_) <;> clear hQ Q <;> (try simp only [vki,reduceCtorEq] at h))|(refine vq ?_;kernel_rfl)|omega|assumption|with_reducible rfl|skip)))
     refine ⟨⟨k+1,hkl⟩,by show x.beds.toNat - (k+1) < x.beds.toNat - k;omega, ?_⟩
     simp only [rrS,hSk,List.cons_append,List.nil_append]
     (refine Le.ok some [] ?_;constructor;all_goals (try simp only [vle,vkt,seval,zL,yH,qf,qg,qA,qa,qb,mTk,qd,rrS,x8,List.length_map]))
     all_goals first|rfl|(simp;done)
   ·have d3:decide ((k:Int) < x.beds)=false:=decide_eq_false (by omega)
    obtain rfl:k=x.beds.toNat:=by omega
    rw [hem] at hER
    cases em with
    |true =>
     rw [hER,if_pos rfl] at hC
     repeat' (first|(apply nx;with_reducible constructor)|refine uq (by decide) ?_|((first|refine vx env fun Q hQ=>?_|refine vz fun Q hQ=>?_);simp only [vkt,seval,zL,yH,qf,qg,qA,qa,qb,mTk,qd,rrS,x8,List.length_map,d3,i0,hil,hx,e8,w1];(try simp only [ite_and]);(repeat' (first|with_reducible assumption|refine And.intro ?_ ?_|intro hp));all_goals (first|(refine hQ _ ?_;clear hQ Q)|(refine hQ _ (fun h=>?_) (fun h=>?_) <;> clear hQ Q <;> (try simp only [vki,reduceCtorEq] at h))|(refine vq ?_;kernel_rfl)|omega|assumption|with_reducible rfl|skip)))
     refine ⟨⟨s+1,hsl⟩,by show c.secs.toNat - (s+1) < c.secs.toNat - s;omega, ?_⟩
     simp only [rrS,hC,← Nat.add_assoc,hN,List.cons_append,List.nil_append]
     (refine Le.ok some [] ?_;constructor;all_goals (try simp only [vle,vkt,seval,zL,yH,qf,qg,qA,qa,qb,mTk,qd,rrS,x8,List.length_map]))
     all_goals first|rfl|(simp;done)
    |false =>
     have hC:We (fun s=>emR c i s) (s+1)=Q:=by rw [hC,hER];rfl
     repeat' (first|(apply nx;with_reducible constructor)|refine uq (by decide) ?_|((first|refine vx env fun Q hQ=>?_|refine vz fun Q hQ=>?_);simp only [vkt,seval,zL,yH,qf,qg,qA,qa,qb,mTk,qd,rrS,x8,List.length_map,d3,i0,hil,hx,e8];(try simp only [ite_and]);(repeat' (first|with_reducible assumption|refine And.intro ?_ ?_|intro hp));all_goals (first|(refine hQ _ ?_;clear hQ Q)|(refine hQ _ (fun h=>?_) (fun h=>?_) <;> clear hQ Q <;> (try simp only [vki,reduceCtorEq] at h))|(refine vq ?_;kernel_rfl)|omega|assumption|with_reducible rfl|skip)))
     refine ⟨⟨s+1,hsl⟩,by show c.secs.toNat - (s+1) < c.secs.toNat - s;omega, ?_⟩
     simp only [rrS,hC,hN,List.cons_append,List.nil_append]
     (refine Le.ok some [] ?_;constructor;all_goals (try simp only [vle,vkt,seval,zL,yH,qf,qg,qA,qa,qb,mTk,qd,rrS,x8,List.length_map]))
     all_goals first|rfl|(simp;done)
  ·have d2:decide ((s:Int) < c.secs)=false:=decide_eq_false (by omega)
   obtain rfl:s=c.secs.toNat:=by omega
   rw [hQ,hN] at hS
   repeat' (first|(apply nx;with_reducible constructor)|refine uq (by decide) ?_|((first|refine vx env fun Q hQ=>?_|refine vz fun Q hQ=>?_);simp only [vkt,seval,zL,yH,qf,qg,qA,qa,qb,mTk,qd,rrS,x8,List.length_map,d2,e9];(try simp only [ite_and]);(repeat' (first|with_reducible assumption|refine And.intro ?_ ?_|intro hp));all_goals (first|(refine hQ _ ?_;clear hQ Q)|(refine hQ _ (fun h=>?_) (fun h=>?_) <;> clear hQ Q <;> (try simp only [vki,reduceCtorEq] at h))|(refine vq ?_;kernel_rfl)|omega|assumption|with_reducible rfl|skip)))
   refine ⟨⟨i+1,hil⟩,by show c.cabins.length - (i+1) < c.cabins.length - i;omega, ?_⟩
   simp only [rrS,hS,List.cons_append,List.nil_append]
   (refine Le.ok some [] ?_;constructor;all_goals (try simp only [vle,vkt,seval,zL,yH,qf,qg,qA,qa,qb,mTk,qd,rrS,x8,List.length_map]))
   all_goals first|rfl|(simp;done)
 ·have d1:decide ((i:Int) < (c.cabins.length:Int))=false:=decide_eq_false (by omega)
  obtain rfl:i=c.cabins.length:=by omega
  rw [hR]
  repeat' (first|(apply nx;with_reducible constructor)|refine uq (by decide) ?_|((first|refine vx env fun Q hQ=>?_|refine vz fun Q hQ=>?_);simp only [vkt,seval,zL,yH,qf,qg,qA,qa,qb,mTk,qd,rrS,x8,List.length_map,d1];(try simp only [ite_and]);(repeat' (first|with_reducible assumption|refine And.intro ?_ ?_|intro hp));all_goals (first|(refine hQ _ ?_;clear hQ Q)|(refine hQ _ (fun h=>?_) (fun h=>?_) <;> clear hQ Q <;> (try simp only [vki,reduceCtorEq] at h))|(refine vq ?_;kernel_rfl)|omega|assumption|with_reducible rfl|skip)))
  (simp only [vrt,Tryz.results59,vkt,seval,zL,yH,qf,qg,qA,qa,qb,mTk,qd,rrS,x8,List.length_map];refine Fin.val rfl ?_;(try simp only [AV.le,AV.leL]))
  all_goals first|rfl|(simp;done)
def kG:List AV→Prop × AV
 |[.agg [.sl c0,.v (.int .i64 c1),.sl c2]]=>(c0=(c0.map qo).map qg∧c2=(c2.map dTk).map eTk∧Van ((⟨(c0.map qo),c1,(c2.map dTk)⟩:Chart))∧YW ((⟨(c0.map qo),c1,(c2.map dTk)⟩:Chart)).sold,aI (xy ((⟨(c0.map qo),c1,(c2.map dTk)⟩:Chart)).cabins ((⟨(c0.map qo),c1,(c2.map dTk)⟩:Chart)).secs ((⟨(c0.map qo),c1,(c2.map dTk)⟩:Chart)).sold))
 |_=>(False,.junk)
theorem Qkv {A:Frm→Prop}:qD A Tryz.prog 59 (qQ true kG):=qR fun vs hv h=>by
 clear hv
 unfold kG at h ⊢
 split at h
 ·rename_i c0 c1 c2;obtain ⟨q0,q1,k0,k1⟩:=h
  refine ⟨by first|trivial|(simp [AV.plain,AV.plainL,aI,aB,qz,qc,qj,qf,aTk,cTk];done)|(repeat' split) <;> simp [AV.plain,AV.plainL,aI,aB,qz,qc,qj,qf,aTk,cTk],fun _=>(by simp [AV.flat,AV.flatL,aI,aB]), ?_⟩
  have:=QhL ((⟨(c0.map qo),c1,(c2.map dTk)⟩:Chart)) k0 k1
  simp only [qM,qa,aI,qj,qb,← q0,← q1] at this
  first|exact this|(simp only [qM,qa,aI,qj,qb,← q0,← q1];exact this)
 ·exact h.elim
theorem TkOk.to' {c:Chart} {t:Tk} (h:TkOk c t) (l:List Tk):TkOk ⟨c.cabins,c.secs,l⟩ t:=⟨h.party,h.sex,h.cab,h.bed,h.frm,h.way,h.to⟩
theorem CarOk.to' {c:Chart} (h:CarOk c) (l:List Tk):CarOk ⟨c.cabins,c.secs,l⟩:=⟨h.cabs,h.beds,h.secs⟩
def Qv (party:Int) (l:List Tk):List Tk:=l.filter fun t=>!decide (t.party=party)
def ji (c:Chart) (party:Int):Chart × Int:=if zY c ≠ 0 then (⟨[],0,[]⟩,zY c) else if (Qv party c.sold).length=c.sold.length then (⟨[],0,[]⟩,3) else (⟨c.cabins,c.secs,Qv party c.sold⟩,0)
theorem QhE {P:Int} {l:List Tk} (h:∀ t ∈ l,t.party ≠ P):Qv P l=l:=List.filter_eq_self.2 fun t ht=>by rw [decide_eq_false (h t ht)];rfl
def raS (c:Chart) (a:Ask) (T:List (Nat × AV)):St:={ t:=asg (T++[(2,.ptr 0 0),(3,.ptr 1 0),(4,aI 0)]),h:=ql [(0,.cells (qb c)),(1,.cells (qh a))],n:=2 }
theorem Qhv {α:Type} {p:α→Bool} {l:List α} {k:Nat} {d:α} (h:k < l.length) (hp:p (l.getD k d)=true):l.any p=true:=List.any_eq_true.2 ⟨_,ve h,hp⟩
theorem QgY {α:Type} {p:α→Bool} {l:List α} {d:α} (h:∀ j,j < l.length→p (l.getD j d)=false):l.any p=false:=by
 rw [List.any_eq_false]
 intro x hx
 obtain ⟨j,hj,rfl⟩:=List.getElem_of_mem hx
 have:=h j hj
 rw [List.getD_eq_getElem?_getD,List.getElem?_eq_getElem hj] at this
 simpa using this
def zU:=vj @ty3 (vj @xh (vj @jG (vj @QV (vj @QF (vj @QX (vj @ym (vj @ti3.eq_1 (vj @vF.eq_1 (vj @jh.eq_1 (vj @Qn.eq_1 (vj @kY.eq_1 (vj @Qc.eq_1 @jS.eq_1))))))))))))
def yL:=vj @aI.eq_1 (vj @aB.eq_1 (vj @qz.eq_1 (vj @zD.eq_1 (vj @Kr (@Q4)))))
theorem Qi7 (c:Chart) (a:Ask) (hs:c.sold.length≤100) (ha:a.sexes.length≤maxLen):FnV Tryz.prog 105 [qa c,qx a] (aI (xD c a)):=by
 have env:Env (fun _=>True) Tryz.prog tyB (tab [(83,qQ true ze),(84,qQ true zX)]):=qH ⟨QaP,QjH,trivial⟩
 refine Fn.of (A:=fun _=>True) (n0:=0) (D:=noD) (Fn0 Tryz.func105 rfl (fun vs w=>by kernel_rfl) (by kernel_rfl)) (by simp) (by simp [AV.ids,AV.idsL,qa,qb,qx,qh]) (fun i o h=>by cases h) (fun _ _ _ _=>trivial) qF ?_
 have ec:(⟨c.cabins,c.secs,c.sold⟩:Chart)=c:=rfl
 have hmx:maxLen=9223372036854775807:=by decide
 cases h1:inB a.party 1 99 with
 |false =>
  rw [show xD c a=1 by simp [xD,h1]]
  repeat' (first|(apply nx;with_reducible constructor)|refine uq (by decide) ?_|((first|refine vx env fun Q hQ=>?_|refine vz fun Q hQ=>?_);simp only [vkt,seval,zU,yL,aTk,cTk,gTk,eTk,mTk,qd,qa,qb,qx,qh,raS,ze,zX,List.length_map,h1];(try simp only [ite_and]);(repeat' (first|with_reducible assumption|refine And.intro ?_ ?_|intro hp));all_goals (first|(refine hQ _ ?_;clear hQ Q)|(refine hQ _ (fun h=>?_) (fun h=>?_) <;> clear hQ Q <;> (try simp only [vki,reduceCtorEq] at h))|(refine vq ?_;kernel_rfl)|omega|assumption|with_reducible rfl|skip)))
  (simp only [vrt,Tryz.results105,vkt,seval,zU,yL,aTk,cTk,gTk,eTk,mTk,qd,qa,qb,qx,qh,raS,ze,zX,List.length_map];refine Fin.val rfl ?_;(try simp only [AV.le,AV.leL]))
  all_goals first|rfl|(simp;done)
 |true =>
 repeat' (first|(apply nx;with_reducible constructor)|refine uq (by decide) ?_|((first|refine vx env fun Q hQ=>?_|refine vz fun Q hQ=>?_);simp only [vkt,seval,zU,yL,aTk,cTk,gTk,eTk,mTk,qd,qa,qb,qx,qh,raS,ze,zX,List.length_map,h1];(try simp only [ite_and]);(repeat' (first|with_reducible assumption|refine And.intro ?_ ?_|intro hp));all_goals (first|(refine hQ _ ?_;clear hQ Q)|(refine hQ _ (fun h=>?_) (fun h=>?_) <;> clear hQ Q <;> (try simp only [vki,reduceCtorEq] at h))|(refine vq ?_;kernel_rfl)|omega|assumption|with_reducible rfl|skip)))
 refine qO (fun k:{ k:Nat // k≤c.sold.length∧∀ j,j < k→decide ((c.sold.getD j default).party=a.party)=false }=>raS c a [(5,aI k.1)]) (fun k=>c.sold.length - k.1) ⟨0,Nat.zero_le _,fun j h=>absurd h (Nat.not_lt_zero _)⟩ ?_ fun ⟨k,hk,hno⟩=>?_
 ·simp only [raS,List.cons_append,List.nil_append]
  (refine Le.ok some [] ?_;constructor;all_goals (try simp only [vle,vkt,seval,zU,yL,aTk,cTk,gTk,eTk,mTk,qd,qa,qb,qx,qh,raS,ze,zX,List.length_map]))
  all_goals first|rfl|(simp;done)
 simp only at hk hno ⊢
 simp only [raS,List.cons_append,List.nil_append]
 by_cases hlt:k < c.sold.length
 ·have d1:decide ((k:Int) < (c.sold.length:Int))=true:=decide_eq_true (by omega)
  have k0:((k:Int)).toNat=k:=rfl
  have e9:IntKind.wrap .i64 ((k:Int)+1)=((k+1:Nat):Int):=by rw [wrap64 (by omega) (by omega)];rfl
  have hg:=hTk hlt
  obtain ⟨x,hx⟩:∃ x,c.sold.getD k default=x:=⟨_,rfl⟩
  rw [hx] at hg
  cases hp:decide (x.party=a.party) with
  |true =>
   have h2:c.sold.any (fun t=>decide (t.party=a.party))=true:=Qhv (d:=default) hlt (by rw [hx];exact hp)
   rw [show xD c a=4 by simp only [xD,h1,h2];rfl]
   repeat' (first|(apply nx;with_reducible constructor)|refine uq (by decide) ?_|((first|refine vx env fun Q hQ=>?_|refine vz fun Q hQ=>?_);simp only [vkt,seval,zU,yL,aTk,cTk,gTk,eTk,mTk,qd,qa,qb,qx,qh,raS,ze,zX,List.length_map,d1,k0,hlt,hg,hx,hp];(try simp only [ite_and]);(repeat' (first|with_reducible assumption|refine And.intro ?_ ?_|intro hp));all_goals (first|(refine hQ _ ?_;clear hQ Q)|(refine hQ _ (fun h=>?_) (fun h=>?_) <;> clear hQ Q <;> (try simp only [vki,reduceCtorEq] at h))|(refine vq ?_;kernel_rfl)|omega|assumption|with_reducible rfl|skip)))
   (simp only [vrt,Tryz.results105,vkt,seval,zU,yL,aTk,cTk,gTk,eTk,mTk,qd,qa,qb,qx,qh,raS,ze,zX,List.length_map];refine Fin.val rfl ?_;(try simp only [AV.le,AV.leL]))
   all_goals first|rfl|(simp;done)
  |false =>
   repeat' (first|(apply nx;with_reducible constructor)|refine uq (by decide) ?_|((first|refine vx env fun Q hQ=>?_|refine vz fun Q hQ=>?_);simp only [vkt,seval,zU,yL,aTk,cTk,gTk,eTk,mTk,qd,qa,qb,qx,qh,raS,ze,zX,List.length_map,d1,k0,hlt,hg,hx,hp,e9];(try simp only [ite_and]);(repeat' (first|with_reducible assumption|refine And.intro ?_ ?_|intro hp));all_goals (first|(refine hQ _ ?_;clear hQ Q)|(refine hQ _ (fun h=>?_) (fun h=>?_) <;> clear hQ Q <;> (try simp only [vki,reduceCtorEq] at h))|(refine vq ?_;kernel_rfl)|omega|assumption|with_reducible rfl|skip)))
   refine ⟨⟨k+1,hlt,fun j hj=>?_⟩,by show c.sold.length - (k+1) < c.sold.length - k;omega, ?_⟩
   ·rcases Nat.lt_or_eq_of_le (Nat.le_of_lt_succ hj) with h2|h2
    ·exact hno j h2
    ·rw [h2,hx];exact hp
   ·simp only [raS,List.cons_append,List.nil_append]
    (refine Le.ok some [] ?_;constructor;all_goals (try simp only [vle,vkt,seval,zU,yL,aTk,cTk,gTk,eTk,mTk,qd,qa,qb,qx,qh,raS,ze,zX,List.length_map]))
    all_goals first|rfl|(simp;done)
 ·have d1:decide ((k:Int) < (c.sold.length:Int))=false:=decide_eq_false (by omega)
  obtain rfl:k=c.sold.length:=by omega
  have h2:c.sold.any (fun t=>decide (t.party=a.party))=false:=QgY hno
  obtain ⟨w,hw⟩:∃ w,Zc c.secs a.frm a.to=w:=⟨_,rfl⟩
  by_cases hw0:w=0
  case neg =>
   rw [show xD c a=w by unfold xD;rw [h1,h2,hw];simp [hw0]]
   have d2:decide (w=0)=false:=decide_eq_false hw0
   repeat' (first|(apply nx;with_reducible constructor)|refine uq (by decide) ?_|((first|refine vx env fun Q hQ=>?_|refine vz fun Q hQ=>?_);simp only [vkt,seval,zU,yL,aTk,cTk,gTk,eTk,mTk,qd,qa,qb,qx,qh,raS,ze,zX,List.length_map,d1,ec,hw,d2];(try simp only [ite_and]);(repeat' (first|with_reducible assumption|refine And.intro ?_ ?_|intro hp));all_goals (first|(refine hQ _ ?_;clear hQ Q)|(refine hQ _ (fun h=>?_) (fun h=>?_) <;> clear hQ Q <;> (try simp only [vki,reduceCtorEq] at h))|(refine vq ?_;kernel_rfl)|omega|assumption|with_reducible rfl|skip)))
   (simp only [vrt,Tryz.results105,vkt,seval,zU,yL,aTk,cTk,gTk,eTk,mTk,qd,qa,qb,qx,qh,raS,ze,zX,List.length_map];refine Fin.val rfl ?_;(try simp only [AV.le,AV.leL]))
   all_goals first|rfl|(simp;done)
  rw [hw0] at hw
  by_cases h0:a.sexes.length=0
  ·rw [show xD c a=7 by unfold xD;rw [h1,h2,hw];simp [zG,h0]]
   have d3:decide ((a.sexes.length:Int)=0)=true:=decide_eq_true (by omega)
   repeat' (first|(apply nx;with_reducible constructor)|refine uq (by decide) ?_|((first|refine vx env fun Q hQ=>?_|refine vz fun Q hQ=>?_);simp only [vkt,seval,zU,yL,aTk,cTk,gTk,eTk,mTk,qd,qa,qb,qx,qh,raS,ze,zX,List.length_map,d1,ec,hw,d3,decide_true,Bool.not_true];(try simp only [ite_and]);(repeat' (first|with_reducible assumption|refine And.intro ?_ ?_|intro hp));all_goals (first|(refine hQ _ ?_;clear hQ Q)|(refine hQ _ (fun h=>?_) (fun h=>?_) <;> clear hQ Q <;> (try simp only [vki,reduceCtorEq] at h))|(refine vq ?_;kernel_rfl)|omega|assumption|with_reducible rfl|skip)))
   (simp only [vrt,Tryz.results105,vkt,seval,zU,yL,aTk,cTk,gTk,eTk,mTk,qd,qa,qb,qx,qh,raS,ze,zX,List.length_map];refine Fin.val rfl ?_;(try simp only [AV.le,AV.leL]))
   all_goals first|rfl|(simp;done)
  have d3:decide ((a.sexes.length:Int)=0)=false:=decide_eq_false (by omega)
  by_cases h3:3 < a.sexes.length
  ·have d4:decide ((3:Int) < (a.sexes.length:Int))=true:=decide_eq_true (by omega)
   have hcnt:zG a.sexes.length 1 3=6:=by unfold zG;rw [if_neg (by omega),if_pos (by omega)]
   rw [show xD c a=6 by unfold xD;rw [h1,h2,hw,hcnt];rfl]
   repeat' (first|(apply nx;with_reducible constructor)|refine uq (by decide) ?_|((first|refine vx env fun Q hQ=>?_|refine vz fun Q hQ=>?_);simp only [vkt,seval,zU,yL,aTk,cTk,gTk,eTk,mTk,qd,qa,qb,qx,qh,raS,ze,zX,List.length_map,d1,ec,hw,d3,d4,decide_true,Bool.not_true];(try simp only [ite_and]);(repeat' (first|with_reducible assumption|refine And.intro ?_ ?_|intro hp));all_goals (first|(refine hQ _ ?_;clear hQ Q)|(refine hQ _ (fun h=>?_) (fun h=>?_) <;> clear hQ Q <;> (try simp only [vki,reduceCtorEq] at h))|(refine vq ?_;kernel_rfl)|omega|assumption|with_reducible rfl|skip)))
   (simp only [vrt,Tryz.results105,vkt,seval,zU,yL,aTk,cTk,gTk,eTk,mTk,qd,qa,qb,qx,qh,raS,ze,zX,List.length_map];refine Fin.val rfl ?_;(try simp only [AV.le,AV.leL]))
   all_goals first|rfl|(simp;done)
  have d4:decide ((3:Int) < (a.sexes.length:Int))=false:=decide_eq_false (by omega)
  have hcnt:zG a.sexes.length 1 3=0:=by unfold zG;rw [if_neg (by omega),if_neg (by omega)]
  rw [show xD c a=yM (a.sexes.map Ws) by unfold xD;rw [h1,h2,hw,hcnt];rfl]
  repeat' (first|(apply nx;with_reducible constructor)|refine uq (by decide) ?_|((first|refine vx env fun Q hQ=>?_|refine vz fun Q hQ=>?_);simp only [vkt,seval,zU,yL,aTk,cTk,gTk,eTk,mTk,qd,qa,qb,qx,qh,raS,ze,zX,List.length_map,d1,ec,hw,d3,d4,decide_true,Bool.not_true];(try simp only [ite_and]);(repeat' (first|with_reducible assumption|refine And.intro ?_ ?_|intro hp));all_goals (first|(refine hQ _ ?_;clear hQ Q)|(refine hQ _ (fun h=>?_) (fun h=>?_) <;> clear hQ Q <;> (try simp only [vki,reduceCtorEq] at h))|(refine vq ?_;kernel_rfl)|omega|assumption|with_reducible rfl|skip)))
  refine qO (fun k:{ k:Nat // k≤a.sexes.length∧∀ j,j < k→(a.sexes.map Ws).getD j 0=0 }=>raS c a [(7,aI k.1)]) (fun k=>a.sexes.length - k.1) ⟨0,Nat.zero_le _,fun j h=>absurd h (Nat.not_lt_zero _)⟩ ?_ fun ⟨k,hk,hno⟩=>?_
  ·simp only [raS,List.cons_append,List.nil_append]
   (refine Le.ok some [] ?_;constructor;all_goals (try simp only [vle,vkt,seval,zU,yL,aTk,cTk,gTk,eTk,mTk,qd,qa,qb,qx,qh,raS,ze,zX,List.length_map]))
   all_goals first|rfl|(simp;done)
  simp only at hk hno ⊢
  simp only [raS,List.cons_append,List.nil_append]
  by_cases hlt:k < a.sexes.length
  ·have d5:decide ((k:Int) < (a.sexes.length:Int))=true:=decide_eq_true (by omega)
   have k0:((k:Int)).toNat=k:=rfl
   have e9:IntKind.wrap .i64 ((k:Int)+1)=((k+1:Nat):Int):=by rw [wrap64 (by omega) (by omega)];rfl
   have hg:=hInt hlt
   obtain ⟨x,hx⟩:∃ x,a.sexes.getD k 0=x:=⟨_,rfl⟩
   rw [hx] at hg
   have hm:(a.sexes.map Ws).getD k 0=Ws x:=by rw [mapD hlt];exact congrArg Ws hx
   cases hb:inB x 1 2 with
   |false =>
    have hE:Ws x=8:=by simp [Ws,hb]
    have hf:=kW hno (by simpa using hlt) (by rw [hm,hE];decide)
    rw [hm,hE] at hf
    rw [hf]
    repeat' (first|(apply nx;with_reducible constructor)|refine uq (by decide) ?_|((first|refine vx env fun Q hQ=>?_|refine vz fun Q hQ=>?_);simp only [vkt,seval,zU,yL,aTk,cTk,gTk,eTk,mTk,qd,qa,qb,qx,qh,raS,ze,zX,List.length_map,d5,k0,hlt,hg,hx,hb];(try simp only [ite_and]);(repeat' (first|with_reducible assumption|refine And.intro ?_ ?_|intro hp));all_goals (first|(refine hQ _ ?_;clear hQ Q)|(refine hQ _ (fun h=>?_) (fun h=>?_) <;> clear hQ Q <;> (try simp only [vki,reduceCtorEq] at h))|(refine vq ?_;kernel_rfl)|omega|assumption|with_reducible rfl|skip)))
    (simp only [vrt,Tryz.results105,vkt,seval,zU,yL,aTk,cTk,gTk,eTk,mTk,qd,qa,qb,qx,qh,raS,ze,zX,List.length_map];refine Fin.val rfl ?_;(try simp only [AV.le,AV.leL]))
    all_goals first|rfl|(simp;done)
   |true =>
    have hE:Ws x=0:=by simp [Ws,hb]
    repeat' (first|(apply nx;with_reducible constructor)|refine uq (by decide) ?_|((first|refine vx env fun Q hQ=>?_|refine vz fun Q hQ=>?_);simp only [vkt,seval,zU,yL,aTk,cTk,gTk,eTk,mTk,qd,qa,qb,qx,qh,raS,ze,zX,List.length_map,d5,k0,hlt,hg,hx,hb,e9];(try simp only [ite_and]);(repeat' (first|with_reducible assumption|refine And.intro ?_ ?_|intro hp));all_goals (first|(refine hQ _ ?_;clear hQ Q)|(refine hQ _ (fun h=>?_) (fun h=>?_) <;> clear hQ Q <;> (try simp only [vki,reduceCtorEq] at h))|(refine vq ?_;kernel_rfl)|omega|assumption|with_reducible rfl|skip)))
    refine ⟨⟨k+1,hlt,fun j hj=>?_⟩,by show a.sexes.length - (k+1) < a.sexes.length - k;omega, ?_⟩
    ·rcases Nat.lt_or_eq_of_le (Nat.le_of_lt_succ hj) with h2|h2
     ·exact hno j h2
     ·rw [h2,hm,hE]
    ·simp only [raS,List.cons_append,List.nil_append]
     (refine Le.ok some [] ?_;constructor;all_goals (try simp only [vle,vkt,seval,zU,yL,aTk,cTk,gTk,eTk,mTk,qd,qa,qb,qx,qh,raS,ze,zX,List.length_map]))
     all_goals first|rfl|(simp;done)
  ·have d5:decide ((k:Int) < (a.sexes.length:Int))=false:=decide_eq_false (by omega)
   obtain rfl:k=a.sexes.length:=by omega
   rw [yX (l:=a.sexes.map Ws) (by simpa using hno)]
   repeat' (first|(apply nx;with_reducible constructor)|refine uq (by decide) ?_|((first|refine vx env fun Q hQ=>?_|refine vz fun Q hQ=>?_);simp only [vkt,seval,zU,yL,aTk,cTk,gTk,eTk,mTk,qd,qa,qb,qx,qh,raS,ze,zX,List.length_map,d5];(try simp only [ite_and]);(repeat' (first|with_reducible assumption|refine And.intro ?_ ?_|intro hp));all_goals (first|(refine hQ _ ?_;clear hQ Q)|(refine hQ _ (fun h=>?_) (fun h=>?_) <;> clear hQ Q <;> (try simp only [vki,reduceCtorEq] at h))|(refine vq ?_;kernel_rfl)|omega|assumption|with_reducible rfl|skip)))
   (simp only [vrt,Tryz.results105,vkt,seval,zU,yL,aTk,cTk,gTk,eTk,mTk,qd,qa,qb,qx,qh,raS,ze,zX,List.length_map];refine Fin.val rfl ?_;(try simp only [AV.le,AV.leL]))
   all_goals first|rfl|(simp;done)
def Kq:List AV→Prop × AV
 |[.agg [.sl c0,.v (.int .i64 c1),.sl c2],.agg [.v (.int .i64 a0),.v (.int .i64 a1),.v (.int .i64 a2),.sl a3,.v (.bool a4)]]=>(c0=(c0.map qo).map qg∧c2=(c2.map dTk).map eTk∧a3=(a3.map za).map zD∧((⟨(c0.map qo),c1,(c2.map dTk)⟩:Chart)).sold.length≤100∧((⟨a0,a1,a2,(a3.map za),a4⟩:Ask)).sexes.length≤maxLen,aI (xD ((⟨(c0.map qo),c1,(c2.map dTk)⟩:Chart)) ((⟨a0,a1,a2,(a3.map za),a4⟩:Ask))))
 |_=>(False,.junk)
theorem erask {A:Frm→Prop}:qD A Tryz.prog 105 (qQ true Kq):=qR fun vs hv h=>by
 clear hv
 unfold Kq at h ⊢
 split at h
 ·rename_i c0 c1 c2 a0 a1 a2 a3 a4;obtain ⟨q0,q1,q2,k0,k1⟩:=h
  refine ⟨by first|trivial|(simp [AV.plain,AV.plainL,aI,aB,qz,qc,qj,qf,aTk,cTk];done)|(repeat' split) <;> simp [AV.plain,AV.plainL,aI,aB,qz,qc,qj,qf,aTk,cTk],fun _=>(by simp [AV.flat,AV.flatL,aI,aB]), ?_⟩
  have:=Qi7 ((⟨(c0.map qo),c1,(c2.map dTk)⟩:Chart)) ((⟨a0,a1,a2,(a3.map za),a4⟩:Ask)) k0 k1
  simp only [qx,aB,qM,qa,aI,qz,qj,qh,qb,← q0,← q1,← q2] at this
  first|exact this|(simp only [qx,aB,qM,qa,aI,qz,qj,qh,qb,← q0,← q1,← q2];exact this)
 ·exact h.elim
def WU:=vj @jG (vj @QF (vj @QX (vj @jh.eq_1 (vj @kY.eq_1 @Qc.eq_1))))
def U5:=vj @aI.eq_1 (vj @aB.eq_1 (vj @qz.eq_1 (@Q4)))
theorem QfC (c:Chart) (a:Ask) (hc:c.cabins.length≤maxLen) (hs:c.sold.length≤100) (ha:a.sexes.length≤maxLen):FnV Tryz.prog 53 [qa c,qx a] (aI (zq c a)):=by
 have env:Env (fun _=>True) Tryz.prog tyB (tab [(82,qQ true jW),(105,qQ true Kq)]):=qH ⟨QdE,erask,trivial⟩
 refine Fn.of (A:=fun _=>True) (n0:=0) (D:=noD) (Fn0 Tryz.func53 rfl (fun vs w=>by kernel_rfl) (by kernel_rfl)) (by simp) (by simp [AV.ids,AV.idsL,qa,qb,qx,qh]) (fun i o h=>by cases h) (fun _ _ _ _=>trivial) qF ?_
 have ec:(⟨c.cabins,c.secs,c.sold⟩:Chart)=c:=rfl
 have ea:(⟨a.party,a.frm,a.to,a.sexes,a.dog⟩:Ask)=a:=rfl
 have hs2:c.sold.length≤100000:=by omega
 obtain ⟨e,he⟩:∃ e,zY c=e:=⟨_,rfl⟩
 by_cases h0:e=0
 ·rw [show zq c a=xD c a by unfold zq;rw [he,h0];rfl]
  rw [h0] at he
  repeat' (first|(apply nx;with_reducible constructor)|refine uq (by decide) ?_|((first|refine vx env fun Q hQ=>?_|refine vz fun Q hQ=>?_);simp only [vkt,seval,WU,U5,mTk,qd,qa,qb,qx,qh,jW,Kq,List.length_map,ec,ea,hc,hs,hs2,ha,he,decide_true];(try simp only [ite_and]);(repeat' (first|with_reducible assumption|refine And.intro ?_ ?_|intro hp));all_goals (first|(refine hQ _ ?_;clear hQ Q)|(refine hQ _ (fun h=>?_) (fun h=>?_) <;> clear hQ Q <;> (try simp only [vki,reduceCtorEq] at h))|(refine vq ?_;kernel_rfl)|omega|assumption|with_reducible rfl|skip)))
  (simp only [vrt,Tryz.results53,vkt,seval,WU,U5,mTk,qd,qa,qb,qx,qh,jW,Kq,List.length_map];refine Fin.val rfl ?_;(try simp only [AV.le,AV.leL]))
  all_goals first|rfl|(simp;done)
 ·rw [show zq c a=e by unfold zq;rw [he,if_pos h0]]
  have d0:decide (e=0)=false:=decide_eq_false h0
  repeat' (first|(apply nx;with_reducible constructor)|refine uq (by decide) ?_|((first|refine vx env fun Q hQ=>?_|refine vz fun Q hQ=>?_);simp only [vkt,seval,WU,U5,mTk,qd,qa,qb,qx,qh,jW,Kq,List.length_map,ec,ea,hc,hs2,ha,he,d0];(try simp only [ite_and]);(repeat' (first|with_reducible assumption|refine And.intro ?_ ?_|intro hp));all_goals (first|(refine hQ _ ?_;clear hQ Q)|(refine hQ _ (fun h=>?_) (fun h=>?_) <;> clear hQ Q <;> (try simp only [vki,reduceCtorEq] at h))|(refine vq ?_;kernel_rfl)|omega|assumption|with_reducible rfl|skip)))
  (simp only [vrt,Tryz.results53,vkt,seval,WU,U5,mTk,qd,qa,qb,qx,qh,jW,Kq,List.length_map];refine Fin.val rfl ?_;(try simp only [AV.le,AV.leL]))
  all_goals first|rfl|(simp;done)
def kH:List AV→Prop × AV
 |[.agg [.sl c0,.v (.int .i64 c1),.sl c2],.agg [.v (.int .i64 a0),.v (.int .i64 a1),.v (.int .i64 a2),.sl a3,.v (.bool a4)]]=>(c0=(c0.map qo).map qg∧c2=(c2.map dTk).map eTk∧a3=(a3.map za).map zD∧((⟨(c0.map qo),c1,(c2.map dTk)⟩:Chart)).cabins.length≤maxLen∧((⟨(c0.map qo),c1,(c2.map dTk)⟩:Chart)).sold.length≤100∧((⟨a0,a1,a2,(a3.map za),a4⟩:Ask)).sexes.length≤maxLen,aI (zq ((⟨(c0.map qo),c1,(c2.map dTk)⟩:Chart)) ((⟨a0,a1,a2,(a3.map za),a4⟩:Ask))))
 |_=>(False,.junk)
theorem Qk1 {A:Frm→Prop}:qD A Tryz.prog 53 (qQ true kH):=qR fun vs hv h=>by
 clear hv
 unfold kH at h ⊢
 split at h
 ·rename_i c0 c1 c2 a0 a1 a2 a3 a4;obtain ⟨q0,q1,q2,k0,k1,k2⟩:=h
  refine ⟨by first|trivial|(simp [AV.plain,AV.plainL,aI,aB,qz,qc,qj,qf,aTk,cTk];done)|(repeat' split) <;> simp [AV.plain,AV.plainL,aI,aB,qz,qc,qj,qf,aTk,cTk],fun _=>(by simp [AV.flat,AV.flatL,aI,aB]), ?_⟩
  have:=QfC ((⟨(c0.map qo),c1,(c2.map dTk)⟩:Chart)) ((⟨a0,a1,a2,(a3.map za),a4⟩:Ask)) k0 k1 k2
  simp only [qx,aB,qM,qa,aI,qz,qj,qh,qb,← q0,← q1,← q2] at this
  first|exact this|(simp only [qx,aB,qM,qa,aI,qz,qj,qh,qb,← q0,← q1,← q2];exact this)
 ·exact h.elim
def xX:=vj @ty3 (vj @ty4 (vj @QV (vj @QF (vj @ti3.eq_1 (vj @ti4.eq_1 (vj @Qn.eq_1 @kY.eq_1))))))
def Wj:=vj @aI.eq_1 (vj @aB.eq_1 (vj @qz.eq_1 (@Q4)))
theorem Qkf (a b:Ask) (h1:a.sexes.length≤maxLen) (h2:b.sexes.length≤maxLen):FnV Tryz.prog 22 [qx a,qx b] (aB (decide (a=b))):=by
 have env:Env (fun _=>True) Tryz.prog tyB (tab [(41,qQ true Vn)]):=qH ⟨eeqI,trivial⟩
 refine Fn.of (A:=fun _=>True) (n0:=0) (D:=noD) (Fn0 Tryz.func22 rfl (fun vs w=>by kernel_rfl) (by kernel_rfl)) (by simp) (by simp [AV.ids,AV.idsL,qx,qh]) (fun i o h=>by cases h) (fun _ _ _ _=>trivial) qF ?_
 have hE:decide (a=b)=(decide (a.party=b.party) && (decide (a.frm=b.frm) && (decide (a.to=b.to) && ((a.dog == b.dog) && decide (a.sexes=b.sexes))))):=by
  cases a with|mk p f t s d=>cases b with|mk p' f' t' s' d' =>
  rw [Bool.eq_iff_iff]
  simp only [decide_eq_true_eq,Bool.and_eq_true,beq_iff_eq,Ask.mk.injEq]
  exact ⟨fun ⟨x1,x2,x3,x4,x5⟩=>⟨x1,x2,x3,x5,x4⟩,fun ⟨x1,x2,x3,x5,x4⟩=>⟨x1,x2,x3,x4,x5⟩⟩
 rw [hE]
 cases q0:decide (a.party=b.party) with
 |false =>
  rw [Bool.false_and]
  repeat' (first|(apply nx;with_reducible constructor)|refine uq (by decide) ?_|((first|refine vx env fun Q hQ=>?_|refine vz fun Q hQ=>?_);simp only [vkt,seval,xX,Wj,qx,qh,Vn,Bool.true_and,Bool.false_and,List.length_map,q0];(try simp only [ite_and]);(repeat' (first|with_reducible assumption|refine And.intro ?_ ?_|intro hp));all_goals (first|(refine hQ _ ?_;clear hQ Q)|(refine hQ _ (fun h=>?_) (fun h=>?_) <;> clear hQ Q <;> (try simp only [vki,reduceCtorEq] at h))|(refine vq ?_;kernel_rfl)|omega|assumption|with_reducible rfl|skip)))
  (simp only [vrt,Tryz.results22,vkt,seval,xX,Wj,qx,qh,Vn,Bool.true_and,Bool.false_and,List.length_map];refine Fin.val rfl ?_;(try simp only [AV.le,AV.leL]))
  all_goals first|rfl|(simp;done)
 |true =>
 cases q1:decide (a.frm=b.frm) with
 |false =>
  rw [Bool.false_and,Bool.and_false]
  repeat' (first|(apply nx;with_reducible constructor)|refine uq (by decide) ?_|((first|refine vx env fun Q hQ=>?_|refine vz fun Q hQ=>?_);simp only [vkt,seval,xX,Wj,qx,qh,Vn,Bool.true_and,Bool.false_and,List.length_map,q0,q1];(try simp only [ite_and]);(repeat' (first|with_reducible assumption|refine And.intro ?_ ?_|intro hp));all_goals (first|(refine hQ _ ?_;clear hQ Q)|(refine hQ _ (fun h=>?_) (fun h=>?_) <;> clear hQ Q <;> (try simp only [vki,reduceCtorEq] at h))|(refine vq ?_;kernel_rfl)|omega|assumption|with_reducible rfl|skip)))
  (simp only [vrt,Tryz.results22,vkt,seval,xX,Wj,qx,qh,Vn,Bool.true_and,Bool.false_and,List.length_map];refine Fin.val rfl ?_;(try simp only [AV.le,AV.leL]))
  all_goals first|rfl|(simp;done)
 |true =>
 cases q2:decide (a.to=b.to) with
 |false =>
  rw [Bool.false_and,Bool.and_false,Bool.and_false]
  repeat' (first|(apply nx;with_reducible constructor)|refine uq (by decide) ?_|((first|refine vx env fun Q hQ=>?_|refine vz fun Q hQ=>?_);simp only [vkt,seval,xX,Wj,qx,qh,Vn,Bool.true_and,Bool.false_and,List.length_map,q0,q1,q2];(try simp only [ite_and]);(repeat' (first|with_reducible assumption|refine And.intro ?_ ?_|intro hp));all_goals (first|(refine hQ _ ?_;clear hQ Q)|(refine hQ _ (fun h=>?_) (fun h=>?_) <;> clear hQ Q <;> (try simp only [vki,reduceCtorEq] at h))|(refine vq ?_;kernel_rfl)|omega|assumption|with_reducible rfl|skip)))
  (simp only [vrt,Tryz.results22,vkt,seval,xX,Wj,qx,qh,Vn,Bool.true_and,Bool.false_and,List.length_map];refine Fin.val rfl ?_;(try simp only [AV.le,AV.leL]))
  all_goals first|rfl|(simp;done)
 |true =>
 cases q3:(a.dog == b.dog) with
 |false =>
  rw [Bool.false_and,Bool.and_false,Bool.and_false,Bool.and_false]
  repeat' (first|(apply nx;with_reducible constructor)|refine uq (by decide) ?_|((first|refine vx env fun Q hQ=>?_|refine vz fun Q hQ=>?_);simp only [vkt,seval,xX,Wj,qx,qh,Vn,Bool.true_and,Bool.false_and,List.length_map,q0,q1,q2,q3];(try simp only [ite_and]);(repeat' (first|with_reducible assumption|refine And.intro ?_ ?_|intro hp));all_goals (first|(refine hQ _ ?_;clear hQ Q)|(refine hQ _ (fun h=>?_) (fun h=>?_) <;> clear hQ Q <;> (try simp only [vki,reduceCtorEq] at h))|(refine vq ?_;kernel_rfl)|omega|assumption|with_reducible rfl|skip)))
  (simp only [vrt,Tryz.results22,vkt,seval,xX,Wj,qx,qh,Vn,Bool.true_and,Bool.false_and,List.length_map];refine Fin.val rfl ?_;(try simp only [AV.le,AV.leL]))
  all_goals first|rfl|(simp;done)
 |true =>
 rw [Bool.true_and,Bool.true_and,Bool.true_and,Bool.true_and]
 repeat' (first|(apply nx;with_reducible constructor)|refine uq (by decide) ?_|((first|refine vx env fun Q hQ=>?_|refine vz fun Q hQ=>?_);simp only [vkt,seval,xX,Wj,qx,qh,Vn,Bool.true_and,Bool.false_and,List.length_map,q0,q1,q2,q3,h1,h2];(try simp only [ite_and]);(repeat' (first|with_reducible assumption|refine And.intro ?_ ?_|intro hp));all_goals (first|(refine hQ _ ?_;clear hQ Q)|(refine hQ _ (fun h=>?_) (fun h=>?_) <;> clear hQ Q <;> (try simp only [vki,reduceCtorEq] at h))|(refine vq ?_;kernel_rfl)|omega|assumption|with_reducible rfl|skip)))
 (simp only [vrt,Tryz.results22,vkt,seval,xX,Wj,qx,qh,Vn,Bool.true_and,Bool.false_and,List.length_map];refine Fin.val rfl ?_;(try simp only [AV.le,AV.leL]))
 all_goals first|rfl|(simp;done)
def QY:List AV→Prop × AV
 |[.agg [.v (.int .i64 a0),.v (.int .i64 a1),.v (.int .i64 a2),.sl a3,.v (.bool a4)],.agg [.v (.int .i64 b0),.v (.int .i64 b1),.v (.int .i64 b2),.sl b3,.v (.bool b4)]]=>(a3=(a3.map za).map zD∧b3=(b3.map za).map zD∧((⟨a0,a1,a2,(a3.map za),a4⟩:Ask)).sexes.length≤maxLen∧((⟨b0,b1,b2,(b3.map za),b4⟩:Ask)).sexes.length≤maxLen,aB (decide (((⟨a0,a1,a2,(a3.map za),a4⟩:Ask))=((⟨b0,b1,b2,(b3.map za),b4⟩:Ask)))))
 |_=>(False,.junk)
theorem eeqA {A:Frm→Prop}:qD A Tryz.prog 22 (qQ true QY):=qR fun vs hv h=>by
 clear hv
 unfold QY at h ⊢
 split at h
 ·rename_i a0 a1 a2 a3 a4 b0 b1 b2 b3 b4;obtain ⟨q0,q1,k0,k1⟩:=h
  refine ⟨by first|trivial|(simp [AV.plain,AV.plainL,aI,aB,qz,qc,qj,qf,aTk,cTk];done)|(repeat' split) <;> simp [AV.plain,AV.plainL,aI,aB,qz,qc,qj,qf,aTk,cTk],fun _=>(by simp [AV.flat,AV.flatL,aI,aB]), ?_⟩
  have:=Qkf ((⟨a0,a1,a2,(a3.map za),a4⟩:Ask)) ((⟨b0,b1,b2,(b3.map za),b4⟩:Ask)) k0 k1
  simp only [qx,aB,aI,qz,qh,← q0,← q1] at this
  first|exact this|(simp only [qx,aB,aI,qz,qh,← q0,← q1];exact this)
 ·exact h.elim
theorem Qgt (f:Nat→Int):∀ n,(mxK f n).2 < n+1∧(0 < n→(mxK f n).2 < n)
 |0=>⟨by simp [mxK],fun h=>absurd h (Nat.lt_irrefl _)⟩
 |n+1=>by
  have ih:=Qgt f n
  rw [mxK]
  split
  ·exact ⟨by show n < n+1+1;omega,fun _=>Nat.lt_succ_self n⟩
  ·exact ⟨by omega,fun _=>by omega⟩
def rbS (c:Chart) (a:Ask) (PL:List (List Bunk)) (at' most:Int) (i:Nat):St:={ t:=asg [(2,.ptr 0 0),(3,.ptr 1 0),(7,jd PL),(8,aI at'),(9,aI most),(10,aI i)],h:=ql [(0,.cells (qb c)),(1,.cells (qh a))],n:=2 }
def yc:=vj @ty3 (vj @jG (vj @QF (vj @QbA (vj @QX (vj @Wx (vj @xA (vj @ti3.eq_1 (vj @jh.eq_1 (vj @kY.eq_1 (vj @KQ.eq_1 (vj @Qc.eq_1 (vj @ZH.eq_1 @vN.eq_1))))))))))))
def Q9:=vj @aI.eq_1 (vj @aB.eq_1 (vj @qz.eq_1 (@Q4)))
set_option maxRecDepth 100000 in
set_option maxHeartbeats 4000000 in
theorem QfP (c:Chart) (a:Ask) (hc:c.cabins.length≤maxLen) (hs:c.sold.length≤20) (ha:a.sexes.length≤maxLen):FnV Tryz.prog 19 [qa c,qx a] (.tup [qc (wG c a).1,aI (wG c a).2]):=by
 have env:Env (fun _=>True) Tryz.prog tyB (tab [(53,qQ true kH),(54,qQ false yB),(61,qQ false jQ),(60,qQ false yK),(59,qQ true kG)]):=qH ⟨Qk1,Qg2,Qhr,QhJ,Qkv,trivial⟩
 refine Fn.of (A:=fun _=>True) (n0:=0) (D:=noD) (Fn0 Tryz.func19 rfl (fun vs w=>by kernel_rfl) (by kernel_rfl)) (by simp) (by simp [AV.ids,AV.idsL,qa,qb,qx,qh]) (fun i o h=>by cases h) (fun _ _ _ _=>trivial) qF ?_
 have ec:(⟨c.cabins,c.secs,c.sold⟩:Chart)=c:=rfl
 have ea:(⟨a.party,a.frm,a.to,a.sexes,a.dog⟩:Ask)=a:=rfl
 have hmx:(100000:Nat)≤maxLen:=by decide
 have hs2:c.sold.length≤100:=by omega
 rw [← Qjf]
 obtain ⟨e,he⟩:∃ e,zq c a=e:=⟨_,rfl⟩
 by_cases h0:e=0
 ·rw [h0] at he
  obtain ⟨hx1,hx2⟩:=QaS (vg he).2
  have hP:=U6 he hx2
  have hV:=xV (vg he).1
  have hCar:=hV.car
  have hb:=Ug (Qq he)
  have hPl:(zy c a).length≤1000:=by rw [show zy c a=(plP c a).map (·.1) by unfold zy;rw [if_pos he],List.length_map];omega
  have a1:0 < a.sexes.length:=by omega
  have a2:a.sexes.length≤3:=by omega
  have hlen:∀ p ∈ zy c a,p.length=a.sexes.length:=fun p hp=>by
   rw [hP] at hp
   exact ZV p (List.mem_filter.1 hp).1
  have hTk:∀ p ∈ zy c a,Van ⟨c.cabins,c.secs,c.sold++vB a p p.length⟩∧YW (c.sold++vB a p p.length):=fun p hp=>by
   have hl:=hlen p hp
   have hway:=Jd he (by rw [hP] at hp;exact (List.mem_filter.1 hp).1)
   have h5:=hCar.secs
   refine ⟨⟨⟨hCar.cabs,hCar.beds,hCar.secs⟩, ?_,fun t ht=>?_⟩,fun t ht=>?_⟩
   ·show (c.sold++vB a p p.length).length≤100
    rw [List.length_append,WA];omega
   ·exact (hway t ht).to' _
   ·have:=(hway t ht).frm
    have:=(hway t ht).way
    have:=(hway t ht).to
    omega
  have hR:rbA c a=if zy c a=[] then ([],11) else ((zy c a).getD (mxK (rdF c a) (zy c a).length).2 default,0):=by unfold rbA;rw [if_pos he]
  have hrd:∀ j,rdF c a j=xy c.cabins c.secs (c.sold++vB a ((zy c a).getD j default) ((zy c a).getD j default).length):=fun j=>rfl
  obtain ⟨f,hf⟩:∃ f,rdF c a=f:=⟨_,rfl⟩
  rw [hf] at hR hrd
  obtain ⟨PL,hPL⟩:∃ l,zy c a=l:=⟨_,rfl⟩
  have hPL2:(alL (qX c.cabins) a.sexes.length).filter (wL c a)=PL:=by rw [← hP,hPL]
  rw [hPL] at hR hPl hlen hTk hrd
  rw [hR]
  by_cases hn:PL=[]
  ·rw [if_pos hn]
   have hPL3:=hPL2.trans hn
   repeat' (first|(apply nx;with_reducible constructor)|refine uq (by decide) ?_|((first|refine vx env fun Q hQ=>?_|refine vz fun Q hQ=>?_);simp only [vkt,seval,yc,Q9,qf,qc,jd,qw,qB,qE,qK,qj,eTk,qI,mTk,qd,qa,qb,qx,qh,rbS,kH,yB,jQ,yK,kG,List.length_map,ec,ea,hc,hs,hs2,ha,he,hCar,a1,a2,hPL3,decide_true,List.length_nil];(try simp only [ite_and]);(repeat' (first|with_reducible assumption|refine And.intro ?_ ?_|intro hp));all_goals (first|(refine hQ _ ?_;clear hQ Q)|(refine hQ _ (fun h=>?_) (fun h=>?_) <;> clear hQ Q <;> (try simp only [vki,reduceCtorEq] at h))|(refine vq ?_;kernel_rfl)|omega|assumption|with_reducible rfl|skip)))
   (simp only [vrt,Tryz.results19,vkt,seval,yc,Q9,qf,qc,jd,qw,qB,qE,qK,qj,eTk,qI,mTk,qd,qa,qb,qx,qh,rbS,kH,yB,jQ,yK,kG,List.length_map];refine Fin.val rfl ?_;(try simp only [AV.le,AV.leL]))
   all_goals first|rfl|(simp;done)
  have hp0:0 < PL.length:=by
   rcases Nat.eq_zero_or_pos PL.length with h|h
   ·exact absurd (List.eq_nil_of_length_eq_zero h) hn
   ·exact h
  have d0:decide ((PL.length:Int)=0)=false:=decide_eq_false (by omega)
  rw [if_neg hn]
  obtain ⟨r,hr⟩:∃ r,PL.getD (mxK f PL.length).2 default=r:=⟨_,rfl⟩
  rw [hr]
  repeat' (first|(apply nx;with_reducible constructor)|refine uq (by decide) ?_|((first|refine vx env fun Q hQ=>?_|refine vz fun Q hQ=>?_);simp only [vkt,seval,yc,Q9,qf,qc,jd,qw,qB,qE,qK,qj,eTk,qI,mTk,qd,qa,qb,qx,qh,rbS,kH,yB,jQ,yK,kG,List.length_map,ec,ea,hc,hs,hs2,ha,he,hCar,a1,a2,hPL2,d0,decide_true];(try simp only [ite_and]);(repeat' (first|with_reducible assumption|refine And.intro ?_ ?_|intro hp));all_goals (first|(refine hQ _ ?_;clear hQ Q)|(refine hQ _ (fun h=>?_) (fun h=>?_) <;> clear hQ Q <;> (try simp only [vki,reduceCtorEq] at h))|(refine vq ?_;kernel_rfl)|omega|assumption|with_reducible rfl|skip)))
  refine qO (fun i:{ i:Nat // i≤PL.length }=>rbS c a PL (mxK f i.1).2 (mxK f i.1).1 i.1) (fun i=>PL.length - i.1) ⟨0,Nat.zero_le _⟩ ?_ fun ⟨i,hi⟩=>?_
  ·simp only [rbS,show mxK f 0=(-1,0) from rfl]
   (refine Le.ok some [] ?_;constructor;all_goals (try simp only [vle,vkt,seval,yc,Q9,qf,qc,jd,qw,qB,qE,qK,qj,eTk,qI,mTk,qd,qa,qb,qx,qh,rbS,kH,yB,jQ,yK,kG,List.length_map]))
   all_goals first|rfl|(simp;done)
  simp only at hi ⊢
  have hK:=Qgt f i
  have hS:mxK f (i+1)=if (mxK f i).1 < f i then (f i,i) else mxK f i:=rfl
  obtain ⟨⟨M,K⟩,hMK⟩:∃ p,mxK f i=p:=⟨_,rfl⟩
  rw [hMK] at hK hS
  simp only [rbS,hMK] at hK hS ⊢
  by_cases hil:i < PL.length
  ·have d1:decide ((i:Int) < (PL.length:Int))=true:=decide_eq_true (by omega)
   have e9:IntKind.wrap .i64 ((i:Int)+1)=((i+1:Nat):Int):=by rw [wrap64 (by omega) (by omega)];rfl
   have i0:((i:Int)).toNat=i:=rfl
   have hg:=Vg hil
   have hm:=ve (d:=[]) hil
   have hl:=hlen _ hm
   obtain ⟨hv1,hv2⟩:=hTk _ hm
   have hri:=hrd i
   rw [show PL.getD i default=PL.getD i [] from rfl] at hri
   obtain ⟨p,hp⟩:∃ p,PL.getD i []=p:=⟨_,rfl⟩
   rw [hp] at hg hl hv1 hv2 hri
   have b1:p.length≤100:=by omega
   have b2:p.length≤maxLen:=by omega
   have b3:a.sexes.length=p.length:=by omega
   have b4:c.cabins.length≤100000:=by have:=hCar.cabs;omega
   have b5:c.sold.length≤1000:=by omega
   have b6:(vB a p p.length).length≤1000:=by rw [WA];omega
   obtain ⟨n,hn⟩:∃ n,f i=n:=⟨_,rfl⟩
   rw [hn] at hri hS
   have hri:=hri.symm
   by_cases q:M < n
   ·have d2:decide (M < n)=true:=decide_eq_true q
    rw [if_pos q] at hS
    repeat' (first|(apply nx;with_reducible constructor)|refine uq (by decide) ?_|((first|refine vx env fun Q hQ=>?_|refine vz fun Q hQ=>?_);simp only [vkt,seval,yc,Q9,qf,qc,jd,qw,qB,qE,qK,qj,eTk,qI,mTk,qd,qa,qb,qx,qh,rbS,kH,yB,jQ,yK,kG,List.length_map,d1,e9,i0,hil,hg,hp,ec,ea,b1,b2,b3,b4,b5,b6,hv1,hv2,hri,d2];(try simp only [ite_and]);(repeat' (first|with_reducible assumption|refine And.intro ?_ ?_|intro hp));all_goals (first|(refine hQ _ ?_;clear hQ Q)|(refine hQ _ (fun h=>?_) (fun h=>?_) <;> clear hQ Q <;> (try simp only [vki,reduceCtorEq] at h))|(refine vq ?_;kernel_rfl)|omega|assumption|with_reducible rfl|skip)))
    refine ⟨⟨i+1,hil⟩,by show PL.length - (i+1) < PL.length - i;omega, ?_⟩
    simp only [rbS,hS]
    (refine Le.ok some [] ?_;constructor;all_goals (try simp only [vle,vkt,seval,yc,Q9,qf,qc,jd,qw,qB,qE,qK,qj,eTk,qI,mTk,qd,qa,qb,qx,qh,rbS,kH,yB,jQ,yK,kG,List.length_map]))
    all_goals first|rfl|(simp;done)
   ·have d2:decide (M < n)=false:=decide_eq_false q
    rw [if_neg q] at hS
    repeat' (first|(apply nx;with_reducible constructor)|refine uq (by decide) ?_|((first|refine vx env fun Q hQ=>?_|refine vz fun Q hQ=>?_);simp only [vkt,seval,yc,Q9,qf,qc,jd,qw,qB,qE,qK,qj,eTk,qI,mTk,qd,qa,qb,qx,qh,rbS,kH,yB,jQ,yK,kG,List.length_map,d1,e9,i0,hil,hg,hp,ec,ea,b1,b2,b3,b4,b5,b6,hv1,hv2,hri,d2];(try simp only [ite_and]);(repeat' (first|with_reducible assumption|refine And.intro ?_ ?_|intro hp));all_goals (first|(refine hQ _ ?_;clear hQ Q)|(refine hQ _ (fun h=>?_) (fun h=>?_) <;> clear hQ Q <;> (try simp only [vki,reduceCtorEq] at h))|(refine vq ?_;kernel_rfl)|omega|assumption|with_reducible rfl|skip)))
    refine ⟨⟨i+1,hil⟩,by show PL.length - (i+1) < PL.length - i;omega, ?_⟩
    simp only [rbS,hS]
    (refine Le.ok some [] ?_;constructor;all_goals (try simp only [vle,vkt,seval,yc,Q9,qf,qc,jd,qw,qB,qE,qK,qj,eTk,qI,mTk,qd,qa,qb,qx,qh,rbS,kH,yB,jQ,yK,kG,List.length_map]))
    all_goals first|rfl|(simp;done)
  ·have d1:decide ((i:Int) < (PL.length:Int))=false:=decide_eq_false (by omega)
   obtain rfl:i=PL.length:=by omega
   have hKl:=hK.2 hp0
   have k0:((K:Int)).toNat=K:=rfl
   have hg:=Vg hKl
   have hm:=hlen _ (ve (d:=[]) hKl)
   rw [hMK] at hr
   have hr:PL.getD K []=r:=hr
   rw [hr] at hg hm
   have b2:r.length≤maxLen:=by omega
   repeat' (first|(apply nx;with_reducible constructor)|refine uq (by decide) ?_|((first|refine vx env fun Q hQ=>?_|refine vz fun Q hQ=>?_);simp only [vkt,seval,yc,Q9,qf,qc,jd,qw,qB,qE,qK,qj,eTk,qI,mTk,qd,qa,qb,qx,qh,rbS,kH,yB,jQ,yK,kG,List.length_map,d1,hKl,k0,hg,hr,b2];(try simp only [ite_and]);(repeat' (first|with_reducible assumption|refine And.intro ?_ ?_|intro hp));all_goals (first|(refine hQ _ ?_;clear hQ Q)|(refine hQ _ (fun h=>?_) (fun h=>?_) <;> clear hQ Q <;> (try simp only [vki,reduceCtorEq] at h))|(refine vq ?_;kernel_rfl)|omega|assumption|with_reducible rfl|skip)))
   (simp only [vrt,Tryz.results19,vkt,seval,yc,Q9,qf,qc,jd,qw,qB,qE,qK,qj,eTk,qI,mTk,qd,qa,qb,qx,qh,rbS,kH,yB,jQ,yK,kG,List.length_map];refine Fin.val rfl ?_;(try simp only [AV.le,AV.leL]))
   all_goals first|rfl|(simp;done)
 ·have d0:decide (e=0)=false:=decide_eq_false h0
  rw [show rbA c a=([],e) by unfold rbA;rw [if_neg (by rw [he];exact h0),he]]
  repeat' (first|(apply nx;with_reducible constructor)|refine uq (by decide) ?_|((first|refine vx env fun Q hQ=>?_|refine vz fun Q hQ=>?_);simp only [vkt,seval,yc,Q9,qf,qc,jd,qw,qB,qE,qK,qj,eTk,qI,mTk,qd,qa,qb,qx,qh,rbS,kH,yB,jQ,yK,kG,List.length_map,ec,ea,hc,hs2,ha,he,d0];(try simp only [ite_and]);(repeat' (first|with_reducible assumption|refine And.intro ?_ ?_|intro hp));all_goals (first|(refine hQ _ ?_;clear hQ Q)|(refine hQ _ (fun h=>?_) (fun h=>?_) <;> clear hQ Q <;> (try simp only [vki,reduceCtorEq] at h))|(refine vq ?_;kernel_rfl)|omega|assumption|with_reducible rfl|skip)))
  (simp only [vrt,Tryz.results19,vkt,seval,yc,Q9,qf,qc,jd,qw,qB,qE,qK,qj,eTk,qI,mTk,qd,qa,qb,qx,qh,rbS,kH,yB,jQ,yK,kG,List.length_map];refine Fin.val rfl ?_;(try simp only [AV.le,AV.leL]))
  all_goals first|rfl|(simp;done)
def WT:List AV→Prop × AV
 |[.agg [.sl c0,.v (.int .i64 c1),.sl c2],.agg [.v (.int .i64 a0),.v (.int .i64 a1),.v (.int .i64 a2),.sl a3,.v (.bool a4)]]=>(c0=(c0.map qo).map qg∧c2=(c2.map dTk).map eTk∧a3=(a3.map za).map zD∧((⟨(c0.map qo),c1,(c2.map dTk)⟩:Chart)).cabins.length≤maxLen∧((⟨(c0.map qo),c1,(c2.map dTk)⟩:Chart)).sold.length≤20∧((⟨a0,a1,a2,(a3.map za),a4⟩:Ask)).sexes.length≤maxLen,.tup [qc (wG ((⟨(c0.map qo),c1,(c2.map dTk)⟩:Chart)) ((⟨a0,a1,a2,(a3.map za),a4⟩:Ask))).1,aI (wG ((⟨(c0.map qo),c1,(c2.map dTk)⟩:Chart)) ((⟨a0,a1,a2,(a3.map za),a4⟩:Ask))).2])
 |_=>(False,.junk)
theorem Qj1 {A:Frm→Prop}:qD A Tryz.prog 19 (qQ false WT):=qR fun vs hv h=>by
 clear hv
 unfold WT at h ⊢
 split at h
 ·rename_i c0 c1 c2 a0 a1 a2 a3 a4;obtain ⟨q0,q1,q2,k0,k1,k2⟩:=h
  refine ⟨by first|trivial|(simp [AV.plain,AV.plainL,aI,aB,qz,qc,qj,qf,aTk,cTk];done)|(repeat' split) <;> simp [AV.plain,AV.plainL,aI,aB,qz,qc,qj,qf,aTk,cTk],fun h=>absurd h (by decide), ?_⟩
  have:=QfP ((⟨(c0.map qo),c1,(c2.map dTk)⟩:Chart)) ((⟨a0,a1,a2,(a3.map za),a4⟩:Ask)) k0 k1 k2
  simp only [qx,aB,qM,qa,aI,qz,qj,qh,qb,← q0,← q1,← q2] at this
  first|exact this|(simp only [qx,aB,qM,qa,aI,qz,qj,qh,qb,← q0,← q1,← q2];exact this)
 ·exact h.elim
def QB:=vj @ty3 (vj @xh (vj @jG (vj @QF (vj @QX (vj @Wx (vj @xA (vj @ym (vj @ti3.eq_1 (vj @vF.eq_1 (vj @jh.eq_1 (vj @kY.eq_1 (vj @Qc.eq_1 (vj @ZH.eq_1 (vj @vN.eq_1 @jS.eq_1))))))))))))))
def Va:=vj @aI.eq_1 (vj @aB.eq_1 (vj @qz.eq_1 (@Q4)))
set_option maxHeartbeats 4000000 in
theorem QhK (c:Chart) (a:Ask) (hc:c.cabins.length≤maxLen) (hs:c.sold.length≤20) (ha:a.sexes.length≤maxLen):FnV Tryz.prog 33 [qa c,qx a] (.tup [qa (Zg c a).1,aI (Zg c a).2]):=by
 have env:Env (fun _=>True) Tryz.prog tyB (tab [(19,qQ false WT),(61,qQ false jQ),(60,qQ false yK)]):=qH ⟨Qj1,Qhr,QhJ,trivial⟩
 refine Fn.of (A:=fun _=>True) (n0:=0) (D:=noD) (Fn0 Tryz.func33 rfl (fun vs w=>by kernel_rfl) (by kernel_rfl)) (by simp) (by simp [AV.ids,AV.idsL,qa,qb,qx,qh]) (fun i o h=>by cases h) (fun _ _ _ _=>trivial) qF ?_
 have ec:(⟨c.cabins,c.secs,c.sold⟩:Chart)=c:=rfl
 have ea:(⟨a.party,a.frm,a.to,a.sexes,a.dog⟩:Ask)=a:=rfl
 have hm:(100000:Nat)≤maxLen:=by decide
 obtain ⟨l,hl⟩:∃ l,(wG c a).1=l:=⟨_,rfl⟩
 obtain ⟨e,he⟩:∃ e,(wG c a).2=e:=⟨_,rfl⟩
 have hS:Zg c a=if e ≠ 0 then (⟨[],0,[]⟩,e) else if (8:Int) < (c.sold.length:Int)+(l.length:Int) then (⟨[],0,[]⟩,6) else (⟨c.cabins,c.secs,c.sold++vB a l l.length⟩,0):=by unfold Zg;rw [hl,he]
 rw [hS]
 by_cases h0:e=0
 ·obtain ⟨hb,hll,_⟩:=QdA (he.trans h0)
  rw [hl] at hll
  obtain ⟨h1,h2⟩:=vg hb
  have hv:=xV h1
  have b1:=hv.car.cabs
  have b2:=hv.many
  have b4:=(Qq hb).sx
  have b5:c.sold.length≤1000:=by omega
  have b6:c.cabins.length≤100000:=by omega
  have b7:l.length≤100:=by omega
  have b8:l.length≤maxLen:=by omega
  have b9:a.sexes.length=l.length:=by omega
  have b10:(vB a l l.length).length≤1000:=by rw [WA];omega
  have w1:IntKind.wrap .i64 ((c.sold.length:Int)+(l.length:Int))=(c.sold.length:Int)+(l.length:Int):=wrap64 (by omega) (by omega)
  rw [if_neg (by omega)]
  rw [h0] at he
  by_cases h8:(8:Int) < (c.sold.length:Int)+(l.length:Int)
  ·rw [if_pos h8]
   have d8:decide ((8:Int) < (c.sold.length:Int)+(l.length:Int))=true:=decide_eq_true h8
   repeat' (first|(apply nx;with_reducible constructor)|refine uq (by decide) ?_|((first|refine vx env fun Q hQ=>?_|refine vz fun Q hQ=>?_);simp only [vkt,seval,QB,Va,qf,qc,qw,qB,qE,qj,eTk,qI,mTk,qd,qa,qb,qx,qh,WT,jQ,yK,List.length_map,ec,ea,hc,hs,ha,hl,he,b8,w1,d8,decide_true];(try simp only [ite_and]);(repeat' (first|with_reducible assumption|refine And.intro ?_ ?_|intro hp));all_goals (first|(refine hQ _ ?_;clear hQ Q)|(refine hQ _ (fun h=>?_) (fun h=>?_) <;> clear hQ Q <;> (try simp only [vki,reduceCtorEq] at h))|(refine vq ?_;kernel_rfl)|omega|assumption|with_reducible rfl|skip)))
   (simp only [vrt,Tryz.results33,vkt,seval,QB,Va,qf,qc,qw,qB,qE,qj,eTk,qI,mTk,qd,qa,qb,qx,qh,WT,jQ,yK,List.length_map];refine Fin.val rfl ?_;(try simp only [AV.le,AV.leL]))
   all_goals first|rfl|(simp;done)
  ·rw [if_neg h8]
   have d8:decide ((8:Int) < (c.sold.length:Int)+(l.length:Int))=false:=decide_eq_false h8
   repeat' (first|(apply nx;with_reducible constructor)|refine uq (by decide) ?_|((first|refine vx env fun Q hQ=>?_|refine vz fun Q hQ=>?_);simp only [vkt,seval,QB,Va,qf,qc,qw,qB,qE,qj,eTk,qI,mTk,qd,qa,qb,qx,qh,WT,jQ,yK,List.length_map,ec,ea,hc,hs,ha,hl,he,b5,b6,b7,b8,b9,b10,w1,d8,decide_true];(try simp only [ite_and]);(repeat' (first|with_reducible assumption|refine And.intro ?_ ?_|intro hp));all_goals (first|(refine hQ _ ?_;clear hQ Q)|(refine hQ _ (fun h=>?_) (fun h=>?_) <;> clear hQ Q <;> (try simp only [vki,reduceCtorEq] at h))|(refine vq ?_;kernel_rfl)|omega|assumption|with_reducible rfl|skip)))
   (simp only [vrt,Tryz.results33,vkt,seval,QB,Va,qf,qc,qw,qB,qE,qj,eTk,qI,mTk,qd,qa,qb,qx,qh,WT,jQ,yK,List.length_map];refine Fin.val rfl ?_;(try simp only [AV.le,AV.leL]))
   all_goals first|rfl|(simp;done)
 ·rw [if_pos h0]
  have d0:decide (e=0)=false:=decide_eq_false h0
  have hn:l.length≤maxLen:=by
   have hb:zq c a ≠ 0∨zq c a=0:=by omega
   rcases hb with hb|hb
   ·have:l=[]:=by rw [← hl];unfold wG;rw [if_neg hb]
    rw [this];decide
   ·have:=Qam hb (plP c a).length (Nat.le_refl _)
    rcases this with ⟨_,h2⟩|⟨h1,_⟩
    ·have:l=[]:=by rw [← hl];unfold wG;rw [if_pos hb,h2];rfl
     rw [this];decide
    ·exact absurd (by rw [← he];unfold wG;rw [if_pos hb,h1];rfl) h0
  repeat' (first|(apply nx;with_reducible constructor)|refine uq (by decide) ?_|((first|refine vx env fun Q hQ=>?_|refine vz fun Q hQ=>?_);simp only [vkt,seval,QB,Va,qf,qc,qw,qB,qE,qj,eTk,qI,mTk,qd,qa,qb,qx,qh,WT,jQ,yK,List.length_map,ec,ea,hc,hs,ha,hl,he,hn,d0];(try simp only [ite_and]);(repeat' (first|with_reducible assumption|refine And.intro ?_ ?_|intro hp));all_goals (first|(refine hQ _ ?_;clear hQ Q)|(refine hQ _ (fun h=>?_) (fun h=>?_) <;> clear hQ Q <;> (try simp only [vki,reduceCtorEq] at h))|(refine vq ?_;kernel_rfl)|omega|assumption|with_reducible rfl|skip)))
  (simp only [vrt,Tryz.results33,vkt,seval,QB,Va,qf,qc,qw,qB,qE,qj,eTk,qI,mTk,qd,qa,qb,qx,qh,WT,jQ,yK,List.length_map];refine Fin.val rfl ?_;(try simp only [AV.le,AV.leL]))
  all_goals first|rfl|(simp;done)
def jL:List AV→Prop × AV
 |[.agg [.sl c0,.v (.int .i64 c1),.sl c2],.agg [.v (.int .i64 a0),.v (.int .i64 a1),.v (.int .i64 a2),.sl a3,.v (.bool a4)]]=>(c0=(c0.map qo).map qg∧c2=(c2.map dTk).map eTk∧a3=(a3.map za).map zD∧((⟨(c0.map qo),c1,(c2.map dTk)⟩:Chart)).cabins.length≤maxLen∧((⟨(c0.map qo),c1,(c2.map dTk)⟩:Chart)).sold.length≤20∧((⟨a0,a1,a2,(a3.map za),a4⟩:Ask)).sexes.length≤maxLen,.tup [qa (Zg ((⟨(c0.map qo),c1,(c2.map dTk)⟩:Chart)) ((⟨a0,a1,a2,(a3.map za),a4⟩:Ask))).1,aI (Zg ((⟨(c0.map qo),c1,(c2.map dTk)⟩:Chart)) ((⟨a0,a1,a2,(a3.map za),a4⟩:Ask))).2])
 |_=>(False,.junk)
theorem QkU {A:Frm→Prop}:qD A Tryz.prog 33 (qQ false jL):=qR fun vs hv h=>by
 clear hv
 unfold jL at h ⊢
 split at h
 ·rename_i c0 c1 c2 a0 a1 a2 a3 a4;obtain ⟨q0,q1,q2,k0,k1,k2⟩:=h
  refine ⟨by first|trivial|(simp [AV.plain,AV.plainL,aI,aB,qz,qc,qj,qf,aTk,cTk];done)|(repeat' split) <;> simp [AV.plain,AV.plainL,aI,aB,qz,qc,qj,qf,aTk,cTk],fun h=>absurd h (by decide), ?_⟩
  have:=QhK ((⟨(c0.map qo),c1,(c2.map dTk)⟩:Chart)) ((⟨a0,a1,a2,(a3.map za),a4⟩:Ask)) k0 k1 k2
  simp only [qx,aB,qM,qa,aI,qz,qj,qh,qb,← q0,← q1,← q2] at this
  first|exact this|(simp only [qx,aB,qM,qa,aI,qz,qj,qh,qb,← q0,← q1,← q2];exact this)
 ·exact h.elim
def Ji (c:Chart) (P:Int) (M:List Tk) (k:Nat):St:={ t:=asg [(1,aI P),(2,.ptr 0 0),(4,.ptr 1 0),(7,.row 2),(8,aI k)],h:=ql [(0,.cells (qb c)),(1,.cells [.nil,aI 0,.nil]),(2,.row 64 7 (M.map eTk))],n:=3 }
def wU:=vj @ty3 (vj @xh (vj @jG (vj @QX (vj @ym (vj @ti3.eq_1 (vj @vF.eq_1 (vj @jh.eq_1 (vj @Qc.eq_1 @jS.eq_1))))))))
def Za:=vj @aI.eq_1 (@aB.eq_1)
end Go.Sym.B
