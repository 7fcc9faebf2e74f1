/- Walks and what they compute, joined: part 1. -/
import Derived.Test.YtfljkbcphmnjkaaGreatDoorZB3
import Derived.Shelf.Strings.OnBuilder
import Derived.Shelf.Strconv.Itoa3
import Derived.Test.YtfljkbcphmnjkaaGreatDoorProg
import Derived.KernelRfl
set_option linter.all false
namespace Go.Sym.B
open Go Go.Sym Go.Proofs Go.Sym.C
theorem _root_.Go.Sym.vj {a b:Prop} (x:a) (y:b):a∧b:=⟨x,y⟩
def _root_.Go.Sym.uq:=@Vo
def _root_.Go.Sym.ux:=@JV
def _root_.Go.Sym.uz:=@Xr
def _root_.Go.Sym.uj:=@V5
def _root_.Go.Sym.uk:=@Us
def _root_.Go.Sym.uw:=@UW
def _root_.Go.Sym.uv:=@Uy
def _root_.Go.Sym.vq:=@Qan
def _root_.Go.Sym.vx:=@Qcs
def _root_.Go.Sym.vz:=@QfC
def Ya:=vj @VD (vj @QV (vj @xg (vj @xB (vj @VC (vj @JR.eq_1 (vj @Qh.eq_1 (vj @y9.eq_1 (vj @vJ.eq_1 @J4.eq_1))))))))
def QbC:=vj @aI.eq_1 (@aB.eq_1)
theorem QeJ (more:List Tk) (hm:more.length≤100):Fn noB Tryz.prog 4 [qw more] noH (.agg [.sl ((zw []).cabins.map qo),aI 4,.row 0]) (qj [(0,.row 31 7 ((zw more).sold.map eTk))]) 0:=by
 have env:Env (fun _=>True) Tryz.prog tyB (tab [(12,za false wL)]):=qO ⟨QcV,trivial⟩
 refine Fn.of (A:=fun _=>True) (n0:=0) (D:=noD) (Fn0 Tryz.func4 rfl (fun vs w=>by kernel_rfl) (by kernel_rfl)) (by simp) (by simp [AV.ids,qw]) (fun i o h=>by cases h) (fun _ _ _ _=>trivial) qG ?_
 have hx:(100:Nat)+2≤maxLen:=by decide
 have h1:more.length+2≤maxLen:=by omega
 have h2:2+more.length≤maxLen:=by omega
 repeat' (first|(apply nx;with_reducible constructor)|refine uq (by decide) ?_|((first|refine vx env fun Q hQ=>?_|refine vz fun Q hQ=>?_);simp only [vkt,seval,Ya,QbC,aTk,cTk,qw,eTk,rTk,mTk,wL,zw,qa,qb,qo,List.length_map,hm,h1,h2];(try simp only [ite_and]);(repeat' (first|with_reducible assumption|refine And.intro ?_ ?_|intro hp));all_goals (first|(refine hQ _ ?_;clear hQ Q)|(refine hQ _ (fun h=>?_) (fun h=>?_) <;> clear hQ Q <;> (try simp only [vki,reduceCtorEq] at h))|(refine vq ?_;kernel_rfl)|omega|assumption|with_reducible rfl|skip)))
 simp only [zw,qa,qb,qo,List.map_cons,List.map_nil]
 (simp only [vrt,Tryz.results4,vkt,seval,Ya,QbC,aTk,cTk,qw,eTk,rTk,mTk,wL,zw,qa,qb,qo,List.length_map];refine Fin.ok (fun j=>if j=0 then some 3 else none) [1] ?_ ?_ ?_ ?_ ?_ rfl;all_goals (try simp only [vle,vkt,seval,Ya,QbC,aTk,cTk,qw,eTk,rTk,mTk,wL,zw,qa,qb,qo,List.length_map]))
 all_goals first|rfl|(simp [eTk];done)
def vg (S:St):List AV→Option Pk
 |[.nil]=>some { ar:=[.sl []],v:=.agg [.sl ((zw []).cabins.map qo),.v (.int .i64 4),.row 0],L1:=[some (.row 31 7 ((zw []).sold.map eTk))] }
 |_=>none
theorem eChR {A:Frm→Prop}:qC A Tryz.prog 4 (fnE vg):=wK fun S bs q h hp=>by
 unfold vg at h
 split at h
 ·cases h;exact QeJ [] (by decide)
 ·cases h
def Qae (p:List Bunk) (k:Int):Bool:=p.any fun b=>decide (b.cab=k)
def emH (c:Chart) (s:Int) (k:Nat) (m:Nat):Bool:=(List.range m).all fun (j:Nat)=>!Yy c.sold ⟨(k:Int),(j:Int)⟩ s
def ltB (c:Chart) (p:List Bunk) (s:Int) (k:Nat):Bool:=Qae p k && emH c s k (c.cabins.getD k default).beds.toNat
def ltC (c:Chart) (p:List Bunk) (s:Int):Nat→Nat
 |0=>0
 |k+1=>ltC c p s k+if ltB c p s k then 1 else 0
def ltS (c:Chart) (a:Ask) (p:List Bunk):Nat→Nat
 |0=>0
 |j+1=>ltS c a p j+ltC c p (a.frm+(j:Int)) c.cabins.length
def Qge (c:Chart) (a:Ask) (p:List Bunk):Nat:=ltS c a p (a.to - a.frm).toNat
def mxK (f:Nat→Int):Nat→Int × Nat
 |0=>(-1,0)
 |i+1=>if (mxK f i).1 < f i then (f i,i) else mxK f i
theorem QeS (l:List Tk) (t:Tk) (s i:Int):yj (l++[t]) s i=(yj l s i && !(atB s t && decide (t.cab=i))):=by
 unfold yj
 rw [List.all_append]
 simp
theorem Vp {cs:List Cabin} {a:Ask}:∀ (m:Nat) (sold:List Tk) (begun:List Bunk),∀ x ∈ wZ cs a m sold begun,∃ new:List Bunk,x.1=begun++new∧∀ s i:Int,yj x.2 s i=(yj sold s i && new.all fun b=>!((decide (a.frm≤s) && decide (s < a.to)) && decide (b.cab=i)))
 |0,sold,begun,x,hx=>by
  simp only [wZ,List.mem_singleton] at hx
  subst hx
  exact ⟨[],by simp,fun s i=>by simp⟩
 |m+1,sold,begun,x,hx=>by
  rw [Qt,List.mem_flatMap] at hx
  obtain ⟨b,hb,hx⟩:=hx
  unfold gbL at hx
  split at hx
  ·obtain ⟨new,h1,h2⟩:=Vp m _ _ x hx
   refine ⟨b :: new,by rw [h1];simp,fun s i=>?_⟩
   rw [h2,QeS,List.all_cons,Bool.and_assoc]
   rfl
  ·simp at hx
theorem QfN {s:Int} {t:Tk}:inB s t.frm (t.to - 1)=atB s t:=by
 unfold inB atB
 congr 1
 rw [decide_eq_decide];omega
theorem Qg5 {c:Chart} (hv:Val c) {k:Nat} (s:Int):emH c s k (c.cabins.getD k default).beds.toNat=yj c.sold s k:=by
 rw [Bool.eq_iff_iff]
 unfold emH yj
 rw [List.all_eq_true,List.all_eq_true]
 constructor
 ·intro h t ht
  cases hq:(atB s t && decide (t.cab=(k:Int))) with
  |false=>rfl
  |true =>
   rw [Bool.and_eq_true,decide_eq_true_eq] at hq
   obtain ⟨h1,h2⟩:=hq
   have hk:=hv.tk t ht
   have hb:=hk.bed
   rw [h2] at hb
   have hb:0≤t.bed∧t.bed < (c.cabins.getD k default).beds:=hb
   have:=h t.bed.toNat (List.mem_range.2 (by omega))
   rw [Int.toNat_of_nonneg hb.1] at this
   have hh:Yy c.sold ⟨k,t.bed⟩ s=true:=List.any_eq_true.2 ⟨t,ht,by unfold onB;rw [QfN,h1,decide_eq_true h2,decide_eq_true rfl];rfl⟩
   rw [hh] at this
   exact absurd this (by decide)
 ·intro h j hj
  cases hq:Yy c.sold ⟨(k:Int),(j:Int)⟩ s with
  |false=>rfl
  |true =>
   obtain ⟨t,ht,h1⟩:=List.any_eq_true.1 hq
   unfold onB at h1
   rw [QfN,Bool.and_eq_true,Bool.and_eq_true,decide_eq_true_eq] at h1
   have:=h t ht
   rw [h1.2,decide_eq_true h1.1.1] at this
   exact absurd this (by decide)
def U2 (sold:List Tk) (s:Int) (n:Nat):Nat:=((List.range n).filter fun (i:Nat)=>yj sold s i).length
theorem Kq (sold:List Tk) (s:Int) (n:Nat):U2 sold s (n+1)=U2 sold s n+if yj sold s n then 1 else 0:=by
 unfold U2
 rw [List.range_succ,List.filter_append,List.length_append]
 cases h:yj sold s n <;> simp [h]
def R3 (sold:List Tk) (n:Nat):Nat→Nat
 |0=>0
 |s+1=>R3 sold n s+U2 sold s n
theorem Xa (cs:List Cabin) (secs:Int) (sold:List Tk):kQ cs secs sold=(R3 sold cs.length secs.toNat:Int):=by
 unfold kQ
 have:∀ k,((List.range k).flatMap fun (s:Nat)=>(List.range cs.length).filter fun (i:Nat)=>yj sold s i).length=R3 sold cs.length k:=by
  intro k
  induction k with
  |zero=>rfl
  |succ k ih =>
   rw [List.range_succ,List.flatMap_append,List.length_append,ih,R3]
   simp [U2]
 rw [this]
theorem Kz {c:Chart} {a:Ask} (hv:Val c) {sold2:List Tk} {p:List Bunk} {s:Int} (h:∀ i:Int,yj sold2 s i=(yj c.sold s i && p.all fun b=>!((decide (a.frm≤s) && decide (s < a.to)) && decide (b.cab=i)))) :
  ∀ n,U2 c.sold s n=U2 sold2 s n+if a.frm≤s∧s < a.to then ltC c p s n else 0
 |0=>by
  have:∀ l:List Tk,U2 l s 0=0:=fun l=>rfl
  rw [this,this]
  split <;> rfl
 |n+1=>by
  have ih:=Kz hv h n
  rw [Kq,Kq,ih,h n]
  by_cases hs:a.frm≤s∧s < a.to
  ·rw [if_pos hs,if_pos hs,ltC]
   have hm:(p.all fun b=>!((decide (a.frm≤s) && decide (s < a.to)) && decide (b.cab=(n:Int))))=!Qae p n:=by
    unfold Qae
    rw [decide_eq_true hs.1,decide_eq_true hs.2,List.not_any_eq_all_not]
    rfl
   have hl:ltB c p s n=(Qae p n && yj c.sold s n):=by unfold ltB;rw [Qg5 hv]
   rw [hm,hl]
   cases Qae p n <;> cases yj c.sold s n <;> simp <;> omega
  ·rw [if_neg hs,if_neg hs]
   have hm:(p.all fun b=>!((decide (a.frm≤s) && decide (s < a.to)) && decide (b.cab=(n:Int))))=true:=by
    rw [show (decide (a.frm≤s) && decide (s < a.to))=false by rw [Bool.and_eq_false_iff];by_cases h1:a.frm≤s;right;simpa using fun h=>hs ⟨h1,h⟩;left;simpa using h1]
    simp
   rw [hm]
   cases yj c.sold s n <;> simp
theorem KY {c:Chart} {a:Ask} (hv:Val c) {sold2:List Tk} {p:List Bunk} (h:∀ s i:Int,yj sold2 s i=(yj c.sold s i && p.all fun b=>!((decide (a.frm≤s) && decide (s < a.to)) && decide (b.cab=i)))) {f t:Nat} (hf:a.frm=f) (ht:a.to=t) :
  ∀ k,R3 c.sold c.cabins.length k=R3 sold2 c.cabins.length k+ltS c a p (min k t - f)
 |0=>by simp [R3,ltS]
 |k+1=>by
  rw [R3,R3,KY hv h hf ht k,Kz hv (h k)]
  rw [hf,ht]
  by_cases hk:f≤k∧k < t
  ·rw [if_pos (by omega),show min (k+1) t - f=(min k t - f)+1 by omega,ltS,hf,show (f:Int)+((min k t - f:Nat):Int)=(k:Int) by omega]
   omega
  ·rw [if_neg (by omega),show min (k+1) t - f=min k t - f by omega]
   omega
theorem Qbx {c:Chart} {a:Ask} (h:wX c a=0) {x:List Bunk × List Tk} (hx:x ∈ plP c a):kQ c.cabins c.secs x.2=kQ c.cabins c.secs c.sold - Qge c a x.1:=by
 have hv:=(Za h).val
 have hw:=Qdh h
 obtain ⟨new,h1,h2⟩:=Vp _ _ _ x hx
 rw [List.nil_append] at h1
 rw [Xa,Xa]
 obtain ⟨f,hf⟩:∃ f:Nat,a.frm=f:=⟨a.frm.toNat,by omega⟩
 obtain ⟨t,ht⟩:∃ t:Nat,a.to=t:=⟨a.to.toNat,by omega⟩
 have:=KY hv h2 hf ht c.secs.toNat
 rw [this,← h1]
 unfold Qge
 rw [show min c.secs.toNat t - f=(a.to - a.frm).toNat by omega]
 omega
theorem QhF (cs:List Cabin) (secs:Int) (sold:List Tk):0≤kQ cs secs sold:=by rw [Xa];omega
def rsF (c:Chart) (a:Ask) (i:Nat):Int:=kQ c.cabins c.secs c.sold - Qge c a ((plP c a).getD i default).1
theorem Qja {c:Chart} {a:Ask} (h:wX c a=0):∀ j,j≤(plP c a).length→(j=0∧bsK c a j=(false,[],0))∨(bsK c a j=(true,((plP c a).getD (mxK (rsF c a) j).2 default).1,(mxK (rsF c a) j).1)∧(mxK (rsF c a) j).2 < j)
 |0,_=>.inl ⟨rfl,rfl⟩
 |j+1,hj=>by
  right
  have hm:kQ c.cabins c.secs ((plP c a).getD j default).2=rsF c a j:=Qbx h (xV (by omega))
  have h0:0≤rsF c a j:=by rw [← hm];exact QhF _ _ _
  rw [bsK,hm]
  rcases Qja h j (by omega) with ⟨h1,h2⟩|⟨h1,h2⟩
  ·subst h1
   rw [h2,mxK,mxK]
   simp only [Bool.not_false,Bool.true_or,if_true]
   rw [if_pos (by omega)]
   exact ⟨rfl,by simp only;omega⟩
  ·rw [h1,mxK]
   simp only [Bool.not_true,Bool.false_or,decide_eq_true_eq]
   split
   ·exact ⟨rfl,by simp only;omega⟩
   ·exact ⟨rfl,by omega⟩
theorem QjN {c:Chart} {a:Ask} {j:Nat} (hj:j < (plP c a).length):((plP c a).getD j default).1.length=a.sexes.length:=by
 have:=YL a.sexes.length c.sold [] _ (xV (l:=plP c a) (d:=default) hj)
 simpa using this
def Xv (a:Ask) (l:List Bunk) (k:Nat):List Tk:=(List.range k).map fun i=>WG a i (l.getD i default)
theorem Qfw (a:Ask) (l:List Bunk) (k:Nat):Xv a l (k+1)=Xv a l k++[WG a k (l.getD k default)]:=by
 unfold Xv
 rw [List.range_succ,List.map_append];rfl
theorem Qie (a:Ask) (l:List Bunk) (k:Nat):(Xv a l k).length=k:=by simp [Xv]
def VU (c:Chart) (a:Ask):Chart × Int:=if (yV c a).2 ≠ 0 then (⟨[],0,[]⟩,(yV c a).2) else if (8:Int) < (c.sold.length:Int)+((yV c a).1.length:Int) then (⟨[],0,[]⟩,6) else (⟨c.cabins,c.secs,c.sold++Xv a (yV c a).1 (yV c a).1.length⟩,0)
theorem QiH {c:Chart} {a:Ask} (h:(yV c a).2=0):wX c a=0∧(yV c a).1.length=a.sexes.length∧(yV c a).1 ∈ xZ c a:=by
 have h0:wX c a=0:=by
  unfold yV at h
  split at h
  ·assumption
  ·exact absurd h (by assumption)
 have hP:xZ c a=(plP c a).map (·.1):=by unfold xZ;rw [if_pos h0]
 rcases Qja h0 (plP c a).length (Nat.le_refl _) with ⟨h1,h2⟩|⟨h1,h2⟩
 ·have:(yV c a).2=11:=by unfold yV;rw [if_pos h0,h2];rfl
  omega
 ·have hb:(yV c a).1=((plP c a).getD (mxK (rsF c a) (plP c a).length).2 default).1:=by
   unfold yV;rw [if_pos h0,h1];rfl
  refine ⟨h0,by rw [hb,QjN h2], ?_⟩
  rw [hb,hP]
  exact List.mem_map.2 ⟨_,xV h2,rfl⟩
def slS (c:Chart) (a:Ask) (l:List Bunk) (k:Nat):St:={ t:=asg [(3,.ptr 1 0),(4,.ptr 2 0),(5,aI 0),(6,qd l),(8,.ptr 3 0),(31,qd l),(32,aI l.length),(33,aI k)],h:=qj [(0,.cells (qb c)),(1,.cells (ql a)),(2,.cells [.nil,aI 0,.nil]),(3,qg c.cabins c.secs 4),(4,qf (c.sold++Xv a l k))],n:=5 }
def yN:=vj @ty3 (vj @ty4 (vj @QV (vj @xg (vj @QU (vj @xB (vj @Zu (vj @WE (vj @YM (vj @Q0 (vj @Vw (vj @ti3.eq_1 (vj @ti4.eq_1 (vj @Qh.eq_1 (vj @y9.eq_1 (vj @Qi.eq_1 (vj @vJ.eq_1 (vj @QP.eq_1 (vj @Zr.eq_1 (vj @JN.eq_1 (vj @Ql.eq_1 @JU.eq_1))))))))))))))))))))
def ZM:=vj @aI.eq_1 (vj @aB.eq_1 (vj @qD.eq_1 (vj @wz.eq_1 (vj @QJ (@Ue)))))
set_option maxHeartbeats 4000000 in
theorem QhV (c:Chart) (a:Ask) (hc:c.cabins.length≤maxLen) (ha:a.sexes.length≤maxLen):FnV Tryz.prog 22 [qa c,qx a] (.tup [qa (VU c a).1,aI (VU c a).2]):=by
 have env:Env (fun _=>True) Tryz.prog tyB (tab [(13,za false zo),(44,fnE zh),(57,fnE kE)]):=qO ⟨QbD,Vk,Qi8,trivial⟩
 refine Fn.of (A:=fun _=>True) (n0:=0) (D:=noD) (Fn0 Tryz.func22 rfl (fun vs w=>by kernel_rfl) (by kernel_rfl)) (by simp) (by simp [AV.ids,AV.idsL,qa,qb,qx,ql]) (fun i o h=>by cases h) (fun _ _ _ _=>trivial) qG ?_
 have ec:(⟨c.cabins,c.secs,c.sold⟩:Chart)=c:=rfl
 have ea:(⟨a.party,a.frm,a.to,a.sexes,a.dog⟩:Ask)=a:=rfl
 obtain ⟨l,hl⟩:∃ l,(yV c a).1=l:=⟨_,rfl⟩
 obtain ⟨e,he⟩:∃ e,(yV c a).2=e:=⟨_,rfl⟩
 have hs:VU c a=if e ≠ 0 then (⟨[],0,[]⟩,e) else if (8:Int) < (c.sold.length:Int)+(l.length:Int) then (⟨[],0,[]⟩,6) else (⟨c.cabins,c.secs,c.sold++Xv a l l.length⟩,0):=by unfold VU;rw [hl,he]
 rw [hs]
 by_cases h0:e=0
 ·obtain ⟨hb,hll,_⟩:=QiH (he.trans h0)
  rw [hl] at hll
  obtain ⟨h1,h2⟩:=Q7 hb
  have hv:=Qo h1
  have b1:=hv.car.cabs
  have b2:=hv.many
  have b3:=Za hb
  have b4:=b3.sx
  have b5:c.sold.length≤100000:=by omega
  have b6:c.cabins.length≤100000:=by omega
  have b7:l.length≤3:=by omega
  have hm:(100000:Nat)≤maxLen:=by decide
  have w1:IntKind.wrap .i64 ((c.sold.length:Int)+(l.length:Int))=(c.sold.length:Int)+(l.length:Int):=wrap64 (by omega) (by omega)
  rw [if_neg (by omega)]
  rw [h0] at he
  by_cases h8:(8:Int) < (c.sold.length:Int)+(l.length:Int)
  ·rw [if_pos h8]
   have d8:decide ((8:Int) < (c.sold.length:Int)+(l.length:Int))=true:=decide_eq_true h8
   repeat' (first|(apply nx;with_reducible constructor)|refine uq (by decide) ?_|((first|refine vx env fun Q hQ=>?_|refine vz fun Q hQ=>?_);simp only [vkt,seval,yN,ZM,qh,qd,qy,qR,aTk,cTk,zg,qc,mTk,qa,qb,qx,ql,qg,qf,qm,yX,slS,zo,zh,kE,List.length_map,ec,ea,hl,he,w1,d8,decide_true];(try simp only [ite_and]);(repeat' (first|with_reducible assumption|refine And.intro ?_ ?_|intro hp));all_goals (first|(refine hQ _ ?_;clear hQ Q)|(refine hQ _ (fun h=>?_) (fun h=>?_) <;> clear hQ Q <;> (try simp only [vki,reduceCtorEq] at h))|(refine vq ?_;kernel_rfl)|omega|assumption|with_reducible rfl|skip)))
   (simp only [vrt,Tryz.results22,vkt,seval,yN,ZM,qh,qd,qy,qR,aTk,cTk,zg,qc,mTk,qa,qb,qx,ql,qg,qf,qm,yX,slS,zo,zh,kE,List.length_map];refine Fin.val rfl ?_;(try simp only [AV.le,AV.leL]))
   all_goals first|rfl|(simp;done)
  ·rw [if_neg h8]
   have d8:decide ((8:Int) < (c.sold.length:Int)+(l.length:Int))=false:=decide_eq_false h8
   repeat' (first|(apply nx;with_reducible constructor)|refine uq (by decide) ?_|((first|refine vx env fun Q hQ=>?_|refine vz fun Q hQ=>?_);simp only [vkt,seval,yN,ZM,qh,qd,qy,qR,aTk,cTk,zg,qc,mTk,qa,qb,qx,ql,qg,qf,qm,yX,slS,zo,zh,kE,List.length_map,ec,ea,hl,he,w1,d8,b5,b6,decide_true];(try simp only [ite_and]);(repeat' (first|with_reducible assumption|refine And.intro ?_ ?_|intro hp));all_goals (first|(refine hQ _ ?_;clear hQ Q)|(refine hQ _ (fun h=>?_) (fun h=>?_) <;> clear hQ Q <;> (try simp only [vki,reduceCtorEq] at h))|(refine vq ?_;kernel_rfl)|omega|assumption|with_reducible rfl|skip)))
   refine zt (fun k:{ k:Nat // k≤l.length }=>slS c a l k.1) (fun k=>l.length - k.1) ⟨0,Nat.zero_le _⟩ ?_ fun ⟨k,hk⟩=>?_
   ·simp only [slS,show Xv a l 0=[] from rfl,List.append_nil]
    (refine Le.ok (fun j=>[0,1,2,3,4][j]?) [] ?_;constructor;all_goals (try simp only [vle,vkt,seval,yN,ZM,qh,qd,qy,qR,aTk,cTk,zg,qc,mTk,qa,qb,qx,ql,qg,qf,qm,yX,slS,zo,zh,kE,List.length_map]))
    all_goals first|rfl|(simp;done)
   simp only at hk ⊢
   obtain ⟨T,hT⟩:∃ T,c.sold++Xv a l k=T:=⟨_,rfl⟩
   simp only [slS,hT]
   by_cases hkl:k < l.length
   ·have d1:decide ((k:Int) < (l.length:Int))=true:=decide_eq_true (by omega)
    have e9:IntKind.wrap .i64 ((k:Int)+1)=((k+1:Nat):Int):=by rw [wrap64 (by omega) (by omega)];rfl
    have i0:((k:Int)).toNat=k:=rfl
    have hkx:k < a.sexes.length:=by omega
    obtain ⟨b,hbk⟩:∃ b,l.getD k default=b:=⟨_,rfl⟩
    have htl:T.length≤100:=by rw [← hT,List.length_append,Qie];omega
    have hTs:c.sold++Xv a l (k+1)=T++[WG a k b]:=by rw [Qfw,← List.append_assoc,hT,hbk]
    repeat' (first|(apply nx;with_reducible constructor)|refine uq (by decide) ?_|((first|refine vx env fun Q hQ=>?_|refine vz fun Q hQ=>?_);simp only [vkt,seval,yN,ZM,qh,qd,qy,qR,aTk,cTk,zg,qc,mTk,qa,qb,qx,ql,qg,qf,qm,yX,slS,zo,zh,kE,List.length_map,d1,e9,i0,hkl,hkx,hbk,htl];(try simp only [ite_and]);(repeat' (first|with_reducible assumption|refine And.intro ?_ ?_|intro hp));all_goals (first|(refine hQ _ ?_;clear hQ Q)|(refine hQ _ (fun h=>?_) (fun h=>?_) <;> clear hQ Q <;> (try simp only [vki,reduceCtorEq] at h))|(refine vq ?_;kernel_rfl)|omega|assumption|with_reducible rfl|skip)))
    refine ⟨⟨k+1,hkl⟩,by show l.length - (k+1) < l.length - k;omega, ?_⟩
    simp only [slS,hTs]
    (refine Le.ok (fun j=>[0,1,2,3,8][j]?) [] ?_;constructor;all_goals (try simp only [vle,vkt,seval,yN,ZM,qh,qd,qy,qR,aTk,cTk,zg,qc,mTk,qa,qb,qx,ql,qg,qf,qm,yX,slS,zo,zh,kE,List.length_map]))
    all_goals first|rfl|(simp;done)
   ·have d1:decide ((k:Int) < (l.length:Int))=false:=decide_eq_false (by omega)
    obtain rfl:k=l.length:=by omega
    rw [hT]
    repeat' (first|(apply nx;with_reducible constructor)|refine uq (by decide) ?_|((first|refine vx env fun Q hQ=>?_|refine vz fun Q hQ=>?_);simp only [vkt,seval,yN,ZM,qh,qd,qy,qR,aTk,cTk,zg,qc,mTk,qa,qb,qx,ql,qg,qf,qm,yX,slS,zo,zh,kE,List.length_map,d1];(try simp only [ite_and]);(repeat' (first|with_reducible assumption|refine And.intro ?_ ?_|intro hp));all_goals (first|(refine hQ _ ?_;clear hQ Q)|(refine hQ _ (fun h=>?_) (fun h=>?_) <;> clear hQ Q <;> (try simp only [vki,reduceCtorEq] at h))|(refine vq ?_;kernel_rfl)|omega|assumption|with_reducible rfl|skip)))
    (simp only [vrt,Tryz.results22,vkt,seval,yN,ZM,qh,qd,qy,qR,aTk,cTk,zg,qc,mTk,qa,qb,qx,ql,qg,qf,qm,yX,slS,zo,zh,kE,List.length_map];refine Fin.val rfl ?_;(try simp only [AV.le,AV.leL]))
    all_goals first|rfl|(simp;done)|exact ⟨⟨trivial,trivial,⟨_,_,rfl⟩,trivial⟩,trivial,trivial⟩
 ·rw [if_pos h0]
  have hne:decide (e=0)=false:=decide_eq_false h0
  repeat' (first|(apply nx;with_reducible constructor)|refine uq (by decide) ?_|((first|refine vx env fun Q hQ=>?_|refine vz fun Q hQ=>?_);simp only [vkt,seval,yN,ZM,qh,qd,qy,qR,aTk,cTk,zg,qc,mTk,qa,qb,qx,ql,qg,qf,qm,yX,slS,zo,zh,kE,List.length_map,ec,ea,hl,he,hne];(try simp only [ite_and]);(repeat' (first|with_reducible assumption|refine And.intro ?_ ?_|intro hp));all_goals (first|(refine hQ _ ?_;clear hQ Q)|(refine hQ _ (fun h=>?_) (fun h=>?_) <;> clear hQ Q <;> (try simp only [vki,reduceCtorEq] at h))|(refine vq ?_;kernel_rfl)|omega|assumption|with_reducible rfl|skip)))
  (simp only [vrt,Tryz.results22,vkt,seval,yN,ZM,qh,qd,qy,qR,aTk,cTk,zg,qc,mTk,qa,qb,qx,ql,qg,qf,qm,yX,slS,zo,zh,kE,List.length_map];refine Fin.val rfl ?_;(try simp only [AV.le,AV.leL]))
  all_goals first|rfl|(simp;done)
def rmT (sex frm to:Int) (b:Bunk):Tk:=⟨0,sex,b.cab,b.bed,frm,to,false⟩
def rmB (c:Chart) (sex frm to:Int) (b:Bunk):Bool:=decide (yC (rmT sex frm to b) c.sold=0)
def rmN (c:Chart) (sex frm to:Int) (j:Nat):Nat:=(((qV c.cabins).take j).filter (rmB c sex frm to)).length
theorem Qhc (c:Chart) (sex frm to:Int) {j:Nat} (h:j < (qV c.cabins).length):rmN c sex frm to (j+1)=rmN c sex frm to j+if rmB c sex frm to ((qV c.cabins).getD j default) then 1 else 0:=by
 unfold rmN
 rw [List.take_succ_eq_append_getElem h,List.filter_append,List.length_append,List.getD_eq_getElem?_getD,List.getElem?_eq_getElem h]
 show _+(List.filter _ [_]).length=_
 cases hb:rmB c sex frm to (qV c.cabins)[j] <;> simp [hb]
theorem Qkm (c:Chart) (sex frm to:Int) (j:Nat):rmN c sex frm to j≤j:=by
 unfold rmN
 exact Nat.le_trans (List.length_filter_le _ _) (by rw [List.length_take];omega)
def QcG (c:Chart) (sex frm to:Int):Nat:=rmN c sex frm to (qV c.cabins).length
def QZ (c:Chart) (sex frm to:Int):Int × Int:=if zS c ≠ 0 then (0,zS c) else if inB sex 1 2=false then (0,8) else if WT c.secs frm to ≠ 0 then (0,WT c.secs frm to) else ((QcG c sex frm to:Int),0)
theorem QhJ {cs:List Cabin} (h2:∀ x ∈ cs,1≤x.beds∧x.beds≤3):(qV cs).length≤3 * cs.length:=by
 rw [KG]
 induction cs with
 |nil=>simp [ZK]
 |cons x l ih =>
  have h3:=ih fun y hy=>h2 y (List.mem_cons_of_mem _ hy)
  have h4:=h2 x (List.mem_cons_self ..)
  simp only [ZK,List.map_cons,List.sum_cons,List.length_cons] at h3 ⊢
  omega
theorem QcH {cs:List Cabin} (h1:cs.length≤3) (h2:∀ x ∈ cs,1≤x.beds∧x.beds≤3):(qV cs).length≤9:=by
 have:=QhJ h2
 omega
def rmL:List (Nat × AV):=[(5,.ptr 1 0),(6,.ptr 2 0),(7,.ptr 3 0),(12,.ptr 6 0),(13,.ptr 7 0),(33,.clo 66 [.ptr 8 0])]
def rmH (c:Chart) (sex frm to:Int) (j:Nat):List (Nat × AObj):=[(1,.cells [aI sex]),(2,.cells [aI frm]),(3,.cells [aI to]),(4,qg c.cabins c.secs 5),(5,qf c.sold),(6,.cells [.ptr 4 0]),(7,.cells [aI (rmN c sex frm to j)])]
theorem UH (cs:List Cabin) (s:Int):zf [8] 10 0 [buO cs s]=[(8,buO cs s)]:=rfl
def jQ:=vj @ty3 (vj @xg (vj @QU (vj @xB (vj @Zu (vj @Wl (vj @ti3.eq_1 (vj @y9.eq_1 (vj @Qi.eq_1 (vj @vJ.eq_1 (vj @QP.eq_1 @Zt.eq_1))))))))))
def kI:=vj @aI.eq_1 (vj @aB.eq_1 (vj @QJ (@Ue)))
set_option maxHeartbeats 4000000 in
theorem Qhu (c:Chart) (sex frm to:Int) (hc:c.cabins.length≤maxLen):FnV Tryz.prog 18 [qa c,aI sex,aI frm,aI to] (.tup [aI (QZ c sex frm to).1,aI (QZ c sex frm to).2]):=by
 have env:Env (fun F=>F.r=none) Tryz.prog tyB (tab [(7,za true qp),(42,za true sin),(43,za true yc),(44,fnE zh),(32,fnE qK)]):=qO ⟨Zk,ein,eway,Vk,VF,trivial⟩
 refine Fn.of (A:=fun F=>F.r=none) (n0:=0) (D:=noD) (Fn0 Tryz.func18 rfl (fun vs w=>by kernel_rfl) (by kernel_rfl)) (by simp) (by simp [AV.ids,AV.idsL,qa,qb,aI]) (fun i o h=>by cases h) (fun _ _ _ h=>h) qG ?_
 have ec:(⟨c.cabins,c.secs,c.sold⟩:Chart)=c:=rfl
 by_cases h0:zS c=0
 ·cases h1:inB sex 1 2 with
  |false =>
   have hr:QZ c sex frm to=(0,8):=by unfold QZ;rw [if_neg (fun h=>h h0),if_pos h1]
   rw [hr]
   repeat' (first|(apply nx;with_reducible constructor)|refine uq (by decide) ?_|refine zk ?_|refine zF ?_|refine zD ?_|refine zC ?_|((first|refine vx env fun Q hQ=>?_|refine vz fun Q hQ=>?_);simp only [vkt,seval,jQ,kI,qh,aTk,cTk,mTk,qc,qa,qb,qg,qf,qm,buO,rmL,rmH,qp,sin,yc,zh,qK,jB,List.length_map,ec,h0,h1,decide_true];(try simp only [ite_and]);(repeat' (first|with_reducible assumption|refine And.intro ?_ ?_|intro hp));all_goals (first|(refine hQ _ ?_;clear hQ Q)|(refine hQ _ (fun h=>?_) (fun h=>?_) <;> clear hQ Q <;> (try simp only [vki,reduceCtorEq] at h))|(refine vq ?_;kernel_rfl)|omega|assumption|with_reducible rfl|skip)))
   (simp only [vrt,Tryz.results18,vkt,seval,jQ,kI,qh,aTk,cTk,mTk,qc,qa,qb,qg,qf,qm,buO,rmL,rmH,qp,sin,yc,zh,qK,jB,List.length_map];refine Fin.val rfl ?_;(try simp only [AV.le,AV.leL]))
   all_goals first|rfl|(simp;done)
  |true =>
   obtain ⟨w,hw⟩:∃ w,WT c.secs frm to=w:=⟨_,rfl⟩
   by_cases h2:w=0
   ·rw [h2] at hw
    have hr:QZ c sex frm to=((QcG c sex frm to:Int),0):=by unfold QZ;rw [if_neg (fun h=>h h0),if_neg (by rw [h1];decide),if_neg (fun h=>h hw)]
    rw [hr]
    have hv:=Qo h0
    have b1:=hv.car.cabs
    have b2:=hv.many
    have b3:c.sold.length≤100000:=by omega
    have b4:c.cabins.length≤100000:=by omega
    have b5:c.sold.length≤100:=by omega
    have b6:=QcH b1.2 hv.car.beds
    repeat' (first|(apply nx;with_reducible constructor)|refine uq (by decide) ?_|refine zk ?_|refine zF ?_|refine zD ?_|refine zC ?_|((first|refine vx env fun Q hQ=>?_|refine vz fun Q hQ=>?_);simp only [vkt,seval,jQ,kI,qh,aTk,cTk,mTk,qc,qa,qb,qg,qf,qm,buO,rmL,rmH,qp,sin,yc,zh,qK,jB,List.length_map,ec,h0,h1,hw,b3,b4,decide_true];(try simp only [ite_and]);(repeat' (first|with_reducible assumption|refine And.intro ?_ ?_|intro hp));all_goals (first|(refine hQ _ ?_;clear hQ Q)|(refine hQ _ (fun h=>?_) (fun h=>?_) <;> clear hQ Q <;> (try simp only [vki,reduceCtorEq] at h))|(refine vq ?_;kernel_rfl)|omega|assumption|with_reducible rfl|skip)))
    refine vM (S':={ t:=asg rmL,h:=qj (rmH c sex frm to 0++[(8,buO c.cabins c.secs)]),n:=9,j:=0,d:=[],m:=0 }) ?_ ?_
    ·show Le _ { t:=asg [(5,.ptr 1 0),(6,.ptr 2 0),(7,.ptr 3 0),(12,.ptr 6 0),(13,.ptr 7 0),(33,.clo 66 [.ptr 8 0])],h:=qj [(1,.cells [aI sex]),(2,.cells [aI frm]),(3,.cells [aI to]),(4,qg c.cabins c.secs 5),(5,qf c.sold),(6,.cells [.ptr 4 0]),(7,.cells [aI 0]),(8,buO c.cabins c.secs)],n:=9,j:=0,d:=[],m:=0 }
     (refine Le.ok some [] ?_;constructor;all_goals (try simp only [vle,vkt,seval,jQ,kI,qh,aTk,cTk,mTk,qc,qa,qb,qg,qf,qm,buO,rmL,rmH,qp,sin,yc,zh,qK,jB,List.length_map]))
     all_goals first|rfl|(simp;done)
    rw [← UH c.cabins c.secs]
    have hRo:Rounds (fun _=>true) (qV c.cabins).length (qV c.cabins).length:=⟨Nat.le_refl _,fun _ _=>rfl,fun h=>absurd h (Nat.lt_irrefl _)⟩
    refine yQ (fun F h=>h) 1 (L:=rmL) (L':=rmL) (xs:=[]) (hs:=[8]) (n:=9) (nl:=0) (hc:=rmH c sex frm to) (Lp:=[buO c.cabins c.secs]) (jj:=fun _=>0) (d:=[]) (ys:=buY c.cabins) (hl:=fun _=>[buO c.cabins c.secs]) (ans:=fun _=>true) (ex:=.ret) (caps:=[.ptr 8 0]) (caps0:=[.ptr 0 0]) (N:=(qV c.cabins).length) (R:=(qV c.cabins).length) (A':=fun _ _=>True) rfl (Yj c.cabins c.secs ⟨by omega,fun x hx=>by have:=hv.car.beds x hx;omega⟩) hRo (.inl rfl) ?_ ?_ ?_ rfl (by simp) ?_ (by simp) (fun _ _ _ _ _ _=>trivial) ?_ ?_ (fun _ _=>rfl) (fun x hx=>by cases hx) (fun j hj p _ h=>by cases h) ?_ (fun j hj=>?_) ?_ (fun j hj=>?_) (fun hall=>?_) (fun hpos hlast=>by cases hlast)
    ·simp [AV.leL,AV.le]
    ·simp [AV.nocbL,AV.nocb]
    ·simp [Z5,buO,AObj.nocb,AV.nocbL,AV.nocb,AObj.ids,AV.ids,AV.idsL,AObj.ren,AV.renL,AV.ren,AObj.le,AV.leL,AV.le,yD]
    ·simp [rmH,qj]
    ·simp [rmH,qj]
    ·simp [rmH,AObj.ids,AV.ids,AV.idsL,qg,qf,aI]
    ·simp [JG,rmL,AV.ids,AV.idsL]
    ·refine ⟨?_,rfl, ?_, ?_,rfl, ?_⟩
     ·simp [Qg,rmH,AObj.ids,AV.ids,AV.idsL,qg,qf,aI]
     ·simp [ZG,buO,AObj.nocb,AV.nocbL,AV.nocb,AObj.ids,AV.ids,AV.idsL]
     ·simp [YI,buY,qh,AV.nocb,AV.nocbL,AV.ids,AV.idsL]
     ·simp [Qf,ZP,zf,qz,rmH,rmL,xQ,AV.ids,AV.idsL,ADf.ids,List.range_succ]
    ·simp [Qg,rmH,AObj.ids,AV.ids,AV.idsL,qg,qf,aI]
    ·have env:Env (fun _:Frm=>True) Tryz.prog tyB (tab [(45,fnE jB)]):=qO ⟨Qjd,trivial⟩
     have hs:=Qhc c sex frm to hj
     have hle:=Qkm c sex frm to j
     obtain ⟨b,hb⟩:∃ b,(qV c.cabins).getD j default=b:=⟨_,rfl⟩
     obtain ⟨n,hn⟩:∃ n,rmN c sex frm to j=n:=⟨_,rfl⟩
     rw [hb,hn] at hs
     rw [hn] at hle
     have et:(⟨0,sex,b.cab,b.bed,frm,to,false⟩:Tk)=rmT sex frm to b:=rfl
     have hrb:rmB c sex frm to b=decide (yC (rmT sex frm to b) c.sold=0):=rfl
     have w1:IntKind.wrap .i64 ((n:Int)+1)=((n+1:Nat):Int):=by rw [wrap64 (by omega) (by omega)];rfl
     have hst:jf rmL [34] [8] 9 0 (buY c.cabins j) (rmH c sex frm to j) [buO c.cabins c.secs]={ t:=asg [(34,qh b),(5,.ptr 1 0),(6,.ptr 2 0),(7,.ptr 3 0),(12,.ptr 6 0),(13,.ptr 7 0),(33,.clo 66 [.ptr 8 0])],h:=qj [(9,.mark),(1,.cells [aI sex]),(2,.cells [aI frm]),(3,.cells [aI to]),(4,qg c.cabins c.secs 5),(5,qf c.sold),(6,.cells [.ptr 4 0]),(7,.cells [aI n]),(8,buO c.cabins c.secs)],n:=10,m:=10 }:=by
      simp only [jf,buY,hb,qh,List.map_cons,List.map_nil,AV.ren,AV.renL,List.zip_cons_cons,List.zip_nil_right,rmH,hn,rmL,QY,List.cons_append,List.nil_append,UH]
      rfl
     show Sym _ _ _ (jf rmL [34] [8] 9 0 (buY c.cabins j) (rmH c sex frm to j) [buO c.cabins c.secs]) _
     rw [hst]
     cases hq:rmB c sex frm to b with
     |true =>
      rw [hq] at hs hrb
      have hrb:=hrb.symm
      have hs:rmN c sex frm to (j+1)=n+1:=hs
      repeat' (first|(apply nx;with_reducible constructor)|refine uq (by decide) ?_|refine zk ?_|refine zF ?_|refine zD ?_|refine zC ?_|((first|refine vx env fun Q hQ=>?_|refine vz fun Q hQ=>?_);simp only [vkt,seval,jQ,kI,qh,aTk,cTk,mTk,qc,qa,qb,qg,qf,qm,buO,rmL,rmH,qp,sin,yc,zh,qK,jB,List.length_map,et,hrb,b5,w1];(try simp only [ite_and]);(repeat' (first|with_reducible assumption|refine And.intro ?_ ?_|intro hp));all_goals (first|(refine hQ _ ?_;clear hQ Q)|(refine hQ _ (fun h=>?_) (fun h=>?_) <;> clear hQ Q <;> (try simp only [vki,reduceCtorEq] at h))|(refine vq ?_;kernel_rfl)|omega|assumption|with_reducible rfl|skip)))
      refine ⟨rfl,rfl,some,_,RFin.okQ some [] ?_⟩
      constructor
      all_goals (try simp only [vle,xn,vW,qz,hs,vkt,seval,jQ,kI,qh,aTk,cTk,mTk,qc,qa,qb,qg,qf,qm,buO,rmL,rmH,qp,sin,yc,zh,qK,jB,List.length_map])
      all_goals first|rfl|(simp;done)
     |false =>
      rw [hq] at hs hrb
      have hrb:=hrb.symm
      have hs:rmN c sex frm to (j+1)=n:=hs
      repeat' (first|(apply nx;with_reducible constructor)|refine uq (by decide) ?_|refine zk ?_|refine zF ?_|refine zD ?_|refine zC ?_|((first|refine vx env fun Q hQ=>?_|refine vz fun Q hQ=>?_);simp only [vkt,seval,jQ,kI,qh,aTk,cTk,mTk,qc,qa,qb,qg,qf,qm,buO,rmL,rmH,qp,sin,yc,zh,qK,jB,List.length_map,et,hrb,b5];(try simp only [ite_and]);(repeat' (first|with_reducible assumption|refine And.intro ?_ ?_|intro hp));all_goals (first|(refine hQ _ ?_;clear hQ Q)|(refine hQ _ (fun h=>?_) (fun h=>?_) <;> clear hQ Q <;> (try simp only [vki,reduceCtorEq] at h))|(refine vq ?_;kernel_rfl)|omega|assumption|with_reducible rfl|skip)))
      refine ⟨rfl,rfl,some,_,RFin.okQ some [] ?_⟩
      constructor
      all_goals (try simp only [vle,xn,vW,qz,hs,vkt,seval,jQ,kI,qh,aTk,cTk,mTk,qc,qa,qb,qg,qf,qm,buO,rmL,rmH,qp,sin,yc,zh,qK,jB,List.length_map])
      all_goals first|rfl|(simp;done)
    ·have eh:qj ((9,AObj.mark) :: rmH c sex frm to (qV c.cabins).length++zf [8] (9+1) 0 [buO c.cabins c.secs])=qj [(9,.mark),(7,.cells [aI (QcG c sex frm to)]),(1,.cells [aI sex]),(2,.cells [aI frm]),(3,.cells [aI to]),(4,qg c.cabins c.secs 5),(5,qf c.sold),(6,.cells [.ptr 4 0]),(8,buO c.cabins c.secs)]:=by
      rw [show zf [8] (9+1) 0 [buO c.cabins c.secs]=zf [8] 10 0 [buO c.cabins c.secs] from rfl,UH]
      funext i
      simp only [rmH,List.cons_append,List.nil_append,qj,QcG]
      repeat' split
      all_goals first|rfl|omega
     rw [eh]
     simp only [rmL]
     repeat' (first|(apply nx;with_reducible constructor)|refine uq (by decide) ?_|refine zk ?_|refine zF ?_|refine zD ?_|refine zC ?_|((first|refine vx env fun Q hQ=>?_|refine vz fun Q hQ=>?_);simp only [vkt,seval,jQ,kI,qh,aTk,cTk,mTk,qc,qa,qb,qg,qf,qm,buO,rmL,rmH,qp,sin,yc,zh,qK,jB,List.length_map];(try simp only [ite_and]);(repeat' (first|with_reducible assumption|refine And.intro ?_ ?_|intro hp));all_goals (first|(refine hQ _ ?_;clear hQ Q)|(refine hQ _ (fun h=>?_) (fun h=>?_) <;> clear hQ Q <;> (try simp only [vki,reduceCtorEq] at h))|(refine vq ?_;kernel_rfl)|omega|assumption|with_reducible rfl|skip)))
     (simp only [vrt,Tryz.results18,vkt,seval,jQ,kI,qh,aTk,cTk,mTk,qc,qa,qb,qg,qf,qm,buO,rmL,rmH,qp,sin,yc,zh,qK,jB,List.length_map];refine Fin.val rfl ?_;(try simp only [AV.le,AV.leL]))
     all_goals first|rfl|(simp;done)
   ·have hr:QZ c sex frm to=(0,w):=by unfold QZ;rw [if_neg (fun h=>h h0),if_neg (by rw [h1];decide),hw,if_pos h2]
    rw [hr]
    have d2:decide (w=0)=false:=decide_eq_false h2
    repeat' (first|(apply nx;with_reducible constructor)|refine uq (by decide) ?_|refine zk ?_|refine zF ?_|refine zD ?_|refine zC ?_|((first|refine vx env fun Q hQ=>?_|refine vz fun Q hQ=>?_);simp only [vkt,seval,jQ,kI,qh,aTk,cTk,mTk,qc,qa,qb,qg,qf,qm,buO,rmL,rmH,qp,sin,yc,zh,qK,jB,List.length_map,ec,h0,h1,hw,d2,decide_true];(try simp only [ite_and]);(repeat' (first|with_reducible assumption|refine And.intro ?_ ?_|intro hp));all_goals (first|(refine hQ _ ?_;clear hQ Q)|(refine hQ _ (fun h=>?_) (fun h=>?_) <;> clear hQ Q <;> (try simp only [vki,reduceCtorEq] at h))|(refine vq ?_;kernel_rfl)|omega|assumption|with_reducible rfl|skip)))
    (simp only [vrt,Tryz.results18,vkt,seval,jQ,kI,qh,aTk,cTk,mTk,qc,qa,qb,qg,qf,qm,buO,rmL,rmH,qp,sin,yc,zh,qK,jB,List.length_map];refine Fin.val rfl ?_;(try simp only [AV.le,AV.leL]))
    all_goals first|rfl|(simp;done)
 ·obtain ⟨e,he⟩:∃ e,zS c=e:=⟨_,rfl⟩
  rw [he] at h0
  have hr:QZ c sex frm to=(0,e):=by unfold QZ;rw [he,if_pos h0]
  rw [hr]
  have d0:decide (e=0)=false:=decide_eq_false h0
  repeat' (first|(apply nx;with_reducible constructor)|refine uq (by decide) ?_|refine zk ?_|refine zF ?_|refine zD ?_|refine zC ?_|((first|refine vx env fun Q hQ=>?_|refine vz fun Q hQ=>?_);simp only [vkt,seval,jQ,kI,qh,aTk,cTk,mTk,qc,qa,qb,qg,qf,qm,buO,rmL,rmH,qp,sin,yc,zh,qK,jB,List.length_map,ec,he,d0];(try simp only [ite_and]);(repeat' (first|with_reducible assumption|refine And.intro ?_ ?_|intro hp));all_goals (first|(refine hQ _ ?_;clear hQ Q)|(refine hQ _ (fun h=>?_) (fun h=>?_) <;> clear hQ Q <;> (try simp only [vki,reduceCtorEq] at h))|(refine vq ?_;kernel_rfl)|omega|assumption|with_reducible rfl|skip)))
  (simp only [vrt,Tryz.results18,vkt,seval,jQ,kI,qh,aTk,cTk,mTk,qc,qa,qb,qg,qf,qm,buO,rmL,rmH,qp,sin,yc,zh,qK,jB,List.length_map];refine Fin.val rfl ?_;(try simp only [AV.le,AV.leL]))
  all_goals first|rfl|(simp;done)
structure RmInv (C:Chart) (a:Ask) (i:Nat) (c:Chart):Prop where
 chk:zS c=0
 cabs:c.cabins=C.cabins
 secs:c.secs=C.secs
 len:c.sold.length=C.sold.length+i
 lt:∀ t ∈ c.sold,t.party < 60+(i:Int)
def xz (n:Int):Int:=if n=0 then 0 else if n=1∨n=2∨n=4 then 1 else if n=7 then 3 else 2
def XK:=vj @ty3 (vj @ty163 (vj @ti3.eq_1 @QcD.eq_1))
def Qct:=vj @aI.eq_1 (vj @aB.eq_1 (@aU.eq_1))
theorem QiA (n:Int) (hn:0≤n∧n < 8):FnV Tryz.prog 90 [aU n] (aI (xz n)):=by
 have env:Env (fun _=>True) Tryz.prog tyB (tab []):=qO trivial
 have hc:n=0∨n=1∨n=2∨n=3∨n=4∨n=5∨n=6∨n=7:=by omega
 rcases hc with rfl|rfl|rfl|rfl|rfl|rfl|rfl|rfl
 all_goals
  refine Fn.of (A:=fun _=>True) (n0:=0) (D:=noD) (Fn0 Tryz.func90 rfl (fun vs w=>by kernel_rfl) (by kernel_rfl)) (by simp) (by simp [AV.ids,AV.idsL,aU]) (fun i o h=>by cases h) (fun _ _ _ _=>trivial) qG ?_
  repeat' (first|(apply nx;with_reducible constructor)|refine uq (by decide) ?_|((first|refine vx env fun Q hQ=>?_|refine vz fun Q hQ=>?_);simp only [vkt,seval,XK,Qct];(try simp only [ite_and]);(repeat' (first|with_reducible assumption|refine And.intro ?_ ?_|intro hp));all_goals (first|(refine hQ _ ?_;clear hQ Q)|(refine hQ _ (fun h=>?_) (fun h=>?_) <;> clear hQ Q <;> (try simp only [vki,reduceCtorEq] at h))|(refine vq ?_;kernel_rfl)|omega|assumption|with_reducible rfl|skip)))
  (simp only [vrt,Tryz.results90,vkt,seval,XK,Qct];refine Fin.val rfl ?_;(try simp only [AV.le,AV.leL]))
  all_goals first|kernel_rfl|rfl
def QaK:List AV→Prop × AV
 |[.v (.int .u64 a)]=>(0≤a∧a < 8,aI (xz a))
 |_=>(False,.junk)
theorem eoc64 {A:Frm→Prop}:qC A Tryz.prog 90 (za true QaK):=zx fun vs hv h=>by
 clear hv
 unfold QaK at h ⊢
 split at h
 ·exact ⟨by simp [aI,AV.plain],fun _=>by simp [aI,AV.flat],QiA _ h⟩
 ·exact h.elim
def Qag:=vj @ty76 (vj @ty161 (vj @ti76.eq_1 @QcS.eq_1))
def Qc1:=vj @aI.eq_1 (vj @aB.eq_1 (@aU.eq_1))
theorem oc_fn (n:Int) (hn:0≤n∧n < 8):FnV Tryz.prog 65 [aU n] (aI (xz n)):=by
 have env:Env (fun _=>True) Tryz.prog tyB (tab [(90,za true QaK)]):=qO ⟨eoc64,trivial⟩
 refine Fn.of (A:=fun _=>True) (n0:=0) (D:=noD) (Fn0 Tryz.func65 rfl (fun vs w=>by kernel_rfl) (by kernel_rfl)) (by simp) (by simp [AV.ids,AV.idsL,aU]) (fun i o h=>by cases h) (fun _ _ _ _=>trivial) qG ?_
 obtain ⟨h1,h2⟩:=hn
 repeat' (first|(apply nx;with_reducible constructor)|refine uq (by decide) ?_|((first|refine vx env fun Q hQ=>?_|refine vz fun Q hQ=>?_);simp only [vkt,seval,Qag,Qc1,QaK,h1,h2];(try simp only [ite_and]);(repeat' (first|with_reducible assumption|refine And.intro ?_ ?_|intro hp));all_goals (first|(refine hQ _ ?_;clear hQ Q)|(refine hQ _ (fun h=>?_) (fun h=>?_) <;> clear hQ Q <;> (try simp only [vki,reduceCtorEq] at h))|(refine vq ?_;kernel_rfl)|omega|assumption|with_reducible rfl|skip)))
 (simp only [vrt,Tryz.results65,vkt,seval,Qag,Qc1,QaK];refine Fin.val rfl ?_;(try simp only [AV.le,AV.leL]))
 all_goals first|rfl|(simp;done)
def soc:List AV→Prop × AV
 |[.v (.int .u64 a)]=>(0≤a∧a < 8,aI (xz a))
 |_=>(False,.junk)
theorem eoc {A:Frm→Prop}:qC A Tryz.prog 65 (za true soc):=zx fun vs hv h=>by
 clear hv
 unfold soc at h ⊢
 split at h
 ·exact ⟨by simp [aI,AV.plain],fun _=>by simp [aI,AV.flat],oc_fn _ h⟩
 ·exact h.elim
def Qc8:=vj @aI.eq_1 (vj @aB.eq_1 (@aU.eq_1))
theorem Qh6 (n:Int) (hn:0≤n∧n < 8):FnV Tryz.prog 31 [aU n] (aI (xz n)):=by
 have env:Env (fun _=>True) Tryz.prog tyB (tab [(65,za true soc)]):=qO ⟨eoc,trivial⟩
 refine Fn.of (A:=fun _=>True) (n0:=0) (D:=noD) (Fn0 Tryz.func31 rfl (fun vs w=>by kernel_rfl) (by kernel_rfl)) (by simp) (by simp [AV.ids,AV.idsL,aU]) (fun i o h=>by cases h) (fun _ _ _ _=>trivial) qG ?_
 obtain ⟨h1,h2⟩:=hn
 repeat' (first|(apply nx;with_reducible constructor)|refine uq (by decide) ?_|((first|refine vx env fun Q hQ=>?_|refine vz fun Q hQ=>?_);simp only [vkt,seval,Qc8,soc,h1,h2];(try simp only [ite_and]);(repeat' (first|with_reducible assumption|refine And.intro ?_ ?_|intro hp));all_goals (first|(refine hQ _ ?_;clear hQ Q)|(refine hQ _ (fun h=>?_) (fun h=>?_) <;> clear hQ Q <;> (try simp only [vki,reduceCtorEq] at h))|(refine vq ?_;kernel_rfl)|omega|assumption|with_reducible rfl|skip)))
 (simp only [vrt,Tryz.results31,vkt,seval,Qc8,soc];refine Fin.val rfl ?_;(try simp only [AV.le,AV.leL]))
 all_goals first|rfl|(simp;done)
def Qc:List AV→Prop × AV
 |[.v (.int .u64 a)]=>(0≤a∧a < 8,aI (xz a))
 |_=>(False,.junk)
theorem emany {A:Frm→Prop}:qC A Tryz.prog 31 (za true Qc):=zx fun vs hv h=>by
 clear hv
 unfold Qc at h ⊢
 split at h
 ·exact ⟨by simp [aI,AV.plain],fun _=>by simp [aI,AV.flat],Qh6 _ h⟩
 ·exact h.elim
def Yf (b n:Int):Bool:=decide (b / 2 ^ n.toNat % 2=1)
def KV:=vj @XD @Yg.eq_1
def Qde:=vj @aI.eq_1 (vj @aB.eq_1 (@aU.eq_1))
theorem QjB (b n:Int) (hb:0≤b∧b < 8) (hn:0≤n∧n < 3):FnV Tryz.prog 33 [aU b,aI n] (aB (Yf b n)):=by
 have env:Env (fun _=>True) Tryz.prog tyB (tab []):=qO trivial
 have hc:b=0∨b=1∨b=2∨b=3∨b=4∨b=5∨b=6∨b=7:=by omega
 have hd:n=0∨n=1∨n=2:=by omega
 rcases hc with rfl|rfl|rfl|rfl|rfl|rfl|rfl|rfl <;> rcases hd with rfl|rfl|rfl
 all_goals
  refine Fn.of (A:=fun _=>True) (n0:=0) (D:=noD) (Fn0 Tryz.func33 rfl (fun vs w=>by kernel_rfl) (by kernel_rfl)) (by simp) (by simp [AV.ids,AV.idsL,aU,aI]) (fun i o h=>by cases h) (fun _ _ _ _=>trivial) qG ?_
  repeat' (first|(apply nx;with_reducible constructor)|refine uq (by decide) ?_|((first|refine vx env fun Q hQ=>?_|refine vz fun Q hQ=>?_);simp only [vkt,seval,KV,Qde];(try simp only [ite_and]);(repeat' (first|with_reducible assumption|refine And.intro ?_ ?_|intro hp));all_goals (first|(refine hQ _ ?_;clear hQ Q)|(refine hQ _ (fun h=>?_) (fun h=>?_) <;> clear hQ Q <;> (try simp only [vki,reduceCtorEq] at h))|(refine vq ?_;kernel_rfl)|omega|assumption|with_reducible rfl|skip)))
  (simp only [vrt,Tryz.results33,vkt,seval,KV,Qde];refine Fin.val rfl ?_;(try simp only [AV.le,AV.leL]))
  all_goals first|kernel_rfl|rfl
def xR:List AV→Prop × AV
 |[.v (.int .u64 b),.v (.int .i64 n)]=>((0≤b∧b < 8)∧0≤n∧n < 3,aB (Yf b n))
 |_=>(False,.junk)
theorem ehas {A:Frm→Prop}:qC A Tryz.prog 33 (za true xR):=zx fun vs hv h=>by
 clear hv
 unfold xR at h ⊢
 split at h
 ·exact ⟨by simp [aB,AV.plain],fun _=>by simp [aB,AV.flat],QjB _ _ h.1 h.2⟩
 ·exact h.elim
theorem QaN:∀ a:_root_.Fin 8,∀ b:_root_.Fin 3,(0≤ZO (a.val:Int) (b.val:Int)∧ZO (a.val:Int) (b.val:Int) < 8)∧∀ n:_root_.Fin 3,Yf (ZO (a.val:Int) (b.val:Int)) (n.val:Int)=(decide ((b.val:Int)=(n.val:Int)) || Yf (a.val:Int) (n.val:Int)):=by decide +kernel
theorem Qiw {a b:Int} (ha:0≤a∧a < 8) (hb:0≤b∧b < 3):0≤ZO a b∧ZO a b < 8:=by
 have:=(QaN ⟨a.toNat,by omega⟩ ⟨b.toNat,by omega⟩).1
 simpa [Int.toNat_of_nonneg ha.1,Int.toNat_of_nonneg hb.1] using this
theorem Qfs {a b n:Int} (ha:0≤a∧a < 8) (hb:0≤b∧b < 3) (hn:0≤n∧n < 3):Yf (ZO a b) n=(decide (b=n) || Yf a n):=by
 have:=(QaN ⟨a.toNat,by omega⟩ ⟨b.toNat,by omega⟩).2 ⟨n.toNat,by omega⟩
 simpa [Int.toNat_of_nonneg ha.1,Int.toNat_of_nonneg hb.1,Int.toNat_of_nonneg hn.1] using this
theorem Qbf (a:Int):0≤xz a∧xz a≤3:=by
 unfold xz
 split
 ·omega
 split
 ·omega
 split <;> omega
theorem JQ {c:Chart} (hv:Van c) (s:Int):∀ k,k≤c.sold.length→∀ i:Nat,i < 3→(0≤(yu c.sold s k).getD i 0∧(yu c.sold s k).getD i 0 < 8)∧∀ n:Int,0≤n∧n < 3→Yf ((yu c.sold s k).getD i 0) n=Yy (c.sold.take k) ⟨(i:Int),n⟩ s
 |0,_,i,hi=>by
  have e:(yu c.sold s 0).getD i 0=0:=by
   show ([0,0,0]:List Int).getD i 0=0
   match i,hi with
   |0,_=>rfl
   |1,_=>rfl
   |2,_=>rfl
  rw [e]
  refine ⟨by omega,fun n hn=>?_⟩
  have:n=0∨n=1∨n=2:=by omega
  rcases this with rfl|rfl|rfl <;> rfl
 |k+1,h,i,hi=>by
  have hlt:k < c.sold.length:=by omega
  obtain ⟨ih1,ih2⟩:=JQ hv s k (by omega) i hi
  obtain ⟨t,ht⟩:∃ t,c.sold.getD k default=t:=⟨_,rfl⟩
  have hok:=hv.tk t (ht ▸ xV hlt)
  have hcl:=hv.car.cabs
  have hbb:=hv.car.beds _ (xV (d:=default) hok.cab.2)
  have hbed:=hok.bed
  have hbed3:0≤t.bed∧t.bed < 3:=by omega
  have hl:=xJ c.sold s k (by omega)
  have hcab:=hok.cab
  have hT:Yy (c.sold.take (k+1))=fun b s=>Yy (c.sold.take k) b s || onB b s t:=by
   funext b s
   unfold Yy
   rw [List.take_succ_eq_append_getElem hlt,List.any_append,← ht]
   simp [List.getD_eq_getElem?_getD,hlt]
  rw [Wv hlt,ht,ZY,hT]
  simp only
  cases hb:inB s t.frm (t.to - 1) with
  |false =>
   rw [if_neg (by decide)]
   refine ⟨ih1,fun n hn=>?_⟩
   rw [ih2 n hn]
   unfold onB
   rw [hb];simp
  |true =>
   rw [if_pos rfl]
   by_cases hci:t.cab.toNat=i
   ·have e1:((yu c.sold s k).set t.cab.toNat (ZO ((yu c.sold s k).getD t.cab.toNat 0) t.bed)).getD i 0=ZO ((yu c.sold s k).getD i 0) t.bed:=by
     rw [hci,List.getD_eq_getElem?_getD,List.getElem?_set_self (by omega)];rfl
    rw [e1]
    refine ⟨Qiw ih1 hbed3,fun n hn=>?_⟩
    rw [Qfs ih1 hbed3 hn,ih2 n hn]
    unfold onB
    rw [hb,decide_eq_true (show t.cab=(i:Int) by omega)]
    simp only [Bool.true_and,Bool.and_true]
    exact Bool.or_comm _ _
   ·have e1:((yu c.sold s k).set t.cab.toNat (ZO ((yu c.sold s k).getD t.cab.toNat 0) t.bed)).getD i 0=(yu c.sold s k).getD i 0:=by
     rw [List.getD_eq_getElem?_getD,List.getElem?_set_ne hci,← List.getD_eq_getElem?_getD]
    rw [e1]
    refine ⟨ih1,fun n hn=>?_⟩
    rw [ih2 n hn]
    unfold onB
    rw [decide_eq_false (show ¬ t.cab=(i:Int) by omega)]
    simp
def ldP (x y z:Int):Nat→Int
 |0=>0
 |1=>xz x
 |2=>xz x+xz y
 |_=>xz x+xz y+xz z
def U1 (c:Chart) (s:Int):Int:=ldP ((yu c.sold s c.sold.length).getD 0 0) ((yu c.sold s c.sold.length).getD 1 0) ((yu c.sold s c.sold.length).getD 2 0) 3
def Yv (c:Chart):List Int × Int:=if zS c=0 then ((List.range c.secs.toNat).map fun (s:Nat)=>U1 c s,0) else ([],zS c)
def ldK (c:Chart) (s:Nat):List Int:=(List.range s).map fun (s:Nat)=>U1 c s
theorem Qe3 (c:Chart) (s:Nat):ldK c (s+1)=ldK c s++[U1 c s]:=by
 unfold ldK
 rw [List.range_succ,List.map_append];rfl
theorem QiB (c:Chart) (s:Nat):(ldK c s).length=s:=by simp [ldK]
def ldS (c:Chart) (s:Nat) (T:List (Nat × AV)):St:={ t:=asg (T++[(1,.ptr 0 0),(5,.row 1),(16,aI c.secs),(17,aI s)]),h:=qj [(0,.cells (qb c)),(1,.row 3 1 ((ldK c s).map wz))],n:=2 }
def ja:=vj @ty3 (vj @xg (vj @Zu (vj @WE (vj @XD (vj @ty79 (vj @ti3.eq_1 (vj @y9.eq_1 (vj @QP.eq_1 (vj @Zr.eq_1 (vj @Yg.eq_1 @QaZ.eq_1))))))))))
def yT:=vj @aI.eq_1 (vj @aB.eq_1 (vj @aU.eq_1 (vj @qD.eq_1 (vj @wz.eq_1 (vj @Qaj (@QJ))))))
theorem Qho (c:Chart) (hc:c.cabins.length≤maxLen):FnV Tryz.prog 8 [qa c] (.tup [qD (Yv c).1,aI (Yv c).2]):=by
 have env:Env (fun _=>True) Tryz.prog tyB (tab [(7,za true qp),(30,za true qP),(31,za true Qc)]):=qO ⟨Zk,Uu,emany,trivial⟩
 refine Fn.of (A:=fun _=>True) (n0:=0) (D:=noD) (Fn0 Tryz.func8 rfl (fun vs w=>by kernel_rfl) (by kernel_rfl)) (by simp) (by simp [AV.ids,AV.idsL,qa,qb]) (fun i o h=>by cases h) (fun _ _ _ _=>trivial) qG ?_
 have ec:(⟨c.cabins,c.secs,c.sold⟩:Chart)=c:=rfl
 have hmx:(100000:Nat)≤maxLen:=by decide
 obtain ⟨e,he⟩:∃ e,zS c=e:=⟨_,rfl⟩
 by_cases h0:e=0
 ·rw [h0] at he
  have hE:Yv c=(ldK c c.secs.toNat,0):=by unfold Yv;rw [if_pos he];rfl
  rw [hE]
  have hv:=Qo he
  have hvan:=hv.van
  have hsec:=hv.car.secs
  repeat' (first|(apply nx;with_reducible constructor)|refine uq (by decide) ?_|((first|refine vx env fun Q hQ=>?_|refine vz fun Q hQ=>?_);simp only [vkt,seval,ja,yT,qa,qb,qc,mTk,ldS,qp,qP,Qc,ze,qL,zu,q9,qE,qJ,List.length_map,ec,he,decide_true];(try simp only [ite_and]);(repeat' (first|with_reducible assumption|refine And.intro ?_ ?_|intro hp));all_goals (first|(refine hQ _ ?_;clear hQ Q)|(refine hQ _ (fun h=>?_) (fun h=>?_) <;> clear hQ Q <;> (try simp only [vki,reduceCtorEq] at h))|(refine vq ?_;kernel_rfl)|omega|assumption|with_reducible rfl|skip)))
  refine zt (fun s:{ s:Nat // s≤c.secs.toNat }=>ldS c s.1 []) (fun s=>c.secs.toNat - s.1) ⟨0,Nat.zero_le _⟩ ?_ fun ⟨s,hs⟩=>?_
  ·simp only [ldS,show ldK c 0=[] from rfl,List.cons_append,List.nil_append]
   (refine Le.ok (fun i=>if i=1 then none else some i) [] ?_;constructor;all_goals (try simp only [vle,vkt,seval,ja,yT,qa,qb,qc,mTk,ldS,qp,qP,Qc,ze,qL,zu,q9,qE,qJ,List.length_map]))
   all_goals first|rfl|(simp;done)
  simp only at hs ⊢
  have hS:=Qe3 c s
  have hl:=QiB c s
  obtain ⟨K,hK⟩:∃ K,ldK c s=K:=⟨_,rfl⟩
  rw [hK] at hS hl
  simp only [ldS,hK,List.nil_append]
  by_cases hsl:s < c.secs.toNat
  ·have d1:decide ((s:Int) < c.secs)=true:=decide_eq_true (by omega)
   have e9:IntKind.wrap .i64 ((s:Int)+1)=((s+1:Nat):Int):=by rw [wrap64 (by omega) (by omega)];rfl
   have hb:=fun i hi=>(JQ hvan s c.sold.length (Nat.le_refl _) i hi).1
   have hPl:=xJ c.sold s c.sold.length (Nat.le_refl _)
   have hLN:U1 c s=ldP ((yu c.sold s c.sold.length).getD 0 0) ((yu c.sold s c.sold.length).getD 1 0) ((yu c.sold s c.sold.length).getD 2 0) 3:=rfl
   obtain ⟨P,hP⟩:∃ P,yu c.sold s c.sold.length=P:=⟨_,rfl⟩
   rw [hP] at hb hPl hLN
   obtain ⟨x,y,z,rfl⟩:∃ x y z,P=[x,y,z]:=by
    match P,hPl with
    |[x,y,z],_=>exact ⟨x,y,z,rfl⟩
   have bx:0≤x∧x < 8:=hb 0 (by omega)
   have by':0≤y∧y < 8:=hb 1 (by omega)
   have bz:0≤z∧z < 8:=hb 2 (by omega)
   have hLN:U1 c s=ldP x y z 3:=hLN
   have px:=Qbf x
   have py:=Qbf y
   have pz:=Qbf z
   obtain ⟨bx1,bx2⟩:=bx
   obtain ⟨by1,by2⟩:=by'
   obtain ⟨bz1,bz2⟩:=bz
   have hap:AV.agg (List.map aU [x,y,z])=.agg [.v (.int .u64 x),.v (.int .u64 y),.v (.int .u64 z)]:=rfl
   have hm1:List.map (fun n=>AV.v (.int .u64 n)) [x,y,z]=[.v (.int .u64 x),.v (.int .u64 y),.v (.int .u64 z)]:=rfl
   repeat' (first|(apply nx;with_reducible constructor)|refine uq (by decide) ?_|((first|refine vx env fun Q hQ=>?_|refine vz fun Q hQ=>?_);simp only [vkt,seval,ja,yT,qa,qb,qc,mTk,ldS,qp,qP,Qc,ze,qL,zu,q9,qE,qJ,List.length_map,ec,d1,hP,hvan,List.map_cons,List.map_nil];(try simp only [ite_and]);(repeat' (first|with_reducible assumption|refine And.intro ?_ ?_|intro hp));all_goals (first|(refine hQ _ ?_;clear hQ Q)|(refine hQ _ (fun h=>?_) (fun h=>?_) <;> clear hQ Q <;> (try simp only [vki,reduceCtorEq] at h))|(refine vq ?_;kernel_rfl)|omega|assumption|with_reducible rfl|skip)))
   refine zt (fun k:{ k:Nat // k≤3 }=>ldS c s [(7,aI (ldP x y z k.1)),(22,.agg [.v (.int .u64 x),.v (.int .u64 y),.v (.int .u64 z)]),(23,aI k.1)]) (fun k=>3 - k.1) ⟨0,Nat.zero_le _⟩ ?_ fun ⟨k,hk⟩=>?_
   ·simp only [ldS,hK,show ldP x y z 0=0 from rfl,List.cons_append,List.nil_append]
    (refine Le.ok some [] ?_;constructor;all_goals (try simp only [vle,vkt,seval,ja,yT,qa,qb,qc,mTk,ldS,qp,qP,Qc,ze,qL,zu,q9,qE,qJ,List.length_map]))
    all_goals first|rfl|(simp;done)
   simp only at hk ⊢
   have hc4:k=0∨k=1∨k=2∨k=3:=by omega
   simp only [ldS,hK,List.cons_append,List.nil_append]
   rcases hc4 with rfl|rfl|rfl|rfl
   ·have w1:IntKind.wrap .i64 (0+xz x)=xz x:=by rw [Int.zero_add];exact wrap64 (by omega) (by omega)
    simp only [show ldP x y z 0=0 from rfl]
    repeat' (first|(apply nx;with_reducible constructor)|refine uq (by decide) ?_|((first|refine vx env fun Q hQ=>?_|refine vz fun Q hQ=>?_);simp only [vkt,seval,ja,yT,qa,qb,qc,mTk,ldS,qp,qP,Qc,ze,qL,zu,q9,qE,qJ,List.length_map,bx1,bx2,w1];(try simp only [ite_and]);(repeat' (first|with_reducible assumption|refine And.intro ?_ ?_|intro hp));all_goals (first|(refine hQ _ ?_;clear hQ Q)|(refine hQ _ (fun h=>?_) (fun h=>?_) <;> clear hQ Q <;> (try simp only [vki,reduceCtorEq] at h))|(refine vq ?_;kernel_rfl)|omega|assumption|with_reducible rfl|skip)))
    refine ⟨⟨1,by omega⟩,by show 3 - 1 < 3 - 0;omega, ?_⟩
    simp only [ldS,hK,show ldP x y z 1=xz x from rfl,List.cons_append,List.nil_append]
    (refine Le.ok some [] ?_;constructor;all_goals (try simp only [vle,vkt,seval,ja,yT,qa,qb,qc,mTk,ldS,qp,qP,Qc,ze,qL,zu,q9,qE,qJ,List.length_map]))
    all_goals first|rfl|(simp;done)
   ·have w1:IntKind.wrap .i64 (xz x+xz y)=xz x+xz y:=wrap64 (by omega) (by omega)
    simp only [show ldP x y z 1=xz x from rfl]
    repeat' (first|(apply nx;with_reducible constructor)|refine uq (by decide) ?_|((first|refine vx env fun Q hQ=>?_|refine vz fun Q hQ=>?_);simp only [vkt,seval,ja,yT,qa,qb,qc,mTk,ldS,qp,qP,Qc,ze,qL,zu,q9,qE,qJ,List.length_map,by1,by2,w1];(try simp only [ite_and]);(repeat' (first|with_reducible assumption|refine And.intro ?_ ?_|intro hp));all_goals (first|(refine hQ _ ?_;clear hQ Q)|(refine hQ _ (fun h=>?_) (fun h=>?_) <;> clear hQ Q <;> (try simp only [vki,reduceCtorEq] at h))|(refine vq ?_;kernel_rfl)|omega|assumption|with_reducible rfl|skip)))
    refine ⟨⟨2,by omega⟩,by show 3 - 2 < 3 - 1;omega, ?_⟩
    simp only [ldS,hK,show ldP x y z 2=xz x+xz y from rfl,List.cons_append,List.nil_append]
    (refine Le.ok some [] ?_;constructor;all_goals (try simp only [vle,vkt,seval,ja,yT,qa,qb,qc,mTk,ldS,qp,qP,Qc,ze,qL,zu,q9,qE,qJ,List.length_map]))
    all_goals first|rfl|(simp;done)
   ·have w1:IntKind.wrap .i64 (xz x+xz y+xz z)=xz x+xz y+xz z:=wrap64 (by omega) (by omega)
    simp only [show ldP x y z 2=xz x+xz y from rfl]
    repeat' (first|(apply nx;with_reducible constructor)|refine uq (by decide) ?_|((first|refine vx env fun Q hQ=>?_|refine vz fun Q hQ=>?_);simp only [vkt,seval,ja,yT,qa,qb,qc,mTk,ldS,qp,qP,Qc,ze,qL,zu,q9,qE,qJ,List.length_map,bz1,bz2,w1];(try simp only [ite_and]);(repeat' (first|with_reducible assumption|refine And.intro ?_ ?_|intro hp));all_goals (first|(refine hQ _ ?_;clear hQ Q)|(refine hQ _ (fun h=>?_) (fun h=>?_) <;> clear hQ Q <;> (try simp only [vki,reduceCtorEq] at h))|(refine vq ?_;kernel_rfl)|omega|assumption|with_reducible rfl|skip)))
    refine ⟨⟨3,by omega⟩,by show 3 - 3 < 3 - 2;omega, ?_⟩
    simp only [ldS,hK,show ldP x y z 3=xz x+xz y+xz z from rfl,List.cons_append,List.nil_append]
    (refine Le.ok some [] ?_;constructor;all_goals (try simp only [vle,vkt,seval,ja,yT,qa,qb,qc,mTk,ldS,qp,qP,Qc,ze,qL,zu,q9,qE,qJ,List.length_map]))
    all_goals first|rfl|(simp;done)
   ·have hm:K.length+1≤maxLen:=by omega
    have ek:K++[ldP x y z 3]=ldK c (s+1):=by rw [hS,hLN]
    obtain ⟨r,hr⟩:∃ r,ldP x y z 3=r:=⟨_,rfl⟩
    rw [hr] at ek
    simp only [hr]
    repeat' (first|(apply nx;with_reducible constructor)|refine uq (by decide) ?_|((first|refine vx env fun Q hQ=>?_|refine vz fun Q hQ=>?_);simp only [vkt,seval,ja,yT,qa,qb,qc,mTk,ldS,qp,qP,Qc,ze,qL,zu,q9,qE,qJ,List.length_map,hm,e9];(try simp only [ite_and]);(repeat' (first|with_reducible assumption|refine And.intro ?_ ?_|intro hp));all_goals (first|(refine hQ _ ?_;clear hQ Q)|(refine hQ _ (fun h=>?_) (fun h=>?_) <;> clear hQ Q <;> (try simp only [vki,reduceCtorEq] at h))|(refine vq ?_;kernel_rfl)|omega|assumption|with_reducible rfl|skip)))
    refine ⟨⟨s+1,hsl⟩,by show c.secs.toNat - (s+1) < c.secs.toNat - s;omega, ?_⟩
    simp only [ldS,← ek,List.cons_append,List.nil_append]
    (refine Le.ok (fun i=>if i=1 then some 3 else some i) [] ?_;constructor;all_goals (try simp only [vle,vkt,seval,ja,yT,qa,qb,qc,mTk,ldS,qp,qP,Qc,ze,qL,zu,q9,qE,qJ,List.length_map]))
    all_goals first|rfl|(rw [List.map_append];rfl)|(simp;done)|(intro i hi;rw [if_neg (by omega)];done)
  ·have d1:decide ((s:Int) < c.secs)=false:=decide_eq_false (by omega)
   obtain rfl:s=c.secs.toNat:=by omega
   rw [hK]
   repeat' (first|(apply nx;with_reducible constructor)|refine uq (by decide) ?_|((first|refine vx env fun Q hQ=>?_|refine vz fun Q hQ=>?_);simp only [vkt,seval,ja,yT,qa,qb,qc,mTk,ldS,qp,qP,Qc,ze,qL,zu,q9,qE,qJ,List.length_map,d1];(try simp only [ite_and]);(repeat' (first|with_reducible assumption|refine And.intro ?_ ?_|intro hp));all_goals (first|(refine hQ _ ?_;clear hQ Q)|(refine hQ _ (fun h=>?_) (fun h=>?_) <;> clear hQ Q <;> (try simp only [vki,reduceCtorEq] at h))|(refine vq ?_;kernel_rfl)|omega|assumption|with_reducible rfl|skip)))
   (simp only [vrt,Tryz.results8,vkt,seval,ja,yT,qa,qb,qc,mTk,ldS,qp,qP,Qc,ze,qL,zu,q9,qE,qJ,List.length_map];refine Fin.val rfl ?_;(try simp only [AV.le,AV.leL]))
   all_goals first|rfl|(simp;done)|exact ⟨⟨_,_,rfl⟩,trivial,trivial⟩
 ·have hE:Yv c=([],e):=by unfold Yv;rw [if_neg (by rw [he];exact h0),he]
  rw [hE]
  have d0:decide (e=0)=false:=decide_eq_false h0
  repeat' (first|(apply nx;with_reducible constructor)|refine uq (by decide) ?_|((first|refine vx env fun Q hQ=>?_|refine vz fun Q hQ=>?_);simp only [vkt,seval,ja,yT,qa,qb,qc,mTk,ldS,qp,qP,Qc,ze,qL,zu,q9,qE,qJ,List.length_map,ec,he,d0];(try simp only [ite_and]);(repeat' (first|with_reducible assumption|refine And.intro ?_ ?_|intro hp));all_goals (first|(refine hQ _ ?_;clear hQ Q)|(refine hQ _ (fun h=>?_) (fun h=>?_) <;> clear hQ Q <;> (try simp only [vki,reduceCtorEq] at h))|(refine vq ?_;kernel_rfl)|omega|assumption|with_reducible rfl|skip)))
  (simp only [vrt,Tryz.results8,vkt,seval,ja,yT,qa,qb,qc,mTk,ldS,qp,qP,Qc,ze,qL,zu,q9,qE,qJ,List.length_map];refine Fin.val rfl ?_;(try simp only [AV.le,AV.leL]))
  all_goals first|rfl|(simp;done)
def frB (c:Chart) (b:Bunk) (s:Nat):Bool:=decide ((s:Int) < c.secs) && !Yy c.sold b s
def gpK (c:Chart) (b:Bunk):Nat→Int × List Tk
 |0=>(-1,[])
 |s+1=>if frB c b s then (if (gpK c b s).1 < 0 then ((s:Int),(gpK c b s).2) else gpK c b s) else (if 0≤(gpK c b s).1 then (-1,(gpK c b s).2++[⟨0,0,b.cab,b.bed,(gpK c b s).1,(s:Int),false⟩]) else gpK c b s)
theorem UN (c:Chart) (b:Bunk):∀ s,(gpK c b s).2.length≤s
 |0=>Nat.le_refl _
 |s+1=>by
  have:=UN c b s
  rw [gpK]
  split
  ·split
   ·simp only;omega
   ·omega
  ·split
   ·rw [List.length_append,List.length_singleton];omega
   ·omega
def gpN (c:Chart):Nat:=c.secs.toNat+1
def gpP (c:Chart) (j:Nat):List Tk:=((qV c.cabins).take j).flatMap fun b=>(gpK c b (gpN c)).2
theorem Lj (c:Chart) {j:Nat} (h:j < (qV c.cabins).length):gpP c (j+1)=gpP c j++(gpK c ((qV c.cabins).getD j default) (gpN c)).2:=by
 unfold gpP
 rw [List.take_succ_eq_append_getElem h,List.flatMap_append,List.getD_eq_getElem?_getD,List.getElem?_eq_getElem h]
 simp
theorem QcL (c:Chart):∀ j,j≤(qV c.cabins).length→(gpP c j).length≤j * gpN c
 |0,_=>by simp [gpP]
 |j+1,h=>by
  have h1:=QcL c j (by omega)
  have h2:=UN c ((qV c.cabins).getD j default) (gpN c)
  rw [Lj c (by omega),List.length_append,Nat.succ_mul]
  omega
def QgK (c:Chart):List Tk:=gpP c (qV c.cabins).length
def Yr (c:Chart):List Tk × Int:=if zS c=0 then (QgK c,0) else ([],zS c)
def xU:List (Nat × AV):=[(1,.ptr 0 0),(5,.ptr 1 0),(16,.clo 66 [.ptr 2 0])]
def gaL:List (Nat × AV):=[(1,.ptr 0 0),(5,.ptr 1 0)]
def gaH (c:Chart) (j:Nat):List (Nat × AObj):=[(0,.cells (qb c)),(1,.cells [.row 3]),(3,qf (gpP c j))]
theorem Ui (cs:List Cabin) (s:Int):zf [2] 5 0 [buO cs s]=[(2,buO cs s)]:=rfl
def gaS (c:Chart) (b:Bunk) (T:List Tk) (U:List (Nat × AV)):St:={ t:=asg (U++[(1,.ptr 0 0),(5,.ptr 1 0),(6,.ptr 5 0),(20,aI (gpN c:Nat))]),h:=qj [(4,.mark),(0,.cells (qb c)),(1,.cells [.row 6]),(6,qf T),(2,buO c.cabins c.secs),(5,.cells [.v (.int .i64 b.cab),.v (.int .i64 b.bed)])],n:=7,m:=5 }
def zy:=vj @ty3 (vj @QV (vj @xg (vj @QU (vj @xB (vj @Zu (vj @XD (vj @ty79 (vj @ti3.eq_1 (vj @Qh.eq_1 (vj @y9.eq_1 (vj @Qi.eq_1 (vj @vJ.eq_1 (vj @QP.eq_1 (vj @Yg.eq_1 @QaZ.eq_1))))))))))))))
def wR:=vj @aI.eq_1 (vj @aB.eq_1 (vj @aU.eq_1 (@gaH.eq_1)))
set_option maxHeartbeats 4000000 in
theorem QiN (c:Chart) (hc:c.cabins.length≤maxLen):FnV Tryz.prog 9 [qa c] (.tup [qw (Yr c).1,aI (Yr c).2]):=by
 have env:Env (fun F=>F.r=none) Tryz.prog tyB (tab [(7,za true qp),(32,fnE qK)]):=qO ⟨Zk,VF,trivial⟩
 refine Fn.of (A:=fun F=>F.r=none) (n0:=0) (D:=noD) (Fn0 Tryz.func9 rfl (fun vs w=>by kernel_rfl) (by kernel_rfl)) (by simp) (by simp [AV.ids,AV.idsL,qa,qb]) (fun i o h=>by cases h) (fun _ _ _ h=>h) qG ?_
 have ec:(⟨c.cabins,c.secs,c.sold⟩:Chart)=c:=rfl
 have hmx:(100000:Nat)≤maxLen:=by decide
 obtain ⟨e,he⟩:∃ e,zS c=e:=⟨_,rfl⟩
 by_cases h0:e=0
 ·rw [h0] at he
  have hE:Yr c=(QgK c,0):=by unfold Yr;rw [if_pos he]
  rw [hE]
  have hv:=Qo he
  have hvan:=hv.van
  have hsec:=hv.car.secs
  have hcab:=hv.car.cabs
  have hbds:=hv.car.beds
  have hb9:=QcH hcab.2 hbds
  repeat' (first|(apply nx;with_reducible constructor)|refine uq (by decide) ?_|refine zk ?_|refine zF ?_|refine zD ?_|refine zC ?_|((first|refine vx env fun Q hQ=>?_|refine vz fun Q hQ=>?_);simp only [vkt,seval,zy,wR,qh,aTk,cTk,qw,eTk,rTk,mTk,qc,qa,qb,qf,buO,xU,gaL,gaS,qp,qP,xR,qK,ze,qL,zu,q9,qE,qJ,List.length_map,ec,he,decide_true];(try simp only [ite_and]);(repeat' (first|with_reducible assumption|refine And.intro ?_ ?_|intro hp));all_goals (first|(refine hQ _ ?_;clear hQ Q)|(refine hQ _ (fun h=>?_) (fun h=>?_) <;> clear hQ Q <;> (try simp only [vki,reduceCtorEq] at h))|(refine vq ?_;kernel_rfl)|omega|assumption|with_reducible rfl|skip)))
  refine vM (S':={ t:=asg xU,h:=qj (gaH c 0++[(2,buO c.cabins c.secs)]),n:=4,j:=0,d:=[],m:=0 }) ?_ ?_
  ·show Le _ { t:=asg [(1,.ptr 0 0),(5,.ptr 1 0),(16,.clo 66 [.ptr 2 0])],h:=qj [(0,.cells (qb c)),(1,.cells [.row 3]),(3,qf []),(2,buO c.cabins c.secs)],n:=4,j:=0,d:=[],m:=0 }
   (refine Le.ok (fun i=>if i=3 then none else some i) [] ?_;constructor;all_goals (try simp only [vle,vkt,seval,zy,wR,qh,aTk,cTk,qw,eTk,rTk,mTk,qc,qa,qb,qf,buO,xU,gaL,gaS,qp,qP,xR,qK,ze,qL,zu,q9,qE,qJ,List.length_map]))
   all_goals first|rfl|(simp;done)|(intro i hi;rw [if_neg (by omega)];done)
  rw [← Ui c.cabins c.secs]
  have hRo:Rounds (fun _=>true) (qV c.cabins).length (qV c.cabins).length:=⟨Nat.le_refl _,fun _ _=>rfl,fun h=>absurd h (Nat.lt_irrefl _)⟩
  refine yQ (fun F h=>h) 1 (L:=xU) (L':=gaL) (xs:=[]) (hs:=[2]) (n:=4) (nl:=0) (hc:=gaH c) (Lp:=[buO c.cabins c.secs]) (jj:=fun _=>0) (d:=[]) (ys:=buY c.cabins) (hl:=fun _=>[buO c.cabins c.secs]) (ans:=fun _=>true) (ex:=.ret) (caps:=[.ptr 2 0]) (caps0:=[.ptr 0 0]) (N:=(qV c.cabins).length) (R:=(qV c.cabins).length) (A':=fun _ _=>True) rfl (Yj c.cabins c.secs ⟨by omega,fun x hx=>by have:=hbds x hx;omega⟩) hRo (.inl rfl) ?_ ?_ ?_ rfl (by simp) ?_ (by simp) (fun _ _ _ _ _ _=>trivial) ?_ ?_ ?_ (fun x hx=>by cases hx) (fun j hj p _ h=>by cases h) ?_ (fun j hj=>?_) ?_ (fun j hj=>?_) (fun hall=>?_) (fun hpos hlast=>by cases hlast)
  ·simp [AV.leL,AV.le]
  ·simp [AV.nocbL,AV.nocb]
  ·simp [Z5,buO,AObj.nocb,AV.nocbL,AV.nocb,AObj.ids,AV.ids,AV.idsL,AObj.ren,AV.renL,AV.ren,AObj.le,AV.leL,AV.le,yD]
  ·simp [gaH,qj]
  ·simp [gaH,qj]
  ·simp [gaH,AObj.ids,AV.ids,AV.idsL,qf,qb,aI]
  ·simp [X5,gaL,xU,asg,upd]
  ·simp [JG,gaL,AV.ids,AV.idsL]
  ·refine ⟨?_,rfl, ?_, ?_,rfl, ?_⟩
   ·simp [Qg,gaH,AObj.ids,AV.ids,AV.idsL,qf,qb,aI]
   ·simp [ZG,buO,AObj.nocb,AV.nocbL,AV.nocb,AObj.ids,AV.ids,AV.idsL]
   ·simp [YI,buY,qh,AV.nocb,AV.nocbL,AV.ids,AV.idsL]
   ·simp [Qf,ZP,zf,qz,gaH,gaL,xQ,AV.ids,AV.idsL,ADf.ids,List.range_succ]
  ·simp [Qg,gaH,AObj.ids,AV.ids,AV.idsL,qf,qb,aI]
  ·have env:Env (fun _:Frm=>True) Tryz.prog tyB (tab [(30,za true qP),(33,za true xR)]):=qO ⟨Uu,ehas,trivial⟩
   have hS:=Lj c hj
   have hTl:=QcL c j (by omega)
   have hTl2:j * gpN c≤9 * 6:=Nat.mul_le_mul (by omega) (by unfold gpN;omega)
   have hbi:=UG hj
   have hbm:(qV c.cabins).getD j default ∈ qV c.cabins:=xV hj
   obtain ⟨b,hb⟩:∃ b,(qV c.cabins).getD j default=b:=⟨_,rfl⟩
   obtain ⟨T,hT⟩:∃ T,gpP c j=T:=⟨_,rfl⟩
   rw [hb,hT] at hS
   rw [hT] at hTl
   rw [hb] at hbi hbm
   have hbed:0≤b.bed∧b.bed < 3:=by
    obtain ⟨i,k,g1,g2,rfl⟩:=Xm.1 hbm
    have:=hbds _ (xV (d:=default) g1)
    simp only;omega
   have hN6:gpN c≤6:=by unfold gpN;omega
   have hNs:(gpN c:Int)=c.secs+1:=by unfold gpN;omega
   have w1:IntKind.wrap .i64 (c.secs+1)=(gpN c:Int):=by rw [hNs];exact wrap64 (by omega) (by omega)
   have hst:jf gaL [17] [2] 4 0 (buY c.cabins j) (gaH c j) [buO c.cabins c.secs]={ t:=asg [(17,qh b),(1,.ptr 0 0),(5,.ptr 1 0)],h:=qj [(4,.mark),(0,.cells (qb c)),(1,.cells [.row 3]),(3,qf T),(2,buO c.cabins c.secs)],n:=5,m:=5 }:=by
    simp only [jf,buY,hb,hT,qh,List.map_cons,List.map_nil,AV.ren,AV.renL,List.zip_cons_cons,List.zip_nil_right,gaH,gaL,QY,List.cons_append,List.nil_append,Ui]
    rfl
   show Sym _ _ _ (jf gaL [17] [2] 4 0 (buY c.cabins j) (gaH c j) [buO c.cabins c.secs]) _
   rw [hst]
   repeat' (first|(apply nx;with_reducible constructor)|refine uq (by decide) ?_|refine zk ?_|refine zF ?_|refine zD ?_|refine zC ?_|((first|refine vx env fun Q hQ=>?_|refine vz fun Q hQ=>?_);simp only [vkt,seval,zy,wR,qh,aTk,cTk,qw,eTk,rTk,mTk,qc,qa,qb,qf,buO,xU,gaL,gaS,qp,qP,xR,qK,ze,qL,zu,q9,qE,qJ,List.length_map,w1];(try simp only [ite_and]);(repeat' (first|with_reducible assumption|refine And.intro ?_ ?_|intro hp));all_goals (first|(refine hQ _ ?_;clear hQ Q)|(refine hQ _ (fun h=>?_) (fun h=>?_) <;> clear hQ Q <;> (try simp only [vki,reduceCtorEq] at h))|(refine vq ?_;kernel_rfl)|omega|assumption|with_reducible rfl|skip)))
   refine zt (fun s:{ s:Nat // s≤gpN c }=>gaS c b (T++(gpK c b s.1).2) [(7,aI (gpK c b s.1).1),(21,aI s.1)]) (fun s=>gpN c - s.1) ⟨0,Nat.zero_le _⟩ ?_ fun ⟨s,hs⟩=>?_
   ·simp only [gaS,show gpK c b 0=(-1,[]) from rfl,List.append_nil,List.cons_append,List.nil_append]
    (refine Le.ok (fun i=>if i=6 then some 3 else some i) [] ?_;constructor;all_goals (try simp only [vle,vkt,seval,zy,wR,qh,aTk,cTk,qw,eTk,rTk,mTk,qc,qa,qb,qf,buO,xU,gaL,gaS,qp,qP,xR,qK,ze,qL,zu,q9,qE,qJ,List.length_map]))
    all_goals first|rfl|(simp;done)|(intro i hi;rw [if_neg (by omega)];done)
   simp only at hs ⊢
   have hKS:gpK c b (s+1)=if frB c b s then (if (gpK c b s).1 < 0 then ((s:Int),(gpK c b s).2) else gpK c b s) else (if 0≤(gpK c b s).1 then (-1,(gpK c b s).2++[⟨0,0,b.cab,b.bed,(gpK c b s).1,(s:Int),false⟩]) else gpK c b s):=rfl
   have hKl:=UN c b s
   obtain ⟨⟨f,G⟩,hG⟩:∃ q,gpK c b s=q:=⟨_,rfl⟩
   rw [hG] at hKS hKl
   simp only at hKS hKl
   have hAl:(T++G).length+1≤maxLen:=by rw [List.length_append];omega
   have hAm:(T++G).length≤200:=by rw [List.length_append];omega
   obtain ⟨M,hM⟩:∃ M,T++G=M:=⟨_,rfl⟩
   rw [hM] at hAl hAm
   have fin:∀ S f' G',gpK c b (s+1)=(f',G')→s < gpN c→Le S (gaS c b (T++G') [(7,aI f'),(21,aI (s+1:Nat))])→∃ y:{ s:Nat // s≤gpN c },(gpN c - y.1 < gpN c - s)∧Le S (gaS c b (T++(gpK c b y.1).2) [(7,aI (gpK c b y.1).1),(21,aI y.1)]):=fun S f' G' h hlt hle=>⟨⟨s+1,hlt⟩,by show gpN c - (s+1) < gpN c - s;omega,by rw [h];exact hle⟩
   simp only [hG,hM,gaS,List.cons_append,List.nil_append]
   by_cases hsl:s < gpN c
   ·have d1:decide ((s:Int) < (gpN c:Int))=true:=decide_eq_true (by omega)
    have e9:IntKind.wrap .i64 ((s:Int)+1)=((s+1:Nat):Int):=by rw [wrap64 (by omega) (by omega)];rfl
    obtain ⟨q,hq⟩:∃ q,frB c b s=q:=⟨_,rfl⟩
    rw [hq] at hKS
    repeat' (first|(apply nx;with_reducible constructor)|refine uq (by decide) ?_|refine zk ?_|refine zF ?_|refine zD ?_|refine zC ?_)
    ((first|refine vx env fun Q hQ=>?_|refine vz fun Q hQ=>?_);simp only [vkt,seval,zy,wR,qh,aTk,cTk,qw,eTk,rTk,mTk,qc,qa,qb,qf,buO,xU,gaL,gaS,qp,qP,xR,qK,ze,qL,zu,q9,qE,qJ,List.length_map,d1];(try simp only [ite_and]);(repeat' (first|with_reducible assumption|refine And.intro ?_ ?_|intro hp));all_goals (first|(refine hQ _ ?_;clear hQ Q)|(refine hQ _ (fun h=>?_) (fun h=>?_) <;> clear hQ Q <;> (try simp only [vki,reduceCtorEq] at h))|(refine vq ?_;kernel_rfl)|omega|assumption|with_reducible rfl|skip))
    repeat' (first|(apply nx;with_reducible constructor)|refine uq (by decide) ?_|refine zk ?_|refine zF ?_|refine zD ?_|refine zC ?_)
    ((first|refine vx env fun Q hQ=>?_|refine vz fun Q hQ=>?_);simp only [vkt,seval,zy,wR,qh,aTk,cTk,qw,eTk,rTk,mTk,qc,qa,qb,qf,buO,xU,gaL,gaS,qp,qP,xR,qK,ze,qL,zu,q9,qE,qJ,List.length_map];(try simp only [ite_and]);(repeat' (first|with_reducible assumption|refine And.intro ?_ ?_|intro hp));all_goals (first|(refine hQ _ ?_;clear hQ Q)|(refine hQ _ (fun h=>?_) (fun h=>?_) <;> clear hQ Q <;> (try simp only [vki,reduceCtorEq] at h))|(refine vq ?_;kernel_rfl)|omega|assumption|with_reducible rfl|skip))
    repeat' (first|(apply nx;with_reducible constructor)|refine uq (by decide) ?_|refine zk ?_|refine zF ?_|refine zD ?_|refine zC ?_)
    ((first|refine vx env fun Q hQ=>?_|refine vz fun Q hQ=>?_);simp only [vkt,seval,zy,wR,qh,aTk,cTk,qw,eTk,rTk,mTk,qc,qa,qb,qf,buO,xU,gaL,gaS,qp,qP,xR,qK,ze,qL,zu,q9,qE,qJ,List.length_map];(try simp only [ite_and]);(repeat' (first|with_reducible assumption|refine And.intro ?_ ?_|intro hp));all_goals (first|(refine hQ _ ?_;clear hQ Q)|(refine hQ _ (fun h=>?_) (fun h=>?_) <;> clear hQ Q <;> (try simp only [vki,reduceCtorEq] at h))|(refine vq ?_;kernel_rfl)|omega|assumption|with_reducible rfl|skip))
    repeat' (first|(apply nx;with_reducible constructor)|refine uq (by decide) ?_|refine zk ?_|refine zF ?_|refine zD ?_|refine zC ?_)
    refine Sym.mono (K:=fun e S1=>e=.normal∧Le S1 (gaS c b M [(7,aI f),(8,aI s),(9,aB q),(21,aI s)])) ?_ ?_
    ·by_cases hss:(s:Int) < c.secs
     ·have d2:decide ((s:Int) < c.secs)=true:=decide_eq_true hss
      have hbits:=JQ hvan (s:Int) c.sold.length (Nat.le_refl _)
      have hPl:=xJ c.sold (s:Int) c.sold.length (Nat.le_refl _)
      rw [List.take_length] at hbits
      obtain ⟨P,hP⟩:∃ P,yu c.sold (s:Int) c.sold.length=P:=⟨_,rfl⟩
      rw [hP] at hbits hPl
      obtain ⟨x,y,z,rfl⟩:∃ x y z,P=[x,y,z]:=by
       match P,hPl with
       |[x,y,z],_=>exact ⟨x,y,z,rfl⟩
      obtain ⟨⟨x1,x2⟩,x3⟩:=hbits 0 (by omega)
      obtain ⟨⟨y1,y2⟩,y3⟩:=hbits 1 (by omega)
      obtain ⟨⟨z1,z2⟩,z3⟩:=hbits 2 (by omega)
      have x3:=x3 b.bed hbed
      have y3:=y3 b.bed hbed
      have z3:=z3 b.bed hbed
      have hfr:frB c b s=!Yy c.sold b s:=by unfold frB;rw [d2,Bool.true_and]
      rw [hq] at hfr
      obtain ⟨b1,b2⟩:=hbed
      obtain ⟨cab,bed⟩:=b
      simp only at *
      have hc3:cab=0∨cab=1∨cab=2:=by omega
      rcases hc3 with rfl|rfl|rfl
      ·have hx:Yf x bed=!q:=by rw [hfr,Bool.not_not];exact x3
       ((first|refine vx env fun Q hQ=>?_|refine vz fun Q hQ=>?_);simp only [vkt,seval,zy,wR,qh,aTk,cTk,qw,eTk,rTk,mTk,qc,qa,qb,qf,buO,xU,gaL,gaS,qp,qP,xR,qK,ze,qL,zu,q9,qE,qJ,List.length_map,ec,d2,hP,hvan,List.map_cons,List.map_nil,x1,x2,b1,b2,hx,Bool.not_not];(try simp only [ite_and]);(repeat' (first|with_reducible assumption|refine And.intro ?_ ?_|intro hp));all_goals (first|(refine hQ _ ?_;clear hQ Q)|(refine hQ _ (fun h=>?_) (fun h=>?_) <;> clear hQ Q <;> (try simp only [vki,reduceCtorEq] at h))|(refine vq ?_;kernel_rfl)|omega|assumption|with_reducible rfl|skip))
       refine ⟨rfl, ?_⟩
       simp only [gaS,List.cons_append,List.nil_append]
       (refine Le.ok some [] ?_;constructor;all_goals (try simp only [vle,vkt,seval,zy,wR,qh,aTk,cTk,qw,eTk,rTk,mTk,qc,qa,qb,qf,buO,xU,gaL,gaS,qp,qP,xR,qK,ze,qL,zu,q9,qE,qJ,List.length_map]))
       all_goals first|rfl|(simp;done)
      ·have hx:Yf y bed=!q:=by rw [hfr,Bool.not_not];exact y3
       ((first|refine vx env fun Q hQ=>?_|refine vz fun Q hQ=>?_);simp only [vkt,seval,zy,wR,qh,aTk,cTk,qw,eTk,rTk,mTk,qc,qa,qb,qf,buO,xU,gaL,gaS,qp,qP,xR,qK,ze,qL,zu,q9,qE,qJ,List.length_map,ec,d2,hP,hvan,List.map_cons,List.map_nil,y1,y2,b1,b2,hx,Bool.not_not];(try simp only [ite_and]);(repeat' (first|with_reducible assumption|refine And.intro ?_ ?_|intro hp));all_goals (first|(refine hQ _ ?_;clear hQ Q)|(refine hQ _ (fun h=>?_) (fun h=>?_) <;> clear hQ Q <;> (try simp only [vki,reduceCtorEq] at h))|(refine vq ?_;kernel_rfl)|omega|assumption|with_reducible rfl|skip))
       refine ⟨rfl, ?_⟩
       simp only [gaS,List.cons_append,List.nil_append]
       (refine Le.ok some [] ?_;constructor;all_goals (try simp only [vle,vkt,seval,zy,wR,qh,aTk,cTk,qw,eTk,rTk,mTk,qc,qa,qb,qf,buO,xU,gaL,gaS,qp,qP,xR,qK,ze,qL,zu,q9,qE,qJ,List.length_map]))
       all_goals first|rfl|(simp;done)
      ·have hx:Yf z bed=!q:=by rw [hfr,Bool.not_not];exact z3
       ((first|refine vx env fun Q hQ=>?_|refine vz fun Q hQ=>?_);simp only [vkt,seval,zy,wR,qh,aTk,cTk,qw,eTk,rTk,mTk,qc,qa,qb,qf,buO,xU,gaL,gaS,qp,qP,xR,qK,ze,qL,zu,q9,qE,qJ,List.length_map,ec,d2,hP,hvan,List.map_cons,List.map_nil,z1,z2,b1,b2,hx,Bool.not_not];(try simp only [ite_and]);(repeat' (first|with_reducible assumption|refine And.intro ?_ ?_|intro hp));all_goals (first|(refine hQ _ ?_;clear hQ Q)|(refine hQ _ (fun h=>?_) (fun h=>?_) <;> clear hQ Q <;> (try simp only [vki,reduceCtorEq] at h))|(refine vq ?_;kernel_rfl)|omega|assumption|with_reducible rfl|skip))
       refine ⟨rfl, ?_⟩
       simp only [gaS,List.cons_append,List.nil_append]
       (refine Le.ok some [] ?_;constructor;all_goals (try simp only [vle,vkt,seval,zy,wR,qh,aTk,cTk,qw,eTk,rTk,mTk,qc,qa,qb,qf,buO,xU,gaL,gaS,qp,qP,xR,qK,ze,qL,zu,q9,qE,qJ,List.length_map]))
       all_goals first|rfl|(simp;done)
     ·have d2:decide ((s:Int) < c.secs)=false:=decide_eq_false hss
      have hq0:q=false:=by rw [← hq];unfold frB;rw [d2];rfl
      ((first|refine vx env fun Q hQ=>?_|refine vz fun Q hQ=>?_);simp only [vkt,seval,zy,wR,qh,aTk,cTk,qw,eTk,rTk,mTk,qc,qa,qb,qf,buO,xU,gaL,gaS,qp,qP,xR,qK,ze,qL,zu,q9,qE,qJ,List.length_map,d2];(try simp only [ite_and]);(repeat' (first|with_reducible assumption|refine And.intro ?_ ?_|intro hp));all_goals (first|(refine hQ _ ?_;clear hQ Q)|(refine hQ _ (fun h=>?_) (fun h=>?_) <;> clear hQ Q <;> (try simp only [vki,reduceCtorEq] at h))|(refine vq ?_;kernel_rfl)|omega|assumption|with_reducible rfl|skip))
      refine ⟨rfl, ?_⟩
      simp only [gaS,hq0,List.cons_append,List.nil_append]
      (refine Le.ok some [] ?_;constructor;all_goals (try simp only [vle,vkt,seval,zy,wR,qh,aTk,cTk,qw,eTk,rTk,mTk,qc,qa,qb,qf,buO,xU,gaL,gaS,qp,qP,xR,qK,ze,qL,zu,q9,qE,qJ,List.length_map]))
      all_goals first|rfl|(simp;done)
    rintro e S1 ⟨rfl,hle⟩
    refine (vM hle ?_:Sym _ _ _ S1 _)
    clear hle S1
    simp only [gaS,List.cons_append,List.nil_append]
    by_cases hf:f < 0
    ·have d3:decide (f < 0)=true:=decide_eq_true hf
     have d4:decide (0≤f)=false:=decide_eq_false (by omega)
     cases q with
     |true =>
      rw [if_pos rfl,if_pos hf] at hKS
      repeat' (first|(apply nx;with_reducible constructor)|refine uq (by decide) ?_|refine zk ?_|refine zF ?_|refine zD ?_|refine zC ?_|((first|refine vx env fun Q hQ=>?_|refine vz fun Q hQ=>?_);simp only [vkt,seval,zy,wR,qh,aTk,cTk,qw,eTk,rTk,mTk,qc,qa,qb,qf,buO,xU,gaL,gaS,qp,qP,xR,qK,ze,qL,zu,q9,qE,qJ,List.length_map,d3,e9];(try simp only [ite_and]);(repeat' (first|with_reducible assumption|refine And.intro ?_ ?_|intro hp));all_goals (first|(refine hQ _ ?_;clear hQ Q)|(refine hQ _ (fun h=>?_) (fun h=>?_) <;> clear hQ Q <;> (try simp only [vki,reduceCtorEq] at h))|(refine vq ?_;kernel_rfl)|omega|assumption|with_reducible rfl|skip)))
      refine fin _ _ _ hKS hsl ?_
      simp only [gaS,hM,List.cons_append,List.nil_append]
      (refine Le.ok some [] ?_;constructor;all_goals (try simp only [vle,vkt,seval,zy,wR,qh,aTk,cTk,qw,eTk,rTk,mTk,qc,qa,qb,qf,buO,xU,gaL,gaS,qp,qP,xR,qK,ze,qL,zu,q9,qE,qJ,List.length_map]))
      all_goals first|rfl|(simp;done)
     |false =>
      rw [if_neg (by decide),if_neg (by omega)] at hKS
      repeat' (first|(apply nx;with_reducible constructor)|refine uq (by decide) ?_|refine zk ?_|refine zF ?_|refine zD ?_|refine zC ?_|((first|refine vx env fun Q hQ=>?_|refine vz fun Q hQ=>?_);simp only [vkt,seval,zy,wR,qh,aTk,cTk,qw,eTk,rTk,mTk,qc,qa,qb,qf,buO,xU,gaL,gaS,qp,qP,xR,qK,ze,qL,zu,q9,qE,qJ,List.length_map,d3,d4,e9];(try simp only [ite_and]);(repeat' (first|with_reducible assumption|refine And.intro ?_ ?_|intro hp));all_goals (first|(refine hQ _ ?_;clear hQ Q)|(refine hQ _ (fun h=>?_) (fun h=>?_) <;> clear hQ Q <;> (try simp only [vki,reduceCtorEq] at h))|(refine vq ?_;kernel_rfl)|omega|assumption|with_reducible rfl|skip)))
      refine fin _ _ _ hKS hsl ?_
      simp only [gaS,hM,List.cons_append,List.nil_append]
      (refine Le.ok some [] ?_;constructor;all_goals (try simp only [vle,vkt,seval,zy,wR,qh,aTk,cTk,qw,eTk,rTk,mTk,qc,qa,qb,qf,buO,xU,gaL,gaS,qp,qP,xR,qK,ze,qL,zu,q9,qE,qJ,List.length_map]))
      all_goals first|rfl|(simp;done)
    ·have d3:decide (f < 0)=false:=decide_eq_false hf
     have d4:decide (0≤f)=true:=decide_eq_true (by omega)
     cases q with
     |true =>
      rw [if_pos rfl,if_neg hf] at hKS
      repeat' (first|(apply nx;with_reducible constructor)|refine uq (by decide) ?_|refine zk ?_|refine zF ?_|refine zD ?_|refine zC ?_|((first|refine vx env fun Q hQ=>?_|refine vz fun Q hQ=>?_);simp only [vkt,seval,zy,wR,qh,aTk,cTk,qw,eTk,rTk,mTk,qc,qa,qb,qf,buO,xU,gaL,gaS,qp,qP,xR,qK,ze,qL,zu,q9,qE,qJ,List.length_map,d3,d4,e9];(try simp only [ite_and]);(repeat' (first|with_reducible assumption|refine And.intro ?_ ?_|intro hp));all_goals (first|(refine hQ _ ?_;clear hQ Q)|(refine hQ _ (fun h=>?_) (fun h=>?_) <;> clear hQ Q <;> (try simp only [vki,reduceCtorEq] at h))|(refine vq ?_;kernel_rfl)|omega|assumption|with_reducible rfl|skip)))
      refine fin _ _ _ hKS hsl ?_
      simp only [gaS,hM,List.cons_append,List.nil_append]
      (refine Le.ok some [] ?_;constructor;all_goals (try simp only [vle,vkt,seval,zy,wR,qh,aTk,cTk,qw,eTk,rTk,mTk,qc,qa,qb,qf,buO,xU,gaL,gaS,qp,qP,xR,qK,ze,qL,zu,q9,qE,qJ,List.length_map]))
      all_goals first|rfl|(simp;done)
     |false =>
      rw [if_neg (by decide),if_pos (by omega)] at hKS
      have hMS:T++(G++[(⟨0,0,b.cab,b.bed,f,(s:Int),false⟩:Tk)])=M++[⟨0,0,b.cab,b.bed,f,(s:Int),false⟩]:=by rw [← List.append_assoc,hM]
      repeat' (first|(apply nx;with_reducible constructor)|refine uq (by decide) ?_|refine zk ?_|refine zF ?_|refine zD ?_|refine zC ?_|((first|refine vx env fun Q hQ=>?_|refine vz fun Q hQ=>?_);simp only [vkt,seval,zy,wR,qh,aTk,cTk,qw,eTk,rTk,mTk,qc,qa,qb,qf,buO,xU,gaL,gaS,qp,qP,xR,qK,ze,qL,zu,q9,qE,qJ,List.length_map,d3,d4,e9,hAl];(try simp only [ite_and]);(repeat' (first|with_reducible assumption|refine And.intro ?_ ?_|intro hp));all_goals (first|(refine hQ _ ?_;clear hQ Q)|(refine hQ _ (fun h=>?_) (fun h=>?_) <;> clear hQ Q <;> (try simp only [vki,reduceCtorEq] at h))|(refine vq ?_;kernel_rfl)|omega|assumption|with_reducible rfl|skip)))
      refine fin _ _ _ hKS hsl ?_
      simp only [gaS,hMS,List.cons_append,List.nil_append]
      (refine Le.ok (fun i=>if i=6 then some 8 else some i) [] ?_;constructor;all_goals (try simp only [vle,vkt,seval,zy,wR,qh,aTk,cTk,qw,eTk,rTk,mTk,qc,qa,qb,qf,buO,xU,gaL,gaS,qp,qP,xR,qK,ze,qL,zu,q9,qE,qJ,List.length_map]))
      all_goals first|rfl|(rw [List.map_append];rfl)|(simp;done)|(intro i hi;rw [if_neg (by omega)];done)
   ·have d1:decide ((s:Int) < (gpN c:Int))=false:=decide_eq_false (by omega)
    obtain rfl:s=gpN c:=by omega
    have hS:gpP c (j+1)=M:=by rw [hS,hG];exact hM
    repeat' (first|(apply nx;with_reducible constructor)|refine uq (by decide) ?_|refine zk ?_|refine zF ?_|refine zD ?_|refine zC ?_|((first|refine vx env fun Q hQ=>?_|refine vz fun Q hQ=>?_);simp only [vkt,seval,zy,wR,qh,aTk,cTk,qw,eTk,rTk,mTk,qc,qa,qb,qf,buO,xU,gaL,gaS,qp,qP,xR,qK,ze,qL,zu,q9,qE,qJ,List.length_map,d1];(try simp only [ite_and]);(repeat' (first|with_reducible assumption|refine And.intro ?_ ?_|intro hp));all_goals (first|(refine hQ _ ?_;clear hQ Q)|(refine hQ _ (fun h=>?_) (fun h=>?_) <;> clear hQ Q <;> (try simp only [vki,reduceCtorEq] at h))|(refine vq ?_;kernel_rfl)|omega|assumption|with_reducible rfl|skip)))
    refine ⟨rfl,rfl,(fun i=>if i=3 then some 6 else some i),_,RFin.okQ (fun i=>if i=3 then some 6 else some i) [] ?_⟩
    constructor
    all_goals (try simp only [vle,xn,vW,qz,hS,vkt,seval,zy,wR,qh,aTk,cTk,qw,eTk,rTk,mTk,qc,qa,qb,qf,buO,xU,gaL,gaS,qp,qP,xR,qK,ze,qL,zu,q9,qE,qJ,List.length_map])
    all_goals first|rfl|(simp;done)|(simp [gaL,xQ,AV.ids,ADf.ids,List.range_succ];done)
  ·have eh:qj ((4,AObj.mark) :: gaH c (qV c.cabins).length++zf [2] (4+1) 0 [buO c.cabins c.secs])=qj [(4,.mark),(0,.cells (qb c)),(1,.cells [.row 3]),(3,qf (QgK c)),(2,buO c.cabins c.secs)]:=by
    rw [show zf [2] (4+1) 0 [buO c.cabins c.secs]=zf [2] 5 0 [buO c.cabins c.secs] from rfl,Ui];rfl
   rw [eh]
   simp only [gaL]
   repeat' (first|(apply nx;with_reducible constructor)|refine uq (by decide) ?_|refine zk ?_|refine zF ?_|refine zD ?_|refine zC ?_|((first|refine vx env fun Q hQ=>?_|refine vz fun Q hQ=>?_);simp only [vkt,seval,zy,wR,qh,aTk,cTk,qw,eTk,rTk,mTk,qc,qa,qb,qf,buO,xU,gaL,gaS,qp,qP,xR,qK,ze,qL,zu,q9,qE,qJ,List.length_map];(try simp only [ite_and]);(repeat' (first|with_reducible assumption|refine And.intro ?_ ?_|intro hp));all_goals (first|(refine hQ _ ?_;clear hQ Q)|(refine hQ _ (fun h=>?_) (fun h=>?_) <;> clear hQ Q <;> (try simp only [vki,reduceCtorEq] at h))|(refine vq ?_;kernel_rfl)|omega|assumption|with_reducible rfl|skip)))
   (simp only [vrt,Tryz.results9,vkt,seval,zy,wR,qh,aTk,cTk,qw,eTk,rTk,mTk,qc,qa,qb,qf,buO,xU,gaL,gaS,qp,qP,xR,qK,ze,qL,zu,q9,qE,qJ,List.length_map];refine Fin.val rfl ?_;(try simp only [AV.le,AV.leL]))
   all_goals first|rfl|(simp;done)|exact ⟨⟨_,_,rfl⟩,trivial,trivial⟩
 ·have hE:Yr c=([],e):=by unfold Yr;rw [if_neg (by rw [he];exact h0),he]
  rw [hE]
  have d0:decide (e=0)=false:=decide_eq_false h0
  repeat' (first|(apply nx;with_reducible constructor)|refine uq (by decide) ?_|refine zk ?_|refine zF ?_|refine zD ?_|refine zC ?_|((first|refine vx env fun Q hQ=>?_|refine vz fun Q hQ=>?_);simp only [vkt,seval,zy,wR,qh,aTk,cTk,qw,eTk,rTk,mTk,qc,qa,qb,qf,buO,xU,gaL,gaS,qp,qP,xR,qK,ze,qL,zu,q9,qE,qJ,List.length_map,ec,he,d0];(try simp only [ite_and]);(repeat' (first|with_reducible assumption|refine And.intro ?_ ?_|intro hp));all_goals (first|(refine hQ _ ?_;clear hQ Q)|(refine hQ _ (fun h=>?_) (fun h=>?_) <;> clear hQ Q <;> (try simp only [vki,reduceCtorEq] at h))|(refine vq ?_;kernel_rfl)|omega|assumption|with_reducible rfl|skip)))
  (simp only [vrt,Tryz.results9,vkt,seval,zy,wR,qh,aTk,cTk,qw,eTk,rTk,mTk,qc,qa,qb,qf,buO,xU,gaL,gaS,qp,qP,xR,qK,ze,qL,zu,q9,qE,qJ,List.length_map];refine Fin.val rfl ?_;(try simp only [AV.le,AV.leL]))
  all_goals first|rfl|(simp;done)
def Ym (party:Int) (l:List Tk):List Tk:=l.filter fun t=>!decide (t.party=party)
def kS (c:Chart) (party:Int):Chart × Int:=if zS c ≠ 0 then (⟨[],0,[]⟩,zS c) else if (Ym party c.sold).length=c.sold.length then (⟨[],0,[]⟩,3) else (⟨c.cabins,c.secs,Ym party c.sold⟩,0)
theorem Qgm {P:Int} {l:List Tk} (h:∀ t ∈ l,t.party ≠ P):Ym P l=l:=List.filter_eq_self.2 fun t ht=>by rw [decide_eq_false (h t ht)];rfl
def cnB (P:Int) (x:Tk):Bool:=decide (x.party=P)
def cnC (P:Int):List AV:=[.v (.int .i64 P)]
theorem QhE (P:Int):PCs (cnC P):=⟨by simp [cnC,AV.idsL,AV.ids],by simp [cnC,AV.leL,AV.le],by simp [cnC,AV.renL,AV.ren]⟩
def JX:=vj @ty3 (vj @xB (vj @ti3.eq_1 @vJ.eq_1))
def UV:=vj @aI.eq_1 (@aB.eq_1)
theorem Ux (P:Int):Jk 59 (cnC P) (cnB P):=fun x=>by
 have env:Env (fun _=>True) Tryz.prog tyB (tab []):=qO trivial
 refine Fn.of (A:=fun _=>True) (n0:=1) (D:=noD) (Fn0 Tryz.func59 rfl (fun vs w=>by kernel_rfl) (by kernel_rfl)) (by simp) (by simp [AV.ids,AV.idsL,aTk,cTk]) ?_ (fun _ _ _ _=>trivial) qG ?_
 ·intro i o hi
  have h:=qQ hi
  simp at h;obtain ⟨rfl,rfl⟩:=h;simp [cnC,AObj.ids,AV.ids,AV.idsL]
 repeat' (first|(apply nx;with_reducible constructor)|refine uq (by decide) ?_|((first|refine vx env fun Q hQ=>?_|refine vz fun Q hQ=>?_);simp only [vkt,seval,JX,UV,aTk,cTk,cnC];(try simp only [ite_and]);(repeat' (first|with_reducible assumption|refine And.intro ?_ ?_|intro hp));all_goals (first|(refine hQ _ ?_;clear hQ Q)|(refine hQ _ (fun h=>?_) (fun h=>?_) <;> clear hQ Q <;> (try simp only [vki,reduceCtorEq] at h))|(refine vq ?_;kernel_rfl)|omega|assumption|with_reducible rfl|skip)))
 all_goals (simp only [vrt,Tryz.results59,vkt,seval,JX,UV,aTk,cTk,cnC];refine Fin.ok some [] ?_ ?_ ?_ ?_ ?_ rfl;all_goals (try simp only [vle,vkt,seval,JX,UV,aTk,cTk,cnC]))
 all_goals first|rfl|(simp [cnB];done)
def xu (P:Int) (S:St):List AV→Option Pk
 |[.row r,.clo f [.ptr t 0]]=>match S.h r with
  |some (.row _ _ xs)=>match S.h t with
   |some (.cells [.v (.int .i64 Q)])=>some { pre:=f=59∧Q=P∧xs=(xs.map dTk).map eTk∧xs.length≤100,hs:=[t],bo:=[r],fl:=true,ar:=[.sl xs,.clo 59 [.ptr 0 0]],L0:=[.cells (cnC P)],v:=aI (VB (cnB P) (xs.map dTk)),L1:=[some (.cells (cnC P))] }
   |_=>none
  |_=>none
 |_=>none
theorem Qjc {A:Frm→Prop} {P:Int}:qC A Tryz.prog 80 (fnE (xu P)):=wK fun S bs q h hp=>by
 unfold xu at h
 split at h
 ·split at h
  ·split at h
   ·cases h
    obtain ⟨_,_,h1,h2⟩:=hp
    have:=LB (QhE P) (Ux P) (List.map dTk _) (by rw [List.length_map];exact h2)
    rw [qw,← h1] at this
    exact this
   ·cases h
  ·cases h
 ·cases h
def ndB (p:Tk→Bool) (x:Tk):Bool:=!p x
structure DlInv (p:Tk→Bool) (l M:List Tk) (j:Nat):Prop where
 len:M.length=l.length
 tk:M.take ((l.take j).filter (ndB p)).length=(l.take j).filter (ndB p)
 dr:M.drop j=l.drop j
 lt:((l.take j).filter (ndB p)).length < j
theorem DlInv.skip {p:Tk→Bool} {l M:List Tk} {j:Nat} (h:DlInv p l M j) (hj:j < l.length) (hp:p (l.getD j default)=true):DlInv p l M (j+1):=by
 have hF:(l.take (j+1)).filter (ndB p)=(l.take j).filter (ndB p):=by
  rw [List.take_succ_eq_append_getElem hj,List.filter_append,show l[j]=l.getD j default by simp [List.getD_eq_getElem?_getD,hj]]
  rw [List.filter_cons_of_neg (by unfold ndB;rw [hp];decide)]
  simp
 refine ⟨h.len,by rw [hF];exact h.tk, ?_,by rw [hF];have:=h.lt;omega⟩
 have:=congrArg (List.drop 1) h.dr
 rwa [List.drop_drop,List.drop_drop] at this
theorem DlInv.keep {p:Tk→Bool} {l M:List Tk} {j:Nat} (h:DlInv p l M j) (hj:j < l.length) {x:Tk} (hx:l.getD j default=x) (hp:p x=false):DlInv p l (M.set ((l.take j).filter (ndB p)).length x) (j+1)∧((l.take (j+1)).filter (ndB p)).length=((l.take j).filter (ndB p)).length+1:=by
 have hF:(l.take (j+1)).filter (ndB p)=(l.take j).filter (ndB p)++[x]:=by
  rw [List.take_succ_eq_append_getElem hj,List.filter_append,show l[j]=l.getD j default by simp [List.getD_eq_getElem?_getD,hj],hx]
  simp [ndB,hp]
 have hl:=h.lt
 have hM:=h.len
 have hL:((l.take (j+1)).filter (ndB p)).length=((l.take j).filter (ndB p)).length+1:=by rw [hF,List.length_append];rfl
 refine ⟨⟨by rw [List.length_set];exact hM, ?_, ?_,by omega⟩,hL⟩
 ·rw [hL,hF]
  have htk:=h.tk
  obtain ⟨i,hi⟩:∃ i,((l.take j).filter (ndB p)).length=i:=⟨_,rfl⟩
  rw [hi] at htk hl ⊢
  rw [← htk]
  rw [List.take_succ_eq_append_getElem (by rw [List.length_set];omega),List.getElem_set_self,List.take_set_of_le (Nat.le_refl _)]
 ·rw [List.drop_set_of_lt (by omega)]
  have:=congrArg (List.drop 1) h.dr
  rwa [List.drop_drop,List.drop_drop] at this
theorem DlInv.cur {p:Tk→Bool} {l M:List Tk} {j:Nat} (h:DlInv p l M j) (hj:j < l.length):M.getD j default=l.getD j default:=by
 have h1:(M.drop j)[0]?=(l.drop j)[0]?:=by rw [h.dr]
 rw [List.getElem?_drop,List.getElem?_drop,Nat.add_zero] at h1
 rw [List.getD_eq_getElem?_getD,List.getD_eq_getElem?_getD,h1]
theorem QgH {p:Tk→Bool} {l:List Tk} {k:Nat} (hk:k < l.length) (h:∀ j,j < k→p (l.getD j default)=false) (hp:p (l.getD k default)=true):DlInv p l l (k+1)∧((l.take (k+1)).filter (ndB p)).length=k:=by
 have hF:(l.take k).filter (ndB p)=l.take k:=List.filter_eq_self.2 fun x hx=>by
  obtain ⟨j,hj,rfl⟩:=List.mem_iff_getElem.1 hx
  rw [List.length_take] at hj
  have:=h j (by omega)
  rw [show l.getD j default=(l.take k)[j] by simp [List.getD_eq_getElem?_getD,show j < l.length by omega]] at this
  unfold ndB
  rw [this];rfl
 have hF2:(l.take (k+1)).filter (ndB p)=l.take k:=by
  rw [List.take_succ_eq_append_getElem hk,List.filter_append,show l[k]=l.getD k default by simp [List.getD_eq_getElem?_getD,hk],hF]
  rw [List.filter_cons_of_neg (by unfold ndB;rw [hp];decide)]
  simp
 have hL:((l.take (k+1)).filter (ndB p)).length=k:=by rw [hF2,List.length_take];omega
 exact ⟨⟨rfl,by rw [hL,hF2],rfl,by omega⟩,hL⟩
theorem KA {p:Tk→Bool} {l:List Tk}:(l.any p=false∧VB p l=-1)∨(l.any p=true∧∃ k:Nat,k < l.length∧VB p l=(k:Int)∧(∀ j,j < k→p (l.getD j default)=false)∧p (l.getD k default)=true):=by
 have ha:=LA p l
 unfold VB at ha ⊢
 cases h:l.findIdx? p with
 |none =>
  rw [h] at ha
  exact .inl ⟨by rw [← ha];rfl,rfl⟩
 |some k =>
  rw [h] at ha
  obtain ⟨h1,h2,h3⟩:=List.findIdx?_eq_some_iff_getElem.1 h
  refine .inr ⟨by rw [← ha];simp,k,h1,rfl,fun j hj=>?_, ?_⟩
  ·have:=h3 j hj
   simpa [List.getD_eq_getElem?_getD,show j < l.length by omega] using this
  ·simpa [List.getD_eq_getElem?_getD,h1] using h2
def dlS (P:Int) (M:List Tk) (T:List (Nat × AV)):St:={ t:=asg (T++[(0,.row 0),(1,.clo 59 [.ptr 1 0])]),h:=qj [(0,qf M),(1,.cells [.v (.int .i64 P)])],n:=2,m:=2 }
def wV:=vj @ty3 (vj @QV (vj @xB (vj @ti3.eq_1 (vj @Qh.eq_1 @vJ.eq_1))))
def jU:=vj @aI.eq_1 (@aB.eq_1)
set_option maxHeartbeats 4000000 in
theorem QfB (P:Int) (l:List Tk) (hl:l.length≤100) (ha:l.any (cnB P)=false):Fn noB Tryz.prog 58 [.row 0,.clo 59 [.ptr 1 0]] (qj [(0,qf l),(1,.cells [.v (.int .i64 P)])]) (.row 0) (qj [(0,qf l),(1,.cells [.v (.int .i64 P)])]) 0:=by
 have env:Env (fun _=>True) Tryz.prog tyB (tab [(59,fnE (pTk (cnC P) (cnB P))),(80,fnE (xu P))]):=qO ⟨eTkp (Ux P),Qjc,trivial⟩
 refine Fn.of (A:=fun _=>True) (n0:=2) (D:=noD) (Fn0 Tryz.func58 rfl (fun vs w=>by kernel_rfl) (by kernel_rfl)) (by simp) (by simp [AV.ids,AV.idsL]) ?_ (fun _ _ _ _=>trivial) qG ?_
 ·intro i o hi
  have h:=qQ hi
  simp at h
  rcases h with ⟨rfl,rfl⟩|⟨rfl,rfl⟩ <;> simp [qf,AObj.ids,AV.ids,AV.idsL]
 rcases KA (p:=cnB P) (l:=l) with ⟨_,h2⟩|⟨h1,_⟩
 ·repeat' (first|(apply nx;with_reducible constructor)|refine uq (by decide) ?_|((first|refine vx env fun Q hQ=>?_|refine vz fun Q hQ=>?_);simp only [vkt,seval,wV,jU,aTk,cTk,qw,eTk,gTk,rTk,mTk,qf,dlS,pTk,xu,cnC,List.length_map,hl,h2,decide_true];(try simp only [ite_and]);(repeat' (first|with_reducible assumption|refine And.intro ?_ ?_|intro hp));all_goals (first|(refine hQ _ ?_;clear hQ Q)|(refine hQ _ (fun h=>?_) (fun h=>?_) <;> clear hQ Q <;> (try simp only [vki,reduceCtorEq] at h))|(refine vq ?_;kernel_rfl)|omega|assumption|with_reducible rfl|skip)))
  ·exact ⟨_,_,rfl⟩
  repeat' (first|(apply nx;with_reducible constructor)|refine uq (by decide) ?_|((first|refine vx env fun Q hQ=>?_|refine vz fun Q hQ=>?_);simp only [vkt,seval,wV,jU,aTk,cTk,qw,eTk,gTk,rTk,mTk,qf,dlS,pTk,xu,cnC,List.length_map,hl,h2,decide_true];(try simp only [ite_and]);(repeat' (first|with_reducible assumption|refine And.intro ?_ ?_|intro hp));all_goals (first|(refine hQ _ ?_;clear hQ Q)|(refine hQ _ (fun h=>?_) (fun h=>?_) <;> clear hQ Q <;> (try simp only [vki,reduceCtorEq] at h))|(refine vq ?_;kernel_rfl)|omega|assumption|with_reducible rfl|skip)))
  (simp only [vrt,Tryz.results58,vkt,seval,wV,jU,aTk,cTk,qw,eTk,gTk,rTk,mTk,qf,dlS,pTk,xu,cnC,List.length_map];refine Fin.ok some [] ?_ ?_ ?_ ?_ ?_ rfl;all_goals (try simp only [vle,vkt,seval,wV,jU,aTk,cTk,qw,eTk,gTk,rTk,mTk,qf,dlS,pTk,xu,cnC,List.length_map]))
  all_goals first|rfl|(simp;done)
 ·rw [ha] at h1;exact absurd h1 (by decide)
set_option maxHeartbeats 4000000 in
theorem Qhg (P:Int) (l:List Tk) (hl:l.length≤100) (ha:l.any (cnB P)=true):Fn noB Tryz.prog 58 [.row 0,.clo 59 [.ptr 1 0]] (qj [(0,qf l),(1,.cells [.v (.int .i64 P)])]) (.row 2) (qj [(1,.cells [.v (.int .i64 P)]),(2,qf (l.filter (ndB (cnB P))))]) 0:=by
 have env:Env (fun _=>True) Tryz.prog tyB (tab [(59,fnE (pTk (cnC P) (cnB P))),(80,fnE (xu P))]):=qO ⟨eTkp (Ux P),Qjc,trivial⟩
 refine Fn.of (A:=fun _=>True) (n0:=2) (D:=noD) (Fn0 Tryz.func58 rfl (fun vs w=>by kernel_rfl) (by kernel_rfl)) (by simp) (by simp [AV.ids,AV.idsL]) ?_ (fun _ _ _ _=>trivial) qG ?_
 ·intro i o hi
  have h:=qQ hi
  simp at h
  rcases h with ⟨rfl,rfl⟩|⟨rfl,rfl⟩ <;> simp [qf,AObj.ids,AV.ids,AV.idsL]
 rcases KA (p:=cnB P) (l:=l) with ⟨h1,_⟩|⟨_,k0,hk0,hix,hb,hp0⟩
 ·rw [ha] at h1;exact absurd h1 (by decide)
 obtain ⟨hst,hs0⟩:=QgH hk0 hb hp0
 have d0:decide ((k0:Int)=-1)=false:=decide_eq_false (by omega)
 have e0:IntKind.wrap .i64 ((k0:Int)+1)=((k0+1:Nat):Int):=by rw [wrap64 (by omega) (by omega)];rfl
 have hmx:(100000:Nat)≤maxLen:=by decide
 repeat' (first|(apply nx;with_reducible constructor)|refine uq (by decide) ?_|((first|refine vx env fun Q hQ=>?_|refine vz fun Q hQ=>?_);simp only [vkt,seval,wV,jU,aTk,cTk,qw,eTk,gTk,rTk,mTk,qf,dlS,pTk,xu,cnC,List.length_map,hl,hix,d0,e0];(try simp only [ite_and]);(repeat' (first|with_reducible assumption|refine And.intro ?_ ?_|intro hp));all_goals (first|(refine hQ _ ?_;clear hQ Q)|(refine hQ _ (fun h=>?_) (fun h=>?_) <;> clear hQ Q <;> (try simp only [vki,reduceCtorEq] at h))|(refine vq ?_;kernel_rfl)|omega|assumption|with_reducible rfl|skip)))
 ·exact ⟨_,_,rfl⟩
 repeat' (first|(apply nx;with_reducible constructor)|refine uq (by decide) ?_|((first|refine vx env fun Q hQ=>?_|refine vz fun Q hQ=>?_);simp only [vkt,seval,wV,jU,aTk,cTk,qw,eTk,gTk,rTk,mTk,qf,dlS,pTk,xu,cnC,List.length_map,hl,hix,d0,e0];(try simp only [ite_and]);(repeat' (first|with_reducible assumption|refine And.intro ?_ ?_|intro hp));all_goals (first|(refine hQ _ ?_;clear hQ Q)|(refine hQ _ (fun h=>?_) (fun h=>?_) <;> clear hQ Q <;> (try simp only [vki,reduceCtorEq] at h))|(refine vq ?_;kernel_rfl)|omega|assumption|with_reducible rfl|skip)))
 refine zt (fun y:{ y:Nat × List Tk // y.1≤l.length∧DlInv (cnB P) l y.2 y.1 }=>dlS P y.1.2 [(5,aI ((l.take y.1.1).filter (ndB (cnB P))).length),(6,aI y.1.1)]) (fun y=>l.length - y.1.1) ⟨(k0+1,l),hk0,hst⟩ ?_ fun ⟨⟨j,M⟩,hj,hin⟩=>?_
 ·simp only [dlS,hs0,List.cons_append,List.nil_append]
  (refine Le.ok some [] ?_;constructor;all_goals (try simp only [vle,vkt,seval,wV,jU,aTk,cTk,qw,eTk,gTk,rTk,mTk,qf,dlS,pTk,xu,cnC,List.length_map]))
  all_goals first|rfl|(simp;done)
 simp only at hj hin ⊢
 have hMl:=hin.len
 have hlt:=hin.lt
 have htk:=hin.tk
 obtain ⟨i,hi⟩:∃ i,((l.take j).filter (ndB (cnB P))).length=i:=⟨_,rfl⟩
 by_cases hjl:j < l.length
 ·have d1:decide ((j:Int) < (M.length:Int))=true:=decide_eq_true (by omega)
  have j0:((j:Int)).toNat=j:=rfl
  have i0:((i:Int)).toNat=i:=rfl
  have e9:IntKind.wrap .i64 ((j:Int)+1)=((j+1:Nat):Int):=by rw [wrap64 (by omega) (by omega)];rfl
  have hjM:j < M.length:=by omega
  have hgM:=hTk hjM
  have hcur:=hin.cur hjl
  obtain ⟨x,hx⟩:∃ x,l.getD j default=x:=⟨_,rfl⟩
  have ex:(⟨x.party,x.sex,x.cab,x.bed,x.frm,x.to,x.dog⟩:Tk)=x:=rfl
  rw [hcur,hx] at hgM
  rw [hi] at hlt
  have hiM:i < M.length:=by omega
  simp only [dlS,hi,List.cons_append,List.nil_append]
  cases hp:cnB P x with
  |true =>
   have hin':=hin.skip hjl (by rw [hx];exact hp)
   have hF:((l.take (j+1)).filter (ndB (cnB P))).length=i:=by
    rw [← hi]
    congr 1
    rw [List.take_succ_eq_append_getElem hjl,List.filter_append,show l[j]=l.getD j default by simp [List.getD_eq_getElem?_getD,hjl],hx]
    simp [ndB,hp]
   repeat' (first|(apply nx;with_reducible constructor)|refine uq (by decide) ?_|((first|refine vx env fun Q hQ=>?_|refine vz fun Q hQ=>?_);simp only [vkt,seval,wV,jU,aTk,cTk,qw,eTk,gTk,rTk,mTk,qf,dlS,pTk,xu,cnC,List.length_map,d1,j0,hjM,hgM,ex,hp,e9];(try simp only [ite_and]);(repeat' (first|with_reducible assumption|refine And.intro ?_ ?_|intro hp));all_goals (first|(refine hQ _ ?_;clear hQ Q)|(refine hQ _ (fun h=>?_) (fun h=>?_) <;> clear hQ Q <;> (try simp only [vki,reduceCtorEq] at h))|(refine vq ?_;kernel_rfl)|omega|assumption|with_reducible rfl|skip)))
   refine ⟨⟨(j+1,M),hjl,hin'⟩,by show l.length - (j+1) < l.length - j;omega, ?_⟩
   simp only [dlS,hF,List.cons_append,List.nil_append]
   (refine Le.ok some [] ?_;constructor;all_goals (try simp only [vle,vkt,seval,wV,jU,aTk,cTk,qw,eTk,gTk,rTk,mTk,qf,dlS,pTk,xu,cnC,List.length_map]))
   all_goals first|rfl|(simp;done)
  |false =>
   obtain ⟨hin',hF⟩:=hin.keep hjl hx hp
   rw [hi] at hin' hF
   have e8:IntKind.wrap .i64 ((i:Int)+1)=((i+1:Nat):Int):=by rw [wrap64 (by omega) (by omega)];rfl
   have hgi:=hTk hiM
   obtain ⟨y,hy⟩:∃ y,M.getD i default=y:=⟨_,rfl⟩
   rw [hy] at hgi
   have hset:(M.map eTk).set i [.v (.int .i64 x.party),.v (.int .i64 x.sex),.v (.int .i64 x.cab),.v (.int .i64 x.bed),.v (.int .i64 x.frm),.v (.int .i64 x.to),.v (.bool x.dog)]=(M.set i x).map eTk:=by
    rw [List.map_set];rfl
   repeat' (first|(apply nx;with_reducible constructor)|refine uq (by decide) ?_|((first|refine vx env fun Q hQ=>?_|refine vz fun Q hQ=>?_);simp only [vkt,seval,wV,jU,aTk,cTk,qw,eTk,gTk,rTk,mTk,qf,dlS,pTk,xu,cnC,List.length_map,d1,j0,i0,hjM,hiM,hgM,hgi,ex,hp,e9,e8];(try simp only [ite_and]);(repeat' (first|with_reducible assumption|refine And.intro ?_ ?_|intro hp));all_goals (first|(refine hQ _ ?_;clear hQ Q)|(refine hQ _ (fun h=>?_) (fun h=>?_) <;> clear hQ Q <;> (try simp only [vki,reduceCtorEq] at h))|(refine vq ?_;kernel_rfl)|omega|assumption|with_reducible rfl|skip)))
   refine ⟨⟨(j+1,M.set i x),hjl,hin'⟩,by show l.length - (j+1) < l.length - j;omega, ?_⟩
   simp only [dlS,hF,← hset,List.cons_append,List.nil_append,qf]
   (refine Le.ok some [] ?_;constructor;all_goals (try simp only [vle,vkt,seval,wV,jU,aTk,cTk,qw,eTk,gTk,rTk,mTk,qf,dlS,pTk,xu,cnC,List.length_map]))
   all_goals first|rfl|(simp;done)
 ·obtain rfl:j=l.length:=by omega
  rw [List.take_length] at hi htk hlt
  rw [hi] at htk hlt
  have d1:decide (((l.length:Nat):Int) < (M.length:Int))=false:=decide_eq_false (by omega)
  have i0:((i:Int)).toNat=i:=rfl
  have hiM:(i:Int) < (M.length:Int):=by omega
  have hiM2:(i:Int)≤(M.length:Int):=by omega
  have hM0:0 < M.length:=by omega
  have hM1:0 < M.length - i:=by omega
  have hM2:i+(M.length - i)≤M.length:=by omega
  have hfin:l.filter (ndB (cnB P))=M.take i:=htk.symm
  rw [hfin]
  simp only [dlS,List.take_length,hi,List.cons_append,List.nil_append]
  repeat' (first|(apply nx;with_reducible constructor)|refine uq (by decide) ?_)
  ((first|refine vx env fun Q hQ=>?_|refine vz fun Q hQ=>?_);simp only [vkt,seval,wV,jU,aTk,cTk,qw,eTk,gTk,rTk,mTk,qf,dlS,pTk,xu,cnC,List.length_map,d1];(try simp only [ite_and]);(repeat' (first|with_reducible assumption|refine And.intro ?_ ?_|intro hp));all_goals (first|(refine hQ _ ?_;clear hQ Q)|(refine hQ _ (fun h=>?_) (fun h=>?_) <;> clear hQ Q <;> (try simp only [vki,reduceCtorEq] at h))|(refine vq ?_;kernel_rfl)|omega|assumption|with_reducible rfl|skip))
  repeat' (first|(apply nx;with_reducible constructor)|refine uq (by decide) ?_)
  ((first|refine vx env fun Q hQ=>?_|refine vz fun Q hQ=>?_);simp only [vkt,seval,wV,jU,aTk,cTk,qw,eTk,gTk,rTk,mTk,qf,dlS,pTk,xu,cnC,List.length_map,d1];(try simp only [ite_and]);(repeat' (first|with_reducible assumption|refine And.intro ?_ ?_|intro hp));all_goals (first|(refine hQ _ ?_;clear hQ Q)|(refine hQ _ (fun h=>?_) (fun h=>?_) <;> clear hQ Q <;> (try simp only [vki,reduceCtorEq] at h))|(refine vq ?_;kernel_rfl)|omega|assumption|with_reducible rfl|skip))
  repeat' (first|(apply nx;with_reducible constructor)|refine uq (by decide) ?_)
  refine Sym.mono (K:=fun e S1=>e=.normal∧∃ Z:List (List DV),Z.length=M.length∧Z.take i=(M.take i).map eTk∧Le S1 { t:=asg [(0,.row 0),(1,.clo 59 [.ptr 1 0]),(5,aI i)],h:=qj [(0,.row 31 7 Z),(1,.cells [.v (.int .i64 P)])],n:=2,m:=2 }) ?_ ?_
  ·((first|refine vx env fun Q hQ=>?_|refine vz fun Q hQ=>?_);simp only [vkt,seval,wV,jU,aTk,cTk,qw,eTk,gTk,rTk,mTk,qf,dlS,pTk,xu,cnC,List.length_map,i0,hiM,hiM2,hM0,hM1,hM2,Int.toNat_natCast];(try simp only [ite_and]);(repeat' (first|with_reducible assumption|refine And.intro ?_ ?_|intro hp));all_goals (first|(refine hQ _ ?_;clear hQ Q)|(refine hQ _ (fun h=>?_) (fun h=>?_) <;> clear hQ Q <;> (try simp only [vki,reduceCtorEq] at h))|(refine vq ?_;kernel_rfl)|omega|assumption|with_reducible rfl|skip))
   refine ⟨rfl,List.take i (M.map eTk)++List.replicate (M.length - i) [.v (.int .i64 0),.v (.int .i64 0),.v (.int .i64 0),.v (.int .i64 0),.v (.int .i64 0),.v (.int .i64 0),.v (.bool false)]++List.drop (i+(M.length - i)) (M.map eTk), ?_, ?_, ?_⟩
   ·simp;omega
   ·rw [List.append_assoc,List.take_append_of_le_length (by simp;omega),List.take_take,Nat.min_self,List.map_take]
   ·(refine Le.ok some [] ?_;constructor;all_goals (try simp only [vle,vkt,seval,wV,jU,aTk,cTk,qw,eTk,gTk,rTk,mTk,qf,dlS,pTk,xu,cnC,List.length_map]))
    all_goals first|rfl|(simp;done)
  rintro e S1 ⟨rfl,Z,hZl,hZt,hle⟩
  refine (vM hle ?_:Sym _ _ _ S1 _)
  clear hle S1
  repeat' (first|(apply nx;with_reducible constructor)|refine uq (by decide) ?_)
  refine Sym.mono (K:=fun e S1=>e=.normal∧Le S1 { t:=asg [(4,.rsl 0 7 0 i)],h:=qj [(0,.row 31 7 Z),(1,.cells [.v (.int .i64 P)])],n:=2,m:=2 }) ?_ ?_
  ·((first|refine vx env fun Q hQ=>?_|refine vz fun Q hQ=>?_);simp only [vkt,seval,wV,jU,aTk,cTk,qw,eTk,gTk,rTk,mTk,qf,dlS,pTk,xu,cnC,List.length_map,i0,hZl,hiM,hiM2,hM0,Nat.sub_zero];(try simp only [ite_and]);(repeat' (first|with_reducible assumption|refine And.intro ?_ ?_|intro hp));all_goals (first|(refine hQ _ ?_;clear hQ Q)|(refine hQ _ (fun h=>?_) (fun h=>?_) <;> clear hQ Q <;> (try simp only [vki,reduceCtorEq] at h))|(refine vq ?_;kernel_rfl)|omega|assumption|with_reducible rfl|skip))
   refine ⟨rfl, ?_⟩
   (refine Le.ok some [] ?_;constructor;all_goals (try simp only [vle,vkt,seval,wV,jU,aTk,cTk,qw,eTk,gTk,rTk,mTk,qf,dlS,pTk,xu,cnC,List.length_map]))
   all_goals first|rfl|(simp;done)
  rintro e S1 ⟨rfl,hle⟩
  refine (vM (Le.trans hle (QiS (t0:=4) (id:=0) (k:=7) (n:=i) (xs:=Z) rfl rfl (by omega))) ?_:Sym _ _ _ S1 _)
  clear hle S1
  simp only [hZt]
  repeat' (first|(apply nx;with_reducible constructor)|refine uq (by decide) ?_|((first|refine vx env fun Q hQ=>?_|refine vz fun Q hQ=>?_);simp only [vkt,seval,wV,jU,aTk,cTk,qw,eTk,gTk,rTk,mTk,qf,dlS,pTk,xu,cnC,List.length_map];(try simp only [ite_and]);(repeat' (first|with_reducible assumption|refine And.intro ?_ ?_|intro hp));all_goals (first|(refine hQ _ ?_;clear hQ Q)|(refine hQ _ (fun h=>?_) (fun h=>?_) <;> clear hQ Q <;> (try simp only [vki,reduceCtorEq] at h))|(refine vq ?_;kernel_rfl)|omega|assumption|with_reducible rfl|skip)))
  (simp only [vrt,Tryz.results58,vkt,seval,wV,jU,aTk,cTk,qw,eTk,gTk,rTk,mTk,qf,dlS,pTk,xu,cnC,List.length_map];refine Fin.ok some [] ?_ ?_ ?_ ?_ ?_ rfl;all_goals (try simp only [vle,vkt,seval,wV,jU,aTk,cTk,qw,eTk,gTk,rTk,mTk,qf,dlS,pTk,xu,cnC,List.length_map]))
  all_goals first|rfl|(simp;done)
def Ry (P:Int) (S:St):List AV→Option Pk
 |[.row r,.clo f [.ptr t 0]]=>match S.h r with
  |some (.row e k xs)=>match S.h t with
   |some (.cells [.v (.int .i64 Q)])=>some { pre:=f=59∧Q=P∧xs=(xs.map dTk).map eTk∧xs.length≤100,hs:=[r,t],ar:=[.row 0,.clo 59 [.ptr 1 0]],L0:=[.row 31 7 xs,.cells (cnC P)],v:=bif (xs.map dTk).any (cnB P) then .row 2 else .row 0,L1:=bif (xs.map dTk).any (cnB P) then [none,some (.cells (cnC P)),some (.row 31 7 (((xs.map dTk).filter (ndB (cnB P))).map eTk))] else [some (.row 31 7 xs),some (.cells (cnC P))] }
   |_=>none
  |_=>none
 |_=>none
theorem eDel {A:Frm→Prop} {P:Int}:qC A Tryz.prog 58 (fnE (Ry P)):=wK fun S bs q h hp=>by
 unfold Ry at h
 split at h
 ·split at h
  ·split at h
   ·rename_i xs _ _ _
    cases h
    obtain ⟨_,_,h1,h2⟩:=hp
    simp only at h1 h2 ⊢
    cases hq:(List.map dTk _).any (cnB P) with
    |true =>
     have:=Qhg P (List.map dTk _) (by rw [List.length_map];exact h2) hq
     rw [qf,← h1] at this
     exact this
    |false =>
     have:=QfB P (List.map dTk _) (by rw [List.length_map];exact h2) hq
     rw [qf,← h1] at this
     exact this
   ·cases h
  ·cases h
 ·cases h
theorem QfX {P:Int} {l:List Tk} (h:l.any (cnB P)=true):(Ym P l).length < l.length:=by
 unfold Ym
 rw [List.length_filter_lt_length_iff_exists]
 obtain ⟨t,ht,h1⟩:=List.any_eq_true.1 h
 exact ⟨t,ht,by unfold cnB at h1;rw [h1];decide⟩
theorem Qiu {P:Int} {l:List Tk} (h:l.any (cnB P)=false):Ym P l=l:=Qgm fun t ht=>by
 have:=List.any_eq_false.1 h t ht
 unfold cnB at this
 simpa using this
def xN:=vj @ty3 (vj @QV (vj @xg (vj @xB (vj @Zu (vj @Vw (vj @ti3.eq_1 (vj @Qh.eq_1 (vj @y9.eq_1 (vj @vJ.eq_1 (vj @QP.eq_1 @JU.eq_1))))))))))
def Jp:=vj @aI.eq_1 (@aB.eq_1)
set_option maxHeartbeats 4000000 in
theorem QdA (c:Chart) (P:Int) (hc:c.cabins.length≤maxLen):FnV Tryz.prog 23 [qa c,aI P] (.tup [qa (kS c P).1,aI (kS c P).2]):=by
 have env:Env (fun _=>True) Tryz.prog tyB (tab [(7,za true qp),(44,fnE zh),(58,fnE (Ry P))]):=qO ⟨Zk,Vk,eDel,trivial⟩
 refine Fn.of (A:=fun _=>True) (n0:=0) (D:=noD) (Fn0 Tryz.func23 rfl (fun vs w=>by kernel_rfl) (by kernel_rfl)) (by simp) (by simp [AV.ids,AV.idsL,qa,qb,aI]) (fun i o h=>by cases h) (fun _ _ _ _=>trivial) qG ?_
 have ec:(⟨c.cabins,c.secs,c.sold⟩:Chart)=c:=rfl
 have hmx:(100000:Nat)≤maxLen:=by decide
 obtain ⟨e,he⟩:∃ e,zS c=e:=⟨_,rfl⟩
 by_cases h0:e=0
 ·rw [h0] at he
  have hv:=Qo he
  have b1:c.cabins.length≤100000:=by have:=hv.car.cabs;omega
  have b2:c.sold.length≤100000:=by have:=hv.many;omega
  have b3:c.sold.length≤100:=by have:=hv.many;omega
  cases ha:c.sold.any (cnB P) with
  |true =>
   have hk:=QfX ha
   have hA:kS c P=(⟨c.cabins,c.secs,Ym P c.sold⟩,0):=by
    unfold kS
    rw [he,if_neg (by decide),if_neg (by omega)]
   rw [hA]
   have hkl:c.sold.filter (ndB (cnB P))=Ym P c.sold:=rfl
   have d1:decide (((Ym P c.sold).length:Int)=(c.sold.length:Int))=false:=decide_eq_false (by omega)
   repeat' (first|(apply nx;with_reducible constructor)|refine uq (by decide) ?_|((first|refine vx env fun Q hQ=>?_|refine vz fun Q hQ=>?_);simp only [vkt,seval,xN,Jp,aTk,cTk,eTk,rTk,mTk,qc,qa,qb,qg,qf,qm,cnC,qp,zh,Ry,List.length_map,List.map_cons,List.map_nil,cond_true,cond_false,ec,he,hc,b1,b2,b3,ha,hkl,d1,decide_true];(try simp only [ite_and]);(repeat' (first|with_reducible assumption|refine And.intro ?_ ?_|intro hp));all_goals (first|(refine hQ _ ?_;clear hQ Q)|(refine hQ _ (fun h=>?_) (fun h=>?_) <;> clear hQ Q <;> (try simp only [vki,reduceCtorEq] at h))|(refine vq ?_;kernel_rfl)|omega|assumption|with_reducible rfl|skip)))
   (simp only [vrt,Tryz.results23,vkt,seval,xN,Jp,aTk,cTk,eTk,rTk,mTk,qc,qa,qb,qg,qf,qm,cnC,qp,zh,Ry,List.length_map,List.map_cons,List.map_nil,cond_true,cond_false];refine Fin.val rfl ?_;(try simp only [AV.le,AV.leL]))
   all_goals first|rfl|(simp;done)|exact ⟨⟨trivial,trivial,⟨_,_,rfl⟩,trivial⟩,trivial,trivial⟩
  |false =>
   have hA:kS c P=(⟨[],0,[]⟩,3):=by
    unfold kS
    rw [he,if_neg (by decide),Qiu ha,if_pos rfl]
   rw [hA]
   repeat' (first|(apply nx;with_reducible constructor)|refine uq (by decide) ?_|((first|refine vx env fun Q hQ=>?_|refine vz fun Q hQ=>?_);simp only [vkt,seval,xN,Jp,aTk,cTk,eTk,rTk,mTk,qc,qa,qb,qg,qf,qm,cnC,qp,zh,Ry,List.length_map,List.map_cons,List.map_nil,cond_true,cond_false,ec,he,hc,b1,b2,b3,ha,decide_true];(try simp only [ite_and]);(repeat' (first|with_reducible assumption|refine And.intro ?_ ?_|intro hp));all_goals (first|(refine hQ _ ?_;clear hQ Q)|(refine hQ _ (fun h=>?_) (fun h=>?_) <;> clear hQ Q <;> (try simp only [vki,reduceCtorEq] at h))|(refine vq ?_;kernel_rfl)|omega|assumption|with_reducible rfl|skip)))
   (simp only [vrt,Tryz.results23,vkt,seval,xN,Jp,aTk,cTk,eTk,rTk,mTk,qc,qa,qb,qg,qf,qm,cnC,qp,zh,Ry,List.length_map,List.map_cons,List.map_nil,cond_true,cond_false];refine Fin.val rfl ?_;(try simp only [AV.le,AV.leL]))
   all_goals first|rfl|(simp;done)
 ·have d0:decide (e=0)=false:=decide_eq_false h0
  have hA:kS c P=(⟨[],0,[]⟩,e):=by
   unfold kS
   rw [he,if_pos h0]
  rw [hA]
  repeat' (first|(apply nx;with_reducible constructor)|refine uq (by decide) ?_|((first|refine vx env fun Q hQ=>?_|refine vz fun Q hQ=>?_);simp only [vkt,seval,xN,Jp,aTk,cTk,eTk,rTk,mTk,qc,qa,qb,qg,qf,qm,cnC,qp,zh,Ry,List.length_map,List.map_cons,List.map_nil,cond_true,cond_false,ec,he,hc,d0];(try simp only [ite_and]);(repeat' (first|with_reducible assumption|refine And.intro ?_ ?_|intro hp));all_goals (first|(refine hQ _ ?_;clear hQ Q)|(refine hQ _ (fun h=>?_) (fun h=>?_) <;> clear hQ Q <;> (try simp only [vki,reduceCtorEq] at h))|(refine vq ?_;kernel_rfl)|omega|assumption|with_reducible rfl|skip)))
  (simp only [vrt,Tryz.results23,vkt,seval,xN,Jp,aTk,cTk,eTk,rTk,mTk,qc,qa,qb,qg,qf,qm,cnC,qp,zh,Ry,List.length_map,List.map_cons,List.map_nil,cond_true,cond_false];refine Fin.val rfl ?_;(try simp only [AV.le,AV.leL]))
  all_goals first|rfl|(simp;done)
def zM:List AV→Prop × AV
 |[.agg [.sl x0,.v (.int .i64 x1),.sl x2],.v (.int .i64 n)]=>(x0=(x0.map qA).map qo∧x2=(x2.map dTk).map eTk∧((⟨(x0.map qA),x1,(x2.map dTk)⟩:Chart)).cabins.length≤maxLen,.tup [qa (kS ((⟨(x0.map qA),x1,(x2.map dTk)⟩:Chart)) n).1,aI (kS ((⟨(x0.map qA),x1,(x2.map dTk)⟩:Chart)) n).2])
 |_=>(False,.junk)
theorem QhH {A:Frm→Prop}:qC A Tryz.prog 23 (za false zM):=zx fun vs hv h=>by
 clear hv
 unfold zM at h ⊢
 split at h
 ·rename_i x0 x1 x2 n;obtain ⟨q0,q1,k0⟩:=h
  refine ⟨by first|trivial|(simp [AV.plain,AV.plainL,aI,aB,qD,qd,qw,qh,aTk,cTk];done)|(repeat' split) <;> simp [AV.plain,AV.plainL,aI,aB,qD,qd,qw,qh,aTk,cTk],fun h=>absurd h (by decide), ?_⟩
  have:=QdA ((⟨(x0.map qA),x1,(x2.map dTk)⟩:Chart)) n k0
  simp only [zb,qa,aI,qw,qb,← q0,← q1] at this
  first|exact this|(simp only [zb,qa,aI,qw,qb,← q0,← q1];exact this)
 ·exact h.elim
structure PgOk (c:Chart) (a:Ask):Prop where
 car:CarOk c
 many:c.sold.length≤50
 sx:a.sexes.length≤3
theorem pg_ok {c:Chart} {a:Ask} (h:PgOk c a) {ans:Nat→Bool} {R:Nat} (hr:Rounds ans R (plP c a).length):GrowOk c.cabins c.secs a a.sexes.length c.sold [] (plY c a) (plH c a) ans R:=by
 have h1:=h.car.cabs
 have h2:=h.many
 have h3:=h.sx
 exact ⟨by simp,by omega,⟨by omega,fun x hx=>by have:=h.car.beds x hx;omega⟩,by omega,by omega,(by simp),hr,fun _ _=>rfl,fun _ _=>rfl⟩
def ZL:=vj @Q0 (vj @Wl (vj @Ql.eq_1 @Zt.eq_1))
def RL:=vj @aI.eq_1 (@aB.eq_1)
theorem QbF {c:Chart} {a:Ask} (h:PgOk c a):Qaw Tryz.prog 67 [.cb,.ptr 2 0,.ptr 3 0] (nth ((plL c a).take 1)) (nth (plL c a)) (plY c a) (plP c a).length (fun j=>nth (plH c a j)) (fun _ _=>.tup []):=by
 intro ans R hr
 have ok:=pg_ok h hr
 rw [ZX,ZX]
 obtain ⟨A0,hA0⟩:∃ A0:Frm→Prop,A0=Acb Tryz.prog (qj (qH 0 [qg c.cabins c.secs 1])) (qj (qH 0 (plL c a))) (plY c a) (fun j=>nth (plH c a j)) ans R:=⟨_,rfl⟩
 have hA:∀ F,A0 F→Acb Tryz.prog (qj (qH 0 [qg c.cabins c.secs 1])) (qj (qH 0 (plL c a))) (plY c a) (fun j=>nth (plH c a j)) ans R F:=fun F h=>hA0 ▸ h
 have env:Env A0 Tryz.prog tyB (tab [(68,fnI [qg c.cabins c.secs 1] R (Qk c a (plY c a) (plH c a) ans R))]):=qO ⟨QgT hA,trivial⟩
 refine Fn.of (A:=A0) (n0:=4) (D:=noD) (Fn0 Tryz.func67 rfl (fun vs w=>by kernel_rfl) (by kernel_rfl)) (by simp) (by simp [AV.ids]) VL (fun F hb h0 _=>hA0 ▸ ⟨h0,QdW,hb⟩) qG ?_
 show Sym _ _ _ (zR [.cb,.ptr 2 0,.ptr 3 0] 4 (qj [(0,qg c.cabins c.secs 1),(1,qf c.sold),(2,.cells [.ptr 0 0]),(3,.cells (ql a))])) (vo tyB noD Tryz.f67 fun S rv=>Fin S rv _ 4 (qj [(0,qg c.cabins c.secs 1),(1,qf c.sold),(2,.cells [.ptr 0 0]),(3,.cells (ql a))]) R)
 repeat' (first|(apply nx;with_reducible constructor)|refine uq (by decide) ?_|((first|refine vx env fun Q hQ=>?_|refine vz fun Q hQ=>?_);simp only [vkt,seval,ZL,RL,qx,ql,qd,mTk,qc,qg,qf,qm,plL,Qk,List.length_map,fnI,wM,qU,nth,hwL,Nat.zero_add,Nat.sub_zero,List.map_nil,ok];(try simp only [ite_and]);(repeat' (first|with_reducible assumption|refine And.intro ?_ ?_|intro hp));all_goals (first|(refine hQ _ ?_;clear hQ Q)|(refine hQ _ (fun h=>?_) (fun h=>?_) <;> clear hQ Q <;> (try simp only [vki,reduceCtorEq] at h))|(refine vq ?_;kernel_rfl)|omega|assumption|with_reducible rfl|skip)))
 (simp only [vrt,Tryz.results67,vkt,seval,ZL,RL,qx,ql,qd,mTk,qc,qg,qf,qm,plL,Qk,List.length_map,fnI,wM,qU,nth,hwL,Nat.zero_add,Nat.sub_zero,List.map_nil];refine Fin.ok some [] ?_ ?_ ?_ ?_ ?_ rfl;all_goals (try simp only [vle,vkt,seval,ZL,RL,qx,ql,qd,mTk,qc,qg,qf,qm,plL,Qk,List.length_map,fnI,wM,qU,nth,hwL,Nat.zero_add,Nat.sub_zero,List.map_nil]))
 all_goals first|rfl|(simp;done)
def KI:=vj @XD @Yg.eq_1
def QcN:=vj @aI.eq_1 (vj @aB.eq_1 (@aU.eq_1))
theorem QhX (b:Int) (hb:0≤b∧b < 16):FnV Tryz.prog 33 [aU b,aI 0] (aB (Yf b 0)):=by
 have env:Env (fun _=>True) Tryz.prog tyB (tab []):=qO trivial
 have hc:b=0∨b=1∨b=2∨b=3∨b=4∨b=5∨b=6∨b=7∨b=8∨b=9∨b=10∨b=11∨b=12∨b=13∨b=14∨b=15:=by omega
 rcases hc with rfl|rfl|rfl|rfl|rfl|rfl|rfl|rfl|rfl|rfl|rfl|rfl|rfl|rfl|rfl|rfl
 all_goals
  refine Fn.of (A:=fun _=>True) (n0:=0) (D:=noD) (Fn0 Tryz.func33 rfl (fun vs w=>by kernel_rfl) (by kernel_rfl)) (by simp) (by simp [AV.ids,AV.idsL,aU,aI]) (fun i o h=>by cases h) (fun _ _ _ _=>trivial) qG ?_
  repeat' (first|(apply nx;with_reducible constructor)|refine uq (by decide) ?_|((first|refine vx env fun Q hQ=>?_|refine vz fun Q hQ=>?_);simp only [vkt,seval,KI,QcN];(try simp only [ite_and]);(repeat' (first|with_reducible assumption|refine And.intro ?_ ?_|intro hp));all_goals (first|(refine hQ _ ?_;clear hQ Q)|(refine hQ _ (fun h=>?_) (fun h=>?_) <;> clear hQ Q <;> (try simp only [vki,reduceCtorEq] at h))|(refine vq ?_;kernel_rfl)|omega|assumption|with_reducible rfl|skip)))
  (simp only [vrt,Tryz.results33,vkt,seval,KI,QcN];refine Fin.val rfl ?_;(try simp only [AV.le,AV.leL]))
  all_goals first|kernel_rfl|rfl
def kP:List AV→Prop × AV
 |[.v (.int .u64 b),.v (.int .i64 n)]=>((0≤b∧b < 16)∧n=0,aB (Yf b n))
 |_=>(False,.junk)
theorem Qjh {A:Frm→Prop}:qC A Tryz.prog 33 (za true kP):=zx fun vs hv h=>by
 clear hv
 unfold kP at h ⊢
 split at h
 ·obtain ⟨h,rfl⟩:=h
  exact ⟨by simp [aB,AV.plain],fun _=>by simp [aB,AV.flat],QhX _ h⟩
 ·exact h.elim
def tkB (cs:List Cabin) (s:Int):List Ask→Int→List Tk→Bool
 |[],_,_=>true
 |a :: r,b,sold=>if Yf b 0 then (plP ⟨cs,s,sold⟩ a).any (fun x=>tkB cs s r (b / 2) x.2) else tkB cs s r (b / 2) sold
theorem Ko (f:Nat→Bool):∀ N,(∀ j,j < N→f j=false)∨∃ k,k < N∧f k=true∧∀ j,j < k→f j=false
 |0=>.inl fun j h=>absurd h (Nat.not_lt_zero _)
 |N+1=>by
  rcases Ko f N with h|⟨k,h1,h2,h3⟩
  ·cases hN:f N with
   |true=>exact .inr ⟨N,Nat.lt_succ_self N,hN,h⟩
   |false =>
    refine .inl fun j hj=>?_
    rcases Nat.lt_or_eq_of_le (Nat.le_of_lt_succ hj) with h4|rfl
    ·exact h j h4
    ·exact hN
  ·exact .inr ⟨k,by omega,h2,h3⟩
theorem Qhk {α:Type} {p:α→Bool} {d:α} {l:List α}:l.any p=(List.range l.length).any fun j=>p (l.getD j d):=by
 rw [Bool.eq_iff_iff,List.any_eq_true,List.any_eq_true]
 constructor
 ·rintro ⟨x,hx,hp⟩
  obtain ⟨j,hj,rfl⟩:=List.getElem_of_mem hx
  exact ⟨j,List.mem_range.2 hj,by rw [List.getD_eq_getElem?_getD,List.getElem?_eq_getElem hj];exact hp⟩
 ·rintro ⟨j,hj,hp⟩
  exact ⟨_,xV (List.mem_range.1 hj),hp⟩
structure TaOk (cs:List Cabin) (s:Int) (L:List Ask) (b:Int) (sold:List Tk):Prop where
 car:CarOk ⟨cs,s,sold⟩
 many:sold.length+3 * L.length≤50
 sx:∀ a ∈ L,a.sexes.length≤3
 four:L.length≤4
 bit:0≤b∧b < 16
theorem K3 {cs:List Cabin} {a:Ask}:∀ (m:Nat) (sold:List Tk) (begun:List Bunk),∀ x ∈ wZ cs a m sold begun,x.2.length=sold.length+m
 |0,sold,begun,x,hx=>by
  simp only [wZ,List.mem_singleton] at hx
  subst hx;rfl
 |m+1,sold,begun,x,hx=>by
  rw [Qt,List.mem_flatMap] at hx
  obtain ⟨b,hb,hx⟩:=hx
  unfold gbL at hx
  split at hx
  ·have:=K3 m _ _ x hx
   rw [this,List.length_append,List.length_singleton];omega
  ·simp at hx
def QfI (cs:List Cabin) (s:Int) (L:List Ask):Prop:=∀ (b:Int) (sold:List Tk),TaOk cs s L b sold →
 Fn noB Tryz.prog 77 [.ptr 0 0,.sl (L.map zi),aU b] (qj (qH 0 (qm cs s sold))) (aB (tkB cs s L b sold)) (qj (wP 0 ((qm cs s sold).map some))) 0
def yM (cs:List Cabin) (s:Int) (L:List Ask) (S:St):List AV→Option Pk
 |[.ptr p 0,.sl xs,.v (.int .u64 b)]=>match S.h p with
  |some (.cells [.sl cc,.v (.int .i64 s'),.row r])=>match S.h r with
   |some (.row _ _ ts)=>some { pre:=cc=cs.map qo∧s'=s∧xs=L.map zi∧ts=(ts.map dTk).map eTk∧TaOk cs s L b (ts.map dTk),hs:=[p,r],ar:=[.ptr 0 0,.sl (L.map zi),.v (.int .u64 b)],L0:=qm cs s (ts.map dTk),v:=aB (tkB cs s L b (ts.map dTk)),L1:=(qm cs s (ts.map dTk)).map some }
   |_=>none
  |_=>none
 |_=>none
theorem Qe8 {A:Frm→Prop} {cs:List Cabin} {s:Int} {L:List Ask} (ih:QfI cs s L):qC A Tryz.prog 77 (fnE (yM cs s L)):=wK fun S bs q h hp=>by
 unfold yM at h
 split at h
 ·split at h
  ·split at h
   ·cases h
    exact ih _ _ hp.2.2.2.2
   ·cases h
  ·cases h
 ·cases h
def JW:=vj @ty3 (vj @ty4 (vj @Q0 (vj @Qdv (vj @XD (vj @Wl (vj @ti3.eq_1 (vj @ti4.eq_1 (vj @Ql.eq_1 (vj @UT.eq_1 (vj @Yg.eq_1 @Zt.eq_1))))))))))
def Uz:=vj @aI.eq_1 (vj @aB.eq_1 (@aU.eq_1))
theorem take_nil (cs:List Cabin) (s:Int):QfI cs s []:=by
 intro b sold ok
 have env:Env (fun _=>True) Tryz.prog tyB (tab []):=qO trivial
 refine Fn.of (A:=fun _=>True) (n0:=2) (D:=noD) (Fn0 Tryz.func77 rfl (fun vs w=>by kernel_rfl) (by kernel_rfl)) (by simp) (by simp [AV.ids,AV.idsL,aU]) xc (fun _ _ _ _=>trivial) qG ?_
 show Sym _ _ _ (zR [.ptr 0 0,.sl [],aU b] 2 (qj [(0,qg cs s 1),(1,qf sold)])) (vo tyB noD Tryz.f77 fun S rv=>Fin S rv (aB true) 2 (qj [(0,qg cs s 1),(1,qf sold)]) 0)
 repeat' (first|(apply nx;with_reducible constructor)|refine uq (by decide) ?_|((first|refine vx env fun Q hQ=>?_|refine vz fun Q hQ=>?_);simp only [vkt,seval,JW,Uz,mTk,qc,qg,qf,qm,List.length_map,List.length_nil,List.map_nil,decide_true];(try simp only [ite_and]);(repeat' (first|with_reducible assumption|refine And.intro ?_ ?_|intro hp));all_goals (first|(refine hQ _ ?_;clear hQ Q)|(refine hQ _ (fun h=>?_) (fun h=>?_) <;> clear hQ Q <;> (try simp only [vki,reduceCtorEq] at h))|(refine vq ?_;kernel_rfl)|omega|assumption|with_reducible rfl|skip)))
 (simp only [vrt,Tryz.results77,vkt,seval,JW,Uz,mTk,qc,qg,qf,qm,List.length_map,List.length_nil,List.map_nil];refine Fin.ok some [] ?_ ?_ ?_ ?_ ?_ rfl;all_goals (try simp only [vle,vkt,seval,JW,Uz,mTk,qc,qg,qf,qm,List.length_map,List.length_nil,List.map_nil]))
 all_goals first|rfl|(simp;done)|exact fun i hi=>(match i,hi with|0,_=>rfl|1,_=>rfl)
def YX (g:Nat→Bool) (k:Nat):Bool:=(List.range k).any g
theorem Xe {g:Nat→Bool} {k:Nat} (h:∀ j,j < k→g j=false):YX g k=false:=by
 unfold YX
 rw [List.any_eq_false]
 intro j hj
 rw [h j (List.mem_range.1 hj)]
 decide
theorem Yi {g:Nat→Bool} {k j:Nat} (hj:j < k) (h:g j=true):YX g k=true:=List.any_eq_true.2 ⟨j,List.mem_range.2 hj,h⟩
theorem Qcf (g:Nat→Bool) (N:Nat):∃ R,Rounds (fun j=>!g j) R N∧(∀ j,j < R→∀ i,i < j→g i=false)∧(R≤N)∧YX g R=YX g N:=by
 rcases Ko g N with h|⟨k,h1,h2,h3⟩
 ·refine ⟨N,⟨Nat.le_refl _,fun j hj=>by rw [h j (by omega)];rfl,fun h=>absurd h (Nat.lt_irrefl _)⟩,fun j hj i hi=>h i (by omega),Nat.le_refl _,rfl⟩
 ·refine ⟨k+1,⟨h1,fun j hj=>by rw [h3 j (by omega)];rfl,fun _=>⟨Nat.succ_pos _,by rw [Nat.add_sub_cancel,h2];rfl⟩⟩,fun j hj i hi=>h3 i (by omega),h1, ?_⟩
  rw [Yi (Nat.lt_succ_self k) h2,Yi h1 h2]
def Qf6:List (Nat × AV):=[(3,.ptr 2 0),(4,.ptr 3 0),(5,.ptr 4 0),(6,.ptr 5 0),(23,.clo 67 [.ptr 6 0,.ptr 7 0])]
def Zy:List (Nat × AV):=[(3,.ptr 2 0),(4,.ptr 3 0),(5,.ptr 4 0),(6,.ptr 5 0)]
def ku (xs:List (List DV)) (b:Int) (g:Nat→Bool) (k:Nat):List (Nat × AObj):=[(2,.cells [.ptr 0 0]),(3,.cells [.sl xs]),(4,.cells [aU b]),(5,.cells [aB (YX g k)])]
theorem Vf (c:Chart) (a:Ask):zf [0,1,6,7] 9 0 (plL c a)=[(0,qg c.cabins c.secs 1),(1,qf c.sold),(6,.cells [.ptr 0 0]),(7,.cells (ql a))]:=by
 simp [zf,plL,qz,AObj.ren,AV.renL,AV.ren,qg,qf,ql]
theorem V4 (c:Chart) (a:Ask) (j:Nat):zf [0] 9 0 (plH c a j)=[(0,qg c.cabins c.secs 9),(9,qf ((plP c a).getD j default).2)]:=by
 simp [zf,plH,qm,qz,AObj.ren,AV.renL,AV.ren,qg,qf]
def jm:=vj @ty3 (vj @ty4 (vj @Q0 (vj @Qdv (vj @XD (vj @Wl (vj @ti3.eq_1 (vj @ti4.eq_1 (vj @Ql.eq_1 (vj @UT.eq_1 (vj @Yg.eq_1 @Zt.eq_1))))))))))
def vP:=vj @aI.eq_1 (vj @aB.eq_1 (vj @aU.eq_1 (@QJ)))
set_option maxHeartbeats 4000000 in
theorem QdV (cs:List Cabin) (s:Int) (a:Ask) (r:List Ask) (ih:QfI cs s r):QfI cs s (a :: r):=by
 intro b sold ok
 have hb:=ok.bit
 have hsh:b.fdiv (2 ^ min 1 IntKind.u64.bits)=b / 2:=by rw [show (2:Int) ^ min 1 IntKind.u64.bits=2 from rfl,Int.fdiv_eq_ediv_of_nonneg _ (by decide)]
 have hsh2:b.fdiv 2=b / 2:=by rw [Int.fdiv_eq_ediv_of_nonneg _ (by decide)]
 have hb2:0≤b / 2∧b / 2 < 16:=by omega
 have h4:=ok.four
 have hmn:=ok.many
 rw [List.length_cons] at h4 hmn
 have e0:(a :: r).map zi=zi a :: r.map zi:=rfl
 have d0:decide ((((zi a :: r.map zi).length:Nat):Int)=0)=false:=decide_eq_false (by rw [List.length_cons];omega)
 have d9:decide ((((r.length+1):Nat):Int)=0)=false:=decide_eq_false (by omega)
 have z1:(0:Nat) < r.length+1:=by omega
 have z2:(1:Int)≤((r.length+1:Nat):Int):=by omega
 have z3:(List.take (r.length+1) (zi a :: r.map zi))=zi a :: r.map zi:=List.take_of_length_le (by simp)
 have z5:List.take r.length (r.map zi)=r.map zi:=List.take_of_length_le (by simp)
 have z4:(((r.length+1:Nat):Int)).toNat=r.length+1:=rfl
 have hsx:∀ x ∈ r,x.sexes.length≤3:=fun x hx=>ok.sx x (List.mem_cons_of_mem _ hx)
 cases hbit:Yf b 0 with
 |false =>
  have env:Env (fun _=>True) Tryz.prog tyB (tab [(33,za true kP),(77,fnE (yM cs s r))]):=qO ⟨Qjh,Qe8 ih,trivial⟩
  refine Fn.of (A:=fun _=>True) (n0:=2) (D:=noD) (Fn0 Tryz.func77 rfl (fun vs w=>by kernel_rfl) (by kernel_rfl)) (by simp) (by simp [AV.ids,AV.idsL,aU]) xc (fun _ _ _ _=>trivial) qG ?_
  have hv:tkB cs s (a :: r) b sold=tkB cs s r (b / 2) sold:=by rw [tkB,hbit];rfl
  have hok:TaOk cs s r (b / 2) sold:=⟨ok.car,by omega,hsx,by omega,hb2⟩
  rw [hv,e0]
  show Sym _ _ _ (zR [.ptr 0 0,.sl (zi a :: r.map zi),aU b] 2 (qj [(0,qg cs s 1),(1,qf sold)])) (vo tyB noD Tryz.f77 fun S rv=>Fin S rv (aB (tkB cs s r (b / 2) sold)) 2 (qj [(0,qg cs s 1),(1,qf sold)]) 0)
  repeat' (first|(apply nx;with_reducible constructor)|refine uq (by decide) ?_|((first|refine vx env fun Q hQ=>?_|refine vz fun Q hQ=>?_);simp only [vkt,seval,jm,vP,qx,ql,zi,qc,mTk,qg,qf,qm,plL,Zy,ku,kP,qF,yM,y8,wN,List.length_map,List.length_cons,List.map_cons,List.getD_cons_zero,List.drop_succ_cons,List.drop_zero,nth,hwL,Nat.zero_add,Nat.sub_zero,d0,d9,z1,z2,z3,z4,z5,hb,hbit,hsh,hsh2,hok];(try simp only [ite_and]);(repeat' (first|with_reducible assumption|refine And.intro ?_ ?_|intro hp));all_goals (first|(refine hQ _ ?_;clear hQ Q)|(refine hQ _ (fun h=>?_) (fun h=>?_) <;> clear hQ Q <;> (try simp only [vki,reduceCtorEq] at h))|(refine vq ?_;kernel_rfl)|omega|assumption|with_reducible rfl|skip)))
  (simp only [vrt,Tryz.results77,vkt,seval,jm,vP,qx,ql,zi,qc,mTk,qg,qf,qm,plL,Zy,ku,kP,qF,yM,y8,wN,List.length_map,List.length_cons,List.map_cons,List.getD_cons_zero,List.drop_succ_cons,List.drop_zero,nth,hwL,Nat.zero_add,Nat.sub_zero];refine Fin.ok some [] ?_ ?_ ?_ ?_ ?_ rfl;all_goals (try simp only [vle,vkt,seval,jm,vP,qx,ql,zi,qc,mTk,qg,qf,qm,plL,Zy,ku,kP,qF,yM,y8,wN,List.length_map,List.length_cons,List.map_cons,List.getD_cons_zero,List.drop_succ_cons,List.drop_zero,nth,hwL,Nat.zero_add,Nat.sub_zero]))
  all_goals first|rfl|(simp;done)|exact fun i hi=>(match i,hi with|0,_=>rfl|1,_=>rfl)
 |true =>
 have env:Env (fun F=>F.r=none) Tryz.prog tyB (tab [(33,za true kP),(37,fnE qF)]):=qO ⟨Qjh,Yp,trivial⟩
 refine Fn.of (A:=fun F=>F.r=none) (n0:=2) (D:=noD) (Fn0 Tryz.func77 rfl (fun vs w=>by kernel_rfl) (by kernel_rfl)) (by simp) (by simp [AV.ids,AV.idsL,aU]) xc (fun _ _ _ h=>h) qG ?_
 obtain ⟨c,hc⟩:∃ c:Chart,(⟨cs,s,sold⟩:Chart)=c:=⟨_,rfl⟩
 have e1:cs=c.cabins:=by rw [← hc]
 have e2:s=c.secs:=by rw [← hc]
 have e3:sold=c.sold:=by rw [← hc]
 have hpg:PgOk c a:=by
  rw [← hc]
  exact ⟨ok.car,by show sold.length≤50;omega,ok.sx a (List.mem_cons_self ..)⟩
 have hxok:∀ x ∈ plP c a,TaOk cs s r (b / 2) x.2:=fun x hx=>by
  have hl:=K3 _ _ _ x hx
  have hs3:=hpg.sx
  rw [← e3] at hl
  exact ⟨⟨ok.car.cabs,ok.car.beds,ok.car.secs⟩,by omega,hsx,by omega,hb2⟩
 obtain ⟨g,hg⟩:∃ g:Nat→Bool,(fun j=>tkB cs s r (b / 2) ((plP c a).getD j default).2)=g:=⟨_,rfl⟩
 have hgj:∀ j,tkB cs s r (b / 2) ((plP c a).getD j default).2=g j:=fun j=>congrFun hg j
 have hv:tkB cs s (a :: r) b sold=YX g (plP c a).length:=by
  rw [tkB,hbit,if_pos rfl,hc,Qhk (d:=default)]
  unfold YX
  rw [← hg]
 rw [hv,e0]
 show Sym _ _ _ (zR [.ptr 0 0,.sl (zi a :: r.map zi),aU b] 2 (qj [(0,qg cs s 1),(1,qf sold)])) (vo tyB noD Tryz.f77 fun S rv=>Fin S rv (aB (YX g (plP c a).length)) 2 (qj [(0,qg cs s 1),(1,qf sold)]) 0)
 obtain ⟨N,hN⟩:∃ N,(plP c a).length=N:=⟨_,rfl⟩
 obtain ⟨R,hRo,hRp,hRN,hRh⟩:=Qcf g N
 obtain ⟨ans,hans⟩:∃ ans:Nat→Bool,(fun j=>!g j)=ans:=⟨_,rfl⟩
 have ha:∀ j,ans j=!g j:=fun j=>(congrFun hans j).symm
 rw [hans] at hRo
 rw [hN,← hRh]
 obtain ⟨xs,hxs⟩:∃ xs,zi a :: r.map zi=xs:=⟨_,rfl⟩
 have hg0:xs.getD 0 [.v (.int .i64 0),.v (.int .i64 0),.v (.int .i64 0),.sl [],.v (.bool false)]=zi a:=by rw [← hxs];rfl
 have hxr:wJ 5 xs=True:=by rw [← hxs,← e0];exact y8 _
 have hxl:xs.length=r.length+1:=by rw [← hxs];simp
 have hdr:(xs.take (r.length+1)).drop 1=r.map zi:=by rw [← hxs,z3];rfl
 have hdr2:xs.drop 1=r.map zi:=by rw [← hxs];rfl
 rw [hxs] at z3
 rw [hxs]
 repeat' (first|(apply nx;with_reducible constructor)|refine uq (by decide) ?_|((first|refine vx env fun Q hQ=>?_|refine vz fun Q hQ=>?_);simp only [vkt,seval,jm,vP,qx,ql,zi,qc,mTk,qg,qf,qm,plL,Zy,ku,kP,qF,yM,y8,wN,List.length_map,List.length_cons,List.map_cons,List.getD_cons_zero,List.drop_succ_cons,List.drop_zero,nth,hwL,Nat.zero_add,Nat.sub_zero,d9,z1,z2,z4,hb,hbit,hg0,hxr,hxl];(try simp only [ite_and]);(repeat' (first|with_reducible assumption|refine And.intro ?_ ?_|intro hp));all_goals (first|(refine hQ _ ?_;clear hQ Q)|(refine hQ _ (fun h=>?_) (fun h=>?_) <;> clear hQ Q <;> (try simp only [vki,reduceCtorEq] at h))|(refine vq ?_;kernel_rfl)|omega|assumption|with_reducible rfl|skip)))
 refine vM (S':={ t:=asg Qf6,h:=qj (ku xs b g 0++[(0,qg c.cabins c.secs 1),(1,qf c.sold),(6,.cells [.ptr 0 0]),(7,.cells (ql a))]),n:=8,j:=0,d:=[],m:=2 }) ?_ ?_
 ·show Le _ { t:=asg [(3,.ptr 2 0),(4,.ptr 3 0),(5,.ptr 4 0),(6,.ptr 5 0),(23,.clo 67 [.ptr 6 0,.ptr 7 0])],h:=qj [(2,.cells [.ptr 0 0]),(3,.cells [.sl xs]),(4,.cells [aU b]),(5,.cells [aB false]),(0,qg c.cabins c.secs 1),(1,qf c.sold),(6,.cells [.ptr 0 0]),(7,.cells (ql a))],n:=8,j:=0,d:=[],m:=2 }
  rw [← e1,← e2,← e3]
  (refine Le.ok some [] ?_;constructor;all_goals (try simp only [vle,vkt,seval,jm,vP,qx,ql,zi,qc,mTk,qg,qf,qm,plL,Zy,ku,kP,qF,yM,y8,wN,List.length_map,List.length_cons,List.map_cons,List.getD_cons_zero,List.drop_succ_cons,List.drop_zero,nth,hwL,Nat.zero_add,Nat.sub_zero]))
  all_goals first|rfl|(simp [ql,AV.leL,AV.le,AV.idsL,AV.ids];done)
 rw [← Vf c a]
 refine yQ (fun F h=>h) 1 (L:=Qf6) (L':=Zy) (xs:=[1,6,7]) (hs:=[0,1,6,7]) (n:=8) (nl:=1) (hc:=ku xs b g) (Lp:=plL c a) (jj:=fun _=>0) (d:=[]) (ys:=plY c a) (hl:=plH c a) (ans:=ans) (ex:=.ret) (caps:=[.ptr 6 0,.ptr 7 0]) (caps0:=[.ptr 2 0,.ptr 3 0]) (N:=(plP c a).length) (R:=R) (A':=fun _ _=>True) rfl (QbF hpg) (by rw [hN];exact hRo) (.inl rfl) ?_ ?_ ?_ rfl (by simp) ?_ (by simp) (fun _ _ _ _ _ _=>trivial) ?_ ?_ ?_ ?_ ?_ ?_ (fun j hj=>?_) ?_ (fun j hj=>?_) (fun hall=>?_) (fun hpos hlast=>?_)
 ·simp [AV.leL,AV.le]
 ·simp [AV.nocbL,AV.nocb]
 ·simp [Z5,plL,qg,qf,ql,AObj.nocb,AV.nocbL,AV.nocb,AObj.ids,AV.ids,AV.idsL,AObj.ren,AV.renL,AV.ren,AObj.le,AV.leL,AV.le,qz]
 ·simp [ku,qj]
 ·simp [ku,qj]
 ·simp [ku,AObj.ids,AV.ids,AV.idsL,aB,aU]
 ·simp [X5,Zy,Qf6,asg,upd]
 ·simp [LV]
 ·intro j hj
  simp [absent,ku,V4]
 ·simp [JG,Zy,AV.ids]
 ·refine ⟨?_,rfl, ?_, ?_,rfl, ?_⟩
  ·simp [Qg,ku,AObj.ids,AV.ids,AV.idsL,aB,aU]
  ·simp [ZG,plH,qm,qg,qf,AObj.nocb,AV.nocbL,AV.nocb,AObj.ids,AV.ids,AV.idsL]
  ·simp [YI,plY,qd,AV.nocb,AV.ids]
  ·simp [Qf,ZP,V4,ku,Zy,xQ,AV.ids,ADf.ids,List.range_succ]
 ·simp [Qg,ku,AObj.ids,AV.ids,AV.idsL,aB,aU]
 ·have env:Env (fun _:Frm=>True) Tryz.prog tyB (tab [(77,fnE (yM cs s r))]):=qO ⟨Qe8 ih,trivial⟩
  have hjN:j < (plP c a).length:=by omega
  have hjo:=hxok _ (xV (d:=default) hjN)
  have hgv:=hgj j
  have hk0:YX g j=false:=Xe (hRp j hj)
  have hk1:YX g (j+1)=g j:=by
   cases hq:g j with
   |true=>exact Yi (Nat.lt_succ_self j) hq
   |false =>
    refine Xe fun i hi=>?_
    rcases Nat.lt_or_eq_of_le (Nat.le_of_lt_succ hi) with h|rfl
    ·exact hRp j hj i h
    ·exact hq
  have haj:=ha j
  obtain ⟨⟨x,t⟩,hx⟩:∃ x,(plP c a).getD j default=x:=⟨_,rfl⟩
  rw [hx] at hjo hgv
  simp only at hjo hgv
  have hst:jf Zy [24] [0] 8 1 (plY c a j) (ku xs b g j) (plH c a j)={ t:=asg [(24,qd x),(3,.ptr 2 0),(4,.ptr 3 0),(5,.ptr 4 0),(6,.ptr 5 0)],h:=qj [(8,.mark),(2,.cells [.ptr 0 0]),(3,.cells [.sl xs]),(4,.cells [aU b]),(5,.cells [aB false]),(0,qg c.cabins c.secs 9),(9,qf t)],n:=10,m:=10 }:=by
   simp only [jf,Nat.reduceAdd,V4,plY,hx,hk0,qd,List.map_cons,List.map_nil,AV.ren,List.zip_cons_cons,List.zip_nil_right,ku,Zy,QY,List.cons_append,List.nil_append]
   rfl
  show Sym _ _ _ (jf Zy [24] [0] 8 1 (plY c a j) (ku xs b g j) (plH c a j)) _
  rw [hst,← e1,← e2]
  cases hq:g j with
  |true =>
   rw [hq] at hgv hk1 haj
   repeat' (first|(apply nx;with_reducible constructor)|refine uq (by decide) ?_|((first|refine vx env fun Q hQ=>?_|refine vz fun Q hQ=>?_);simp only [vkt,seval,jm,vP,qx,ql,zi,qc,mTk,qg,qf,qm,plL,Zy,ku,kP,qF,yM,y8,wN,List.length_map,List.length_cons,List.map_cons,List.getD_cons_zero,List.drop_succ_cons,List.drop_zero,nth,hwL,Nat.zero_add,Nat.sub_zero,d9,z1,z2,z4,hb,hsh,hsh2,hxl,hxr,hdr,hdr2,hjo,hgv];(try simp only [ite_and]);(repeat' (first|with_reducible assumption|refine And.intro ?_ ?_|intro hp));all_goals (first|(refine hQ _ ?_;clear hQ Q)|(refine hQ _ (fun h=>?_) (fun h=>?_) <;> clear hQ Q <;> (try simp only [vki,reduceCtorEq] at h))|(refine vq ?_;kernel_rfl)|omega|assumption|with_reducible rfl|skip)))
   refine ⟨by rw [haj];rfl,rfl,some,_,RFin.okQ some [] ?_⟩
   constructor
   all_goals (try simp only [vle,xn,vW,qz,plH,hx,hk1,← e1,← e2,vkt,seval,jm,vP,qx,ql,zi,qc,mTk,qg,qf,qm,plL,Zy,ku,kP,qF,yM,y8,wN,List.length_map,List.length_cons,List.map_cons,List.getD_cons_zero,List.drop_succ_cons,List.drop_zero,nth,hwL,Nat.zero_add,Nat.sub_zero])
   all_goals first|rfl|(simp;done)
  |false =>
   rw [hq] at hgv hk1 haj
   repeat' (first|(apply nx;with_reducible constructor)|refine uq (by decide) ?_|((first|refine vx env fun Q hQ=>?_|refine vz fun Q hQ=>?_);simp only [vkt,seval,jm,vP,qx,ql,zi,qc,mTk,qg,qf,qm,plL,Zy,ku,kP,qF,yM,y8,wN,List.length_map,List.length_cons,List.map_cons,List.getD_cons_zero,List.drop_succ_cons,List.drop_zero,nth,hwL,Nat.zero_add,Nat.sub_zero,d9,z1,z2,z4,hb,hsh,hsh2,hxl,hxr,hdr,hdr2,hjo,hgv];(try simp only [ite_and]);(repeat' (first|with_reducible assumption|refine And.intro ?_ ?_|intro hp));all_goals (first|(refine hQ _ ?_;clear hQ Q)|(refine hQ _ (fun h=>?_) (fun h=>?_) <;> clear hQ Q <;> (try simp only [vki,reduceCtorEq] at h))|(refine vq ?_;kernel_rfl)|omega|assumption|with_reducible rfl|skip)))
   refine ⟨by rw [haj];rfl,rfl,some,_,RFin.okQ some [] ?_⟩
   constructor
   all_goals (try simp only [vle,xn,vW,qz,plH,hx,hk1,← e1,← e2,vkt,seval,jm,vP,qx,ql,zi,qc,mTk,qg,qf,qm,plL,Zy,ku,kP,qF,yM,y8,wN,List.length_map,List.length_cons,List.map_cons,List.getD_cons_zero,List.drop_succ_cons,List.drop_zero,nth,hwL,Nat.zero_add,Nat.sub_zero])
   all_goals first|rfl|(simp;done)
 ·have hR0:YX g R=false:=Xe fun j hj=>by
   have:=hall j hj
   rw [ha] at this
   simpa using this
  have eh:qj ((8,AObj.mark) :: ku xs b g R++zf [0,1,6,7] (8+1) 0 (plL c a))=qj [(8,.mark),(2,.cells [.ptr 0 0]),(3,.cells [.sl xs]),(4,.cells [aU b]),(5,.cells [aB false]),(0,qg cs s 1),(1,qf sold),(6,.cells [.ptr 0 0]),(7,.cells (ql a))]:=by
   rw [show zf [0,1,6,7] (8+1) 0 (plL c a)=zf [0,1,6,7] 9 0 (plL c a) from rfl,Vf,← e1,← e2,← e3]
   unfold ku
   rw [hR0];rfl
  rw [eh,hR0]
  repeat' (first|(apply nx;with_reducible constructor)|refine uq (by decide) ?_|((first|refine vx env fun Q hQ=>?_|refine vz fun Q hQ=>?_);simp only [vkt,seval,jm,vP,qx,ql,zi,qc,mTk,qg,qf,qm,plL,Zy,ku,kP,qF,yM,y8,wN,List.length_map,List.length_cons,List.map_cons,List.getD_cons_zero,List.drop_succ_cons,List.drop_zero,nth,hwL,Nat.zero_add,Nat.sub_zero];(try simp only [ite_and]);(repeat' (first|with_reducible assumption|refine And.intro ?_ ?_|intro hp));all_goals (first|(refine hQ _ ?_;clear hQ Q)|(refine hQ _ (fun h=>?_) (fun h=>?_) <;> clear hQ Q <;> (try simp only [vki,reduceCtorEq] at h))|(refine vq ?_;kernel_rfl)|omega|assumption|with_reducible rfl|skip)))
  (simp only [vrt,Tryz.results77,vkt,seval,jm,vP,qx,ql,zi,qc,mTk,qg,qf,qm,plL,Zy,ku,kP,qF,yM,y8,wN,List.length_map,List.length_cons,List.map_cons,List.getD_cons_zero,List.drop_succ_cons,List.drop_zero,nth,hwL,Nat.zero_add,Nat.sub_zero];refine Fin.ok some [] ?_ ?_ ?_ ?_ ?_ rfl;all_goals (try simp only [vle,vkt,seval,jm,vP,qx,ql,zi,qc,mTk,qg,qf,qm,plL,Zy,ku,kP,qF,yM,y8,wN,List.length_map,List.length_cons,List.map_cons,List.getD_cons_zero,List.drop_succ_cons,List.drop_zero,nth,hwL,Nat.zero_add,Nat.sub_zero]))
  all_goals first|rfl|(simp [ql,AV.leL,AV.le];done)|exact fun i hi=>(match i,hi with|0,_=>rfl|1,_=>rfl)
 ·have hR0:YX g R=true:=Yi (show R - 1 < R by omega) (by rw [ha] at hlast;simpa using hlast)
  have eh:qj ((8,AObj.mark) :: ku xs b g R++zf [0,1,6,7] (8+1) 0 (plL c a))=qj [(8,.mark),(2,.cells [.ptr 0 0]),(3,.cells [.sl xs]),(4,.cells [aU b]),(5,.cells [aB true]),(0,qg cs s 1),(1,qf sold),(6,.cells [.ptr 0 0]),(7,.cells (ql a))]:=by
   rw [show zf [0,1,6,7] (8+1) 0 (plL c a)=zf [0,1,6,7] 9 0 (plL c a) from rfl,Vf,← e1,← e2,← e3]
   unfold ku
   rw [hR0];rfl
  rw [eh,hR0]
  repeat' (first|(apply nx;with_reducible constructor)|refine uq (by decide) ?_|((first|refine vx env fun Q hQ=>?_|refine vz fun Q hQ=>?_);simp only [vkt,seval,jm,vP,qx,ql,zi,qc,mTk,qg,qf,qm,plL,Zy,ku,kP,qF,yM,y8,wN,List.length_map,List.length_cons,List.map_cons,List.getD_cons_zero,List.drop_succ_cons,List.drop_zero,nth,hwL,Nat.zero_add,Nat.sub_zero];(try simp only [ite_and]);(repeat' (first|with_reducible assumption|refine And.intro ?_ ?_|intro hp));all_goals (first|(refine hQ _ ?_;clear hQ Q)|(refine hQ _ (fun h=>?_) (fun h=>?_) <;> clear hQ Q <;> (try simp only [vki,reduceCtorEq] at h))|(refine vq ?_;kernel_rfl)|omega|assumption|with_reducible rfl|skip)))
  (simp only [vrt,Tryz.results77,vkt,seval,jm,vP,qx,ql,zi,qc,mTk,qg,qf,qm,plL,Zy,ku,kP,qF,yM,y8,wN,List.length_map,List.length_cons,List.map_cons,List.getD_cons_zero,List.drop_succ_cons,List.drop_zero,nth,hwL,Nat.zero_add,Nat.sub_zero];refine Fin.ok some [] ?_ ?_ ?_ ?_ ?_ rfl;all_goals (try simp only [vle,vkt,seval,jm,vP,qx,ql,zi,qc,mTk,qg,qf,qm,plL,Zy,ku,kP,qF,yM,y8,wN,List.length_map,List.length_cons,List.map_cons,List.getD_cons_zero,List.drop_succ_cons,List.drop_zero,nth,hwL,Nat.zero_add,Nat.sub_zero]))
  all_goals first|rfl|(simp [ql,AV.leL,AV.le];done)|exact fun i hi=>(match i,hi with|0,_=>rfl|1,_=>rfl)
theorem QaL (cs:List Cabin) (s:Int):∀ L,QfI cs s L
 |[]=>take_nil cs s
 |a :: r=>QdV cs s a r (QaL cs s r)
def JI (b:Int):Value:=.agg #[.int .u64 b]
theorem QhL {a b:Int} (h:JI a=JI b):a=b:=by
 simp [JI] at h;exact h
abbrev KSev:Value→Prop:=KD.Q (.agg [some .u64])
theorem sevQ (b:Int):KSev (JI b):=⟨⟨_,rfl⟩,trivial⟩
def qSev:KeyInfo:={ kd:=.agg [some .u64],z:=.v (.bool false),agg:=false }
noncomputable def LJ (es:List (Value × Value)) (b:Int):Bool:=match yF es (JI b) with
 |some (.bool v)=>v
 |_=>false
structure MetOk (f:Int→Bool) (es:List (Value × Value)):Prop where
 ok:MOK KSev es
 look:∀ b,yF es (JI b)=none∨(yF es (JI b)=some (.bool true)∧f b=false)
theorem QiV (f:Int→Bool):MetOk f []:=⟨MOK.nil _,fun b=>.inl rfl⟩
theorem MetOk.lk {f:Int→Bool} {es:List (Value × Value)} (h:MetOk f es) (b:Int):∃ q,vD qSev (yF es (JI b))=(True,.v (.bool (LJ es b)),q):=by
 rcases h.look b with h1|⟨h1,_⟩
 ·refine ⟨false, ?_⟩
  unfold LJ
  rw [h1]
  show (_,_,_)=_
  simp [qSev,AV.ids]
 ·refine ⟨true, ?_⟩
  unfold LJ
  rw [h1]
  show (_,_,_)=_
  simp [qSev,XN,Value.oneCell',vAV]
theorem MetOk.no {f:Int→Bool} {es:List (Value × Value)} (h:MetOk f es) {b:Int} (hv:LJ es b=true):f b=false:=by
 rcases h.look b with h1|⟨_,h2⟩
 ·unfold LJ at hv
  rw [h1] at hv
  exact absurd hv (by decide)
 ·exact h2
noncomputable def YE (f:Int→Bool) (es:List (Value × Value)) (b:Int):List (Value × Value):=if LJ es b || f b then es else vN es (JI b) (.bool true)
theorem QhP {f:Int→Bool} {es:List (Value × Value)} (h:MetOk f es) (b:Int):MetOk f (YE f es b):=by
 unfold YE
 split
 ·exact h
 ·rename_i hq
  have hf:f b=false:=by
   cases h2:f b with
   |false=>rfl
   |true=>rw [h2,Bool.or_true] at hq;exact absurd rfl hq
  refine ⟨h.ok.set (sevQ b),fun x=>?_⟩
  rw [Jf]
  by_cases hx:JI b=JI x
  ·rw [if_pos hx]
   rw [← QhL hx]
   exact .inr ⟨rfl,hf⟩
  ·rw [if_neg hx]
   exact h.look x
theorem QgC (f:Int→Bool) (es:List (Value × Value)) (b:Int):(YE f es b).length≤es.length+1:=by
 unfold YE
 split
 ·omega
 ·exact Z7
def ZA (cs:List Cabin) (s:Int) (sold:List Tk) (es:List (Value × Value)):List AObj:=[qg cs s 1,qf sold,.map es]
theorem QfD {cs:List Cabin} {s:Int} {sold:List Tk} {es:List (Value × Value)}:∀ i o,qj (qH 0 (ZA cs s sold es)) i=some o→i < 3∧∀ id ∈ o.ids,id < 3:=by
 intro i o hi
 have h:=qQ hi
 simp [qH,ZA] at h
 rcases h with ⟨rfl,rfl⟩|⟨rfl,rfl⟩|⟨rfl,rfl⟩ <;> simp [AObj.ids,AV.ids,AV.idsL,qg,qf]
def xM:=vj @ty4 (vj @XD (vj @Qf9 (vj @Qgy (vj @ti4.eq_1 (vj @Yg.eq_1 (vj @KT.eq_1 @Ky.eq_1))))))
def Q8:=vj @aI.eq_1 (vj @aB.eq_1 (@aU.eq_1))
set_option maxHeartbeats 2000000 in
theorem QjK (cs:List Cabin) (s:Int) (L:List Ask) (b:Int) (sold:List Tk) (es:List (Value × Value)) (ok:TaOk cs s L b sold) (hm:MetOk (fun b=>tkB cs s L b sold) es) (hl:es.length≤100000) :
  Fn noB Tryz.prog 53 [.ptr 0 0,.sl (L.map zi),.agg [aU b],.mp 2] (qj (qH 0 (ZA cs s sold es))) (aB (tkB cs s L b sold)) (qj (wP 0 ((ZA cs s sold (YE (fun b=>tkB cs s L b sold) es b)).map some))) 0:=by
 have env:Env (fun _=>True) Tryz.prog tyB (tab [(77,fnE (yM cs s L))]):=qO ⟨Qe8 (QaL cs s L),trivial⟩
 refine Fn.of (A:=fun _=>True) (n0:=3) (D:=noD) (Fn0 Tryz.func53 rfl (fun vs w=>by kernel_rfl) (by kernel_rfl)) (by simp) (by simp [AV.ids,AV.idsL,aU]) QfD (fun _ _ _ _=>trivial) qG ?_
 obtain ⟨q,hlk⟩:=hm.lk b
 have hno:=fun h=>hm.no (b:=b) h
 have hM:MOK (KD.Q (.agg [some .u64])) es:=hm.ok
 simp only [qSev,JI] at hlk
 have hmx:(200000:Nat)≤maxLen:=by decide
 have hsl:=Z7 (es:=es) (k:=JI b) (v:=.bool true)
 have hsl2:(vN es (JI b) (.bool true)).length≤maxLen:=by omega
 have hN:YE (fun b=>tkB cs s L b sold) es b=if LJ es b || tkB cs s L b sold then es else vN es (JI b) (.bool true):=rfl
 rw [hN]
 simp only [JI] at hsl2
 obtain ⟨v,hv⟩:∃ v,LJ es b=v:=⟨_,rfl⟩
 obtain ⟨w,hw⟩:∃ w,tkB cs s L b sold=w:=⟨_,rfl⟩
 rw [hv] at hlk hno
 simp only [hw] at hno
 rw [hv,hw]
 cases v with
 |true =>
  have hw0:=hno rfl
  rw [hw0]
  rw [if_pos (by rfl)]
  show Sym _ _ _ (zR [.ptr 0 0,.sl (L.map zi),.agg [aU b],.mp 2] 3 (qj [(0,qg cs s 1),(1,qf sold),(2,.map es)])) (vo tyB noD Tryz.f53 fun S rv=>Fin S rv (aB false) 3 (qj [(0,qg cs s 1),(1,qf sold),(2,.map es)]) 0)
  repeat' (first|(apply nx;with_reducible constructor)|refine uq (by decide) ?_|((first|refine vx env fun Q hQ=>?_|refine vz fun Q hQ=>?_);simp only [vkt,seval,xM,Q8,qc,mTk,qg,qf,qm,ZA,yM,List.length_map,List.length_cons,List.length_nil,hlk,hM];(try simp only [ite_and]);(repeat' (first|with_reducible assumption|refine And.intro ?_ ?_|intro hp));all_goals (first|(refine hQ _ ?_;clear hQ Q)|(refine hQ _ (fun h=>?_) (fun h=>?_) <;> clear hQ Q <;> (try simp only [vki,reduceCtorEq] at h))|(refine vq ?_;kernel_rfl)|omega|assumption|with_reducible rfl|skip)))
  (simp only [vrt,Tryz.results53,vkt,seval,xM,Q8,qc,mTk,qg,qf,qm,ZA,yM,List.length_map,List.length_cons,List.length_nil];refine Fin.ok some [] ?_ ?_ ?_ ?_ ?_ rfl;all_goals (try simp only [vle,vkt,seval,xM,Q8,qc,mTk,qg,qf,qm,ZA,yM,List.length_map,List.length_cons,List.length_nil]))
  all_goals first|rfl|(simp;done)|exact fun i hi=>(match i,hi with|0,_=>rfl|1,_=>rfl|2,_=>rfl)
 |false =>
  cases w with
  |true =>
   rw [if_pos (by rfl)]
   show Sym _ _ _ (zR [.ptr 0 0,.sl (L.map zi),.agg [aU b],.mp 2] 3 (qj [(0,qg cs s 1),(1,qf sold),(2,.map es)])) (vo tyB noD Tryz.f53 fun S rv=>Fin S rv (aB true) 3 (qj [(0,qg cs s 1),(1,qf sold),(2,.map es)]) 0)
   repeat' (first|(apply nx;with_reducible constructor)|refine uq (by decide) ?_|((first|refine vx env fun Q hQ=>?_|refine vz fun Q hQ=>?_);simp only [vkt,seval,xM,Q8,qc,mTk,qg,qf,qm,ZA,yM,List.length_map,List.length_cons,List.length_nil,hlk,hM,ok,hw];(try simp only [ite_and]);(repeat' (first|with_reducible assumption|refine And.intro ?_ ?_|intro hp));all_goals (first|(refine hQ _ ?_;clear hQ Q)|(refine hQ _ (fun h=>?_) (fun h=>?_) <;> clear hQ Q <;> (try simp only [vki,reduceCtorEq] at h))|(refine vq ?_;kernel_rfl)|omega|assumption|with_reducible rfl|skip)))
   (simp only [vrt,Tryz.results53,vkt,seval,xM,Q8,qc,mTk,qg,qf,qm,ZA,yM,List.length_map,List.length_cons,List.length_nil];refine Fin.ok some [] ?_ ?_ ?_ ?_ ?_ rfl;all_goals (try simp only [vle,vkt,seval,xM,Q8,qc,mTk,qg,qf,qm,ZA,yM,List.length_map,List.length_cons,List.length_nil]))
   all_goals first|rfl|(simp;done)|exact fun i hi=>(match i,hi with|0,_=>rfl|1,_=>rfl|2,_=>rfl)
  |false =>
   rw [if_neg (by decide)]
   show Sym _ _ _ (zR [.ptr 0 0,.sl (L.map zi),.agg [aU b],.mp 2] 3 (qj [(0,qg cs s 1),(1,qf sold),(2,.map es)])) (vo tyB noD Tryz.f53 fun S rv=>Fin S rv (aB false) 3 (qj [(0,qg cs s 1),(1,qf sold),(2,.map (vN es (.agg #[.int .u64 b]) (.bool true)))]) 0)
   repeat' (first|(apply nx;with_reducible constructor)|refine uq (by decide) ?_|((first|refine vx env fun Q hQ=>?_|refine vz fun Q hQ=>?_);simp only [vkt,seval,xM,Q8,qc,mTk,qg,qf,qm,ZA,yM,List.length_map,List.length_cons,List.length_nil,hlk,hM,ok,hw,hsl2];(try simp only [ite_and]);(repeat' (first|with_reducible assumption|refine And.intro ?_ ?_|intro hp));all_goals (first|(refine hQ _ ?_;clear hQ Q)|(refine hQ _ (fun h=>?_) (fun h=>?_) <;> clear hQ Q <;> (try simp only [vki,reduceCtorEq] at h))|(refine vq ?_;kernel_rfl)|omega|assumption|with_reducible rfl|skip)))
   (simp only [vrt,Tryz.results53,vkt,seval,xM,Q8,qc,mTk,qg,qf,qm,ZA,yM,List.length_map,List.length_cons,List.length_nil];refine Fin.ok some [] ?_ ?_ ?_ ?_ ?_ rfl;all_goals (try simp only [vle,vkt,seval,xM,Q8,qc,mTk,qg,qf,qm,ZA,yM,List.length_map,List.length_cons,List.length_nil]))
   all_goals first|rfl|(simp;done)|exact fun i hi=>(match i,hi with|0,_=>rfl|1,_=>rfl|2,_=>rfl)
def Q4 (l:List Int):Int:=l.foldl ZO 0
theorem Qj1 {a i:Int} (ha:0≤a∧a < 16) (hi:0≤i∧i < 4):0≤ZO a i∧ZO a i < 16:=by
 have hc:a=0∨a=1∨a=2∨a=3∨a=4∨a=5∨a=6∨a=7∨a=8∨a=9∨a=10∨a=11∨a=12∨a=13∨a=14∨a=15:=by omega
 have hd:i=0∨i=1∨i=2∨i=3:=by omega
 rcases hc with rfl|rfl|rfl|rfl|rfl|rfl|rfl|rfl|rfl|rfl|rfl|rfl|rfl|rfl|rfl|rfl <;> rcases hd with rfl|rfl|rfl|rfl <;> decide
theorem Qcp:∀ (l:List Int) (a:Int),0≤a∧a < 16→(∀ i ∈ l,0≤i∧i < 4)→0≤l.foldl ZO a∧l.foldl ZO a < 16
 |[],a,h,_=>h
 |i :: l,a,h,hl=>Qcp l _ (Qj1 h (hl i (List.mem_cons_self ..))) fun j hj=>hl j (List.mem_cons_of_mem _ hj)
theorem QjC {l:List Int} (h:∀ i ∈ l,0≤i∧i < 4):0≤Q4 l∧Q4 l < 16:=Qcp l 0 (by decide) h
theorem Qdu {l:List Int} {k:Nat} (h:k < l.length):Q4 (l.take (k+1))=ZO (Q4 (l.take k)) (l.getD k 0):=by
 unfold Q4
 rw [List.take_succ_eq_append_getElem h,List.foldl_append]
 simp [List.getD_eq_getElem?_getD,h]
structure SvOk (cs:List Cabin) (s:Int) (L:List Ask) (sold:List Tk):Prop where
 car:CarOk ⟨cs,s,sold⟩
 many:sold.length≤8
 sx:∀ a ∈ L,a.sexes.length≤3
 four:L.length≤4
theorem SvOk.ta {cs:List Cabin} {s:Int} {L:List Ask} {sold:List Tk} (h:SvOk cs s L sold) {b:Int} (hb:0≤b∧b < 16):TaOk cs s L b sold:=⟨h.car,by have:=h.many;have:=h.four;omega,h.sx,h.four,hb⟩
noncomputable def X3 (cs:List Cabin) (s:Int) (L:List Ask) (S:St):List AV→Option Pk
 |[.ptr p 0,.sl xs,.agg [.v (.int .u64 b)],.mp m]=>match S.h p,S.h m with
  |some (.cells [.sl cc,.v (.int .i64 s'),.row r]),some (.map es)=>match S.h r with
   |some (.row _ _ ts)=>some { pre:=cc=cs.map qo∧s'=s∧xs=L.map zi∧ts=(ts.map dTk).map eTk∧TaOk cs s L b (ts.map dTk)∧MetOk (fun b=>tkB cs s L b (ts.map dTk)) es∧es.length≤100000,hs:=[p,r,m],ar:=[.ptr 0 0,.sl (L.map zi),.agg [.v (.int .u64 b)],.mp 2],L0:=ZA cs s (ts.map dTk) es,v:=aB (tkB cs s L b (ts.map dTk)),L1:=(ZA cs s (ts.map dTk) (YE (fun b=>tkB cs s L b (ts.map dTk)) es b)).map some }
   |_=>none
  |_,_=>none
 |_=>none
theorem eAll {A:Frm→Prop} {cs:List Cabin} {s:Int} {L:List Ask}:qC A Tryz.prog 53 (fnE (X3 cs s L)):=wK fun S bs q h hp=>by
 unfold X3 at h
 split at h
 ·split at h
  ·split at h
   ·cases h
    obtain ⟨h1,h2,h3,h4,h5,h6,h7⟩:=hp
    exact QjK _ _ _ _ _ _ h5 h6 h7
   ·cases h
  ·cases h
 ·cases h
def m2L (cs:List Cabin) (s:Int) (L:List Ask) (sold:List Tk) (es:List (Value × Value)):List AObj:=[qg cs s 1,qf sold,.cells [.ptr 0 0],.cells [.sl (L.map zi)],.cells [.mp 5],.map es]
theorem Qdc {cs:List Cabin} {s:Int} {L:List Ask} {sold:List Tk} {es:List (Value × Value)}:∀ i o,qj (qH 0 (m2L cs s L sold es)) i=some o→i < 6∧∀ id ∈ o.ids,id < 6:=by
 intro i o hi
 have h:=qQ hi
 simp [qH,m2L] at h
 rcases h with ⟨rfl,rfl⟩|⟨rfl,rfl⟩|⟨rfl,rfl⟩|⟨rfl,rfl⟩|⟨rfl,rfl⟩|⟨rfl,rfl⟩ <;> simp [AObj.ids,AV.ids,AV.idsL,qg,qf]
def m2S (cs:List Cabin) (s:Int) (L:List Ask) (sold:List Tk) (es:List (Value × Value)) (l:List Int) (k:Nat) (b:Int):St:={ t:=asg [(1,.ptr 2 0),(2,.ptr 3 0),(3,.ptr 4 0),(6,.ptr 6 0),(9,qD l),(10,aI l.length),(11,aI k)],h:=qj [(0,qg cs s 1),(1,qf sold),(2,.cells [.ptr 0 0]),(3,.cells [.sl (L.map zi)]),(4,.cells [.mp 5]),(5,.map es),(6,.cells [aU b])],n:=7,m:=6 }
def xC:=vj @ty3 (vj @ty4 (vj @WE (vj @Q0 (vj @Qdv (vj @XD (vj @Wl (vj @Qf9 (vj @Qgy (vj @ti3.eq_1 (vj @ti4.eq_1 (vj @Zr.eq_1 (vj @Ql.eq_1 (vj @UT.eq_1 (vj @Yg.eq_1 (vj @Zt.eq_1 (vj @KT.eq_1 @Ky.eq_1))))))))))))))))
def Wi:=vj @aI.eq_1 (vj @aB.eq_1 (vj @aU.eq_1 (vj @qD.eq_1 (vj @wz.eq_1 (vj @Ue (@QJ))))))
set_option maxHeartbeats 2000000 in
theorem Qg1 (cs:List Cabin) (s:Int) (L:List Ask) (sold:List Tk) (es:List (Value × Value)) (l:List Int) (ok:SvOk cs s L sold) (hi:∀ i ∈ l,0≤i∧i < 4) (hl:l.length≤100) (hm:MetOk (fun b=>tkB cs s L b sold) es) (he:es.length≤100000) :
  Fn noB Tryz.prog 51 [qD l,.ptr 2 0,.ptr 3 0,.ptr 4 0] (qj (qH 0 (m2L cs s L sold es))) (aB (tkB cs s L (Q4 l) sold)) (qj (wP 0 ((m2L cs s L sold (YE (fun b=>tkB cs s L b sold) es (Q4 l))).map some))) 0:=by
 have env:Env (fun _=>True) Tryz.prog tyB (tab [(52,za true yO),(53,fnE (X3 cs s L))]):=qO ⟨Qgz,eAll,trivial⟩
 refine Fn.of (A:=fun _=>True) (n0:=6) (D:=noD) (Fn0 Tryz.func51 rfl (fun vs w=>by kernel_rfl) (by kernel_rfl)) (by simp) (by simp [AV.ids,AV.idsL,qD]) Qdc (fun _ _ _ _=>trivial) qG ?_
 have hset:=QjC hi
 have hta:=ok.ta hset
 have hmx:(100000:Nat)≤maxLen:=by decide
 show Sym _ _ _ (zR [qD l,.ptr 2 0,.ptr 3 0,.ptr 4 0] 6 (qj [(0,qg cs s 1),(1,qf sold),(2,.cells [.ptr 0 0]),(3,.cells [.sl (L.map zi)]),(4,.cells [.mp 5]),(5,.map es)])) (vo tyB noD Tryz.f51 fun S rv=>Fin S rv (aB (tkB cs s L (Q4 l) sold)) 6 (qj [(0,qg cs s 1),(1,qf sold),(2,.cells [.ptr 0 0]),(3,.cells [.sl (L.map zi)]),(4,.cells [.mp 5]),(5,.map (YE (fun b=>tkB cs s L b sold) es (Q4 l)))]) 0)
 repeat' (first|(apply nx;with_reducible constructor)|refine uq (by decide) ?_|((first|refine vx env fun Q hQ=>?_|refine vz fun Q hQ=>?_);simp only [vkt,seval,xC,Wi,qc,mTk,qg,qf,m2L,m2S,ZA,yO,X3,List.length_map];(try simp only [ite_and]);(repeat' (first|with_reducible assumption|refine And.intro ?_ ?_|intro hp));all_goals (first|(refine hQ _ ?_;clear hQ Q)|(refine hQ _ (fun h=>?_) (fun h=>?_) <;> clear hQ Q <;> (try simp only [vki,reduceCtorEq] at h))|(refine vq ?_;kernel_rfl)|omega|assumption|with_reducible rfl|skip)))
 refine zt (fun k:{ k:Nat // k≤l.length }=>m2S cs s L sold es l k.1 (Q4 (l.take k.1))) (fun k=>l.length - k.1) ⟨0,Nat.zero_le _⟩ ?_ fun ⟨k,hk⟩=>?_
 ·simp only [m2S,List.take_zero,show Q4 []=0 from rfl]
  (refine Le.ok some [] ?_;constructor;all_goals (try simp only [vle,vkt,seval,xC,Wi,qc,mTk,qg,qf,m2L,m2S,ZA,yO,X3,List.length_map]))
  all_goals first|rfl|(simp;done)
 simp only at hk ⊢
 by_cases hkl:k < l.length
 ·have d1:decide ((k:Int) < (l.length:Int))=true:=decide_eq_true (by omega)
  have e9:IntKind.wrap .i64 ((k:Int)+1)=((k+1:Nat):Int):=by rw [wrap64 (by omega) (by omega)];rfl
  have k0:((k:Int)).toNat=k:=rfl
  have hS:=Qdu hkl
  have hg:=hInt hkl
  have hib:=hi _ (xV (d:=0) hkl)
  obtain ⟨i,hie⟩:∃ i,l.getD k 0=i:=⟨_,rfl⟩
  rw [hie] at hS hg hib
  obtain ⟨b,hb⟩:∃ b,Q4 (l.take k)=b:=⟨_,rfl⟩
  rw [hb] at hS
  have i1:0≤i:=hib.1
  simp only [m2S,hb]
  repeat' (first|(apply nx;with_reducible constructor)|refine uq (by decide) ?_|((first|refine vx env fun Q hQ=>?_|refine vz fun Q hQ=>?_);simp only [vkt,seval,xC,Wi,qc,mTk,qg,qf,m2L,m2S,ZA,yO,X3,List.length_map,d1,e9,k0,hkl,hg,hie,i1];(try simp only [ite_and]);(repeat' (first|with_reducible assumption|refine And.intro ?_ ?_|intro hp));all_goals (first|(refine hQ _ ?_;clear hQ Q)|(refine hQ _ (fun h=>?_) (fun h=>?_) <;> clear hQ Q <;> (try simp only [vki,reduceCtorEq] at h))|(refine vq ?_;kernel_rfl)|omega|assumption|with_reducible rfl|skip)))
  refine ⟨⟨k+1,hkl⟩,by show l.length - (k+1) < l.length - k;omega, ?_⟩
  simp only [m2S,hS]
  (refine Le.ok some [] ?_;constructor;all_goals (try simp only [vle,vkt,seval,xC,Wi,qc,mTk,qg,qf,m2L,m2S,ZA,yO,X3,List.length_map]))
  all_goals first|rfl|(simp;done)
 ·have d1:decide ((k:Int) < (l.length:Int))=false:=decide_eq_false (by omega)
  obtain rfl:k=l.length:=by omega
  rw [List.take_length]
  obtain ⟨b,hb⟩:∃ b,Q4 l=b:=⟨_,rfl⟩
  rw [hb] at hta ⊢
  obtain ⟨w,hw⟩:∃ w,tkB cs s L b sold=w:=⟨_,rfl⟩
  obtain ⟨es',hes⟩:∃ e,YE (fun b=>tkB cs s L b sold) es b=e:=⟨_,rfl⟩
  rw [hw,hes]
  simp only [m2S]
  repeat' (first|(apply nx;with_reducible constructor)|refine uq (by decide) ?_|((first|refine vx env fun Q hQ=>?_|refine vz fun Q hQ=>?_);simp only [vkt,seval,xC,Wi,qc,mTk,qg,qf,m2L,m2S,ZA,yO,X3,List.length_map,d1,hta,hm,he,hw,hes];(try simp only [ite_and]);(repeat' (first|with_reducible assumption|refine And.intro ?_ ?_|intro hp));all_goals (first|(refine hQ _ ?_;clear hQ Q)|(refine hQ _ (fun h=>?_) (fun h=>?_) <;> clear hQ Q <;> (try simp only [vki,reduceCtorEq] at h))|(refine vq ?_;kernel_rfl)|omega|assumption|with_reducible rfl|skip)))
  (simp only [vrt,Tryz.results51,vkt,seval,xC,Wi,qc,mTk,qg,qf,m2L,m2S,ZA,yO,X3,List.length_map];refine Fin.ok some [] ?_ ?_ ?_ ?_ ?_ rfl;all_goals (try simp only [vle,vkt,seval,xC,Wi,qc,mTk,qg,qf,m2L,m2S,ZA,yO,X3,List.length_map]))
  all_goals first|rfl|(simp;done)|exact fun i hi=>(match i,hi with|0,_=>rfl|1,_=>rfl|2,_=>rfl|3,_=>rfl|4,_=>rfl|5,_=>rfl)
abbrev Es:=List (Value × Value)
noncomputable def lsR (g:Nat→Es→Option (List Int) × Es):Nat→Nat→Es→Option (List Int) × Es
 |0,_,es=>(none,es)
 |c+1,j,es=>if (g j es).1.isSome then g j es else lsR g c (j+1) (g j es).2
noncomputable def lsM (f:Int→Bool) (n:Nat):Nat→List Int→Nat→Es→Option (List Int) × Es
 |0,l,_,es=>(if f (Q4 l) then some l else none,YE f es (Q4 l))
 |m+1,l,j,es=>lsR (fun j es=>lsM f n m (l++[((j:Nat):Int)]) (j+1) es) (n - j) j es
theorem LM {P:Es→Prop} {g:Nat→Es→Option (List Int) × Es} (h:∀ j es,P es→P (g j es).2):∀ c j es,P es→P (lsR g c j es).2
 |0,_,_,hp=>hp
 |c+1,j,es,hp=>by
  rw [lsR]
  split
  ·exact h j es hp
  ·exact LM h c _ _ (h j es hp)
theorem Qa8 {f:Int→Bool} {n:Nat}:∀ (m:Nat) (l:List Int) (j:Nat) (es:Es),MetOk f es→MetOk f (lsM f n m l j es).2
 |0,l,_,es,h=>QhP h _
 |m+1,l,j,es,h=>LM (P:=MetOk f) (fun j es h=>Qa8 m _ _ es h) _ _ _ h
theorem Qcj {d:Nat} {g:Nat→Es→Option (List Int) × Es} (h:∀ j es,(g j es).2.length≤es.length+d):∀ c j es,(lsR g c j es).2.length≤es.length+c * d
 |0,_,es=>by simp [lsR]
 |c+1,j,es=>by
  rw [lsR,Nat.succ_mul]
  have h1:=h j es
  split
  ·omega
  ·have:=Qcj h c (j+1) (g j es).2
   omega
theorem R7 {f:Int→Bool} {n:Nat} (hn:n≤4):∀ (m:Nat) (l:List Int) (j:Nat) (es:Es),(lsM f n m l j es).2.length≤es.length+4 ^ m
 |0,l,_,es=>QgC f es _
 |m+1,l,j,es=>by
  have h:=Qcj (d:=4 ^ m) (g:=fun j es=>lsM f n m (l++[((j:Nat):Int)]) (j+1) es) (fun j es=>R7 hn m _ _ es) (n - j) j es
  have h2:(n - j) * 4 ^ m≤4 * 4 ^ m:=Nat.mul_le_mul_right _ (by omega)
  rw [Nat.pow_succ,Nat.mul_comm (4 ^ m) 4]
  show (lsR _ (n - j) j es).2.length≤_
  omega
structure LmOk (cs:List Cabin) (s:Int) (L:List Ask) (sold:List Tk) (l:List Int) (f m:Nat) (es:Es):Prop where
 sv:SvOk cs s L sold
 len:l.length+m≤4
 from':f≤L.length∨m=0
 mem:∀ i ∈ l,0≤i∧i < 4
 met:MetOk (fun b=>tkB cs s L b sold) es
 cap:es.length+4 ^ m≤10000
def lmL (cs:List Cabin) (s:Int) (L:List Ask) (sold:List Tk) (many:Nat) (o:Option (List Int)) (es:Es):List AObj:=[qg cs s 1,qf sold,.cells [.ptr 0 0],.cells [.sl (L.map zi)],.cells [.mp 5],.map es,
 .cells [aI many],.cells [.clo 51 [.ptr 2 0,.ptr 3 0,.ptr 4 0]],.cells [.sl ((o.getD []).map wz)],.cells [aB o.isSome],.cells [aI L.length],.cells [.clo 75 [.ptr 6 0,.ptr 7 0,.ptr 8 0,.ptr 9 0,.ptr 10 0,.ptr 11 0]]]
theorem QcM {cs:List Cabin} {s:Int} {L:List Ask} {sold:List Tk} {many:Nat} {o:Option (List Int)} {es:Es}:∀ i ob,qj (qH 0 (lmL cs s L sold many o es)) i=some ob→i < 12∧∀ id ∈ ob.ids,id < 12:=by
 intro i ob hi
 have h:=qQ hi
 simp [qH,lmL] at h
 rcases h with ⟨rfl,rfl⟩|⟨rfl,rfl⟩|⟨rfl,rfl⟩|⟨rfl,rfl⟩|⟨rfl,rfl⟩|⟨rfl,rfl⟩|⟨rfl,rfl⟩|⟨rfl,rfl⟩|⟨rfl,rfl⟩|⟨rfl,rfl⟩|⟨rfl,rfl⟩|⟨rfl,rfl⟩ <;> simp [AObj.ids,AV.ids,AV.idsL,qg,qf,aI,aB]
def LmFn (cs:List Cabin) (s:Int) (L:List Ask) (sold:List Tk) (many m:Nat):Prop:=∀ (l:List Int) (f:Nat) (es:Es),l.length+m=many→LmOk cs s L sold l f m es →
 Fn noB Tryz.prog 75 [qD l,aI f,.ptr 6 0,.ptr 7 0,.ptr 8 0,.ptr 9 0,.ptr 10 0,.ptr 11 0] (qj (qH 0 (lmL cs s L sold many none es))) (.tup []) (qj (wP 0 ((lmL cs s L sold many (lsM (fun b=>tkB cs s L b sold) L.length m l f es).1 (lsM (fun b=>tkB cs s L b sold) L.length m l f es).2).map some))) 0
noncomputable def pM2 (cs:List Cabin) (s:Int) (L:List Ask) (sold:List Tk) (S:St):List AV→Option Pk
 |[.sl xs,.ptr p2 0,.ptr p3 0,.ptr p4 0]=>match S.h p2,S.h p4 with
  |some (.cells [.ptr p0 0]),some (.cells [.mp p5])=>match S.h p0,S.h p5 with
   |some (.cells [_,_,.row p1]),some (.map es)=>some { pre:=xs=(xs.map zQ).map wz∧SvOk cs s L sold∧(∀ i ∈ xs.map zQ,0≤i∧i < 4)∧(xs.map zQ).length≤100∧MetOk (fun b=>tkB cs s L b sold) es∧es.length≤100000,hs:=[p0,p1,p2,p3,p4,p5],ar:=[.sl xs,.ptr 2 0,.ptr 3 0,.ptr 4 0],L0:=m2L cs s L sold es,v:=aB (tkB cs s L (Q4 (xs.map zQ)) sold),L1:=(m2L cs s L sold (YE (fun b=>tkB cs s L b sold) es (Q4 (xs.map zQ)))).map some }
   |_,_=>none
  |_,_=>none
 |_=>none
theorem eM2 {A:Frm→Prop} {cs:List Cabin} {s:Int} {L:List Ask} {sold:List Tk}:qC A Tryz.prog 51 (fnE (pM2 cs s L sold)):=wK fun S bs q h hp=>by
 unfold pM2 at h
 split at h
 ·split at h
  ·split at h
   ·cases h
    obtain ⟨h1,h2,h3,h4,h5,h6⟩:=hp
    have:=Qg1 cs s L sold _ _ h2 h3 h4 h5 h6
    rw [qD,← h1] at this
    exact this
   ·cases h
  ·cases h
 ·cases h
noncomputable def Zw (cs:List Cabin) (s:Int) (L:List Ask) (sold:List Tk) (many m:Nat) (S:St):List AV→Option Pk
 |[.row q,.v (.int .i64 f),.ptr p6 0,.ptr p7 0,.ptr p8 0,.ptr p9 0,.ptr p10 0,.ptr p11 0]=>match S.h q,S.h p7 with
  |some (.row _ _ xs),some (.cells [.clo _ [.ptr p2 0,.ptr p3 0,.ptr p4 0]])=>match S.h p2,S.h p4 with
   |some (.cells [.ptr p0 0]),some (.cells [.mp p5])=>match S.h p0,S.h p5 with
    |some (.cells [_,_,.row p1]),some (.map es)=>some { pre:=xs=(xs.map zQ).map wz∧f=(f.toNat:Int)∧(xs.map zQ).length+m=many∧LmOk cs s L sold (xs.map zQ) f.toNat m es,hs:=[p0,p1,p2,p3,p4,p5,p6,p7,p8,p9,p10,p11],bo:=[q],ar:=[.sl xs,.v (.int .i64 f),.ptr 6 0,.ptr 7 0,.ptr 8 0,.ptr 9 0,.ptr 10 0,.ptr 11 0],L0:=lmL cs s L sold many none es,v:=.tup [],L1:=(lmL cs s L sold many (lsM (fun b=>tkB cs s L b sold) L.length m (xs.map zQ) f.toNat es).1 (lsM (fun b=>tkB cs s L b sold) L.length m (xs.map zQ) f.toNat es).2).map some }
    |_,_=>none
   |_,_=>none
  |_,_=>none
 |_=>none
theorem eLm1 {A:Frm→Prop} {cs:List Cabin} {s:Int} {L:List Ask} {sold:List Tk} {many m:Nat} (ih:LmFn cs s L sold many m):qC A Tryz.prog 75 (fnE (Zw cs s L sold many m)):=wK fun S bs q h hp=>by
 unfold Zw at h
 split at h
 ·split at h
  ·split at h
   ·split at h
    ·cases h
     obtain ⟨h1,h2,h3,h4⟩:=hp
     have:=ih _ _ _ h3 h4
     rw [qD,← h1,aI,← h2] at this
     exact this
    ·cases h
   ·cases h
  ·cases h
 ·cases h
def lmS (cs:List Cabin) (s:Int) (L:List Ask) (sold:List Tk) (many:Nat) (l:List Int) (i:Nat) (o:Option (List Int)) (es:Es):St:={ t:=asg [(0,qD l),(2,.ptr 6 0),(3,.ptr 7 0),(4,.ptr 8 0),(5,.ptr 9 0),(6,.ptr 10 0),(7,.ptr 11 0),(10,aI i)],h:=qj [(0,qg cs s 1),(1,qf sold),(2,.cells [.ptr 0 0]),(3,.cells [.sl (L.map zi)]),(4,.cells [.mp 5]),(5,.map es),(6,.cells [aI many]),(7,.cells [.clo 51 [.ptr 2 0,.ptr 3 0,.ptr 4 0]]),(8,.cells [.sl ((o.getD []).map wz)]),(9,.cells [aB o.isSome]),(10,.cells [aI L.length]),(11,.cells [.clo 75 [.ptr 6 0,.ptr 7 0,.ptr 8 0,.ptr 9 0,.ptr 10 0,.ptr 11 0]])],n:=12,m:=12 }
def zP:=vj @ty3 (vj @ty4 (vj @WE (vj @Qjg (vj @Qdg (vj @ti3.eq_1 (vj @ti4.eq_1 (vj @Zr.eq_1 (vj @LD.eq_1 @Xf.eq_1))))))))
def j4:=vj @aI.eq_1 (vj @aB.eq_1 (vj @qD.eq_1 (vj @wz.eq_1 (vj @Ue (vj @Qaj (@QJ))))))
set_option maxHeartbeats 4000000 in
theorem VW (cs:List Cabin) (s:Int) (L:List Ask) (sold:List Tk) (many m:Nat) (ih:∀ m',m=m'+1→LmFn cs s L sold many m'):LmFn cs s L sold many m:=by
 intro l f es0 hlm ok
 have hlen:=ok.len
 have h4:=ok.sv.four
 have hcap:=ok.cap
 have hmx:(100000:Nat)≤maxLen:=by decide
 have hmm:l.length≤100000:=by omega
 have hml1:l.length+1≤maxLen:=by omega
 obtain ⟨F,hF⟩:∃ F:Int→Bool,(fun b=>tkB cs s L b sold)=F:=⟨_,rfl⟩
 have hFb:∀ b,tkB cs s L b sold=F b:=fun b=>congrFun hF b
 obtain ⟨n,hn⟩:∃ n,L.length=n:=⟨_,rfl⟩
 rw [hn] at h4
 have hmet:=ok.met
 rw [hF] at hmet ⊢
 have hsv:=ok.sv
 cases m with
 |zero =>
  have env:Env (fun _=>True) Tryz.prog tyB (tab [(51,fnE (pM2 cs s L sold))]):=qO ⟨eM2,trivial⟩
  refine Fn.of (A:=fun _=>True) (n0:=12) (D:=noD) (Fn0 Tryz.func75 rfl (fun vs w=>by kernel_rfl) (by kernel_rfl)) (by simp) (by simp [AV.ids,AV.idsL,qD,aI]) QcM (fun _ _ _ _=>trivial) qG ?_
  have hmem:=ok.mem
  have hl1:l.length≤100:=by omega
  have he1:es0.length≤100000:=by omega
  have d0:decide ((l.length:Int)=(many:Int))=true:=decide_eq_true (by omega)
  rw [lsM]
  show Sym _ _ _ (zR [qD l,aI f,.ptr 6 0,.ptr 7 0,.ptr 8 0,.ptr 9 0,.ptr 10 0,.ptr 11 0] 12 (lmS cs s L sold many l f none es0).h) (vo tyB noD Tryz.f75 fun S rv=>Fin S rv _ 12 (lmS cs s L sold many l f (if F (Q4 l) then some l else none) (YE F es0 (Q4 l))).h 0)
  obtain ⟨E,hE⟩:∃ e,YE F es0 (Q4 l)=e:=⟨_,rfl⟩
  rw [hE]
  cases hW:F (Q4 l) with
  |false =>
   rw [if_neg (by decide)]
   repeat' (first|(apply nx;with_reducible constructor)|refine uq (by decide) ?_|((first|refine vx env fun Q hQ=>?_|refine vz fun Q hQ=>?_);simp only [vkt,seval,zP,j4,mTk,qg,qf,m2L,lmL,lmS,pM2,Zw,zI,List.length_map,d0,hsv,hmem,hl1,hF,hFb,hmet,he1,hE,hW,Option.getD_none,Option.isSome_none];(try simp only [ite_and]);(repeat' (first|with_reducible assumption|refine And.intro ?_ ?_|intro hp));all_goals (first|(refine hQ _ ?_;clear hQ Q)|(refine hQ _ (fun h=>?_) (fun h=>?_) <;> clear hQ Q <;> (try simp only [vki,reduceCtorEq] at h))|(refine vq ?_;kernel_rfl)|omega|assumption|with_reducible rfl|skip)))
   (simp only [vrt,Tryz.results75,vkt,seval,zP,j4,mTk,qg,qf,m2L,lmL,lmS,pM2,Zw,zI,List.length_map];refine Fin.ok some [] ?_ ?_ ?_ ?_ ?_ rfl;all_goals (try simp only [vle,vkt,seval,zP,j4,mTk,qg,qf,m2L,lmL,lmS,pM2,Zw,zI,List.length_map]))
   all_goals (try simp only [Option.getD_none,Option.isSome_none])
   all_goals first|rfl|(simp;done)
  |true =>
   rw [if_pos rfl]
   repeat' (first|(apply nx;with_reducible constructor)|refine uq (by decide) ?_|((first|refine vx env fun Q hQ=>?_|refine vz fun Q hQ=>?_);simp only [vkt,seval,zP,j4,mTk,qg,qf,m2L,lmL,lmS,pM2,Zw,zI,List.length_map,d0,hsv,hmem,hl1,hF,hFb,hmet,he1,hE,hW,Option.getD_some,Option.isSome_some,Option.getD_none,Option.isSome_none];(try simp only [ite_and]);(repeat' (first|with_reducible assumption|refine And.intro ?_ ?_|intro hp));all_goals (first|(refine hQ _ ?_;clear hQ Q)|(refine hQ _ (fun h=>?_) (fun h=>?_) <;> clear hQ Q <;> (try simp only [vki,reduceCtorEq] at h))|(refine vq ?_;kernel_rfl)|omega|assumption|with_reducible rfl|skip)))
   (simp only [vrt,Tryz.results75,vkt,seval,zP,j4,mTk,qg,qf,m2L,lmL,lmS,pM2,Zw,zI,List.length_map];refine Fin.ok some [] ?_ ?_ ?_ ?_ ?_ rfl;all_goals (try simp only [vle,vkt,seval,zP,j4,mTk,qg,qf,m2L,lmL,lmS,pM2,Zw,zI,List.length_map]))
   all_goals (try simp only [Option.getD_some,Option.isSome_some])
   all_goals first|rfl|(simp;done)
 |succ m =>
  have env:Env (fun _=>True) Tryz.prog tyB (tab [(76,fnE zI),(75,fnE (Zw cs s L sold many m))]):=qO ⟨Qdb,eLm1 (ih m rfl),trivial⟩
  refine Fn.of (A:=fun _=>True) (n0:=12) (D:=noD) (Fn0 Tryz.func75 rfl (fun vs w=>by kernel_rfl) (by kernel_rfl)) (by simp) (by simp [AV.ids,AV.idsL,qD,aI]) QcM (fun _ _ _ _=>trivial) qG ?_
  have d0:decide ((l.length:Int)=(many:Int))=false:=decide_eq_false (by omega)
  have hfn:f≤n:=by have:=ok.from';omega
  have h4m:0 < 4 ^ m:=Nat.pow_pos (by decide)
  rw [Nat.pow_succ] at hcap
  rw [lsM,hn]
  obtain ⟨g,hg⟩:∃ g:Nat→Es→Option (List Int) × Es,(fun (j:Nat) es=>lsM F n m (l++[((j:Nat):Int)]) (j+1) es)=g:=⟨_,rfl⟩
  have hgj:∀ j es,lsM F n m (l++[((j:Nat):Int)]) (j+1) es=g j es:=fun j es=>congrFun (congrFun hg j) es
  rw [hg]
  show Sym _ _ _ (zR [qD l,aI f,.ptr 6 0,.ptr 7 0,.ptr 8 0,.ptr 9 0,.ptr 10 0,.ptr 11 0] 12 (lmS cs s L sold many l f none es0).h) (vo tyB noD Tryz.f75 fun S rv=>Fin S rv _ 12 (lmS cs s L sold many l f (lsR g (n - f) f es0).1 (lsR g (n - f) f es0).2).h 0)
  repeat' (first|(apply nx;with_reducible constructor)|refine uq (by decide) ?_|((first|refine vx env fun Q hQ=>?_|refine vz fun Q hQ=>?_);simp only [vkt,seval,zP,j4,mTk,qg,qf,m2L,lmL,lmS,pM2,Zw,zI,List.length_map,d0,Option.getD_none,Option.isSome_none];(try simp only [ite_and]);(repeat' (first|with_reducible assumption|refine And.intro ?_ ?_|intro hp));all_goals (first|(refine hQ _ ?_;clear hQ Q)|(refine hQ _ (fun h=>?_) (fun h=>?_) <;> clear hQ Q <;> (try simp only [vki,reduceCtorEq] at h))|(refine vq ?_;kernel_rfl)|omega|assumption|with_reducible rfl|skip)))
  refine zt (fun x:{ x:Nat × Option (List Int) × Es // x.1≤n - f∧MetOk F x.2.2∧x.2.2.length≤es0.length+x.1 * 4 ^ m∧((x.2.1=none∧lsR g (n - f) f es0=lsR g (n - f - x.1) (f+x.1) x.2.2)∨∃ t,x.2.1=some t∧lsR g (n - f) f es0=(some t,x.2.2)) }=>lmS cs s L sold many l (f+x.1.1) x.1.2.1 x.1.2.2) (fun x=>n - f - x.1.1) ⟨(0,none,es0),Nat.zero_le _,hmet,by simp,.inl ⟨rfl,rfl⟩⟩ ?_ fun ⟨(k,o,es),hk,hme,hle,ho⟩=>?_
  ·show Le _ (lmS cs s L sold many l f none es0)
   unfold lmS
   (refine Le.ok some [] ?_;constructor;all_goals (try simp only [vle,vkt,seval,zP,j4,mTk,qg,qf,m2L,lmL,lmS,pM2,Zw,zI,List.length_map]))
   all_goals first|rfl|(simp;done)
  simp only at hk hme hle ho ⊢
  rcases ho with ⟨rfl,hno⟩|⟨t,rfl,ht⟩
  ·by_cases hkl:k < n - f
   ·have d1:decide (((f+k:Nat):Int) < (n:Int))=true:=decide_eq_true (by omega)
    have w1:IntKind.wrap .i64 (((f+k:Nat):Int)+1)=((f+k+1:Nat):Int):=by rw [wrap64 (by omega) (by omega)];rfl
    have hla:l.map wz++[[.v (.int .i64 ((f+k:Nat):Int))]]=(l++[((f+k:Nat):Int)]).map wz:=by rw [List.map_append];rfl
    have hll:(l++[((f+k:Nat):Int)]).length=l.length+1:=by simp
    have hnm:l.length+1+m=many:=by omega
    have i0:(((f+k+1:Nat):Int)).toNat=f+k+1:=rfl
    have hkm:k * 4 ^ m+4 ^ m≤4 * 4 ^ m:=by
     rw [← Nat.succ_mul]
     exact Nat.mul_le_mul_right _ (by omega)
    have hok:LmOk cs s L sold (l++[((f+k:Nat):Int)]) (f+k+1) m es:=⟨hsv,by rw [hll];omega,.inl (by omega),fun i hi=>by
     rcases List.mem_append.1 hi with hi|hi
     ·exact ok.mem i hi
     ·rw [List.mem_singleton.1 hi];omega,by rw [hF];exact hme,by omega⟩
    have hlen2:=R7 (f:=F) h4 m (l++[((f+k:Nat):Int)]) (f+k+1) es
    have hmet2:=Qa8 (f:=F) (n:=n) m (l++[((f+k:Nat):Int)]) (f+k+1) es hme
    have hstep:lsR g (n - f - k) (f+k) es=if (g (f+k) es).1.isSome then g (f+k) es else lsR g (n - f - (k+1)) (f+(k+1)) (g (f+k) es).2:=by
     obtain ⟨c,hc⟩:∃ c,n - f - k=c+1:=⟨n - f - k - 1,by omega⟩
     rw [hc,lsR,show n - f - (k+1)=c by omega]
     rfl
    rw [hgj] at hlen2 hmet2
    have hgk:=hgj (f+k) es
    obtain ⟨⟨o',e'⟩,ho'⟩:∃ o',g (f+k) es=o':=⟨_,rfl⟩
    rw [ho'] at hlen2 hmet2 hstep hgk
    simp only at hlen2 hmet2 hstep
    have hl3:e'.length≤es0.length+(k+1) * 4 ^ m:=by rw [Nat.succ_mul];omega
    repeat' (first|(apply nx;with_reducible constructor)|refine uq (by decide) ?_|((first|refine vx env fun Q hQ=>?_|refine vz fun Q hQ=>?_);simp only [vkt,seval,zP,j4,mTk,qg,qf,m2L,lmL,lmS,pM2,Zw,zI,List.length_map,hn,hF,d1,w1,hla,hll,hnm,i0,hok,hgk,hmm,hml1,Option.getD_none,Option.isSome_none];(try simp only [ite_and]);(repeat' (first|with_reducible assumption|refine And.intro ?_ ?_|intro hp));all_goals (first|(refine hQ _ ?_;clear hQ Q)|(refine hQ _ (fun h=>?_) (fun h=>?_) <;> clear hQ Q <;> (try simp only [vki,reduceCtorEq] at h))|(refine vq ?_;kernel_rfl)|omega|assumption|with_reducible rfl|skip)))
    ·exact ⟨_,_,rfl⟩
    refine ⟨⟨(k+1,o',e'),by show k+1≤n - f;omega,hmet2,hl3, ?_⟩,by show n - f - (k+1) < n - f - k;omega, ?_⟩
    ·cases o' with
     |none=>exact .inl ⟨rfl,by rw [hno,hstep];rfl⟩
     |some t=>exact .inr ⟨t,rfl,by rw [hno,hstep];rfl⟩
    ·show Le _ (lmS cs s L sold many l (f+k+1) o' e')
     unfold lmS
     rw [hn]
     (refine Le.ok some [] ?_;constructor;all_goals (try simp only [vle,vkt,seval,zP,j4,mTk,qg,qf,m2L,lmL,lmS,pM2,Zw,zI,List.length_map]))
     all_goals first|rfl|(simp;done)
   ·have d1:decide (((f+k:Nat):Int) < (n:Int))=false:=decide_eq_false (by omega)
    rw [hno,show n - f - k=0 by omega,lsR]
    repeat' (first|(apply nx;with_reducible constructor)|refine uq (by decide) ?_|((first|refine vx env fun Q hQ=>?_|refine vz fun Q hQ=>?_);simp only [vkt,seval,zP,j4,mTk,qg,qf,m2L,lmL,lmS,pM2,Zw,zI,List.length_map,hn,d1,Option.getD_none,Option.isSome_none];(try simp only [ite_and]);(repeat' (first|with_reducible assumption|refine And.intro ?_ ?_|intro hp));all_goals (first|(refine hQ _ ?_;clear hQ Q)|(refine hQ _ (fun h=>?_) (fun h=>?_) <;> clear hQ Q <;> (try simp only [vki,reduceCtorEq] at h))|(refine vq ?_;kernel_rfl)|omega|assumption|with_reducible rfl|skip)))
    (simp only [vrt,Tryz.results75,vkt,seval,zP,j4,mTk,qg,qf,m2L,lmL,lmS,pM2,Zw,zI,List.length_map];refine Fin.ok some [] ?_ ?_ ?_ ?_ ?_ rfl;all_goals (try simp only [vle,vkt,seval,zP,j4,mTk,qg,qf,m2L,lmL,lmS,pM2,Zw,zI,List.length_map]))
    all_goals (try simp only [hn,Option.getD_none,Option.isSome_none])
    all_goals first|rfl|(simp;done)
  ·rw [ht]
   by_cases hkl:f+k < n
   ·have d1:decide (((f+k:Nat):Int) < (n:Int))=true:=decide_eq_true (by omega)
    repeat' (first|(apply nx;with_reducible constructor)|refine uq (by decide) ?_|((first|refine vx env fun Q hQ=>?_|refine vz fun Q hQ=>?_);simp only [vkt,seval,zP,j4,mTk,qg,qf,m2L,lmL,lmS,pM2,Zw,zI,List.length_map,hn,d1,Option.getD_some,Option.isSome_some];(try simp only [ite_and]);(repeat' (first|with_reducible assumption|refine And.intro ?_ ?_|intro hp));all_goals (first|(refine hQ _ ?_;clear hQ Q)|(refine hQ _ (fun h=>?_) (fun h=>?_) <;> clear hQ Q <;> (try simp only [vki,reduceCtorEq] at h))|(refine vq ?_;kernel_rfl)|omega|assumption|with_reducible rfl|skip)))
    (simp only [vrt,Tryz.results75,vkt,seval,zP,j4,mTk,qg,qf,m2L,lmL,lmS,pM2,Zw,zI,List.length_map];refine Fin.ok some [] ?_ ?_ ?_ ?_ ?_ rfl;all_goals (try simp only [vle,vkt,seval,zP,j4,mTk,qg,qf,m2L,lmL,lmS,pM2,Zw,zI,List.length_map]))
    all_goals (try simp only [hn,Option.getD_some,Option.isSome_some])
    all_goals first|rfl|(simp;done)
   ·have d1:decide (((f+k:Nat):Int) < (n:Int))=false:=decide_eq_false (by omega)
    repeat' (first|(apply nx;with_reducible constructor)|refine uq (by decide) ?_|((first|refine vx env fun Q hQ=>?_|refine vz fun Q hQ=>?_);simp only [vkt,seval,zP,j4,mTk,qg,qf,m2L,lmL,lmS,pM2,Zw,zI,List.length_map,hn,d1,Option.getD_some,Option.isSome_some];(try simp only [ite_and]);(repeat' (first|with_reducible assumption|refine And.intro ?_ ?_|intro hp));all_goals (first|(refine hQ _ ?_;clear hQ Q)|(refine hQ _ (fun h=>?_) (fun h=>?_) <;> clear hQ Q <;> (try simp only [vki,reduceCtorEq] at h))|(refine vq ?_;kernel_rfl)|omega|assumption|with_reducible rfl|skip)))
    (simp only [vrt,Tryz.results75,vkt,seval,zP,j4,mTk,qg,qf,m2L,lmL,lmS,pM2,Zw,zI,List.length_map];refine Fin.ok some [] ?_ ?_ ?_ ?_ ?_ rfl;all_goals (try simp only [vle,vkt,seval,zP,j4,mTk,qg,qf,m2L,lmL,lmS,pM2,Zw,zI,List.length_map]))
    all_goals (try simp only [hn,Option.getD_some,Option.isSome_some])
    all_goals first|rfl|(simp;done)
theorem Vu (cs:List Cabin) (s:Int) (L:List Ask) (sold:List Tk) (many:Nat):∀ m,LmFn cs s L sold many m
 |0=>VW cs s L sold many 0 fun _ h=>by omega
 |m+1=>VW cs s L sold many (m+1) fun m' h=>by
  obtain rfl:m=m':=by omega
  exact Vu cs s L sold many m
def Vt (P:Int) (l:List Ask):Int:=match l.findIdx? (fun x=>decide (x.party=P)) with
 |some i=>(i:Int)
 |none=>-1
theorem QfK {P:Int} {l:List Ask} {k:Nat} (hk:k < l.length) (h:∀ j,j < k→decide ((l.getD j default).party=P)=false) (hp:decide ((l.getD k default).party=P)=true):Vt P l=(k:Int):=by
 have:l.findIdx? (fun x=>decide (x.party=P))=some k:=by
  rw [List.findIdx?_eq_some_iff_getElem]
  refine ⟨hk,by simpa [List.getD_eq_getElem?_getD,hk] using hp,fun j hj=>?_⟩
  have:=h j hj
  simpa [List.getD_eq_getElem?_getD,show j < l.length by omega] using this
 simp [Vt,this]
theorem Qee {P:Int} {l:List Ask} (h:∀ j,j < l.length→decide ((l.getD j default).party=P)=false):Vt P l=-1:=by
 have:l.findIdx? (fun x=>decide (x.party=P))=none:=by
  rw [List.findIdx?_eq_none_iff]
  intro x hx
  obtain ⟨j,hj,rfl⟩:=List.mem_iff_getElem.1 hx
  have:=h j hj
  simpa [List.getD_eq_getElem?_getD,hj] using this
 simp [Vt,this]
theorem Qfi (P:Int) (l:List Ask):decide (0≤Vt P l)=l.any fun x=>decide (x.party=P):=by
 unfold Vt
 cases h:l.findIdx? (fun x=>decide (x.party=P)) with
 |none =>
  rw [List.findIdx?_eq_none_iff] at h
  symm
  simpa using h
 |some i =>
  rw [List.findIdx?_eq_some_iff_getElem] at h
  obtain ⟨hi,hp,_⟩:=h
  symm
  simp only [Int.natCast_nonneg,decide_true,List.any_eq_true]
  exact ⟨_,List.getElem_mem hi,hp⟩
def WN:=vj @ty3 (vj @Q0 (vj @ti3.eq_1 @Ql.eq_1))
def Ub:=vj @aI.eq_1 (@aB.eq_1)
theorem QfH (a x:Ask):Fn noB Tryz.prog 49 [qx x,.ptr 0 0] (qj [(0,.cells (ql a))]) (aB (decide (x.party=a.party))) (qj [(0,.cells (ql a))]) 0:=by
 have env:Env (fun _=>True) Tryz.prog tyB (tab []):=qO trivial
 refine Fn.of (A:=fun _=>True) (n0:=1) (D:=noD) (Fn0 Tryz.func49 rfl (fun vs w=>by kernel_rfl) (by kernel_rfl)) (by simp) (by simp [AV.ids,AV.idsL,qx,ql]) ?_ (fun _ _ _ _=>trivial) qG ?_
 ·intro i o hi
  have h:=qQ hi
  simp at h;obtain ⟨rfl,rfl⟩:=h;simp [ql,AObj.ids,AV.ids,AV.idsL]
 repeat' (first|(apply nx;with_reducible constructor)|refine uq (by decide) ?_|((first|refine vx env fun Q hQ=>?_|refine vz fun Q hQ=>?_);simp only [vkt,seval,WN,Ub,qx,ql];(try simp only [ite_and]);(repeat' (first|with_reducible assumption|refine And.intro ?_ ?_|intro hp));all_goals (first|(refine hQ _ ?_;clear hQ Q)|(refine hQ _ (fun h=>?_) (fun h=>?_) <;> clear hQ Q <;> (try simp only [vki,reduceCtorEq] at h))|(refine vq ?_;kernel_rfl)|omega|assumption|with_reducible rfl|skip)))
 all_goals (simp only [vrt,Tryz.results49,vkt,seval,WN,Ub,qx,ql];refine Fin.ok some [] ?_ ?_ ?_ ?_ ?_ rfl;all_goals (try simp only [vle,vkt,seval,WN,Ub,qx,ql]))
 all_goals first|rfl|(simp;done)
def Vb (S:St):List AV→Option Pk
 |[.agg [.v (.int .i64 a),.v (.int .i64 b),.v (.int .i64 c),.sl d,.v (.bool e)],.ptr t 0]=>match S.h t with
  |some (.cells [.v (.int .i64 a'),.v (.int .i64 b'),.v (.int .i64 c'),.sl d',.v (.bool e')])=>some { pre:=d=(d.map zQ).map wz∧d'=(d'.map zQ).map wz,hs:=[t],ar:=[.agg [.v (.int .i64 a),.v (.int .i64 b),.v (.int .i64 c),.sl d,.v (.bool e)],.ptr 0 0],L0:=[.cells [.v (.int .i64 a'),.v (.int .i64 b'),.v (.int .i64 c'),.sl d',.v (.bool e')]],v:=aB (decide (a=a')),L1:=[some (.cells [.v (.int .i64 a'),.v (.int .i64 b'),.v (.int .i64 c'),.sl d',.v (.bool e')])] }
  |_=>none
 |_=>none
theorem eMo1 {A:Frm→Prop}:qC A Tryz.prog 49 (fnE Vb):=wK fun S bs q h hp=>by
 unfold Vb at h
 split at h
 ·split at h
  ·rename_i a b c d e t _ a' b' c' d' e' _
   cases h
   obtain ⟨h1,h2⟩:=hp
   have:=QfH ⟨a',b',c',d'.map zQ,e'⟩ ⟨a,b,c,d.map zQ,e⟩
   simp only [qx,ql,← h1,← h2] at this
   exact this
  ·cases h
 ·cases h
def Vh (l:List Ask) (a:Ask) (k:Nat):St:={ t:=asg [(0,wB l),(1,.clo 49 [.ptr 0 0]),(4,aI 0),(6,wB l),(7,aI l.length),(8,aI k)],h:=qj [(0,.cells (ql a))],n:=1,m:=1 }
def jM:=vj @ty3 (vj @Q0 (vj @Qdv (vj @ti3.eq_1 (vj @Ql.eq_1 @UT.eq_1))))
def QB:=vj @aI.eq_1 (vj @aB.eq_1 (@QJ))
theorem QeO (a:Ask) (l:List Ask) (hl:l.length≤100):Fn noB Tryz.prog 74 [wB l,.clo 49 [.ptr 0 0]] (qj [(0,.cells (ql a))]) (aI (Vt a.party l)) (qj [(0,.cells (ql a))]) 0:=by
 have env:Env (fun _=>True) Tryz.prog tyB (tab [(49,fnE Vb)]):=qO ⟨eMo1,trivial⟩
 refine Fn.of (A:=fun _=>True) (n0:=1) (D:=noD) (Fn0 Tryz.func74 rfl (fun vs w=>by kernel_rfl) (by kernel_rfl)) (by simp) (by simp [AV.ids,AV.idsL,wB]) ?_ (fun _ _ _ _=>trivial) qG ?_
 ·intro i o hi
  have h:=qQ hi
  simp at h;obtain ⟨rfl,rfl⟩:=h;simp [ql,AObj.ids,AV.ids,AV.idsL]
 repeat' (first|(apply nx;with_reducible constructor)|refine uq (by decide) ?_|((first|refine vx env fun Q hQ=>?_|refine vz fun Q hQ=>?_);simp only [vkt,seval,jM,QB,qx,ql,wB,zi,xH,Vh,Vb,List.length_map];(try simp only [ite_and]);(repeat' (first|with_reducible assumption|refine And.intro ?_ ?_|intro hp));all_goals (first|(refine hQ _ ?_;clear hQ Q)|(refine hQ _ (fun h=>?_) (fun h=>?_) <;> clear hQ Q <;> (try simp only [vki,reduceCtorEq] at h))|(refine vq ?_;kernel_rfl)|omega|assumption|with_reducible rfl|skip)))
 refine zt (fun k:{ k:Nat // k≤l.length∧∀ j,j < k→decide ((l.getD j default).party=a.party)=false }=>Vh l a k.1) (fun k=>l.length - k.1) ⟨0,Nat.zero_le _,fun j h=>absurd h (Nat.not_lt_zero _)⟩ ?_ fun ⟨k,hk,hno⟩=>?_
 ·(refine Le.ok some [] ?_;constructor;all_goals (try simp only [vle,vkt,seval,jM,QB,qx,ql,wB,zi,xH,Vh,Vb,List.length_map]))
  all_goals first|rfl|(simp;done)
 simp only at hk hno ⊢
 simp only [Vh]
 by_cases hlt:k < l.length
 ·have d1:decide ((k:Int) < (l.length:Int))=true:=decide_eq_true (by omega)
  have e9:IntKind.wrap .i64 ((k:Int)+1)=((k+1:Nat):Int):=by rw [wrap64 (by omega) (by omega)];rfl
  have k0:((k:Int)).toNat=k:=rfl
  have hg:=hAsk hlt
  obtain ⟨x,hx⟩:∃ x,l.getD k default=x:=⟨_,rfl⟩
  rw [hx] at hg
  cases hp:decide (x.party=a.party) with
  |false =>
   repeat' (first|(apply nx;with_reducible constructor)|refine uq (by decide) ?_|((first|refine vx env fun Q hQ=>?_|refine vz fun Q hQ=>?_);simp only [vkt,seval,jM,QB,qx,ql,wB,zi,xH,Vh,Vb,List.length_map,d1,k0,hlt,hg,hx,hp,e9];(try simp only [ite_and]);(repeat' (first|with_reducible assumption|refine And.intro ?_ ?_|intro hp));all_goals (first|(refine hQ _ ?_;clear hQ Q)|(refine hQ _ (fun h=>?_) (fun h=>?_) <;> clear hQ Q <;> (try simp only [vki,reduceCtorEq] at h))|(refine vq ?_;kernel_rfl)|omega|assumption|with_reducible rfl|skip)))
   refine ⟨⟨k+1,hlt,fun j hj=>?_⟩,by show l.length - (k+1) < l.length - k;omega, ?_⟩
   ·rcases Nat.lt_or_eq_of_le (Nat.le_of_lt_succ hj) with h1|h1
    ·exact hno j h1
    ·rw [h1,hx];exact hp
   ·simp only [Vh]
    (refine Le.ok some [] ?_;constructor;all_goals (try simp only [vle,vkt,seval,jM,QB,qx,ql,wB,zi,xH,Vh,Vb,List.length_map]))
    all_goals first|rfl|(simp;done)
  |true =>
   have hh:=QfK hlt hno (by rw [hx];exact hp)
   rw [hh]
   repeat' (first|(apply nx;with_reducible constructor)|refine uq (by decide) ?_|((first|refine vx env fun Q hQ=>?_|refine vz fun Q hQ=>?_);simp only [vkt,seval,jM,QB,qx,ql,wB,zi,xH,Vh,Vb,List.length_map,d1,k0,hlt,hg,hx,hp,e9];(try simp only [ite_and]);(repeat' (first|with_reducible assumption|refine And.intro ?_ ?_|intro hp));all_goals (first|(refine hQ _ ?_;clear hQ Q)|(refine hQ _ (fun h=>?_) (fun h=>?_) <;> clear hQ Q <;> (try simp only [vki,reduceCtorEq] at h))|(refine vq ?_;kernel_rfl)|omega|assumption|with_reducible rfl|skip)))
   (simp only [vrt,Tryz.results74,vkt,seval,jM,QB,qx,ql,wB,zi,xH,Vh,Vb,List.length_map];refine Fin.ok some [] ?_ ?_ ?_ ?_ ?_ rfl;all_goals (try simp only [vle,vkt,seval,jM,QB,qx,ql,wB,zi,xH,Vh,Vb,List.length_map]))
   all_goals first|rfl|(simp;done)
 ·have d1:decide ((k:Int) < (l.length:Int))=false:=decide_eq_false (by omega)
  obtain rfl:k=l.length:=by omega
  rw [Qee hno]
  repeat' (first|(apply nx;with_reducible constructor)|refine uq (by decide) ?_|((first|refine vx env fun Q hQ=>?_|refine vz fun Q hQ=>?_);simp only [vkt,seval,jM,QB,qx,ql,wB,zi,xH,Vh,Vb,List.length_map,d1];(try simp only [ite_and]);(repeat' (first|with_reducible assumption|refine And.intro ?_ ?_|intro hp));all_goals (first|(refine hQ _ ?_;clear hQ Q)|(refine hQ _ (fun h=>?_) (fun h=>?_) <;> clear hQ Q <;> (try simp only [vki,reduceCtorEq] at h))|(refine vq ?_;kernel_rfl)|omega|assumption|with_reducible rfl|skip)))
  (simp only [vrt,Tryz.results74,vkt,seval,jM,QB,qx,ql,wB,zi,xH,Vh,Vb,List.length_map];refine Fin.ok some [] ?_ ?_ ?_ ?_ ?_ rfl;all_goals (try simp only [vle,vkt,seval,jM,QB,qx,ql,wB,zi,xH,Vh,Vb,List.length_map]))
  all_goals first|rfl|(simp;done)
def QeR (S:St):List AV→Option Pk
 |[.sl xs,.clo f [.ptr t 0]]=>match S.h t with
  |some (.cells [.v (.int .i64 a'),.v (.int .i64 b'),.v (.int .i64 c'),.sl d',.v (.bool e')])=>some { pre:=f=49∧xs=(xs.map jZ).map zi∧d'=(d'.map zQ).map wz∧xs.length≤100,hs:=[t],ar:=[.sl xs,.clo 49 [.ptr 0 0]],L0:=[.cells [.v (.int .i64 a'),.v (.int .i64 b'),.v (.int .i64 c'),.sl d',.v (.bool e')]],v:=aI (Vt a' (xs.map jZ)),L1:=[some (.cells [.v (.int .i64 a'),.v (.int .i64 b'),.v (.int .i64 c'),.sl d',.v (.bool e')])] }
  |_=>none
 |_=>none
theorem eIxA {A:Frm→Prop}:qC A Tryz.prog 74 (fnE QeR):=wK fun S bs q h hp=>by
 unfold QeR at h
 split at h
 ·split at h
  ·rename_i a' b' c' d' e' _
   cases h
   obtain ⟨_,h1,h2,h3⟩:=hp
   have:=QeO ⟨a',b',c',d'.map zQ,e'⟩ (List.map jZ _) (by rw [List.length_map];exact h3)
   simp only [wB,ql,← h1,← h2] at this
   exact this
  ·cases h
 ·cases h
def Jj:=vj @ty3 @ti3.eq_1
def R6:=vj @aI.eq_1 (vj @aB.eq_1 (@QJ))
theorem QfY (a:Ask) (l:List Ask) (hl:l.length≤100):Fn noB Tryz.prog 48 [wB l,.clo 49 [.ptr 0 0]] (qj [(0,.cells (ql a))]) (aB (l.any fun x=>decide (x.party=a.party))) (qj [(0,.cells (ql a))]) 0:=by
 have env:Env (fun _=>True) Tryz.prog tyB (tab [(74,fnE QeR)]):=qO ⟨eIxA,trivial⟩
 refine Fn.of (A:=fun _=>True) (n0:=1) (D:=noD) (Fn0 Tryz.func48 rfl (fun vs w=>by kernel_rfl) (by kernel_rfl)) (by simp) (by simp [AV.ids,AV.idsL,wB]) ?_ (fun _ _ _ _=>trivial) qG ?_
 ·intro i o hi
  have h:=qQ hi
  simp at h;obtain ⟨rfl,rfl⟩:=h;simp [ql,AObj.ids,AV.ids,AV.idsL]
 repeat' (first|(apply nx;with_reducible constructor)|refine uq (by decide) ?_|((first|refine vx env fun Q hQ=>?_|refine vz fun Q hQ=>?_);simp only [vkt,seval,Jj,R6,wB,ql,Qp,QeR,List.length_map];(try simp only [ite_and]);(repeat' (first|with_reducible assumption|refine And.intro ?_ ?_|intro hp));all_goals (first|(refine hQ _ ?_;clear hQ Q)|(refine hQ _ (fun h=>?_) (fun h=>?_) <;> clear hQ Q <;> (try simp only [vki,reduceCtorEq] at h))|(refine vq ?_;kernel_rfl)|omega|assumption|with_reducible rfl|skip)))
 (simp only [vrt,Tryz.results48,Qfi,vkt,seval,Jj,R6,wB,ql,Qp,QeR,List.length_map];refine Fin.ok some [] ?_ ?_ ?_ ?_ ?_ rfl;all_goals (try simp only [vle,vkt,seval,Jj,R6,wB,ql,Qp,QeR,List.length_map]))
 all_goals first|rfl|(simp;done)
def Qn (S:St):List AV→Option Pk
 |[.sl xs,.clo f [.ptr t 0]]=>match S.h t with
  |some (.cells [.v (.int .i64 a'),.v (.int .i64 b'),.v (.int .i64 c'),.sl d',.v (.bool e')])=>some { pre:=f=49∧xs=(xs.map jZ).map zi∧d'=(d'.map zQ).map wz∧xs.length≤100,hs:=[t],ar:=[.sl xs,.clo 49 [.ptr 0 0]],L0:=[.cells [.v (.int .i64 a'),.v (.int .i64 b'),.v (.int .i64 c'),.sl d',.v (.bool e')]],v:=aB ((xs.map jZ).any fun x=>decide (x.party=a')),L1:=[some (.cells [.v (.int .i64 a'),.v (.int .i64 b'),.v (.int .i64 c'),.sl d',.v (.bool e')])] }
  |_=>none
 |_=>none
theorem eCoA {A:Frm→Prop}:qC A Tryz.prog 48 (fnE Qn):=wK fun S bs q h hp=>by
 unfold Qn at h
 split at h
 ·split at h
  ·rename_i a' b' c' d' e' _
   cases h
   obtain ⟨_,h1,h2,h3⟩:=hp
   have:=QfY ⟨a',b',c',d'.map zQ,e'⟩ (List.map jZ _) (by rw [List.length_map];exact h3)
   simp only [wB,ql,← h1,← h2] at this
   exact this
  ·cases h
 ·cases h
noncomputable def Qef (cs:List Cabin) (s:Int) (L:List Ask) (sold:List Tk) (many:Nat) (S:St):List AV→Option Pk
 |[.nil,.v (.int .i64 f),.ptr p6 0,.ptr p7 0,.ptr p8 0,.ptr p9 0,.ptr p10 0,.ptr p11 0]=>match S.h p7 with
  |some (.cells [.clo _ [.ptr p2 0,.ptr p3 0,.ptr p4 0]])=>match S.h p2,S.h p4 with
   |some (.cells [.ptr p0 0]),some (.cells [.mp p5])=>match S.h p0,S.h p5 with
    |some (.cells [_,_,.row p1]),some (.map es)=>some { pre:=f=0∧LmOk cs s L sold [] 0 many es,hs:=[p0,p1,p2,p3,p4,p5,p6,p7,p8,p9,p10,p11],ar:=[.sl [],.v (.int .i64 0),.ptr 6 0,.ptr 7 0,.ptr 8 0,.ptr 9 0,.ptr 10 0,.ptr 11 0],L0:=lmL cs s L sold many none es,v:=.tup [],L1:=(lmL cs s L sold many (lsM (fun b=>tkB cs s L b sold) L.length many [] 0 es).1 (lsM (fun b=>tkB cs s L b sold) L.length many [] 0 es).2).map some }
    |_,_=>none
   |_,_=>none
  |_=>none
 |_=>none
theorem eLm0 {A:Frm→Prop} {cs:List Cabin} {s:Int} {L:List Ask} {sold:List Tk} {many:Nat}:qC A Tryz.prog 75 (fnE (Qef cs s L sold many)):=wK fun S bs q h hp=>by
 unfold Qef at h
 split at h
 ·split at h
  ·split at h
   ·split at h
    ·cases h
     exact Vu cs s L sold many many [] 0 _ (by simp) hp.2
    ·cases h
   ·cases h
  ·cases h
 ·cases h
def WL:=vj @ty3 (vj @ty4 (vj @WE (vj @Qdg (vj @ti3.eq_1 (vj @ti4.eq_1 (vj @Zr.eq_1 @Xf.eq_1))))))
def RD:=vj @aI.eq_1 (vj @aB.eq_1 (vj @qD.eq_1 (vj @wz.eq_1 (vj @Qaj (@QJ)))))
set_option maxHeartbeats 1000000 in
theorem Qec (cs:List Cabin) (s:Int) (L:List Ask) (sold:List Tk) (many:Nat) (es:Es) (ok:LmOk cs s L sold [] 0 many es):Fn noB Tryz.prog 50 [aI L.length,aI many,.clo 51 [.ptr 2 0,.ptr 3 0,.ptr 4 0]] (qj (qH 0 (m2L cs s L sold es))) (.tup [qD ((lsM (fun b=>tkB cs s L b sold) L.length many [] 0 es).1.getD []),aB (lsM (fun b=>tkB cs s L b sold) L.length many [] 0 es).1.isSome]) (qj (wP 0 ((m2L cs s L sold (lsM (fun b=>tkB cs s L b sold) L.length many [] 0 es).2).map some))) 0:=by
 have env:Env (fun _=>True) Tryz.prog tyB (tab [(75,fnE (Qef cs s L sold many))]):=qO ⟨eLm0,trivial⟩
 refine Fn.of (A:=fun _=>True) (n0:=6) (D:=noD) (Fn0 Tryz.func50 rfl (fun vs w=>by kernel_rfl) (by kernel_rfl)) (by simp) (by simp [AV.ids,AV.idsL,aI]) Qdc (fun _ _ _ _=>trivial) qG ?_
 obtain ⟨⟨o,e'⟩,ho⟩:∃ o,lsM (fun b=>tkB cs s L b sold) L.length many [] 0 es=o:=⟨_,rfl⟩
 rw [ho]
 show Sym _ _ _ (zR [aI L.length,aI many,.clo 51 [.ptr 2 0,.ptr 3 0,.ptr 4 0]] 6 (qj [(0,qg cs s 1),(1,qf sold),(2,.cells [.ptr 0 0]),(3,.cells [.sl (L.map zi)]),(4,.cells [.mp 5]),(5,.map es)])) (vo tyB noD Tryz.f50 fun S rv=>Fin S rv (.tup [qD (o.getD []),aB o.isSome]) 6 (qj [(0,qg cs s 1),(1,qf sold),(2,.cells [.ptr 0 0]),(3,.cells [.sl (L.map zi)]),(4,.cells [.mp 5]),(5,.map e')]) 0)
 repeat' (first|(apply nx;with_reducible constructor)|refine uq (by decide) ?_|((first|refine vx env fun Q hQ=>?_|refine vz fun Q hQ=>?_);simp only [vkt,seval,WL,RD,mTk,qg,qf,m2L,lmL,Qef,List.length_map,List.map_nil,ho,ok,Option.getD_none,Option.isSome_none];(try simp only [ite_and]);(repeat' (first|with_reducible assumption|refine And.intro ?_ ?_|intro hp));all_goals (first|(refine hQ _ ?_;clear hQ Q)|(refine hQ _ (fun h=>?_) (fun h=>?_) <;> clear hQ Q <;> (try simp only [vki,reduceCtorEq] at h))|(refine vq ?_;kernel_rfl)|omega|assumption|with_reducible rfl|skip)))
 (simp only [vrt,Tryz.results50,vkt,seval,WL,RD,mTk,qg,qf,m2L,lmL,Qef,List.length_map,List.map_nil];refine Fin.ok some [] ?_ ?_ ?_ ?_ ?_ rfl;all_goals (try simp only [vle,vkt,seval,WL,RD,mTk,qg,qf,m2L,lmL,Qef,List.length_map,List.map_nil]))
 all_goals first|rfl|(simp;done)|exact fun i hi=>(match i,hi with|0,_=>rfl|1,_=>rfl)
noncomputable def jK (cs:List Cabin) (s:Int) (L:List Ask) (sold:List Tk) (many:Nat) (S:St):List AV→Option Pk
 |[.v (.int .i64 n),.v (.int .i64 m),.clo f [.ptr p2 0,.ptr p3 0,.ptr p4 0]]=>match S.h p2,S.h p4 with
  |some (.cells [.ptr p0 0]),some (.cells [.mp p5])=>match S.h p0,S.h p5 with
   |some (.cells [_,_,.row p1]),some (.map es)=>some { pre:=n=L.length∧m=(many:Int)∧f=51∧LmOk cs s L sold [] 0 many es,hs:=[p0,p1,p2,p3,p4,p5],ar:=[aI L.length,aI many,.clo 51 [.ptr 2 0,.ptr 3 0,.ptr 4 0]],L0:=m2L cs s L sold es,v:=.tup [qD ((lsM (fun b=>tkB cs s L b sold) L.length many [] 0 es).1.getD []),aB (lsM (fun b=>tkB cs s L b sold) L.length many [] 0 es).1.isSome],L1:=(m2L cs s L sold (lsM (fun b=>tkB cs s L b sold) L.length many [] 0 es).2).map some }
   |_,_=>none
  |_,_=>none
 |_=>none
theorem Qkv {A:Frm→Prop} {cs:List Cabin} {s:Int} {L:List Ask} {sold:List Tk} {many:Nat}:qC A Tryz.prog 50 (fnE (jK cs s L sold many)):=wK fun S bs q h hp=>by
 unfold jK at h
 split at h
 ·split at h
  ·split at h
   ·cases h
    exact Qec cs s L sold many _ hp.2.2.2
   ·cases h
  ·cases h
 ·cases h
def Qc2 (f:Int→Bool) (l:List Int):Option (List Int):=if f (Q4 l) then some l else none
theorem Qc6 {g:Nat→Es→Option (List Int) × Es} {G:Nat→Option (List Int)} (h:∀ j es,(g j es).1=G j):∀ c j es,(lsR g c j es).1=(List.range c).findSome? fun k=>G (j+k)
 |0,_,_=>rfl
 |c+1,j,es=>by
  rw [lsR,List.range_succ_eq_map,List.findSome?_cons]
  have h1:=h j es
  rw [Nat.add_zero]
  cases hG:G j with
  |some t =>
   rw [hG] at h1
   rw [h1,if_pos (by rfl),h1]
  |none =>
   rw [hG] at h1
   rw [h1,if_neg (by simp),Qc6 h c (j+1)]
   simp only
   rw [List.findSome?_map]
   refine congrArg (List.findSome? · (List.range c)) (funext fun k=>?_)
   show G (j+1+k)=G (j+(k+1))
   rw [Nat.add_right_comm,Nat.add_assoc]
theorem Qda (f:Int→Bool) (n:Nat):∀ (m:Nat) (l:List Int) (j:Nat) (es:Es),(lsM f n m l j es).1=(Ja n m l j).findSome? (Qc2 f)
 |0,l,j,es=>by
  show (if f (Q4 l) then some l else none)=_
  rw [Ja]
  unfold Qc2
  cases h:f (Q4 l) <;> simp [h]
 |m+1,l,j,es=>by
  rw [lsM,Ja,Qc6 (G:=fun j=>(Ja n m (l++[((j:Nat):Int)]) (j+1)).findSome? (Qc2 f)) fun j es=>Qda f n m _ _ es,R4]
def Xp (f:Int→Bool) (n:Nat):Nat→Option (List Int)
 |0=>none
 |m+1=>match (Ja n (m+1) [] 0).findSome? (Qc2 f) with
  |some l=>some l
  |none=>Xp f n m
def Y8 (L:List Ask):Bool:=(List.range L.length).any fun i=>(L.take i).any fun x=>decide (x.party=(L.getD i default).party)
def X0 (c:Chart) (L:List Ask):Int:=if zS c ≠ 0 then zS c else if je L.length 0 4 ≠ 0 then je L.length 0 4 else if xf (L.map (kW c)) ≠ 0 then xf (L.map (kW c)) else if Y8 L then 4 else 0
def Zq (c:Chart) (L:List Ask):List Int × Int:=if X0 c L ≠ 0 then ([],X0 c L) else ((Xp (fun b=>tkB c.cabins c.secs L b c.sold) L.length L.length).getD [],0)
theorem QdR {L:List Ask} {i:Nat} (hi:i < L.length) (h:((L.take i).any fun x=>decide (x.party=(L.getD i default).party))=true):Y8 L=true:=List.any_eq_true.2 ⟨i,List.mem_range.2 hi,h⟩
theorem Qfk {L:List Ask} (h:∀ i,i < L.length→((L.take i).any fun x=>decide (x.party=(L.getD i default).party))=false):Y8 L=false:=by
 unfold Y8
 rw [List.any_eq_false]
 intro i hi
 rw [h i (List.mem_range.1 hi)]
 decide
def Qd (c:Chart) (L:List Ask) (k:Nat):St:={ t:=asg [(2,.ptr 0 0),(3,.ptr 1 0),(29,wB L),(30,aI L.length),(31,aI k)],h:=qj [(0,.cells (qb c)),(1,.cells [wB L])],n:=2 }
def kZ (c:Chart) (L:List Ask) (k:Nat):St:={ t:=asg [(2,.ptr 0 0),(3,.ptr 1 0),(42,wB L),(43,aI L.length),(44,aI k)],h:=qj [(0,.cells (qb c)),(1,.cells [wB L])],n:=2 }
def kM (c:Chart) (L:List Ask) (m:Nat) (es:Es):St:={ t:=asg [(3,.ptr 1 0),(13,.ptr 4 0),(14,.ptr 6 0),(15,aI m)],h:=qj [(1,.cells [wB L]),(2,qg c.cabins c.secs 3),(3,qf c.sold),(4,.cells [.ptr 2 0]),(5,.map es),(6,.cells [.mp 5])],n:=7 }
def zO:=vj @ty3 (vj @ty4 (vj @xg (vj @Zu (vj @Q0 (vj @Qdv (vj @Wl (vj @Qf9 (vj @Qgy (vj @ti3.eq_1 (vj @ti4.eq_1 (vj @y9.eq_1 (vj @QP.eq_1 (vj @Ql.eq_1 (vj @UT.eq_1 (vj @Zt.eq_1 (vj @KT.eq_1 @Ky.eq_1))))))))))))))))
def jy:=vj @aI.eq_1 (vj @aB.eq_1 (vj @qD.eq_1 (@QJ)))
set_option maxHeartbeats 4000000 in
theorem Qij (c:Chart) (L:List Ask) (hc:c.cabins.length≤maxLen) (hL:L.length≤100000) (hsx:∀ a ∈ L,a.sexes.length≤maxLen):FnV Tryz.prog 20 [qa c,wB L] (.tup [qD (Zq c L).1,aI (Zq c L).2]):=by
 have ec:(⟨c.cabins,c.secs,c.sold⟩:Chart)=c:=rfl
 have hmx:(100000:Nat)≤maxLen:=by decide
 have env0:Env (fun _=>True) Tryz.prog tyB (tab [(7,za true qp),(46,za true qI),(47,za true xA),(44,fnE zh),(48,fnE Qn)]):=qO ⟨Zk,VQ,eask,Vk,eCoA,trivial⟩
 have env1:∀ k,Env (fun _=>True) Tryz.prog tyB (tab [(50,fnE (jK c.cabins c.secs L c.sold k))]):=fun k=>qO ⟨Qkv,trivial⟩
 have env:=env0
 refine Fn.of (A:=fun _=>True) (n0:=0) (D:=noD) (Fn0 Tryz.func20 rfl (fun vs w=>by kernel_rfl) (by kernel_rfl)) (by simp) (by simp [AV.ids,AV.idsL,qa,qb,wB]) (fun i o h=>by cases h) (fun _ _ _ _=>trivial) qG ?_
 obtain ⟨e,he⟩:∃ e,zS c=e:=⟨_,rfl⟩
 by_cases h0:e=0
 case neg =>
  have hE:X0 c L=e:=by unfold X0;rw [he,if_pos h0]
  rw [show Zq c L=([],e) by unfold Zq;rw [hE,if_pos h0]]
  have d0:decide (e=0)=false:=decide_eq_false h0
  repeat' (first|(apply nx;with_reducible constructor)|refine uq (by decide) ?_|((first|refine vx env fun Q hQ=>?_|refine vz fun Q hQ=>?_);simp only [vkt,seval,zO,jy,qx,ql,wB,zi,xH,y8,qa,qb,mTk,qc,Qp,qg,qf,qm,m2L,Qd,kZ,kM,qp,qI,xA,zh,Qn,jK,List.length_map,ec,hc,he,d0];(try simp only [ite_and]);(repeat' (first|with_reducible assumption|refine And.intro ?_ ?_|intro hp));all_goals (first|(refine hQ _ ?_;clear hQ Q)|(refine hQ _ (fun h=>?_) (fun h=>?_) <;> clear hQ Q <;> (try simp only [vki,reduceCtorEq] at h))|(refine vq ?_;kernel_rfl)|omega|assumption|with_reducible rfl|skip)))
  (simp only [vrt,Tryz.results20,vkt,seval,zO,jy,qx,ql,wB,zi,xH,y8,qa,qb,mTk,qc,Qp,qg,qf,qm,m2L,Qd,kZ,kM,qp,qI,xA,zh,Qn,jK,List.length_map];refine Fin.val rfl ?_;(try simp only [AV.le,AV.leL]))
  all_goals first|rfl|(simp;done)
 rw [h0] at he
 have hval:=Qo he
 have h8:=hval.many
 have hcab:=hval.car.cabs
 have h100:c.sold.length≤100:=by omega
 have b1:c.cabins.length≤100000:=by omega
 have b2:c.sold.length≤100000:=by omega
 obtain ⟨w,hw⟩:∃ w,je L.length 0 4=w:=⟨_,rfl⟩
 by_cases hw0:w=0
 case neg =>
  have hE:X0 c L=w:=by unfold X0;rw [he,hw];simp [hw0]
  rw [show Zq c L=([],w) by unfold Zq;rw [hE,if_pos hw0]]
  have d0:decide (w=0)=false:=decide_eq_false hw0
  repeat' (first|(apply nx;with_reducible constructor)|refine uq (by decide) ?_|((first|refine vx env fun Q hQ=>?_|refine vz fun Q hQ=>?_);simp only [vkt,seval,zO,jy,qx,ql,wB,zi,xH,y8,qa,qb,mTk,qc,Qp,qg,qf,qm,m2L,Qd,kZ,kM,qp,qI,xA,zh,Qn,jK,List.length_map,ec,hc,he,hw,d0,decide_true];(try simp only [ite_and]);(repeat' (first|with_reducible assumption|refine And.intro ?_ ?_|intro hp));all_goals (first|(refine hQ _ ?_;clear hQ Q)|(refine hQ _ (fun h=>?_) (fun h=>?_) <;> clear hQ Q <;> (try simp only [vki,reduceCtorEq] at h))|(refine vq ?_;kernel_rfl)|omega|assumption|with_reducible rfl|skip)))
  (simp only [vrt,Tryz.results20,vkt,seval,zO,jy,qx,ql,wB,zi,xH,y8,qa,qb,mTk,qc,Qp,qg,qf,qm,m2L,Qd,kZ,kM,qp,qI,xA,zh,Qn,jK,List.length_map];refine Fin.val rfl ?_;(try simp only [AV.le,AV.leL]))
  all_goals first|rfl|(simp;done)
 rw [hw0] at hw
 have h4:L.length≤4:=by
  unfold je at hw
  split at hw
  ·exact absurd hw (by decide)
  ·split at hw
   ·exact absurd hw (by decide)
   ·omega
 have hE:X0 c L=if xf (L.map (kW c)) ≠ 0 then xf (L.map (kW c)) else if Y8 L then 4 else 0:=by unfold X0;rw [he,hw];rfl
 repeat' (first|(apply nx;with_reducible constructor)|refine uq (by decide) ?_|((first|refine vx env fun Q hQ=>?_|refine vz fun Q hQ=>?_);simp only [vkt,seval,zO,jy,qx,ql,wB,zi,xH,y8,qa,qb,mTk,qc,Qp,qg,qf,qm,m2L,Qd,kZ,kM,qp,qI,xA,zh,Qn,jK,List.length_map,ec,hc,he,hw,decide_true];(try simp only [ite_and]);(repeat' (first|with_reducible assumption|refine And.intro ?_ ?_|intro hp));all_goals (first|(refine hQ _ ?_;clear hQ Q)|(refine hQ _ (fun h=>?_) (fun h=>?_) <;> clear hQ Q <;> (try simp only [vki,reduceCtorEq] at h))|(refine vq ?_;kernel_rfl)|omega|assumption|with_reducible rfl|skip)))
 refine zt (fun k:{ k:Nat // k≤L.length∧∀ j,j < k→(L.map (kW c)).getD j 0=0 }=>Qd c L k.1) (fun k=>L.length - k.1) ⟨0,Nat.zero_le _,fun j h=>absurd h (Nat.not_lt_zero _)⟩ ?_ fun ⟨k,hk,hno⟩=>?_
 ·simp only [Qd]
  (refine Le.ok some [] ?_;constructor;all_goals (try simp only [vle,vkt,seval,zO,jy,qx,ql,wB,zi,xH,y8,qa,qb,mTk,qc,Qp,qg,qf,qm,m2L,Qd,kZ,kM,qp,qI,xA,zh,Qn,jK,List.length_map]))
  all_goals first|rfl|(simp;done)
 simp only at hk hno ⊢
 by_cases hkl:k < L.length
 ·have d1:decide ((k:Int) < (L.length:Int))=true:=decide_eq_true (by omega)
  have e9:IntKind.wrap .i64 ((k:Int)+1)=((k+1:Nat):Int):=by rw [wrap64 (by omega) (by omega)];rfl
  have k0:((k:Int)).toNat=k:=rfl
  have hg:=hAsk hkl
  have hxs:=hsx _ (xV (d:=default) hkl)
  have hm:(L.map (kW c)).getD k 0=kW c (L.getD k default):=mapD hkl
  obtain ⟨x,hx⟩:∃ x,L.getD k default=x:=⟨_,rfl⟩
  rw [hx] at hg hxs hm
  have ex:(⟨x.party,x.frm,x.to,x.sexes,x.dog⟩:Ask)=x:=rfl
  obtain ⟨v,hv⟩:∃ v,kW c x=v:=⟨_,rfl⟩
  rw [hv] at hm
  simp only [Qd]
  by_cases hv0:v=0
  ·rw [hv0] at hv
   repeat' (first|(apply nx;with_reducible constructor)|refine uq (by decide) ?_|((first|refine vx env fun Q hQ=>?_|refine vz fun Q hQ=>?_);simp only [vkt,seval,zO,jy,qx,ql,wB,zi,xH,y8,qa,qb,mTk,qc,Qp,qg,qf,qm,m2L,Qd,kZ,kM,qp,qI,xA,zh,Qn,jK,List.length_map,d1,k0,hkl,hg,hx,ec,ex,h100,hxs,hv,e9,decide_true];(try simp only [ite_and]);(repeat' (first|with_reducible assumption|refine And.intro ?_ ?_|intro hp));all_goals (first|(refine hQ _ ?_;clear hQ Q)|(refine hQ _ (fun h=>?_) (fun h=>?_) <;> clear hQ Q <;> (try simp only [vki,reduceCtorEq] at h))|(refine vq ?_;kernel_rfl)|omega|assumption|with_reducible rfl|skip)))
   refine ⟨⟨k+1,hkl,fun j hj=>?_⟩,by show L.length - (k+1) < L.length - k;omega, ?_⟩
   ·rcases Nat.lt_or_eq_of_le (Nat.le_of_lt_succ hj) with h2|h2
    ·exact hno j h2
    ·rw [h2,hm,hv0]
   ·simp only [Qd]
    (refine Le.ok some [] ?_;constructor;all_goals (try simp only [vle,vkt,seval,zO,jy,qx,ql,wB,zi,xH,y8,qa,qb,mTk,qc,Qp,qg,qf,qm,m2L,Qd,kZ,kM,qp,qI,xA,zh,Qn,jK,List.length_map]))
    all_goals first|rfl|(simp;done)
  ·have hf:=ZC hno (by simpa using hkl) (by rw [hm];exact hv0)
   rw [hm] at hf
   rw [show Zq c L=([],v) by unfold Zq;rw [hE,hf,if_pos hv0,if_pos hv0]]
   have d0:decide (v=0)=false:=decide_eq_false hv0
   repeat' (first|(apply nx;with_reducible constructor)|refine uq (by decide) ?_|((first|refine vx env fun Q hQ=>?_|refine vz fun Q hQ=>?_);simp only [vkt,seval,zO,jy,qx,ql,wB,zi,xH,y8,qa,qb,mTk,qc,Qp,qg,qf,qm,m2L,Qd,kZ,kM,qp,qI,xA,zh,Qn,jK,List.length_map,d1,k0,hkl,hg,hx,ec,ex,h100,hxs,hv,d0];(try simp only [ite_and]);(repeat' (first|with_reducible assumption|refine And.intro ?_ ?_|intro hp));all_goals (first|(refine hQ _ ?_;clear hQ Q)|(refine hQ _ (fun h=>?_) (fun h=>?_) <;> clear hQ Q <;> (try simp only [vki,reduceCtorEq] at h))|(refine vq ?_;kernel_rfl)|omega|assumption|with_reducible rfl|skip)))
   (simp only [vrt,Tryz.results20,vkt,seval,zO,jy,qx,ql,wB,zi,xH,y8,qa,qb,mTk,qc,Qp,qg,qf,qm,m2L,Qd,kZ,kM,qp,qI,xA,zh,Qn,jK,List.length_map];refine Fin.val rfl ?_;(try simp only [AV.le,AV.leL]))
   all_goals first|rfl|(simp;done)
 have d1:decide ((k:Int) < (L.length:Int))=false:=decide_eq_false (by omega)
 obtain rfl:k=L.length:=by omega
 have hall:=Wx (l:=L.map (kW c)) (by simpa using hno)
 have hask:∀ a ∈ L,kW c a=0:=fun a ha=>by
  obtain ⟨j,hj,rfl⟩:=List.getElem_of_mem ha
  have:=hno j hj
  rw [mapD hj,List.getD_eq_getElem?_getD,List.getElem?_eq_getElem hj] at this
  exact this
 have hE:X0 c L=if Y8 L then 4 else 0:=by rw [hE,hall,if_neg (by decide)]
 simp only [Qd]
 repeat' (first|(apply nx;with_reducible constructor)|refine uq (by decide) ?_|((first|refine vx env fun Q hQ=>?_|refine vz fun Q hQ=>?_);simp only [vkt,seval,zO,jy,qx,ql,wB,zi,xH,y8,qa,qb,mTk,qc,Qp,qg,qf,qm,m2L,Qd,kZ,kM,qp,qI,xA,zh,Qn,jK,List.length_map,d1];(try simp only [ite_and]);(repeat' (first|with_reducible assumption|refine And.intro ?_ ?_|intro hp));all_goals (first|(refine hQ _ ?_;clear hQ Q)|(refine hQ _ (fun h=>?_) (fun h=>?_) <;> clear hQ Q <;> (try simp only [vki,reduceCtorEq] at h))|(refine vq ?_;kernel_rfl)|omega|assumption|with_reducible rfl|skip)))
 refine zt (fun k:{ k:Nat // k≤L.length∧∀ j,j < k→((L.take j).any fun x=>decide (x.party=(L.getD j default).party))=false }=>kZ c L k.1) (fun k=>L.length - k.1) ⟨0,Nat.zero_le _,fun j h=>absurd h (Nat.not_lt_zero _)⟩ ?_ fun ⟨k,hk,hno⟩=>?_
 ·simp only [kZ]
  (refine Le.ok some [] ?_;constructor;all_goals (try simp only [vle,vkt,seval,zO,jy,qx,ql,wB,zi,xH,y8,qa,qb,mTk,qc,Qp,qg,qf,qm,m2L,Qd,kZ,kM,qp,qI,xA,zh,Qn,jK,List.length_map]))
  all_goals first|rfl|(simp;done)
 simp only at hk hno ⊢
 by_cases hkl:k < L.length
 ·have d1:decide ((k:Int) < (L.length:Int))=true:=decide_eq_true (by omega)
  have e9:IntKind.wrap .i64 ((k:Int)+1)=((k+1:Nat):Int):=by rw [wrap64 (by omega) (by omega)];rfl
  have k0:((k:Int)).toNat=k:=rfl
  have k1:(0:Int)≤(k:Int):=by omega
  have k2:(k:Int)≤(L.length:Int):=by omega
  have hg:=hAsk hkl
  have htk:(L.map zi).take k=(L.take k).map zi:=List.map_take.symm
  have htl:(L.take k).length≤100:=by rw [List.length_take];omega
  have htl2:(L.take k).length≤maxLen:=by omega
  have hh:=QdR hkl
  obtain ⟨T,hT⟩:∃ T,L.take k=T:=⟨_,rfl⟩
  rw [hT] at htk htl hh htl2
  obtain ⟨x,hx⟩:∃ x,L.getD k default=x:=⟨_,rfl⟩
  rw [hx] at hg hh
  simp only [kZ]
  cases q:T.any (fun y=>decide (y.party=x.party)) with
  |true =>
   rw [show Zq c L=([],4) by unfold Zq;rw [hE,hh q];rfl]
   repeat' (first|(apply nx;with_reducible constructor)|refine uq (by decide) ?_|((first|refine vx env fun Q hQ=>?_|refine vz fun Q hQ=>?_);simp only [vkt,seval,zO,jy,qx,ql,wB,zi,xH,y8,qa,qb,mTk,qc,Qp,qg,qf,qm,m2L,Qd,kZ,kM,qp,qI,xA,zh,Qn,jK,List.length_map,d1,k0,k1,k2,hkl,hg,hx,htk,htl,htl2,q];(try simp only [ite_and]);(repeat' (first|with_reducible assumption|refine And.intro ?_ ?_|intro hp));all_goals (first|(refine hQ _ ?_;clear hQ Q)|(refine hQ _ (fun h=>?_) (fun h=>?_) <;> clear hQ Q <;> (try simp only [vki,reduceCtorEq] at h))|(refine vq ?_;kernel_rfl)|omega|assumption|with_reducible rfl|skip)))
   (simp only [vrt,Tryz.results20,vkt,seval,zO,jy,qx,ql,wB,zi,xH,y8,qa,qb,mTk,qc,Qp,qg,qf,qm,m2L,Qd,kZ,kM,qp,qI,xA,zh,Qn,jK,List.length_map];refine Fin.val rfl ?_;(try simp only [AV.le,AV.leL]))
   all_goals first|rfl|(simp;done)
  |false =>
   repeat' (first|(apply nx;with_reducible constructor)|refine uq (by decide) ?_|((first|refine vx env fun Q hQ=>?_|refine vz fun Q hQ=>?_);simp only [vkt,seval,zO,jy,qx,ql,wB,zi,xH,y8,qa,qb,mTk,qc,Qp,qg,qf,qm,m2L,Qd,kZ,kM,qp,qI,xA,zh,Qn,jK,List.length_map,d1,k0,k1,k2,hkl,hg,hx,htk,htl,htl2,q,e9];(try simp only [ite_and]);(repeat' (first|with_reducible assumption|refine And.intro ?_ ?_|intro hp));all_goals (first|(refine hQ _ ?_;clear hQ Q)|(refine hQ _ (fun h=>?_) (fun h=>?_) <;> clear hQ Q <;> (try simp only [vki,reduceCtorEq] at h))|(refine vq ?_;kernel_rfl)|omega|assumption|with_reducible rfl|skip)))
   refine ⟨⟨k+1,hkl,fun j hj=>?_⟩,by show L.length - (k+1) < L.length - k;omega, ?_⟩
   ·rcases Nat.lt_or_eq_of_le (Nat.le_of_lt_succ hj) with h2|h2
    ·exact hno j h2
    ·rw [h2,hT,hx];exact q
   ·simp only [kZ]
    (refine Le.ok some [] ?_;constructor;all_goals (try simp only [vle,vkt,seval,zO,jy,qx,ql,wB,zi,xH,y8,qa,qb,mTk,qc,Qp,qg,qf,qm,m2L,Qd,kZ,kM,qp,qI,xA,zh,Qn,jK,List.length_map]))
    all_goals first|rfl|(simp;done)
 have d1:decide ((k:Int) < (L.length:Int))=false:=decide_eq_false (by omega)
 obtain rfl:k=L.length:=by omega
 have hE:X0 c L=0:=by rw [hE,Qfk hno];rfl
 rw [show Zq c L=((Xp (fun b=>tkB c.cabins c.secs L b c.sold) L.length L.length).getD [],0) by unfold Zq;rw [hE,if_neg (by decide)]]
 simp only [kZ]
 repeat' (first|(apply nx;with_reducible constructor)|refine uq (by decide) ?_|((first|refine vx env fun Q hQ=>?_|refine vz fun Q hQ=>?_);simp only [vkt,seval,zO,jy,qx,ql,wB,zi,xH,y8,qa,qb,mTk,qc,Qp,qg,qf,qm,m2L,Qd,kZ,kM,qp,qI,xA,zh,Qn,jK,List.length_map,d1,ec,b1,b2];(try simp only [ite_and]);(repeat' (first|with_reducible assumption|refine And.intro ?_ ?_|intro hp));all_goals (first|(refine hQ _ ?_;clear hQ Q)|(refine hQ _ (fun h=>?_) (fun h=>?_) <;> clear hQ Q <;> (try simp only [vki,reduceCtorEq] at h))|(refine vq ?_;kernel_rfl)|omega|assumption|with_reducible rfl|skip)))
 have hsv:SvOk c.cabins c.secs L c.sold:=⟨hval.car,h8,fun a ha=>(Qc5 (hask a ha)).1,h4⟩
 obtain ⟨F,hF⟩:∃ F:Int→Bool,(fun b=>tkB c.cabins c.secs L b c.sold)=F:=⟨_,rfl⟩
 rw [hF]
 refine zt (fun x:{ x:Nat × Es // x.1≤L.length∧MetOk F x.2∧x.2.length≤(L.length - x.1) * 256∧Xp F L.length L.length=Xp F L.length x.1 }=>kM c L x.1.1 x.1.2) (fun x=>x.1.1) ⟨(L.length,[]),Nat.le_refl _,QiV F,Nat.zero_le _,rfl⟩ ?_ fun ⟨(m,es),hm,hme,hel,hmo⟩=>?_
 ·simp only [kM]
  (refine Le.ok some [] ?_;constructor;all_goals (try simp only [vle,vkt,seval,zO,jy,qx,ql,wB,zi,xH,y8,qa,qb,mTk,qc,Qp,qg,qf,qm,m2L,Qd,kZ,kM,qp,qI,xA,zh,Qn,jK,List.length_map]))
  all_goals first|rfl|(simp;done)
 simp only at hm hme hel hmo ⊢
 clear env
 have env:=env1 m
 rw [hmo]
 cases m with
 |zero =>
  simp only [kM]
  have d1:decide ((0:Int) < ((0:Nat):Int))=false:=rfl
  rw [Xp]
  repeat' (first|(apply nx;with_reducible constructor)|refine uq (by decide) ?_|((first|refine vx env fun Q hQ=>?_|refine vz fun Q hQ=>?_);simp only [vkt,seval,zO,jy,qx,ql,wB,zi,xH,y8,qa,qb,mTk,qc,Qp,qg,qf,qm,m2L,Qd,kZ,kM,qp,qI,xA,zh,Qn,jK,List.length_map,d1];(try simp only [ite_and]);(repeat' (first|with_reducible assumption|refine And.intro ?_ ?_|intro hp));all_goals (first|(refine hQ _ ?_;clear hQ Q)|(refine hQ _ (fun h=>?_) (fun h=>?_) <;> clear hQ Q <;> (try simp only [vki,reduceCtorEq] at h))|(refine vq ?_;kernel_rfl)|omega|assumption|with_reducible rfl|skip)))
  (simp only [vrt,Tryz.results20,vkt,seval,zO,jy,qx,ql,wB,zi,xH,y8,qa,qb,mTk,qc,Qp,qg,qf,qm,m2L,Qd,kZ,kM,qp,qI,xA,zh,Qn,jK,List.length_map];refine Fin.val rfl ?_;(try simp only [AV.le,AV.leL]))
  all_goals first|rfl|(simp;done)
 |succ m =>
  have d1:decide ((0:Int) < ((m+1:Nat):Int))=true:=decide_eq_true (by omega)
  have w1:IntKind.wrap .i64 (((m+1:Nat):Int) - 1)=(m:Int):=by rw [wrap64 (by omega) (by omega)];omega
  have h4m:4 ^ (m+1)≤256:=Nat.le_trans (Nat.pow_le_pow_right (by decide) (show m+1≤4 by omega)) (by decide)
  have hel2:(L.length - (m+1)) * 256≤4 * 256:=Nat.mul_le_mul_right _ (by omega)
  have hok:LmOk c.cabins c.secs L c.sold [] 0 (m+1) es:=⟨hsv,by simp;omega,.inl (Nat.zero_le _),by simp,by rw [hF];exact hme,by omega⟩
  have hlen2:=R7 (f:=F) h4 (m+1) [] 0 es
  have hmet2:=Qa8 (f:=F) (n:=L.length) (m+1) [] 0 es hme
  have hval2:=Qda F L.length (m+1) [] 0 es
  obtain ⟨⟨o,e'⟩,ho⟩:∃ o,lsM F L.length (m+1) [] 0 es=o:=⟨_,rfl⟩
  rw [ho] at hlen2 hmet2 hval2
  simp only at hlen2 hmet2 hval2
  have hl3:e'.length≤(L.length - m) * 256:=by
   have:(L.length - m) * 256=(L.length - (m+1)) * 256+256:=by omega
   omega
  rw [Xp,← hval2]
  simp only [kM]
  cases o with
  |none =>
   repeat' (first|(apply nx;with_reducible constructor)|refine uq (by decide) ?_|((first|refine vx env fun Q hQ=>?_|refine vz fun Q hQ=>?_);simp only [vkt,seval,zO,jy,qx,ql,wB,zi,xH,y8,qa,qb,mTk,qc,Qp,qg,qf,qm,m2L,Qd,kZ,kM,qp,qI,xA,zh,Qn,jK,List.length_map,d1,w1,hF,hok,ho,Option.getD_none,Option.isSome_none];(try simp only [ite_and]);(repeat' (first|with_reducible assumption|refine And.intro ?_ ?_|intro hp));all_goals (first|(refine hQ _ ?_;clear hQ Q)|(refine hQ _ (fun h=>?_) (fun h=>?_) <;> clear hQ Q <;> (try simp only [vki,reduceCtorEq] at h))|(refine vq ?_;kernel_rfl)|omega|assumption|with_reducible rfl|skip)))
   refine ⟨⟨(m,e'),by show m≤L.length;omega,hmet2,hl3, ?_⟩,Nat.lt_succ_self m, ?_⟩
   ·rfl
   ·simp only [kM]
    (refine Le.ok some [] ?_;constructor;all_goals (try simp only [vle,vkt,seval,zO,jy,qx,ql,wB,zi,xH,y8,qa,qb,mTk,qc,Qp,qg,qf,qm,m2L,Qd,kZ,kM,qp,qI,xA,zh,Qn,jK,List.length_map]))
    all_goals first|rfl|(simp;done)
  |some t =>
   repeat' (first|(apply nx;with_reducible constructor)|refine uq (by decide) ?_|((first|refine vx env fun Q hQ=>?_|refine vz fun Q hQ=>?_);simp only [vkt,seval,zO,jy,qx,ql,wB,zi,xH,y8,qa,qb,mTk,qc,Qp,qg,qf,qm,m2L,Qd,kZ,kM,qp,qI,xA,zh,Qn,jK,List.length_map,d1,hF,hok,ho,Option.getD_some,Option.isSome_some];(try simp only [ite_and]);(repeat' (first|with_reducible assumption|refine And.intro ?_ ?_|intro hp));all_goals (first|(refine hQ _ ?_;clear hQ Q)|(refine hQ _ (fun h=>?_) (fun h=>?_) <;> clear hQ Q <;> (try simp only [vki,reduceCtorEq] at h))|(refine vq ?_;kernel_rfl)|omega|assumption|with_reducible rfl|skip)))
   (simp only [vrt,Tryz.results20,vkt,seval,zO,jy,qx,ql,wB,zi,xH,y8,qa,qb,mTk,qc,Qp,qg,qf,qm,m2L,Qd,kZ,kM,qp,qI,xA,zh,Qn,jK,List.length_map];refine Fin.val rfl ?_;(try simp only [AV.le,AV.leL]))
   all_goals first|rfl|(simp;done)
def jA:List AV→Prop × AV
 |[.agg [.sl c0,.v (.int .i64 c1),.sl c2],.sl l]=>(c0=(c0.map qA).map qo∧c2=(c2.map dTk).map eTk∧l=(l.map jZ).map zi∧((⟨(c0.map qA),c1,(c2.map dTk)⟩:Chart)).cabins.length≤maxLen∧(l.map jZ).length≤100000∧(∀ a ∈ (l.map jZ),a.sexes.length≤maxLen),.tup [qD (Zq ((⟨(c0.map qA),c1,(c2.map dTk)⟩:Chart)) (l.map jZ)).1,aI (Zq ((⟨(c0.map qA),c1,(c2.map dTk)⟩:Chart)) (l.map jZ)).2])
 |_=>(False,.junk)
theorem eMost {A:Frm→Prop}:qC A Tryz.prog 20 (za false jA):=zx fun vs hv h=>by
 clear hv
 unfold jA at h ⊢
 split at h
 ·rename_i c0 c1 c2 l;obtain ⟨q0,q1,q2,k0,k1,k2⟩:=h
  refine ⟨by first|trivial|(simp [AV.plain,AV.plainL,aI,aB,qD,qd,qw,qh,aTk,cTk];done)|(repeat' split) <;> simp [AV.plain,AV.plainL,aI,aB,qD,qd,qw,qh,aTk,cTk],fun h=>absurd h (by decide), ?_⟩
  have:=Qij ((⟨(c0.map qA),c1,(c2.map dTk)⟩:Chart)) (l.map jZ) k0 k1 k2
  simp only [wB,zb,qa,aI,qw,qb,← q0,← q1,← q2] at this
  first|exact this|(simp only [wB,zb,qa,aI,qw,qb,← q0,← q1,← q2];exact this)
 ·exact h.elim
end Go.Sym.B
namespace Go.Proofs
open Go Go.Shelf
def Tryz.lays156_ren:Go.Shelf.Ren:=⟨fun|156=>63|165=>82|166=>83|169=>84|240=>97|241=>98|276=>104|277=>105|n=>n,fun|31=>128|9=>9|3=>3|4=>4|0=>0|20=>20|72=>152|76=>156|70=>149|37=>150|75=>155|127=>168|164=>174|5=>5|80=>158|n=>n,fun|n=>n⟩
theorem Tryz.lays156:Go.Proofs.Lays.n156 Tryz.prog Tryz.lays156_ren:={
 mixed:=by kernel_rfl
 f156:=Tryz.func63.trans (congrArg some (by kernel_rfl))
 f165:=Tryz.func82.trans (congrArg some (by kernel_rfl))
 f166:=Tryz.func83.trans (congrArg some (by kernel_rfl))
 f169:=Tryz.func84.trans (congrArg some (by kernel_rfl))
 f240:=Tryz.func97.trans (congrArg some (by kernel_rfl))
 f241:=Tryz.func98.trans (congrArg some (by kernel_rfl))
 f276:=Tryz.func104.trans (congrArg some (by kernel_rfl))
 f277:=Tryz.func105.trans (congrArg some (by kernel_rfl))
 t0:=Tryz.underlying0
 a0:=Tryz.isAgg0
 z0:=Tryz.sizeOf0
 v0:=Tryz.zeroValue0
 t3:=Tryz.underlying3
 a3:=Tryz.isAgg3
 z3:=Tryz.sizeOf3
 v3:=Tryz.zeroValue3
 t4:=Tryz.underlying4
 a4:=Tryz.isAgg4
 z4:=Tryz.sizeOf4
 v4:=Tryz.zeroValue4
 t9:=Tryz.underlying9
 a9:=Tryz.isAgg9
 z9:=Tryz.sizeOf9
 v9:=Tryz.zeroValue9
 t20:=Tryz.underlying20
 a20:=Tryz.isAgg20
 z20:=Tryz.sizeOf20
 v20:=Tryz.zeroValue20
 t31:=Tryz.underlying128
 a31:=Tryz.isAgg128
 z31:=Tryz.sizeOf128
 v31:=Tryz.zeroValue128
 t37:=Tryz.underlying150
 a37:=Tryz.isAgg150
 z37:=Tryz.sizeOf150
 v37:=Tryz.zeroValue150
 t70:=Tryz.underlying149
 a70:=Tryz.isAgg149
 z70:=Tryz.sizeOf149
 v70:=Tryz.zeroValue149
 t72:=Tryz.underlying152
 a72:=Tryz.isAgg152
 z72:=Tryz.sizeOf152
 v72:=Tryz.zeroValue152
 t75:=Tryz.underlying155
 a75:=Tryz.isAgg155
 z75:=Tryz.sizeOf155
 v75:=Tryz.zeroValue155
 t76:=Tryz.underlying156
 a76:=Tryz.isAgg156
 z76:=Tryz.sizeOf156
 v76:=Tryz.zeroValue156
 t127:=Tryz.underlying168
 a127:=Tryz.isAgg168
 z127:=Tryz.sizeOf168
 v127:=Tryz.zeroValue168
 t164:=Tryz.underlying174
 a164:=Tryz.isAgg174
 z164:=Tryz.sizeOf174
 v164:=Tryz.zeroValue174 }
theorem Tryz.Builder_Extra_156:Builder.Extra Tryz.prog Tryz.lays156_ren:={
 sizeBuilder:=by kernel_rfl
 liesBuilder:=by kernel_rfl
 t5:=Tryz.underlying5
 a5:=Tryz.isAgg5
 z5:=Tryz.sizeOf5
 v5:=Tryz.zeroValue5
 infoByte:=by kernel_rfl
 cellsByte:=by kernel_rfl
 sizeByte:=by kernel_rfl
 neB5:=by decide }
open Go.RowKit in
theorem Tryz.strings_Join_none (a:Option Addr) (c:Nat) (sep:ByteArray) (w:World) :
  Calls Tryz.prog 63 #[.slice a 0 c,.string sep] w fun e w'=>e=.returned (.string ⟨#[]⟩)∧w'=w:=Any.strings_Join_none Tryz.lays156 Tryz.Builder_Extra_156 a c sep w
open Go.RowKit in
theorem Tryz.strings_Join (bk o c:Nat) (xs:List ByteArray) (sep:ByteArray) (w:World) (hcells:∀ (j:Nat) x,xs[j]?=some x→w.cell? ⟨bk,o+j,none⟩=some (.string x)) (hbk:bk < w.heap.size) (hN:xs.length≤140737488355328) (hcap:xs.length≤c) (hlen:(Lib.join (xs.map (·.data.toList)) sep.data.toList).length≤140737488355328) :
  Calls Tryz.prog 63 #[.slice (some ⟨bk,o,none⟩) xs.length c,.string sep] w fun e w'=>e=.returned (.string ⟨(Lib.join (xs.map (·.data.toList)) sep.data.toList).toArray⟩)∧Below w.heap.size w w':=Any.strings_Join Tryz.lays156 Tryz.Builder_Extra_156 bk o c xs sep w hcells hbk hN hcap hlen
def Tryz.lays171_ren:Go.Shelf.Ren:=⟨fun|171=>61|243=>81|246=>96|283=>100|284=>101|285=>102|286=>103|129=>107|317=>106|318=>108|319=>109|320=>110|337=>111|338=>112|n=>n,fun|3=>3|9=>9|2=>2|4=>4|171=>170|0=>0|53=>163|37=>150|5=>5|173=>172|212=>179|51=>161|20=>20|213=>180|46=>76|232=>181|233=>182|n=>n,fun|17=>0|18=>2|19=>3|n=>n⟩
theorem Tryz.lays171:Go.Proofs.Lays.n171 Tryz.prog Tryz.lays171_ren:={
 mixed:=by kernel_rfl
 f129:=Tryz.func107.trans (congrArg some (by kernel_rfl))
 f171:=Tryz.func61.trans (congrArg some (by kernel_rfl))
 f243:=Tryz.func81.trans (congrArg some (by kernel_rfl))
 f246:=Tryz.func96.trans (congrArg some (by kernel_rfl))
 f283:=Tryz.func100.trans (congrArg some (by kernel_rfl))
 f284:=Tryz.func101.trans (congrArg some (by kernel_rfl))
 f285:=Tryz.func102.trans (congrArg some (by kernel_rfl))
 f286:=Tryz.func103.trans (congrArg some (by kernel_rfl))
 f317:=Tryz.func106.trans (congrArg some (by kernel_rfl))
 f318:=Tryz.func108.trans (congrArg some (by kernel_rfl))
 f319:=Tryz.func109.trans (congrArg some (by kernel_rfl))
 f320:=Tryz.func110.trans (congrArg some (by kernel_rfl))
 f337:=Tryz.func111.trans (congrArg some (by kernel_rfl))
 f338:=Tryz.func112.trans (congrArg some (by kernel_rfl))
 t0:=Tryz.underlying0
 a0:=Tryz.isAgg0
 z0:=Tryz.sizeOf0
 v0:=Tryz.zeroValue0
 t2:=Tryz.underlying2
 a2:=Tryz.isAgg2
 z2:=Tryz.sizeOf2
 v2:=Tryz.zeroValue2
 t3:=Tryz.underlying3
 a3:=Tryz.isAgg3
 z3:=Tryz.sizeOf3
 v3:=Tryz.zeroValue3
 t4:=Tryz.underlying4
 a4:=Tryz.isAgg4
 z4:=Tryz.sizeOf4
 v4:=Tryz.zeroValue4
 t5:=Tryz.underlying5
 a5:=Tryz.isAgg5
 z5:=Tryz.sizeOf5
 v5:=Tryz.zeroValue5
 t9:=Tryz.underlying9
 a9:=Tryz.isAgg9
 z9:=Tryz.sizeOf9
 v9:=Tryz.zeroValue9
 t20:=Tryz.underlying20
 a20:=Tryz.isAgg20
 z20:=Tryz.sizeOf20
 v20:=Tryz.zeroValue20
 t37:=Tryz.underlying150
 a37:=Tryz.isAgg150
 z37:=Tryz.sizeOf150
 v37:=Tryz.zeroValue150
 t46:=Tryz.underlying76
 a46:=Tryz.isAgg76
 z46:=Tryz.sizeOf76
 v46:=Tryz.zeroValue76
 t51:=Tryz.underlying161
 a51:=Tryz.isAgg161
 z51:=Tryz.sizeOf161
 v51:=Tryz.zeroValue161
 t53:=Tryz.underlying163
 a53:=Tryz.isAgg163
 z53:=Tryz.sizeOf163
 v53:=Tryz.zeroValue163
 t171:=Tryz.underlying170
 a171:=Tryz.isAgg170
 z171:=Tryz.sizeOf170
 v171:=Tryz.zeroValue170
 t173:=Tryz.underlying172
 a173:=Tryz.isAgg172
 z173:=Tryz.sizeOf172
 v173:=Tryz.zeroValue172
 t212:=Tryz.underlying179
 a212:=Tryz.isAgg179
 z212:=Tryz.sizeOf179
 v212:=Tryz.zeroValue179
 t213:=Tryz.underlying180
 a213:=Tryz.isAgg180
 z213:=Tryz.sizeOf180
 t232:=Tryz.underlying181
 a232:=Tryz.isAgg181
 z232:=Tryz.sizeOf181
 v232:=Tryz.zeroValue181
 t233:=Tryz.underlying182
 a233:=Tryz.isAgg182
 z233:=Tryz.sizeOf182
 v233:=Tryz.zeroValue182
 g17:=by kernel_rfl
 g18:=by kernel_rfl
 g19:=by kernel_rfl }
open Go.RowKit Go.Sort Go.Lib in
theorem Tryz.strconv_Itoa_small (i:Nat) (hi:i < 100) (w:World) :
  Calls Tryz.prog 61 #[.int .i64 i] w fun e w'=>e=.returned (.string ⟨(Lib.decDigits i).toArray⟩)∧w'=w:=Any.strconv_Itoa_small Tryz.lays171 i hi w
end Go.Proofs
namespace Go.Sym.B
open Go Go.Sym Go.Proofs Go.Sym.C Go.RowKit
def aS (s:List UInt8):AV:=.v (.string ⟨⟨s⟩⟩)
def jC (l:List (List UInt8)):AV:=.sl (l.map yo)
def kg:List DV→List UInt8
 |[.v (.string ⟨⟨s⟩⟩)]=>s
 |_=>[]
theorem mStr (l:List (List UInt8)):(l.map yo).map kg=l:=by rw [List.map_map];exact (List.map_congr_left fun _ _=>rfl).trans (List.map_id _)
theorem ZR (l:List (List UInt8)):wJ 1 (l.map yo)=True:=vO (f:=yo) (k:=1) (fun _=>rfl) l
def zV (n:Int):List UInt8:=if n < 10 then [UInt8.ofNat (48+n.toNat)] else [UInt8.ofNat (48+n.toNat / 10),UInt8.ofNat (48+n.toNat % 10)]
theorem kU (n:Int):(zV n).length≤2:=by unfold zV;split <;> simp
theorem Qip {n:Nat} (h:n < 100):Lib.decDigits n=zV n:=by
 unfold zV Lib.decDigits
 by_cases h1:n < 10
 ·rw [dif_pos h1,if_pos (by omega)];rfl
 ·rw [dif_neg h1,if_neg (by omega)]
  unfold Lib.decDigits
  rw [dif_pos (by omega)]
  rfl
theorem Qiy (n:Int) (h0:0≤n) (h1:n < 100):FnV Tryz.prog 61 [aI n] (aS (zV n)):=Fn.of_calls (fun vs w=>by kernel_rfl) rfl fun w ok ρ y vs _ hs ha=>by
 obtain ⟨m,rfl⟩:∃ m:Nat,n=m:=⟨n.toNat,by omega⟩
 obtain ⟨v,rfl⟩:∃ v,vs=#[v]:=by
  match vs,hs with
  |⟨[v]⟩,_=>exact ⟨v,rfl⟩
 have h2:=ha 0 _ rfl
 have h2:ARel w ok ρ y (.v (.int .i64 m)) v:=h2
 cases h2 with
 |v _ =>
  refine Qr (Tryz.strconv_Itoa_small m (by omega) w) fun e w' ⟨he,hw⟩=>⟨?_,by rw [hw];exact Below.refl _ _⟩
  rw [he,← Qip (by omega)]
theorem Qhv (l:List (List UInt8)) (sep:List UInt8) (h1:l.length≤100000) (h2:(Lib.join l sep).length≤140737488355328):FnV Tryz.prog 63 [jC l,aS sep] (aS (Lib.join l sep)):=Fn.of_calls (fun vs w=>by kernel_rfl) rfl fun w ok ρ y vs _ hs ha=>by
 obtain ⟨v,u,rfl⟩:∃ v u,vs=#[v,u]:=by
  match vs,hs with
  |⟨[v,u]⟩,_=>exact ⟨v,u,rfl⟩
 have h3:ARel w ok ρ y (aS sep) u:=ha 1 _ rfl
 have h4:=Qiv (show ARel w ok ρ y (.sl (l.map yo)) v from ha 0 _ rfl)
 unfold aS at h3
 cases h3 with
 |v _ =>
  rcases h4 with ⟨rfl,a,c,rfl⟩|⟨b,o,c,rfl,hp,hc,hm,hb,hcell⟩
  ·exact Qr (Tryz.strings_Join_none a c ⟨⟨sep⟩⟩ w) fun e w' ⟨he,hw⟩=>⟨he,by rw [hw];exact Below.refl _ _⟩
  ·have e1:(l.map fun s=>(⟨⟨s⟩⟩:ByteArray)).map (·.data.toList)=l:=by rw [List.map_map];exact (List.map_congr_left fun _ _=>rfl).trans (List.map_id _)
   have:=Tryz.strings_Join b o c (l.map fun s=>(⟨⟨s⟩⟩:ByteArray)) ⟨⟨sep⟩⟩ w (fun j x hx=>by
    rw [List.getElem?_map] at hx
    obtain ⟨s,hs,rfl⟩:=Option.map_eq_some_iff.1 hx
    exact hcell j s hs) hb (by simp;omega) (by simp;omega) (by rw [e1];exact h2)
   rw [e1] at this
   simp only [List.length_map] at this
   exact this
def vE:List AV→Prop × AV
 |[.v (.int .i64 n)]=>(0≤n∧n < 100,aS (zV n))
 |_=>(False,.junk)
theorem Qi3 {A:Frm→Prop}:qC A Tryz.prog 61 (za true vE):=zx fun vs hv h=>by
 clear hv
 unfold vE at h ⊢
 split at h
 ·rename_i n;obtain ⟨k0,k1⟩:=h
  refine ⟨by first|trivial|(simp [AV.plain,AV.plainL,aI,aB,qD,qd,qw,qh,aTk,cTk,aS,jC];done)|(repeat' split) <;> simp [AV.plain,AV.plainL,aI,aB,qD,qd,qw,qh,aTk,cTk,aS,jC],fun _=>(by simp [AV.flat,AV.flatL,aI,aB,aS]), ?_⟩
  have:=Qiy n k0 k1
  simp only [aI] at this
  first|exact this|(simp only [aI];exact this)
 ·exact h.elim
def vF:List AV→Prop × AV
 |[.sl l,.v (.string ⟨⟨s⟩⟩)]=>(l=(l.map kg).map yo∧(l.map kg).length≤100000∧(Lib.join (l.map kg) s).length≤140737488355328,aS (Lib.join (l.map kg) s))
 |_=>(False,.junk)
theorem Qjk {A:Frm→Prop}:qC A Tryz.prog 63 (za true vF):=zx fun vs hv h=>by
 clear hv
 unfold vF at h ⊢
 split at h
 ·rename_i l s;obtain ⟨q0,k0,k1⟩:=h
  refine ⟨by first|trivial|(simp [AV.plain,AV.plainL,aI,aB,qD,qd,qw,qh,aTk,cTk,aS,jC];done)|(repeat' split) <;> simp [AV.plain,AV.plainL,aI,aB,qD,qd,qw,qh,aTk,cTk,aS,jC],fun _=>(by simp [AV.flat,AV.flatL,aI,aB,aS]), ?_⟩
  have:=Qhv (l.map kg) s k0 k1
  simp only [aS,jC,← q0] at this
  first|exact this|(simp only [aS,jC,← q0];exact this)
 ·exact h.elim
def Qe0:=vj @aI.eq_1 (@aB.eq_1)
theorem Qe1 (l:List (List UInt8)) (h1:l.length≤100000) (h2:(Lib.join l [32]).length≤140737488355328):FnV Tryz.prog 60 [jC l] (aS (Lib.join l [32])):=by
 have env:Env (fun _=>True) Tryz.prog tyB (tab [(63,za true vF)]):=qO ⟨Qjk,trivial⟩
 refine Fn.of (A:=fun _=>True) (n0:=0) (D:=noD) (Fn0 Tryz.func60 rfl (fun vs w=>by kernel_rfl) (by kernel_rfl)) (by simp) (by simp [AV.ids,jC]) (fun i o h=>by cases h) (fun _ _ _ _=>trivial) qG ?_
 repeat' (first|(apply nx;with_reducible constructor)|refine uq (by decide) ?_|((first|refine vx env fun Q hQ=>?_|refine vz fun Q hQ=>?_);simp only [vkt,seval,Qe0,aS,jC,vF,mStr];(try simp only [ite_and]);(repeat' (first|with_reducible assumption|refine And.intro ?_ ?_|intro hp));all_goals (first|(refine hQ _ ?_;clear hQ Q)|(refine hQ _ (fun h=>?_) (fun h=>?_) <;> clear hQ Q <;> (try simp only [vki,reduceCtorEq] at h))|(refine vq ?_;kernel_rfl)|omega|assumption|with_reducible rfl|skip)))
 (simp only [vrt,Tryz.results60,vkt,seval,Qe0,aS,jC,vF,mStr];refine Fin.val rfl ?_;(try simp only [AV.le,AV.leL]))
 all_goals first|rfl|(simp;done)
def yt:List AV→Prop × AV
 |[.sl l]=>(l=(l.map kg).map yo∧(l.map kg).length≤100000∧(Lib.join (l.map kg) [32]).length≤140737488355328,aS (Lib.join (l.map kg) [32]))
 |_=>(False,.junk)
theorem QjX {A:Frm→Prop}:qC A Tryz.prog 60 (za true yt):=zx fun vs hv h=>by
 clear hv
 unfold yt at h ⊢
 split at h
 ·rename_i l;obtain ⟨q0,k0,k1⟩:=h
  refine ⟨by first|trivial|(simp [AV.plain,AV.plainL,aI,aB,qD,qd,qw,qh,aTk,cTk,aS,jC];done)|(repeat' split) <;> simp [AV.plain,AV.plainL,aI,aB,qD,qd,qw,qh,aTk,cTk,aS,jC],fun _=>(by simp [AV.flat,AV.flatL,aI,aB,aS]), ?_⟩
  have:=Qe1 (l.map kg) k0 k1
  simp only [jC,← q0] at this
  first|exact this|(simp only [jC,← q0];exact this)
 ·exact h.elim
def Ku:=vj @ty9 @ti9.eq_1
def Qfy:=vj @aI.eq_1 (@aB.eq_1)
theorem QhW (a:Int) (s:List UInt8) (b:Int) (h0:0≤a) (h1:a < 100) (h2:0≤b) (h3:b < 100) (h4:s.length≤100):FnV Tryz.prog 62 [aI a,aS s,aI b] (aS (zV a++s++zV b)):=by
 have env:Env (fun _=>True) Tryz.prog tyB (tab [(61,za true vE)]):=qO ⟨Qi3,trivial⟩
 refine Fn.of (A:=fun _=>True) (n0:=0) (D:=noD) (Fn0 Tryz.func62 rfl (fun vs w=>by kernel_rfl) (by kernel_rfl)) (by simp) (by simp [AV.ids,aI,aS]) (fun i o h=>by cases h) (fun _ _ _ _=>trivial) qG ?_
 have l1:=kU a
 have l2:=kU b
 have e1:(zV a++s).length+(zV b).length≤9223372036854775807:=by rw [List.length_append];omega
 repeat' (first|(apply nx;with_reducible constructor)|refine uq (by decide) ?_|((first|refine vx env fun Q hQ=>?_|refine vz fun Q hQ=>?_);simp only [vkt,seval,Ku,Qfy,aS,vE];(try simp only [ite_and]);(repeat' (first|with_reducible assumption|refine And.intro ?_ ?_|intro hp));all_goals (first|(refine hQ _ ?_;clear hQ Q)|(refine hQ _ (fun h=>?_) (fun h=>?_) <;> clear hQ Q <;> (try simp only [vki,reduceCtorEq] at h))|(refine vq ?_;kernel_rfl)|omega|assumption|with_reducible rfl|skip)))
 (simp only [vrt,Tryz.results62,vkt,seval,Ku,Qfy,aS,vE];refine Fin.val rfl ?_;(try simp only [AV.le,AV.leL]))
 all_goals first|rfl|(simp;done)
def xD:List AV→Prop × AV
 |[.v (.int .i64 a),.v (.string ⟨⟨s⟩⟩),.v (.int .i64 b)]=>(0≤a∧a < 100∧0≤b∧b < 100∧s.length≤100,aS (zV a++s++zV b))
 |_=>(False,.junk)
theorem epair {A:Frm→Prop}:qC A Tryz.prog 62 (za true xD):=zx fun vs hv h=>by
 clear hv
 unfold xD at h ⊢
 split at h
 ·rename_i a s b;obtain ⟨k0,k1,k2,k3,k4⟩:=h
  refine ⟨by first|trivial|(simp [AV.plain,AV.plainL,aI,aB,qD,qd,qw,qh,aTk,cTk,aS,jC];done)|(repeat' split) <;> simp [AV.plain,AV.plainL,aI,aB,qD,qd,qw,qh,aTk,cTk,aS,jC],fun _=>(by simp [AV.flat,AV.flatL,aI,aB,aS]), ?_⟩
  have:=QhW a s b k0 k1 k2 k3 k4
  simp only [aI,aS] at this
  first|exact this|(simp only [aI,aS];exact this)
 ·exact h.elim
end Go.Sym.B
namespace Go.Sym.B
open Go Go.Sym Go.Proofs Go.Sym.C
def sexS (x:Int):List UInt8:=if x=2 then [109] else [119]
def Qgg (x:Cabin):List UInt8:=Lib.join [[99,97,98,105,110],zV x.beds,if x.door then [100] else [115]] [32]
def Qdk (n:Int):List UInt8:=Lib.join [[119,97,121],zV n] [32]
def tkS (t:Tk):List UInt8:=Lib.join ([[115,111,108,100],zV t.party,sexS t.sex,zV t.cab++[46]++zV t.bed,zV t.frm++[62]++zV t.to]++if t.dog then [[43]] else []) [32]
def JY (c:Chart) (k:Nat):List (List UInt8):=(c.cabins.take k).map Qgg
def WA (c:Chart) (k:Nat):List (List UInt8):=JY c c.cabins.length++[Qdk c.secs]++(c.sold.take k).map tkS
def Wp (c:Chart):List UInt8 × Int:=if zS c=0 then (Lib.join (WA c c.sold.length++[[99,97,114]]) [10]++[10],0) else ([],zS c)
theorem Qek (c:Chart) {k:Nat} (h:k < c.cabins.length):JY c (k+1)=JY c k++[Qgg (c.cabins.getD k default)]:=by
 unfold JY
 rw [List.take_add_one,List.getElem?_eq_getElem h,List.map_append]
 simp [List.getD_eq_getElem?_getD,h]
theorem Qew (c:Chart) {k:Nat} (h:k < c.sold.length):WA c (k+1)=WA c k++[tkS (c.sold.getD k default)]:=by
 unfold WA
 rw [List.take_add_one,List.getElem?_eq_getElem h,List.map_append]
 simp [List.getD_eq_getElem?_getD,h]
theorem L9 (c:Chart) {k:Nat} (h:k≤c.cabins.length):(JY c k).length=k:=by simp [JY];omega
theorem VO (c:Chart) {k:Nat} (h:k≤c.sold.length):(WA c k).length=c.cabins.length+1+k:=by simp [WA,JY];omega
theorem QgY (sep:List UInt8) (m:Nat):∀ l:List (List UInt8),(∀ x ∈ l,x.length≤m)→(Lib.joinTail sep l).length≤l.length * (m+sep.length)
 |[],_=>by simp [Lib.joinTail]
 |x :: l,h=>by
  have h1:=QgY sep m l fun y hy=>h y (.tail _ hy)
  have h2:=h x (.head _)
  have e:Lib.joinTail sep (x :: l)=sep++x++Lib.joinTail sep l:=by simp [Lib.joinTail]
  rw [e,List.length_append,List.length_append,List.length_cons,Nat.succ_mul]
  omega
theorem Ro {l:List (List UInt8)} {sep:List UInt8} {m:Nat} (h:∀ x ∈ l,x.length≤m):(Lib.join l sep).length≤l.length * (m+sep.length):=by
 match l,h with
 |[],_=>rw [Lib.join_nil];exact Nat.zero_le _
 |x :: l,h =>
  have h1:=QgY sep m l fun y hy=>h y (.tail _ hy)
  have h2:=h x (.head _)
  rw [Lib.join_cons,List.length_append,List.length_cons,Nat.succ_mul]
  omega
theorem La (x:Cabin):(Qgg x).length≤100:=by
 have:=kU x.beds
 refine Nat.le_trans (Ro (m:=5) fun y hy=>?_) (by simp)
 simp at hy
 rcases hy with rfl|rfl|rfl
 ·decide
 ·omega
 ·split <;> decide
theorem KU (n:Int):(Qdk n).length≤100:=by
 have:=kU n
 refine Nat.le_trans (Ro (m:=5) fun y hy=>?_) (by simp)
 simp at hy
 rcases hy with rfl|rfl
 ·decide
 ·omega
theorem Qcn (t:Tk):(tkS t).length≤100:=by
 have h1:=kU t.party
 have h2:=kU t.cab
 have h3:=kU t.bed
 have h4:=kU t.frm
 have h5:=kU t.to
 have h6:(sexS t.sex).length=1:=by unfold sexS;split <;> rfl
 unfold tkS
 refine Nat.le_trans (Ro (m:=5) fun y hy=>?_) ?_
 ·rw [List.mem_append] at hy
  rcases hy with hy|hy
  ·simp at hy
   rcases hy with rfl|rfl|rfl|rfl|rfl
   ·decide
   ·omega
   ·omega
   ·simp;omega
   ·simp;omega
  ·split at hy
   ·simp at hy;subst hy;decide
   ·cases hy
 ·rw [List.length_append]
  split <;> simp
theorem Qhp (c:Chart) (h1:c.cabins.length≤3) (h2:c.sold.length≤8):(Lib.join (WA c c.sold.length++[[99,97,114]]) [10]).length≤10000:=by
 refine Nat.le_trans (Ro (m:=100) fun y hy=>?_) ?_
 ·unfold WA JY at hy
  simp only [List.mem_append,List.mem_map,List.mem_singleton] at hy
  rcases hy with ((⟨x,_,rfl⟩|rfl)|⟨t,_,rfl⟩)|rfl
  ·exact La _
  ·exact KU _
  ·exact Qcn _
  ·decide
 ·rw [List.length_append,VO c (Nat.le_refl _)]
  simp
  omega
def wr1 (c:Chart) (k:Nat):St:={ t:=asg [(1,.ptr 0 0),(5,.row 1),(18,zb c.cabins),(19,aI c.cabins.length),(20,aI k)],h:=qj [(0,.cells (qb c)),(1,.row 9 1 ((JY c k).map yo))],n:=2 }
def wr2 (c:Chart) (k:Nat):St:={ t:=asg [(1,.ptr 0 0),(5,.row 1),(45,qw c.sold),(46,aI c.sold.length),(47,aI k)],h:=qj [(0,.cells (qb c)),(1,.row 9 1 ((WA c k).map yo))],n:=2 }
def ww:=vj @ty3 (vj @ty4 (vj @ty9 (vj @VD (vj @QV (vj @xg (vj @QU (vj @xB (vj @Zu (vj @VC (vj @ty128 (vj @ti3.eq_1 (vj @ti4.eq_1 (vj @ti9.eq_1 (vj @JR.eq_1 (vj @Qh.eq_1 (vj @y9.eq_1 (vj @Qi.eq_1 (vj @vJ.eq_1 (vj @QP.eq_1 (vj @J4.eq_1 @QcW.eq_1))))))))))))))))))))
def yZ:=vj @aI.eq_1 (vj @aB.eq_1 (vj @qD.eq_1 (@wz.eq_1)))
end Go.Sym.B
