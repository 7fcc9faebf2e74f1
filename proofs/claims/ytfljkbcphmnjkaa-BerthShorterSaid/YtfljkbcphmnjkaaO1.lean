/- Walks and what they compute, joined: part 1. -/
import Derived.Test.YtfljkbcphmnjkaaB3
set_option linter.all false
namespace Go.Sym.B
open Go Go.Sym Go.Proofs Go.Sym.C
theorem _root_.Go.Sym.vj {a b:Prop} (x:a) (y:b):a∧b:=⟨x,y⟩
def _root_.Go.Sym.uq:=@blockK_miss
def _root_.Go.Sym.ux:=@blockK_hit
def _root_.Go.Sym.uz:=@blockK_n
def _root_.Go.Sym.uj:=@blockK_r
def _root_.Go.Sym.uk:=@thenK_x
def _root_.Go.Sym.uw:=@thenK_r
def _root_.Go.Sym.uv:=@thenK_n
def _root_.Go.Sym.vq:=@drawB_of
def _root_.Go.Sym.vx:=@sym_reg
def _root_.Go.Sym.vz:=@sym_cz
end Go.Sym.B
namespace Go.Sym.B
open Go Go.Sym Go.Proofs Go.Sym.C
end Go.Sym.B
namespace Go.Sym.B
open Go Go.Sym Go.Proofs Go.Sym.C
def slTk (a:Ask) (l:List Bunk) (k:Nat):List Tk:=(List.range k).map fun i=>tkOf a i (l.getD i default)
theorem tks_succ (a:Ask) (l:List Bunk) (k:Nat):slTk a l (k+1)=slTk a l k++[tkOf a k (l.getD k default)]:=by
  unfold slTk
  rw [List.range_succ,List.map_append];rfl
end Go.Sym.B
namespace Go.Sym.B
open Go Go.Sym Go.Proofs Go.Sym.C
end Go.Sym.B
namespace Go.Sym.B
open Go Go.Sym Go.Proofs Go.Sym.C
theorem beside_zero {t:Tk} {l:List Tk}:besideE t l=0 ↔ ∀ x ∈ l,twiceB t x=false∧togB x t=true:=by
  unfold besideE
  constructor
  · intro h x hx
    split at h
    · exact absurd h (by decide)
    rename_i h1
    split at h
    · exact absurd h (by decide)
    rename_i h2
    refine ⟨?_, ?_⟩
    · cases hq:twiceB t x with
      |false=>rfl
      |true=>exact absurd (List.any_eq_true.2 ⟨x,hx,hq⟩) h1
    · cases hq:togB x t with
      |true=>rfl
      |false=>exact absurd (List.any_eq_true.2 ⟨x,hx,by rw [hq];rfl⟩) h2
  · intro h
    rw [if_neg,if_neg]
    · rw [List.any_eq_true]
      rintro ⟨x,hx,h1⟩
      rw [(h x hx).2] at h1
      exact absurd h1 (by decide)
    · rw [List.any_eq_true]
      rintro ⟨x,hx,h1⟩
      rw [(h x hx).1] at h1
      exact absurd h1 (by decide)
structure RmInv (C:Chart) (a:Ask) (i:Nat) (c:Chart):Prop where
  chk:checkE c=0
  cabs:c.cabins=C.cabins
  secs:c.secs=C.secs
  len:c.sold.length=C.sold.length+i
  lt:∀ t ∈ c.sold,t.party < 60+(i:Int)
end Go.Sym.B
namespace Go.Sym.B
open Go Go.Sym Go.Proofs Go.Sym.C
def alL (bs:List Bunk):Nat→List (List Bunk)
  |0=>[[]]
  |m+1=>bs.flatMap fun b=>(alL bs m).map (b :: ·)
theorem alL_one {bs:List Bunk}:∀ {m},∀ p ∈ alL bs m,p.length=m
  |0,p,hp=>by rw [List.mem_singleton.1 hp];rfl
  |m+1,p,hp=>by
    obtain ⟨b,_,hp⟩:=List.mem_flatMap.1 hp
    obtain ⟨q,hq,rfl⟩:=List.mem_map.1 hp
    rw [List.length_cons,alL_one q hq]
end Go.Sym.B
namespace Go.Sym.B
open Go Go.Sym Go.Proofs Go.Sym.C
end Go.Sym.B
namespace Go.Sym.B
open Go Go.Sym Go.Proofs Go.Sym.C
end Go.Sym.B
namespace Go.Sym.B
open Go Go.Sym Go.Proofs Go.Sym.C
def stB (a b:Tk) (s:Int):Bool:=decide (a.cab=b.cab) && !decide (s < a.frm) && !decide (a.to≤s) && !decide (s < b.frm) && !decide (b.to≤s) && (decide (a.bed=b.bed) || (!decide (a.party=b.party) && (!decide (a.sex=b.sex) || a.dog || b.dog)))
def prB (c:Chart) (a b:Tk):Bool:=(List.range c.secs.toNat).any fun (s:Nat)=>stB a b s
def rwB (c:Chart) (i:Nat):Bool:=(List.range i).any fun k=>prB c (c.sold.getD i default) (c.sold.getD k default)
def strB (c:Chart):Bool:=(List.range c.sold.length).any (rwB c)
def isFreeB (c:Chart) (a:Ask) (l:List Bunk):Bool:=nearB c.cabins l && !strB ⟨c.cabins,c.secs,c.sold++slTk a l l.length⟩
end Go.Sym.B
namespace Go.Sym.B
open Go Go.Sym Go.Proofs Go.Sym.C
def stpB (cs:List Cabin) (a:Ask):List Tk→List Bunk→List Bunk→Bool
  |_,_,[]=>true
  |sold,begun,b :: r=>goB cs a sold begun b && stpB cs a (sold++[tkOf a begun.length b]) (begun++[b]) r
theorem grow_stp (cs:List Cabin) (a:Ask):∀ (m:Nat) (sold:List Tk) (begun:List Bunk),(growP cs a m sold begun).map (·.1)=((alL (bunksL cs) m).filter (stpB cs a sold begun)).map (begun++·)
  |0,sold,begun=>by
    show [begun]=(([[]]:List (List Bunk)).filter (stpB cs a sold begun)).map (begun++·)
    rw [List.filter_cons_of_pos (by rfl)]
    simp
  |m+1,sold,begun=>by
    rw [growP_succ,alL,List.map_flatMap,List.filter_flatMap,List.map_flatMap]
    refine congrArg (List.flatMap · (bunksL cs)) (funext fun b=>?_)
    unfold gbL
    cases h:goB cs a sold begun b with
    |true =>
      rw [if_pos rfl,grow_stp cs a m,List.filter_map,List.map_map]
      have e1:(stpB cs a sold begun ∘ fun x=>b :: x)=stpB cs a (sold++[tkOf a begun.length b]) (begun++[b]):=funext fun r=>by
        show stpB cs a sold begun (b :: r)=_
        rw [stpB,h,Bool.true_and]
      rw [e1]
      refine congrArg (List.map · _) (funext fun r=>?_)
      show (begun++[b])++r=begun++b :: r
      simp
    |false =>
      rw [if_neg (by decide),List.filter_map]
      have e1:(stpB cs a sold begun ∘ fun x=>b :: x)=fun _=>false:=funext fun r=>by
        show stpB cs a sold begun (b :: r)=_
        rw [stpB,h,Bool.false_and]
      rw [e1]
      simp
def PWr:List Tk→List Tk→Prop
  |_,[]=>True
  |s,t :: ts=>besideE t s=0∧PWr (s++[t]) ts
theorem pwr_app:∀ (s l r:List Tk),PWr s (l++r) ↔ PWr s l∧PWr (s++l) r
  |s,[],r=>by simp [PWr]
  |s,t :: l,r=>by
    show besideE t s=0∧PWr (s++[t]) (l++r) ↔ (besideE t s=0∧PWr (s++[t]) l)∧PWr (s++t :: l) r
    rw [pwr_app (s++[t]) l r,and_assoc]
    simp
theorem pwr_iff:∀ (s l:List Tk),PWr s l ↔ ∀ i,i < l.length→besideE (l.getD i default) (s++l.take i)=0
  |s,[]=>by simp [PWr]
  |s,t :: l=>by
    show besideE t s=0∧PWr (s++[t]) l ↔ _
    rw [pwr_iff (s++[t]) l]
    constructor
    · rintro ⟨h1,h2⟩ i hi
      cases i with
      |zero=>simpa using h1
      |succ i =>
        have:=h2 i (by simpa using hi)
        simpa using this
    · intro h
      refine ⟨by simpa using h 0 (by simp),fun i hi=>?_⟩
      have:=h (i+1) (by simpa using hi)
      simpa using this
def tkR (a:Ask):Nat→List Bunk→List Tk
  |_,[]=>[]
  |n,b :: r=>tkOf a n b :: tkR a (n+1) r
theorem tkR_app (a:Ask):∀ (n:Nat) (l r:List Bunk),tkR a n (l++r)=tkR a n l++tkR a (n+l.length) r
  |n,[],r=>by simp [tkR]
  |n,b :: l,r=>by
    show tkOf a n b :: tkR a (n+1) (l++r)=_
    rw [tkR_app a (n+1) l r]
    simp [tkR,Nat.add_assoc,Nat.add_comm 1]
theorem tkR_sl (a:Ask) (l:List Bunk):∀ k,k≤l.length→slTk a l k=tkR a 0 (l.take k)
  |0,_=>by simp [slTk,tkR]
  |k+1,h=>by
    rw [tks_succ,tkR_sl a l k (by omega),List.take_succ_eq_append_getElem h,tkR_app,List.length_take]
    have hk:k < l.length:=h
    simp [tkR,List.getD_eq_getElem?_getD,hk,Nat.min_eq_left (show k≤l.length by omega)]
theorem mem_tkR {a:Ask} {t:Tk}:∀ {n:Nat} {l:List Bunk},t ∈ tkR a n l→∃ i b,i < l.length∧b ∈ l∧t=tkOf a (n+i) b
  |n,[],h=>by simp [tkR] at h
  |n,b :: l,h=>by
    rcases List.mem_cons.1 h with rfl|h
    · exact ⟨0,b,by simp,by simp,rfl⟩
    · obtain ⟨i,b',h1,h2,h3⟩:=mem_tkR h
      exact ⟨i+1,b',by simpa using h1,List.mem_cons_of_mem _ h2,by rw [h3,show n+1+i=n+(i+1) by omega]⟩
theorem fmin_le (l:List Bunk):∀ m:Int,l.foldl (fun m b=>min m b.cab) m≤m:=by
  induction l with
  |nil=>intro m;exact Int.le_refl _
  |cons b l ih=>intro m;have:=ih (min m b.cab);rw [List.foldl_cons];omega
theorem fmax_le (l:List Bunk):∀ m:Int,m≤l.foldl (fun m b=>max m b.cab) m:=by
  induction l with
  |nil=>intro m;exact Int.le_refl _
  |cons b l ih=>intro m;have:=ih (max m b.cab);rw [List.foldl_cons];omega
theorem near_pre {cs:List Cabin} {l r:List Bunk} (h:nearB cs (l++r)=true) (hl:l ≠ []):nearB cs l=true:=by
  have h0:(l++r).getD 0 default=l.getD 0 default:=by
    cases l with
    |nil=>exact absurd rfl hl
    |cons b l=>rfl
  unfold nearB at h ⊢
  simp only [h0,List.foldl_append] at h ⊢
  have g1:=fmin_le r (l.foldl (fun m b=>min m b.cab) (l.getD 0 default).cab)
  have g2:=fmax_le r (l.foldl (fun m b=>max m b.cab) (l.getD 0 default).cab)
  have g3:=fmin_le l (l.getD 0 default).cab
  have g4:=fmax_le l (l.getD 0 default).cab
  generalize l.foldl (fun m b=>min m b.cab) (l.getD 0 default).cab=lo at *
  generalize l.foldl (fun m b=>max m b.cab) (l.getD 0 default).cab=hi at *
  generalize r.foldl (fun m b=>min m b.cab) lo=lo2 at *
  generalize r.foldl (fun m b=>max m b.cab) hi=hi2 at *
  rw [Bool.or_eq_true,Bool.and_eq_true,decide_eq_true_eq,decide_eq_true_eq] at h ⊢
  rcases h with h|⟨h,hd⟩
  · exact .inl (by omega)
  · by_cases he:lo=hi
    · exact .inl he
    · have:lo=lo2:=by omega
      exact .inr ⟨by omega,by rw [this];exact hd⟩
theorem stp_iff {cs:List Cabin} {a:Ask} (hw:a.frm < a.to):∀ (r:List Bunk) (sold:List Tk) (begun:List Bunk),(∀ b ∈ begun,∃ x ∈ sold,x.cab=b.cab∧x.bed=b.bed∧x.frm=a.frm∧x.to=a.to) →
    (stpB cs a sold begun r=true ↔ PWr sold (tkR a begun.length r)∧(r ≠ []→nearB cs (begun++r)=true))
  |[],sold,begun,_=>by simp [stpB,tkR,PWr]
  |b :: r,sold,begun,hb=>by
    have hb':∀ b' ∈ begun++[b],∃ x ∈ sold++[tkOf a begun.length b],x.cab=b'.cab∧x.bed=b'.bed∧x.frm=a.frm∧x.to=a.to:=fun b' h=>by
      rcases List.mem_append.1 h with h|h
      · obtain ⟨x,h1,h2⟩:=hb b' h
        exact ⟨x,List.mem_append.2 (.inl h1),h2⟩
      · rw [List.mem_singleton.1 h]
        exact ⟨_,List.mem_append.2 (.inr (List.mem_singleton.2 rfl)),rfl,rfl,rfl,rfl⟩
    have ih:=stp_iff (cs:=cs) hw r (sold++[tkOf a begun.length b]) (begun++[b]) hb'
    rw [stpB,Bool.and_eq_true,ih]
    have el:(begun++[b]).length=begun.length+1:=by simp
    rw [el]
    show _ ↔ (besideE (tkOf a begun.length b) sold=0∧PWr (sold++[tkOf a begun.length b]) (tkR a (begun.length+1) r))∧_
    have ea:begun++[b]++r=begun++b :: r:=by simp
    rw [ea]
    unfold goB
    rw [Bool.and_eq_true,Bool.and_eq_true,decide_eq_true_eq]
    constructor
    · rintro ⟨⟨⟨_,h2⟩,h3⟩,h4,h5⟩
      refine ⟨⟨h3,h4⟩,fun _=>?_⟩
      cases r with
      |nil=>exact h2
      |cons b2 r=>exact h5 (by simp)
    · rintro ⟨⟨h3,h4⟩,h5⟩
      have h5:=h5 (by simp)
      refine ⟨⟨⟨?_, ?_⟩,h3⟩,h4,fun _=>h5⟩
      · cases hc:begun.contains b with
        |false=>rfl
        |true =>
          obtain ⟨x,hx,g1,g2,g3,g4⟩:=hb b (by simpa using hc)
          have:=(beside_zero.1 h3 x hx).1
          unfold twiceB meetB tkOf at this
          simp [g1,g2,g3,g4,hw] at this
      · refine near_pre (r:=r) ?_ (by simp)
        rw [ea];exact h5
theorem st_no {secs:Int} {t x:Tk} (ht:0≤t.frm∧t.frm < t.to∧t.to≤secs) (hx:0≤x.frm∧x.frm < x.to∧x.to≤secs):(∀ s:Nat,s < secs.toNat→stB t x s=false) ↔ twiceB t x=false∧togB x t=true:=by
  constructor
  · intro h
    cases hm:meetB x t with
    |false =>
      unfold twiceB togB
      rw [hm];simp
    |true =>
      have hm2:=hm
      unfold meetB at hm2
      rw [Bool.and_eq_true,decide_eq_true_eq,decide_eq_true_eq] at hm2
      obtain ⟨s,hs⟩:∃ s:Nat,(s:Int)=max t.frm x.frm:=⟨(max t.frm x.frm).toNat,by omega⟩
      have:=h s (by omega)
      unfold stB at this
      rw [decide_eq_false (show ¬ (s:Int) < t.frm by omega),decide_eq_false (show ¬ t.to≤(s:Int) by omega),decide_eq_false (show ¬ (s:Int) < x.frm by omega),decide_eq_false (show ¬ x.to≤(s:Int) by omega)] at this
      have e1:decide (x.cab=t.cab)=decide (t.cab=x.cab):=by rw [decide_eq_decide];exact eq_comm
      have e2:decide (x.bed=t.bed)=decide (t.bed=x.bed):=by rw [decide_eq_decide];exact eq_comm
      have e3:decide (x.party=t.party)=decide (t.party=x.party):=by rw [decide_eq_decide];exact eq_comm
      have e4:decide (x.sex=t.sex)=decide (t.sex=x.sex):=by rw [decide_eq_decide];exact eq_comm
      have e5:decide (x.cab ≠ t.cab)=!decide (t.cab=x.cab):=by rw [decide_not,e1]
      unfold twiceB togB
      rw [hm,e5,e1,e2,e3,e4]
      revert this
      generalize decide (t.cab=x.cab)=A
      generalize decide (t.bed=x.bed)=B
      generalize decide (t.party=x.party)=C
      generalize decide (t.sex=x.sex)=D
      generalize x.dog=E
      generalize t.dog=F
      revert A B C D E F
      decide
  · rintro ⟨h1,h2⟩ s _
    have e1:decide (x.cab=t.cab)=decide (t.cab=x.cab):=by rw [decide_eq_decide];exact eq_comm
    have e2:decide (x.bed=t.bed)=decide (t.bed=x.bed):=by rw [decide_eq_decide];exact eq_comm
    have e3:decide (x.party=t.party)=decide (t.party=x.party):=by rw [decide_eq_decide];exact eq_comm
    have e4:decide (x.sex=t.sex)=decide (t.sex=x.sex):=by rw [decide_eq_decide];exact eq_comm
    have e5:decide (x.cab ≠ t.cab)=!decide (t.cab=x.cab):=by rw [decide_not,e1]
    cases hm:meetB x t with
    |false =>
      unfold stB
      by_cases g1:(s:Int) < t.frm
      · simp [g1]
      by_cases g2:t.to≤(s:Int)
      · simp [g2]
      by_cases g3:(s:Int) < x.frm
      · simp [g3]
      by_cases g4:x.to≤(s:Int)
      · simp [g4]
      exfalso
      unfold meetB at hm
      rw [decide_eq_true (show x.frm < t.to by omega),decide_eq_true (show t.frm < x.to by omega)] at hm
      exact absurd hm (by decide)
    |true =>
      unfold twiceB at h1
      unfold togB at h2
      rw [hm,e1,e2] at h1
      rw [hm,e5,e3,e4] at h2
      unfold stB
      generalize decide ((s:Int) < t.frm)=G
      generalize decide (t.to≤(s:Int))=H
      generalize decide ((s:Int) < x.frm)=I
      generalize decide (x.to≤(s:Int))=J
      revert h1 h2
      generalize decide (t.cab=x.cab)=A
      generalize decide (t.bed=x.bed)=B
      generalize decide (t.party=x.party)=C
      generalize decide (t.sex=x.sex)=D
      generalize x.dog=E
      generalize t.dog=F
      revert A B C D E F G H I J
      decide
theorem str_iff {cs:List Cabin} {secs:Int} {l:List Tk} (h:∀ t ∈ l,0≤t.frm∧t.frm < t.to∧t.to≤secs):strB ⟨cs,secs,l⟩=false ↔ PWr [] l:=by
  rw [pwr_iff]
  unfold strB
  rw [List.any_eq_false]
  have hg:∀ {i:Nat},i < l.length→l.getD i default ∈ l:=fun hi=>gMem hi
  constructor
  · intro hs i hi
    rw [List.nil_append,beside_zero]
    intro x hx
    obtain ⟨k,hk,rfl⟩:=List.mem_iff_getElem.1 hx
    rw [List.length_take] at hk
    have h1:=hs i (List.mem_range.2 hi)
    unfold rwB at h1
    rw [Bool.not_eq_true,List.any_eq_false] at h1
    have h2:=h1 k (List.mem_range.2 (by omega))
    have ek:l.getD k default=(l.take i)[k]'(by rw [List.length_take];omega):=by simp [List.getD_eq_getElem?_getD,show k < l.length by omega]
    unfold prB at h2
    rw [Bool.not_eq_true,List.any_eq_false] at h2
    simp only at h2
    rw [← ek]
    refine (st_no (h _ (hg hi)) (h _ (hg (show k < l.length by omega)))).1 fun s hs=>?_
    have:=h2 s (List.mem_range.2 hs)
    simpa using this
  · intro hp i hi
    have hi:=List.mem_range.1 hi
    unfold rwB
    rw [Bool.not_eq_true,List.any_eq_false]
    intro k hk
    have hk:=List.mem_range.1 hk
    unfold prB
    rw [Bool.not_eq_true,List.any_eq_false]
    intro s hs
    have hi':i < l.length:=hi
    have h1:=hp i hi'
    rw [List.nil_append,beside_zero] at h1
    have hkl:k < l.length:=by omega
    have h2:=h1 (l.getD k default) (by
      rw [List.mem_iff_getElem]
      exact ⟨k,by rw [List.length_take];omega,by simp [List.getD_eq_getElem?_getD,hkl]⟩)
    have:=(st_no (h _ (hg hi')) (h _ (hg hkl))).2 h2 s (List.mem_range.1 hs)
    simpa using this
theorem val_ways {c:Chart} (hv:Val c):∀ t ∈ c.sold,0≤t.frm∧t.frm < t.to∧t.to≤c.secs:=fun t ht=>by
  have:=hv.tk t ht
  exact ⟨this.frm,this.way,this.to⟩
theorem val_pwr {c:Chart} (h:checkE c=0):PWr [] c.sold:=by
  rw [pwr_iff]
  intro i hi
  unfold checkE at h
  split at h
  · exact absurd h ‹_›
  rw [List.nil_append]
  exact (tickets_ok h i hi).2
theorem al_mem {bs:List Bunk}:∀ {m:Nat} {l:List Bunk},l ∈ alL bs m→∀ b ∈ l,b ∈ bs
  |0,l,hl,b,hb=>by rw [List.mem_singleton.1 hl] at hb;simp at hb
  |m+1,l,hl,b,hb=>by
    obtain ⟨b0,h0,hl⟩:=List.mem_flatMap.1 hl
    obtain ⟨q,hq,rfl⟩:=List.mem_map.1 hl
    rcases List.mem_cons.1 hb with rfl|hb
    · exact h0
    · exact al_mem hq b hb
theorem stp_free {c:Chart} {a:Ask} (h:bothE c a=0) {l:List Bunk} (hl:l ∈ alL (bunksL c.cabins) a.sexes.length) (hne:l ≠ []):stpB c.cabins a c.sold [] l=isFreeB c a l:=by
  have hc:=(both_ok h).1
  have hv:=val_of hc
  have hw:=ask_way h
  have hll:=alL_one l hl
  have hT:slTk a l l.length=tkR a 0 l:=by rw [tkR_sl a l l.length (Nat.le_refl _),List.take_length]
  have hways:∀ t ∈ c.sold++slTk a l l.length,0≤t.frm∧t.frm < t.to∧t.to≤c.secs:=fun t ht=>by
    rcases List.mem_append.1 ht with ht|ht
    · exact val_ways hv t ht
    · rw [hT] at ht
      obtain ⟨i,b,_,_,rfl⟩:=mem_tkR ht
      exact hw
  rw [Bool.eq_iff_iff,stp_iff hw.2.1 l c.sold [] (fun b hb=>by simp at hb)]
  unfold isFreeB
  rw [Bool.and_eq_true]
  have e1:(!strB ⟨c.cabins,c.secs,c.sold++slTk a l l.length⟩)=true ↔ PWr [] (c.sold++slTk a l l.length):=by
    rw [← str_iff (cs:=c.cabins) hways]
    simp
  rw [e1,pwr_app,hT]
  simp only [List.nil_append]
  constructor
  · rintro ⟨h1,h2⟩
    exact ⟨h2 hne,val_pwr hc,h1⟩
  · rintro ⟨h1,_,h3⟩
    exact ⟨h3,fun _=>h1⟩
theorem places_free {c:Chart} {a:Ask} (h:bothE c a=0) (hs:1≤a.sexes.length):placesA c a=(alL (bunksL c.cabins) a.sexes.length).filter (isFreeB c a):=by
  have e1:placesA c a=(plP c a).map (·.1):=by unfold placesA;rw [if_pos h]
  rw [e1]
  unfold plP
  rw [grow_stp]
  simp only [List.nil_append,List.map_id']
  refine List.filter_congr fun l hl=>stp_free h hl ?_
  rintro rfl
  have:=alL_one _ hl
  simp at this
  omega
end Go.Sym.B
namespace Go.Sym.B
open Go Go.Sym Go.Proofs Go.Sym.C
end Go.Sym.B
namespace Go.Sym.B
open Go Go.Sym Go.Proofs Go.Sym.C
end Go.Sym.B
namespace Go.Sym.B
open Go Go.Sym Go.Proofs Go.Sym.C
def tbE20_copyC:=vj @ty25 (vj @ty26 (vj @ty28 (vj @ty51 (vj @ty81 (vj @ti25.eq_1 (vj @ti26.eq_1 (vj @ti28.eq_1 (vj @ti51.eq_1 @ti81.eq_1))))))))
def xbE20_3:=vj @aI.eq_1 (@aB.eq_1)
theorem copyC_fn (cs ts:List (List DV)) (s:Int) (h1:rowsOK 2 cs) (h2:rowsOK 7 ts) (h3:cs.length≤100000) (h4:ts.length≤100000):Fn noB Try.prog 39 [.agg [.sl cs,.v (.int .i64 s),.sl ts]] noH (.agg [.row 0,.v (.int .i64 s),.row 1]) (hasg [(0,.row 51 2 cs),(1,.row 81 7 ts)]) 0:=by
  have env:Env (fun _=>True) Try.prog tyB (tab []):=mkEnv trivial
  obtain ⟨b1,b2,b3,b5,b4⟩:=b47 h3
  obtain ⟨c1,c2,c3,c5,c4⟩:=b47 h4
  refine Fn.of (A:=fun _=>True) (n0:=0) (D:=noD) (Fn0 Try.func39 rfl (fun vs w=>by kernel_rfl) (by kernel_rfl)) (by simp) (by simp [AV.ids,AV.idsL]) (fun i o h=>by cases h) (fun _ _ _ _=>trivial) noD_ok ?_
  repeat' (first|(apply nx;with_reducible constructor)|refine uq (by decide) ?_|((first|refine vx env fun Q hQ=>?_|refine vz fun Q hQ=>?_);simp only [vkt,seval,tbE20_copyC,xbE20_3,aChart,cChart,rTk,rCabin,List.nil_append,h1,h2];(try simp only [ite_and]);(repeat' (first|with_reducible assumption|refine And.intro ?_ ?_|intro hp));all_goals (first|(refine hQ _ ?_;clear hQ Q)|(refine hQ _ (fun h=>?_) (fun h=>?_) <;> clear hQ Q <;> (try simp only [vki,reduceCtorEq] at h))|(refine vq ?_;kernel_rfl)|omega|assumption|with_reducible rfl|skip)))
  (simp only [vrt,Try.results39,vkt,seval,tbE20_copyC,xbE20_3,aChart,cChart,rTk,rCabin,List.nil_append];refine Fin.ok (fun j=>[2,3][j]?) [] ?_ ?_ ?_ ?_ ?_ rfl;all_goals (try simp only [vle,vkt,seval,tbE20_copyC,xbE20_3,aChart,cChart,rTk,rCabin,List.nil_append]))
  all_goals first|rfl|(simp;done)
def pCopyC (_:St):List AV→Option Pk
  |[.agg [.sl cs,.v (.int .i64 s),.sl ts]]=>some { pre:=rowsOK 2 cs∧rowsOK 7 ts∧cs.length≤100000∧ts.length≤100000,ar:=[.agg [.sl cs,.v (.int .i64 s),.sl ts]],v:=.agg [.row 0,.v (.int .i64 s),.row 1],L1:=[some (.row 51 2 cs),some (.row 81 7 ts)] }
  |_=>none
theorem eCopyC {A:Frm→Prop}:EntryOK A Try.prog 39 (fnE pCopyC):=fnE_ok fun S bs q h hp=>by
  unfold pCopyC at h
  split at h
  · cases h;exact copyC_fn _ _ _ hp.1 hp.2.1 hp.2.2.1 hp.2.2.2
  · cases h
def tbE20_copyI:=vj @ty3 (vj @ty22 (vj @ti3.eq_1 @ti22.eq_1))
def xbE20_7:=vj @aI.eq_1 (vj @aB.eq_1 (vj @aInts.eq_1 (@rInt)))
theorem copyI_fn (l:List Int) (h:l.length≤100000):FnV Try.prog 89 [aInts l] (aInts l):=by
  have env:Env (fun _=>True) Try.prog tyB (tab []):=mkEnv trivial
  refine Fn.of (A:=fun _=>True) (n0:=0) (D:=noD) (Fn0 Try.func89 rfl (fun vs w=>by kernel_rfl) (by kernel_rfl)) (by simp) (by simp [AV.ids,aInts]) (fun i o h=>by cases h) (fun _ _ _ _=>trivial) noD_ok ?_
  have hmx:(100000:Nat)≤maxLen:=by decide
  have h5:l.length≤maxLen:=by omega
  repeat' (first|(apply nx;with_reducible constructor)|refine uq (by decide) ?_|((first|refine vx env fun Q hQ=>?_|refine vz fun Q hQ=>?_);simp only [vkt,seval,tbE20_copyI,xbE20_7,List.nil_append,List.length_map,h,h5];(try simp only [ite_and]);(repeat' (first|with_reducible assumption|refine And.intro ?_ ?_|intro hp));all_goals (first|(refine hQ _ ?_;clear hQ Q)|(refine hQ _ (fun h=>?_) (fun h=>?_) <;> clear hQ Q <;> (try simp only [vki,reduceCtorEq] at h))|(refine vq ?_;kernel_rfl)|omega|assumption|with_reducible rfl|skip)))
  (simp only [vrt,Try.results89,vkt,seval,tbE20_copyI,xbE20_7,List.nil_append,List.length_map];refine Fin.val rfl ?_;(try simp only [AV.le,AV.leL]))
  all_goals first|rfl|(simp;done)|exact ⟨_,_,rfl⟩
def scopyI:List AV→Prop × AV
  |[.sl l]=>(l=(l.map dInt).map eInt∧(l.map dInt).length≤100000,aInts (l.map dInt))
  |_=>(False,.junk)
theorem ecopyI {A:Frm→Prop}:EntryOK A Try.prog 89 (valE false scopyI):=valE_ok fun vs hv h=>by
  clear hv
  unfold scopyI at h ⊢
  split at h
  · rename_i l;obtain ⟨q0,k0⟩:=h
    refine ⟨by first|trivial|(simp [AV.plain,AV.plainL,aI,aB,aInts,aBunks,aTks,aBunk,aTk,cTk];done)|(repeat' split) <;> simp [AV.plain,AV.plainL,aI,aB,aInts,aBunks,aTks,aBunk,aTk,cTk],fun h=>absurd h (by decide), ?_⟩
    have:=copyI_fn (l.map dInt) k0
    simp only [aInts,← q0] at this
    first|exact this|(simp only [aInts,← q0];exact this)
  · exact h.elim
def tbE20_copyA:=vj @ty3 (vj @ty22 (vj @ty31 (vj @ti3.eq_1 (vj @ti22.eq_1 @ti31.eq_1))))
def xbE20_8:=vj @aI.eq_1 (vj @aB.eq_1 (vj @aInts.eq_1 (@mInt)))
theorem copyA_fn (a:Ask) (h:a.sexes.length≤100000):FnV Try.prog 36 [aAsk a] (aAsk a):=by
  have env:Env (fun _=>True) Try.prog tyB (tab [(89,valE false scopyI)]):=mkEnv ⟨ecopyI,trivial⟩
  refine Fn.of (A:=fun _=>True) (n0:=0) (D:=noD) (Fn0 Try.func36 rfl (fun vs w=>by kernel_rfl) (by kernel_rfl)) (by simp) (by simp [AV.ids,AV.idsL,aAsk,cAsk]) (fun i o h=>by cases h) (fun _ _ _ _=>trivial) noD_ok ?_
  repeat' (first|(apply nx;with_reducible constructor)|refine uq (by decide) ?_|((first|refine vx env fun Q hQ=>?_|refine vz fun Q hQ=>?_);simp only [vkt,seval,tbE20_copyA,xbE20_8,aAsk,cAsk,scopyI,List.length_map,h];(try simp only [ite_and]);(repeat' (first|with_reducible assumption|refine And.intro ?_ ?_|intro hp));all_goals (first|(refine hQ _ ?_;clear hQ Q)|(refine hQ _ (fun h=>?_) (fun h=>?_) <;> clear hQ Q <;> (try simp only [vki,reduceCtorEq] at h))|(refine vq ?_;kernel_rfl)|omega|assumption|with_reducible rfl|skip)))
  (simp only [vrt,Try.results36,vkt,seval,tbE20_copyA,xbE20_8,aAsk,cAsk,scopyI,List.length_map];refine Fin.val rfl ?_;(try simp only [AV.le,AV.leL]))
  all_goals first|rfl|(simp;done)|exact ⟨_,_,rfl⟩
def scopyA:List AV→Prop × AV
  |[.agg [.v (.int .i64 a0),.v (.int .i64 a1),.v (.int .i64 a2),.sl a3,.v (.bool a4)]]=>(a3=(a3.map dInt).map eInt∧((⟨a0,a1,a2,(a3.map dInt),a4⟩:Ask)).sexes.length≤100000,aAsk ((⟨a0,a1,a2,(a3.map dInt),a4⟩:Ask)))
  |_=>(False,.junk)
theorem ecopyA {A:Frm→Prop}:EntryOK A Try.prog 36 (valE false scopyA):=valE_ok fun vs hv h=>by
  clear hv
  unfold scopyA at h ⊢
  split at h
  · rename_i a0 a1 a2 a3 a4;obtain ⟨q0,k0⟩:=h
    refine ⟨by first|trivial|(simp [AV.plain,AV.plainL,aI,aB,aInts,aBunks,aTks,aBunk,aTk,cTk];done)|(repeat' split) <;> simp [AV.plain,AV.plainL,aI,aB,aInts,aBunks,aTks,aBunk,aTk,cTk],fun h=>absurd h (by decide), ?_⟩
    have:=copyA_fn ((⟨a0,a1,a2,(a3.map dInt),a4⟩:Ask)) k0
    simp only [aAsk,aB,aI,aInts,cAsk,← q0] at this
    first|exact this|(simp only [aAsk,aB,aI,aInts,cAsk,← q0];exact this)
  · exact h.elim
end Go.Sym.B
namespace Go.Sym.B
open Go Go.Sym Go.Proofs Go.Sym.C
end Go.Sym.B
namespace Go.Sym.B
open Go Go.Sym Go.Proofs Go.Sym.C
end Go.Sym.B
namespace Go.Sym.B
open Go Go.Sym Go.Proofs Go.Sym.C
end Go.Sym.B
namespace Go.Sym.B
open Go Go.Sym Go.Proofs Go.Sym.C
end Go.Sym.B
namespace Go.Sym.B
open Go Go.Sym Go.Proofs Go.Sym.C
end Go.Sym.B
namespace Go.Sym.B
open Go Go.Sym Go.Proofs Go.Sym.C
end Go.Sym.B
namespace Go.Sym.B
open Go Go.Sym Go.Proofs Go.Sym.C
end Go.Sym.B
namespace Go.Sym.B
open Go Go.Sym Go.Proofs Go.Sym.C
theorem tickets_app_way {c:Chart} {a:Ask} (h:bothE c a=0) {l:List Bunk} (hl:l ∈ alL (bunksL c.cabins) a.sexes.length):∀ t ∈ c.sold++slTk a l l.length,TkOk c t:=fun t ht=>by
  have hll:=alL_one l hl
  have hT:slTk a l l.length=tkR a 0 l:=by rw [tkR_sl a l l.length (Nat.le_refl _),List.take_length]
  rcases List.mem_append.1 ht with ht|ht
  · exact (val_of (both_ok h).1).tk t ht
  · rw [hT] at ht
    obtain ⟨i,b,hi,hb,rfl⟩:=mem_tkR ht
    exact ask_tk h (by omega) (al_mem hl b hb)
end Go.Sym.B
namespace Go.Sym.B
open Go Go.Sym Go.Proofs Go.Sym.C
end Go.Sym.B
namespace Go.Sym.B
open Go Go.Sym Go.Proofs Go.Sym.C
end Go.Sym.B
namespace Go.Sym.B
open Go Go.Sym Go.Proofs Go.Sym.C
end Go.Sym.B
namespace Go.Sym.B
open Go Go.Sym Go.Proofs Go.Sym.C
def okP (x t:Tk):Prop:=twiceB t x=false∧togB x t=true
theorem pwr_pair:∀ (l s:List Tk),PWr s l ↔ l.Pairwise okP∧∀ x ∈ s,∀ t ∈ l,okP x t
  |[],s=>by simp [PWr]
  |t :: l,s=>by
    show besideE t s=0∧PWr (s++[t]) l ↔ _
    rw [beside_zero,pwr_pair l (s++[t]),List.pairwise_cons]
    constructor
    · rintro ⟨h1,h2,h3⟩
      refine ⟨⟨fun y hy=>h3 t (by simp) y hy,h2⟩,fun x hx y hy=>?_⟩
      rcases List.mem_cons.1 hy with rfl|hy
      · exact h1 x hx
      · exact h3 x (List.mem_append_left _ hx) y hy
    · rintro ⟨⟨h1,h2⟩,h3⟩
      refine ⟨fun x hx=>h3 x hx t (List.mem_cons_self ..),h2,fun x hx y hy=>?_⟩
      rcases List.mem_append.1 hx with hx|hx
      · exact h3 x hx y (List.mem_cons_of_mem _ hy)
      · rw [List.mem_singleton.1 hx];exact h1 y hy
theorem pwr_sub {l r:List Tk} (h:PWr [] l) (hs:r.Sublist l):PWr [] r:=by
  rw [pwr_pair] at h ⊢
  exact ⟨h.1.sublist hs,fun x hx=>by simp at hx⟩
theorem car_zero {c:Chart} (h:CarOk c) (h8:c.sold.length≤8):carE c=0:=by
  have h1:=h.cabs
  have h2:countedE c.cabins.length 1 3=0:=by
    unfold countedE
    rw [if_neg (by omega),if_neg (by omega)]
  have h3:firstE (c.cabins.map cabE)=0:=firstE_all fun j hj=>by
    rw [List.length_map] at hj
    rw [mapD hj]
    unfold cabE
    rw [inB_iff.2 (h.beds _ (gMem hj))];rfl
  unfold carE
  rw [h2,h3,inB_iff.2 h.secs]
  simp only [ne_eq,not_true_eq_false,if_false,Bool.not_true,Bool.false_eq_true]
  unfold countedE
  rw [if_neg (by omega),if_neg (by omega)]
theorem check_of {c:Chart} (hc:CarOk c) (h8:c.sold.length≤8) (ht:∀ t ∈ c.sold,TkOk c t) (hp:PWr [] c.sold):checkE c=0:=by
  unfold checkE
  rw [car_zero hc h8,if_neg (fun h=>h rfl)]
  unfold ticketsE
  refine firstE_all fun j hj=>?_
  rw [List.length_map,List.length_range] at hj
  rw [rngD hj]
  have hk:=ht _ (gMem (d:=default) hj)
  have hb:=(pwr_iff _ _).1 hp j hj
  rw [List.nil_append] at hb
  exact ticket_zero (cs:=c.cabins) (secs:=c.secs) hk.party hk.sex hk.cab hk.bed ⟨hk.frm,hk.way,hk.to⟩ hb
theorem TkOk.to' {c:Chart} {t:Tk} (h:TkOk c t) (l:List Tk):TkOk ⟨c.cabins,c.secs,l⟩ t:=⟨h.party,h.sex,h.cab,h.bed,h.frm,h.way,h.to⟩
theorem CarOk.to' {c:Chart} (h:CarOk c) (l:List Tk):CarOk ⟨c.cabins,c.secs,l⟩:=⟨h.cabs,h.beds,h.secs⟩
theorem check_sub {c:Chart} (h:checkE c=0) {l:List Tk} (hs:l.Sublist c.sold):checkE ⟨c.cabins,c.secs,l⟩=0:=by
  have hv:=val_of h
  have hl:=hs.length_le
  have hm:=hv.many
  refine check_of (hv.car.to' l) (by show l.length≤8;omega) (fun t ht=>(hv.tk t (hs.subset ht)).to' l) ?_
  exact pwr_sub (val_pwr h) hs
theorem ask_nobody {c:Chart} {a:Ask} (h:bothE c a=0):∀ t ∈ c.sold,t.party ≠ a.party:=by
  have h:=(both_ok h).2
  unfold askE at h
  split at h
  · exact absurd h (by decide)
  split at h
  · exact absurd h (by decide)
  rename_i h2
  intro t ht hp
  exact h2 (List.any_eq_true.2 ⟨t,ht,by rw [hp];simp⟩)
def askP (a:Ask) (P:Int):Ask:=⟨P,a.frm,a.to,a.sexes,a.dog⟩
theorem askP_ok {c c':Chart} {a:Ask} {P:Int} (h:bothE c a=0) (hs:c'.secs=c.secs) (h':checkE c'=0) (hP:1≤P∧P≤99) (hn:∀ t ∈ c'.sold,t.party ≠ P):bothE c' (askP a P)=0:=by
  have h:=(both_ok h).2
  unfold bothE
  rw [h',if_neg (by decide)]
  unfold askE askP at *
  simp only [hs]
  split at h
  · exact absurd h (by decide)
  split at h
  · exact absurd h (by decide)
  have b1:inB P 1 99=true:=inB_iff.2 hP
  have b2:c'.sold.any (fun t=>decide (t.party=P))=false:=List.any_eq_false.2 fun t ht=>by simpa using hn t ht
  rw [b1,b2]
  exact h
theorem pl_mem {c:Chart} {a:Ask} (h:bothE c a=0) {p:List Bunk}:p ∈ placesA c a ↔ p ∈ alL (bunksL c.cabins) a.sexes.length∧nearB c.cabins p=true∧PWr [] (c.sold++slTk a p p.length):=by
  have hs:=(sx_of (both_ok h).2).2
  rw [places_free h hs,List.mem_filter]
  constructor
  · rintro ⟨h1,h2⟩
    have hway:=tickets_app_way h h1
    unfold isFreeB at h2
    rw [Bool.and_eq_true] at h2
    exact ⟨h1,h2.1,(str_iff (cs:=c.cabins) (secs:=c.secs) (fun t ht=>⟨(hway t ht).frm,(hway t ht).way,(hway t ht).to⟩)).1 (by simpa using h2.2)⟩
  · rintro ⟨h1,h2,h3⟩
    have hway:=tickets_app_way h h1
    refine ⟨h1, ?_⟩
    unfold isFreeB
    rw [h2,(str_iff (cs:=c.cabins) (secs:=c.secs) (fun t ht=>⟨(hway t ht).frm,(hway t ht).way,(hway t ht).to⟩)).2 h3]
    rfl
theorem pl_less {c c':Chart} {a:Ask} (h:bothE c a=0) (h':bothE c' a=0) (hcb:c'.cabins=c.cabins) (hs:c'.sold.Sublist c.sold) {p:List Bunk} (hp:p ∈ placesA c a):p ∈ placesA c' a:=by
  rw [pl_mem h] at hp
  rw [pl_mem h',hcb]
  exact ⟨hp.1,hp.2.1,pwr_sub hp.2.2 (hs.append_right _)⟩
def askW (a:Ask) (f t:Int):Ask:=⟨a.party,f,t,a.sexes,a.dog⟩
theorem askW_ok {c:Chart} {a:Ask} {f t:Int} (h:bothE c a=0) (hf:a.frm≤f) (hft:f < t) (ht:t≤a.to):bothE c (askW a f t)=0:=by
  have hw:=ask_way h
  obtain ⟨h1,h2⟩:=both_ok h
  unfold bothE
  rw [h1,if_neg (by decide)]
  unfold askE askW at *
  split at h2
  · exact absurd h2 (by decide)
  rename_i g1
  split at h2
  · exact absurd h2 (by decide)
  rename_i g2
  split at h2
  · exact absurd h2 ‹_›
  have g4:wayE c.secs f t=0:=by unfold wayE;rw [if_neg (by omega)]
  rw [if_neg g1,if_neg g2,g4,if_neg (by decide)]
  exact h2
theorem okP_meet {x t t':Tk} (h1:t'.party=t.party) (h2:t'.sex=t.sex) (h3:t'.cab=t.cab) (h4:t'.bed=t.bed) (h5:t'.dog=t.dog) (hm:meetB x t'=true→meetB x t=true) (h:okP x t):okP x t':=by
  unfold okP twiceB togB at *
  rw [h1,h2,h3,h4,h5]
  cases hq:meetB x t' with
  |false=>simp
  |true=>rw [hm hq] at h;exact h
theorem okP_meet2 {x x' t t':Tk} (e1:x'.party=x.party) (e2:x'.sex=x.sex) (e3:x'.cab=x.cab) (e4:x'.bed=x.bed) (e5:x'.dog=x.dog) (h1:t'.party=t.party) (h2:t'.sex=t.sex) (h3:t'.cab=t.cab) (h4:t'.bed=t.bed) (h5:t'.dog=t.dog) (hm:meetB x' t'=true→meetB x t=true) (h:okP x t):okP x' t':=by
  unfold okP twiceB togB at *
  rw [h1,h2,h3,h4,h5,e1,e2,e3,e4,e5]
  cases hq:meetB x' t' with
  |false=>simp
  |true=>rw [hm hq] at h;exact h
theorem pl_part {c:Chart} {a:Ask} {f t:Int} (h:bothE c a=0) (hf:a.frm≤f) (hft:f < t) (ht:t≤a.to) {p:List Bunk} (hp:p ∈ placesA c a):p ∈ placesA c (askW a f t):=by
  have hb:=askW_ok h hf hft ht
  have hw:=ask_way h
  rw [pl_mem h] at hp
  rw [pl_mem hb]
  refine ⟨hp.1,hp.2.1, ?_⟩
  have h3:=hp.2.2
  rw [pwr_app,pwr_pair,pwr_pair,List.nil_append] at h3 ⊢
  obtain ⟨g1,g2,g3⟩:=h3
  have hT:slTk (askW a f t) p p.length=(slTk a p p.length).map fun x=>⟨x.party,x.sex,x.cab,x.bed,f,t,x.dog⟩:=by
    unfold slTk
    rw [List.map_map];rfl
  have hm:∀ x ∈ slTk a p p.length,x.frm=a.frm∧x.to=a.to:=fun x hx=>by
    obtain ⟨i,_,rfl⟩:=List.mem_map.1 hx
    exact ⟨rfl,rfl⟩
  refine ⟨g1, ?_, ?_⟩
  · rw [hT,List.pairwise_map]
    refine List.Pairwise.imp_of_mem (fun {x y} hx hy hxy=>?_) g2
    refine okP_meet2 (x:=x) (t:=y) rfl rfl rfl rfl rfl rfl rfl rfl rfl rfl (fun _=>?_) hxy
    obtain ⟨m1,m2⟩:=hm x hx
    obtain ⟨m3,m4⟩:=hm y hy
    unfold meetB
    rw [decide_eq_true (by omega),decide_eq_true (by omega)];rfl
  · intro x hx y hy
    rw [hT] at hy
    obtain ⟨z,hz,rfl⟩:=List.mem_map.1 hy
    obtain ⟨m1,m2⟩:=hm z hz
    refine okP_meet (t:=z) rfl rfl rfl rfl rfl (fun hq=>?_) (g3 x hx z hz)
    unfold meetB at hq ⊢
    simp only [Bool.and_eq_true,decide_eq_true_eq] at hq ⊢
    omega
end Go.Sym.B
namespace Go.Sym.B
open Go Go.Sym Go.Proofs Go.Sym.C
def amB (l m:List (List Bunk)):Bool:=l.all fun p=>m.contains p
def amS (l m:List (List Bunk)) (T:List (Nat × AV)):St:={ t:=asg (T++[(0,aBunkss l),(1,aBunkss m),(4,aB false)]),h:=hasg [],n:=0 }
theorem con_succ {m:List (List Bunk)} {k:Nat} (h:k < m.length) (p:List Bunk):(m.take (k+1)).contains p=((m.take k).contains p || decide (p=m.getD k [])):=by
  rw [List.take_succ_eq_append_getElem h,List.contains_append,show m[k]=m.getD k [] by simp [List.getD_eq_getElem?_getD,h]]
  rw [Bool.eq_iff_iff]
  simp
def tbE29_among:=vj @ty3 (vj @ty33 (vj @ty37 (vj @ty49 (vj @ti3.eq_1 (vj @ti33.eq_1 (vj @ti37.eq_1 @ti49.eq_1))))))
def xbE29_1:=vj @aI.eq_1 (@aB.eq_1)
theorem among_fn (l m:List (List Bunk)) (hl:l.length≤1000) (hm:m.length≤1000) (hl1:∀ p ∈ l,p.length≤1000) (hm1:∀ p ∈ m,p.length≤1000):FnV Try.prog 38 [aBunkss l,aBunkss m] (aB (amB l m)):=by
  have env:Env (fun _=>True) Try.prog tyB (tab [(24,valE true seqB)]):=mkEnv ⟨eeqB,trivial⟩
  refine Fn.of (A:=fun _=>True) (n0:=0) (D:=noD) (Fn0 Try.func38 rfl (fun vs w=>by kernel_rfl) (by kernel_rfl)) (by simp) (by simp [AV.ids,AV.idsL,aBunkss]) (fun i o h=>by cases h) (fun _ _ _ _=>trivial) noD_ok ?_
  repeat' (first|(apply nx;with_reducible constructor)|refine uq (by decide) ?_|((first|refine vx env fun Q hQ=>?_|refine vz fun Q hQ=>?_);simp only [vkt,seval,tbE29_among,xbE29_1,aBunks,aBunkss,eBunk,eBunks,gBunks,mBunk,amS,seqB,List.length_map];(try simp only [ite_and]);(repeat' (first|with_reducible assumption|refine And.intro ?_ ?_|intro hp));all_goals (first|(refine hQ _ ?_;clear hQ Q)|(refine hQ _ (fun h=>?_) (fun h=>?_) <;> clear hQ Q <;> (try simp only [vki,reduceCtorEq] at h))|(refine vq ?_;kernel_rfl)|omega|assumption|with_reducible rfl|skip)))
  refine sym_loop (fun i:{ i:Nat // i≤l.length∧∀ j,j < i→m.contains (l.getD j [])=true }=>amS l m [(5,aI i.1)]) (fun i=>l.length - i.1) ⟨0,Nat.zero_le _,fun j h=>absurd h (Nat.not_lt_zero _)⟩ ?_ fun ⟨i,hi,hno⟩=>?_
  · simp only [amS,List.cons_append,List.nil_append]
    (refine Le.ok some [] ?_;constructor;all_goals (try simp only [vle,vkt,seval,tbE29_among,xbE29_1,aBunks,aBunkss,eBunk,eBunks,gBunks,mBunk,amS,seqB,List.length_map]))
    all_goals first|rfl|(simp;done)
  simp only at hi hno ⊢
  simp only [amS,List.cons_append,List.nil_append]
  by_cases hil:i < l.length
  · have d1:decide ((i:Int) < (l.length:Int))=true:=decide_eq_true (by omega)
    have e9:IntKind.wrap .i64 ((i:Int)+1)=((i+1:Nat):Int):=by rw [wrap64 (by omega) (by omega)];rfl
    have i0:((i:Int)).toNat=i:=rfl
    have hg:=hBunks hil
    have hpl:=hl1 _ (gMem (d:=[]) hil)
    obtain ⟨p,hp⟩:∃ p,l.getD i []=p:=⟨_,rfl⟩
    rw [hp] at hg hpl
    repeat' (first|(apply nx;with_reducible constructor)|refine uq (by decide) ?_|((first|refine vx env fun Q hQ=>?_|refine vz fun Q hQ=>?_);simp only [vkt,seval,tbE29_among,xbE29_1,aBunks,aBunkss,eBunk,eBunks,gBunks,mBunk,amS,seqB,List.length_map,d1];(try simp only [ite_and]);(repeat' (first|with_reducible assumption|refine And.intro ?_ ?_|intro hp));all_goals (first|(refine hQ _ ?_;clear hQ Q)|(refine hQ _ (fun h=>?_) (fun h=>?_) <;> clear hQ Q <;> (try simp only [vki,reduceCtorEq] at h))|(refine vq ?_;kernel_rfl)|omega|assumption|with_reducible rfl|skip)))
    refine sym_loop (fun k:{ k:Nat // k≤m.length }=>amS l m [(5,aI i),(6,aB ((m.take k.1).contains p)),(7,aI k.1)]) (fun k=>m.length - k.1) ⟨0,Nat.zero_le _⟩ ?_ fun ⟨k,hk⟩=>?_
    · simp only [amS,List.take_zero,List.contains_nil,List.cons_append,List.nil_append]
      (refine Le.ok some [] ?_;constructor;all_goals (try simp only [vle,vkt,seval,tbE29_among,xbE29_1,aBunks,aBunkss,eBunk,eBunks,gBunks,mBunk,amS,seqB,List.length_map]))
      all_goals first|rfl|(simp;done)
    simp only at hk ⊢
    obtain ⟨so,hso⟩:∃ q,(m.take k).contains p=q:=⟨_,rfl⟩
    simp only [amS,hso,List.cons_append,List.nil_append]
    by_cases hkl:k < m.length
    · have d2:decide ((k:Int) < (m.length:Int))=true:=decide_eq_true (by omega)
      have e8:IntKind.wrap .i64 ((k:Int)+1)=((k+1:Nat):Int):=by rw [wrap64 (by omega) (by omega)];rfl
      have k0:((k:Int)).toNat=k:=rfl
      have hS:=con_succ hkl p
      have hg2:=hBunks hkl
      have hrl:=hm1 _ (gMem (d:=[]) hkl)
      obtain ⟨r,hr⟩:∃ r,m.getD k []=r:=⟨_,rfl⟩
      rw [hr,hso] at hS
      rw [hr] at hg2 hrl
      cases so with
      |true =>
        rw [Bool.true_or] at hS
        repeat' (first|(apply nx;with_reducible constructor)|refine uq (by decide) ?_|((first|refine vx env fun Q hQ=>?_|refine vz fun Q hQ=>?_);simp only [vkt,seval,tbE29_among,xbE29_1,aBunks,aBunkss,eBunk,eBunks,gBunks,mBunk,amS,seqB,List.length_map,d2,e8];(try simp only [ite_and]);(repeat' (first|with_reducible assumption|refine And.intro ?_ ?_|intro hp));all_goals (first|(refine hQ _ ?_;clear hQ Q)|(refine hQ _ (fun h=>?_) (fun h=>?_) <;> clear hQ Q <;> (try simp only [vki,reduceCtorEq] at h))|(refine vq ?_;kernel_rfl)|omega|assumption|with_reducible rfl|skip)))
        refine ⟨⟨k+1,hkl⟩,by show m.length - (k+1) < m.length - k;omega, ?_⟩
        simp only [amS,hS,List.cons_append,List.nil_append]
        (refine Le.ok some [] ?_;constructor;all_goals (try simp only [vle,vkt,seval,tbE29_among,xbE29_1,aBunks,aBunkss,eBunk,eBunks,gBunks,mBunk,amS,seqB,List.length_map]))
        all_goals first|rfl|(simp;done)
      |false =>
        rw [Bool.false_or] at hS
        repeat' (first|(apply nx;with_reducible constructor)|refine uq (by decide) ?_|((first|refine vx env fun Q hQ=>?_|refine vz fun Q hQ=>?_);simp only [vkt,seval,tbE29_among,xbE29_1,aBunks,aBunkss,eBunk,eBunks,gBunks,mBunk,amS,seqB,List.length_map,d2,e8,k0,i0,hil,hkl,hp,hr,hg,hg2,hpl,hrl];(try simp only [ite_and]);(repeat' (first|with_reducible assumption|refine And.intro ?_ ?_|intro hp));all_goals (first|(refine hQ _ ?_;clear hQ Q)|(refine hQ _ (fun h=>?_) (fun h=>?_) <;> clear hQ Q <;> (try simp only [vki,reduceCtorEq] at h))|(refine vq ?_;kernel_rfl)|omega|assumption|with_reducible rfl|skip)))
        refine ⟨⟨k+1,hkl⟩,by show m.length - (k+1) < m.length - k;omega, ?_⟩
        simp only [amS,hS,List.cons_append,List.nil_append]
        (refine Le.ok some [] ?_;constructor;all_goals (try simp only [vle,vkt,seval,tbE29_among,xbE29_1,aBunks,aBunkss,eBunk,eBunks,gBunks,mBunk,amS,seqB,List.length_map]))
        all_goals first|rfl|(simp;done)
    · have d2:decide ((k:Int) < (m.length:Int))=false:=decide_eq_false (by omega)
      obtain rfl:k=m.length:=by omega
      rw [List.take_length] at hso
      cases so with
      |true =>
        repeat' (first|(apply nx;with_reducible constructor)|refine uq (by decide) ?_|((first|refine vx env fun Q hQ=>?_|refine vz fun Q hQ=>?_);simp only [vkt,seval,tbE29_among,xbE29_1,aBunks,aBunkss,eBunk,eBunks,gBunks,mBunk,amS,seqB,List.length_map,d2,e9];(try simp only [ite_and]);(repeat' (first|with_reducible assumption|refine And.intro ?_ ?_|intro hp));all_goals (first|(refine hQ _ ?_;clear hQ Q)|(refine hQ _ (fun h=>?_) (fun h=>?_) <;> clear hQ Q <;> (try simp only [vki,reduceCtorEq] at h))|(refine vq ?_;kernel_rfl)|omega|assumption|with_reducible rfl|skip)))
        refine ⟨⟨i+1,hil,fun j hj=>?_⟩,by show l.length - (i+1) < l.length - i;omega, ?_⟩
        · rcases Nat.lt_or_eq_of_le (Nat.le_of_lt_succ hj) with h1|h1
          · exact hno j h1
          · rw [h1,hp];exact hso
        simp only [amS,List.cons_append,List.nil_append]
        (refine Le.ok some [] ?_;constructor;all_goals (try simp only [vle,vkt,seval,tbE29_among,xbE29_1,aBunks,aBunkss,eBunk,eBunks,gBunks,mBunk,amS,seqB,List.length_map]))
        all_goals first|rfl|(simp;done)
      |false =>
        have hE:amB l m=false:=by
          unfold amB
          rw [List.all_eq_false]
          exact ⟨l.getD i [],gMem hil,by rw [hp,hso];decide⟩
        rw [hE]
        repeat' (first|(apply nx;with_reducible constructor)|refine uq (by decide) ?_|((first|refine vx env fun Q hQ=>?_|refine vz fun Q hQ=>?_);simp only [vkt,seval,tbE29_among,xbE29_1,aBunks,aBunkss,eBunk,eBunks,gBunks,mBunk,amS,seqB,List.length_map,d2];(try simp only [ite_and]);(repeat' (first|with_reducible assumption|refine And.intro ?_ ?_|intro hp));all_goals (first|(refine hQ _ ?_;clear hQ Q)|(refine hQ _ (fun h=>?_) (fun h=>?_) <;> clear hQ Q <;> (try simp only [vki,reduceCtorEq] at h))|(refine vq ?_;kernel_rfl)|omega|assumption|with_reducible rfl|skip)))
        (simp only [vrt,Try.results38,vkt,seval,tbE29_among,xbE29_1,aBunks,aBunkss,eBunk,eBunks,gBunks,mBunk,amS,seqB,List.length_map];refine Fin.val rfl ?_;(try simp only [AV.le,AV.leL]))
        all_goals first|rfl|(simp;done)
  · have d1:decide ((i:Int) < (l.length:Int))=false:=decide_eq_false (by omega)
    obtain rfl:i=l.length:=by omega
    have hE:amB l m=true:=by
      unfold amB
      rw [List.all_eq_true]
      intro p hp
      obtain ⟨j,hj,rfl⟩:=List.mem_iff_getElem.1 hp
      have:=hno j hj
      rwa [show l.getD j []=l[j] by simp [List.getD_eq_getElem?_getD,hj]] at this
    rw [hE]
    repeat' (first|(apply nx;with_reducible constructor)|refine uq (by decide) ?_|((first|refine vx env fun Q hQ=>?_|refine vz fun Q hQ=>?_);simp only [vkt,seval,tbE29_among,xbE29_1,aBunks,aBunkss,eBunk,eBunks,gBunks,mBunk,amS,seqB,List.length_map,d1];(try simp only [ite_and]);(repeat' (first|with_reducible assumption|refine And.intro ?_ ?_|intro hp));all_goals (first|(refine hQ _ ?_;clear hQ Q)|(refine hQ _ (fun h=>?_) (fun h=>?_) <;> clear hQ Q <;> (try simp only [vki,reduceCtorEq] at h))|(refine vq ?_;kernel_rfl)|omega|assumption|with_reducible rfl|skip)))
    (simp only [vrt,Try.results38,vkt,seval,tbE29_among,xbE29_1,aBunks,aBunkss,eBunk,eBunks,gBunks,mBunk,amS,seqB,List.length_map];refine Fin.val rfl ?_;(try simp only [AV.le,AV.leL]))
    all_goals first|rfl|(simp;done)
def samong:List AV→Prop × AV
  |[.sl x,.sl y]=>(x=(x.map dBunks).map eBunks∧y=(y.map dBunks).map eBunks∧(x.map dBunks).length≤1000∧(y.map dBunks).length≤1000∧(∀ p ∈ (x.map dBunks),p.length≤1000)∧(∀ p ∈ (y.map dBunks),p.length≤1000),aB (amB (x.map dBunks) (y.map dBunks)))
  |_=>(False,.junk)
theorem eamong {A:Frm→Prop}:EntryOK A Try.prog 38 (valE true samong):=valE_ok fun vs hv h=>by
  clear hv
  unfold samong at h ⊢
  split at h
  · rename_i x y;obtain ⟨q0,q1,k0,k1,k2,k3⟩:=h
    refine ⟨by first|trivial|(simp [AV.plain,AV.plainL,aI,aB,aInts,aBunks,aTks,aBunk,aTk,cTk];done)|(repeat' split) <;> simp [AV.plain,AV.plainL,aI,aB,aInts,aBunks,aTks,aBunk,aTk,cTk],fun _=>(by simp [AV.flat,AV.flatL,aI,aB]), ?_⟩
    have:=among_fn (x.map dBunks) (y.map dBunks) k0 k1 k2 k3
    simp only [aBunkss,← q0,← q1] at this
    first|exact this|(simp only [aBunkss,← q0,← q1];exact this)
  · exact h.elim
theorem am_sub {l m:List (List Bunk)} (h:∀ p ∈ l,p ∈ m):amB l m=true:=by
  unfold amB
  rw [List.all_eq_true]
  intro p hp
  simpa using h p hp
end Go.Sym.B
namespace Go.Sym.B
open Go Go.Sym Go.Proofs Go.Sym.C
end Go.Sym.B
namespace Go.Sym.B
open Go Go.Sym Go.Proofs Go.Sym.C
noncomputable def pPlacesX (S:St):List AV→Option Pk
  |[.agg [.row i,.v (.int .i64 s),.row j],.agg [.v (.int .i64 p),.v (.int .i64 f),.v (.int .i64 t),.sl x,.v (.bool d)]]=>match S.h i with
    |some (.row _ _ cs)=>match S.h j with
      |some (.row _ _ ts)=>some { pre:=cs=(cs.map dCabin).map eCabin∧ts=(ts.map dTk).map eTk∧x=(x.map dInt).map eInt∧cs.length≤maxLen∧x.length≤maxLen,bo:=[i,j],ar:=[.agg [.sl cs,.v (.int .i64 s),.sl ts],.agg [.v (.int .i64 p),.v (.int .i64 f),.v (.int .i64 t),.sl x,.v (.bool d)]],v:=.tup [.row 0,aI (bothE ⟨cs.map dCabin,s,ts.map dTk⟩ ⟨p,f,t,x.map dInt,d⟩)],L1:=[some (.row 37 1 ((placesA ⟨cs.map dCabin,s,ts.map dTk⟩ ⟨p,f,t,x.map dInt,d⟩).map eBunks))] }
      |_=>none
    |_=>none
  |[.agg [.sl cs,.v (.int .i64 s),.sl ts],.agg [.v (.int .i64 p),.v (.int .i64 f),.v (.int .i64 t),.sl xs,.v (.bool d)]]=>some { pre:=cs=(cs.map dCabin).map eCabin∧ts=(ts.map dTk).map eTk∧xs=(xs.map dInt).map eInt∧cs.length≤maxLen∧xs.length≤maxLen,ar:=[.agg [.sl cs,.v (.int .i64 s),.sl ts],.agg [.v (.int .i64 p),.v (.int .i64 f),.v (.int .i64 t),.sl xs,.v (.bool d)]],v:=.tup [.row 0,aI (bothE ⟨cs.map dCabin,s,ts.map dTk⟩ ⟨p,f,t,xs.map dInt,d⟩)],L1:=[some (.row 37 1 ((placesA ⟨cs.map dCabin,s,ts.map dTk⟩ ⟨p,f,t,xs.map dInt,d⟩).map eBunks))] }
  |_=>none
theorem ePlacesX {A:Frm→Prop}:EntryOK A Try.prog 18 (fnE pPlacesX):=fnE_ok fun S bs q h hp=>by
  have key:∀ (cs ts xs:List (List DV)) (s p f t:Int) (d:Bool),cs=(cs.map dCabin).map eCabin→ts=(ts.map dTk).map eTk→xs=(xs.map dInt).map eInt→cs.length≤maxLen→xs.length≤maxLen→Fn noB Try.prog 18 [.agg [.sl cs,.v (.int .i64 s),.sl ts],.agg [.v (.int .i64 p),.v (.int .i64 f),.v (.int .i64 t),.sl xs,.v (.bool d)]] noH (.tup [.row 0,aI (bothE ⟨cs.map dCabin,s,ts.map dTk⟩ ⟨p,f,t,xs.map dInt,d⟩)]) (hasg [(0,.row 37 1 ((placesA ⟨cs.map dCabin,s,ts.map dTk⟩ ⟨p,f,t,xs.map dInt,d⟩).map eBunks))]) 0:=fun cs ts xs s p f t d h1 h2 h3 h4 h5=>by
    have:=Places_ok ⟨cs.map dCabin,s,ts.map dTk⟩ ⟨p,f,t,xs.map dInt,d⟩ (by simpa using h4) (by simpa using h5)
    simp only [aChart,cChart,aAsk,cAsk,← h1,← h2,← h3] at this
    exact this
  unfold pPlacesX at h
  split at h
  · split at h
    · split at h
      · cases h
        obtain ⟨h1,h2,h3,h4,h5⟩:=hp
        exact key _ _ _ _ _ _ _ _ h1 h2 h3 h4 h5
      · cases h
    · cases h
  · cases h
    obtain ⟨h1,h2,h3,h4,h5⟩:=hp
    exact key _ _ _ _ _ _ _ _ h1 h2 h3 h4 h5
  · cases h
theorem cut_sub (l:List Tk) (u:Nat):(l.take u++l.drop (u+1)).Sublist l:=by
  have h:(l.drop (u+1)).Sublist (l.drop u):=by
    rw [← List.drop_drop]
    exact List.drop_sublist _ _
  have:=List.Sublist.append (List.Sublist.refl (l.take u)) h
  rwa [List.take_append_drop] at this
def shS (C:Chart) (A B:Ask) (x:Int) (L M:List (List Bunk)) (T:List (Nat × AV)) (H:List (Nat × AObj)) (n:Nat):St:={ t:=asg (T++[(3,.ptr 0 0),(4,.ptr 1 0),(5,.ptr 2 0),(6,.ptr 3 0),(7,.row 4)]),h:=hasg (H++[(0,.cells [.v (.int .u64 x)]),(1,.cells (cChart C)),(2,.cells (cAsk A)),(3,.cells (cAsk B)),(4,.row 37 1 (L.map eBunks)),(5,.row 37 1 (M.map eBunks))]),n:=n }
def tbE31_law:=vj @ty3 (vj @ty26 (vj @ty28 (vj @ty31 (vj @ty34 (vj @ty81 (vj @ti3.eq_1 (vj @ti26.eq_1 (vj @ti28.eq_1 (vj @ti31.eq_1 (vj @ti34.eq_1 @ti81.eq_1))))))))))
def xbE31_1:=vj @aI.eq_1 (vj @aB.eq_1 (vj @aInts.eq_1 (vj @eInt.eq_1 (@mInt))))
set_option maxRecDepth 100000 in
set_option maxHeartbeats 40000000 in
theorem shorterLaw_fn (nums:List Int) (hnums:nums.length≤maxLen):FnV Try.prog 7 [aInts nums] (aB true):=by
  have env:Env (fun _=>True) Try.prog tyB (tab [(15,fnE pBag),(40,fnE pUp),(37,fnE pFrom),(16,fnE pChartOf),(17,fnE pAskedOf),(36,valE false scopyA),(39,fnE pCopyC),(18,fnE pPlacesX),(38,valE true samong),(25,valE true sselling)]):=mkEnv ⟨eBag,eUp,eFrom,eChartOf,eAskedOf,ecopyA,eCopyC,ePlacesX,eamong,eselling,trivial⟩
  refine Fn.of (A:=fun _=>True) (n0:=0) (D:=noD) (Fn0 Try.func7 rfl (fun vs w=>by kernel_rfl) (by kernel_rfl)) (by simp) (by simp [AV.ids,AV.idsL,aInts]) (fun i o h=>by cases h) (fun _ _ _ _=>trivial) noD_ok ?_
  obtain ⟨x0,hx0⟩:∃ x,nbS nums=x:=⟨_,rfl⟩
  obtain ⟨hC0,hCp,hCs,hCc,hCg⟩:=co_ok (x:=x0) (a:=3) (g:=5) (s:=6) (by decide) (by decide) (by decide)
  obtain ⟨C,hC⟩:∃ C,coC x0 3 5 6=C:=⟨_,rfl⟩
  obtain ⟨x1,hx1⟩:∃ x,coX x0 3 5 6=x:=⟨_,rfl⟩
  rw [hC] at hC0 hCp hCs hCc hCg
  obtain ⟨hA0,hA1,hA2⟩:=ao_ok (x:=x1) (n:=2) hC0 hCp (by decide)
  obtain ⟨A,hA⟩:∃ A,aoA x1 C.secs 2=A:=⟨_,rfl⟩
  obtain ⟨x2,hx2⟩:∃ x,aoX x1 C.secs 2=x:=⟨_,rfl⟩
  rw [hA] at hA0 hA1 hA2
  have hv:=val_of hC0
  have hsec:=hv.car.secs
  have hcab:=hv.car.cabs
  have hmx:(100000:Nat)≤maxLen:=by decide
  have hway:=ask_way hA0
  have eC:(⟨C.cabins,C.secs,C.sold⟩:Chart)=C:=rfl
  have eA:(⟨A.party,A.frm,A.to,A.sexes,A.dog⟩:Ask)=A:=rfl
  have c1:C.cabins.length≤maxLen:=by omega
  have c2:A.sexes.length≤maxLen:=by omega
  have c3:A.sexes.length≤100000:=by omega
  have w1:IntKind.wrap .i64 (A.to - 1)=A.to - 1:=wrap64 (by omega) (by omega)
  have hu:=up2 x2 (m:=A.to - 1 - A.frm) (by omega) (by omega)
  obtain ⟨f,hf⟩:∃ f,A.frm+upV x2 (A.to - 1 - A.frm)=f:=⟨_,rfl⟩
  obtain ⟨x3,hx3⟩:∃ x,upS x2 (A.to - 1 - A.frm)=x:=⟨_,rfl⟩
  have w2:IntKind.wrap .i64 (f+1)=f+1:=wrap64 (by omega) (by omega)
  have hu3:=up2 x3 (m:=A.to - (f+1)) (by omega) (by omega)
  obtain ⟨t,ht⟩:∃ t,f+1+upV x3 (A.to - (f+1))=t:=⟨_,rfl⟩
  obtain ⟨x4,hx4⟩:∃ x,upS x3 (A.to - (f+1))=x:=⟨_,rfl⟩
  have f1:A.frm≤100000:=by omega
  have f2:A.to - 1≤100000:=by omega
  have f3:-100000≤A.frm:=by omega
  have f4:-100000≤A.to - 1:=by omega
  have f5:f+1≤100000:=by omega
  have f6:A.to≤100000:=by omega
  have f7:-100000≤f+1:=by omega
  have f8:-100000≤A.to:=by omega
  have hB0:=askW_ok hA0 (f:=f) (t:=t) (by omega) (by omega) (by omega)
  have eB:(⟨A.party,f,t,A.sexes,A.dog⟩:Ask)=askW A f t:=rfl
  have hsub:∀ p ∈ placesA C A,p ∈ placesA C (askW A f t):=fun p hp=>pl_part hA0 (by omega) (by omega) (by omega) hp
  have bd:∀ {c:Chart} {a:Ask},bothE c a=0→(placesA c a).length≤1000∧∀ p ∈ placesA c a,p.length≤1000:=fun {c a} h=>by
    have h1:=plP_bd (plOk_of h)
    have h2:placesA c a=(plP c a).map (·.1):=by unfold placesA;rw [if_pos h]
    refine ⟨by rw [h2,List.length_map];omega,fun p hp=>?_⟩
    have h3:=sx_of (both_ok h).2
    rw [places_free h h3.2] at hp
    have:=alL_one p (List.mem_filter.1 hp).1
    omega
  obtain ⟨hL1,hL2⟩:=bd hA0
  obtain ⟨hM1,hM2⟩:=bd hB0
  obtain ⟨B,hB⟩:∃ B,askW A f t=B:=⟨_,rfl⟩
  have hBe:B.party=A.party∧B.frm=f∧B.to=t∧B.sexes=A.sexes∧B.dog=A.dog:=by rw [← hB];exact ⟨rfl,rfl,rfl,rfl,rfl⟩
  obtain ⟨B1,B2,B3,B4,B5⟩:=hBe
  rw [hB] at hB0 eB hsub hM1 hM2
  have hpa:1≤A.party∧A.party≤99:=by
    have h:=(both_ok hA0).2
    unfold askE at h
    split at h
    · exact absurd h (by decide)
    rename_i h1
    exact inB_iff.1 (by simpa using h1)
  have hless:∀ l:List Tk,l.Sublist C.sold→bothE ⟨C.cabins,C.secs,l⟩ A=0∧∀ p ∈ placesA C A,p ∈ placesA ⟨C.cabins,C.secs,l⟩ A:=fun l hl=>by
    have h1:bothE ⟨C.cabins,C.secs,l⟩ A=0:=askP_ok (P:=A.party) hA0 rfl (check_sub hC0 hl) hpa fun t ht=>ask_nobody hA0 t (hl.subset ht)
    exact ⟨h1,fun p hp=>pl_less hA0 h1 rfl hl hp⟩
  obtain ⟨L,hL⟩:∃ L,placesA C A=L:=⟨_,rfl⟩
  obtain ⟨M,hM⟩:∃ M,placesA C B=M:=⟨_,rfl⟩
  rw [hL] at hL1 hL2 hless hsub
  rw [hM] at hM1 hM2 hsub
  have ham:=am_sub hsub
  by_cases hl:0 < C.sold.length
  · have d1:decide ((0:Int) < (C.sold.length:Int))=true:=decide_eq_true (by omega)
    have hub:=up2 x4 (m:=(C.sold.length:Int) - 1) (by omega) (by omega)
    obtain ⟨u,hu⟩:∃ u:Nat,upV x4 ((C.sold.length:Int) - 1)=(u:Int):=⟨(upV x4 ((C.sold.length:Int) - 1)).toNat,by omega⟩
    have hul:u < C.sold.length:=by omega
    have w3:IntKind.wrap .i64 ((C.sold.length:Int) - 1)=(C.sold.length:Int) - 1:=wrap64 (by omega) (by omega)
    have g1:(C.sold.length:Int) - 1 < 9223372036854775807:=by omega
    have g2:C.cabins.length≤100000:=by omega
    have g3:C.sold.length≤100000:=by omega
    obtain ⟨x5,hx5⟩:∃ x,upS x4 ((C.sold.length:Int) - 1)=x:=⟨_,rfl⟩
    have hs:=cut_sub C.sold u
    obtain ⟨hD0,hDs⟩:=hless _ hs
    obtain ⟨D,hD⟩:∃ D,(⟨C.cabins,C.secs,C.sold.take u++C.sold.drop (u+1)⟩:Chart)=D:=⟨_,rfl⟩
    rw [hD] at hD0 hDs
    obtain ⟨hN1,hN2⟩:=bd hD0
    obtain ⟨N,hN⟩:∃ N,placesA D A=N:=⟨_,rfl⟩
    rw [hN] at hDs hN1 hN2
    have ham2:=am_sub hDs
    have eD:(⟨C.cabins,C.secs,D.sold⟩:Chart)=D:=by rw [← hD]
    have hDm:D.sold.map eTk=(C.sold.map eTk).take u++(C.sold.map eTk).drop (u+1):=by rw [← hD,List.map_append,List.map_take,List.map_drop]
    have u0:((u:Int)).toNat=u:=rfl
    have w4:IntKind.wrap .i64 ((u:Int)+1)=((u+1:Nat):Int):=by rw [wrap64 (by omega) (by omega)];rfl
    have u1:(((u+1:Nat):Int)).toNat=u+1:=rfl
    have l1:(List.take u (C.sold.map eTk)).length=u:=by rw [List.length_take,List.length_map];omega
    have c4:D.cabins.length≤maxLen:=by rw [← hD];exact c1
    have eD2:D.cabins=C.cabins∧D.secs=C.secs:=by rw [← hD];exact ⟨rfl,rfl⟩
    by_cases hun:u+1 < C.sold.length
    · have p1:((u+1:Nat):Int) < (C.sold.length:Int):=by omega
      have p2:((u+1:Nat):Int)≤(C.sold.length:Int):=by omega
      have p3:(u:Int)≤(C.sold.length:Int):=by omega
      have p4:u+1+(C.sold.length - (u+1))≤C.sold.length:=by omega
      have p5:u≤C.sold.length:=by omega
      have l2:(List.drop (u+1) (C.sold.map eTk)).length=C.sold.length - (u+1):=by rw [List.length_drop,List.length_map]
      have t2:List.take (C.sold.length - (u+1)) (List.drop (u+1) (C.sold.map eTk))=List.drop (u+1) (C.sold.map eTk):=List.take_of_length_le (by simp)
      have r1:rowsOK 7 (List.take u (C.sold.map eTk))=True:=by rw [← List.map_take,rTk]
      have r2:rowsOK 7 (List.drop (u+1) (C.sold.map eTk))=True:=by rw [← List.map_drop,rTk]
      have hDm:=hDm.symm
      have p6:u+(C.sold.length - (u+1))≤maxLen:=by omega
      have p7:(u+(C.sold.length - (u+1))) * 56≤140737488355328:=by omega
      repeat' (first|(apply nx;with_reducible constructor)|refine uq (by decide) ?_|((first|refine vx env fun Q hQ=>?_|refine vz fun Q hQ=>?_);simp only [vkt,seval,tbE31_law,xbE31_1,aBunk,aBunks,aBunkss,eBunk,eBunks,eTk,rTk,rCabin,rBunks,mBunk,mBunks,mCabin,mTk,aChart,cChart,aAsk,cAsk,shS,pBag,pUp,pFrom,pChartOf,pAskedOf,scopyA,pCopyC,pPlacesX,samong,sselling,List.length_map,hx0,hC,hx1,hA,hx2,hsec,eC,eA,c1,c2,c3,w1,f1,f2,f3,f4,hf,hx3,w2,f5,f6,f7,f8,ht,hx4,eB,B4,hL,hA0,hM,hB0,hL1,hL2,hM1,hM2,ham,d1,g2,g3,w3,g1,hu,hx5,u0,u1,w4,hl,p1,p2,p3,p4,p5,p6,p7,l1,l2,t2,r1,r2,hDm,eD,c4,hD0,hN,hN1,hN2,ham2,Nat.sub_zero,List.drop_zero,Nat.zero_add,decide_true];(try simp only [ite_and]);(repeat' (first|with_reducible assumption|refine And.intro ?_ ?_|intro hp));all_goals (first|(refine hQ _ ?_;clear hQ Q)|(refine hQ _ (fun h=>?_) (fun h=>?_) <;> clear hQ Q <;> (try simp only [vki,reduceCtorEq] at h))|(refine vq ?_;kernel_rfl)|omega|assumption|with_reducible rfl|skip)))
      · exact ⟨_,_,rfl⟩
      · exact ⟨_,_,rfl⟩
      (simp only [vrt,Try.results7,vkt,seval,tbE31_law,xbE31_1,aBunk,aBunks,aBunkss,eBunk,eBunks,eTk,rTk,rCabin,rBunks,mBunk,mBunks,mCabin,mTk,aChart,cChart,aAsk,cAsk,shS,pBag,pUp,pFrom,pChartOf,pAskedOf,scopyA,pCopyC,pPlacesX,samong,sselling,List.length_map];refine Fin.val rfl ?_;(try simp only [AV.le,AV.leL]))
      all_goals first|rfl|(simp;done)
    · have p1:¬ ((u+1:Nat):Int) < (C.sold.length:Int):=by omega
      have p2:((u+1:Nat):Int)≤(C.sold.length:Int):=by omega
      have p3:(u:Int)≤(C.sold.length:Int):=by omega
      have p5:u≤C.sold.length:=by omega
      have hDm2:List.take u (C.sold.map eTk)=D.sold.map eTk:=by rw [hDm,List.drop_of_length_le (by simp;omega),List.append_nil]
      have hDl:D.sold.length=u:=by
        have:=congrArg List.length hDm2
        rw [l1,List.length_map] at this
        exact this.symm
      have p6:D.sold.length≤maxLen:=by omega
      have p7:D.sold.length * 56≤140737488355328:=by omega
      repeat' (first|(apply nx;with_reducible constructor)|refine uq (by decide) ?_|((first|refine vx env fun Q hQ=>?_|refine vz fun Q hQ=>?_);simp only [vkt,seval,tbE31_law,xbE31_1,aBunk,aBunks,aBunkss,eBunk,eBunks,eTk,rTk,rCabin,rBunks,mBunk,mBunks,mCabin,mTk,aChart,cChart,aAsk,cAsk,shS,pBag,pUp,pFrom,pChartOf,pAskedOf,scopyA,pCopyC,pPlacesX,samong,sselling,List.length_map,hx0,hC,hx1,hA,hx2,hsec,eC,eA,c1,c2,c3,w1,f1,f2,f3,f4,hf,hx3,w2,f5,f6,f7,f8,ht,hx4,eB,B4,hL,hA0,hM,hB0,hL1,hL2,hM1,hM2,ham,d1,g2,g3,w3,g1,hu,hx5,u0,u1,w4,hl,p1,p2,p3,p5,p6,p7,hDm2,eD,c4,hD0,hN,hN1,hN2,ham2,Nat.sub_zero,List.drop_zero,List.append_nil,Nat.add_zero,rowsOK_nil,decide_true];(try simp only [ite_and]);(repeat' (first|with_reducible assumption|refine And.intro ?_ ?_|intro hp));all_goals (first|(refine hQ _ ?_;clear hQ Q)|(refine hQ _ (fun h=>?_) (fun h=>?_) <;> clear hQ Q <;> (try simp only [vki,reduceCtorEq] at h))|(refine vq ?_;kernel_rfl)|omega|assumption|with_reducible rfl|skip)))
      · exact ⟨_,_,rfl⟩
      · exact ⟨_,_,rfl⟩
      (simp only [vrt,Try.results7,vkt,seval,tbE31_law,xbE31_1,aBunk,aBunks,aBunkss,eBunk,eBunks,eTk,rTk,rCabin,rBunks,mBunk,mBunks,mCabin,mTk,aChart,cChart,aAsk,cAsk,shS,pBag,pUp,pFrom,pChartOf,pAskedOf,scopyA,pCopyC,pPlacesX,samong,sselling,List.length_map];refine Fin.val rfl ?_;(try simp only [AV.le,AV.leL]))
      all_goals first|rfl|(simp;done)
  · have d1:decide ((0:Int) < (C.sold.length:Int))=false:=decide_eq_false (by omega)
    repeat' (first|(apply nx;with_reducible constructor)|refine uq (by decide) ?_|((first|refine vx env fun Q hQ=>?_|refine vz fun Q hQ=>?_);simp only [vkt,seval,tbE31_law,xbE31_1,aBunk,aBunks,aBunkss,eBunk,eBunks,eTk,rTk,rCabin,rBunks,mBunk,mBunks,mCabin,mTk,aChart,cChart,aAsk,cAsk,shS,pBag,pUp,pFrom,pChartOf,pAskedOf,scopyA,pCopyC,pPlacesX,samong,sselling,List.length_map,hx0,hC,hx1,hA,hx2,hsec,eC,eA,c1,c2,c3,w1,f1,f2,f3,f4,hf,hx3,w2,f5,f6,f7,f8,ht,hx4,eB,B4,hL,hA0,hM,hB0,hL1,hL2,hM1,hM2,ham,d1,decide_true];(try simp only [ite_and]);(repeat' (first|with_reducible assumption|refine And.intro ?_ ?_|intro hp));all_goals (first|(refine hQ _ ?_;clear hQ Q)|(refine hQ _ (fun h=>?_) (fun h=>?_) <;> clear hQ Q <;> (try simp only [vki,reduceCtorEq] at h))|(refine vq ?_;kernel_rfl)|omega|assumption|with_reducible rfl|skip)))
    (simp only [vrt,Try.results7,vkt,seval,tbE31_law,xbE31_1,aBunk,aBunks,aBunkss,eBunk,eBunks,eTk,rTk,rCabin,rBunks,mBunk,mBunks,mCabin,mTk,aChart,cChart,aAsk,cAsk,shS,pBag,pUp,pFrom,pChartOf,pAskedOf,scopyA,pCopyC,pPlacesX,samong,sselling,List.length_map];refine Fin.val rfl ?_;(try simp only [AV.le,AV.leL]))
    all_goals first|rfl|(simp;done)
end Go.Sym.B
