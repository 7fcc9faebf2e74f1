/- Walks and what they compute, joined: part 1. -/
import Derived.Test.YtoapndlmbpphfaaVB2
set_option linter.all false
namespace Go.Sym.B
open Go Go.Sym Go.Proofs Go.Sym.C
theorem _root_.Go.Sym.vj {a b:Prop} (x:a) (y:b):a∧b:=⟨x,y⟩
def _root_.Go.Sym.uq:=@blockK_miss
def _root_.Go.Sym.ux:=@blockK_hit
def _root_.Go.Sym.uz:=@blockK_n
def _root_.Go.Sym.uj:=@blockK_r
def _root_.Go.Sym.uk:=@thenK_x
def _root_.Go.Sym.uw:=@thenK_r
def _root_.Go.Sym.uv:=@thenK_n
def _root_.Go.Sym.vq:=@drawB_of
def _root_.Go.Sym.vx:=@sym_reg
def _root_.Go.Sym.vz:=@sym_cz
def bgH (x:Int):List (Nat × AObj):=[(0,.cells [.v (.int .u64 x)])]
def xsh (s:Int) (k:Nat):Int:=IntKind.u64.wrap (BitVec.ofInt IntKind.u64.bits s ^^^ BitVec.ofInt IntKind.u64.bits (s.fdiv (2 ^ min k IntKind.u64.bits))).toNat
def nxS (x:Int):Int:=IntKind.u64.wrap (IntKind.u64.wrap (x * 2862933555777941757)+3037000493)
def nxV (x:Int):Int:=xsh (IntKind.u64.wrap (xsh (nxS x) 31 * 10723151780598845931)) 30
def tbG2_77:=vj @ty95 (vj @ty97 (vj @ti95.eq_1 @ti97.eq_1))
def xbG2_1:=vj @aI.eq_1 (vj @aB.eq_1 (@bgH.eq_1))
theorem next_fn (x:Int):Fn noB Try.prog 77 [.ptr 0 0] (hasg (bgH x)) (.v (.int .u64 (nxV x))) (hasg (bgH (nxS x))) 0:=by
  have env:Env (fun _=>True) Try.prog tyB (tab []):=mkEnv trivial
  refine Fn.of (A:=fun _=>True) (n0:=1) (D:=noD) (Fn0 Try.func77 rfl (fun vs w=>by kernel_rfl) (by kernel_rfl)) (by simp) (by simp [AV.ids]) ?_ (fun _ _ _ _=>trivial) noD_ok ?_
  · intro i o hi
    have h:=hasg_mem hi
    simp [bgH] at h
    rcases h with ⟨rfl,rfl⟩;simp [AObj.ids,AV.ids,AV.idsL]
  repeat' (first|(apply nx;with_reducible constructor)|refine uq (by decide) ?_|((first|refine vx env fun Q hQ=>?_|refine vz fun Q hQ=>?_);simp only [vkt,seval,tbG2_77,xbG2_1];(try simp only [ite_and]);(repeat' (first|with_reducible assumption|refine And.intro ?_ ?_|intro hp));all_goals (first|(refine hQ _ ?_;clear hQ Q)|(refine hQ _ (fun h=>?_) (fun h=>?_) <;> clear hQ Q <;> (try simp only [vki,reduceCtorEq] at h))|omega|assumption|with_reducible rfl|(refine vq ?_;kernel_rfl)|skip)))
  (simp only [vrt,Try.results77,vkt,seval,tbG2_77,xbG2_1];refine Fin.ok some [] ?_ ?_ ?_ ?_ ?_ rfl;all_goals (try simp only [vle,vkt,seval,tbG2_77,xbG2_1]))
  all_goals rfl
def p77 (S:St):List AV→Option Pk
  |[.ptr i 0]=>match S.h i with
    |some (.cells [.v (.int .u64 x)])=>some { hs:=[i],ar:=[.ptr 0 0],L0:=[.cells [.v (.int .u64 x)]],v:=.v (.int .u64 (nxV x)),L1:=[some (.cells [.v (.int .u64 (nxS x))])] }
    |_=>none
  |_=>none
theorem e77 {A:Frm→Prop}:EntryOK A Try.prog 77 (fnE p77):=fnE_ok fun S bs q h hp=>by
  unfold p77 at h
  split at h
  · split at h
    · cases h;exact next_fn _
    · cases h
  · cases h
def upV0 (x m:Int):Int:=if m < 1 then 0 else IntKind.i64.wrap (((nxV x).fdiv (2 ^ min 13 IntKind.u64.bits)).tmod (IntKind.u64.wrap (IntKind.i64.wrap (m+1))))
def upS0 (x m:Int):Int:=if m < 1 then x else nxS x
theorem up_ex:∃ f:Int→Int→Int × Int,∀ x m,f x m=(upV0 x m,upS0 x m):=⟨fun x m=>(upV0 x m,upS0 x m),fun _ _=>rfl⟩
noncomputable def upV (x m:Int):Int:=(Classical.choose up_ex x m).1
noncomputable def upS (x m:Int):Int:=(Classical.choose up_ex x m).2
theorem upV_eq (x m:Int):upV x m=upV0 x m:=by unfold upV;rw [Classical.choose_spec up_ex]
theorem upS_eq (x m:Int):upS x m=upS0 x m:=by unfold upS;rw [Classical.choose_spec up_ex]
theorem wrapU2 {n:Int} (h0:0≤n) (h1:n < 18446744073709551616):IntKind.u64.wrap n=n:=by
  unfold IntKind.wrap
  simp only [IntKind.bits,IntKind.signed]
  simp
  omega
theorem wrapU_nn (n:Int):0≤IntKind.u64.wrap n:=by
  unfold IntKind.wrap
  simp only [IntKind.bits,IntKind.signed]
  simp
  omega
theorem upV_bd {x m:Int} (h:m < 9223372036854775807):0≤upV x m∧(upV x m≤m∨upV x m=0):=by
  rw [upV_eq]
  unfold upV0
  split
  · exact ⟨Int.le_refl _,.inr rfl⟩
  · have h1:IntKind.i64.wrap (m+1)=m+1:=wrap64 (by omega) (by omega)
    have h2:IntKind.u64.wrap (m+1)=m+1:=wrapU2 (by omega) (by omega)
    rw [h1,h2]
    have h3:0≤(nxV x).fdiv (2 ^ min 13 IntKind.u64.bits):=Int.fdiv_nonneg (by unfold nxV xsh;exact wrapU_nn _) (by decide)
    rw [Int.tmod_eq_emod_of_nonneg h3]
    have h4:=Int.emod_nonneg ((nxV x).fdiv (2 ^ min 13 IntKind.u64.bits)) (show m+1 ≠ 0 by omega)
    have h5:=Int.emod_lt_of_pos ((nxV x).fdiv (2 ^ min 13 IntKind.u64.bits)) (show 0 < m+1 by omega)
    rw [wrap64 (by omega) (by omega)]
    omega
def tbG2_22:=vj @ty3 (vj @ty95 (vj @ti3.eq_1 @ti95.eq_1))
def xbG2_2:=vj @aI.eq_1 (vj @aB.eq_1 (vj @bgH.eq_1 (vj @p77.eq_1 (@p77.eq_2))))
theorem up_fn (x m:Int) (h:m < 9223372036854775807):Fn noB Try.prog 22 [.ptr 0 0,aI m] (hasg (bgH x)) (aI (upV x m)) (hasg (bgH (upS x m))) 0:=by
  have env:Env (fun _=>True) Try.prog tyB (tab [(77,fnE p77)]):=mkEnv ⟨e77,trivial⟩
  refine Fn.of (A:=fun _=>True) (n0:=1) (D:=noD) (Fn0 Try.func22 rfl (fun vs w=>by kernel_rfl) (by kernel_rfl)) (by simp) (by simp [AV.ids,AV.idsL,aI]) ?_ (fun _ _ _ _=>trivial) noD_ok ?_
  · intro i o hi
    have h:=hasg_mem hi
    simp [bgH] at h
    rcases h with ⟨rfl,rfl⟩;simp [AObj.ids,AV.ids,AV.idsL]
  rw [upV_eq,upS_eq]
  by_cases c1:m < 1
  · rw [show upV0 x m=0 from if_pos c1,show upS0 x m=x from if_pos c1]
    repeat' (first|(apply nx;with_reducible constructor)|refine uq (by decide) ?_|((first|refine vx env fun Q hQ=>?_|refine vz fun Q hQ=>?_);simp only [vkt,seval,tbG2_22,xbG2_2,c1];(try simp only [ite_and]);(repeat' (first|with_reducible assumption|refine And.intro ?_ ?_|intro hp));all_goals (first|(refine hQ _ ?_;clear hQ Q)|(refine hQ _ (fun h=>?_) (fun h=>?_) <;> clear hQ Q <;> (try simp only [vki,reduceCtorEq] at h))|omega|assumption|with_reducible rfl|(refine vq ?_;kernel_rfl)|skip)))
    (simp only [vrt,Try.results22,vkt,seval,tbG2_22,xbG2_2];refine Fin.ok some [] ?_ ?_ ?_ ?_ ?_ rfl;all_goals (try simp only [vle,vkt,seval,tbG2_22,xbG2_2]))
    all_goals simp
  · rw [show upV0 x m=_ from if_neg c1,show upS0 x m=_ from if_neg c1]
    have h1:IntKind.i64.wrap (m+1)=m+1:=wrap64 (by omega) (by omega)
    have h2:IntKind.u64.wrap (m+1)=m+1:=wrapU2 (by omega) (by omega)
    have h0:¬ m+1=0:=by omega
    repeat' (first|(apply nx;with_reducible constructor)|refine uq (by decide) ?_|((first|refine vx env fun Q hQ=>?_|refine vz fun Q hQ=>?_);simp only [vkt,seval,tbG2_22,xbG2_2,c1,h1,h2,h0];(try simp only [ite_and]);(repeat' (first|with_reducible assumption|refine And.intro ?_ ?_|intro hp));all_goals (first|(refine hQ _ ?_;clear hQ Q)|(refine hQ _ (fun h=>?_) (fun h=>?_) <;> clear hQ Q <;> (try simp only [vki,reduceCtorEq] at h))|omega|assumption|with_reducible rfl|(refine vq ?_;kernel_rfl)|skip)))
    (simp only [vrt,Try.results22,vkt,seval,tbG2_22,xbG2_2];refine Fin.ok some [] ?_ ?_ ?_ ?_ ?_ rfl;all_goals (try simp only [vle,vkt,seval,tbG2_22,xbG2_2]))
    all_goals (first|rfl|rw [h1,h2])
noncomputable def p22 (S:St):List AV→Option Pk
  |[.ptr i 0,.v (.int .i64 m)]=>match S.h i with
    |some (.cells [.v (.int .u64 x)])=>some { pre:=m < 9223372036854775807,hs:=[i],ar:=[.ptr 0 0,.v (.int .i64 m)],L0:=[.cells [.v (.int .u64 x)]],v:=.v (.int .i64 (upV x m)),L1:=[some (.cells [.v (.int .u64 (upS x m))])] }
    |_=>none
  |_=>none
theorem e22 {A:Frm→Prop}:EntryOK A Try.prog 22 (fnE p22):=fnE_ok fun S bs q h hp=>by
  unfold p22 at h
  split at h
  · split at h
    · cases h;exact up_fn _ _ hp
    · cases h
  · cases h
def tbG2_21:=vj @ty3 @ti3.eq_1
def xbG2_3:=vj @aI.eq_1 (vj @aB.eq_1 (vj @bgH.eq_1 (vj @p22.eq_1 (@p22.eq_2))))
theorem from_fn (x a b:Int) (h:-100000≤a∧a≤100000∧-100000≤b∧b≤100000):Fn noB Try.prog 21 [.ptr 0 0,aI a,aI b] (hasg (bgH x)) (aI (a+upV x (b - a))) (hasg (bgH (upS x (b - a)))) 0:=by
  have env:Env (fun _=>True) Try.prog tyB (tab [(22,fnE p22)]):=mkEnv ⟨e22,trivial⟩
  refine Fn.of (A:=fun _=>True) (n0:=1) (D:=noD) (Fn0 Try.func21 rfl (fun vs w=>by kernel_rfl) (by kernel_rfl)) (by simp) (by simp [AV.ids,AV.idsL,aI]) ?_ (fun _ _ _ _=>trivial) noD_ok ?_
  · intro i o hi
    have h:=hasg_mem hi
    simp [bgH] at h
    rcases h with ⟨rfl,rfl⟩;simp [AObj.ids,AV.ids,AV.idsL]
  have b1:=upV_bd (x:=x) (m:=b - a) (by omega)
  have h1:IntKind.i64.wrap (b - a)=b - a:=wrap64 (by omega) (by omega)
  have h2:IntKind.i64.wrap (a+upV x (b - a))=a+upV x (b - a):=wrap64 (by omega) (by omega)
  have h3:b - a < 9223372036854775807:=by omega
  repeat' (first|(apply nx;with_reducible constructor)|refine uq (by decide) ?_|((first|refine vx env fun Q hQ=>?_|refine vz fun Q hQ=>?_);simp only [vkt,seval,tbG2_21,xbG2_3,h1,h2];(try simp only [ite_and]);(repeat' (first|with_reducible assumption|refine And.intro ?_ ?_|intro hp));all_goals (first|(refine hQ _ ?_;clear hQ Q)|(refine hQ _ (fun h=>?_) (fun h=>?_) <;> clear hQ Q <;> (try simp only [vki,reduceCtorEq] at h))|omega|assumption|with_reducible rfl|(refine vq ?_;kernel_rfl)|skip)))
  (simp only [vrt,Try.results21,vkt,seval,tbG2_21,xbG2_3];refine Fin.ok some [] ?_ ?_ ?_ ?_ ?_ rfl;all_goals (try simp only [vle,vkt,seval,tbG2_21,xbG2_3]))
  all_goals rfl
noncomputable def p21 (S:St):List AV→Option Pk
  |[.ptr i 0,.v (.int .i64 a),.v (.int .i64 b)]=>match S.h i with
    |some (.cells [.v (.int .u64 x)])=>some { pre:=-100000≤a∧a≤100000∧-100000≤b∧b≤100000,hs:=[i],ar:=[.ptr 0 0,.v (.int .i64 a),.v (.int .i64 b)],L0:=[.cells [.v (.int .u64 x)]],v:=.v (.int .i64 (a+upV x (b - a))),L1:=[some (.cells [.v (.int .u64 (upS x (b - a)))])] }
    |_=>none
  |_=>none
theorem e21 {A:Frm→Prop}:EntryOK A Try.prog 21 (fnE p21):=fnE_ok fun S bs q h hp=>by
  unfold p21 at h
  split at h
  · split at h
    · cases h;exact from_fn _ _ _ hp
    · cases h
  · cases h
def nbK (l:List Int):Nat→Int
  |0=>11400714819323198485
  |k+1=>xsh (IntKind.u64.wrap (IntKind.u64.wrap (nbK l k+IntKind.u64.wrap (l.getD k 0)) * 13787848793156543929)) 29
def nbS (l:List Int):Int:=nbK l l.length
def nbI (l:List Int) (k:Nat):St:={ t:=asg [(0,aInts l),(3,.ptr 0 0),(4,aI k)],h:=hasg (bgH (nbK l k)),n:=1 }
def tbG2_20:=vj @ty3 (vj @ty22 (vj @ty95 (vj @ty97 (vj @ti3.eq_1 (vj @ti22.eq_1 (vj @ti95.eq_1 @ti97.eq_1))))))
def xbG2_4:=vj @aI.eq_1 (vj @aB.eq_1 (vj @bgH.eq_1 (vj @nbI.eq_1 (vj @aInts.eq_1 (vj @gInt (@eInt.eq_1))))))
theorem bag_fn (l:List Int) (hl:l.length≤maxLen):Fn noB Try.prog 20 [aInts l] noH (.ptr 0 0) (hasg (bgH (nbS l))) 0:=by
  have env:Env (fun _=>True) Try.prog tyB (tab []):=mkEnv trivial
  refine Fn.of (A:=fun _=>True) (n0:=0) (D:=noD) (Fn0 Try.func20 rfl (fun vs w=>by kernel_rfl) (by kernel_rfl)) (by simp) (by simp [AV.ids,AV.idsL,aInts]) (fun i o h=>by cases h) (fun _ _ _ _=>trivial) noD_ok ?_
  repeat' (first|(apply nx;with_reducible constructor)|refine uq (by decide) ?_|((first|refine vx env fun Q hQ=>?_|refine vz fun Q hQ=>?_);simp only [vkt,seval,tbG2_20,xbG2_4];(try simp only [ite_and]);(repeat' (first|with_reducible assumption|refine And.intro ?_ ?_|intro hp));all_goals (first|(refine hQ _ ?_;clear hQ Q)|(refine hQ _ (fun h=>?_) (fun h=>?_) <;> clear hQ Q <;> (try simp only [vki,reduceCtorEq] at h))|omega|assumption|with_reducible rfl|(refine vq ?_;kernel_rfl)|skip)))
  refine sym_loop (fun k:{ k:Nat // k≤l.length }=>nbI l k.1) (fun k=>l.length - k.1) ⟨0,Nat.zero_le _⟩ ?_ fun ⟨k,hk⟩=>?_
  · (refine Le.ok some [] ?_;constructor;all_goals (try simp only [vle,vkt,seval,tbG2_20,xbG2_4]))
    all_goals first|rfl|simp
  · repeat' (first|(apply nx;with_reducible constructor)|refine uq (by decide) ?_)
    (refine vx env fun Q hQ=>?_;simp only [vkt,seval,tbG2_20,xbG2_4];(try simp only [ite_and]);(repeat' (first|with_reducible assumption|refine And.intro ?_ ?_|intro hp));all_goals (first|(refine hQ _ ?_;clear hQ Q)|omega|assumption|with_reducible rfl|(refine vq ?_;kernel_rfl)|skip))
    repeat' (first|(apply nx;with_reducible constructor)|refine uq (by decide) ?_)
    (refine sym_cd (by simp only [vkt,seval,tbG2_20,xbG2_4];rfl) (fun h=>?_) (fun h=>?_) <;> (try simp only [vki,reduceCtorEq] at h))
    · have hlt:k < l.length:=by omega
      have e9:=wrap_succ hlt hl
      repeat' (first|(apply nx;with_reducible constructor)|refine uq (by decide) ?_|((first|refine vx env fun Q hQ=>?_|refine vz fun Q hQ=>?_);simp only [vkt,seval,tbG2_20,xbG2_4,e9];(try simp only [ite_and]);(repeat' (first|with_reducible assumption|refine And.intro ?_ ?_|intro hp));all_goals (first|(refine hQ _ ?_;clear hQ Q)|(refine hQ _ (fun h=>?_) (fun h=>?_) <;> clear hQ Q <;> (try simp only [vki,reduceCtorEq] at h))|omega|assumption|with_reducible rfl|(refine vq ?_;kernel_rfl)|skip)))
      refine ⟨⟨k+1,hlt⟩,by show l.length - (k+1) < l.length - k;omega, ?_⟩
      (refine Le.ok some [] ?_;constructor;all_goals (try simp only [vle,vkt,seval,tbG2_20,xbG2_4]))
      all_goals first|rfl|(simp [e9];done)
    · have hkn:k=l.length:=by omega
      subst hkn
      repeat' (first|(apply nx;with_reducible constructor)|refine uq (by decide) ?_|((first|refine vx env fun Q hQ=>?_|refine vz fun Q hQ=>?_);simp only [vkt,seval,tbG2_20,xbG2_4];(try simp only [ite_and]);(repeat' (first|with_reducible assumption|refine And.intro ?_ ?_|intro hp));all_goals (first|(refine hQ _ ?_;clear hQ Q)|(refine hQ _ (fun h=>?_) (fun h=>?_) <;> clear hQ Q <;> (try simp only [vki,reduceCtorEq] at h))|omega|assumption|with_reducible rfl|(refine vq ?_;kernel_rfl)|skip)))
      (simp only [vrt,Try.results20,vkt,seval,tbG2_20,xbG2_4];refine Fin.ok some [] ?_ ?_ ?_ ?_ ?_ rfl;all_goals (try simp only [vle,vkt,seval,tbG2_20,xbG2_4]))
      all_goals rfl
def p20 (_:St):List AV→Option Pk
  |[.sl xs]=>some { pre:=xs=(xs.map dInt).map eInt∧xs.length≤maxLen,ar:=[.sl xs],v:=.ptr 0 0,L1:=[some (.cells [.v (.int .u64 (nbS (xs.map dInt)))])] }
  |_=>none
theorem e20 {A:Frm→Prop}:EntryOK A Try.prog 20 (fnE p20):=fnE_ok fun S bs q h hp=>by
  unfold p20 at h
  split at h <;> cases h
  have:=bag_fn (List.map dInt _) (by rw [List.length_map];exact hp.2)
  simp only [aInts,← hp.1] at this
  exact this
end Go.Sym.B
namespace Go.Sym.B
open Go Go.Sym Go.Proofs Go.Sym.C
structure RI (n0 d0 k:Nat) where
  n:Nat
  d:Nat
  n1:1≤n
  n2:n≤n0
  d1:1≤d
  d2:d≤d0
  e:n * d0=d * n0
  c:∀ j,k < j→j≤12→¬ (j ∣ n∧j ∣ d)
def RI.div {n0 d0 k:Nat} (i:RI n0 d0 k) (hk:2≤k) (h1:k ∣ i.n) (h2:k ∣ i.d):RI n0 d0 k where
  n:=i.n / k
  d:=i.d / k
  n1:=Nat.div_pos (Nat.le_of_dvd i.n1 h1) (by omega)
  n2:=Nat.le_trans (Nat.div_le_self _ _) i.n2
  d1:=Nat.div_pos (Nat.le_of_dvd i.d1 h2) (by omega)
  d2:=Nat.le_trans (Nat.div_le_self _ _) i.d2
  e:=by
    obtain ⟨a,ha⟩:=h1
    obtain ⟨b,hb⟩:=h2
    have:=i.e
    rw [ha,hb] at this ⊢
    rw [Nat.mul_div_cancel_left _ (by omega),Nat.mul_div_cancel_left _ (by omega)]
    rw [Nat.mul_assoc,Nat.mul_assoc] at this
    exact Nat.eq_of_mul_eq_mul_left (by omega) this
  c:=fun j hj hl h=>i.c j hj hl ⟨Nat.dvd_trans h.1 (Nat.div_dvd_of_dvd h1),Nat.dvd_trans h.2 (Nat.div_dvd_of_dvd h2)⟩
def RI.less {n0 d0 k:Nat} (i:RI n0 d0 (k+1)) (h:¬ (k+1 ∣ i.n∧k+1 ∣ i.d)):RI n0 d0 k where
  n:=i.n
  d:=i.d
  n1:=i.n1
  n2:=i.n2
  d1:=i.d1
  d2:=i.d2
  e:=i.e
  c:=fun j hj hl hh=>by
    rcases Nat.lt_or_eq_of_le (Nat.succ_le_of_lt hj) with h1|h1
    · exact i.c j h1 hl hh
    · subst h1;exact h hh
theorem RI.last {n0 d0:Nat} (i:RI n0 d0 1) (hd:d0≤12) (hd1:1≤d0):shQ (mkRat n0 d0)=⟨i.n,i.d⟩:=by
  have hg:Nat.gcd i.n i.d=1:=by
    have h1:=Nat.gcd_dvd_left i.n i.d
    have h2:=Nat.gcd_dvd_right i.n i.d
    have h3:0 < Nat.gcd i.n i.d:=Nat.gcd_pos_of_pos_left _ i.n1
    have h4:=Nat.le_of_dvd i.d1 h2
    have h5:=i.d2
    rcases Nat.lt_or_eq_of_le h3 with h6|h6
    · exact absurd ⟨h1,h2⟩ (i.c _ h6 (by omega))
    · exact h6.symm
  have hd0:d0 ≠ 0:=by omega
  have hid:i.d ≠ 0:=by have:=i.d1;omega
  have he:mkRat (n0:Int) d0=mkRat (i.n:Int) i.d:=by
    rw [Rat.mkRat_eq_iff hd0 hid]
    have:=i.e
    rw [Nat.mul_comm i.d] at this
    exact_mod_cast this.symm
  have hp:(0:Int) < (i.d:Int):=by have:=i.d1;omega
  have e1:=mk_num (a:=(i.n:Int)) hp
  have e2:=mk_den (a:=(i.n:Int)) hp
  simp only [Int.toNat_natCast,Int.natAbs_natCast,hg] at e1 e2
  simp only [shQ,he,e1,e2]
  simp
noncomputable def rtN (x:Int):Int:=1+upV (upS x (12 - 1)) (20 - 1)
noncomputable def rtD (x:Int):Int:=1+upV x (12 - 1)
noncomputable def rtV (x:Int):Sh:=shQ (mkRat (rtN x) (rtD x).toNat)
noncomputable def rtS (x:Int):Int:=upS (upS x (12 - 1)) (20 - 1)
theorem rt_bd7 (x:Int):(1≤rtN x∧rtN x≤20)∧1≤rtD x∧rtD x≤12:=by
  have h1:=upV_bd (x:=upS x (12 - 1)) (m:=20 - 1) (by decide)
  have h2:=upV_bd (x:=x) (m:=12 - 1) (by decide)
  unfold rtN rtD
  omega
def rtT (x:Int) (k n d:Nat):St:={ t:=asg [(2,.ptr 1 0),(3,aI d),(4,aI n),(5,aI k)],h:=hasg [(0,.cells [.v (.int .u64 x)]),(1,.cells [.v (.int .i64 0),.v (.int .i64 0)])],n:=2,m:=1 }
theorem tmodN (a b:Nat):((a:Int)).tmod (b:Int)=((a % b:Nat):Int):=rfl
theorem tdivN (a b:Nat):((a:Int)).tdiv (b:Int)=((a / b:Nat):Int):=rfl
theorem wdiv {a b:Nat} (h:a≤1000):IntKind.wrap .i64 ((a:Int).tdiv (b:Int))=((a / b:Nat):Int):=by
  rw [tdivN]
  have:=Nat.div_le_self a b
  generalize a / b=q at *
  exact wrap64 (by omega) (by omega)
def tbG7_84:=vj @ty3 (vj @ty59 (vj @ti3.eq_1 @ti59.eq_1))
def xbG7_1:=vj @aI.eq_1 (vj @aB.eq_1 (vj @aSh.eq_1 (vj @bgH.eq_1 (vj @p21.eq_1 (vj @p21.eq_2 (vj @rtT.eq_1 (@tmodN)))))))
theorem rateOf_fn (x:Int):Fn noB Try.prog 84 [.ptr 0 0] (hasg (bgH x)) (aSh (rtV x)) (hasg (bgH (rtS x))) 0:=by
  have env:Env (fun _=>True) Try.prog tyB (tab [(21,fnE p21)]):=mkEnv ⟨e21,trivial⟩
  refine Fn.of (A:=fun _=>True) (n0:=1) (D:=noD) (Fn0 Try.func84 rfl (fun vs w=>by kernel_rfl) (by kernel_rfl)) (by simp) (by simp [AV.ids]) ?_ (fun _ _ _ _=>trivial) noD_ok ?_
  · intro i o hi
    have h:=hasg_mem hi
    simp [bgH] at h
    rcases h with ⟨rfl,rfl⟩;simp [AObj.ids,AV.ids,AV.idsL]
  have hb:=rt_bd7 x
  obtain ⟨n0,hn0⟩:∃ n:Nat,rtN x=(n:Int):=⟨(rtN x).toNat,by omega⟩
  obtain ⟨d0,hd0⟩:∃ n:Nat,rtD x=(n:Int):=⟨(rtD x).toNat,by omega⟩
  rw [hn0,hd0] at hb
  have hV:rtV x=shQ (mkRat n0 d0):=by unfold rtV;rw [hn0,hd0];rfl
  have hn0':1+upV (upS x (12 - 1)) (20 - 1)=(n0:Int):=hn0
  have hd0':1+upV x (12 - 1)=(d0:Int):=hd0
  have hS:upS (upS x (12 - 1)) (20 - 1)=rtS x:=rfl
  repeat' (first|(apply nx;with_reducible constructor)|refine uq (by decide) ?_|((first|refine vx env fun Q hQ=>?_|refine vz fun Q hQ=>?_);simp only [vkt,seval,-Int.reduceSub,-Int.reduceAdd,-Int.reduceMul,tbG7_84,xbG7_1,hn0',hd0',hS];(try simp only [ite_and]);(repeat' (first|with_reducible assumption|refine And.intro ?_ ?_|intro hp));all_goals (first|(refine hQ _ ?_;clear hQ Q)|(refine hQ _ (fun h=>?_) (fun h=>?_) <;> clear hQ Q <;> (try simp only [vki,reduceCtorEq] at h))|omega|assumption|with_reducible rfl|(refine vq ?_;kernel_rfl)|skip)))
  refine sym_loop (fun i:(k:{ k:Nat // 1≤k∧k≤12 }) × RI n0 d0 k.1=>rtT (rtS x) i.1.1 i.2.n i.2.d) (fun i=>i.1.1) ⟨⟨12,by decide⟩,⟨n0,d0,by omega,Nat.le_refl _,by omega,Nat.le_refl _,Nat.mul_comm _ _,fun j h1 h2=>by have:12 < j:=h1;omega⟩⟩ ?_ fun ⟨⟨k,hk⟩,i⟩=>?_
  · (refine Le.ok some [] ?_;constructor;all_goals (try simp only [vle,vkt,seval,-Int.reduceSub,-Int.reduceAdd,-Int.reduceMul,tbG7_84,xbG7_1]))
    all_goals first|rfl|(simp;done)
  · repeat' (first|(apply nx;with_reducible constructor)|refine uq (by decide) ?_)
    (refine vx env fun Q hQ=>?_;simp only [vkt,seval,-Int.reduceSub,-Int.reduceAdd,-Int.reduceMul,tbG7_84,xbG7_1];(try simp only [ite_and]);(repeat' (first|with_reducible assumption|refine And.intro ?_ ?_|intro hp));all_goals (first|(refine hQ _ ?_;clear hQ Q)|omega|assumption|with_reducible rfl|(refine vq ?_;kernel_rfl)|skip))
    repeat' (first|(apply nx;with_reducible constructor)|refine uq (by decide) ?_)
    (refine sym_cd (by simp only [vkt,seval,-Int.reduceSub,-Int.reduceAdd,-Int.reduceMul,tbG7_84,xbG7_1];rfl) (fun h=>?_) (fun h=>?_) <;> (try simp only [vki,reduceCtorEq] at h))
    · have hk2:1 < k:=by omega
      repeat' (first|(apply nx;with_reducible constructor)|refine uq (by decide) ?_)
      refine sym_loop (fun i:RI n0 d0 k=>rtT (rtS x) k i.n i.d) (fun i=>i.n) i ?_ fun i=>?_
      · (refine Le.ok some [] ?_;constructor;all_goals (try simp only [vle,vkt,seval,-Int.reduceSub,-Int.reduceAdd,-Int.reduceMul,tbG7_84,xbG7_1]))
        all_goals first|rfl|(simp;done)
      · have i1:=i.n1
        have i2:=i.n2
        have i3:=i.d1
        have i4:=i.d2
        have nz:¬ (k:Int)=0:=by omega
        have r1:i.n % k=0 ↔ k ∣ i.n:=(Nat.dvd_iff_mod_eq_zero ..).symm
        have r2:i.d % k=0 ↔ k ∣ i.d:=(Nat.dvd_iff_mod_eq_zero ..).symm
        have w1:IntKind.wrap .i64 ((i.n:Int).tdiv (k:Int))=((i.n / k:Nat):Int):=wdiv (by omega)
        have w2:IntKind.wrap .i64 ((i.d:Int).tdiv (k:Int))=((i.d / k:Nat):Int):=wdiv (by omega)
        have w3:IntKind.wrap .i64 ((k:Int) - 1)=((k - 1:Nat):Int):=by rw [wrap64 (by omega) (by omega)];omega
        by_cases c1:i.n % k=0
        · by_cases c2:i.d % k=0
          · have c1':(((i.n % k:Nat):Int)=0):=by omega
            have c2':(((i.d % k:Nat):Int)=0):=by omega
            repeat' (first|(apply nx;with_reducible constructor)|refine uq (by decide) ?_|((first|refine vx env fun Q hQ=>?_|refine vz fun Q hQ=>?_);simp only [vkt,seval,-Int.reduceSub,-Int.reduceAdd,-Int.reduceMul,tbG7_84,xbG7_1,nz,c1',c2',w1,w2];(try simp only [ite_and]);(repeat' (first|with_reducible assumption|refine And.intro ?_ ?_|intro hp));all_goals (first|(refine hQ _ ?_;clear hQ Q)|(refine hQ _ (fun h=>?_) (fun h=>?_) <;> clear hQ Q <;> (try simp only [vki,reduceCtorEq] at h))|omega|assumption|with_reducible rfl|(refine vq ?_;kernel_rfl)|skip)))
            refine ⟨i.div (by omega) (r1.1 c1) (r2.1 c2),by show i.n / k < i.n;exact Nat.div_lt_self (by omega) hk2, ?_⟩
            (refine Le.ok some [] ?_;constructor;all_goals (try simp only [vle,vkt,seval,-Int.reduceSub,-Int.reduceAdd,-Int.reduceMul,tbG7_84,xbG7_1]))
            all_goals first|rfl|(simp [RI.div];done)
          · have c1':(((i.n % k:Nat):Int)=0):=by omega
            have c2':¬ (((i.d % k:Nat):Int)=0):=by omega
            obtain ⟨m,rfl⟩:∃ m,k=m+1:=⟨k - 1,by omega⟩
            repeat' (first|(apply nx;with_reducible constructor)|refine uq (by decide) ?_|((first|refine vx env fun Q hQ=>?_|refine vz fun Q hQ=>?_);simp only [vkt,seval,-Int.reduceSub,-Int.reduceAdd,-Int.reduceMul,tbG7_84,xbG7_1,nz,c1',c2',w3];(try simp only [ite_and]);(repeat' (first|with_reducible assumption|refine And.intro ?_ ?_|intro hp));all_goals (first|(refine hQ _ ?_;clear hQ Q)|(refine hQ _ (fun h=>?_) (fun h=>?_) <;> clear hQ Q <;> (try simp only [vki,reduceCtorEq] at h))|omega|assumption|with_reducible rfl|(refine vq ?_;kernel_rfl)|skip)))
            refine ⟨⟨⟨m,by omega,by omega⟩,i.less fun h=>c2 (r2.2 h.2)⟩,by show m < m+1;omega, ?_⟩
            (refine Le.ok some [] ?_;constructor;all_goals (try simp only [vle,vkt,seval,-Int.reduceSub,-Int.reduceAdd,-Int.reduceMul,tbG7_84,xbG7_1]))
            all_goals first|rfl|(simp [RI.less];done)
        · have c1':¬ (((i.n % k:Nat):Int)=0):=by omega
          obtain ⟨m,rfl⟩:∃ m,k=m+1:=⟨k - 1,by omega⟩
          repeat' (first|(apply nx;with_reducible constructor)|refine uq (by decide) ?_|((first|refine vx env fun Q hQ=>?_|refine vz fun Q hQ=>?_);simp only [vkt,seval,-Int.reduceSub,-Int.reduceAdd,-Int.reduceMul,tbG7_84,xbG7_1,nz,c1',w3];(try simp only [ite_and]);(repeat' (first|with_reducible assumption|refine And.intro ?_ ?_|intro hp));all_goals (first|(refine hQ _ ?_;clear hQ Q)|(refine hQ _ (fun h=>?_) (fun h=>?_) <;> clear hQ Q <;> (try simp only [vki,reduceCtorEq] at h))|omega|assumption|with_reducible rfl|(refine vq ?_;kernel_rfl)|skip)))
          refine ⟨⟨⟨m,by omega,by omega⟩,i.less fun h=>c1 (r1.2 h.1)⟩,by show m < m+1;omega, ?_⟩
          (refine Le.ok some [] ?_;constructor;all_goals (try simp only [vle,vkt,seval,-Int.reduceSub,-Int.reduceAdd,-Int.reduceMul,tbG7_84,xbG7_1]))
          all_goals first|rfl|(simp [RI.less];done)
    · have hk1:k=1:=by omega
      subst hk1
      have hl:=i.last (by omega) (by omega)
      rw [hV,hl]
      repeat' (first|(apply nx;with_reducible constructor)|refine uq (by decide) ?_|((first|refine vx env fun Q hQ=>?_|refine vz fun Q hQ=>?_);simp only [vkt,seval,-Int.reduceSub,-Int.reduceAdd,-Int.reduceMul,tbG7_84,xbG7_1];(try simp only [ite_and]);(repeat' (first|with_reducible assumption|refine And.intro ?_ ?_|intro hp));all_goals (first|(refine hQ _ ?_;clear hQ Q)|(refine hQ _ (fun h=>?_) (fun h=>?_) <;> clear hQ Q <;> (try simp only [vki,reduceCtorEq] at h))|omega|assumption|with_reducible rfl|(refine vq ?_;kernel_rfl)|skip)))
      (simp only [vrt,Try.results84,vkt,seval,-Int.reduceSub,-Int.reduceAdd,-Int.reduceMul,tbG7_84,xbG7_1];refine Fin.ok some [] ?_ ?_ ?_ ?_ ?_ rfl;all_goals (try simp only [vle,vkt,seval,-Int.reduceSub,-Int.reduceAdd,-Int.reduceMul,tbG7_84,xbG7_1]))
      all_goals first|rfl|(simp;done)
noncomputable def p84 (S:St):List AV→Option Pk
  |[.ptr i 0]=>match S.h i with
    |some (.cells [.v (.int .u64 x)])=>some { hs:=[i],ar:=[.ptr 0 0],L0:=[.cells [.v (.int .u64 x)]],v:=.agg [.v (.int .i64 (rtV x).num),.v (.int .i64 (rtV x).den)],L1:=[some (.cells [.v (.int .u64 (rtS x))])],fl:=true }
    |_=>none
  |_=>none
theorem e84 {A:Frm→Prop}:EntryOK A Try.prog 84 (fnE p84):=fnE_ok fun S bs q h hp=>by
  unfold p84 at h
  split at h
  · split at h
    · cases h;exact rateOf_fn _
    · cases h
  · cases h
noncomputable def oneV (x:Int) (l:List Int):Int:=l.getD (upV x ((l.length:Int) - 1)).toNat 0
theorem upV_le {x m:Int} (h0:0≤m) (h:m < 9223372036854775807):0≤upV x m∧upV x m≤m:=by
  have:=upV_bd (x:=x) h;omega
theorem oneV_mem {x:Int} {l:List Int} (h1:1≤l.length) (h2:l.length≤100):oneV x l ∈ l:=by
  have:=upV_le (x:=x) (m:=(l.length:Int) - 1) (by omega) (by omega)
  exact gMem (by omega)
def tbG7_85:=vj @ty3 (vj @ty22 (vj @ti3.eq_1 @ti22.eq_1))
def xbG7_2:=vj @aI.eq_1 (vj @aB.eq_1 (vj @aInts.eq_1 (vj @bgH.eq_1 (vj @p22.eq_1 (vj @p22.eq_2 (vj @gInt (@eInt.eq_1)))))))
theorem one_fn (x:Int) (l:List Int) (h1:1≤l.length) (h2:l.length≤100):Fn noB Try.prog 85 [.ptr 0 0,aInts l] (hasg (bgH x)) (aI (oneV x l)) (hasg (bgH (upS x ((l.length:Int) - 1)))) 0:=by
  have env:Env (fun _=>True) Try.prog tyB (tab [(22,fnE p22)]):=mkEnv ⟨e22,trivial⟩
  refine Fn.of (A:=fun _=>True) (n0:=1) (D:=noD) (Fn0 Try.func85 rfl (fun vs w=>by kernel_rfl) (by kernel_rfl)) (by simp) (by simp [AV.ids,AV.idsL,aInts]) ?_ (fun _ _ _ _=>trivial) noD_ok ?_
  · intro i o hi
    have h:=hasg_mem hi
    simp [bgH] at h
    rcases h with ⟨rfl,rfl⟩;simp [AObj.ids,AV.ids,AV.idsL]
  have hu:=upV_le (x:=x) (m:=(l.length:Int) - 1) (by omega) (by omega)
  have w1:IntKind.wrap .i64 ((l.length:Int) - 1)=(l.length:Int) - 1:=wrap64 (by omega) (by omega)
  have nz:¬ (l.length:Int)=0:=by omega
  have h3:(l.length:Int) - 1 < 9223372036854775807:=by omega
  have h4:(upV x ((l.length:Int) - 1)).toNat < l.length:=by omega
  repeat' (first|(apply nx;with_reducible constructor)|refine uq (by decide) ?_|((first|refine vx env fun Q hQ=>?_|refine vz fun Q hQ=>?_);simp only [vkt,seval,-Int.reduceSub,-Int.reduceAdd,-Int.reduceMul,tbG7_85,xbG7_2,w1,nz];(try simp only [ite_and]);(repeat' (first|with_reducible assumption|refine And.intro ?_ ?_|intro hp));all_goals (first|(refine hQ _ ?_;clear hQ Q)|(refine hQ _ (fun h=>?_) (fun h=>?_) <;> clear hQ Q <;> (try simp only [vki,reduceCtorEq] at h))|omega|assumption|with_reducible rfl|(refine vq ?_;kernel_rfl)|skip)))
  (simp only [vrt,Try.results85,vkt,seval,-Int.reduceSub,-Int.reduceAdd,-Int.reduceMul,tbG7_85,xbG7_2];refine Fin.ok some [] ?_ ?_ ?_ ?_ ?_ rfl;all_goals (try simp only [vle,vkt,seval,-Int.reduceSub,-Int.reduceAdd,-Int.reduceMul,tbG7_85,xbG7_2]))
  all_goals first|rfl|(simp;done)
noncomputable def p85 (S:St):List AV→Option Pk
  |[.ptr i 0,.row r]=>match S.h i with
    |some (.cells [.v (.int .u64 x)])=>match S.h r with
      |some (.row _ _ xs)=>some { pre:=xs=(xs.map dInt).map eInt∧1≤xs.length∧xs.length≤100,hs:=[i],bo:=[r],ar:=[.ptr 0 0,.sl xs],L0:=[.cells [.v (.int .u64 x)]],v:=.v (.int .i64 (oneV x (xs.map dInt))),L1:=[some (.cells [.v (.int .u64 (upS x ((xs.length:Int) - 1)))])],fl:=true }
      |_=>none
    |_=>none
  |_=>none
theorem e85 {A:Frm→Prop}:EntryOK A Try.prog 85 (fnE p85):=fnE_ok fun S bs q h hp=>by
  unfold p85 at h
  split at h
  · split at h
    · split at h
      · cases h
        obtain ⟨h1,h2,h3⟩:=hp
        rename_i x _ _ _ _ xs _
        have:=one_fn x (List.map dInt xs) (by rw [List.length_map];exact h2) (by rw [List.length_map];exact h3)
        simp only [aInts,← h1,List.length_map] at this
        exact this
      · cases h
    · cases h
  · cases h
def tbG7_71:=vj @ty3 @ti3.eq_1
def xbG7_3:=vj @aI.eq_1 (vj @aB.eq_1 (vj @aInts.eq_1 (vj @bgH.eq_1 (vj @p22.eq_1 (@p22.eq_2)))))
theorem chance_fn (x n m:Int) (h1:1≤m) (h2:m≤1000):Fn noB Try.prog 71 [.ptr 0 0,aI n,aI m] (hasg (bgH x)) (aB (decide (upV x (m - 1) < n))) (hasg (bgH (upS x (m - 1)))) 0:=by
  have env:Env (fun _=>True) Try.prog tyB (tab [(22,fnE p22)]):=mkEnv ⟨e22,trivial⟩
  refine Fn.of (A:=fun _=>True) (n0:=1) (D:=noD) (Fn0 Try.func71 rfl (fun vs w=>by kernel_rfl) (by kernel_rfl)) (by simp) (by simp [AV.ids,AV.idsL,aI]) ?_ (fun _ _ _ _=>trivial) noD_ok ?_
  · intro i o hi
    have h:=hasg_mem hi
    simp [bgH] at h
    rcases h with ⟨rfl,rfl⟩;simp [AObj.ids,AV.ids,AV.idsL]
  have w1:IntKind.wrap .i64 (m - 1)=m - 1:=wrap64 (by omega) (by omega)
  have h3:m - 1 < 9223372036854775807:=by omega
  repeat' (first|(apply nx;with_reducible constructor)|refine uq (by decide) ?_|((first|refine vx env fun Q hQ=>?_|refine vz fun Q hQ=>?_);simp only [vkt,seval,-Int.reduceSub,-Int.reduceAdd,-Int.reduceMul,tbG7_71,xbG7_3,w1];(try simp only [ite_and]);(repeat' (first|with_reducible assumption|refine And.intro ?_ ?_|intro hp));all_goals (first|(refine hQ _ ?_;clear hQ Q)|(refine hQ _ (fun h=>?_) (fun h=>?_) <;> clear hQ Q <;> (try simp only [vki,reduceCtorEq] at h))|omega|assumption|with_reducible rfl|(refine vq ?_;kernel_rfl)|skip)))
  (simp only [vrt,Try.results71,vkt,seval,-Int.reduceSub,-Int.reduceAdd,-Int.reduceMul,tbG7_71,xbG7_3];refine Fin.ok some [] ?_ ?_ ?_ ?_ ?_ rfl;all_goals (try simp only [vle,vkt,seval,-Int.reduceSub,-Int.reduceAdd,-Int.reduceMul,tbG7_71,xbG7_3]))
  all_goals first|rfl|(simp;done)
noncomputable def p71 (S:St):List AV→Option Pk
  |[.ptr i 0,.v (.int .i64 n),.v (.int .i64 m)]=>match S.h i with
    |some (.cells [.v (.int .u64 x)])=>some { pre:=1≤m∧m≤1000,hs:=[i],ar:=[.ptr 0 0,.v (.int .i64 n),.v (.int .i64 m)],L0:=[.cells [.v (.int .u64 x)]],v:=.v (.bool (decide (upV x (m - 1) < n))),L1:=[some (.cells [.v (.int .u64 (upS x (m - 1)))])],fl:=true }
    |_=>none
  |_=>none
theorem e71 {A:Frm→Prop}:EntryOK A Try.prog 71 (fnE p71):=fnE_ok fun S bs q h hp=>by
  unfold p71 at h
  split at h
  · split at h
    · cases h;exact chance_fn _ _ _ hp.1 hp.2
    · cases h
  · cases h
def foldV (x n:Int):Int:=if n < 2 then 0 else (x.tmod n+n).tmod n
def tbG7_54:=vj @ty3 @ti3.eq_1
def xbG7_4:=vj @aI.eq_1 (@aB.eq_1)
theorem fold_fn (x n:Int) (h2:n≤1000000):FnV Try.prog 54 [aI x,aI n] (aI (foldV x n)):=by
  have env:Env (fun _=>True) Try.prog tyB (tab []):=mkEnv trivial
  refine Fn.of (A:=fun _=>True) (n0:=0) (D:=noD) (Fn0 Try.func54 rfl (fun vs w=>by kernel_rfl) (by kernel_rfl)) (by simp) (by simp [AV.ids,AV.idsL,aI]) (fun i o h=>by cases h) (fun _ _ _ _=>trivial) noD_ok ?_
  by_cases c1:n < 2
  · repeat' (first|(apply nx;with_reducible constructor)|refine uq (by decide) ?_|((first|refine vx env fun Q hQ=>?_|refine vz fun Q hQ=>?_);simp only [vkt,seval,-Int.reduceSub,-Int.reduceAdd,-Int.reduceMul,tbG7_54,xbG7_4,c1];(try simp only [ite_and]);(repeat' (first|with_reducible assumption|refine And.intro ?_ ?_|intro hp));all_goals (first|(refine hQ _ ?_;clear hQ Q)|(refine hQ _ (fun h=>?_) (fun h=>?_) <;> clear hQ Q <;> (try simp only [vki,reduceCtorEq] at h))|omega|assumption|with_reducible rfl|(refine vq ?_;kernel_rfl)|skip)))
    (simp only [vrt,Try.results54,vkt,seval,-Int.reduceSub,-Int.reduceAdd,-Int.reduceMul,tbG7_54,xbG7_4];refine Fin.val rfl ?_;(try simp only [AV.le,AV.leL]))
    all_goals simp [foldV,c1]
  · have nz:¬ n=0:=by omega
    have h3:x.tmod n < n:=Int.tmod_lt_of_pos x (by omega)
    have h5:-n < x.tmod n:=Int.lt_tmod_of_pos x (by omega)
    have w1:IntKind.wrap .i64 (x.tmod n+n)=x.tmod n+n:=wrap64 (by omega) (by omega)
    repeat' (first|(apply nx;with_reducible constructor)|refine uq (by decide) ?_|((first|refine vx env fun Q hQ=>?_|refine vz fun Q hQ=>?_);simp only [vkt,seval,-Int.reduceSub,-Int.reduceAdd,-Int.reduceMul,tbG7_54,xbG7_4,c1,nz,w1];(try simp only [ite_and]);(repeat' (first|with_reducible assumption|refine And.intro ?_ ?_|intro hp));all_goals (first|(refine hQ _ ?_;clear hQ Q)|(refine hQ _ (fun h=>?_) (fun h=>?_) <;> clear hQ Q <;> (try simp only [vki,reduceCtorEq] at h))|omega|assumption|with_reducible rfl|(refine vq ?_;kernel_rfl)|skip)))
    (simp only [vrt,Try.results54,vkt,seval,-Int.reduceSub,-Int.reduceAdd,-Int.reduceMul,tbG7_54,xbG7_4];refine Fin.val rfl ?_;(try simp only [AV.le,AV.leL]))
    all_goals simp [foldV,c1]
def s54:List AV→Prop × AV
  |[.v (.int .i64 x),.v (.int .i64 n)]=>(n≤1000000,aI (foldV x n))
  |_=>(False,.junk)
theorem e54 {A:Frm→Prop}:EntryOK A Try.prog 54 (valE true s54):=valE_ok fun vs _ h=>by
  unfold s54 at h ⊢
  split at h
  · exact ⟨trivial,fun _=>trivial,fold_fn _ _ h⟩
  · exact h.elim
theorem foldV_bd {x n:Int} (h:1≤n):0≤foldV x n∧foldV x n < n:=by
  unfold foldV
  split
  · omega
  · have h5:-n < x.tmod n:=Int.lt_tmod_of_pos x (by omega)
    have h1:0≤x.tmod n+n:=by omega
    rw [Int.tmod_eq_emod_of_nonneg h1]
    exact ⟨Int.emod_nonneg _ (by omega),Int.emod_lt_of_pos _ (by omega)⟩
end Go.Sym.B
namespace Go.Sym.B
open Go Go.Sym Go.Proofs Go.Sym.C
noncomputable def pcK (x:Int):Nat→List Int × Int
  |0=>([1],x)
  |k+1=>((pcK x k).1++[(pcK x k).1.getD k 0+(1+upV (pcK x k).2 (12 - 1))],upS (pcK x k).2 (12 - 1))
structure PcOk (p:List Int) (k:Nat):Prop where
  len:p.length=k+1
  one:p.getD 0 0=1
  up:∀ i,i < k→p.getD i 0 < p.getD (i+1) 0
  le:∀ i,i≤k→1≤p.getD i 0∧p.getD i 0≤1+12 * (i:Int)
theorem getD_snocL {α:Type} {l:List α} {v d:α} {i:Nat} (h:i < l.length):(l++[v]).getD i d=l.getD i d:=by
  simp [List.getD_eq_getElem?_getD,List.getElem?_append_left h]
theorem getD_snocR {α:Type} {l:List α} {v d:α} {i:Nat} (h:i=l.length):(l++[v]).getD i d=v:=by
  subst h;simp [List.getD_eq_getElem?_getD]
theorem pcK_ok (x:Int):∀ k,PcOk (pcK x k).1 k
  |0=>⟨rfl,rfl,fun i h=>by omega,fun i h=>by
      obtain rfl:i=0:=by omega
      simp [pcK]⟩
  |k+1=>by
    have ih:=pcK_ok x k
    have hu:=upV_bd (x:=(pcK x k).2) (m:=12 - 1) (by decide)
    have hl:=ih.len
    have hk:=ih.le k (Nat.le_refl _)
    rw [pcK]
    refine ⟨by simp [hl],by rw [getD_snocL (by omega)];exact ih.one,fun i hi=>?_,fun i hi=>?_⟩
    · rcases Nat.lt_or_eq_of_le (Nat.le_of_lt_succ hi) with h|h
      · rw [getD_snocL (by omega),getD_snocL (by omega)];exact ih.up i h
      · subst h;rw [getD_snocL (by omega),getD_snocR hl.symm];omega
    · rcases Nat.lt_or_eq_of_le hi with h|h
      · rw [getD_snocL (by omega)];exact ih.le i (by omega)
      · subst h;rw [getD_snocR hl.symm];omega
structure CoS where
  cs:List (List Int)
  ss:List Int
  x:Int
noncomputable def coStep (s:CoS):CoS:=⟨s.cs++[(pcK (upS s.x 3) (upV s.x 3).toNat).1],s.ss++[upV (pcK (upS s.x 3) (upV s.x 3).toNat).2 200],upS (pcK (upS s.x 3) (upV s.x 3).toNat).2 200⟩
noncomputable def coK (x:Int):Nat→CoS
  |0=>⟨[],[],x⟩
  |k+1=>coStep (coK x k)
theorem coK_succ (x:Int) (k:Nat):coK x (k+1)=coStep (coK x k):=rfl
structure CoOk (s:CoS) (k:Nat):Prop where
  c:s.cs.length=k
  l:s.ss.length=k
  p:∀ q ∈ s.cs,∃ j,j≤3∧PcOk q j
  v:∀ n ∈ s.ss,0≤n∧n≤200
theorem coK_ok (x:Int):∀ k,CoOk (coK x k) k
  |0=>⟨rfl,rfl,fun q hq=>by simp [coK] at hq,fun q hq=>by simp [coK] at hq⟩
  |k+1=>by
    have ih:=coK_ok x k
    rw [coK_succ]
    unfold coStep
    have h1:=upV_bd (x:=(coK x k).x) (m:=3) (by decide)
    have h2:=upV_bd (x:=(pcK (upS (coK x k).x 3) (upV (coK x k).x 3).toNat).2) (m:=200) (by decide)
    refine ⟨by simp [ih.c],by simp [ih.l],fun q hq=>?_,fun q hq=>?_⟩
    · rcases List.mem_append.1 hq with hq|hq
      · exact ih.p q hq
      · obtain rfl:=List.mem_singleton.1 hq
        exact ⟨_,by omega,pcK_ok _ _⟩
    · rcases List.mem_append.1 hq with hq|hq
      · exact ih.v q hq
      · obtain rfl:=List.mem_singleton.1 hq
        omega
noncomputable def rtK (x:Int):Nat→List Sh × Int
  |0=>([⟨1,1⟩],x)
  |k+1=>((rtK x k).1++[rtV (rtK x k).2],rtS (rtK x k).2)
structure ShOk (s:Sh):Prop where
  n:1≤s.num∧s.num≤20
  d:1≤s.den∧s.den≤12
  r:s=shQ (mkRat s.num s.den.toNat)
theorem shQ_ok {q:Rat} (h1:1≤q.num∧q.num≤20) (h2:(q.den:Int)≤12):ShOk (shQ q) :=
  ⟨h1,⟨by have:=den_pos q;show (1:Int)≤(q.den:Int);omega,h2⟩,by show shQ q=shQ (mkRat q.num (q.den:Int).toNat);rw [Int.toNat_natCast,Rat.mkRat_self]⟩
theorem mkq_bd {n d:Int} (hn:1≤n∧n≤20) (hd:1≤d∧d≤12):(1≤(mkRat n d.toNat).num∧(mkRat n d.toNat).num≤20)∧((mkRat n d.toNat).den:Int)≤12:=by
  have hq:(0:Int) < d:=by omega
  have e1:=mk_num_le (a:=n) hq
  have e2:=mk_den_le (a:=n) hq
  have hp:0 < (mkRat n d.toNat).num:=by
    have hm:=mk_num (a:=n) hq
    have h5:0 < Nat.gcd n.natAbs d.toNat:=Nat.gcd_pos_of_pos_left _ (by omega)
    have h6:=Nat.gcd_dvd_left n.natAbs d.toNat
    rw [hm]
    generalize Nat.gcd n.natAbs d.toNat=g at *
    obtain ⟨q,hq⟩:=h6
    have h7:n=(g:Int) * (q:Int):=by
      rw [show n=(n.natAbs:Int) by omega,hq];exact Int.natCast_mul g q
    rw [h7,Int.mul_tdiv_cancel_left _ (by omega)]
    rcases Nat.eq_zero_or_pos q with h8|h8
    · subst h8;simp at h7;omega
    · omega
  omega
theorem rtV_ok (x:Int):ShOk (rtV x):=by
  have h:=mkq_bd (rt_bd7 x).1 (rt_bd7 x).2
  unfold rtV
  exact shQ_ok h.1 h.2
structure RwOk (r:List Sh) (m:Nat):Prop where
  len:r.length=m
  one:r.getD 0 default=⟨1,1⟩
  all:∀ s ∈ r,ShOk s
theorem rtK_ok (x:Int):∀ k,RwOk (rtK x k).1 (k+1)
  |0=>⟨rfl,rfl,fun s hs=>by
    obtain rfl:=List.mem_singleton.1 hs
    exact ⟨by decide,by decide,by decide +kernel⟩⟩
  |k+1=>by
    have ih:=rtK_ok x k
    rw [rtK]
    refine ⟨by simp [ih.len],by rw [getD_snocL (by have:=ih.len;omega)];exact ih.one,fun s hs=>?_⟩
    rcases List.mem_append.1 hs with hs|hs
    · exact ih.all s hs
    · obtain rfl:=List.mem_singleton.1 hs
      exact rtV_ok _
noncomputable def dyK (m:Nat) (x:Int):Nat→List (List Sh) × Int
  |0=>([],x)
  |k+1=>((dyK m x k).1++[(rtK (dyK m x k).2 m).1],(rtK (dyK m x k).2 m).2)
theorem dyK_ok (m:Nat) (x:Int):∀ k,(dyK m x k).1.length=k∧∀ r ∈ (dyK m x k).1,RwOk r (m+1)
  |0=>⟨rfl,fun r h=>by simp [dyK] at h⟩
  |k+1=>by
    obtain ⟨h1,h2⟩:=dyK_ok m x k
    rw [dyK]
    refine ⟨by simp [h1],fun r hr=>?_⟩
    rcases List.mem_append.1 hr with hr|hr
    · exact h2 r hr
    · obtain rfl:=List.mem_singleton.1 hr
      exact rtK_ok _ _
structure EnS where
  day:Int
  till:List Int
  es:List Ent
  x:Int
noncomputable def enD (R:Nat) (s:EnS):Int:=s.day+upV s.x (min (s.day+1) ((R:Int) - 1) - s.day)
noncomputable def enX1 (R:Nat) (s:EnS):Int:=upS s.x (min (s.day+1) ((R:Int) - 1) - s.day)
def kinds:List Int:=[1,2,3,3,3,4]
noncomputable def enS1 (s:EnS) (day coin x:Int):EnS:=⟨day,s.till.set coin.toNat (s.till.getD coin.toNat 0+upV x 90),s.es++[⟨day,1,coin,0,upV x 90,0⟩],upS x 90⟩
noncomputable def enS2 (s:EnS) (day coin x:Int):EnS:=⟨day,s.till.set coin.toNat (s.till.getD coin.toNat 0 - upV x (min (s.till.getD coin.toNat 0) 90)),s.es++[⟨day,2,coin,0,upV x (min (s.till.getD coin.toNat 0) 90),0⟩],upS x (min (s.till.getD coin.toNat 0) 90)⟩
noncomputable def enF (x:Int):Int:=-3+upV x (3 - -3)
noncomputable def enA4 (h x:Int):Int:=max 0 (min 999 (h+oneV (upS x (3 - -3)) [0,enF x]))
noncomputable def enS4 (s:EnS) (day coin x:Int):EnS:=⟨day,s.till.set coin.toNat (enA4 (s.till.getD coin.toNat 0) x),s.es++[⟨day,4,coin,0,enA4 (s.till.getD coin.toNat 0) x,0⟩],upS (upS x (3 - -3)) ((2:Nat) - 1)⟩
def enG0 (rs:List (List Sh)) (day coin to am:Int):Int :=
  (am * ((rs.getD day.toNat []).getD coin.toNat default).num * ((rs.getD day.toNat []).getD to.toNat default).den).tdiv (((rs.getD day.toNat []).getD coin.toNat default).den * ((rs.getD day.toNat []).getD to.toNat default).num)
def enS3b (s:EnS) (day coin to am got x:Int):EnS :=
  if 999 < got then ⟨day,s.till,s.es,x⟩ else ⟨day,(s.till.set coin.toNat (s.till.getD coin.toNat 0 - am)).set to.toNat (s.till.getD to.toNat 0+got),s.es++[⟨day,3,coin,to,am,got⟩],x⟩
noncomputable def enS3a (rs:List (List Sh)) (w:Int) (s:EnS) (day coin to am x:Int):EnS :=
  if upV x (10 - 1) < w then enS3b s day coin to am (enG0 rs day coin to am+(1+upV (upS x (10 - 1)) (3 - 1))) (upS (upS x (10 - 1)) (3 - 1))
  else enS3b s day coin to am (enG0 rs day coin to am) (upS x (10 - 1))
noncomputable def enTo (C:Nat) (coin x:Int):Int:=foldV (coin+(1+upV x ((C:Int) - 1 - 1))) C
noncomputable def enS3 (C:Nat) (rs:List (List Sh)) (w:Int) (s:EnS) (day coin x:Int):EnS :=
  if C=1 then ⟨day,s.till,s.es,x⟩ else
  enS3a rs w s day coin (enTo C coin x) (upV (upS x ((C:Int) - 1 - 1)) (min (s.till.getD coin.toNat 0) 40)) (upS (upS x ((C:Int) - 1 - 1)) (min (s.till.getD coin.toNat 0) 40))
noncomputable def enS0 (C:Nat) (rs:List (List Sh)) (w:Int) (s:EnS) (day kind coin x:Int):EnS :=
  if kind=1 then enS1 s day coin x else if kind=2 then enS2 s day coin x else if kind=4 then enS4 s day coin x else enS3 C rs w s day coin x
noncomputable def enK0 (R:Nat) (s:EnS):Int:=oneV (enX1 R s) kinds
noncomputable def enX2 (R:Nat) (s:EnS):Int:=upS (enX1 R s) ((6:Nat) - 1)
noncomputable def enStep (C:Nat) (rs:List (List Sh)) (w:Int) (s:EnS):EnS :=
  enS0 C rs w s (enD rs.length s) (enK0 rs.length s) (upV (enX2 rs.length s) ((C:Int) - 1)) (upS (enX2 rs.length s) ((C:Int) - 1))
noncomputable def enK (C:Nat) (rs:List (List Sh)) (w:Int) (s:EnS):Nat→EnS
  |0=>s
  |k+1=>enStep C rs w (enK C rs w s k)
structure EnI (C R k:Nat) (s:EnS):Prop where
  d0:0≤s.day
  d1:s.day≤(R:Int) - 1
  len:s.till.length=C
  b:∀ v ∈ s.till,0≤v∧v≤999 * ((k:Int)+1)
  es:s.es.length≤k
theorem enD_bd {C R k:Nat} {s:EnS} (h:EnI C R k s) (hR:R≤100):s.day≤enD R s∧enD R s≤(R:Int) - 1:=by
  have h0:=h.d0
  have h1:=h.d1
  have:=upV_le (x:=s.x) (m:=min (s.day+1) ((R:Int) - 1) - s.day) (by omega) (by omega)
  unfold enD
  omega
structure EnJ (C R k:Nat) (s:EnS) (day coin:Int):Prop where
  i:EnI C R k s
  d0:0≤day
  d1:day≤(R:Int) - 1
  c0:0≤coin
  c1:coin≤(C:Int) - 1
theorem EnJ.h {C R k:Nat} {s:EnS} {day coin:Int} (j:EnJ C R k s day coin):0≤s.till.getD coin.toNat 0∧s.till.getD coin.toNat 0≤999 * ((k:Int)+1):=by
  have:=j.c0
  have:=j.c1
  have:=j.i.len
  exact j.i.b _ (gMem (by omega))
theorem mem_set_bd {l:List Int} {i:Nat} {v:Int} {P:Int→Prop} (h:∀ x ∈ l,P x) (hv:P v):∀ x ∈ l.set i v,P x:=fun x hx=>by
  rcases List.mem_or_eq_of_mem_set hx with h1|h1
  · exact h x h1
  · exact h1 ▸ hv
theorem EnJ.bd {C R k:Nat} {s:EnS} {day coin:Int} (j:EnJ C R k s day coin):∀ v ∈ s.till,0≤v∧v≤999 * (((k+1:Nat):Int)+1):=fun v hv=>by
  have:=j.i.b v hv;omega
theorem EnJ.set {C R k:Nat} {s:EnS} {day coin:Int} (j:EnJ C R k s day coin) {v:Int} {e:Ent} {x:Int} (h:0≤v∧v≤999 * ((k:Int)+1)+999):EnI C R (k+1) ⟨day,s.till.set coin.toNat v,s.es++[e],x⟩ :=
  ⟨j.d0,j.d1,by simp [j.i.len],mem_set_bd j.bd (by omega),by simp;exact j.i.es⟩
theorem enA4_bd (h x:Int):0≤enA4 h x∧enA4 h x≤999:=by unfold enA4;omega
theorem enS3b_ok {C R k:Nat} {s:EnS} {day coin:Int} (j:EnJ C R k s day coin) {to am got x:Int} (ha:0≤am) (ha':am≤s.till.getD coin.toNat 0) (ht:0≤to∧to < C) (hg:0≤got):EnI C R (k+1) (enS3b s day coin to am got x):=by
  unfold enS3b
  have hh:=j.h
  have hl:=j.i.len
  split
  · exact ⟨j.d0,j.d1,hl,j.bd,Nat.le_succ_of_le j.i.es⟩
  · have h2:=j.i.b _ (gMem (l:=s.till) (k:=to.toNat) (d:=0) (by omega))
    exact ⟨j.d0,j.d1,by simp [hl],mem_set_bd (mem_set_bd j.bd (by omega)) (by omega),by simp;exact j.i.es⟩
theorem enG0_bd {rs:List (List Sh)} {day coin to am:Int} (h1:ShOk ((rs.getD day.toNat []).getD coin.toNat default)) (h2:ShOk ((rs.getD day.toNat []).getD to.toNat default)) (ha:0≤am) (ha':am≤40) :
    0≤enG0 rs day coin to am∧enG0 rs day coin to am≤9600:=by
  unfold enG0
  have a1:=h1.n
  have a2:=h1.d
  have a3:=h2.n
  have a4:=h2.d
  generalize ((rs.getD day.toNat []).getD coin.toNat default).num=p at *
  generalize ((rs.getD day.toNat []).getD coin.toNat default).den=q at *
  generalize ((rs.getD day.toNat []).getD to.toNat default).num=r at *
  generalize ((rs.getD day.toNat []).getD to.toNat default).den=u at *
  have m1:0≤am * p * u:=Int.mul_nonneg (Int.mul_nonneg ha (by omega)) (by omega)
  have m2:am * p≤40 * 20:=Int.mul_le_mul ha' a1.2 (by omega) (by omega)
  have m3:am * p * u≤40 * 20 * 12:=Int.mul_le_mul m2 a4.2 (by omega) (by omega)
  have m4:0 < q * r:=Int.mul_pos (by omega) (by omega)
  rw [Int.tdiv_eq_ediv_of_nonneg m1]
  refine ⟨Int.ediv_nonneg m1 (by omega),Int.le_trans (Int.ediv_le_self _ m1) (by omega)⟩
structure RsOk (rs:List (List Sh)) (C:Nat):Prop where
  len:1≤rs.length∧rs.length≤4
  all:∀ r ∈ rs,RwOk r C
theorem RsOk.sh {rs:List (List Sh)} {C:Nat} (h:RsOk rs C) {day coin:Int} (h1:0≤day) (h2:day≤(rs.length:Int) - 1) (h3:0≤coin) (h4:coin≤(C:Int) - 1):ShOk ((rs.getD day.toNat []).getD coin.toNat default):=by
  have hr:=h.all _ (gMem (l:=rs) (k:=day.toNat) (d:=[]) (by omega))
  exact hr.all _ (gMem (by have:=hr.len;omega))
theorem enS0_ok {C k:Nat} {rs:List (List Sh)} (hr:RsOk rs C) (hC:1≤C∧C≤4) {w:Int} {s:EnS} {day coin:Int} (j:EnJ C rs.length k s day coin) (kind x:Int):EnI C rs.length (k+1) (enS0 C rs w s day kind coin x):=by
  have hh:=j.h
  have hc0:=j.c0
  have hc1:=j.c1
  unfold enS0
  split
  · unfold enS1
    have:=upV_le (x:=x) (m:=90) (by decide) (by decide)
    exact j.set (by omega)
  split
  · unfold enS2
    have:=upV_bd (x:=x) (m:=min (s.till.getD coin.toNat 0) 90) (by omega)
    exact j.set (by omega)
  split
  · unfold enS4
    have:=enA4_bd (s.till.getD coin.toNat 0) x
    exact j.set (by omega)
  · unfold enS3
    split
    · exact ⟨j.d0,j.d1,j.i.len,j.bd,Nat.le_succ_of_le j.i.es⟩
    · have ht:0≤enTo C coin x∧enTo C coin x < C:=foldV_bd (by omega)
      generalize enTo C coin x=to at *
      generalize upS x ((C:Int) - 1 - 1)=y
      have ha:=upV_bd (x:=y) (m:=min (s.till.getD coin.toNat 0) 40) (by omega)
      generalize upV y (min (s.till.getD coin.toNat 0) 40)=am at *
      have s1:=hr.sh j.d0 j.d1 hc0 hc1
      have s2:=hr.sh j.d0 j.d1 ht.1 (show to≤(C:Int) - 1 by omega)
      have hg:=enG0_bd s1 s2 (am:=am) (by omega) (by omega)
      unfold enS3a
      split
      · have:=upV_bd (x:=upS (upS y (min (s.till.getD coin.toNat 0) 40)) (10 - 1)) (m:=3 - 1) (by decide)
        exact enS3b_ok j (by omega) (by omega) ht (by omega)
      · exact enS3b_ok j (by omega) (by omega) ht (by omega)
theorem enJ_of {C k:Nat} {rs:List (List Sh)} (hr:RsOk rs C) (hC:1≤C∧C≤4) {s:EnS} (h:EnI C rs.length k s):EnJ C rs.length k s (enD rs.length s) (upV (enX2 rs.length s) ((C:Int) - 1)):=by
  have h1:=enD_bd h (by have:=hr.len;omega)
  have h2:=upV_le (x:=enX2 rs.length s) (m:=(C:Int) - 1) (by omega) (by omega)
  exact ⟨h,by have:=h.d0;omega,h1.2,h2.1,h2.2⟩
theorem enK_ok {C:Nat} {rs:List (List Sh)} (hr:RsOk rs C) (hC:1≤C∧C≤4) {w:Int} {s:EnS} (h:EnI C rs.length 0 s):∀ k,EnI C rs.length k (enK C rs w s k)
  |0=>h
  |k+1=>enS0_ok hr hC (enJ_of hr hC (enK_ok hr hC h k)) _ _
noncomputable def lg1 (x c:Int):CoS:=coK (upS x (c - 1)) (1+upV x (c - 1)).toNat
noncomputable def lg2 (x c d:Int):List (List Sh) × Int:=dyK ((lg1 x c).cs.length - 1) (upS (lg1 x c).x (d - 1)) (1+upV (lg1 x c).x (d - 1)).toNat
noncomputable def lg3 (x c d e w:Int):EnS:=enK (lg1 x c).cs.length (lg2 x c d).1 w ⟨0,(lg1 x c).ss,[],upS (lg2 x c d).2 e⟩ (upV (lg2 x c d).2 e).toNat
noncomputable def lgL (x c d e w:Int):Led:=⟨(lg1 x c).cs,(lg2 x c d).1,(lg1 x c).ss,(lg3 x c d e w).es⟩
noncomputable def lgS (x c d e w:Int):Int:=(lg3 x c d e w).x
end Go.Sym.B
namespace Go.Sym.B
open Go Go.Sym Go.Proofs Go.Sym.C
def tbG9_23:=vj @ty3 (vj @ty22 (vj @ti3.eq_1 @ti22.eq_1))
def xbG9_1:=vj @aI.eq_1 (vj @aB.eq_1 (vj @aInts.eq_1 (@rInt)))
theorem copyR_fn (l:List Int) (hl:l.length≤100000):Fn noB Try.prog 23 [aInts l] noH (.row 0) (hasg [(0,.row 3 1 (l.map eInt))]) 0:=by
  have env:Env (fun _=>True) Try.prog tyB (tab []):=mkEnv trivial
  refine Fn.of (A:=fun _=>True) (n0:=0) (D:=noD) (Fn0 Try.func23 rfl (fun vs w=>by kernel_rfl) (by kernel_rfl)) (by simp) (by simp [AV.ids,AV.idsL,aInts]) (fun i o h=>by cases h) (fun _ _ _ _=>trivial) noD_ok ?_
  obtain ⟨b1,b2,b3,b4⟩:=b47 hl
  repeat' (first|(apply nx;with_reducible constructor)|refine uq (by decide) ?_|((first|refine vx env fun Q hQ=>?_|refine vz fun Q hQ=>?_);simp only [vkt,Nat.reduceEqDiff,Nat.reduceAdd,Nat.reduceMul,Nat.reduceSub,Nat.reduceLeDiff,reduceCtorEq,↓reduceIte,↓reduceDIte,Int.reduceToNat,Int.reduceLE,Int.reduceLT,Int.reduceEq,Int.reduceNeg,tbG9_23,xbG9_1];(try simp only [ite_and]);(repeat' (first|with_reducible assumption|refine And.intro ?_ ?_|intro hp));all_goals (first|(refine hQ _ ?_;clear hQ Q)|(refine hQ _ (fun h=>?_) (fun h=>?_) <;> clear hQ Q <;> (try simp only [vki,reduceCtorEq] at h))|omega|assumption|with_reducible rfl|(refine vq ?_;kernel_rfl)|skip)))
  (simp only [vrt,Try.results23,vkt,Nat.reduceEqDiff,Nat.reduceAdd,Nat.reduceMul,Nat.reduceSub,Nat.reduceLeDiff,reduceCtorEq,↓reduceIte,↓reduceDIte,Int.reduceToNat,Int.reduceLE,Int.reduceLT,Int.reduceEq,Int.reduceNeg,tbG9_23,xbG9_1];refine Fin.ok some [] ?_ ?_ ?_ ?_ ?_ rfl;all_goals (try simp only [vle,vkt,Nat.reduceEqDiff,Nat.reduceAdd,Nat.reduceMul,Nat.reduceSub,Nat.reduceLeDiff,reduceCtorEq,↓reduceIte,↓reduceDIte,Int.reduceToNat,Int.reduceLE,Int.reduceLT,Int.reduceEq,Int.reduceNeg,tbG9_23,xbG9_1]))
  all_goals first|rfl|(simp;done)
theorem flInt (l:List Int):(∀ r ∈ l.map eInt,∀ d ∈ r,∃ x,d=DV.v x)=True:=by
  simp [eInt]
def p23r (S:St):List AV→Option Pk
  |[.row r]=>match S.h r with
    |some (.row _ _ xs)=>some { pre:=xs=(xs.map dInt).map eInt∧xs.length≤100000,bo:=[r],ar:=[.sl xs],v:=.row 0,L1:=[some (.row 3 1 xs)],fl:=true }
    |_=>none
  |[.sl xs]=>some { pre:=xs=(xs.map dInt).map eInt∧xs.length≤100000,ar:=[.sl xs],v:=.row 0,L1:=[some (.row 3 1 xs)] }
  |_=>none
theorem e23r {A:Frm→Prop}:EntryOK A Try.prog 23 (fnE p23r):=fnE_ok fun S bs q h hp=>by
  unfold p23r at h
  split at h
  · split at h
    · cases h
      rename_i xs _
      have:=copyR_fn (List.map dInt xs) (by rw [List.length_map];exact hp.2)
      simp only [aInts,← hp.1] at this
      exact this
    · cases h
  · cases h
    rename_i xs
    have:=copyR_fn (List.map dInt xs) (by rw [List.length_map];exact hp.2)
    simp only [aInts,← hp.1] at this
    exact this
  · cases h
theorem pcK_1 (y:Int) (j:Nat):(pcK y (j+1)).1=(pcK y j).1++[(pcK y j).1.getD j 0+(1+upV (pcK y j).2 (12 - 1))]:=rfl
theorem pcK_2 (y:Int) (j:Nat):(pcK y (j+1)).2=upS (pcK y j).2 (12 - 1):=rfl
theorem rtK_1 (y:Int) (j:Nat):(rtK y (j+1)).1=(rtK y j).1++[rtV (rtK y j).2]:=rfl
theorem rtK_2 (y:Int) (j:Nat):(rtK y (j+1)).2=rtS (rtK y j).2:=rfl
theorem dyK_1 (m:Nat) (y:Int) (j:Nat):(dyK m y (j+1)).1=(dyK m y j).1++[(rtK (dyK m y j).2 m).1]:=rfl
theorem dyK_2 (m:Nat) (y:Int) (j:Nat):(dyK m y (j+1)).2=(rtK (dyK m y j).2 m).2:=rfl
theorem enK_1 (C:Nat) (rs:List (List Sh)) (w:Int) (s:EnS) (k:Nat):enK C rs w s (k+1)=enStep C rs w (enK C rs w s k):=rfl
theorem dIntW (n:Int):dInt [.v (.int .i64 n)]=n:=rfl
def loT (c d e w:Int):List (Nat × AV):=[(0,.ptr 0 0),(1,aI c),(2,aI d),(3,aI e),(4,aI w),(10,.ptr 1 0),(11,.ptr 2 0)]
def nil4:List AV:=[.nil,.nil,.nil,.nil]
noncomputable def lo1 (c d e w:Int) (b:Int) (V k:Nat):St:={ t:=asg (loT c d e w++[(12,aI ((V:Int) - (k:Int)))]),h:=hasg [(0,.cells [.v (.int .u64 (coK b k).x)]),(1,.cells nil4),(2,.cells [.row 3,.nil,.row 4,.nil]),(3,.row 22 1 ((coK b k).cs.map eInts)),(4,.row 3 1 ((coK b k).ss.map eInt))],n:=5,m:=1 }
noncomputable def lo2 (c d e w:Int) (s:CoS) (y:Int) (V k K j:Nat):St:={ t:=asg (loT c d e w++[(12,aI ((V:Int) - (k:Int))),(13,.row 5),(14,aI ((K:Int) - (j:Int)))]),h:=hasg [(0,.cells [.v (.int .u64 (pcK y j).2)]),(1,.cells nil4),(2,.cells [.row 3,.nil,.row 4,.nil]),(3,.row 22 1 (s.cs.map eInts)),(4,.row 3 1 (s.ss.map eInt)),(5,.row 3 1 ((pcK y j).1.map eInt))],n:=6,m:=1 }
def lo3 (c d e w:Int) (s:CoS) (p:List Int) (y:Int) (V k:Nat):St:={ t:=asg (loT c d e w++[(12,aI ((V:Int) - (k:Int))),(13,aInts p)]),h:=hasg [(0,.cells [.v (.int .u64 y)]),(1,.cells nil4),(2,.cells [.row 3,.nil,.row 4,.nil]),(3,.row 22 1 (s.cs.map eInts)),(4,.row 3 1 (s.ss.map eInt))],n:=5,m:=1 }
end Go.Sym.B
namespace Go.Sym.B
open Go Go.Sym Go.Proofs Go.Sym.C
end Go.Sym.B
namespace Go.Sym.B
open Go Go.Sym Go.Proofs Go.Sym.C
end Go.Sym.B
namespace Go.Sym.B
open Go Go.Sym Go.Proofs Go.Sym.C
end Go.Sym.B
namespace Go.Sym.B
open Go Go.Sym Go.Proofs Go.Sym.C
end Go.Sym.B
namespace Go.Sym.B
open Go Go.Sym Go.Proofs Go.Sym.C
end Go.Sym.B
namespace Go.Sym.B
open Go Go.Sym Go.Proofs Go.Sym.C
end Go.Sym.B
namespace Go.Sym.B
open Go Go.Sym Go.Proofs Go.Sym.C
theorem first0 {n:Nat} {f:Nat→Int} (h:∀ k,k < n→f k=0):firstE (errs n f)=0:=by
  have hall:∀ E:List Int,(∀ e ∈ E,e=0)→firstE E=0:=fun E=>by
    induction E with
    |nil=>intro _;rfl
    |cons e E ih=>intro h;rw [firstE,if_pos (h e List.mem_cons_self)];exact ih fun x hx=>h x (List.mem_cons_of_mem _ hx)
  refine hall _ fun e he=>?_
  obtain ⟨j,hj,rfl⟩:=List.mem_map.1 he
  exact h j (List.mem_range.1 hj)
theorem counted0 {n a b:Int} (h1:a≤n) (h2:n≤b):countedE n a b=0:=by unfold countedE;rw [if_neg (by omega),if_neg (by omega)]
theorem coinE_ok {q:List Int} {j:Nat} (h:PcOk q j) (hj:j≤3):coinE q=0:=by
  have hl:=h.len
  unfold coinE
  rw [if_neg (by rw [counted0 (by omega) (by omega)];simp),if_neg (by rw [h.one];simp)]
  refine first0 fun i hi=>?_
  have h1:=h.up i (by omega)
  have h2:=h.le (i+1) (by omega)
  unfold pieceE
  rw [Nat.add_comm 1 i,if_neg (by omega),if_neg (by omega)]
theorem shE_ok {s:Sh} (h:ShOk s):shE s=0:=by
  unfold shE
  rw [inB_iff.2 h.n,inB_iff.2 h.d,if_neg (by simp),if_neg (by simp),if_neg (by rw [ne_eq,Decidable.not_not];exact h.r)]
theorem ratesE_ok {r:List Sh} {n:Nat} (h:RwOk r n) (hn:1≤n):ratesE r n=0:=by
  have hl:=h.len
  unfold ratesE
  rw [if_neg (by simp [hl]),if_neg (by rw [h.one];simp)]
  refine first0 fun i hi=>?_
  exact shE_ok (h.all _ (gMem (by omega)))
structure LgOk (L:Led):Prop where
  c:1≤L.coins.length∧L.coins.length≤4
  p:∀ q ∈ L.coins,∃ j,j≤3∧PcOk q j
  s:L.start.length=L.coins.length
  v:∀ n ∈ L.start,0≤n∧n≤200
  r:RsOk L.rates L.coins.length
  e:L.entries.length≤6
theorem lg_ok {x c d e w:Int} (hc:1≤c∧c≤4) (hd:1≤d∧d≤4) (he:0≤e∧e≤6):LgOk (lgL x c d e w):=by
  have h1:=upV_le (x:=x) (m:=c - 1) (by omega) (by omega)
  have ok1:CoOk (lg1 x c) (1+upV x (c - 1)).toNat:=coK_ok _ _
  have hl1:=ok1.c
  have h2:=upV_le (x:=(lg1 x c).x) (m:=d - 1) (by omega) (by omega)
  have ok2:(lg2 x c d).1.length=(1+upV (lg1 x c).x (d - 1)).toNat∧∀ r ∈ (lg2 x c d).1,RwOk r ((lg1 x c).cs.length - 1+1):=dyK_ok _ _ _
  rw [show (lg1 x c).cs.length - 1+1=(lg1 x c).cs.length by omega] at ok2
  have hr:RsOk (lg2 x c d).1 (lg1 x c).cs.length:=⟨by have:=ok2.1;omega,ok2.2⟩
  have h3:=upV_le (x:=(lg2 x c d).2) (m:=e) (by omega) (by omega)
  have hI:EnI (lg1 x c).cs.length (lg2 x c d).1.length 0 ⟨0,(lg1 x c).ss,[],upS (lg2 x c d).2 e⟩:=⟨Int.le_refl _,by show (0:Int)≤_;have:=hr.len;omega,by rw [ok1.c];exact ok1.l,fun v hv=>by have:=ok1.v v hv;omega,Nat.le_refl _⟩
  have h4:=(enK_ok hr (by omega) (w:=w) hI (upV (lg2 x c d).2 e).toNat).es
  refine ⟨?_,ok1.p, ?_,ok1.v,hr, ?_⟩
  · show 1≤(lg1 x c).cs.length∧(lg1 x c).cs.length≤4;omega
  · show (lg1 x c).ss.length=(lg1 x c).cs.length;rw [ok1.c];exact ok1.l
  · show (lg3 x c d e w).es.length≤6
    unfold lg3;omega
theorem LgOk.fit {L:Led} (h:LgOk L):Fit L:=by
  refine ⟨by have:=h.c;omega,fun q hq=>?_,by have:=h.r.len;omega,fun r hr=>?_,by have:=h.c;have:=h.s;omega,by have:=h.e;omega⟩
  · obtain ⟨j,hj,hp⟩:=h.p q hq
    have:=hp.len;omega
  · have:=(h.r.all r hr).len;have:=h.c;omega
theorem LgOk.check {L:Led} (h:LgOk L):checkE L=entriesE L:=by
  have c:=h.c
  have r:=h.r.len
  have hs:=h.s
  unfold checkE
  rw [if_neg (by rw [counted0 (by omega) (by omega)];simp)]
  rw [if_neg (by
    rw [first0 (f:=ckCoin L) fun k hk=>by
      obtain ⟨j,hj,hp⟩:=h.p _ (gMem (l:=L.coins) (k:=k) (d:=[]) hk)
      exact coinE_ok hp hj]
    simp)]
  rw [if_neg (by rw [counted0 (by omega) (by omega)];simp)]
  rw [if_neg (by
    rw [first0 (f:=ckRate L) fun k hk=>ratesE_ok (h.r.all _ (gMem (l:=L.rates) (k:=k) (d:=[]) hk)) c.1]
    simp)]
  rw [if_neg (by simp [hs])]
  rw [if_neg (by
    rw [first0 (f:=startE L) fun k hk=>by
      have:=h.v _ (gMem (l:=L.start) (k:=k) (d:=0) hk)
      unfold startE
      rw [inB_iff.2 (by omega)];rfl]
    simp)]
end Go.Sym.B
namespace Go.Sym.B
open Go Go.Sym Go.Proofs Go.Sym.C
theorem q_cancel {a r:Rat} (h:r ≠ 0):a / r * r=a:=Rat.div_mul_cancel h
theorem floor_mul_le {w r:Rat} (hr:0 < r):((w / r).floor:Rat) * r≤w:=by
  have h1:=Rat.mul_le_mul_of_nonneg_right (Rat.floor_le (w / r)) (Rat.le_of_lt hr)
  rwa [q_cancel (fun h=>by rw [h] at hr;exact absurd hr (by decide))] at h1
end Go.Sym.B
namespace Go.Sym.B
open Go Go.Sym Go.Proofs Go.Sym.C
theorem foldV_ne {f g n:Int} (hf:0≤f) (hg:1≤g) (hg2:g≤n - 1):foldV (f+g) n ≠ f:=by
  intro h
  unfold foldV at h
  rw [if_neg (by omega),Int.tmod_eq_emod_of_nonneg (show 0≤f+g by omega)] at h
  have e1:=Int.mul_ediv_add_emod (f+g) n
  have e2:=Int.emod_nonneg (f+g) (show n ≠ 0 by omega)
  rw [Int.tmod_eq_emod_of_nonneg (by omega)] at h
  have e3:=Int.mul_ediv_add_emod ((f+g) % n+n) n
  rw [h] at e3
  have e4:g=n * ((f+g) / n+((f+g) % n+n) / n - 1):=by rw [Int.mul_sub,Int.mul_add];omega
  generalize (f+g) / n+((f+g) % n+n) / n - 1=k at e4
  rcases Int.lt_or_le 0 k with hk|hk
  · have:=Int.mul_le_mul_of_nonneg_left (show 1≤k by omega) (show 0≤n by omega);omega
  · have:=Int.mul_le_mul_of_nonneg_left hk (show 0≤n by omega);omega
end Go.Sym.B
namespace Go.Sym.B
open Go Go.Sym Go.Proofs Go.Sym.C
def stE (ss:List Int) (es:List Ent):Int × List Int:=es.foldl (fun s x=>(x.day,enterF s.2 x)) (0,ss)
theorem stE_snoc (ss:List Int) (es:List Ent) (x:Ent):stE ss (es++[x])=(x.day,enterF (stE ss es).2 x):=by unfold stE;rw [List.foldl_append];rfl
theorem stK_E (l:Led) (k:Nat):stK l k=stE l.start (l.entries.take k):=rfl
def VE (l:Led):Prop:=∀ j,j < l.entries.length→eV l (l.entries.getD j default) (stE l.start (l.entries.take j)).1 (stE l.start (l.entries.take j)).2=0
theorem VE.snoc {cs:List (List Int)} {rs:List (List Sh)} {ss:List Int} {es:List Ent} {x:Ent} (h:VE ⟨cs,rs,ss,es⟩) (hx:eV ⟨cs,rs,ss,[]⟩ x (stE ss es).1 (stE ss es).2=0):VE ⟨cs,rs,ss,es++[x]⟩:=fun j hj=>by
  have hj:j < es.length+1:=by simpa using hj
  show eV _ ((es++[x]).getD j default) (stE ss ((es++[x]).take j)).1 (stE ss ((es++[x]).take j)).2=0
  rcases Nat.lt_or_eq_of_le (Nat.le_of_lt_succ hj) with h1|h1
  · rw [getD_snocL h1,List.take_append_of_le_length (by omega)]
    exact h j h1
  · subst h1
    rw [getD_snocR rfl,List.take_left]
    exact hx
theorem eV_ok {l:Led} {x:Ent} {b:Int} {has:List Int} (h1:0≤x.day∧x.day≤(l.rates.length:Int) - 1) (h2:b≤x.day) (h3:1≤x.kind∧x.kind≤4) (h4:0≤x.coin∧x.coin≤(l.coins.length:Int) - 1)
    (h5:x.kind=3→(0≤x.to∧x.to≤(l.coins.length:Int) - 1)∧x.to ≠ x.coin∧0≤x.got∧x.got≤999) (h6:x.kind ≠ 3→x.to=0∧x.got=0) (h7:0≤x.amount∧x.amount≤999)
    (h8:x.kind=2∨x.kind=3→x.amount≤has.getD x.coin.toNat 0):eV l x b has=0:=by
  have hE:entryE l x b=0:=by
    unfold entryE
    rw [inB_iff.2 h1,inB_iff.2 h3,inB_iff.2 h4,inB_iff.2 h7,if_neg (by simp),if_neg (by omega),if_neg (by simp),if_neg (by simp)]
    by_cases hk:x.kind=3
    · obtain ⟨a1,a2,a3⟩:=h5 hk
      rw [inB_iff.2 a1,inB_iff.2 a3,if_neg (by simp),if_neg (fun h=>a2 h.2),if_neg (by simp),if_neg (fun h=>h.1 hk),if_neg (by simp)]
    · obtain ⟨a1,a2⟩:=h6 hk
      rw [if_neg (fun h=>hk h.1),if_neg (fun h=>hk h.1),if_neg (fun h=>hk h.1),if_neg (fun h=>by rcases h.2 with h|h <;> contradiction),if_neg (by simp)]
  unfold eV
  rw [if_neg (by rw [hE];simp),if_neg (fun h=>by have:=h8 h.1;omega)]
structure EnV (cs:List (List Int)) (rs:List (List Sh)) (ss:List Int) (s:EnS):Prop where
  v:VE ⟨cs,rs,ss,s.es⟩
  t:(stE ss s.es).2=s.till
  d:(stE ss s.es).1≤s.day
theorem EnV.add {cs:List (List Int)} {rs:List (List Sh)} {ss:List Int} {s:EnS} (h:EnV cs rs ss s) {x:Ent} {y:Int} {till:List Int} (hx:eV ⟨cs,rs,ss,[]⟩ x (stE ss s.es).1 s.till=0) (ht:enterF s.till x=till):EnV cs rs ss ⟨x.day,till,s.es++[x],y⟩ :=
  ⟨h.v.snoc (by rw [h.t];exact hx),by show (stE ss (s.es++[x])).2=till;rw [stE_snoc,h.t];exact ht,by show (stE ss (s.es++[x])).1≤x.day;rw [stE_snoc];exact Int.le_refl _⟩
theorem EnV.skip {cs:List (List Int)} {rs:List (List Sh)} {ss:List Int} {s:EnS} (h:EnV cs rs ss s) {d x:Int} (hd:s.day≤d):EnV cs rs ss ⟨d,s.till,s.es,x⟩ :=
  ⟨h.v,h.t,Int.le_trans h.d hd⟩
theorem enV_step {cs:List (List Int)} {rs:List (List Sh)} {ss:List Int} (hr:RsOk rs cs.length) (hC:1≤cs.length∧cs.length≤4) {w:Int} {s:EnS} {k:Nat} (hI:EnI cs.length rs.length k s) (h:EnV cs rs ss s):EnV cs rs ss (enStep cs.length rs w s):=by
  have hJ:=enJ_of hr hC hI
  have hD:=(enD_bd hI (by have:=hr.len;omega)).1
  unfold enStep
  generalize enD rs.length s=D at *
  generalize enX2 rs.length s=X2 at *
  generalize upS X2 ((cs.length:Int) - 1)=x
  generalize upV X2 ((cs.length:Int) - 1)=cn at *
  generalize enK0 rs.length s=κ
  have hh:=hJ.h
  have hd:=h.d
  have j1:=hJ.d0
  have j2:=hJ.d1
  have j3:=hJ.c0
  have j4:=hJ.c1
  unfold enS0
  split
  · unfold enS1
    have u:=upV_le (x:=x) (m:=90) (by decide) (by decide)
    refine h.add (x:=⟨D,1,cn,0,upV x 90,0⟩) (eV_ok ⟨j1,j2⟩ (Int.le_trans hd hD) (show (1:Int)≤1∧(1:Int)≤4 by decide) ⟨j3,j4⟩ (fun h=>absurd (show (1:Int)=3 from h) (by decide)) (fun _=>⟨rfl,rfl⟩) ⟨u.1,by show upV x 90≤999;omega⟩ (fun h=>absurd (show (1:Int)=2∨(1:Int)=3 from h) (by decide))) ?_
    rfl
  split
  · unfold enS2
    have u:=upV_le (x:=x) (m:=min (s.till.getD cn.toNat 0) 90) (by omega) (by omega)
    generalize upV x (min (s.till.getD cn.toNat 0) 90)=am at *
    refine h.add (x:=⟨D,2,cn,0,am,0⟩) (eV_ok ⟨j1,j2⟩ (Int.le_trans hd hD) (show (1:Int)≤2∧(2:Int)≤4 by decide) ⟨j3,j4⟩ (fun h=>absurd (show (2:Int)=3 from h) (by decide)) (fun _=>⟨rfl,rfl⟩) ⟨u.1,by show am≤999;omega⟩ (fun _=>by show am≤s.till.getD cn.toNat 0;omega)) ?_
    rfl
  split
  · unfold enS4
    have u:=enA4_bd (s.till.getD cn.toNat 0) x
    generalize enA4 (s.till.getD cn.toNat 0) x=am at *
    refine h.add (x:=⟨D,4,cn,0,am,0⟩) (eV_ok ⟨j1,j2⟩ (Int.le_trans hd hD) (show (1:Int)≤4∧(4:Int)≤4 by decide) ⟨j3,j4⟩ (fun h=>absurd (show (4:Int)=3 from h) (by decide)) (fun _=>⟨rfl,rfl⟩) u (fun h=>absurd (show (4:Int)=2∨(4:Int)=3 from h) (by decide))) ?_
    rfl
  · unfold enS3
    split
    · exact h.skip hD
    · rename_i hC1
      have u0:=upV_le (x:=x) (m:=(cs.length:Int) - 1 - 1) (by omega) (by omega)
      have hT:0≤enTo cs.length cn x∧enTo cs.length cn x < (cs.length:Int):=foldV_bd (by omega)
      have hTn:enTo cs.length cn x ≠ cn:=foldV_ne j3 (show 1≤1+upV x ((cs.length:Int) - 1 - 1) by omega) (by omega)
      generalize enTo cs.length cn x=to at *
      generalize upS x ((cs.length:Int) - 1 - 1)=y
      have u:=upV_le (x:=y) (m:=min (s.till.getD cn.toNat 0) 40) (by omega) (by omega)
      generalize upV y (min (s.till.getD cn.toNat 0) 40)=am at *
      have s1:=hr.sh j1 j2 j3 j4
      have s2:=hr.sh j1 j2 hT.1 (show to≤(cs.length:Int) - 1 by omega)
      have hG:=enG0_bd s1 s2 (am:=am) u.1 (by omega)
      unfold enS3a
      generalize enG0 rs D cn to am=G at *
      have key:∀ got z,0≤got→EnV cs rs ss (enS3b s D cn to am got z):=fun got z hg=>by
        unfold enS3b
        split
        · exact h.skip hD
        · rename_i hg9
          refine h.add (x:=⟨D,3,cn,to,am,got⟩) (eV_ok ⟨j1,j2⟩ (Int.le_trans hd hD) (show (1:Int)≤3∧(3:Int)≤4 by decide) ⟨j3,j4⟩ (fun _=>⟨⟨hT.1,by show to≤(cs.length:Int) - 1;omega⟩,hTn,hg,by show got≤999;omega⟩) (fun h=>absurd rfl h) ⟨u.1,by show am≤999;omega⟩ (fun _=>by show am≤s.till.getD cn.toNat 0;omega)) ?_
          show addAt (addAt s.till cn (-am)) to got=_
          unfold addAt
          rw [← Int.sub_eq_add_neg]
          congr 1
          have:(s.till.set cn.toNat (s.till.getD cn.toNat 0 - am)).getD to.toNat 0=s.till.getD to.toNat 0:=by
            simp only [List.getD_eq_getElem?_getD]
            rw [List.getElem?_set_ne (by omega)]
          rw [this]
      split
      · have u3:=upV_le (x:=upS (upS y (min (s.till.getD cn.toNat 0) 40)) (10 - 1)) (m:=3 - 1) (by decide) (by decide)
        exact key _ _ (by omega)
      · exact key _ _ (by omega)
theorem enV_K {cs:List (List Int)} {rs:List (List Sh)} {ss:List Int} (hr:RsOk rs cs.length) (hC:1≤cs.length∧cs.length≤4) {w:Int} {s:EnS} (hI:EnI cs.length rs.length 0 s) (h:EnV cs rs ss s):∀ k,EnV cs rs ss (enK cs.length rs w s k)
  |0=>h
  |k+1=>enV_step hr hC (enK_ok hr hC hI k) (enV_K hr hC hI h k)
theorem entries_VE {l:Led} (h:VE l) (h6:l.entries.length≤6):entriesE l=0:=by
  unfold entriesE
  rw [if_neg (by rw [counted0 (by omega) (by omega)];simp)]
  exact first0 fun k hk=>by rw [eK_eq,stK_E];exact h k hk
theorem lg_chk {x c d e w:Int} (hc:1≤c∧c≤4) (hd:1≤d∧d≤4) (he:0≤e∧e≤6):checkE (lgL x c d e w)=0:=by
  have hok:=lg_ok (x:=x) (w:=w) hc hd he
  rw [hok.check]
  refine entries_VE ?_ hok.e
  have h1:=hok.c
  have h2:=hok.r
  have h3:=hok.s
  have h4:=hok.v
  change 1≤(lg1 x c).cs.length∧(lg1 x c).cs.length≤4 at h1
  change RsOk (lg2 x c d).1 (lg1 x c).cs.length at h2
  change (lg1 x c).ss.length=(lg1 x c).cs.length at h3
  change ∀ n ∈ (lg1 x c).ss,0≤n∧n≤200 at h4
  have hI:EnI (lg1 x c).cs.length (lg2 x c d).1.length 0 ⟨0,(lg1 x c).ss,[],upS (lg2 x c d).2 e⟩:=⟨Int.le_refl _,by show (0:Int)≤_;have:=h2.len;omega,h3,fun v hv=>by have:=h4 v hv;omega,Nat.le_refl _⟩
  have hV:EnV (lg1 x c).cs (lg2 x c d).1 (lg1 x c).ss ⟨0,(lg1 x c).ss,[],upS (lg2 x c d).2 e⟩:=⟨fun j hj=>by simp at hj,rfl,Int.le_refl _⟩
  exact (enV_K h2 h1 (w:=w) hI hV (upV (lg2 x c d).2 e).toNat).v
end Go.Sym.B
namespace Go.Sym.B
open Go Go.Sym Go.Proofs Go.Sym.C
end Go.Sym.B
namespace Go.Sym.B
open Go Go.Sym Go.Proofs Go.Sym.C
end Go.Sym.B
namespace Go.Sym.B
open Go Go.Sym Go.Proofs Go.Sym.C
def ltR (r:Int→Int) (x y:Int):Prop:=r y < r x∨(r y=r x∧x < y)
def Has (l:List Int) (x:Int):Prop:=∃ i,i < l.length∧l.getD i 0=x
structure SoK (r:Int→Int) (n k:Nat) (l:List Int):Prop where
  len:l.length=n
  so:∀ a b,a < b→b≤k→ltR r (l.getD a 0) (l.getD b 0)
  keep:∀ i,k < i→i < n→l.getD i 0=i
  lo:∀ a,a≤k→0≤l.getD a 0∧l.getD a 0≤k
  has:∀ i:Nat,i < n→Has l i
end Go.Sym.B
namespace Go.Sym.B
open Go Go.Sym Go.Proofs Go.Sym.C
end Go.Sym.B
namespace Go.Sym.B
open Go Go.Sym Go.Proofs Go.Sym.C
end Go.Sym.B
namespace Go.Sym.B
open Go Go.Sym Go.Proofs Go.Sym.C
end Go.Sym.B
namespace Go.Sym.B
open Go Go.Sym Go.Proofs Go.Sym.C
end Go.Sym.B
namespace Go.Sym.B
open Go Go.Sym Go.Proofs Go.Sym.C
end Go.Sym.B
namespace Go.Sym.B
open Go Go.Sym Go.Proofs Go.Sym.C
def ti55d:TI:={ cells:=1,bytes:=24,td:=.slice 59,zero:=[.nil],eqk:=none,deep:=true }
def tyD (t:Nat):Option TI:=bif t == 55 then some ti55d else tyB t
theorem tyD_ok:TysOK Try.prog tyD:=fun t i h=>by
  unfold tyD at h
  by_cases ht:t=55
  · subst ht
    have f:=tyB_ok 55 _ ty55
    simp only [beq_self_eq_true,cond_true,Option.some.injEq] at h
    subst h
    exact ⟨f.info,f.under,f.fsz,f.eq,f.key⟩
  · rw [show (t == 55)=false by simpa using ht] at h
    exact tyB_ok t i h
theorem deepE {Φ:Ctr} (h:Env (fun _=>True) Try.prog tyB Φ):Env (fun _=>True) Try.prog tyD Φ:=⟨tyD_ok,h.ctr,h.mixed⟩
def rid (k:Nat):List AV:=[AV.row 20,.row 21,.row 22].take k
theorem rid_len {k:Nat} (h:k≤3):(rid k).length=k:=by simp [rid];omega
theorem rid0:rid 0=[]:=rfl
theorem rid1:rid 1=[.row 20]:=rfl
theorem rid2:rid 2=[.row 20,.row 21]:=rfl
theorem rid3:rid 3=[.row 20,.row 21,.row 22]:=rfl
theorem leL_same (h:Nat→Option AObj):∀ l:List AV,(∀ c ∈ l,∃ i,c=.row i)→AV.leL h some l l
  |[],_=>by simp [AV.leL]
  |c :: l,hc=>by
    obtain ⟨i,rfl⟩:=hc c (by simp)
    exact ⟨rfl,leL_same h l fun c hm=>hc c (List.mem_cons_of_mem _ hm)⟩
theorem rid_row {n:Nat} {c:AV} (hc:c ∈ rid n):∃ i,c=.row i∧i < 23:=by
  have hc:=List.mem_of_mem_take hc
  simp at hc
  rcases hc with rfl|rfl|rfl <;> exact ⟨_,rfl,by omega⟩
theorem leL_rid (h:Nat→Option AObj) (n:Nat):AV.leL h some (rid n) (rid n):=leL_same h _ fun c hc=>let ⟨i,h,_⟩:=rid_row hc;⟨i,h⟩
theorem ids_rid (n:Nat):∀ id,id ∈ AV.idsL (rid n)→id < 23:=fun id h=>by
  obtain ⟨c,hc,hi⟩:=AV.mem_idsL.1 h
  obtain ⟨i,rfl,h⟩:=rid_row hc
  simp [AV.ids] at hi
  omega
theorem renL_take (τ:Nat→Nat) (n:Nat) (l:List AV):AV.renL τ (l.take n)=(AV.renL τ l).take n:=by rw [AV.renL_map,AV.renL_map,List.map_take]
theorem rid_at7 {k i:Nat} (h:i < k) (hi:i < 3):(rid k).getD i .junk=.row (20+i):=by
  unfold rid
  rw [List.getD_eq_getElem?_getD,List.getElem?_take,if_pos h]
  rcases (show i=0∨i=1∨i=2 by omega) with rfl|rfl|rfl <;> rfl
def rkv (rs:List (List Sh)) (k i:Nat):List (List DV):=if i < k then (rs.getD i []).map eSh else []
end Go.Sym.B
namespace Go.Sym.B
open Go Go.Sym Go.Proofs Go.Sym.C
noncomputable def ldD1 (c d e w:Int) (s:CoS) (m:Nat) (b:Int) (V k:Nat):St:={ t:=asg (loT c d e w++[(15,aI ((V:Int) - (k:Int)))]),h:=hasg [(0,.cells [.v (.int .u64 (dyK m b k).2)]),(1,.cells nil4),(2,.cells [.row 3,.row 5,.row 4,.nil]),(3,.row 22 1 (s.cs.map eInts)),(4,.row 3 1 (s.ss.map eInt)),(5,.rows 55 (rid k)),(20,.row 59 2 (rkv (dyK m b k).1 k 0)),(21,.row 59 2 (rkv (dyK m b k).1 k 1)),(22,.row 59 2 (rkv (dyK m b k).1 k 2))],n:=23,m:=1 }
noncomputable def ldD2 (c d e w:Int) (s:CoS) (rs:List (List Sh)) (y:Int) (V k j:Nat):St:={ t:=asg (loT c d e w++[(15,aI ((V:Int) - (k:Int))),(16,.row 6),(17,aI ((j:Int)+1))]),h:=hasg [(0,.cells [.v (.int .u64 (rtK y j).2)]),(1,.cells nil4),(2,.cells [.row 3,.row 5,.row 4,.nil]),(3,.row 22 1 (s.cs.map eInts)),(4,.row 3 1 (s.ss.map eInt)),(5,.rows 55 (rid k)),(20,.row 59 2 (rkv rs k 0)),(21,.row 59 2 (rkv rs k 1)),(22,.row 59 2 (rkv rs k 2)),(6,.row 59 2 ((rtK y j).1.map eSh))],n:=23,m:=1 }
def ldD3 (c d e w:Int) (s:CoS) (rs:List (List Sh)) (r:List Sh) (y:Int) (V k:Nat):St:={ t:=asg (loT c d e w++[(15,aI ((V:Int) - (k:Int))),(16,.row 6)]),h:=hasg [(0,.cells [.v (.int .u64 y)]),(1,.cells nil4),(2,.cells [.row 3,.row 5,.row 4,.nil]),(3,.row 22 1 (s.cs.map eInts)),(4,.row 3 1 (s.ss.map eInt)),(5,.rows 55 (rid k)),(20,.row 59 2 (rkv rs k 0)),(21,.row 59 2 (rkv rs k 1)),(22,.row 59 2 (rkv rs k 2)),(6,.row 59 2 (r.map eSh))],n:=23,m:=1 }
def leD1 (c d e w:Int) (s:CoS) (rs:List (List Sh)) (t:EnS) (V k:Nat):St:={ t:=asg (loT c d e w++[(18,.row 6),(19,aI t.day),(20,aI ((V:Int) - (k:Int)))]),h:=hasg [(0,.cells [.v (.int .u64 t.x)]),(1,.cells nil4),(2,.cells [.row 3,.row 5,.row 4,.row 7]),(3,.row 22 1 (s.cs.map eInts)),(4,.row 3 1 (s.ss.map eInt)),(5,.rows 55 (rid rs.length)),(20,.row 59 2 (rkv rs rs.length 0)),(21,.row 59 2 (rkv rs rs.length 1)),(22,.row 59 2 (rkv rs rs.length 2)),(6,.row 3 1 (t.till.map eInt)),(7,.row 48 6 (t.es.map eEnt))],n:=23,m:=1 }
def ridR (k:Nat):List AV:=[AV.row 2,.row 3,.row 4].take k
def lgDH (y:Int) (L:Led):List (Nat × AObj):=[(0,.cells [.v (.int .u64 y)]),(1,.rows 55 (ridR L.rates.length)),(2,.row 59 2 (rkv L.rates L.rates.length 0)),(3,.row 59 2 (rkv L.rates L.rates.length 1)),(4,.row 59 2 (rkv L.rates L.rates.length 2))]
theorem rkv_old {rs:List (List Sh)} {r:List Sh} {k i:Nat} (hk:rs.length=k) (h:i < k):rkv (rs++[r]) (k+1) i=rkv rs k i:=by unfold rkv;rw [if_pos (by omega),if_pos h,getD_snocL (by omega)]
theorem rkv_new {rs:List (List Sh)} {r:List Sh} {k:Nat} (hk:rs.length=k):rkv (rs++[r]) (k+1) k=r.map eSh:=by unfold rkv;rw [if_pos (by omega),getD_snocR hk.symm]
theorem rkv_far {rs:List (List Sh)} {k i:Nat} (h:k≤i):rkv rs k i=[]:=by unfold rkv;rw [if_neg (by omega)]
theorem rkv_at {rs:List (List Sh)} {k i:Nat} (h:i < k):rkv rs k i=(rs.getD i []).map eSh:=by unfold rkv;rw [if_pos h]
theorem leL_ridS {h:Nat→Option AObj} {σ:Nat→Option Nat} (n:Nat) (a:σ 20=some 20) (b:σ 21=some 21) (c:σ 22=some 22):AV.leL h σ (rid n) (rid n):=by
  unfold rid
  match n with
  |0=>trivial
  |1=>exact ⟨a,trivial⟩
  |2=>exact ⟨a,b,trivial⟩
  |k+3=>simp [AV.leL,AV.le,a,b,c]
theorem leL_ridR {h:Nat→Option AObj} {σ:Nat→Option Nat} (n:Nat) (a:σ 2=some 20) (b:σ 3=some 21) (c:σ 4=some 22):AV.leL h σ (rid n) (ridR n):=by
  unfold rid ridR
  match n with
  |0=>trivial
  |1=>exact ⟨a,trivial⟩
  |2=>exact ⟨a,b,trivial⟩
  |k+3=>simp [AV.leL,AV.le,a,b,c]
def tbL8_27:=vj @ty3 (vj @ty22 (vj @ty28 (vj @ty35 (vj @ty36 (vj @ty38 (vj @ty48 (vj @ty55 (vj @ty59 (vj @ti3.eq_1 (vj @ti22.eq_1 (vj @ti28.eq_1 (vj @ti35.eq_1 (vj @ti36.eq_1 (vj @ti38.eq_1 (vj @ti48.eq_1 (vj @ti55.eq_1 @ti59.eq_1))))))))))))))))
def xbL8_1:=vj @aI.eq_1 (vj @aB.eq_1 (vj @aSh.eq_1 (vj @aLed.eq_1 (vj @cLed.eq_1 (vj @aInts.eq_1 (vj @aShs.eq_1 (vj @bgH.eq_1 (vj @mInt (vj @dIntW (vj @loT.eq_1 (vj @nil4.eq_1 (vj @lo1.eq_1 (vj @lo2.eq_1 (vj @lo3.eq_1 (vj @p21.eq_1 (vj @p21.eq_2 (vj @p22.eq_1 (vj @p22.eq_2 (vj @p84.eq_1 (vj @p84.eq_2 (vj @p85.eq_1 (vj @p85.eq_2 (vj @p71.eq_1 (vj @p71.eq_2 (vj @s54.eq_1 (vj @s54.eq_2 (vj @p23r.eq_1 (vj @p23r.eq_2 (vj @p23r.eq_3 (vj @gInt (vj @eInt.eq_1 (vj @eShs.eq_1 (vj @rInt (vj @rSh (vj @rEnt (vj @rInts (vj @rShs (@flInt))))))))))))))))))))))))))))))))))))))
set_option maxRecDepth 100000 in
set_option maxHeartbeats 40000000 in
theorem ledgerD_fn (x c d e w:Int) (hc:1≤c∧c≤4) (hd:1≤d∧d≤3) (he:0≤e∧e≤6):Fn noB Try.prog 27 [.ptr 0 0,aI c,aI d,aI e,aI w] (hasg (bgH x)) (.agg [.sl ((lgL x c d e w).coins.map eInts),.row 1,.sl ((lgL x c d e w).start.map eInt),.sl ((lgL x c d e w).entries.map eEnt)]) (hasg (lgDH (lgS x c d e w) (lgL x c d e w))) 0:=by
  have env0:Env (fun _=>True) Try.prog tyB (tab [(21,fnE p21),(22,fnE p22),(23,fnE p23r),(84,fnE p84),(85,fnE p85),(71,fnE p71),(54,valE true s54)]):=mkEnv ⟨e21,e22,e23r,e84,e85,e71,e54,trivial⟩
  have env:=deepE env0
  clear env0
  refine Fn.of (A:=fun _=>True) (n0:=1) (D:=noD) (Fn0 Try.func27 rfl (fun vs w=>by kernel_rfl) (by kernel_rfl)) (by simp) (by simp [AV.ids,AV.idsL,aI]) ?_ (fun _ _ _ _=>trivial) noD_ok ?_
  · intro i o hi
    have h:=hasg_mem hi
    simp [bgH] at h
    rcases h with ⟨rfl,rfl⟩;simp [AObj.ids,AV.ids,AV.idsL]
  have mc:min c 4=c:=by omega
  have md:min d 4=d:=by omega
  have me:min e 6=e:=by omega
  have big:(100000:Nat)≤maxLen:=by decide
  have hu:=upV_le (x:=x) (m:=c - 1) (by omega) (by omega)
  obtain ⟨V,hV⟩:∃ V:Nat,1+upV x (c - 1)=(V:Int):=⟨(1+upV x (c - 1)).toNat,by omega⟩
  have hV1:1≤V∧V≤4:=by omega
  have g1:lg1 x c=coK (upS x (c - 1)) V:=by unfold lg1;rw [hV];rfl
  generalize hb:upS x (c - 1)=b at *
  repeat' (first|(apply nx;with_reducible constructor)|refine uq (by decide) ?_|((first|refine vx env fun Q hQ=>?_|refine vz fun Q hQ=>?_);simp only [vkt,Nat.reduceBEq,Nat.reduceEqDiff,Nat.reduceAdd,Nat.reduceMul,Nat.reduceSub,Nat.reduceLeDiff,Nat.reduceLT,reduceCtorEq,↓reduceIte,↓reduceDIte,Int.reduceToNat,Int.reduceLE,Int.reduceLT,Int.reduceEq,Int.reduceNeg,tbL8_27,xbL8_1,List.map_cons,List.map_nil,List.length_cons,List.length_nil,ldD1,ldD2,ldD3,leD1,lgDH,tyD,ti55d,List.nil_append,List.append_nil,List.cons_append,mc,hV,hb];(try simp only [ite_and]);(repeat' (first|with_reducible assumption|refine And.intro ?_ ?_|intro hp));all_goals (first|(refine hQ _ ?_;clear hQ Q)|(refine hQ _ (fun h=>?_) (fun h=>?_) <;> clear hQ Q <;> (try simp only [vki,reduceCtorEq] at h))|(refine vq ?_;kernel_rfl)|omega|assumption|with_reducible rfl|skip)))
  refine sym_loop (fun k:{ k:Nat // k≤V }=>lo1 c d e w b V k.1) (fun k=>V - k.1) ⟨0,Nat.zero_le _⟩ ?_ fun ⟨k,hk⟩=>?_
  · (refine Le.ok (fun j=>if j=3∨j=4 then none else some j) [] ?_;constructor;all_goals (try simp only [vle,vkt,Nat.reduceBEq,Nat.reduceEqDiff,Nat.reduceAdd,Nat.reduceMul,Nat.reduceSub,Nat.reduceLeDiff,Nat.reduceLT,reduceCtorEq,↓reduceIte,↓reduceDIte,Int.reduceToNat,Int.reduceLE,Int.reduceLT,Int.reduceEq,Int.reduceNeg,tbL8_27,xbL8_1,List.map_cons,List.map_nil,List.length_cons,List.length_nil,ldD1,ldD2,ldD3,leD1,lgDH,tyD,ti55d,List.nil_append,List.append_nil,List.cons_append]))
    all_goals first|rfl|(simp [coK,hb,hV];done)
  · repeat' (first|(apply nx;with_reducible constructor)|refine uq (by decide) ?_)
    (refine vx env fun Q hQ=>?_;simp only [vkt,Nat.reduceBEq,Nat.reduceEqDiff,Nat.reduceAdd,Nat.reduceMul,Nat.reduceSub,Nat.reduceLeDiff,Nat.reduceLT,reduceCtorEq,↓reduceIte,↓reduceDIte,Int.reduceToNat,Int.reduceLE,Int.reduceLT,Int.reduceEq,Int.reduceNeg,tbL8_27,xbL8_1,List.map_cons,List.map_nil,List.length_cons,List.length_nil,ldD1,ldD2,ldD3,leD1,lgDH,tyD,ti55d,List.nil_append,List.append_nil,List.cons_append];(try simp only [ite_and]);(repeat' (first|with_reducible assumption|refine And.intro ?_ ?_|intro hp));all_goals (first|(refine hQ _ ?_;clear hQ Q)|(refine vq ?_;kernel_rfl)|omega|assumption|with_reducible rfl|skip))
    repeat' (first|(apply nx;with_reducible constructor)|refine uq (by decide) ?_)
    (refine sym_cd (by simp only [vkt,Nat.reduceBEq,Nat.reduceEqDiff,Nat.reduceAdd,Nat.reduceMul,Nat.reduceSub,Nat.reduceLeDiff,Nat.reduceLT,reduceCtorEq,↓reduceIte,↓reduceDIte,Int.reduceToNat,Int.reduceLE,Int.reduceLT,Int.reduceEq,Int.reduceNeg,tbL8_27,xbL8_1,List.map_cons,List.map_nil,List.length_cons,List.length_nil,ldD1,ldD2,ldD3,leD1,lgDH,tyD,ti55d,List.nil_append,List.append_nil,List.cons_append];rfl) (fun h=>?_) (fun h=>?_) <;> (try simp only [vki,reduceCtorEq] at h))
    · have hlt:k < V:=by omega
      have ok:=coK_ok b k
      have hs:=coK_succ b k
      generalize coK b k=s at *
      have u1:=upV_le (x:=s.x) (m:=3) (by decide) (by decide)
      unfold coStep at hs
      obtain ⟨K,hK⟩:∃ K:Nat,upV s.x 3=(K:Int):=⟨(upV s.x 3).toNat,by omega⟩
      rw [hK,Int.toNat_natCast] at hs
      generalize hy:upS s.x 3=y at *
      repeat' (first|(apply nx;with_reducible constructor)|refine uq (by decide) ?_|((first|refine vx env fun Q hQ=>?_|refine vz fun Q hQ=>?_);simp only [vkt,Nat.reduceBEq,Nat.reduceEqDiff,Nat.reduceAdd,Nat.reduceMul,Nat.reduceSub,Nat.reduceLeDiff,Nat.reduceLT,reduceCtorEq,↓reduceIte,↓reduceDIte,Int.reduceToNat,Int.reduceLE,Int.reduceLT,Int.reduceEq,Int.reduceNeg,tbL8_27,xbL8_1,List.map_cons,List.map_nil,List.length_cons,List.length_nil,ldD1,ldD2,ldD3,leD1,lgDH,tyD,ti55d,List.nil_append,List.append_nil,List.cons_append,hK,hy];(try simp only [ite_and]);(repeat' (first|with_reducible assumption|refine And.intro ?_ ?_|intro hp));all_goals (first|(refine hQ _ ?_;clear hQ Q)|(refine hQ _ (fun h=>?_) (fun h=>?_) <;> clear hQ Q <;> (try simp only [vki,reduceCtorEq] at h))|(refine vq ?_;kernel_rfl)|omega|assumption|with_reducible rfl|skip)))
      refine sym_loop (fun j:{ j:Nat // j≤K }=>lo2 c d e w s y V k K j.1) (fun j=>K - j.1) ⟨0,Nat.zero_le _⟩ ?_ fun ⟨j,hj⟩=>?_
      · (refine Le.ok some [] ?_;constructor;all_goals (try simp only [vle,vkt,Nat.reduceBEq,Nat.reduceEqDiff,Nat.reduceAdd,Nat.reduceMul,Nat.reduceSub,Nat.reduceLeDiff,Nat.reduceLT,reduceCtorEq,↓reduceIte,↓reduceDIte,Int.reduceToNat,Int.reduceLE,Int.reduceLT,Int.reduceEq,Int.reduceNeg,tbL8_27,xbL8_1,List.map_cons,List.map_nil,List.length_cons,List.length_nil,ldD1,ldD2,ldD3,leD1,lgDH,tyD,ti55d,List.nil_append,List.append_nil,List.cons_append]))
        all_goals first|rfl|(simp [pcK,eInt];done)
      · repeat' (first|(apply nx;with_reducible constructor)|refine uq (by decide) ?_)
        (refine vx env fun Q hQ=>?_;simp only [vkt,Nat.reduceBEq,Nat.reduceEqDiff,Nat.reduceAdd,Nat.reduceMul,Nat.reduceSub,Nat.reduceLeDiff,Nat.reduceLT,reduceCtorEq,↓reduceIte,↓reduceDIte,Int.reduceToNat,Int.reduceLE,Int.reduceLT,Int.reduceEq,Int.reduceNeg,tbL8_27,xbL8_1,List.map_cons,List.map_nil,List.length_cons,List.length_nil,ldD1,ldD2,ldD3,leD1,lgDH,tyD,ti55d,List.nil_append,List.append_nil,List.cons_append];(try simp only [ite_and]);(repeat' (first|with_reducible assumption|refine And.intro ?_ ?_|intro hp));all_goals (first|(refine hQ _ ?_;clear hQ Q)|(refine vq ?_;kernel_rfl)|omega|assumption|with_reducible rfl|skip))
        repeat' (first|(apply nx;with_reducible constructor)|refine uq (by decide) ?_)
        (refine sym_cd (by simp only [vkt,Nat.reduceBEq,Nat.reduceEqDiff,Nat.reduceAdd,Nat.reduceMul,Nat.reduceSub,Nat.reduceLeDiff,Nat.reduceLT,reduceCtorEq,↓reduceIte,↓reduceDIte,Int.reduceToNat,Int.reduceLE,Int.reduceLT,Int.reduceEq,Int.reduceNeg,tbL8_27,xbL8_1,List.map_cons,List.map_nil,List.length_cons,List.length_nil,ldD1,ldD2,ldD3,leD1,lgDH,tyD,ti55d,List.nil_append,List.append_nil,List.cons_append];rfl) (fun h=>?_) (fun h=>?_) <;> (try simp only [vki,reduceCtorEq] at h))
        · have hjl:j < K:=by omega
          have pk:=pcK_ok y j
          have pl:=pk.len
          have pb:=pk.le j (Nat.le_refl _)
          have hp1:=pcK_1 y j
          have hp2:=(pcK_2 y j).symm
          have q1:=upV_le (x:=(pcK y j).2) (m:=12 - 1) (by decide) (by decide)
          generalize (pcK y j).1=p at *
          generalize (pcK y j).2=z at *
          have e7:IntKind.wrap .i64 ((K:Int) - (j:Int) - 1)=(K:Int) - ((j+1:Nat):Int):=by rw [wrap64 (by omega) (by omega)];omega
          have e8:IntKind.wrap .i64 (((j+1:Nat):Int) - 1)=(j:Int):=by rw [wrap64 (by omega) (by omega)];omega
          have e9:IntKind.wrap .i64 (p.getD j 0+(1+upV z (12 - 1)))=p.getD j 0+(1+upV z (12 - 1)):=wrap64 (by omega) (by omega)
          have e5:j < p.length:=by omega
          have m1:(j+1+1) * 8≤140737488355328∧j+1+1≤maxLen:=by omega
          have e6:=gI0 e5
          have e4:p.map eInt++[[.v (.int .i64 (p.getD j 0+(1+upV z (12 - 1))))]]=(pcK y (j+1)).1.map eInt:=by rw [hp1,List.map_append];rfl
          repeat' (first|(apply nx;with_reducible constructor)|refine uq (by decide) ?_|((first|refine vx env fun Q hQ=>?_|refine vz fun Q hQ=>?_);simp only [vkt,Nat.reduceBEq,Nat.reduceEqDiff,Nat.reduceAdd,Nat.reduceMul,Nat.reduceSub,Nat.reduceLeDiff,Nat.reduceLT,reduceCtorEq,↓reduceIte,↓reduceDIte,Int.reduceToNat,Int.reduceLE,Int.reduceLT,Int.reduceEq,Int.reduceNeg,tbL8_27,xbL8_1,List.map_cons,List.map_nil,List.length_cons,List.length_nil,ldD1,ldD2,ldD3,leD1,lgDH,tyD,ti55d,List.nil_append,List.append_nil,List.cons_append,e7,e8,e6,e9,e4,pl,hp2];(try simp only [ite_and]);(repeat' (first|with_reducible assumption|refine And.intro ?_ ?_|intro hp));all_goals (first|(refine hQ _ ?_;clear hQ Q)|(refine hQ _ (fun h=>?_) (fun h=>?_) <;> clear hQ Q <;> (try simp only [vki,reduceCtorEq] at h))|(refine vq ?_;kernel_rfl)|omega|assumption|with_reducible rfl|skip)))
          refine ⟨⟨j+1,hjl⟩,by show K - (j+1) < K - j;omega, ?_⟩
          (refine Le.ok (fun j=>if j=5 then some 7 else some j) [] ?_;constructor;all_goals (try simp only [vle,vkt,Nat.reduceBEq,Nat.reduceEqDiff,Nat.reduceAdd,Nat.reduceMul,Nat.reduceSub,Nat.reduceLeDiff,Nat.reduceLT,reduceCtorEq,↓reduceIte,↓reduceDIte,Int.reduceToNat,Int.reduceLE,Int.reduceLT,Int.reduceEq,Int.reduceNeg,tbL8_27,xbL8_1,List.map_cons,List.map_nil,List.length_cons,List.length_nil,ldD1,ldD2,ldD3,leD1,lgDH,tyD,ti55d,List.nil_append,List.append_nil,List.cons_append]))
          all_goals first|rfl|(simp;done)
        · have hjk:j=K:=by omega
          subst hjk
          have okc:=ok.c
          have okl:=ok.l
          have pl:=(pcK_ok y j).len
          generalize hq1:(pcK y j).1=p at *
          generalize hq2:(pcK y j).2=z at *
          refine sym_le (S':=lo3 c d e w s p z V k) ?_ ?_
          · (refine Le.ok some [5] ?_;constructor;all_goals (try simp only [vle,vkt,Nat.reduceBEq,Nat.reduceEqDiff,Nat.reduceAdd,Nat.reduceMul,Nat.reduceSub,Nat.reduceLeDiff,Nat.reduceLT,reduceCtorEq,↓reduceIte,↓reduceDIte,Int.reduceToNat,Int.reduceLE,Int.reduceLT,Int.reduceEq,Int.reduceNeg,tbL8_27,xbL8_1,List.map_cons,List.map_nil,List.length_cons,List.length_nil,ldD1,ldD2,ldD3,leD1,lgDH,tyD,ti55d,List.nil_append,List.append_nil,List.cons_append]))
            all_goals first|rfl|(simp [hq1,hq2];done)|(rw [hq1];exact ⟨_,_,rfl⟩)|exact ⟨_,_,rfl⟩
          have m1:(k+1) * 24≤140737488355328∧(k+1) * 8≤140737488355328∧k+1≤maxLen:=by omega
          have e7:IntKind.wrap .i64 ((V:Int) - (k:Int) - 1)=(V:Int) - ((k+1:Nat):Int):=by rw [wrap64 (by omega) (by omega)];omega
          have e4:s.cs.map eInts++[[.sl (p.map eInt)]]=(s.cs++[p]).map eInts:=by rw [List.map_append];rfl
          have e5:s.ss.map eInt++[[.v (.int .i64 (upV z 200))]]=(s.ss++[upV z 200]).map eInt:=by rw [List.map_append];rfl
          repeat' (first|(apply nx;with_reducible constructor)|refine uq (by decide) ?_|((first|refine vx env fun Q hQ=>?_|refine vz fun Q hQ=>?_);simp only [vkt,Nat.reduceBEq,Nat.reduceEqDiff,Nat.reduceAdd,Nat.reduceMul,Nat.reduceSub,Nat.reduceLeDiff,Nat.reduceLT,reduceCtorEq,↓reduceIte,↓reduceDIte,Int.reduceToNat,Int.reduceLE,Int.reduceLT,Int.reduceEq,Int.reduceNeg,tbL8_27,xbL8_1,List.map_cons,List.map_nil,List.length_cons,List.length_nil,ldD1,ldD2,ldD3,leD1,lgDH,tyD,ti55d,List.nil_append,List.append_nil,List.cons_append,e7,e4,e5,okc,okl];(try simp only [ite_and]);(repeat' (first|with_reducible assumption|refine And.intro ?_ ?_|intro hp));all_goals (first|(refine hQ _ ?_;clear hQ Q)|(refine hQ _ (fun h=>?_) (fun h=>?_) <;> clear hQ Q <;> (try simp only [vki,reduceCtorEq] at h))|(refine vq ?_;kernel_rfl)|omega|assumption|with_reducible rfl|skip)))
          refine ⟨⟨k+1,hlt⟩,by show V - (k+1) < V - k;omega, ?_⟩
          (refine Le.ok (fun j=>if j=3 then some 6 else if j=4 then some 8 else some j) [] ?_;constructor;all_goals (try simp only [vle,vkt,Nat.reduceBEq,Nat.reduceEqDiff,Nat.reduceAdd,Nat.reduceMul,Nat.reduceSub,Nat.reduceLeDiff,Nat.reduceLT,reduceCtorEq,↓reduceIte,↓reduceDIte,Int.reduceToNat,Int.reduceLE,Int.reduceLT,Int.reduceEq,Int.reduceNeg,tbL8_27,xbL8_1,List.map_cons,List.map_nil,List.length_cons,List.length_nil,ldD1,ldD2,ldD3,leD1,lgDH,tyD,ti55d,List.nil_append,List.append_nil,List.cons_append]))
          all_goals first|rfl|(simp [hs];done)
    · have hkV:k=V:=by omega
      subst hkV
      have ok:=coK_ok b k
      have g2:lg2 x c d=dyK ((lg1 x c).cs.length - 1) (upS (lg1 x c).x (d - 1)) (1+upV (lg1 x c).x (d - 1)).toNat:=rfl
      have g3:lg3 x c d e w=enK (lg1 x c).cs.length (lg2 x c d).1 w ⟨0,(lg1 x c).ss,[],upS (lg2 x c d).2 e⟩ (upV (lg2 x c d).2 e).toNat:=rfl
      have gL:lgL x c d e w=⟨(lg1 x c).cs,(lg2 x c d).1,(lg1 x c).ss,(lg3 x c d e w).es⟩:=rfl
      have gS:lgS x c d e w=(lg3 x c d e w).x:=rfl
      generalize lg1 x c=co at *
      rw [← g1] at ok ⊢
      clear g1 hb
      have okc:=ok.c
      have okl:=ok.l
      have hu2:=upV_le (x:=co.x) (m:=d - 1) (by omega) (by omega)
      obtain ⟨W,hW⟩:∃ W:Nat,1+upV co.x (d - 1)=(W:Int):=⟨(1+upV co.x (d - 1)).toNat,by omega⟩
      have hW1:1≤W∧W≤3:=by omega
      obtain ⟨m,hm⟩:∃ m,m+1=co.cs.length:=⟨co.cs.length - 1,by omega⟩
      have hmC:co.cs.length - 1=m:=by omega
      rw [hW,hmC,Int.toNat_natCast] at g2
      generalize hb2:upS co.x (d - 1)=b2 at *
      repeat' (first|(apply nx;with_reducible constructor)|refine uq (by decide) ?_|((first|refine vx env fun Q hQ=>?_|refine vz fun Q hQ=>?_);simp only [vkt,Nat.reduceBEq,Nat.reduceEqDiff,Nat.reduceAdd,Nat.reduceMul,Nat.reduceSub,Nat.reduceLeDiff,Nat.reduceLT,reduceCtorEq,↓reduceIte,↓reduceDIte,Int.reduceToNat,Int.reduceLE,Int.reduceLT,Int.reduceEq,Int.reduceNeg,tbL8_27,xbL8_1,List.map_cons,List.map_nil,List.length_cons,List.length_nil,ldD1,ldD2,ldD3,leD1,lgDH,tyD,ti55d,List.nil_append,List.append_nil,List.cons_append,md,hW,hb2];(try simp only [ite_and]);(repeat' (first|with_reducible assumption|refine And.intro ?_ ?_|intro hp));all_goals (first|(refine hQ _ ?_;clear hQ Q)|(refine hQ _ (fun h=>?_) (fun h=>?_) <;> clear hQ Q <;> (try simp only [vki,reduceCtorEq] at h))|(refine vq ?_;kernel_rfl)|omega|assumption|with_reducible rfl|skip)))
      refine sym_loop (fun k:{ k:Nat // k≤W }=>ldD1 c d e w co m b2 W k.1) (fun k=>W - k.1) ⟨0,Nat.zero_le _⟩ ?_ fun ⟨i,hi⟩=>?_
      · (refine Le.ok (fun j=>if j < 5 then some j else none) [] ?_;constructor;all_goals (try simp only [vle,vkt,Nat.reduceBEq,Nat.reduceEqDiff,Nat.reduceAdd,Nat.reduceMul,Nat.reduceSub,Nat.reduceLeDiff,Nat.reduceLT,reduceCtorEq,↓reduceIte,↓reduceDIte,Int.reduceToNat,Int.reduceLE,Int.reduceLT,Int.reduceEq,Int.reduceNeg,tbL8_27,xbL8_1,List.map_cons,List.map_nil,List.length_cons,List.length_nil,ldD1,ldD2,ldD3,leD1,lgDH,tyD,ti55d,List.nil_append,List.append_nil,List.cons_append]))
        all_goals first|rfl|exact ids_rid _|exact leL_ridS _ rfl rfl rfl|exact leL_ridR _ rfl rfl rfl|(refine ⟨?_,leL_ridS _ rfl rfl rfl, ?_⟩ <;> simp [dyK,hb2,hW,rid0,rkv,AV.leL];done)|(simp [dyK,hb2,hW,rid0,rkv,AV.leL];done)
      · repeat' (first|(apply nx;with_reducible constructor)|refine uq (by decide) ?_)
        (refine vx env fun Q hQ=>?_;simp only [vkt,Nat.reduceBEq,Nat.reduceEqDiff,Nat.reduceAdd,Nat.reduceMul,Nat.reduceSub,Nat.reduceLeDiff,Nat.reduceLT,reduceCtorEq,↓reduceIte,↓reduceDIte,Int.reduceToNat,Int.reduceLE,Int.reduceLT,Int.reduceEq,Int.reduceNeg,tbL8_27,xbL8_1,List.map_cons,List.map_nil,List.length_cons,List.length_nil,ldD1,ldD2,ldD3,leD1,lgDH,tyD,ti55d,List.nil_append,List.append_nil,List.cons_append];(try simp only [ite_and]);(repeat' (first|with_reducible assumption|refine And.intro ?_ ?_|intro hp));all_goals (first|(refine hQ _ ?_;clear hQ Q)|(refine vq ?_;kernel_rfl)|omega|assumption|with_reducible rfl|skip))
        repeat' (first|(apply nx;with_reducible constructor)|refine uq (by decide) ?_)
        (refine sym_cd (by simp only [vkt,Nat.reduceBEq,Nat.reduceEqDiff,Nat.reduceAdd,Nat.reduceMul,Nat.reduceSub,Nat.reduceLeDiff,Nat.reduceLT,reduceCtorEq,↓reduceIte,↓reduceDIte,Int.reduceToNat,Int.reduceLE,Int.reduceLT,Int.reduceEq,Int.reduceNeg,tbL8_27,xbL8_1,List.map_cons,List.map_nil,List.length_cons,List.length_nil,ldD1,ldD2,ldD3,leD1,lgDH,tyD,ti55d,List.nil_append,List.append_nil,List.cons_append];rfl) (fun h=>?_) (fun h=>?_) <;> (try simp only [vki,reduceCtorEq] at h))
        · have hlt:i < W:=by omega
          have okd:=dyK_ok m b2 i
          have hs1:=dyK_1 m b2 i
          have hs2:=dyK_2 m b2 i
          generalize (dyK m b2 i).1=rs at *
          generalize (dyK m b2 i).2=y at *
          repeat' (first|(apply nx;with_reducible constructor)|refine uq (by decide) ?_|((first|refine vx env fun Q hQ=>?_|refine vz fun Q hQ=>?_);simp only [vkt,Nat.reduceBEq,Nat.reduceEqDiff,Nat.reduceAdd,Nat.reduceMul,Nat.reduceSub,Nat.reduceLeDiff,Nat.reduceLT,reduceCtorEq,↓reduceIte,↓reduceDIte,Int.reduceToNat,Int.reduceLE,Int.reduceLT,Int.reduceEq,Int.reduceNeg,tbL8_27,xbL8_1,List.map_cons,List.map_nil,List.length_cons,List.length_nil,ldD1,ldD2,ldD3,leD1,lgDH,tyD,ti55d,List.nil_append,List.append_nil,List.cons_append];(try simp only [ite_and]);(repeat' (first|with_reducible assumption|refine And.intro ?_ ?_|intro hp));all_goals (first|(refine hQ _ ?_;clear hQ Q)|(refine hQ _ (fun h=>?_) (fun h=>?_) <;> clear hQ Q <;> (try simp only [vki,reduceCtorEq] at h))|(refine vq ?_;kernel_rfl)|omega|assumption|with_reducible rfl|skip)))
          refine sym_loop (fun j:{ j:Nat // j≤m }=>ldD2 c d e w co rs y W i j.1) (fun j=>m - j.1) ⟨0,Nat.zero_le _⟩ ?_ fun ⟨j,hj⟩=>?_
          · (refine Le.ok (fun j=>if j=6 then some 23 else some j) [] ?_;constructor;all_goals (try simp only [vle,vkt,Nat.reduceBEq,Nat.reduceEqDiff,Nat.reduceAdd,Nat.reduceMul,Nat.reduceSub,Nat.reduceLeDiff,Nat.reduceLT,reduceCtorEq,↓reduceIte,↓reduceDIte,Int.reduceToNat,Int.reduceLE,Int.reduceLT,Int.reduceEq,Int.reduceNeg,tbL8_27,xbL8_1,List.map_cons,List.map_nil,List.length_cons,List.length_nil,ldD1,ldD2,ldD3,leD1,lgDH,tyD,ti55d,List.nil_append,List.append_nil,List.cons_append]))
            all_goals first|rfl|exact ids_rid _|exact leL_ridS _ rfl rfl rfl|exact leL_ridR _ rfl rfl rfl|(refine ⟨?_,leL_ridS _ rfl rfl rfl, ?_⟩ <;> simp [rtK,eSh];done)|(simp [rtK,eSh];done)
          · repeat' (first|(apply nx;with_reducible constructor)|refine uq (by decide) ?_)
            (refine vx env fun Q hQ=>?_;simp only [vkt,Nat.reduceBEq,Nat.reduceEqDiff,Nat.reduceAdd,Nat.reduceMul,Nat.reduceSub,Nat.reduceLeDiff,Nat.reduceLT,reduceCtorEq,↓reduceIte,↓reduceDIte,Int.reduceToNat,Int.reduceLE,Int.reduceLT,Int.reduceEq,Int.reduceNeg,tbL8_27,xbL8_1,List.map_cons,List.map_nil,List.length_cons,List.length_nil,ldD1,ldD2,ldD3,leD1,lgDH,tyD,ti55d,List.nil_append,List.append_nil,List.cons_append];(try simp only [ite_and]);(repeat' (first|with_reducible assumption|refine And.intro ?_ ?_|intro hp));all_goals (first|(refine hQ _ ?_;clear hQ Q)|(refine vq ?_;kernel_rfl)|omega|assumption|with_reducible rfl|skip))
            repeat' (first|(apply nx;with_reducible constructor)|refine uq (by decide) ?_)
            (refine sym_cd (by simp only [vkt,Nat.reduceBEq,Nat.reduceEqDiff,Nat.reduceAdd,Nat.reduceMul,Nat.reduceSub,Nat.reduceLeDiff,Nat.reduceLT,reduceCtorEq,↓reduceIte,↓reduceDIte,Int.reduceToNat,Int.reduceLE,Int.reduceLT,Int.reduceEq,Int.reduceNeg,tbL8_27,xbL8_1,List.map_cons,List.map_nil,List.length_cons,List.length_nil,ldD1,ldD2,ldD3,leD1,lgDH,tyD,ti55d,List.nil_append,List.append_nil,List.cons_append];rfl) (fun h=>?_) (fun h=>?_) <;> (try simp only [vki,reduceCtorEq] at h))
            · have hjl:j < m:=by omega
              have pl:=(rtK_ok y j).len
              have hp1:=rtK_1 y j
              have hp2:=(rtK_2 y j).symm
              generalize (rtK y j).1=r at *
              generalize (rtK y j).2=z at *
              have e7:IntKind.wrap .i64 ((j:Int)+1+1)=((j+1:Nat):Int)+1:=by rw [wrap64 (by omega) (by omega)];omega
              have m1:(j+1+1) * 16≤140737488355328∧j+1+1≤maxLen:=by omega
              have e4:r.map eSh++[[.v (.int .i64 (rtV z).num),.v (.int .i64 (rtV z).den)]]=(rtK y (j+1)).1.map eSh:=by rw [hp1,List.map_append];rfl
              repeat' (first|(apply nx;with_reducible constructor)|refine uq (by decide) ?_|((first|refine vx env fun Q hQ=>?_|refine vz fun Q hQ=>?_);simp only [vkt,Nat.reduceBEq,Nat.reduceEqDiff,Nat.reduceAdd,Nat.reduceMul,Nat.reduceSub,Nat.reduceLeDiff,Nat.reduceLT,reduceCtorEq,↓reduceIte,↓reduceDIte,Int.reduceToNat,Int.reduceLE,Int.reduceLT,Int.reduceEq,Int.reduceNeg,tbL8_27,xbL8_1,List.map_cons,List.map_nil,List.length_cons,List.length_nil,ldD1,ldD2,ldD3,leD1,lgDH,tyD,ti55d,List.nil_append,List.append_nil,List.cons_append,e7,e4,pl,hp2];(try simp only [ite_and]);(repeat' (first|with_reducible assumption|refine And.intro ?_ ?_|intro hp));all_goals (first|(refine hQ _ ?_;clear hQ Q)|(refine hQ _ (fun h=>?_) (fun h=>?_) <;> clear hQ Q <;> (try simp only [vki,reduceCtorEq] at h))|(refine vq ?_;kernel_rfl)|omega|assumption|with_reducible rfl|skip)))
              refine ⟨⟨j+1,hjl⟩,by show m - (j+1) < m - j;omega, ?_⟩
              (refine Le.ok (fun j=>if j=6 then some 24 else some j) [] ?_;constructor;all_goals (try simp only [vle,vkt,Nat.reduceBEq,Nat.reduceEqDiff,Nat.reduceAdd,Nat.reduceMul,Nat.reduceSub,Nat.reduceLeDiff,Nat.reduceLT,reduceCtorEq,↓reduceIte,↓reduceDIte,Int.reduceToNat,Int.reduceLE,Int.reduceLT,Int.reduceEq,Int.reduceNeg,tbL8_27,xbL8_1,List.map_cons,List.map_nil,List.length_cons,List.length_nil,ldD1,ldD2,ldD3,leD1,lgDH,tyD,ti55d,List.nil_append,List.append_nil,List.cons_append]))
              all_goals first|rfl|exact ids_rid _|exact leL_ridS _ rfl rfl rfl|exact leL_ridR _ rfl rfl rfl|(refine ⟨?_,leL_ridS _ rfl rfl rfl, ?_⟩ <;> simp;done)|(simp;done)
            · have hjm:j=m:=by omega
              subst hjm
              generalize hq1:(rtK y j).1=r at *
              generalize hq2:(rtK y j).2=z at *
              have okd1:=okd.1
              refine sym_le (S':=ldD3 c d e w co rs r z W i) ?_ ?_
              · (refine Le.ok some [] ?_;constructor;all_goals (try simp only [vle,vkt,Nat.reduceBEq,Nat.reduceEqDiff,Nat.reduceAdd,Nat.reduceMul,Nat.reduceSub,Nat.reduceLeDiff,Nat.reduceLT,reduceCtorEq,↓reduceIte,↓reduceDIte,Int.reduceToNat,Int.reduceLE,Int.reduceLT,Int.reduceEq,Int.reduceNeg,tbL8_27,xbL8_1,List.map_cons,List.map_nil,List.length_cons,List.length_nil,ldD1,ldD2,ldD3,leD1,lgDH,tyD,ti55d,List.nil_append,List.append_nil,List.cons_append]))
                all_goals first|rfl|exact ids_rid _|exact leL_ridS _ rfl rfl rfl|exact leL_ridR _ rfl rfl rfl|(refine ⟨?_,leL_ridS _ rfl rfl rfl, ?_⟩ <;> simp [hq1,hq2];done)|(simp [hq1,hq2];done)
              have m1:(i+1) * 24≤140737488355328∧i+1≤maxLen:=by omega
              have e7:IntKind.wrap .i64 ((W:Int) - (i:Int) - 1)=(W:Int) - ((i+1:Nat):Int):=by rw [wrap64 (by omega) (by omega)];omega
              have lk:=rid_len (k:=i) (by omega)
              repeat' (first|(apply nx;with_reducible constructor)|refine uq (by decide) ?_|((first|refine vx env fun Q hQ=>?_|refine vz fun Q hQ=>?_);simp only [vkt,Nat.reduceBEq,Nat.reduceEqDiff,Nat.reduceAdd,Nat.reduceMul,Nat.reduceSub,Nat.reduceLeDiff,Nat.reduceLT,reduceCtorEq,↓reduceIte,↓reduceDIte,Int.reduceToNat,Int.reduceLE,Int.reduceLT,Int.reduceEq,Int.reduceNeg,tbL8_27,xbL8_1,List.map_cons,List.map_nil,List.length_cons,List.length_nil,ldD1,ldD2,ldD3,leD1,lgDH,tyD,ti55d,List.nil_append,List.append_nil,List.cons_append,e7,lk];(try simp only [ite_and]);(repeat' (first|with_reducible assumption|refine And.intro ?_ ?_|intro hp));all_goals (first|(refine hQ _ ?_;clear hQ Q)|(refine hQ _ (fun h=>?_) (fun h=>?_) <;> clear hQ Q <;> (try simp only [vki,reduceCtorEq] at h))|(refine vq ?_;kernel_rfl)|omega|assumption|with_reducible rfl|skip)))
              refine ⟨⟨i+1,hlt⟩,by show W - (i+1) < W - i;omega, ?_⟩
              rcases (show i=0∨i=1∨i=2 by omega) with h0|h0|h0
              · have w0:=rkv_new (rs:=rs) (r:=r) (k:=0) (by omega)
                have w1:=rkv_far (rs:=rs++[r]) (k:=0+1) (i:=1) (by omega)
                have w2:=rkv_far (rs:=rs++[r]) (k:=0+1) (i:=2) (by omega)
                have w3:=rkv_far (rs:=rs) (k:=0) (i:=1) (by omega)
                have w4:=rkv_far (rs:=rs) (k:=0) (i:=2) (by omega)
                subst h0
                (refine Le.ok (fun j=>if j=5 then some 24 else if j=20 then some 6 else some j) [] ?_;constructor;all_goals (try simp only [vle,vkt,Nat.reduceBEq,Nat.reduceEqDiff,Nat.reduceAdd,Nat.reduceMul,Nat.reduceSub,Nat.reduceLeDiff,Nat.reduceLT,reduceCtorEq,↓reduceIte,↓reduceDIte,Int.reduceToNat,Int.reduceLE,Int.reduceLT,Int.reduceEq,Int.reduceNeg,tbL8_27,xbL8_1,List.map_cons,List.map_nil,List.length_cons,List.length_nil,ldD1,ldD2,ldD3,leD1,lgDH,tyD,ti55d,List.nil_append,List.append_nil,List.cons_append]))
                all_goals first|rfl|exact ids_rid _|exact leL_ridS _ rfl rfl rfl|exact leL_ridR _ rfl rfl rfl|(refine ⟨?_,leL_ridS _ rfl rfl rfl, ?_⟩ <;> simp [hs1,hs2,rid0,rid1,w0,w1,w2,w3,w4,AV.le,AV.leL];done)|(simp [hs1,hs2,rid0,rid1,w0,w1,w2,w3,w4,AV.le,AV.leL];done)
              · have w0:=rkv_old (rs:=rs) (r:=r) (k:=1) (i:=0) (by omega) (by omega)
                have w1:=rkv_new (rs:=rs) (r:=r) (k:=1) (by omega)
                have w2:=rkv_far (rs:=rs++[r]) (k:=1+1) (i:=2) (by omega)
                have w4:=rkv_far (rs:=rs) (k:=1) (i:=2) (by omega)
                subst h0
                (refine Le.ok (fun j=>if j=5 then some 24 else if j=21 then some 6 else some j) [] ?_;constructor;all_goals (try simp only [vle,vkt,Nat.reduceBEq,Nat.reduceEqDiff,Nat.reduceAdd,Nat.reduceMul,Nat.reduceSub,Nat.reduceLeDiff,Nat.reduceLT,reduceCtorEq,↓reduceIte,↓reduceDIte,Int.reduceToNat,Int.reduceLE,Int.reduceLT,Int.reduceEq,Int.reduceNeg,tbL8_27,xbL8_1,List.map_cons,List.map_nil,List.length_cons,List.length_nil,ldD1,ldD2,ldD3,leD1,lgDH,tyD,ti55d,List.nil_append,List.append_nil,List.cons_append]))
                all_goals first|rfl|exact ids_rid _|exact leL_ridS _ rfl rfl rfl|exact leL_ridR _ rfl rfl rfl|(refine ⟨?_,leL_ridS _ rfl rfl rfl, ?_⟩ <;> simp [hs1,hs2,rid1,rid2,w0,w1,w2,w4,AV.le,AV.leL];done)|(simp [hs1,hs2,rid1,rid2,w0,w1,w2,w4,AV.le,AV.leL];done)
              · have w0:=rkv_old (rs:=rs) (r:=r) (k:=2) (i:=0) (by omega) (by omega)
                have w1:=rkv_old (rs:=rs) (r:=r) (k:=2) (i:=1) (by omega) (by omega)
                have w2:=rkv_new (rs:=rs) (r:=r) (k:=2) (by omega)
                subst h0
                (refine Le.ok (fun j=>if j=5 then some 24 else if j=22 then some 6 else some j) [] ?_;constructor;all_goals (try simp only [vle,vkt,Nat.reduceBEq,Nat.reduceEqDiff,Nat.reduceAdd,Nat.reduceMul,Nat.reduceSub,Nat.reduceLeDiff,Nat.reduceLT,reduceCtorEq,↓reduceIte,↓reduceDIte,Int.reduceToNat,Int.reduceLE,Int.reduceLT,Int.reduceEq,Int.reduceNeg,tbL8_27,xbL8_1,List.map_cons,List.map_nil,List.length_cons,List.length_nil,ldD1,ldD2,ldD3,leD1,lgDH,tyD,ti55d,List.nil_append,List.append_nil,List.cons_append]))
                all_goals first|rfl|exact ids_rid _|exact leL_ridS _ rfl rfl rfl|exact leL_ridR _ rfl rfl rfl|(refine ⟨?_,leL_ridS _ rfl rfl rfl, ?_⟩ <;> simp [hs1,hs2,rid2,rid3,w0,w1,w2,AV.le,AV.leL];done)|(simp [hs1,hs2,rid2,rid3,w0,w1,w2,AV.le,AV.leL];done)
        · have hiW:i=W:=by omega
          subst hiW
          have okd:=dyK_ok m b2 i
          generalize lg2 x c d=dy at *
          rw [← g2] at okd ⊢
          clear g2 hb2
          obtain ⟨rs,y⟩:=dy
          dsimp only at okd g3 gL ⊢
          obtain ⟨okd1,okd2⟩:=okd
          subst okd1
          subst okc
          have hrs:RsOk rs co.cs.length:=⟨by omega,fun r hr=>by have:=okd2 r hr;rwa [hm] at this⟩
          have hC:1≤co.cs.length∧co.cs.length≤4:=by omega
          have hu3:=upV_le (x:=y) (m:=e) (by omega) (by omega)
          obtain ⟨U,hU⟩:∃ U:Nat,upV y e=(U:Int):=⟨(upV y e).toNat,by omega⟩
          rw [hU,Int.toNat_natCast] at g3
          have hU6:U≤6:=by omega
          have m6:co.ss.length≤100000:=by omega
          have m7:e < 9223372036854775807:=by omega
          generalize hy3:upS y e=y3 at *
          have hI0:EnI co.cs.length rs.length 0 ⟨0,co.ss,[],y3⟩:=⟨Int.le_refl _,by show (0:Int)≤_;omega,okl,fun v hv=>by have:=ok.v v hv;omega,Nat.le_refl _⟩
          have hIk:=enK_ok hrs hC (w:=w) hI0
          have hE0:enK co.cs.length rs w ⟨0,co.ss,[],y3⟩ 0=⟨0,co.ss,[],y3⟩:=rfl
          have hst:=enK_1 co.cs.length rs w ⟨0,co.ss,[],y3⟩
          generalize enK co.cs.length rs w ⟨0,co.ss,[],y3⟩=EK at *
          repeat' (first|(apply nx;with_reducible constructor)|refine uq (by decide) ?_|((first|refine vx env fun Q hQ=>?_|refine vz fun Q hQ=>?_);simp only [vkt,Nat.reduceBEq,Nat.reduceEqDiff,Nat.reduceAdd,Nat.reduceMul,Nat.reduceSub,Nat.reduceLeDiff,Nat.reduceLT,reduceCtorEq,↓reduceIte,↓reduceDIte,Int.reduceToNat,Int.reduceLE,Int.reduceLT,Int.reduceEq,Int.reduceNeg,tbL8_27,xbL8_1,List.map_cons,List.map_nil,List.length_cons,List.length_nil,ldD1,ldD2,ldD3,leD1,lgDH,tyD,ti55d,List.nil_append,List.append_nil,List.cons_append,me,hU,hy3];(try simp only [ite_and]);(repeat' (first|with_reducible assumption|refine And.intro ?_ ?_|intro hp));all_goals (first|(refine hQ _ ?_;clear hQ Q)|(refine hQ _ (fun h=>?_) (fun h=>?_) <;> clear hQ Q <;> (try simp only [vki,reduceCtorEq] at h))|(refine vq ?_;kernel_rfl)|omega|assumption|with_reducible rfl|skip)))
          all_goals first|exact ⟨_,_,rfl⟩|skip
          refine sym_loop (fun k:{ k:Nat // k≤U }=>leD1 c d e w co rs (EK k.1) U k.1) (fun k=>U - k.1) ⟨0,Nat.zero_le _⟩ ?_ fun ⟨q,hq⟩=>?_
          · (refine Le.ok (fun j=>if j=7 then none else if j=6 then some 23 else some j) [] ?_;constructor;all_goals (try simp only [vle,vkt,Nat.reduceBEq,Nat.reduceEqDiff,Nat.reduceAdd,Nat.reduceMul,Nat.reduceSub,Nat.reduceLeDiff,Nat.reduceLT,reduceCtorEq,↓reduceIte,↓reduceDIte,Int.reduceToNat,Int.reduceLE,Int.reduceLT,Int.reduceEq,Int.reduceNeg,tbL8_27,xbL8_1,List.map_cons,List.map_nil,List.length_cons,List.length_nil,ldD1,ldD2,ldD3,leD1,lgDH,tyD,ti55d,List.nil_append,List.append_nil,List.cons_append]))
            all_goals first|rfl|exact ids_rid _|exact leL_ridS _ rfl rfl rfl|exact leL_ridR _ rfl rfl rfl|(refine ⟨?_,leL_ridS _ rfl rfl rfl, ?_⟩ <;> simp [hE0,hU];done)|(simp [hE0,hU];done)
          · repeat' (first|(apply nx;with_reducible constructor)|refine uq (by decide) ?_)
            (refine vx env fun Q hQ=>?_;simp only [vkt,Nat.reduceBEq,Nat.reduceEqDiff,Nat.reduceAdd,Nat.reduceMul,Nat.reduceSub,Nat.reduceLeDiff,Nat.reduceLT,reduceCtorEq,↓reduceIte,↓reduceDIte,Int.reduceToNat,Int.reduceLE,Int.reduceLT,Int.reduceEq,Int.reduceNeg,tbL8_27,xbL8_1,List.map_cons,List.map_nil,List.length_cons,List.length_nil,ldD1,ldD2,ldD3,leD1,lgDH,tyD,ti55d,List.nil_append,List.append_nil,List.cons_append];(try simp only [ite_and]);(repeat' (first|with_reducible assumption|refine And.intro ?_ ?_|intro hp));all_goals (first|(refine hQ _ ?_;clear hQ Q)|(refine vq ?_;kernel_rfl)|omega|assumption|with_reducible rfl|skip))
            repeat' (first|(apply nx;with_reducible constructor)|refine uq (by decide) ?_)
            (refine sym_cd (by simp only [vkt,Nat.reduceBEq,Nat.reduceEqDiff,Nat.reduceAdd,Nat.reduceMul,Nat.reduceSub,Nat.reduceLeDiff,Nat.reduceLT,reduceCtorEq,↓reduceIte,↓reduceDIte,Int.reduceToNat,Int.reduceLE,Int.reduceLT,Int.reduceEq,Int.reduceNeg,tbL8_27,xbL8_1,List.map_cons,List.map_nil,List.length_cons,List.length_nil,ldD1,ldD2,ldD3,leD1,lgDH,tyD,ti55d,List.nil_append,List.append_nil,List.cons_append];rfl) (fun h=>?_) (fun h=>?_) <;> (try simp only [vki,reduceCtorEq] at h))
            · have hlt:q < U:=by omega
              have hI:=hIk q
              have hJ:=enJ_of hrs hC hI
              have hst:=hst q
              generalize EK q=t at *
              unfold enStep enK0 enX2 kinds at hst
              unfold enX2 at hJ
              have hDb:=enD_bd hI (by omega)
              obtain ⟨D,hD⟩:∃ D,enD rs.length t=D:=⟨_,rfl⟩
              obtain ⟨X1,hX1⟩:∃ X1,enX1 rs.length t=X1:=⟨_,rfl⟩
              rw [hD] at hst hJ
              rw [hX1] at hst hJ
              have hD':t.day+upV t.x (min (t.day+1) ((rs.length:Int) - 1) - t.day)=D:=hD
              have hX1':upS t.x (min (t.day+1) ((rs.length:Int) - 1) - t.day)=X1:=hX1
              clear hD hX1 hDb
              obtain ⟨κ,hκ⟩:∃ κ,oneV X1 [1,2,3,3,3,4]=κ:=⟨_,rfl⟩
              obtain ⟨X2,hX2⟩:∃ X2,upS X1 ((6:Nat) - 1)=X2:=⟨_,rfl⟩
              rw [hκ,hX2] at hst
              rw [hX2] at hJ
              obtain ⟨cn,hcn⟩:∃ cn,upV X2 ((co.cs.length:Int) - 1)=cn:=⟨_,rfl⟩
              obtain ⟨X3,hX3⟩:∃ X3,upS X2 ((co.cs.length:Int) - 1)=X3:=⟨_,rfl⟩
              rw [hcn] at hst hJ
              rw [hX3] at hst
              have lk:=rid_len (k:=rs.length) (by omega)
              have t1:=hI.len
              have t2:=hI.es
              have t3:=hI.d0
              have t4:=hI.d1
              have j1:=hJ.d0
              have j2:=hJ.d1
              have j3:=hJ.c0
              have j4:=hJ.c1
              have j5:=hJ.h
              have wD:IntKind.wrap .i64 (t.day+1)=t.day+1:=wrap64 (by omega) (by omega)
              have wR:IntKind.wrap .i64 ((rs.length:Int) - 1)=(rs.length:Int) - 1:=wrap64 (by omega) (by omega)
              have wC:IntKind.wrap .i64 ((co.cs.length:Int) - 1)=(co.cs.length:Int) - 1:=wrap64 (by omega) (by omega)
              have e7:IntKind.wrap .i64 ((U:Int) - (q:Int) - 1)=(U:Int) - ((q+1:Nat):Int):=by rw [wrap64 (by omega) (by omega)];omega
              have m1:(t.es.length+1) * 48≤140737488355328∧t.es.length+1≤maxLen:=by omega
              have lc:cn.toNat < t.till.length:=by omega
              have e6:=gI0 lc
              have p1:-100000≤t.day∧t.day≤100000∧-100000≤min (t.day+1) ((rs.length:Int) - 1)∧min (t.day+1) ((rs.length:Int) - 1)≤100000:=by omega
              have p2:(co.cs.length:Int) - 1 < 9223372036854775807:=by omega
              generalize hh:t.till.getD cn.toNat 0=hv at *
              by_cases k1:κ=1
              · subst k1
                have hst:EK (q+1)=⟨D,t.till.set cn.toNat (hv+upV X3 90),t.es++[⟨D,1,cn,0,upV X3 90,0⟩],upS X3 90⟩:=by rw [hst];unfold enS0 enS1;rw [if_pos rfl,hh]
                have u1:=upV_le (x:=X3) (m:=90) (by decide) (by decide)
                have w1:IntKind.wrap .i64 (hv+upV X3 90)=hv+upV X3 90:=wrap64 (by omega) (by omega)
                have e4:t.es.map eEnt++[[.v (.int .i64 D),.v (.int .i64 1),.v (.int .i64 cn),.v (.int .i64 0),.v (.int .i64 (upV X3 90)),.v (.int .i64 0)]]=(t.es++[(⟨D,1,cn,0,upV X3 90,0⟩:Ent)]).map eEnt:=by rw [List.map_append];rfl
                repeat' (first|(apply nx;with_reducible constructor)|refine uq (by decide) ?_|((first|refine vx env fun Q hQ=>?_|refine vz fun Q hQ=>?_);simp only [vkt,Nat.reduceBEq,Nat.reduceEqDiff,Nat.reduceAdd,Nat.reduceMul,Nat.reduceSub,Nat.reduceLeDiff,Nat.reduceLT,reduceCtorEq,↓reduceIte,↓reduceDIte,Int.reduceToNat,Int.reduceLE,Int.reduceLT,Int.reduceEq,Int.reduceNeg,tbL8_27,xbL8_1,List.map_cons,List.map_nil,List.length_cons,List.length_nil,ldD1,ldD2,ldD3,leD1,lgDH,tyD,ti55d,List.nil_append,List.append_nil,List.cons_append,wD,lk,wR,wC,hD',hX1',hκ,hX2,hcn,hX3,e6,w1,e4,e7,setI];(try simp only [ite_and]);(repeat' (first|with_reducible assumption|refine And.intro ?_ ?_));all_goals (first|(refine hQ _ ?_;clear hQ Q)|(refine hQ _ (fun h=>?_) (fun h=>?_) <;> clear hQ Q <;> (try simp only [vki,reduceCtorEq] at h))|(refine vq ?_;kernel_rfl)|omega|with_reducible assumption|with_reducible rfl|skip)))
                all_goals first|exact ⟨_,_,rfl⟩|skip
                refine ⟨⟨q+1,hlt⟩,by show U - (q+1) < U - q;omega, ?_⟩
                (refine Le.ok (fun j=>if j=7 then some 26 else some j) [] ?_;constructor;all_goals (try simp only [vle,vkt,Nat.reduceBEq,Nat.reduceEqDiff,Nat.reduceAdd,Nat.reduceMul,Nat.reduceSub,Nat.reduceLeDiff,Nat.reduceLT,reduceCtorEq,↓reduceIte,↓reduceDIte,Int.reduceToNat,Int.reduceLE,Int.reduceLT,Int.reduceEq,Int.reduceNeg,tbL8_27,xbL8_1,List.map_cons,List.map_nil,List.length_cons,List.length_nil,ldD1,ldD2,ldD3,leD1,lgDH,tyD,ti55d,List.nil_append,List.append_nil,List.cons_append]))
                all_goals first|rfl|exact ids_rid _|exact leL_ridS _ rfl rfl rfl|exact leL_ridR _ rfl rfl rfl|(refine ⟨?_,leL_ridS _ rfl rfl rfl, ?_⟩ <;> simp [hst];done)|(simp [hst];done)
              by_cases k2:κ=2
              · subst k2
                have u1:=upV_bd (x:=X3) (m:=min hv 90) (by omega)
                have hst:EK (q+1)=⟨D,t.till.set cn.toNat (hv - upV X3 (min hv 90)),t.es++[(⟨D,2,cn,0,upV X3 (min hv 90),0⟩:Ent)],upS X3 (min hv 90)⟩:=by rw [hst];unfold enS0 enS2;rw [if_neg (by decide),if_pos rfl,hh]
                obtain ⟨am,hA⟩:∃ am,upV X3 (min hv 90)=am:=⟨_,rfl⟩
                obtain ⟨X4,hX4⟩:∃ X4,upS X3 (min hv 90)=X4:=⟨_,rfl⟩
                rw [hA,hX4] at hst
                rw [hA] at u1
                have p3:min hv 90 < 9223372036854775807:=by omega
                have w1:IntKind.wrap .i64 (hv - am)=hv - am:=wrap64 (by omega) (by omega)
                have e4:t.es.map eEnt++[[.v (.int .i64 D),.v (.int .i64 2),.v (.int .i64 cn),.v (.int .i64 0),.v (.int .i64 am),.v (.int .i64 0)]]=(t.es++[(⟨D,2,cn,0,am,0⟩:Ent)]).map eEnt:=by rw [List.map_append];rfl
                repeat' (first|(apply nx;with_reducible constructor)|refine uq (by decide) ?_|((first|refine vx env fun Q hQ=>?_|refine vz fun Q hQ=>?_);simp only [vkt,Nat.reduceBEq,Nat.reduceEqDiff,Nat.reduceAdd,Nat.reduceMul,Nat.reduceSub,Nat.reduceLeDiff,Nat.reduceLT,reduceCtorEq,↓reduceIte,↓reduceDIte,Int.reduceToNat,Int.reduceLE,Int.reduceLT,Int.reduceEq,Int.reduceNeg,tbL8_27,xbL8_1,List.map_cons,List.map_nil,List.length_cons,List.length_nil,ldD1,ldD2,ldD3,leD1,lgDH,tyD,ti55d,List.nil_append,List.append_nil,List.cons_append,wD,lk,wR,wC,hD',hX1',hκ,hX2,hcn,hX3,e6,hA,hX4,w1,e4,e7,setI];(try simp only [ite_and]);(repeat' (first|with_reducible assumption|refine And.intro ?_ ?_));all_goals (first|(refine hQ _ ?_;clear hQ Q)|(refine hQ _ (fun h=>?_) (fun h=>?_) <;> clear hQ Q <;> (try simp only [vki,reduceCtorEq] at h))|(refine vq ?_;kernel_rfl)|omega|with_reducible assumption|with_reducible rfl|skip)))
                all_goals first|exact ⟨_,_,rfl⟩|skip
                refine ⟨⟨q+1,hlt⟩,by show U - (q+1) < U - q;omega, ?_⟩
                (refine Le.ok (fun j=>if j=7 then some 26 else some j) [] ?_;constructor;all_goals (try simp only [vle,vkt,Nat.reduceBEq,Nat.reduceEqDiff,Nat.reduceAdd,Nat.reduceMul,Nat.reduceSub,Nat.reduceLeDiff,Nat.reduceLT,reduceCtorEq,↓reduceIte,↓reduceDIte,Int.reduceToNat,Int.reduceLE,Int.reduceLT,Int.reduceEq,Int.reduceNeg,tbL8_27,xbL8_1,List.map_cons,List.map_nil,List.length_cons,List.length_nil,ldD1,ldD2,ldD3,leD1,lgDH,tyD,ti55d,List.nil_append,List.append_nil,List.cons_append]))
                all_goals first|rfl|exact ids_rid _|exact leL_ridS _ rfl rfl rfl|exact leL_ridR _ rfl rfl rfl|(refine ⟨?_,leL_ridS _ rfl rfl rfl, ?_⟩ <;> simp [hst];done)|(simp [hst];done)
              by_cases k4:κ=4
              · subst k4
                have u1:=enA4_bd hv X3
                have u2:=upV_bd (x:=X3) (m:=3 - -3) (by decide)
                have hst:EK (q+1)=⟨D,t.till.set cn.toNat (enA4 hv X3),t.es++[(⟨D,4,cn,0,enA4 hv X3,0⟩:Ent)],upS (upS X3 (3 - -3)) ((2:Nat) - 1)⟩:=by rw [hst];unfold enS0 enS4;rw [if_neg (by decide),if_neg (by decide),if_pos rfl,hh]
                unfold enA4 enF at hst u1
                obtain ⟨f,hf⟩:∃ f,-3+upV X3 (3 - -3)=f:=⟨_,rfl⟩
                obtain ⟨X4,hX4⟩:∃ X4,upS X3 (3 - -3)=X4:=⟨_,rfl⟩
                have hf3:-3≤f∧f≤3:=by omega
                rw [hf,hX4] at hst u1
                have ho:=oneV_mem (x:=X4) (l:=[0,f]) (by simp) (by simp)
                obtain ⟨o,hO⟩:∃ o,oneV X4 [0,f]=o:=⟨_,rfl⟩
                obtain ⟨X5,hX5⟩:∃ X5,upS X4 ((2:Nat) - 1)=X5:=⟨_,rfl⟩
                rw [hO,hX5] at hst
                rw [hO] at u1 ho
                have ho:-3≤o∧o≤3:=by simp at ho;omega
                have w1:IntKind.wrap .i64 (hv+o)=hv+o:=wrap64 (by omega) (by omega)
                obtain ⟨am,hA⟩:∃ am,max 0 (min 999 (hv+o))=am:=⟨_,rfl⟩
                rw [hA] at hst
                have e4:t.es.map eEnt++[[.v (.int .i64 D),.v (.int .i64 4),.v (.int .i64 cn),.v (.int .i64 0),.v (.int .i64 am),.v (.int .i64 0)]]=(t.es++[(⟨D,4,cn,0,am,0⟩:Ent)]).map eEnt:=by rw [List.map_append];rfl
                repeat' (first|(apply nx;with_reducible constructor)|refine uq (by decide) ?_|((first|refine vx env fun Q hQ=>?_|refine vz fun Q hQ=>?_);simp only [vkt,Nat.reduceBEq,Nat.reduceEqDiff,Nat.reduceAdd,Nat.reduceMul,Nat.reduceSub,Nat.reduceLeDiff,Nat.reduceLT,reduceCtorEq,↓reduceIte,↓reduceDIte,Int.reduceToNat,Int.reduceLE,Int.reduceLT,Int.reduceEq,Int.reduceNeg,tbL8_27,xbL8_1,List.map_cons,List.map_nil,List.length_cons,List.length_nil,ldD1,ldD2,ldD3,leD1,lgDH,tyD,ti55d,List.nil_append,List.append_nil,List.cons_append,wD,lk,wR,wC,hD',hX1',hκ,hX2,hcn,hX3,e6,hf,hX4,hO,hX5,w1,hA,e4,e7,setI];(try simp only [ite_and]);(repeat' (first|with_reducible assumption|refine And.intro ?_ ?_));all_goals (first|(refine hQ _ ?_;clear hQ Q)|(refine hQ _ (fun h=>?_) (fun h=>?_) <;> clear hQ Q <;> (try simp only [vki,reduceCtorEq] at h))|(refine vq ?_;kernel_rfl)|omega|with_reducible assumption|with_reducible rfl|skip)))
                all_goals first|exact ⟨_,_,rfl⟩|skip
                all_goals first|exact ⟨_,_,rfl⟩|skip
                refine ⟨⟨q+1,hlt⟩,by show U - (q+1) < U - q;omega, ?_⟩
                (refine Le.ok (fun j=>if j=7 then some 27 else some j) [] ?_;constructor;all_goals (try simp only [vle,vkt,Nat.reduceBEq,Nat.reduceEqDiff,Nat.reduceAdd,Nat.reduceMul,Nat.reduceSub,Nat.reduceLeDiff,Nat.reduceLT,reduceCtorEq,↓reduceIte,↓reduceDIte,Int.reduceToNat,Int.reduceLE,Int.reduceLT,Int.reduceEq,Int.reduceNeg,tbL8_27,xbL8_1,List.map_cons,List.map_nil,List.length_cons,List.length_nil,ldD1,ldD2,ldD3,leD1,lgDH,tyD,ti55d,List.nil_append,List.append_nil,List.cons_append]))
                all_goals first|rfl|exact ids_rid _|exact leL_ridS _ rfl rfl rfl|exact leL_ridR _ rfl rfl rfl|(refine ⟨?_,leL_ridS _ rfl rfl rfl, ?_⟩ <;> simp [hst];done)|(simp [hst];done)
              have k3:κ=3:=by
                have:=oneV_mem (x:=X1) (l:=[1,2,3,3,3,4]) (by simp) (by simp)
                rw [hκ] at this
                simp at this
                omega
              subst k3
              unfold enS0 at hst
              rw [if_neg k1,if_neg k2,if_neg k4] at hst
              unfold enS3 at hst
              by_cases cC:co.cs.length=1
              · rw [if_pos cC] at hst
                have cC':decide ((co.cs.length:Int)=1)=true:=by simp [cC]
                repeat' (first|(apply nx;with_reducible constructor)|refine uq (by decide) ?_|((first|refine vx env fun Q hQ=>?_|refine vz fun Q hQ=>?_);simp only [vkt,Nat.reduceBEq,Nat.reduceEqDiff,Nat.reduceAdd,Nat.reduceMul,Nat.reduceSub,Nat.reduceLeDiff,Nat.reduceLT,reduceCtorEq,↓reduceIte,↓reduceDIte,Int.reduceToNat,Int.reduceLE,Int.reduceLT,Int.reduceEq,Int.reduceNeg,tbL8_27,xbL8_1,List.map_cons,List.map_nil,List.length_cons,List.length_nil,ldD1,ldD2,ldD3,leD1,lgDH,tyD,ti55d,List.nil_append,List.append_nil,List.cons_append,wD,lk,wR,wC,hD',hX1',hκ,hX2,hcn,hX3,cC',e7];(try simp only [ite_and]);(repeat' (first|with_reducible assumption|refine And.intro ?_ ?_));all_goals (first|(refine hQ _ ?_;clear hQ Q)|(refine hQ _ (fun h=>?_) (fun h=>?_) <;> clear hQ Q <;> (try simp only [vki,reduceCtorEq] at h))|(refine vq ?_;kernel_rfl)|omega|with_reducible assumption|with_reducible rfl|skip)))
                all_goals first|exact ⟨_,_,rfl⟩|skip
                refine ⟨⟨q+1,hlt⟩,by show U - (q+1) < U - q;omega, ?_⟩
                (refine Le.ok some [] ?_;constructor;all_goals (try simp only [vle,vkt,Nat.reduceBEq,Nat.reduceEqDiff,Nat.reduceAdd,Nat.reduceMul,Nat.reduceSub,Nat.reduceLeDiff,Nat.reduceLT,reduceCtorEq,↓reduceIte,↓reduceDIte,Int.reduceToNat,Int.reduceLE,Int.reduceLT,Int.reduceEq,Int.reduceNeg,tbL8_27,xbL8_1,List.map_cons,List.map_nil,List.length_cons,List.length_nil,ldD1,ldD2,ldD3,leD1,lgDH,tyD,ti55d,List.nil_append,List.append_nil,List.cons_append]))
                all_goals first|rfl|exact ids_rid _|exact leL_ridS _ rfl rfl rfl|exact leL_ridR _ rfl rfl rfl|(refine ⟨?_,leL_ridS _ rfl rfl rfl, ?_⟩ <;> simp [hst];done)|(simp [hst];done)
              · rw [if_neg cC] at hst
                have cC':¬ (co.cs.length:Int)=1:=by omega
                have u1:=upV_le (x:=X3) (m:=(co.cs.length:Int) - 1 - 1) (by omega) (by omega)
                have wT:IntKind.wrap .i64 (cn+(1+upV X3 ((co.cs.length:Int) - 1 - 1)))=cn+(1+upV X3 ((co.cs.length:Int) - 1 - 1)):=wrap64 (by omega) (by omega)
                have hT2:foldV (cn+(1+upV X3 ((co.cs.length:Int) - 1 - 1))) (co.cs.length:Int)=enTo co.cs.length cn X3:=rfl
                have hTb:0≤enTo co.cs.length cn X3∧enTo co.cs.length cn X3 < (co.cs.length:Int):=foldV_bd (by omega)
                obtain ⟨to,hT⟩:∃ to,foldV (cn+(1+upV X3 ((co.cs.length:Int) - 1 - 1))) (co.cs.length:Int)=to:=⟨_,rfl⟩
                rw [← hT2,hT] at hst hTb
                clear hT2
                obtain ⟨X4,hX4⟩:∃ X4,upS X3 ((co.cs.length:Int) - 1 - 1)=X4:=⟨_,rfl⟩
                rw [hX4,hh] at hst
                have u2:=upV_bd (x:=X4) (m:=min hv 40) (by omega)
                obtain ⟨am,hA⟩:∃ am,upV X4 (min hv 40)=am:=⟨_,rfl⟩
                obtain ⟨X5,hX5⟩:∃ X5,upS X4 (min hv 40)=X5:=⟨_,rfl⟩
                rw [hA,hX5] at hst
                rw [hA] at u2
                have am0:0≤am∧am≤40∧am≤hv:=by omega
                have s1:=hrs.sh j1 j2 j3 j4
                have s2:=hrs.sh j1 j2 hTb.1 (show to≤(co.cs.length:Int) - 1 by omega)
                have hGb:=enG0_bd s1 s2 am0.1 am0.2.1
                have lD:D.toNat < rs.length:=by omega
                have l3:rs.length≤3:=by omega
                have g1:=rid_at7 (k:=rs.length) lD (by omega)
                have g0:=rkv_at (rs:=rs) (k:=rs.length) lD
                obtain ⟨δ,hδ⟩:∃ δ,D.toNat=δ:=⟨_,rfl⟩
                have lR:=(okd2 _ (gMem (l:=rs) (k:=D.toNat) (d:=[]) lD)).len
                have q1:=s1.n
                have q2:=s1.d
                have q3:=s2.n
                have q4:=s2.d
                obtain ⟨G,hG0⟩:∃ G,enG0 rs D cn to am=G:=⟨_,rfl⟩
                unfold enS3a at hst
                rw [hG0] at hst hGb
                unfold enG0 at hG0
                generalize rs.getD D.toNat []=rw at *
                rw [hδ] at g0 g1 lD
                rcases (show δ=0∨δ=1∨δ=2 by omega) with h9|h9|h9
                all_goals
                  subst h9
                  obtain ⟨f,hf⟩:∃ f,rw.getD cn.toNat default=f:=⟨_,rfl⟩
                  obtain ⟨g,hg⟩:∃ g,rw.getD to.toNat default=g:=⟨_,rfl⟩
                  rw [hf] at q1 q2 hG0
                  rw [hg] at q3 q4 hG0
                  have lf:cn.toNat < rw.length:=by omega
                  have lg:to.toNat < rw.length:=by omega
                  have G1:(rw.map eSh).getD cn.toNat []=[.v (.int .i64 f.num),.v (.int .i64 f.den)]:=by rw [← hf];simp [List.getD_eq_getElem?_getD,lf,eSh]
                  have G2:(rw.map eSh).getD to.toNat []=[.v (.int .i64 g.num),.v (.int .i64 g.den)]:=by rw [← hg];simp [List.getD_eq_getElem?_getD,lg,eSh]
                  have m1':0≤am * f.num∧am * f.num≤800:=⟨Int.mul_nonneg am0.1 (by omega),Int.le_trans (Int.mul_le_mul am0.2.1 q1.2 (by omega) (by omega)) (by decide)⟩
                  have m2':0≤am * f.num * g.den∧am * f.num * g.den≤9600:=⟨Int.mul_nonneg m1'.1 (by omega),Int.le_trans (Int.mul_le_mul m1'.2 q4.2 (by omega) (by omega)) (by decide)⟩
                  have m3':0 < f.den * g.num∧f.den * g.num≤240:=⟨Int.mul_pos (by omega) (by omega),Int.le_trans (Int.mul_le_mul q2.2 q3.2 (by omega) (by omega)) (by decide)⟩
                  have wa:IntKind.wrap .i64 (am * f.num)=am * f.num:=wrap64 (by omega) (by omega)
                  have wb:IntKind.wrap .i64 (am * f.num * g.den)=am * f.num * g.den:=wrap64 (by omega) (by omega)
                  have wc:IntKind.wrap .i64 (f.den * g.num)=f.den * g.num:=wrap64 (by omega) (by omega)
                  have nz:¬ f.den * g.num=0:=by omega
                  have hG:(am * f.num * g.den).tdiv (f.den * g.num)=G:=hG0
                  have wd:IntKind.wrap .i64 G=G:=wrap64 (by omega) (by omega)
                  have ltl:to.toNat < t.till.length:=by omega
                  have g2:=gI0 ltl
                  have hht0:=hI.b _ (gMem (l:=t.till) (k:=to.toNat) (d:=0) ltl)
                  obtain ⟨ht,hht⟩:∃ ht,t.till.getD to.toNat 0=ht:=⟨_,rfl⟩
                  rw [hht] at g2 hht0
                  have w0:IntKind.wrap .i64 (hv - am)=hv - am:=wrap64 (by omega) (by omega)
                  have p3:min hv 40 < 9223372036854775807:=by omega
                  have p4:(co.cs.length:Int)≤1000000:=by omega
                  have et:to.toNat < (t.till.set cn.toNat (hv - am)).length:=by rw [List.length_set];exact ltl
                  have g3:=gI0 et
                  obtain ⟨X6,hX6⟩:∃ X6,upS X5 (10 - 1)=X6:=⟨_,rfl⟩
                  rw [hX6] at hst
                  by_cases c5:upV X5 (10 - 1) < w
                  · rw [if_pos c5] at hst
                    have u3:=upV_le (x:=X6) (m:=3 - 1) (by decide) (by decide)
                    obtain ⟨v,hv3⟩:∃ v,1+upV X6 (3 - 1)=v:=⟨_,rfl⟩
                    obtain ⟨X7,hX7⟩:∃ X7,upS X6 (3 - 1)=X7:=⟨_,rfl⟩
                    rw [hv3,hX7] at hst
                    have wg:IntKind.wrap .i64 (G+v)=G+v:=wrap64 (by omega) (by omega)
                    by_cases c6:999 < G+v
                    · have hst:EK (q+1)=⟨D,t.till,t.es,X7⟩:=by rw [hst];unfold enS3b;rw [if_pos c6]
                      repeat' (first|(apply nx;with_reducible constructor)|refine uq (by decide) ?_|((first|refine vx env fun Q hQ=>?_|refine vz fun Q hQ=>?_);simp only [vkt,Nat.reduceBEq,Nat.reduceEqDiff,Nat.reduceAdd,Nat.reduceMul,Nat.reduceSub,Nat.reduceLeDiff,Nat.reduceLT,reduceCtorEq,↓reduceIte,↓reduceDIte,Int.reduceToNat,Int.reduceLE,Int.reduceLT,Int.reduceEq,Int.reduceNeg,tbL8_27,xbL8_1,List.map_cons,List.map_nil,List.length_cons,List.length_nil,ldD1,ldD2,ldD3,leD1,lgDH,tyD,ti55d,List.nil_append,List.append_nil,List.cons_append,wD,lk,wR,wC,hD',hX1',hκ,hX2,hcn,hX3,e6,hδ,g1,g0,g2,G1,G2,wT,hT,hX4,hA,hX5,wa,wb,wc,wd,nz,hG,cC',c5,hX6,hv3,hX7,wg,c6,k1,k2,k4,e7,setI];(try simp only [ite_and]);(repeat' (first|with_reducible assumption|refine And.intro ?_ ?_));all_goals (first|(refine hQ _ ?_;clear hQ Q)|(refine hQ _ (fun h=>?_) (fun h=>?_) <;> clear hQ Q <;> (try simp only [vki,reduceCtorEq] at h))|(refine vq ?_;kernel_rfl)|omega|with_reducible assumption|with_reducible rfl|skip)))
                      all_goals first|exact ⟨_,_,rfl⟩|skip
                      refine ⟨⟨q+1,hlt⟩,by show U - (q+1) < U - q;omega, ?_⟩
                      (refine Le.ok some [] ?_;constructor;all_goals (try simp only [vle,vkt,Nat.reduceBEq,Nat.reduceEqDiff,Nat.reduceAdd,Nat.reduceMul,Nat.reduceSub,Nat.reduceLeDiff,Nat.reduceLT,reduceCtorEq,↓reduceIte,↓reduceDIte,Int.reduceToNat,Int.reduceLE,Int.reduceLT,Int.reduceEq,Int.reduceNeg,tbL8_27,xbL8_1,List.map_cons,List.map_nil,List.length_cons,List.length_nil,ldD1,ldD2,ldD3,leD1,lgDH,tyD,ti55d,List.nil_append,List.append_nil,List.cons_append]))
                      all_goals first|rfl|exact ids_rid _|exact leL_ridS _ rfl rfl rfl|exact leL_ridR _ rfl rfl rfl|(refine ⟨?_,leL_ridS _ rfl rfl rfl, ?_⟩ <;> simp [hst,g0];done)|(simp [hst];done)
                    · have hst:EK (q+1)=⟨D,(t.till.set cn.toNat (hv - am)).set to.toNat (ht+(G+v)),t.es++[(⟨D,3,cn,to,am,G+v⟩:Ent)],X7⟩:=by rw [hst];unfold enS3b;rw [if_neg c6,hh,hht]
                      have w1:IntKind.wrap .i64 (ht+(G+v))=ht+(G+v):=wrap64 (by omega) (by omega)
                      have e4:t.es.map eEnt++[[.v (.int .i64 D),.v (.int .i64 3),.v (.int .i64 cn),.v (.int .i64 to),.v (.int .i64 am),.v (.int .i64 (G+v))]]=(t.es++[(⟨D,3,cn,to,am,G+v⟩:Ent)]).map eEnt:=by rw [List.map_append];rfl
                      repeat' (first|(apply nx;with_reducible constructor)|refine uq (by decide) ?_|((first|refine vx env fun Q hQ=>?_|refine vz fun Q hQ=>?_);simp only [vkt,Nat.reduceBEq,Nat.reduceEqDiff,Nat.reduceAdd,Nat.reduceMul,Nat.reduceSub,Nat.reduceLeDiff,Nat.reduceLT,reduceCtorEq,↓reduceIte,↓reduceDIte,Int.reduceToNat,Int.reduceLE,Int.reduceLT,Int.reduceEq,Int.reduceNeg,tbL8_27,xbL8_1,List.map_cons,List.map_nil,List.length_cons,List.length_nil,ldD1,ldD2,ldD3,leD1,lgDH,tyD,ti55d,List.nil_append,List.append_nil,List.cons_append,wD,lk,wR,wC,hD',hX1',hκ,hX2,hcn,hX3,e6,hδ,g1,g0,g2,G1,G2,wT,hT,hX4,hA,hX5,wa,wb,wc,wd,nz,hG,cC',c5,hX6,hv3,hX7,wg,c6,k1,k2,k4,e7,hh,hht,et,g3,w0,w1,e4,setI];(try simp only [ite_and]);(repeat' (first|with_reducible assumption|refine And.intro ?_ ?_));all_goals (first|(refine hQ _ ?_;clear hQ Q)|(refine hQ _ (fun h=>?_) (fun h=>?_) <;> clear hQ Q <;> (try simp only [vki,reduceCtorEq] at h))|(refine vq ?_;kernel_rfl)|omega|with_reducible assumption|with_reducible rfl|skip)))
                      all_goals first|exact ⟨_,_,rfl⟩|skip
                      refine ⟨⟨q+1,hlt⟩,by show U - (q+1) < U - q;omega, ?_⟩
                      (refine Le.ok (fun j=>if j=7 then some 28 else some j) [] ?_;constructor;all_goals (try simp only [vle,vkt,Nat.reduceBEq,Nat.reduceEqDiff,Nat.reduceAdd,Nat.reduceMul,Nat.reduceSub,Nat.reduceLeDiff,Nat.reduceLT,reduceCtorEq,↓reduceIte,↓reduceDIte,Int.reduceToNat,Int.reduceLE,Int.reduceLT,Int.reduceEq,Int.reduceNeg,tbL8_27,xbL8_1,List.map_cons,List.map_nil,List.length_cons,List.length_nil,ldD1,ldD2,ldD3,leD1,lgDH,tyD,ti55d,List.nil_append,List.append_nil,List.cons_append]))
                      all_goals first|rfl|exact ids_rid _|exact leL_ridS _ rfl rfl rfl|exact leL_ridR _ rfl rfl rfl|(refine ⟨?_,leL_ridS _ rfl rfl rfl, ?_⟩ <;> simp [hst,g0];done)|(simp [hst];done)
                  · rw [if_neg c5] at hst
                    by_cases c6:999 < G
                    · have hst:EK (q+1)=⟨D,t.till,t.es,X6⟩:=by rw [hst];unfold enS3b;rw [if_pos c6]
                      repeat' (first|(apply nx;with_reducible constructor)|refine uq (by decide) ?_|((first|refine vx env fun Q hQ=>?_|refine vz fun Q hQ=>?_);simp only [vkt,Nat.reduceBEq,Nat.reduceEqDiff,Nat.reduceAdd,Nat.reduceMul,Nat.reduceSub,Nat.reduceLeDiff,Nat.reduceLT,reduceCtorEq,↓reduceIte,↓reduceDIte,Int.reduceToNat,Int.reduceLE,Int.reduceLT,Int.reduceEq,Int.reduceNeg,tbL8_27,xbL8_1,List.map_cons,List.map_nil,List.length_cons,List.length_nil,ldD1,ldD2,ldD3,leD1,lgDH,tyD,ti55d,List.nil_append,List.append_nil,List.cons_append,wD,lk,wR,wC,hD',hX1',hκ,hX2,hcn,hX3,e6,hδ,g1,g0,g2,G1,G2,wT,hT,hX4,hA,hX5,wa,wb,wc,wd,nz,hG,cC',c5,hX6,c6,k1,k2,k4,e7,setI];(try simp only [ite_and]);(repeat' (first|with_reducible assumption|refine And.intro ?_ ?_));all_goals (first|(refine hQ _ ?_;clear hQ Q)|(refine hQ _ (fun h=>?_) (fun h=>?_) <;> clear hQ Q <;> (try simp only [vki,reduceCtorEq] at h))|(refine vq ?_;kernel_rfl)|omega|with_reducible assumption|with_reducible rfl|skip)))
                      all_goals first|exact ⟨_,_,rfl⟩|skip
                      refine ⟨⟨q+1,hlt⟩,by show U - (q+1) < U - q;omega, ?_⟩
                      (refine Le.ok some [] ?_;constructor;all_goals (try simp only [vle,vkt,Nat.reduceBEq,Nat.reduceEqDiff,Nat.reduceAdd,Nat.reduceMul,Nat.reduceSub,Nat.reduceLeDiff,Nat.reduceLT,reduceCtorEq,↓reduceIte,↓reduceDIte,Int.reduceToNat,Int.reduceLE,Int.reduceLT,Int.reduceEq,Int.reduceNeg,tbL8_27,xbL8_1,List.map_cons,List.map_nil,List.length_cons,List.length_nil,ldD1,ldD2,ldD3,leD1,lgDH,tyD,ti55d,List.nil_append,List.append_nil,List.cons_append]))
                      all_goals first|rfl|exact ids_rid _|exact leL_ridS _ rfl rfl rfl|exact leL_ridR _ rfl rfl rfl|(refine ⟨?_,leL_ridS _ rfl rfl rfl, ?_⟩ <;> simp [hst,g0];done)|(simp [hst];done)
                    · have hst:EK (q+1)=⟨D,(t.till.set cn.toNat (hv - am)).set to.toNat (ht+G),t.es++[(⟨D,3,cn,to,am,G⟩:Ent)],X6⟩:=by rw [hst];unfold enS3b;rw [if_neg c6,hh,hht]
                      have w1:IntKind.wrap .i64 (ht+(G))=ht+(G):=wrap64 (by omega) (by omega)
                      have e4:t.es.map eEnt++[[.v (.int .i64 D),.v (.int .i64 3),.v (.int .i64 cn),.v (.int .i64 to),.v (.int .i64 am),.v (.int .i64 (G))]]=(t.es++[(⟨D,3,cn,to,am,G⟩:Ent)]).map eEnt:=by rw [List.map_append];rfl
                      repeat' (first|(apply nx;with_reducible constructor)|refine uq (by decide) ?_|((first|refine vx env fun Q hQ=>?_|refine vz fun Q hQ=>?_);simp only [vkt,Nat.reduceBEq,Nat.reduceEqDiff,Nat.reduceAdd,Nat.reduceMul,Nat.reduceSub,Nat.reduceLeDiff,Nat.reduceLT,reduceCtorEq,↓reduceIte,↓reduceDIte,Int.reduceToNat,Int.reduceLE,Int.reduceLT,Int.reduceEq,Int.reduceNeg,tbL8_27,xbL8_1,List.map_cons,List.map_nil,List.length_cons,List.length_nil,ldD1,ldD2,ldD3,leD1,lgDH,tyD,ti55d,List.nil_append,List.append_nil,List.cons_append,wD,lk,wR,wC,hD',hX1',hκ,hX2,hcn,hX3,e6,hδ,g1,g0,g2,G1,G2,wT,hT,hX4,hA,hX5,wa,wb,wc,wd,nz,hG,cC',c5,hX6,c6,k1,k2,k4,e7,hh,hht,et,g3,w0,w1,e4,setI];(try simp only [ite_and]);(repeat' (first|with_reducible assumption|refine And.intro ?_ ?_));all_goals (first|(refine hQ _ ?_;clear hQ Q)|(refine hQ _ (fun h=>?_) (fun h=>?_) <;> clear hQ Q <;> (try simp only [vki,reduceCtorEq] at h))|(refine vq ?_;kernel_rfl)|omega|with_reducible assumption|with_reducible rfl|skip)))
                      all_goals first|exact ⟨_,_,rfl⟩|skip
                      refine ⟨⟨q+1,hlt⟩,by show U - (q+1) < U - q;omega, ?_⟩
                      (refine Le.ok (fun j=>if j=7 then some 28 else some j) [] ?_;constructor;all_goals (try simp only [vle,vkt,Nat.reduceBEq,Nat.reduceEqDiff,Nat.reduceAdd,Nat.reduceMul,Nat.reduceSub,Nat.reduceLeDiff,Nat.reduceLT,reduceCtorEq,↓reduceIte,↓reduceDIte,Int.reduceToNat,Int.reduceLE,Int.reduceLT,Int.reduceEq,Int.reduceNeg,tbL8_27,xbL8_1,List.map_cons,List.map_nil,List.length_cons,List.length_nil,ldD1,ldD2,ldD3,leD1,lgDH,tyD,ti55d,List.nil_append,List.append_nil,List.cons_append]))
                      all_goals first|rfl|exact ids_rid _|exact leL_ridS _ rfl rfl rfl|exact leL_ridR _ rfl rfl rfl|(refine ⟨?_,leL_ridS _ rfl rfl rfl, ?_⟩ <;> simp [hst,g0];done)|(simp [hst];done)
            · have hqU:q=U:=by omega
              subst hqU
              rw [gL,gS,g3]
              repeat' (first|(apply nx;with_reducible constructor)|refine uq (by decide) ?_|((first|refine vx env fun Q hQ=>?_|refine vz fun Q hQ=>?_);simp only [vkt,Nat.reduceBEq,Nat.reduceEqDiff,Nat.reduceAdd,Nat.reduceMul,Nat.reduceSub,Nat.reduceLeDiff,Nat.reduceLT,reduceCtorEq,↓reduceIte,↓reduceDIte,Int.reduceToNat,Int.reduceLE,Int.reduceLT,Int.reduceEq,Int.reduceNeg,tbL8_27,xbL8_1,List.map_cons,List.map_nil,List.length_cons,List.length_nil,ldD1,ldD2,ldD3,leD1,lgDH,tyD,ti55d,List.nil_append,List.append_nil,List.cons_append];(try simp only [ite_and]);(repeat' (first|with_reducible assumption|refine And.intro ?_ ?_));all_goals (first|(refine hQ _ ?_;clear hQ Q)|(refine hQ _ (fun h=>?_) (fun h=>?_) <;> clear hQ Q <;> (try simp only [vki,reduceCtorEq] at h))|(refine vq ?_;kernel_rfl)|omega|with_reducible assumption|with_reducible rfl|skip)))
              (simp only [vrt,Try.results27,vkt,Nat.reduceBEq,Nat.reduceEqDiff,Nat.reduceAdd,Nat.reduceMul,Nat.reduceSub,Nat.reduceLeDiff,Nat.reduceLT,reduceCtorEq,↓reduceIte,↓reduceDIte,Int.reduceToNat,Int.reduceLE,Int.reduceLT,Int.reduceEq,Int.reduceNeg,tbL8_27,xbL8_1,List.map_cons,List.map_nil,List.length_cons,List.length_nil,ldD1,ldD2,ldD3,leD1,lgDH,tyD,ti55d,List.nil_append,List.append_nil,List.cons_append];refine Fin.ok (fun j=>if j=0 then some 0 else if j=1 then some 5 else if j=2 then some 20 else if j=3 then some 21 else if j=4 then some 22 else none) [3,4,7] ?_ ?_ ?_ ?_ ?_ rfl;all_goals (try simp only [vle,vkt,Nat.reduceBEq,Nat.reduceEqDiff,Nat.reduceAdd,Nat.reduceMul,Nat.reduceSub,Nat.reduceLeDiff,Nat.reduceLT,reduceCtorEq,↓reduceIte,↓reduceDIte,Int.reduceToNat,Int.reduceLE,Int.reduceLT,Int.reduceEq,Int.reduceNeg,tbL8_27,xbL8_1,List.map_cons,List.map_nil,List.length_cons,List.length_nil,ldD1,ldD2,ldD3,leD1,lgDH,tyD,ti55d,List.nil_append,List.append_nil,List.cons_append]))
              all_goals first|rfl|exact ids_rid _|exact leL_ridS _ rfl rfl rfl|exact leL_ridR _ rfl rfl rfl|(refine ⟨?_,leL_ridS _ rfl rfl rfl, ?_⟩ <;> simp;done)|(simp;done)|exact ⟨⟨_,_,rfl⟩,⟨_,_,rfl⟩,⟨_,_,rfl⟩,⟨_,_,rfl⟩⟩|exact ⟨⟨_,_,rfl⟩,⟨_,_,rfl⟩,⟨_,_,rfl⟩,⟨_,_,rfl⟩,trivial⟩
noncomputable def p27d (S:St):List AV→Option Pk
  |[.ptr i 0,.v (.int .i64 c),.v (.int .i64 d),.v (.int .i64 e),.v (.int .i64 w)]=>match S.h i with
    |some (.cells [.v (.int .u64 x)])=>some { pre:=(1≤c∧c≤4)∧(1≤d∧d≤3)∧(0≤e∧e≤6),hs:=[i],ar:=[.ptr 0 0,.v (.int .i64 c),.v (.int .i64 d),.v (.int .i64 e),.v (.int .i64 w)],L0:=[.cells [.v (.int .u64 x)]],v:=.agg [.sl ((lgL x c d e w).coins.map eInts),.row 1,.sl ((lgL x c d e w).start.map eInt),.sl ((lgL x c d e w).entries.map eEnt)],L1:=[some (.cells [.v (.int .u64 (lgS x c d e w))]),some (.rows 55 (ridR (lgL x c d e w).rates.length)),some (.row 59 2 (rkv (lgL x c d e w).rates (lgL x c d e w).rates.length 0)),some (.row 59 2 (rkv (lgL x c d e w).rates (lgL x c d e w).rates.length 1)),some (.row 59 2 (rkv (lgL x c d e w).rates (lgL x c d e w).rates.length 2))] }
    |_=>none
  |_=>none
theorem e27d {A:Frm→Prop}:EntryOK A Try.prog 27 (fnE p27d):=fnE_ok fun S bs q h hp=>by
  unfold p27d at h
  split at h
  · split at h
    · cases h;exact ledgerD_fn _ _ _ _ _ hp.1 hp.2.1 hp.2.2
    · cases h
  · cases h
end Go.Sym.B
namespace Go.Sym.B
open Go Go.Sym Go.Proofs Go.Sym.C
def choF:Nat→List (List Int)→List (List (List Int))
  |0,_=>[[]]
  |m+1,ps=>(List.range ps.length).flatMap fun i:Nat=>(choF m (ps.drop (i+1))).map fun c=>ps.getD i [] :: c
def choK (m:Nat) (ps:List (List Int)) (k:Nat):List (List (List Int)):=(List.range k).flatMap fun i:Nat=>(choF m (ps.drop (i+1))).map fun c=>ps.getD i [] :: c
theorem choF_succ (m:Nat) (ps:List (List Int)):choF (m+1) ps=choK m ps ps.length:=rfl
theorem choK_succ (m:Nat) (ps:List (List Int)) (k:Nat):choK m ps (k+1)=choK m ps k++(choF m (ps.drop (k+1))).map fun c=>ps.getD k [] :: c:=by
  unfold choK;rw [List.range_succ,List.flatMap_append];simp
theorem drop_getD (ps:List (List Int)) (f i:Nat):(ps.drop f).getD i []=ps.getD (f+i) []:=by simp [List.getD_eq_getElem?_getD]
theorem grow_cho (hit:List (List Int)→Bool) (ps:List (List Int)):∀ (m:Nat) (b:List (List Int)) (f:Nat),
    (growF hit ps m b f).2=((choF m (ps.drop f)).find? fun c=>hit (b++c)).isSome∧∀ c,((choF m (ps.drop f)).find? fun c=>hit (b++c))=some c→(growF hit ps m b f).1=b++c
  |0,b,f=>by
    simp only [growF,choF,List.find?_cons,List.find?_nil,List.append_nil]
    cases hit b <;> simp
  |m+1,b,f=>by
    have ih:=grow_cho hit ps m
    have e:((choF (m+1) (ps.drop f)).find? fun c=>hit (b++c))=(List.range (ps.length - f)).findSome? fun i=>((choF m (ps.drop (f+i+1))).find? fun c=>hit ((b++[ps.getD (f+i) []])++c)).map fun c=>ps.getD (f+i) [] :: c:=by
      rw [choF_succ]
      unfold choK
      rw [List.find?_flatMap,List.length_drop]
      congr 1
      funext i
      rw [List.find?_map,List.drop_drop,drop_getD,show f+(i+1)=f+i+1 by omega]
      congr 2
      funext c
      simp
    rw [e]
    simp only [growF]
    cases hf:(List.range (ps.length - f)).find? (fun i=>(growF hit ps m (b++[ps.getD (f+i) []]) (f+i+1)).2) with
    |none =>
      have hn:=List.find?_eq_none.1 hf
      have:((List.range (ps.length - f)).findSome? fun i=>((choF m (ps.drop (f+i+1))).find? fun c=>hit ((b++[ps.getD (f+i) []])++c)).map fun c=>ps.getD (f+i) [] :: c)=none:=by
        rw [List.findSome?_eq_none_iff]
        intro i hi
        have h1:=hn i hi
        rw [(ih _ _).1] at h1
        simp only [Bool.not_eq_true,Option.isSome_eq_false_iff,Option.isNone_iff_eq_none] at h1
        rw [h1];rfl
      rw [this]
      exact ⟨rfl,fun c hc=>by cases hc⟩
    |some i =>
      obtain ⟨h1,h2,h3⟩:=List.find?_range_eq_some.1 hf
      have h2:=List.mem_range.1 h2
      have g1:=(ih (b++[ps.getD (f+i) []]) (f+i+1)).1
      rw [h1] at g1
      obtain ⟨c0,hc0⟩:=Option.isSome_iff_exists.1 g1.symm
      have g2:=(ih (b++[ps.getD (f+i) []]) (f+i+1)).2 c0 hc0
      have:((List.range (ps.length - f)).findSome? fun i=>((choF m (ps.drop (f+i+1))).find? fun c=>hit ((b++[ps.getD (f+i) []])++c)).map fun c=>ps.getD (f+i) [] :: c)=some (ps.getD (f+i) [] :: c0):=by
        have hr:List.range (ps.length - f)=List.range i++i :: (List.range (ps.length - f)).drop (i+1):=by
          have hi:i < (List.range (ps.length - f)).length:=by simpa using h2
          conv=>lhs;rw [← List.take_append_drop i (List.range (ps.length - f)),List.drop_eq_getElem_cons hi]
          congr 1
          · rw [List.take_range];congr 1;omega
          · congr 1;simp
        rw [hr,List.findSome?_append]
        have:((List.range i).findSome? fun i=>((choF m (ps.drop (f+i+1))).find? fun c=>hit ((b++[ps.getD (f+i) []])++c)).map fun c=>ps.getD (f+i) [] :: c)=none:=by
          rw [List.findSome?_eq_none_iff]
          intro j hj
          have h4:=h3 j (List.mem_range.1 hj)
          rw [(ih _ _).1] at h4
          simp only [Bool.not_eq_true',Option.isSome_eq_false_iff,Option.isNone_iff_eq_none] at h4
          rw [h4];rfl
        rw [this,Option.none_or,List.findSome?_cons,hc0]
        rfl
      rw [this]
      refine ⟨rfl,fun c hc=>?_⟩
      simp only [Option.some.injEq] at hc
      subst hc
      rw [g2];simp
theorem sub_cho {s ps:List (List Int)} (h:s.Sublist ps):s ∈ choF s.length ps:=by
  induction h with
  |slnil=>simp [choF]
  |@cons s ps a h ih =>
    cases s with
    |nil=>simp [choF]
    |cons x s =>
      simp only [List.length_cons,choF] at ih ⊢
      obtain ⟨i,hi,h2⟩:=List.mem_flatMap.1 ih
      refine List.mem_flatMap.2 ⟨i+1,by simpa using hi, ?_⟩
      simpa using h2
  |@cons_cons s ps a h ih =>
    simp only [List.length_cons,choF]
    refine List.mem_flatMap.2 ⟨0,by simp, ?_⟩
    refine List.mem_map.2 ⟨s,by simpa using ih,by simp⟩
theorem nodup_sub {α:Type} [DecidableEq α]:∀ (l C:List α),l.Nodup→(∀ x ∈ l,x ∈ C)→l.length≤C.length
  |[],_,_,_=>by simp
  |a :: l,C,hn,h=>by
    obtain ⟨h1,h2⟩:=List.nodup_cons.1 hn
    have ha:=h a (by simp)
    have:=nodup_sub l (C.erase a) h2 fun x hx=>(List.mem_erase_of_ne (by intro e;subst e;exact h1 hx)).2 (h x (List.mem_cons_of_mem _ hx))
    rw [List.length_erase_of_mem ha] at this
    have:=List.length_pos_of_mem ha
    rw [List.length_cons];omega
theorem pairs_nodup (l:Led):(pairsOf l).Nodup:=by
  unfold pairsOf pairsK List.Nodup
  rw [List.pairwise_flatMap]
  refine ⟨fun d _=>?_, ?_⟩
  · unfold pairsR
    rw [List.pairwise_map]
    refine List.Pairwise.imp (fun {a b} hab=>?_) List.nodup_range
    intro e
    simp at e
    omega
  · refine List.Pairwise.imp (fun {a b} hab=>?_) List.nodup_range
    intro x hx y hy e
    unfold pairsR at hx hy
    obtain ⟨c,_,rfl⟩:=List.mem_map.1 hx
    obtain ⟨c',_,rfl⟩:=List.mem_map.1 hy
    simp at e
    omega
end Go.Sym.B
namespace Go.Sym.B
open Go Go.Sym Go.Proofs Go.Sym.C
def paT1 (l:Led) (d:Nat):St:={ t:=asg [(1,.ptr 0 0),(2,.nil),(3,.row 1),(4,aI d)],h:=hasg [(0,.cells (cLed l)),(1,.row 22 1 ((pairsK l.coins.length d).map eInts))],n:=2 }
def paT2 (l:Led) (d c:Nat):St:={ t:=asg [(1,.ptr 0 0),(2,.nil),(3,.row 1),(4,aI d),(5,aI ((c:Int)+1))],h:=hasg [(0,.cells (cLed l)),(1,.row 22 1 ((pairsK l.coins.length d++pairsC d c).map eInts))],n:=2 }
def tbK9_35:=vj @ty3 (vj @ty22 (vj @ty28 (vj @ty35 (vj @ty38 (vj @ty55 (vj @ti3.eq_1 (vj @ti22.eq_1 (vj @ti28.eq_1 (vj @ti35.eq_1 (vj @ti38.eq_1 @ti55.eq_1))))))))))
def xbK9_3:=vj @aI.eq_1 (vj @aB.eq_1 (vj @aLed.eq_1 (vj @cLed.eq_1 (vj @aInts.eq_1 (vj @aIntss.eq_1 (vj @eInt.eq_1 (vj @eInts.eq_1 (vj @rInt (@rInts)))))))))
theorem pairs_fn (l:Led) (hV:Val l):FnV Try.prog 35 [aLed l] (aIntss (pairsOf l)):=by
  have env:Env (fun _=>True) Try.prog tyB (tab []):=mkEnv trivial
  refine Fn.of (A:=fun _=>True) (n0:=0) (D:=noD) (Fn0 Try.func35 rfl (fun vs w=>by kernel_rfl) (by kernel_rfl)) (by simp) (by simp [AV.ids,AV.idsL,aLed,cLed]) (fun i o h=>by cases h) (fun _ _ _ _=>trivial) noD_ok ?_
  have q1:=hV.c
  have q2:=hV.r
  have big:(100000:Nat)≤maxLen:=by decide
  repeat' (first|(apply nx;with_reducible constructor)|refine uq (by decide) ?_|((first|refine vx env fun Q hQ=>?_|refine vz fun Q hQ=>?_);simp only [vkt,seval,tbK9_35,xbK9_3,paT1,paT2];(try simp only [ite_and]);(repeat' (first|with_reducible assumption|refine And.intro ?_ ?_|intro hp));all_goals (first|(refine hQ _ ?_;clear hQ Q)|(refine hQ _ (fun h=>?_) (fun h=>?_) <;> clear hQ Q <;> (try simp only [vki,reduceCtorEq] at h))|omega|assumption|with_reducible rfl|(refine vq ?_;kernel_rfl)|skip)))
  refine sym_loop (fun d:{ d:Nat // d≤l.rates.length }=>paT1 l d.1) (fun d=>l.rates.length - d.1) ⟨0,Nat.zero_le _⟩ ?_ fun ⟨d,hd⟩=>?_
  · (refine Le.ok (fun j=>if j=0 then some 0 else none) [] ?_;constructor;all_goals (try simp only [vle,vkt,seval,tbK9_35,xbK9_3,paT1,paT2]))
    all_goals first|rfl|trivial|(simp [pairsK];done)
  by_cases hlt:d < l.rates.length
  · have d1:decide ((d:Int) < (l.rates.length:Int))=true:=decide_eq_true (by omega)
    have e9:=wrap64 (n:=(d:Int)+1) (by omega) (by omega)
    repeat' (first|(apply nx;with_reducible constructor)|refine uq (by decide) ?_|((first|refine vx env fun Q hQ=>?_|refine vz fun Q hQ=>?_);simp only [vkt,seval,tbK9_35,xbK9_3,paT1,paT2,d1];(try simp only [ite_and]);(repeat' (first|with_reducible assumption|refine And.intro ?_ ?_|intro hp));all_goals (first|(refine hQ _ ?_;clear hQ Q)|(refine hQ _ (fun h=>?_) (fun h=>?_) <;> clear hQ Q <;> (try simp only [vki,reduceCtorEq] at h))|omega|assumption|with_reducible rfl|(refine vq ?_;kernel_rfl)|skip)))
    refine sym_loop (fun c:{ c:Nat // c+1≤l.coins.length }=>paT2 l d c.1) (fun c=>l.coins.length - c.1) ⟨0,by omega⟩ ?_ fun ⟨c,hc⟩=>?_
    · (refine Le.ok some [] ?_;constructor;all_goals (try simp only [vle,vkt,seval,tbK9_35,xbK9_3,paT1,paT2]))
      all_goals first|rfl|trivial|(simp [pairsC];done)
    by_cases hcl:c+1 < l.coins.length
    · have d2:decide ((c:Int)+1 < (l.coins.length:Int))=true:=decide_eq_true (by omega)
      have e8:IntKind.wrap .i64 ((c:Int)+1+1)=((c+1:Nat):Int)+1:=by rw [wrap64 (by omega) (by omega)];omega
      have e4:(pairsK l.coins.length d++pairsC d c).map eInts++[[.sl [[.v (.int .i64 (d:Int))],[.v (.int .i64 ((c:Int)+1))]]]]=(pairsK l.coins.length d++pairsC d (c+1)).map eInts:=by
        rw [pairsC_succ,← List.append_assoc,List.map_append (l₁:=pairsK l.coins.length d++pairsC d c)];rfl
      have hl1:(pairsK l.coins.length d++pairsC d c).length≤100:=by
        rw [List.length_append,pairsK_len,pairsC_len]
        have:d * (l.coins.length - 1)≤4 * 3:=Nat.mul_le_mul (by omega) (by omega)
        omega
      obtain ⟨X,hX⟩:∃ X,pairsK l.coins.length d++pairsC d c=X:=⟨_,rfl⟩
      rw [hX] at e4 hl1
      have m1:(X.length+1) * 24≤140737488355328∧X.length+1≤maxLen:=by omega
      unfold paT2
      rw [hX]
      repeat' (first|(apply nx;with_reducible constructor)|refine uq (by decide) ?_|((first|refine vx env fun Q hQ=>?_|refine vz fun Q hQ=>?_);simp only [vkt,seval,tbK9_35,xbK9_3,paT1,paT2,d2,e8,e4];(try simp only [ite_and]);(repeat' (first|with_reducible assumption|refine And.intro ?_ ?_|intro hp));all_goals (first|(refine hQ _ ?_;clear hQ Q)|(refine hQ _ (fun h=>?_) (fun h=>?_) <;> clear hQ Q <;> (try simp only [vki,reduceCtorEq] at h))|omega|assumption|with_reducible rfl|(refine vq ?_;kernel_rfl)|skip)))
      refine ⟨⟨c+1,hcl⟩,by show l.coins.length - (c+1) < l.coins.length - c;omega, ?_⟩
      (refine Le.ok (fun j=>if j=1 then some 4 else some j) [] ?_;constructor;all_goals (try simp only [vle,vkt,seval,tbK9_35,xbK9_3,paT1,paT2]))
      all_goals first|rfl|trivial|(simp;done)
    · have d2:decide ((c:Int)+1 < (l.coins.length:Int))=false:=decide_eq_false (by omega)
      have hcn:c=l.coins.length - 1:=by omega
      have hP:pairsK l.coins.length d++pairsC d c=pairsK l.coins.length (d+1):=by rw [pairsK_succ,hcn];rfl
      unfold paT2
      rw [hP]
      repeat' (first|(apply nx;with_reducible constructor)|refine uq (by decide) ?_|((first|refine vx env fun Q hQ=>?_|refine vz fun Q hQ=>?_);simp only [vkt,seval,tbK9_35,xbK9_3,paT1,paT2,d2,e9];(try simp only [ite_and]);(repeat' (first|with_reducible assumption|refine And.intro ?_ ?_|intro hp));all_goals (first|(refine hQ _ ?_;clear hQ Q)|(refine hQ _ (fun h=>?_) (fun h=>?_) <;> clear hQ Q <;> (try simp only [vki,reduceCtorEq] at h))|omega|assumption|with_reducible rfl|(refine vq ?_;kernel_rfl)|skip)))
      refine ⟨⟨d+1,hlt⟩,by show l.rates.length - (d+1) < l.rates.length - d;omega, ?_⟩
      (refine Le.ok some [] ?_;constructor;all_goals (try simp only [vle,vkt,seval,tbK9_35,xbK9_3,paT1,paT2]))
      all_goals first|rfl|trivial|(simp;done)
  · have d1:decide ((d:Int) < (l.rates.length:Int))=false:=decide_eq_false (by omega)
    have hdn:d=l.rates.length:=by omega
    subst hdn
    repeat' (first|(apply nx;with_reducible constructor)|refine uq (by decide) ?_|((first|refine vx env fun Q hQ=>?_|refine vz fun Q hQ=>?_);simp only [vkt,seval,tbK9_35,xbK9_3,paT1,paT2,d1];(try simp only [ite_and]);(repeat' (first|with_reducible assumption|refine And.intro ?_ ?_|intro hp));all_goals (first|(refine hQ _ ?_;clear hQ Q)|(refine hQ _ (fun h=>?_) (fun h=>?_) <;> clear hQ Q <;> (try simp only [vki,reduceCtorEq] at h))|omega|assumption|with_reducible rfl|(refine vq ?_;kernel_rfl)|skip)))
    (simp only [vrt,Try.results35,vkt,seval,tbK9_35,xbK9_3,paT1,paT2];refine Fin.val rfl ?_;(try simp only [AV.le,AV.leL]))
    all_goals first|rfl|exact ⟨_,_,rfl⟩
def c35:List AV→Prop × AV
  |[.agg [.sl cs,.sl rs,.sl ss,.sl es]]=>(isL cs rs ss es∧Val (ldOf cs rs ss es),aIntss (pairsOf (ldOf cs rs ss es)))
  |_=>(False,.junk)
theorem d35 {A:Frm→Prop}:EntryOK A Try.prog 35 (valE false c35):=valE_ok fun vs hv h=>by
  clear hv
  unfold c35 at h ⊢
  split at h
  · refine ⟨by simp [AV.plain,aIntss],fun h=>absurd h (by decide), ?_⟩
    rw [← aLed_of h.1];exact pairs_fn _ h.2
  · exact h.elim
theorem cho_len:∀ (m:Nat) (ps:List (List Int)),ps.length≤12→(choF m ps).length≤12 ^ m
  |0,ps,_=>by simp [choF]
  |m+1,ps,h=>by
    rw [choF_succ,choK]
    refine Nat.le_trans (List.length_flatMap_le (B:=12 ^ m) fun i _=>?_) ?_
    · rw [List.length_map];exact cho_len m _ (by rw [List.length_drop];omega)
    · rw [List.length_range,Nat.pow_succ,Nat.mul_comm];exact Nat.mul_le_mul_left _ h
where
  List.length_flatMap_le {α:Type} {f:Nat→List α} {B:Nat}:∀ {l:List Nat},(∀ c ∈ l,(f c).length≤B)→(l.flatMap f).length≤l.length * B
  |[],_=>by simp
  |c :: l,h=>by
    have h1:=h c (by simp)
    have h2:=List.length_flatMap_le (l:=l) (f:=f) (B:=B) fun c hc=>h c (List.mem_cons_of_mem _ hc)
    rw [List.flatMap_cons,List.length_append,List.length_cons,Nat.add_mul]
    omega
end Go.Sym.B
namespace Go.Sym.B
open Go Go.Sym Go.Proofs Go.Sym.C
structure ChOk (ps:List (List Int)) (m:Nat):Prop where
  len:ps.length≤12
  m6:m≤6
  in':∀ p ∈ ps,p.length≤100000
def ChFn (m:Nat):Prop:=∀ ps:List (List Int),ChOk ps m→FnV Try.prog 34 [aIntss ps,aI m] (.sl ((choF m ps).map eIntss))
def c34 (M:Nat):List AV→Prop × AV
  |[.sl xs,.v (.int .i64 m)]=>(xs=(xs.map dInts).map eInts∧0≤m∧m.toNat < M∧ChOk (xs.map dInts) m.toNat,.sl ((choF m.toNat (xs.map dInts)).map eIntss))
  |_=>(False,.junk)
theorem d34 {A:Frm→Prop} {M:Nat} (ih:∀ m,m < M→ChFn m):EntryOK A Try.prog 34 (valE false (c34 M)):=valE_ok fun vs hv h=>by
  clear hv
  unfold c34 at h ⊢
  split at h
  · rename_i xs m
    obtain ⟨h1,h2,h3,h4⟩:=h
    refine ⟨by simp [AV.plain],fun h=>absurd h (by decide), ?_⟩
    have:=ih _ h3 (xs.map dInts) h4
    simp only [aI,aIntss,← h1,Int.toNat_of_nonneg h2] at this
    exact this
  · exact h.elim
theorem cho_mem_len:∀ (m:Nat) (ps:List (List Int)),∀ c ∈ choF m ps,c.length=m
  |0,ps,c,hc=>by simp [choF] at hc;subst hc;rfl
  |m+1,ps,c,hc=>by
    rw [choF_succ,choK] at hc
    obtain ⟨i,_,hc⟩:=List.mem_flatMap.1 hc
    obtain ⟨c',h',rfl⟩:=List.mem_map.1 hc
    rw [List.length_cons,cho_mem_len m _ c' h']
theorem flat_len9 {α:Type} {f:Nat→List α} {B:Nat}:∀ {l:List Nat},(∀ c ∈ l,(f c).length≤B)→(l.flatMap f).length≤l.length * B
  |[],_=>by simp
  |c :: l,h=>by
    have h1:=h c (by simp)
    have h2:=flat_len9 (l:=l) (f:=f) (B:=B) fun c hc=>h c (List.mem_cons_of_mem _ hc)
    rw [List.flatMap_cons,List.length_append,List.length_cons,Nat.add_mul]
    omega
theorem choK_len {m k:Nat} {ps:List (List Int)} (hp:ps.length≤12) (hk:k≤ps.length) (hm:m≤6):(choK m ps k).length≤12 * 12 ^ 6:=by
  unfold choK
  refine Nat.le_trans (flat_len9 (B:=12 ^ m) fun i _=>?_) ?_
  · rw [List.length_map];exact cho_len m _ (by rw [List.length_drop];omega)
  · rw [List.length_range]
    exact Nat.mul_le_mul (by omega) (Nat.pow_le_pow_right (by decide) hm)
def chT1 (ps:List (List Int)) (m:Nat) (W:List (List (List Int))) (k:Nat):St:={ t:=asg [(0,aIntss ps),(1,aI m),(4,.nil),(5,.row 0),(6,aI k)],h:=hasg [(0,.row 28 1 (W.map eIntss))],n:=1 }
def chT2 (ps:List (List Int)) (m:Nat) (W R:List (List (List Int))) (k j:Nat):St:={ t:=asg [(0,aIntss ps),(1,aI m),(4,.nil),(5,.row 0),(6,aI k),(7,.sl (R.map eIntss)),(8,aI j)],h:=hasg [(0,.row 28 1 ((W++(R.take j).map fun c=>ps.getD k [] :: c).map eIntss))],n:=1 }
def tbL1_34:=vj @ty3 (vj @ty22 (vj @ty28 (vj @ty50 (vj @ti3.eq_1 (vj @ti22.eq_1 (vj @ti28.eq_1 @ti50.eq_1))))))
def xbL1_1:=vj @aI.eq_1 (vj @aB.eq_1 (vj @aInts.eq_1 (vj @aIntss.eq_1 (vj @mInt (vj @mInts (vj @rInt (vj @rInts (vj @eInts.eq_1 (vj @gInts (vj @slT (@slD)))))))))))
set_option maxRecDepth 100000 in
set_option maxHeartbeats 4000000 in
theorem cho_all (m:Nat):ChFn m:=by
  induction m using Nat.strongRecOn with
  |_ m ih =>
    intro ps hg
    have env:Env (fun _=>True) Try.prog tyB (tab [(34,valE false (c34 m))]):=mkEnv ⟨d34 ih,trivial⟩
    refine Fn.of (A:=fun _=>True) (n0:=0) (D:=noD) (Fn0 Try.func34 rfl (fun vs w=>by kernel_rfl) (by kernel_rfl)) (by simp) (by simp [AV.ids,AV.idsL,aIntss,aI]) (fun i o h=>by cases h) (fun _ _ _ _=>trivial) noD_ok ?_
    have hp:=hg.len
    have h6:=hg.m6
    have hin:=hg.in'
    have big:(100000000:Nat)≤maxLen:=by decide
    cases m with
    |zero =>
      have c0:decide (((0:Nat):Int)=0)=true:=by simp
      repeat' (first|(apply nx;with_reducible constructor)|refine uq (by decide) ?_|((first|refine vx env fun Q hQ=>?_|refine vz fun Q hQ=>?_);simp only [vkt,seval,tbL1_34,xbL1_1,chT1,chT2,c34,rIntss,eIntss,gIntss,List.take_length,List.cons_append,List.nil_append,c0];(try simp only [ite_and]);(repeat' (first|with_reducible assumption|refine And.intro ?_ ?_|intro hp));all_goals (first|(refine hQ _ ?_;clear hQ Q)|(refine hQ _ (fun h=>?_) (fun h=>?_) <;> clear hQ Q <;> (try simp only [vki,reduceCtorEq] at h))|omega|assumption|with_reducible rfl|(refine vq ?_;kernel_rfl)|skip)))
      (simp only [vrt,Try.results34,vkt,seval,tbL1_34,xbL1_1,chT1,chT2,c34,rIntss,eIntss,gIntss,List.take_length,List.cons_append,List.nil_append];refine Fin.val rfl ?_;(try simp only [AV.le,AV.leL]))
      all_goals first|rfl|exact ⟨_,_,rfl⟩|(simp [choF];done)
    |succ m =>
      have c0:decide (((m+1:Nat):Int)=0)=false:=decide_eq_false (by omega)
      rw [choF_succ]
      repeat' (first|(apply nx;with_reducible constructor)|refine uq (by decide) ?_|((first|refine vx env fun Q hQ=>?_|refine vz fun Q hQ=>?_);simp only [vkt,seval,tbL1_34,xbL1_1,chT1,chT2,c34,rIntss,eIntss,gIntss,List.take_length,List.cons_append,List.nil_append,c0];(try simp only [ite_and]);(repeat' (first|with_reducible assumption|refine And.intro ?_ ?_|intro hp));all_goals (first|(refine hQ _ ?_;clear hQ Q)|(refine hQ _ (fun h=>?_) (fun h=>?_) <;> clear hQ Q <;> (try simp only [vki,reduceCtorEq] at h))|omega|assumption|with_reducible rfl|(refine vq ?_;kernel_rfl)|skip)))
      refine sym_loop (fun k:{ k:Nat // k≤ps.length }=>chT1 ps (m+1) (choK m ps k.1) k.1) (fun k=>ps.length - k.1) ⟨0,Nat.zero_le _⟩ ?_ fun ⟨k,hk⟩=>?_
      · (refine Le.ok (fun _=>none) [] ?_;constructor;all_goals (try simp only [vle,vkt,seval,tbL1_34,xbL1_1,chT1,chT2,c34,rIntss,eIntss,gIntss,List.take_length,List.cons_append,List.nil_append]))
        all_goals first|rfl|(simp [choK];done)
      by_cases hlt:k < ps.length
      · have d1:decide ((k:Int) < (ps.length:Int))=true:=decide_eq_true (by omega)
        have e9:=wrap64 (n:=(k:Int)+1) (by omega) (by omega)
        have e8:IntKind.wrap .i64 (((m+1:Nat):Int) - 1)=(m:Int):=by rw [wrap64 (by omega) (by omega)];omega
        have tn:((k:Int)+1).toNat=k+1:=by omega
        have z0:(0:Int)≤(k:Int)+1∧(k:Int)+1≤(ps.length:Int):=by omega
        have hG:ChOk (ps.drop (k+1)) m:=⟨by rw [List.length_drop];omega,by omega,fun p hp=>hin p (List.mem_of_mem_drop hp)⟩
        have hm:(m:Int).toNat < m+1:=by omega
        have hW1:=choK_len (m:=m) hp hk (by omega)
        have hW2:=choK_len (m:=m) hp (show k+1≤ps.length from hlt) (by omega)
        have hS:=choK_succ m ps k
        have hR:=cho_mem_len m (ps.drop (k+1))
        obtain ⟨R,hRe⟩:∃ R,choF m (ps.drop (k+1))=R:=⟨_,rfl⟩
        rw [hRe] at hR hS
        obtain ⟨W,hWe⟩:∃ W,choK m ps k=W:=⟨_,rfl⟩
        rw [hWe] at hS hW1
        rw [hS,List.length_append,List.length_map] at hW2
        unfold chT1
        rw [hWe]
        have tm:(m:Int).toNat=m:=Int.toNat_natCast m
        repeat' (first|(apply nx;with_reducible constructor)|refine uq (by decide) ?_|((first|refine vx env fun Q hQ=>?_|refine vz fun Q hQ=>?_);simp only [vkt,seval,tbL1_34,xbL1_1,chT1,chT2,c34,rIntss,eIntss,gIntss,List.take_length,List.cons_append,List.nil_append,d1,e9,e8,tn,hRe,tm];(try simp only [ite_and]);(repeat' (first|with_reducible assumption|refine And.intro ?_ ?_|intro hp));all_goals (first|(refine hQ _ ?_;clear hQ Q)|(refine hQ _ (fun h=>?_) (fun h=>?_) <;> clear hQ Q <;> (try simp only [vki,reduceCtorEq] at h))|omega|assumption|with_reducible rfl|(refine vq ?_;kernel_rfl)|skip)))
        refine sym_loop (fun j:{ j:Nat // j≤R.length }=>chT2 ps (m+1) W R k j.1) (fun j=>R.length - j.1) ⟨0,Nat.zero_le _⟩ ?_ fun ⟨j,hj⟩=>?_
        · (refine Le.ok some [] ?_;constructor;all_goals (try simp only [vle,vkt,seval,tbL1_34,xbL1_1,chT1,chT2,c34,rIntss,eIntss,gIntss,List.take_length,List.cons_append,List.nil_append]))
          all_goals first|rfl|(simp;done)
        by_cases hjl:j < R.length
        · have d2:decide ((j:Int) < (R.length:Int))=true:=decide_eq_true (by omega)
          have e7:=wrap64 (n:=(j:Int)+1) (by omega) (by omega)
          have hr:=hR _ (gMem (d:=[]) hjl)
          have hpk:=hin _ (gMem (d:=[]) hlt)
          have hT:(R.take (j+1)).map (fun c=>ps.getD k [] :: c)=(R.take j).map (fun c=>ps.getD k [] :: c)++[ps.getD k [] :: R.getD j []]:=by
            rw [List.take_succ_eq_append_getElem hjl,List.map_append];simp [List.getD_eq_getElem?_getD,hjl]
          have hY:(W++(R.take j).map fun c=>ps.getD k [] :: c).length+1≤12 * 12 ^ 6:=by
            rw [List.length_append,List.length_map,List.length_take];omega
          obtain ⟨r,hre⟩:∃ r,R.getD j []=r:=⟨_,rfl⟩
          rw [hre] at hr hT
          obtain ⟨p,hpe⟩:∃ p,ps.getD k []=p:=⟨_,rfl⟩
          unfold chT2
          rw [hpe] at hT hY hpk ⊢
          obtain ⟨Y,hYe⟩:∃ Y,(W++(R.take j).map fun c=>p :: c)=Y:=⟨_,rfl⟩
          rw [hYe] at hY ⊢
          have m1:(Y.length+1) * 24≤140737488355328∧Y.length+1≤maxLen:=by omega
          have m2:(1+r.length) * 24≤140737488355328∧1+r.length≤maxLen∧r.length≤maxLen:=by omega
          have e4:Y.map eIntss++[[.sl ([.sl (p.map eInt)] :: r.map eInts)]]=(W++(R.take (j+1)).map fun c=>p :: c).map eIntss:=by
            rw [hT,← List.append_assoc,hYe,List.map_append];rfl
          repeat' (first|(apply nx;with_reducible constructor)|refine uq (by decide) ?_|((first|refine vx env fun Q hQ=>?_|refine vz fun Q hQ=>?_);simp only [vkt,seval,tbL1_34,xbL1_1,chT1,chT2,c34,rIntss,eIntss,gIntss,List.take_length,List.cons_append,List.nil_append,d2,e7,hre,hpe,e4];(try simp only [ite_and]);(repeat' (first|with_reducible assumption|refine And.intro ?_ ?_|intro hp));all_goals (first|(refine hQ _ ?_;clear hQ Q)|(refine hQ _ (fun h=>?_) (fun h=>?_) <;> clear hQ Q <;> (try simp only [vki,reduceCtorEq] at h))|omega|assumption|with_reducible rfl|(refine vq ?_;kernel_rfl)|skip)))
          refine ⟨⟨j+1,hjl⟩,by show R.length - (j+1) < R.length - j;omega, ?_⟩
          (refine Le.ok (fun j=>if j=0 then some 4 else some j) [] ?_;constructor;all_goals (try simp only [vle,vkt,seval,tbL1_34,xbL1_1,chT1,chT2,c34,rIntss,eIntss,gIntss,List.take_length,List.cons_append,List.nil_append]))
          all_goals first|rfl|(rw [hpe];done)|exact ⟨_,_,rfl⟩|(simp [hpe];done)
        · have d2:decide ((j:Int) < (R.length:Int))=false:=decide_eq_false (by omega)
          have hjn:j=R.length:=by omega
          subst hjn
          unfold chT2
          rw [List.take_length,← hS]
          repeat' (first|(apply nx;with_reducible constructor)|refine uq (by decide) ?_|((first|refine vx env fun Q hQ=>?_|refine vz fun Q hQ=>?_);simp only [vkt,seval,tbL1_34,xbL1_1,chT1,chT2,c34,rIntss,eIntss,gIntss,List.take_length,List.cons_append,List.nil_append,d2,e9];(try simp only [ite_and]);(repeat' (first|with_reducible assumption|refine And.intro ?_ ?_|intro hp));all_goals (first|(refine hQ _ ?_;clear hQ Q)|(refine hQ _ (fun h=>?_) (fun h=>?_) <;> clear hQ Q <;> (try simp only [vki,reduceCtorEq] at h))|omega|assumption|with_reducible rfl|(refine vq ?_;kernel_rfl)|skip)))
          refine ⟨⟨k+1,hlt⟩,by show ps.length - (k+1) < ps.length - k;omega, ?_⟩
          (refine Le.ok some [] ?_;constructor;all_goals (try simp only [vle,vkt,seval,tbL1_34,xbL1_1,chT1,chT2,c34,rIntss,eIntss,gIntss,List.take_length,List.cons_append,List.nil_append]))
          all_goals first|rfl|(simp;done)
      · have d1:decide ((k:Int) < (ps.length:Int))=false:=decide_eq_false (by omega)
        have hkn:k=ps.length:=by omega
        subst hkn
        repeat' (first|(apply nx;with_reducible constructor)|refine uq (by decide) ?_|((first|refine vx env fun Q hQ=>?_|refine vz fun Q hQ=>?_);simp only [vkt,seval,tbL1_34,xbL1_1,chT1,chT2,c34,rIntss,eIntss,gIntss,List.take_length,List.cons_append,List.nil_append,d1];(try simp only [ite_and]);(repeat' (first|with_reducible assumption|refine And.intro ?_ ?_|intro hp));all_goals (first|(refine hQ _ ?_;clear hQ Q)|(refine hQ _ (fun h=>?_) (fun h=>?_) <;> clear hQ Q <;> (try simp only [vki,reduceCtorEq] at h))|omega|assumption|with_reducible rfl|(refine vq ?_;kernel_rfl)|skip)))
        (simp only [vrt,Try.results34,vkt,seval,tbL1_34,xbL1_1,chT1,chT2,c34,rIntss,eIntss,gIntss,List.take_length,List.cons_append,List.nil_append];refine Fin.val rfl ?_;(try simp only [AV.le,AV.leL]))
        all_goals first|rfl|exact ⟨_,_,rfl⟩|(simp;done)
end Go.Sym.B
namespace Go.Sym.B
open Go Go.Sym Go.Proofs Go.Sym.C
theorem any_take_succ {α:Type} {f:α→Bool} {l:List α} {j:Nat} {d:α} (h:j < l.length):(l.take (j+1)).any f=((l.take j).any f || f (l.getD j d)):=by
  rw [List.take_succ_eq_append_getElem h,List.any_append];simp [List.getD_eq_getElem?_getD,h]
def meT1 (l:Led) (bds:List Int) (own:List (List Int)) (k:Nat):St:={ t:=asg [(1,aInts bds),(2,aIntss own),(3,.ptr 0 0),(6,aB false),(7,aI k)],h:=hasg [(0,.cells (cLed l))],n:=1 }
def meT2 (l:Led) (bds:List Int) (own:List (List Int)) (k:Nat) (x:Ent) (j:Nat):St:={ t:=asg [(1,aInts bds),(2,aIntss own),(3,.ptr 0 0),(6,aB false),(7,aI k),(8,.ptr 1 0),(9,aB ((own.take j).any (metB x))),(10,aI j)],h:=hasg [(0,.cells (cLed l)),(1,.cells (cEnt x))],n:=2 }
def tbL2_33:=vj @ty3 (vj @ty22 (vj @ty28 (vj @ty36 (vj @ty38 (vj @ty48 (vj @ti3.eq_1 (vj @ti22.eq_1 (vj @ti28.eq_1 (vj @ti36.eq_1 (vj @ti38.eq_1 @ti48.eq_1))))))))))
def xbL2_1:=vj @aI.eq_1 (vj @aB.eq_1 (vj @aLed.eq_1 (vj @cLed.eq_1 (vj @cEnt.eq_1 (vj @aInts.eq_1 (vj @aIntss.eq_1 (vj @eInt.eq_1 (vj @gInt (vj @gInts (vj @eInts.eq_1 (vj @eEnt.eq_1 (@gEnt))))))))))))
set_option maxRecDepth 100000 in
set_option maxHeartbeats 4000000 in
theorem meets_fn (l:Led) (bds:List Int) (own:List (List Int)) (hb:BadOk l bds) (hl:own.length≤100) (hp:∀ p ∈ own,2≤p.length):FnV Try.prog 33 [aLed l,aInts bds,aIntss own] (aB (hitB l bds own)):=by
  have env:Env (fun _=>True) Try.prog tyB (tab []):=mkEnv trivial
  refine Fn.of (A:=fun _=>True) (n0:=0) (D:=noD) (Fn0 Try.func33 rfl (fun vs w=>by kernel_rfl) (by kernel_rfl)) (by simp) (by simp [AV.ids,AV.idsL,aLed,cLed,aInts,aIntss]) (fun i o h=>by cases h) (fun _ _ _ _=>trivial) noD_ok ?_
  have hbl:=hb.len
  repeat' (first|(apply nx;with_reducible constructor)|refine uq (by decide) ?_|((first|refine vx env fun Q hQ=>?_|refine vz fun Q hQ=>?_);simp only [vkt,seval,tbL2_33,xbL2_1,meT1,meT2];(try simp only [ite_and]);(repeat' (first|with_reducible assumption|refine And.intro ?_ ?_|intro hp));all_goals (first|(refine hQ _ ?_;clear hQ Q)|(refine hQ _ (fun h=>?_) (fun h=>?_) <;> clear hQ Q <;> (try simp only [vki,reduceCtorEq] at h))|omega|assumption|with_reducible rfl|(refine vq ?_;kernel_rfl)|skip)))
  refine sym_loop (fun k:{ k:Nat // k≤bds.length∧∀ i,i < k→own.any (metB (l.entries.getD (bds.getD i 0).toNat default))=true }=>meT1 l bds own k.1) (fun k=>bds.length - k.1) ⟨0,Nat.zero_le _,fun i h=>by omega⟩ ?_ fun ⟨k,hk,hall⟩=>?_
  · (refine Le.ok some [] ?_;constructor;all_goals (try simp only [vle,vkt,seval,tbL2_33,xbL2_1,meT1,meT2]))
    all_goals first|rfl|(simp;done)
  by_cases hlt:k < bds.length
  · have d1:decide ((k:Int) < (bds.length:Int))=true:=decide_eq_true (by omega)
    have e9:=wrap64 (n:=(k:Int)+1) (by omega) (by omega)
    have hbb:=hb.b _ (gMem (d:=0) hlt)
    obtain ⟨e,he⟩:∃ e,bds.getD k 0=e:=⟨_,rfl⟩
    rw [he] at hbb
    obtain ⟨b0,b1⟩:=hbb
    obtain ⟨x,hx⟩:∃ x,l.entries.getD e.toNat default=x:=⟨_,rfl⟩
    repeat' (first|(apply nx;with_reducible constructor)|refine uq (by decide) ?_|((first|refine vx env fun Q hQ=>?_|refine vz fun Q hQ=>?_);simp only [vkt,seval,tbL2_33,xbL2_1,meT1,meT2,d1,he,hx];(try simp only [ite_and]);(repeat' (first|with_reducible assumption|refine And.intro ?_ ?_|intro hp));all_goals (first|(refine hQ _ ?_;clear hQ Q)|(refine hQ _ (fun h=>?_) (fun h=>?_) <;> clear hQ Q <;> (try simp only [vki,reduceCtorEq] at h))|omega|assumption|with_reducible rfl|(refine vq ?_;kernel_rfl)|skip)))
    refine sym_loop (fun j:{ j:Nat // j≤own.length }=>meT2 l bds own k x j.1) (fun j=>own.length - j.1) ⟨0,Nat.zero_le _⟩ ?_ fun ⟨j,hj⟩=>?_
    · (refine Le.ok some [] ?_;constructor;all_goals (try simp only [vle,vkt,seval,tbL2_33,xbL2_1,meT1,meT2]))
      all_goals first|rfl|(simp;done)
    by_cases hjl:j < own.length
    · have d2:decide ((j:Int) < (own.length:Int))=true:=decide_eq_true (by omega)
      have e8:=wrap64 (n:=(j:Int)+1) (by omega) (by omega)
      have hS:=any_take_succ (f:=metB x) (d:=[]) hjl
      have hp2:=hp _ (gMem (d:=[]) hjl)
      obtain ⟨p,hpe⟩:∃ p,own.getD j []=p:=⟨_,rfl⟩
      rw [hpe] at hS hp2
      unfold metB at hS
      have p0:0 < p.length:=by omega
      have p1:1 < p.length:=by omega
      obtain ⟨m,hm⟩:∃ m,(own.take j).any (metB x)=m:=⟨_,rfl⟩
      have hS:(own.take (j+1)).any (metB x)=(m || (decide (p.getD 0 0=x.day) && (decide (p.getD 1 0=x.coin) || decide (p.getD 1 0=x.to)))):=by rw [← hm];exact hS
      obtain ⟨c1,h1⟩:∃ c,decide (p.getD 0 0=x.day)=c:=⟨_,rfl⟩
      obtain ⟨c2,h2⟩:∃ c,decide (p.getD 1 0=x.coin)=c:=⟨_,rfl⟩
      obtain ⟨c3,h3⟩:∃ c,decide (p.getD 1 0=x.to)=c:=⟨_,rfl⟩
      rw [h1,h2,h3] at hS
      unfold meT2
      rw [hm]
      cases m <;> cases c1 <;> cases c2 <;> cases c3
      all_goals
        repeat' (first|(apply nx;with_reducible constructor)|refine uq (by decide) ?_|((first|refine vx env fun Q hQ=>?_|refine vz fun Q hQ=>?_);simp only [vkt,seval,tbL2_33,xbL2_1,meT1,meT2,d2,e8,hpe,h1,h2,h3];(try simp only [ite_and]);(repeat' (first|with_reducible assumption|refine And.intro ?_ ?_|intro hp));all_goals (first|(refine hQ _ ?_;clear hQ Q)|(refine hQ _ (fun h=>?_) (fun h=>?_) <;> clear hQ Q <;> (try simp only [vki,reduceCtorEq] at h))|omega|assumption|with_reducible rfl|(refine vq ?_;kernel_rfl)|skip)))
        refine ⟨⟨j+1,hjl⟩,by show own.length - (j+1) < own.length - j;omega, ?_⟩
        (refine Le.ok some [] ?_;constructor;all_goals (try simp only [vle,vkt,seval,tbL2_33,xbL2_1,meT1,meT2]))
        all_goals first|rfl|(rw [hS];rfl)|exact ⟨by rw [hS];rfl,rfl⟩|(simp [hS];done)
    · have d2:decide ((j:Int) < (own.length:Int))=false:=decide_eq_false (by omega)
      have hjn:j=own.length:=by omega
      subst hjn
      unfold meT2
      rw [List.take_length]
      cases hm:own.any (metB x)
      · have hF:hitB l bds own=false:=by
          unfold hitB
          rw [List.all_eq_false]
          exact ⟨e,by rw [← he];exact gMem hlt,by rw [hx,hm];simp⟩
        rw [hF]
        repeat' (first|(apply nx;with_reducible constructor)|refine uq (by decide) ?_|((first|refine vx env fun Q hQ=>?_|refine vz fun Q hQ=>?_);simp only [vkt,seval,tbL2_33,xbL2_1,meT1,meT2,d2,hm];(try simp only [ite_and]);(repeat' (first|with_reducible assumption|refine And.intro ?_ ?_|intro hp));all_goals (first|(refine hQ _ ?_;clear hQ Q)|(refine hQ _ (fun h=>?_) (fun h=>?_) <;> clear hQ Q <;> (try simp only [vki,reduceCtorEq] at h))|omega|assumption|with_reducible rfl|(refine vq ?_;kernel_rfl)|skip)))
        (simp only [vrt,Try.results33,vkt,seval,tbL2_33,xbL2_1,meT1,meT2];refine Fin.val rfl ?_;(try simp only [AV.le,AV.leL]))
        all_goals first|rfl|(simp;done)
      · repeat' (first|(apply nx;with_reducible constructor)|refine uq (by decide) ?_|((first|refine vx env fun Q hQ=>?_|refine vz fun Q hQ=>?_);simp only [vkt,seval,tbL2_33,xbL2_1,meT1,meT2,d2,hm,e9];(try simp only [ite_and]);(repeat' (first|with_reducible assumption|refine And.intro ?_ ?_|intro hp));all_goals (first|(refine hQ _ ?_;clear hQ Q)|(refine hQ _ (fun h=>?_) (fun h=>?_) <;> clear hQ Q <;> (try simp only [vki,reduceCtorEq] at h))|omega|assumption|with_reducible rfl|(refine vq ?_;kernel_rfl)|skip)))
        refine ⟨⟨k+1,hlt,fun i hi=>?_⟩,by show bds.length - (k+1) < bds.length - k;omega, ?_⟩
        · rcases Nat.lt_or_eq_of_le (Nat.le_of_lt_succ hi) with h|h
          · exact hall i h
          · rw [h,he,hx,hm]
        · (refine Le.ok some [] ?_;constructor;all_goals (try simp only [vle,vkt,seval,tbL2_33,xbL2_1,meT1,meT2]))
          all_goals first|rfl|(simp;done)
  · have d1:decide ((k:Int) < (bds.length:Int))=false:=decide_eq_false (by omega)
    have hT:hitB l bds own=true:=by
      unfold hitB
      rw [List.all_eq_true]
      intro y hy
      obtain ⟨i,hi,rfl⟩:=List.getElem_of_mem hy
      have:=hall i (by omega)
      rw [show bds.getD i 0=bds[i] by simp [List.getD_eq_getElem?_getD,hi]] at this
      exact this
    rw [hT]
    repeat' (first|(apply nx;with_reducible constructor)|refine uq (by decide) ?_|((first|refine vx env fun Q hQ=>?_|refine vz fun Q hQ=>?_);simp only [vkt,seval,tbL2_33,xbL2_1,meT1,meT2,d1];(try simp only [ite_and]);(repeat' (first|with_reducible assumption|refine And.intro ?_ ?_|intro hp));all_goals (first|(refine hQ _ ?_;clear hQ Q)|(refine hQ _ (fun h=>?_) (fun h=>?_) <;> clear hQ Q <;> (try simp only [vki,reduceCtorEq] at h))|omega|assumption|with_reducible rfl|(refine vq ?_;kernel_rfl)|skip)))
    (simp only [vrt,Try.results33,vkt,seval,tbL2_33,xbL2_1,meT1,meT2];refine Fin.val rfl ?_;(try simp only [AV.le,AV.leL]))
    all_goals first|rfl|(simp;done)
def c33:List AV→Prop × AV
  |[.agg [.sl cs,.sl rs,.sl ss,.sl es],.sl bs,.sl os]=>(isL cs rs ss es∧bs=(bs.map dInt).map eInt∧os=(os.map dInts).map eInts∧BadOk (ldOf cs rs ss es) (bs.map dInt)∧os.length≤100∧(∀ p ∈ os.map dInts,2≤p.length),aB (hitB (ldOf cs rs ss es) (bs.map dInt) (os.map dInts)))
  |_=>(False,.junk)
theorem d33 {A:Frm→Prop}:EntryOK A Try.prog 33 (valE true c33):=valE_ok fun vs hv h=>by
  clear hv
  unfold c33 at h ⊢
  split at h
  · obtain ⟨h1,h2,h3,h4,h5,h6⟩:=h
    refine ⟨by simp [AV.plain,aB],fun _=>by simp [AV.flat,aB], ?_⟩
    have:=meets_fn _ _ _ h4 (by rw [List.length_map];exact h5) h6
    simp only [aInts,aIntss,← h2,← h3] at this
    rw [aLed_of h1] at this
    exact this
  · exact h.elim
def pairX (x:Ent):List Int:=[x.day,if 1≤x.coin then x.coin else x.to]
theorem cover {l:Led} (hV:Val l):∃ s,s.Sublist (pairsOf l)∧s.length≤(badL l).length∧hitB l (badL l) s=true:=by
  refine ⟨(pairsOf l).filter fun p=>decide (p ∈ (badL l).map fun i=>pairX (l.entries.getD i.toNat default)),List.filter_sublist, ?_, ?_⟩
  · have:=nodup_sub ((pairsOf l).filter fun p=>decide (p ∈ (badL l).map fun i=>pairX (l.entries.getD i.toNat default))) ((badL l).map fun i=>pairX (l.entries.getD i.toNat default)) ((pairs_nodup l).filter _) fun x hx=>by simpa using (List.mem_filter.1 hx).2
    rwa [List.length_map] at this
  · unfold hitB
    rw [List.all_eq_true]
    intro y hy
    have hy':=hy
    obtain ⟨i,hi,rfl⟩:=List.mem_map.1 hy
    obtain ⟨h1,h2⟩:=List.mem_filter.1 hi
    have h1:=List.mem_range.1 h1
    have hx:=val_entry hV h1
    unfold isBad at h2
    rw [Bool.and_eq_true,decide_eq_true_eq] at h2
    have hm:pairX (l.entries.getD i default) ∈ (badL l).map fun i=>pairX (l.entries.getD i.toNat default):=List.mem_map.2 ⟨(i:Int),hy',by rw [Int.toNat_natCast]⟩
    rw [Int.toNat_natCast]
    obtain ⟨x,hxe⟩:∃ x,l.entries.getD i default=x:=⟨_,rfl⟩
    rw [hxe] at hx h2 hm ⊢
    have k3:=h2.1
    have t1:=hx.to k3
    have t2:=hx.ne k3
    rw [List.any_eq_true]
    refine ⟨pairX x,List.mem_filter.2 ⟨?_,by simpa using hm⟩, ?_⟩
    · unfold pairX
      split
      · exact pairs_mem hx.day.1 hx.day.2 (by assumption) hx.coin.2
      · exact pairs_mem hx.day.1 hx.day.2 (show 1≤x.to by have:=hx.coin.1;omega) t1.2
    · unfold pairX metB
      split <;> simp
theorem cho_le:∀ (m:Nat) (ps:List (List Int)),∀ c ∈ choF m ps,m≤ps.length∧∀ p ∈ c,p ∈ ps
  |0,ps,c,hc=>by simp [choF] at hc;subst hc;simp
  |m+1,ps,c,hc=>by
    rw [choF_succ,choK] at hc
    obtain ⟨i,hi,hc⟩:=List.mem_flatMap.1 hc
    have hi:=List.mem_range.1 hi
    obtain ⟨c',h',rfl⟩:=List.mem_map.1 hc
    obtain ⟨h1,h2⟩:=cho_le m _ c' h'
    rw [List.length_drop] at h1
    refine ⟨by omega,fun p hp=>?_⟩
    rcases List.mem_cons.1 hp with rfl|hp
    · exact gMem hi
    · exact List.mem_of_mem_drop (h2 p hp)
theorem growN_some {l:Led} {m:Nat} {c:List (List Int)} (hc:c ∈ choF m (pairsOf l)) (h:hitB l (badL l) c=true):(growN l m).2=true:=by
  unfold growN
  rw [(grow_cho (hitB l (badL l)) (pairsOf l) m [] 0).1,List.drop_zero,List.find?_isSome]
  exact ⟨c,hc,by simpa using h⟩
theorem growN_none {l:Led} {m:Nat} (h:∀ c ∈ choF m (pairsOf l),hitB l (badL l) c=false):(growN l m).2=false:=by
  unfold growN
  rw [(grow_cho (hitB l (badL l)) (pairsOf l) m [] 0).1,List.drop_zero,Option.isSome_eq_false_iff,Option.isNone_iff_eq_none,List.find?_eq_none]
  intro c hc
  simpa using h c hc
theorem wrong_is {l:Led} {m i:Nat} (hn:∀ j,j < m→(growN l j).2=false) (hi:i < (choF m (pairsOf l)).length) (h:hitB l (badL l) ((choF m (pairsOf l)).getD i [])=true) (hno:∀ j,j < i→hitB l (badL l) ((choF m (pairsOf l)).getD j [])=false):wrongL l=(choF m (pairsOf l)).getD i []:=by
  have hmem:=gMem (d:=[]) hi
  have hT:=growN_some hmem h
  have hM:=wrongM_hit (cho_le m _ _ hmem).1 hT hn
  unfold wrongL
  rw [hM]
  have:=(grow_cho (hitB l (badL l)) (pairsOf l) m [] 0).2 ((choF m (pairsOf l)).getD i []) (by
    rw [List.drop_zero,List.find?_eq_some_iff_getElem]
    refine ⟨by simpa using h,i,hi,by simp [List.getD_eq_getElem?_getD,hi],fun j hj=>?_⟩
    have h1:=hno j hj
    rw [show (choF m (pairsOf l)).getD j []=(choF m (pairsOf l))[j] by simp [List.getD_eq_getElem?_getD,show j < (choF m (pairsOf l)).length by omega]] at h1
    simp [h1])
  unfold growN
  rw [this];simp
end Go.Sym.B
namespace Go.Sym.B
open Go Go.Sym Go.Proofs Go.Sym.C
theorem fl_div {a b:Int} (hb:0 < b):((a:Rat) / (b:Rat)).floor=a / b:=by
  have hb0:(0:Rat) < (b:Rat):=by exact_mod_cast hb
  refine Int.le_antisymm ?_ ?_
  · rw [Int.le_ediv_iff_mul_le hb]
    have h1:=floor_mul_le (w:=(a:Rat)) hb0
    rw [← Rat.intCast_mul] at h1
    exact_mod_cast h1
  · have h2:(((a / b:Int)):Rat)≤(a:Rat) / (b:Rat):=by
      rw [← mul_le hb0,q_cancel (ne_cast (by omega)),← Rat.intCast_mul]
      exact_mod_cast Int.ediv_mul_le a (by omega)
    have:=Rat.floor_monotone h2
    rwa [Rat.floor_intCast] at this
theorem swap_G {l:Led} {D cn to am:Int} (hf:ShOk (rsh l D cn)) (hg:ShOk (rsh l D to)) (ha:0≤am):(swapQ l D cn to am).floor=enG0 l.rates D cn to am:=by
  have e:enG0 l.rates D cn to am=(am * (rsh l D cn).num * (rsh l D to).den).tdiv ((rsh l D cn).den * (rsh l D to).num):=rfl
  rw [e]
  unfold swapQ rq
  generalize rsh l D cn=f at *
  generalize rsh l D to=g at *
  have f1:=hf.n
  have f2:=hf.d
  have g1:=hg.n
  have g2:=hg.d
  have hn:0≤am * f.num * g.den:=Int.mul_nonneg (Int.mul_nonneg ha (by omega)) (by omega)
  have hd:0 < f.den * g.num:=Int.mul_pos (by omega) (by omega)
  rw [Int.tdiv_eq_ediv_of_nonneg hn,← fl_div hd]
  congr 1
  unfold qI
  rw [mk_eq (by omega),mk_eq (by omega)]
  simp only [Rat.intCast_mul]
  have n1:=ne_cast (show f.den ≠ 0 by omega)
  have n2:=ne_cast (show g.den ≠ 0 by omega)
  have n3:=ne_cast (show g.num ≠ 0 by omega)
  have n4:=ne_cast (show f.num ≠ 0 by omega)
  generalize (f.den:Rat)=a at *
  generalize (g.den:Rat)=b at *
  generalize (g.num:Rat)=c at *
  generalize (f.num:Rat)=d at *
  grind
def SwOk (rs:List (List Sh)) (es:List Ent):Prop:=∀ x ∈ es,x.kind=3→(swapQ ⟨[],rs,[],[]⟩ x.day x.coin x.to x.amount).floor=x.got
theorem SwOk.snoc {rs:List (List Sh)} {es:List Ent} (h:SwOk rs es) {x:Ent} (hx:x.kind=3→(swapQ ⟨[],rs,[],[]⟩ x.day x.coin x.to x.amount).floor=x.got):SwOk rs (es++[x]):=fun y hy=>by
  rcases List.mem_append.1 hy with hy|hy
  · exact h y hy
  · obtain rfl:=List.mem_singleton.1 hy;exact hx
theorem sw_step {C:Nat} {rs:List (List Sh)} (hr:RsOk rs C) (hC:1≤C∧C≤4) {s:EnS} {k:Nat} (hI:EnI C rs.length k s) (h:SwOk rs s.es):SwOk rs (enStep C rs 0 s).es:=by
  have hJ:=enJ_of hr hC hI
  unfold enStep
  generalize enD rs.length s=D at *
  generalize enX2 rs.length s=X2 at *
  generalize upS X2 ((C:Int) - 1)=x
  generalize upV X2 ((C:Int) - 1)=cn at *
  generalize enK0 rs.length s=κ
  have hh:=hJ.h
  have j1:=hJ.d0
  have j2:=hJ.d1
  have j3:=hJ.c0
  have j4:=hJ.c1
  unfold enS0
  split
  · exact h.snoc fun h=>absurd (show (1:Int)=3 from h) (by decide)
  split
  · exact h.snoc fun h=>absurd (show (2:Int)=3 from h) (by decide)
  split
  · exact h.snoc fun h=>absurd (show (4:Int)=3 from h) (by decide)
  · unfold enS3
    split
    · exact h
    · have u0:=upV_le (x:=x) (m:=(C:Int) - 1 - 1) (by omega) (by omega)
      have hT:0≤enTo C cn x∧enTo C cn x < (C:Int):=foldV_bd (by omega)
      generalize enTo C cn x=to at *
      generalize upS x ((C:Int) - 1 - 1)=y
      have u:=upV_le (x:=y) (m:=min (s.till.getD cn.toNat 0) 40) (by omega) (by omega)
      generalize upV y (min (s.till.getD cn.toNat 0) 40)=am at *
      have s1:=hr.sh j1 j2 j3 j4
      have s2:=hr.sh j1 j2 hT.1 (show to≤(C:Int) - 1 by omega)
      unfold enS3a
      rw [if_neg (by have:=upV_le (x:=upS y (min (s.till.getD cn.toNat 0) 40)) (m:=10 - 1) (by decide) (by decide);omega)]
      unfold enS3b
      split
      · exact h
      · exact h.snoc fun _=>swap_G (l:=⟨[],rs,[],[]⟩) s1 s2 u.1
theorem sw_K {C:Nat} {rs:List (List Sh)} (hr:RsOk rs C) (hC:1≤C∧C≤4) {s:EnS} (hI:EnI C rs.length 0 s) (h:SwOk rs s.es):∀ k,SwOk rs (enK C rs 0 s k).es
  |0=>h
  |k+1=>sw_step hr hC (enK_ok hr hC hI k) (sw_K hr hC hI h k)
theorem lg_sw {x c d e:Int} (hc:1≤c∧c≤4) (hd:1≤d∧d≤4) (he:0≤e∧e≤6):SwOk (lgL x c d e 0).rates (lgL x c d e 0).entries:=by
  have hok:=lg_ok (x:=x) (w:=0) hc hd he
  have h1:=hok.c
  have h2:=hok.r
  have h3:=hok.s
  have h4:=hok.v
  change 1≤(lg1 x c).cs.length∧(lg1 x c).cs.length≤4 at h1
  change RsOk (lg2 x c d).1 (lg1 x c).cs.length at h2
  change (lg1 x c).ss.length=(lg1 x c).cs.length at h3
  change ∀ n ∈ (lg1 x c).ss,0≤n∧n≤200 at h4
  have hI:EnI (lg1 x c).cs.length (lg2 x c d).1.length 0 ⟨0,(lg1 x c).ss,[],upS (lg2 x c d).2 e⟩:=⟨Int.le_refl _,by show (0:Int)≤_;have:=h2.len;omega,h3,fun v hv=>by have:=h4 v hv;omega,Nat.le_refl _⟩
  exact sw_K h2 h1 hI (fun x hx=>by cases hx) (upV (lg2 x c d).2 e).toNat
theorem badL_nil {l:Led} (h:∀ i,i < l.entries.length→isBad l i=false):badL l=[]:=by
  unfold badL badK
  rw [List.filter_eq_nil_iff.2 fun i hi=>by rw [h i (List.mem_range.1 hi)];simp]
  rfl
theorem isBad_no {l:Led} {i:Nat} {x:Ent} (hx:l.entries.getD i default=x) (h:x.kind=3→(swapQ l x.day x.coin x.to x.amount).floor=x.got):isBad l i=false:=by
  rw [isBad_eq,hx]
  by_cases hk:x.kind=3
  · simp [hk,h hk]
  · simp [hk]
theorem sw_bad {l:Led} (h:SwOk l.rates l.entries):badL l=[]:=badL_nil fun i hi=>isBad_no rfl (h _ (gMem hi))
theorem badL_mem {l:Led} {n:Int} (h:n ∈ badL l):∃ i:Nat,n=i∧i < l.entries.length∧isBad l i=true:=by
  unfold badL badK at h
  obtain ⟨i,hi,rfl⟩:=List.mem_map.1 h
  obtain ⟨h1,h2⟩:=List.mem_filter.1 hi
  exact ⟨i,rfl,List.mem_range.1 h1,h2⟩
theorem isBad_kind {l:Led} {i:Nat} (h:isBad l i=true):(l.entries.getD i default).kind=3:=by
  rw [isBad_eq] at h
  simp only [Bool.and_eq_true,decide_eq_true_eq] at h
  exact h.1
theorem least_ex {p:Nat→Prop} [DecidablePred p] {n:Nat} (h:p n):∃ m,m≤n∧p m∧∀ j,j < m→¬ p j:=by
  induction n using Nat.strongRecOn with
  |_ n ih =>
    by_cases hx:∃ j,j < n∧p j
    · obtain ⟨j,hj,hp⟩:=hx
      obtain ⟨m,h1,h2,h3⟩:=ih j hj hp
      exact ⟨m,by omega,h2,h3⟩
    · exact ⟨n,Nat.le_refl _,h,fun j hj hp=>hx ⟨j,hj,hp⟩⟩
structure FirstHit (l:Led) (m i:Nat):Prop where
  hm:m≤(pairsOf l).length
  no:∀ j,j < m→∀ c ∈ choF j (pairsOf l),hitB l (badL l) c=false
  hi:i < (choF m (pairsOf l)).length
  hit:hitB l (badL l) ((choF m (pairsOf l)).getD i [])=true
  ni:∀ j,j < i→hitB l (badL l) ((choF m (pairsOf l)).getD j [])=false
  w:wrongL l=(choF m (pairsOf l)).getD i []
  len:(wrongL l).length=m
theorem firstHit {l:Led} (h:∃ n,(growN l n).2=true):∃ m i,FirstHit l m i∧∀ n,(growN l n).2=true→m≤n:=by
  obtain ⟨n,hn⟩:=h
  obtain ⟨m,_,h2,h3⟩:=least_ex (p:=fun n=>(growN l n).2=true) hn
  have h3':∀ j,j < m→(growN l j).2=false:=fun j hj=>by simpa using h3 j hj
  have hc:∃ c,c ∈ choF m (pairsOf l)∧hitB l (badL l) c=true:=by
    apply Classical.byContradiction
    intro hno
    have:=growN_none (l:=l) (m:=m) fun c hc=>by
      cases hh:hitB l (badL l) c with
      |false=>rfl
      |true=>exact absurd ⟨c,hc,hh⟩ hno
    rw [this] at h2
    cases h2
  obtain ⟨c,hc,hh⟩:=hc
  obtain ⟨i0,hi0⟩:=List.mem_iff_getElem?.1 hc
  have hl0:i0 < (choF m (pairsOf l)).length:=(List.getElem?_eq_some_iff.1 hi0).1
  have hp0:hitB l (badL l) ((choF m (pairsOf l)).getD i0 [])=true:=by rw [List.getD_eq_getElem?_getD,hi0];exact hh
  obtain ⟨i,g1,g2,g3⟩:=least_ex (p:=fun i=>hitB l (badL l) ((choF m (pairsOf l)).getD i [])=true) hp0
  have g3':∀ j,j < i→hitB l (badL l) ((choF m (pairsOf l)).getD j [])=false:=fun j hj=>by simpa using g3 j hj
  have hi:i < (choF m (pairsOf l)).length:=by omega
  have hw:=wrong_is h3' hi g2 g3'
  refine ⟨m,i,⟨(cho_le m _ _ hc).1,fun j hj c hc=>?_,hi,g2,g3',hw,by rw [hw];exact cho_mem_len m _ _ (gMem hi)⟩,fun n hn=>?_⟩
  · cases hh:hitB l (badL l) c with
    |false=>rfl
    |true=>have:=growN_some hc hh;rw [h3' j hj] at this;cases this
  · apply Classical.byContradiction
    intro hlt
    rw [h3' n (by omega)] at hn
    cases hn
theorem hit_nil {l:Led} {bds:List Int}:hitB l bds []=decide (bds=[]):=by
  unfold hitB
  cases bds with
  |nil=>rfl
  |cons b bs=>simp
def setR (L:Led) (d c:Nat) (s:Sh):Led:=⟨L.coins,L.rates.set d ((L.rates.getD d []).set c s),L.start,L.entries⟩
section
variable {L : Led} {d c : Nat} {s : Sh}
theorem setR_len:(setR L d c s).rates.length=L.rates.length:=List.length_set ..
theorem setR_rq (day κ:Int) (h:¬ (day.toNat=d∧κ.toNat=c)):rq (setR L d c s) day κ=rq L day κ:=by
  have:rsh (setR L d c s) day κ=rsh L day κ:=by
    unfold rsh
    show ((L.rates.set d ((L.rates.getD d []).set c s)).getD day.toNat []).getD κ.toNat default=_
    by_cases hd:day.toNat=d
    · by_cases hlt:d < L.rates.length
      · have hc:¬ κ.toNat=c:=fun e=>h ⟨hd,e⟩
        have e1:(L.rates.set d ((L.rates.getD d []).set c s)).getD day.toNat []=(L.rates.getD d []).set c s:=by rw [hd];simp [List.getD_eq_getElem?_getD,hlt]
        rw [e1,hd]
        rw [List.getD_eq_getElem?_getD,List.getElem?_set_ne (Ne.symm hc),← List.getD_eq_getElem?_getD]
      · rw [List.set_eq_of_length_le (by omega)]
    · rw [show (L.rates.set d ((L.rates.getD d []).set c s)).getD day.toNat []=L.rates.getD day.toNat [] by
        rw [List.getD_eq_getElem?_getD,List.getElem?_set_ne (Ne.symm hd),← List.getD_eq_getElem?_getD]]
  unfold rq
  rw [this]
theorem setR_ok (h:LgOk L) (hd:d < L.rates.length) (hc:1≤c∧c < L.coins.length) (hs:ShOk s):LgOk (setR L d c s):=by
  refine ⟨h.c,h.p,h.s,h.v,⟨by rw [setR_len];exact h.r.len,fun r hr=>?_⟩,h.e⟩
  rcases List.mem_or_eq_of_mem_set (show r ∈ L.rates.set d ((L.rates.getD d []).set c s) from hr) with hr|rfl
  · exact h.r.all r hr
  · have g:=h.r.all _ (gMem (l:=L.rates) (k:=d) (d:=[]) hd)
    refine ⟨by rw [List.length_set];exact g.len, ?_,fun x hx=>?_⟩
    · rw [List.getD_eq_getElem?_getD,List.getElem?_set_ne (by omega),← List.getD_eq_getElem?_getD];exact g.one
    · rcases List.mem_or_eq_of_mem_set hx with hx|rfl
      · exact g.all x hx
      · exact hs
theorem entryE_cong {l m:Led} (h1:l.rates.length=m.rates.length) (h2:l.coins.length=m.coins.length) (x:Ent) (b:Int):entryE l x b=entryE m x b:=by
  unfold entryE;rw [h1,h2]
theorem setR_es:entriesE (setR L d c s)=entriesE L:=by
  have:eK (setR L d c s)=eK L:=by
    funext k
    rw [eK_eq,eK_eq]
    unfold eV
    rw [entryE_cong setR_len rfl]
    rfl
  unfold entriesE
  rw [this]
  rfl
theorem setR_chk (h:LgOk L) (hk:checkE L=0) (hd:d < L.rates.length) (hc:1≤c∧c < L.coins.length) (hs:ShOk s):checkE (setR L d c s)=0:=by
  rw [(setR_ok h hd hc hs).check,setR_es,← h.check,hk]
theorem setR_bad (h:LgOk L) (hk:checkE L=0) (hsw:SwOk L.rates L.entries):∀ i,isBad (setR L d c s) i=true→metB (L.entries.getD i default) [(d:Int),(c:Int)]=true:=by
  intro i hb
  by_cases hi:i < L.entries.length
  · have hV:=val_of hk
    have he:=val_entry' hV hi
    have hkind:=isBad_kind hb
    change (L.entries.getD i default).kind=3 at hkind
    cases hm:metB (L.entries.getD i default) [(d:Int),(c:Int)] with
    |true=>rfl
    |false =>
      exfalso
      have hx:=hsw _ (gMem (l:=L.entries) (k:=i) (d:=default) hi) hkind
      have hno:=isBad_no (l:=setR L d c s) (i:=i) (x:=L.entries.getD i default) rfl fun _=>by
        rw [← hx]
        have hmm:¬ ((d:Int)=(L.entries.getD i default).day∧((c:Int)=(L.entries.getD i default).coin∨(c:Int)=(L.entries.getD i default).to)):=by
          intro hh
          have:metB (L.entries.getD i default) [(d:Int),(c:Int)]=true:=by
            unfold metB
            simpa using hh
          rw [hm] at this
          cases this
        have q1:=he.day
        have q2:=he.coin
        have q3:=he.to hkind
        unfold swapQ
        rw [setR_rq _ _ (by intro hh;apply hmm;omega),setR_rq _ _ (by intro hh;apply hmm;omega)]
        rfl
      rw [hno] at hb
      cases hb
  · have:isBad (setR L d c s) i=false:=isBad_no (x:=default) (by show L.entries.getD i default=default;rw [List.getD_eq_getElem?_getD,List.getElem?_eq_none (by omega)];rfl) fun h=>absurd (show (default:Ent).kind=3 from h) (by decide)
    rw [this] at hb
    cases hb
theorem one_wrong (h:LgOk L) (hk:checkE L=0) (hsw:SwOk L.rates L.entries) (hd:d < L.rates.length) (hc:1≤c∧c < L.coins.length):((wrongL (setR L d c s)).length=0 ↔ badL (setR L d c s)=[])∧(wrongL (setR L d c s)).length≤1:=by
  have hp:[(d:Int),(c:Int)] ∈ pairsOf (setR L d c s):=pairs_mem (by omega) (by rw [setR_len];omega) (by omega) (by show (c:Int)≤(L.coins.length:Int) - 1;omega)
  have hh:hitB (setR L d c s) (badL (setR L d c s)) [[(d:Int),(c:Int)]]=true:=by
    unfold hitB
    rw [List.all_eq_true]
    intro n hn
    obtain ⟨i,rfl,hi,hb⟩:=badL_mem hn
    have:=setR_bad h hk hsw i hb
    rw [List.any_cons,List.any_nil,Bool.or_false,Int.toNat_natCast]
    exact this
  have hg:(growN (setR L d c s) 1).2=true:=growN_some (c:=[[(d:Int),(c:Int)]]) (sub_cho (s:=[[(d:Int),(c:Int)]]) (List.singleton_sublist.2 hp)) hh
  obtain ⟨m,i,F,hmin⟩:=firstHit ⟨1,hg⟩
  have hm1:=hmin 1 hg
  have hl:=F.len
  refine ⟨?_,by omega⟩
  rw [hl]
  constructor
  · rintro rfl
    have h0:=F.hit
    have hi:=F.hi
    have hc0:(choF 0 (pairsOf (setR L d c s))).getD i []=[]:=by
      have:=cho_mem_len 0 (pairsOf (setR L d c s)) _ (gMem (d:=[]) hi)
      exact List.eq_nil_of_length_eq_zero this
    rw [hc0,hit_nil] at h0
    simpa using h0
  · intro hb
    apply Classical.byContradiction
    intro hne
    have h0:=F.no 0 (by omega) [] (by simp [choF])
    rw [hit_nil,hb] at h0
    simp at h0
end
end Go.Sym.B
namespace Go.Sym.B
open Go Go.Sym Go.Proofs Go.Sym.C
def rkvL (rs:List (List Sh)):List (List DV):=[[DV.sl (rkv rs rs.length 0)],[DV.sl (rkv rs rs.length 1)],[DV.sl (rkv rs rs.length 2)]].take rs.length
theorem rkvL_eq (rs:List (List Sh)) (h:rs.length≤3):rkvL rs=rs.map eShs:=by
  match rs,h with
  |[],_=>rfl
  |[a],_=>rfl
  |[a,b],_=>rfl
  |[a,b,c],_=>rfl
def idsW:List AV→List Nat
  |[]=>[]
  |.row i :: cs=>i :: idsW cs
  |_ :: cs=>idsW cs
def fzW (h:Nat→Option AObj) (cs:List AV):List (List DV):=(frz1 h cs).getD []
def p31d (S:St):List AV→Option Pk
  |[.agg [.sl cs,.row r,.sl ss,.sl es]]=>match S.h r with
    |some (.rows _ ids)=>some { pre:=isL cs (fzW S.h ids) ss es∧Fit (ldOf cs (fzW S.h ids) ss es)∧checkE (ldOf cs (fzW S.h ids) ss es)=0∧badL (ldOf cs (fzW S.h ids) ss es)=[],bo:=r :: idsW ids,ar:=[.agg [.sl cs,.sl (fzW S.h ids),.sl ss,.sl es]],v:=.tup [.sl [],.v (.int .i64 0)],fl:=true }
    |_=>none
  |[.agg [.sl cs,.sl rs,.sl ss,.sl es]]=>some { pre:=isL cs rs ss es∧Fit (ldOf cs rs ss es)∧checkE (ldOf cs rs ss es)=0,ar:=[.agg [.sl cs,.sl rs,.sl ss,.sl es]],v:=.tup [aInts (badL (ldOf cs rs ss es)),.v (.int .i64 0)] }
  |_=>none
theorem e31d {A:Frm→Prop}:EntryOK A Try.prog 31 (fnE p31d):=fnE_ok fun S bs q h hp=>by
  unfold p31d at h
  split at h
  · split at h
    · cases h
      obtain ⟨h1,h2,h3,h4⟩:=hp
      have:=bad_fn _ h2
      rw [aLed_of h1,show aBad (ldOf _ _ _ _)=.tup [aInts (badL (ldOf _ _ _ _)),.v (.int .i64 0)] from if_neg (by rw [h3];simp),h4] at this
      exact this
    · cases h
  · cases h
    obtain ⟨h1,h2,h3⟩:=hp
    have:=bad_fn _ h2
    rw [aLed_of h1,show aBad (ldOf _ _ _ _)=.tup [aInts (badL (ldOf _ _ _ _)),.v (.int .i64 0)] from if_neg (by rw [h3];simp)] at this
    exact this
  · cases h
def onH (L:Led) (y:Int):List (Nat × AObj):=[(0,.cells [.v (.int .u64 y)]),(1,.cells [.sl (L.coins.map eInts),.row 2,.sl (L.start.map eInt),.sl (L.entries.map eEnt)]),(2,.rows 55 (rid L.rates.length)),(20,.row 59 2 (rkv L.rates L.rates.length 0)),(21,.row 59 2 (rkv L.rates L.rates.length 1)),(22,.row 59 2 (rkv L.rates L.rates.length 2))]
def onS0 (L:Led) (y:Int):St:={ t:=asg [(0,.ptr 0 0),(2,aB false),(3,.ptr 1 0)],h:=hasg (onH L y),n:=23,m:=1 }
def onS1 (L:Led) (y:Int):St:={ t:=asg [(0,.ptr 0 0),(2,aB false),(3,.ptr 1 0),(4,.sl []),(5,aI 0)],h:=hasg (onH L y),n:=23,m:=1 }
def onS2 (M:Led) (ys:List (List DV)) (y:Int):St:={ t:=asg [(0,.ptr 0 0),(2,aB false),(3,.ptr 1 0)],h:=hasg [(0,.cells [.v (.int .u64 y)]),(1,.cells [.sl (M.coins.map eInts),.row 2,.sl (M.start.map eInt),.sl (M.entries.map eEnt)]),(2,.row 55 1 ys)],n:=3,m:=1 }
def onS3 (M:Led) (y:Int):St:={ t:=asg [(0,.ptr 0 0),(2,aB false),(3,.ptr 1 0)],h:=hasg [(0,.cells [.v (.int .u64 y)]),(1,.cells (cLed M))],n:=2,m:=1 }
noncomputable def oneS (x:Int):Int:=if (lgL x 4 3 6 0).coins.length=1 then lgS x 4 3 6 0 else rtS (upS (upS (lgS x 4 3 6 0) (((lgL x 4 3 6 0).rates.length:Int) - 1)) (((lgL x 4 3 6 0).coins.length:Int) - 1 - 1))
theorem ids3R (n:Nat):(∀ id,id ∈ AV.idsL (ridR n)→id < 5)=True:=by
  refine eq_true fun id h=>?_
  obtain ⟨c,hc,hi⟩:=AV.mem_idsL.1 h
  have hc:=List.mem_of_mem_take hc
  simp at hc
  rcases hc with rfl|rfl|rfl <;> (simp [AV.ids] at hi;omega)
theorem renL_ridR (τ:Nat→Nat) (n:Nat):AV.renL τ (ridR n)=(AV.renL τ [.row 2,.row 3,.row 4]).take n:=by unfold ridR;exact renL_take _ _ _
def tbL10_37:=vj @ty3 (vj @ty4 (vj @ty22 (vj @ty28 (vj @ty30 (vj @ty35 (vj @ty38 (vj @ty55 (vj @ty59 (vj @ti3.eq_1 (vj @ti4.eq_1 (vj @ti22.eq_1 (vj @ti28.eq_1 (vj @ti30.eq_1 (vj @ti35.eq_1 (vj @ti38.eq_1 (vj @ti55.eq_1 @ti59.eq_1))))))))))))))))
def xbL10_1:=vj @aI.eq_1 (vj @aB.eq_1 (vj @aLed.eq_1 (vj @cLed.eq_1 (vj @bgH.eq_1 (vj @aInts.eq_1 (vj @mInt (vj @eInt.eq_1 (vj @gInt (vj @p22.eq_1 (vj @p22.eq_2 (vj @p21.eq_1 (vj @p21.eq_2 (vj @p84.eq_1 (vj @p84.eq_2 (vj @c32.eq_1 (vj @c32.eq_2 (vj @isL_e (vj @ldOf_e (@mSh)))))))))))))))))))
set_option maxRecDepth 100000 in
set_option maxHeartbeats 40000000 in
theorem onew_fn (x:Int):Fn noB Try.prog 37 [.ptr 0 0] (hasg (bgH x)) (aB true) (hasg (bgH (oneS x))) 0:=by
  have env0:Env (fun _=>True) Try.prog tyB (tab [(21,fnE p21),(22,fnE p22),(27,fnE p27d),(31,fnE p31d),(32,valE false c32),(84,fnE p84)]):=mkEnv ⟨e21,e22,e27d,e31d,d32,e84,trivial⟩
  have env:=deepE env0
  clear env0
  refine Fn.of (A:=fun _=>True) (n0:=1) (D:=noD) (Fn0 Try.func37 rfl (fun vs w=>by kernel_rfl) (by kernel_rfl)) (by simp) (by simp [AV.ids,AV.idsL,aI]) ?_ (fun _ _ _ _=>trivial) noD_ok ?_
  · intro i o hi
    have h:=hasg_mem hi
    simp [bgH] at h
    rcases h with ⟨rfl,rfl⟩;simp [AObj.ids,AV.ids,AV.idsL]
  have big:(100000:Nat)≤maxLen:=by decide
  have z1:(1:Int)≤4∧(4:Int)≤4:=by decide
  have z2:(0:Int)≤6∧(6:Int)≤6:=by decide
  have z3:(1:Int)≤3∧(3:Int)≤4:=by decide
  have z4:(1:Int)≤3∧(3:Int)≤3:=by decide
  have hok:=lg_ok (x:=x) (w:=0) z1 z3 z2
  have hchk:=lg_chk (x:=x) (w:=0) z1 z3 z2
  have hsw:=lg_sw (x:=x) z1 z3 z2
  have hrl:=(dyK_ok ((lg1 x 4).cs.length - 1) (upS (lg1 x 4).x (3 - 1)) (1+upV (lg1 x 4).x (3 - 1)).toNat).1
  have hr3:(lgL x 4 3 6 0).rates.length≤3:=by
    have h:=upV_le (x:=(lg1 x 4).x) (m:=3 - 1) (by decide) (by decide)
    show (lg2 x 4 3).1.length≤3
    unfold lg2
    rw [hrl]
    omega
  clear hrl
  obtain ⟨L,hL⟩:∃ L,lgL x 4 3 6 0=L:=⟨_,rfl⟩
  obtain ⟨y,hy⟩:∃ y,lgS x 4 3 6 0=y:=⟨_,rfl⟩
  rw [hL] at hok hchk hsw hr3
  have hO:oneS x=if L.coins.length=1 then y else rtS (upS (upS y ((L.rates.length:Int) - 1)) ((L.coins.length:Int) - 1 - 1)):=by unfold oneS;rw [hL,hy]
  have hfit:=hok.fit
  have hc:=hok.c
  have hr:=hok.r.len
  have hbad:=sw_bad hsw
  repeat' (first|(apply nx;with_reducible constructor)|refine uq (by decide) ?_)
  (refine vx env fun Q hQ=>?_;simp only [vkt,seval,tbL10_37,xbL10_1,onH,onS0,onS1,onS2,onS3,renL_ridR,ids3R,lgDH,tyD,ti55d,idsW,fzW,p27d,p31d,List.map_nil];(try simp only [ite_and]);(repeat' (first|with_reducible assumption|refine And.intro ?_ ?_|intro hp));all_goals (first|(refine hQ _ ?_;clear hQ Q)|(refine vq ?_;kernel_rfl)|omega|assumption|with_reducible rfl|skip))
  repeat' (first|(apply nx;with_reducible constructor)|refine uq (by decide) ?_)
  (refine vx env fun Q hQ=>?_;simp only [vkt,seval,tbL10_37,xbL10_1,onH,onS0,onS1,onS2,onS3,renL_ridR,ids3R,lgDH,tyD,ti55d,idsW,fzW,p27d,p31d,List.map_nil,hL,hy];(try simp only [ite_and]);(repeat' (first|with_reducible assumption|refine And.intro ?_ ?_|intro hp));all_goals (first|(refine hQ _ ?_;clear hQ Q)|(refine vq ?_;kernel_rfl)|omega|assumption|with_reducible rfl|skip))
  repeat' (first|(apply nx;with_reducible constructor)|refine uq (by decide) ?_)
  refine (sym_le (?_:Le _ (onS0 L y)) ?_:Sym _ _ _ _ _)
  · rcases (show L.rates.length=1∨L.rates.length=2∨L.rates.length=3 by omega) with hW|hW|hW
    all_goals
      (refine Le.ok (fun j=>if j=0 then some 0 else if j=1 then some 5 else if j=2 then some 1 else if j=20 then some 2 else if j=21 then some 3 else if j=22 then some 4 else none) [] ?_;constructor;all_goals (try simp only [vle,vkt,seval,tbL10_37,xbL10_1,onH,onS0,onS1,onS2,onS3,renL_ridR,ids3R,lgDH,tyD,ti55d,idsW,fzW,p27d,p31d,List.map_nil]))
      all_goals first|rfl|exact ids_rid _|(simp [-List.getD_eq_getElem?_getD,hW,rid1,rid2,rid3,AV.le,AV.leL];done)
  have lW:=rid_len hr3
  refine Sym.mono (K:=fun e S1=>e=.normal∧Le S1 (onS1 L y)) ?_ ?_
  · have hF:=rkvL_eq L.rates hr3
    rcases (show L.rates.length=1∨L.rates.length=2∨L.rates.length=3 by omega) with hW|hW|hW
    · have hq:rid L.rates.length=[.row 20]:=by rw [hW];rfl
      have hl:rkvL L.rates=[[.sl (rkv L.rates L.rates.length 0)]]:=by unfold rkvL;rw [hW];rfl
      rw [hl] at hF
      (refine vx env fun Q hQ=>?_;simp only [vkt,seval,tbL10_37,xbL10_1,onH,onS0,onS1,onS2,onS3,renL_ridR,ids3R,lgDH,tyD,ti55d,idsW,fzW,p27d,p31d,List.map_nil,hq,hF,hchk,hbad];(try simp only [ite_and]);(repeat' (first|with_reducible assumption|refine And.intro ?_ ?_|intro hp));all_goals (first|(refine hQ _ ?_;clear hQ Q)|(refine vq ?_;kernel_rfl)|omega|assumption|with_reducible rfl|skip))
      all_goals first|exact ⟨_,_,rfl⟩|skip
      refine ⟨rfl, ?_⟩
      (refine Le.ok some [] ?_;constructor;all_goals (try simp only [vle,vkt,seval,tbL10_37,xbL10_1,onH,onS0,onS1,onS2,onS3,renL_ridR,ids3R,lgDH,tyD,ti55d,idsW,fzW,p27d,p31d,List.map_nil]))
      all_goals first|rfl|exact ids_rid _|exact leL_rid _ _|(rw [hq];simp [AV.leL,AV.le];done)|(simp;done)
    · have hq:rid L.rates.length=[.row 20,.row 21]:=by rw [hW];rfl
      have hl:rkvL L.rates=[[.sl (rkv L.rates L.rates.length 0)],[.sl (rkv L.rates L.rates.length 1)]]:=by unfold rkvL;rw [hW];rfl
      rw [hl] at hF
      (refine vx env fun Q hQ=>?_;simp only [vkt,seval,tbL10_37,xbL10_1,onH,onS0,onS1,onS2,onS3,renL_ridR,ids3R,lgDH,tyD,ti55d,idsW,fzW,p27d,p31d,List.map_nil,hq,hF,hchk,hbad];(try simp only [ite_and]);(repeat' (first|with_reducible assumption|refine And.intro ?_ ?_|intro hp));all_goals (first|(refine hQ _ ?_;clear hQ Q)|(refine vq ?_;kernel_rfl)|omega|assumption|with_reducible rfl|skip))
      all_goals first|exact ⟨_,_,rfl⟩|skip
      refine ⟨rfl, ?_⟩
      (refine Le.ok some [] ?_;constructor;all_goals (try simp only [vle,vkt,seval,tbL10_37,xbL10_1,onH,onS0,onS1,onS2,onS3,renL_ridR,ids3R,lgDH,tyD,ti55d,idsW,fzW,p27d,p31d,List.map_nil]))
      all_goals first|rfl|exact ids_rid _|exact leL_rid _ _|(rw [hq];simp [AV.leL,AV.le];done)|(simp;done)
    · have hq:rid L.rates.length=[.row 20,.row 21,.row 22]:=by rw [hW];rfl
      have hl:rkvL L.rates=[[.sl (rkv L.rates L.rates.length 0)],[.sl (rkv L.rates L.rates.length 1)],[.sl (rkv L.rates L.rates.length 2)]]:=by unfold rkvL;rw [hW];rfl
      rw [hl] at hF
      (refine vx env fun Q hQ=>?_;simp only [vkt,seval,tbL10_37,xbL10_1,onH,onS0,onS1,onS2,onS3,renL_ridR,ids3R,lgDH,tyD,ti55d,idsW,fzW,p27d,p31d,List.map_nil,hq,hF,hchk,hbad];(try simp only [ite_and]);(repeat' (first|with_reducible assumption|refine And.intro ?_ ?_|intro hp));all_goals (first|(refine hQ _ ?_;clear hQ Q)|(refine vq ?_;kernel_rfl)|omega|assumption|with_reducible rfl|skip))
      all_goals first|exact ⟨_,_,rfl⟩|skip
      refine ⟨rfl, ?_⟩
      (refine Le.ok some [] ?_;constructor;all_goals (try simp only [vle,vkt,seval,tbL10_37,xbL10_1,onH,onS0,onS1,onS2,onS3,renL_ridR,ids3R,lgDH,tyD,ti55d,idsW,fzW,p27d,p31d,List.map_nil]))
      all_goals first|rfl|exact ids_rid _|exact leL_rid _ _|(rw [hq];simp [AV.leL,AV.le];done)|(simp;done)
  rintro e S1 ⟨rfl,hle⟩
  refine (sym_le hle ?_:Sym _ _ _ S1 _)
  clear hle
  by_cases hC1:L.coins.length=1
  · have d1:decide ((L.coins.length:Int)=1)=true:=decide_eq_true (by omega)
    rw [hO,if_pos hC1]
    repeat' (first|(apply nx;with_reducible constructor)|refine uq (by decide) ?_|((first|refine vx env fun Q hQ=>?_|refine vz fun Q hQ=>?_);simp only [vkt,seval,tbL10_37,xbL10_1,onH,onS0,onS1,onS2,onS3,renL_ridR,ids3R,lgDH,tyD,ti55d,idsW,fzW,p27d,p31d,List.map_nil,d1];(try simp only [ite_and]);(repeat' (first|with_reducible assumption|refine And.intro ?_ ?_));all_goals (first|(refine hQ _ ?_;clear hQ Q)|(refine hQ _ (fun h=>?_) (fun h=>?_) <;> clear hQ Q <;> (try simp only [vki,reduceCtorEq] at h))|(refine vq ?_;kernel_rfl)|omega|with_reducible assumption|with_reducible rfl|skip)))
    (simp only [vrt,Try.results37,vkt,seval,tbL10_37,xbL10_1,onH,onS0,onS1,onS2,onS3,renL_ridR,ids3R,lgDH,tyD,ti55d,idsW,fzW,p27d,p31d,List.map_nil];refine Fin.ok (fun j=>if j=0 then some 0 else none) [] ?_ ?_ ?_ ?_ ?_ rfl;all_goals (try simp only [vle,vkt,seval,tbL10_37,xbL10_1,onH,onS0,onS1,onS2,onS3,renL_ridR,ids3R,lgDH,tyD,ti55d,idsW,fzW,p27d,p31d,List.map_nil]))
    all_goals first|rfl|(simp;done)
  have d1:decide ((L.coins.length:Int)=1)=false:=decide_eq_false (by omega)
  rw [hO,if_neg hC1]
  clear hO
  have hu:=upV_le (x:=y) (m:=(L.rates.length:Int) - 1) (by omega) (by omega)
  obtain ⟨δ,hD⟩:∃ δ:Nat,upV y ((L.rates.length:Int) - 1)=(δ:Int):=⟨(upV y ((L.rates.length:Int) - 1)).toNat,by omega⟩
  rw [hD] at hu
  obtain ⟨y1,hy1⟩:∃ y1,upS y ((L.rates.length:Int) - 1)=y1:=⟨_,rfl⟩
  have hv:=upV_le (x:=y1) (m:=(L.coins.length:Int) - 1 - 1) (by omega) (by omega)
  obtain ⟨κ,hK⟩:∃ κ:Nat,1+upV y1 ((L.coins.length:Int) - 1 - 1)=(κ:Int):=⟨(1+upV y1 ((L.coins.length:Int) - 1 - 1)).toNat,by omega⟩
  have hκ:1≤κ∧κ < L.coins.length:=by omega
  obtain ⟨y2,hy2⟩:∃ y2,upS y1 ((L.coins.length:Int) - 1 - 1)=y2:=⟨_,rfl⟩
  rw [hy1,hy2]
  have wR:IntKind.wrap .i64 ((L.rates.length:Int) - 1)=(L.rates.length:Int) - 1:=wrap64 (by omega) (by omega)
  have wC:IntKind.wrap .i64 ((L.coins.length:Int) - 1)=(L.coins.length:Int) - 1:=wrap64 (by omega) (by omega)
  repeat' (first|(apply nx;with_reducible constructor)|refine uq (by decide) ?_)
  (refine vx env fun Q hQ=>?_;simp only [vkt,seval,tbL10_37,xbL10_1,onH,onS0,onS1,onS2,onS3,renL_ridR,ids3R,lgDH,tyD,ti55d,idsW,fzW,p27d,p31d,List.map_nil];(try simp only [ite_and]);(repeat' (first|with_reducible assumption|refine And.intro ?_ ?_|intro hp));all_goals (first|(refine hQ _ ?_;clear hQ Q)|(refine vq ?_;kernel_rfl)|omega|assumption|with_reducible rfl|skip))
  repeat' (first|(apply nx;with_reducible constructor)|refine uq (by decide) ?_)
  (refine sym_cd (by simp only [vkt,seval,tbL10_37,xbL10_1,onH,onS0,onS1,onS2,onS3,renL_ridR,ids3R,lgDH,tyD,ti55d,idsW,fzW,p27d,p31d,List.map_nil];rfl) (fun h=>?_) (fun h=>?_) <;> (try simp only [vki,reduceCtorEq] at h))
  repeat' (first|(apply nx;with_reducible constructor)|refine uq (by decide) ?_)
  (refine vx env fun Q hQ=>?_;simp only [vkt,seval,tbL10_37,xbL10_1,onH,onS0,onS1,onS2,onS3,renL_ridR,ids3R,lgDH,tyD,ti55d,idsW,fzW,p27d,p31d,List.map_nil,d1];(try simp only [ite_and]);(repeat' (first|with_reducible assumption|refine And.intro ?_ ?_|intro hp));all_goals (first|(refine hQ _ ?_;clear hQ Q)|(refine vq ?_;kernel_rfl)|omega|assumption|with_reducible rfl|skip))
  repeat' (first|(apply nx;with_reducible constructor)|refine uq (by decide) ?_)
  (refine sym_cd (by simp only [vkt,seval,tbL10_37,xbL10_1,onH,onS0,onS1,onS2,onS3,renL_ridR,ids3R,lgDH,tyD,ti55d,idsW,fzW,p27d,p31d,List.map_nil];rfl) (fun h=>?_) (fun h=>?_) <;> (try simp only [vki,reduceCtorEq] at h))
  repeat' (first|(apply nx;with_reducible constructor)|refine uq (by decide) ?_)
  (refine vx env fun Q hQ=>?_;simp only [vkt,seval,tbL10_37,xbL10_1,onH,onS0,onS1,onS2,onS3,renL_ridR,ids3R,lgDH,tyD,ti55d,idsW,fzW,p27d,p31d,List.map_nil,lW,wR,wC,hD,hy1,hK,hy2];(try simp only [ite_and]);(repeat' (first|with_reducible assumption|refine And.intro ?_ ?_|intro hp));all_goals (first|(refine hQ _ ?_;clear hQ Q)|(refine vq ?_;kernel_rfl)|omega|assumption|with_reducible rfl|skip))
  repeat' (first|(apply nx;with_reducible constructor)|refine uq (by decide) ?_)
  have hs:=rtV_ok y2
  obtain ⟨y3,hy3⟩:∃ y3,rtS y2=y3:=⟨_,rfl⟩
  rw [hy3]
  obtain ⟨s,hS⟩:∃ s,rtV y2=s:=⟨_,rfl⟩
  rw [hS] at hs
  have hδ:δ < L.rates.length:=by omega
  have hMok:=setR_ok (s:=s) hok hδ hκ hs
  have hMc:=setR_chk (s:=s) hok hchk hδ hκ hs
  have h1w:=one_wrong (s:=s) hok hchk hsw hδ hκ
  have hMf:=hMok.fit
  have hMl:(setR L δ κ s).rates.length=L.rates.length:=setR_len
  refine Sym.mono (K:=fun e S1=>e=.normal∧Le S1 (onS3 (setR L δ κ s) y3)) ?_ ?_
  · have hF:=rkvL_eq (setR L δ κ s).rates (by rw [hMl];exact hr3)
    have hw:=hok.r.all _ (gMem (l:=L.rates) (k:=δ) (d:=[]) hδ)
    have rc:=rkv_at (rs:=L.rates) (k:=L.rates.length) hδ
    have mo:∀ i,i ≠ δ→rkv (setR L δ κ s).rates L.rates.length i=rkv L.rates L.rates.length i:=fun i hi=>by
      unfold rkv setR
      show (if i < L.rates.length then ((L.rates.set δ ((L.rates.getD δ []).set κ s)).getD i []).map eSh else [])=_
      rw [List.getD_eq_getElem?_getD,List.getElem?_set_ne (Ne.symm hi),← List.getD_eq_getElem?_getD]
    have mn:rkv (setR L δ κ s).rates L.rates.length δ=((L.rates.getD δ []).set κ s).map eSh:=by
      unfold rkv setR
      show (if δ < L.rates.length then ((L.rates.set δ ((L.rates.getD δ []).set κ s)).getD δ []).map eSh else [])=_
      rw [if_pos hδ,show (L.rates.set δ ((L.rates.getD δ []).set κ s)).getD δ []=(L.rates.getD δ []).set κ s by simp [List.getD_eq_getElem?_getD,hδ]]
    obtain ⟨r,hr0⟩:∃ r,L.rates.getD δ []=r:=⟨_,rfl⟩
    rw [hr0] at rc mn hw
    have lr:κ < r.length:=by have:=hw.len;omega
    have g0:(r.map eSh).getD κ []=[.v (.int .i64 (r.getD κ default).num),.v (.int .i64 (r.getD κ default).den)]:=by simp [List.getD_eq_getElem?_getD,lr,eSh]
    have st:(r.map eSh).set κ [.v (.int .i64 s.num),.v (.int .i64 s.den)]=(r.set κ s).map eSh:=by rw [List.map_set];rfl
    have gr:=rid_at7 (k:=L.rates.length) (i:=δ) hδ (by omega)
    rcases (show δ=0∨δ=1∨δ=2 by omega) with h9|h9|h9
    · subst h9
      have m0:=mn
      have m1:=mo 1 (by decide)
      have m2:=mo 2 (by decide)
      (refine vx env fun Q hQ=>?_;simp only [vkt,seval,tbL10_37,xbL10_1,onH,onS0,onS1,onS2,onS3,renL_ridR,ids3R,lgDH,tyD,ti55d,idsW,fzW,p27d,p31d,List.map_nil,gr,rc,g0,st,hS,hy3];(try simp only [ite_and]);(repeat' (first|with_reducible assumption|refine And.intro ?_ ?_|intro hp));all_goals (first|(refine hQ _ ?_;clear hQ Q)|(refine vq ?_;kernel_rfl)|omega|assumption|with_reducible rfl|skip))
      refine ⟨rfl, ?_⟩
      refine Le.trans (S':=onS2 (setR L 0 κ s) (rkvL (setR L 0 κ s).rates) y3) ?_ ?_
      · rcases (show L.rates.length=1∨L.rates.length=2∨L.rates.length=3 by omega) with hW|hW|hW
        · have hq:rid L.rates.length=[.row 20]:=by rw [hW];rfl
          have hl:rkvL (setR L 0 κ s).rates=[[.sl (rkv (setR L 0 κ s).rates L.rates.length 0)]]:=by unfold rkvL;rw [hMl,hW];rfl
          rw [m0] at hl
          (refine Le.ok some [20,21,22] ?_;constructor;all_goals (try simp only [vle,vkt,seval,tbL10_37,xbL10_1,onH,onS0,onS1,onS2,onS3,renL_ridR,ids3R,lgDH,tyD,ti55d,idsW,fzW,p27d,p31d,List.map_nil]))
          all_goals first|rfl|(refine And.intro ⟨rfl,rfl,rfl⟩ ?_;rw [hq,hl];simp only [rowsLe,AV.le];exact ⟨⟨_,_,rfl⟩,trivial⟩)
        · have hq:rid L.rates.length=[.row 20,.row 21]:=by rw [hW];rfl
          have hl:rkvL (setR L 0 κ s).rates=[[.sl (rkv (setR L 0 κ s).rates L.rates.length 0)],[.sl (rkv (setR L 0 κ s).rates L.rates.length 1)]]:=by unfold rkvL;rw [hMl,hW];rfl
          rw [m0,m1] at hl
          (refine Le.ok some [20,21,22] ?_;constructor;all_goals (try simp only [vle,vkt,seval,tbL10_37,xbL10_1,onH,onS0,onS1,onS2,onS3,renL_ridR,ids3R,lgDH,tyD,ti55d,idsW,fzW,p27d,p31d,List.map_nil]))
          all_goals first|rfl|(refine And.intro ⟨rfl,rfl,rfl⟩ ?_;rw [hq,hl];simp only [rowsLe,AV.le];exact ⟨⟨_,_,rfl⟩,⟨_,_,rfl⟩,trivial⟩)
        · have hq:rid L.rates.length=[.row 20,.row 21,.row 22]:=by rw [hW];rfl
          have hl:rkvL (setR L 0 κ s).rates=[[.sl (rkv (setR L 0 κ s).rates L.rates.length 0)],[.sl (rkv (setR L 0 κ s).rates L.rates.length 1)],[.sl (rkv (setR L 0 κ s).rates L.rates.length 2)]]:=by unfold rkvL;rw [hMl,hW];rfl
          rw [m0,m1,m2] at hl
          (refine Le.ok some [20,21,22] ?_;constructor;all_goals (try simp only [vle,vkt,seval,tbL10_37,xbL10_1,onH,onS0,onS1,onS2,onS3,renL_ridR,ids3R,lgDH,tyD,ti55d,idsW,fzW,p27d,p31d,List.map_nil]))
          all_goals first|rfl|(refine And.intro ⟨rfl,rfl,rfl⟩ ?_;rw [hq,hl];simp only [rowsLe,AV.le];exact ⟨⟨_,_,rfl⟩,⟨_,_,rfl⟩,⟨_,_,rfl⟩,trivial⟩)
      · rw [hF]
        (refine Le.ok some [2] ?_;constructor;all_goals (try simp only [vle,vkt,seval,tbL10_37,xbL10_1,onH,onS0,onS1,onS2,onS3,renL_ridR,ids3R,lgDH,tyD,ti55d,idsW,fzW,p27d,p31d,List.map_nil]))
        all_goals first|rfl|exact ⟨_,_,rfl⟩|(simp;done)
    · subst h9
      have m0:=mo 0 (by decide)
      have m1:=mn
      have m2:=mo 2 (by decide)
      (refine vx env fun Q hQ=>?_;simp only [vkt,seval,tbL10_37,xbL10_1,onH,onS0,onS1,onS2,onS3,renL_ridR,ids3R,lgDH,tyD,ti55d,idsW,fzW,p27d,p31d,List.map_nil,gr,rc,g0,st,hS,hy3];(try simp only [ite_and]);(repeat' (first|with_reducible assumption|refine And.intro ?_ ?_|intro hp));all_goals (first|(refine hQ _ ?_;clear hQ Q)|(refine vq ?_;kernel_rfl)|omega|assumption|with_reducible rfl|skip))
      refine ⟨rfl, ?_⟩
      refine Le.trans (S':=onS2 (setR L 1 κ s) (rkvL (setR L 1 κ s).rates) y3) ?_ ?_
      · rcases (show L.rates.length=1∨L.rates.length=2∨L.rates.length=3 by omega) with hW|hW|hW
        · exfalso;omega
        · have hq:rid L.rates.length=[.row 20,.row 21]:=by rw [hW];rfl
          have hl:rkvL (setR L 1 κ s).rates=[[.sl (rkv (setR L 1 κ s).rates L.rates.length 0)],[.sl (rkv (setR L 1 κ s).rates L.rates.length 1)]]:=by unfold rkvL;rw [hMl,hW];rfl
          rw [m0,m1] at hl
          (refine Le.ok some [20,21,22] ?_;constructor;all_goals (try simp only [vle,vkt,seval,tbL10_37,xbL10_1,onH,onS0,onS1,onS2,onS3,renL_ridR,ids3R,lgDH,tyD,ti55d,idsW,fzW,p27d,p31d,List.map_nil]))
          all_goals first|rfl|(refine And.intro ⟨rfl,rfl,rfl⟩ ?_;rw [hq,hl];simp only [rowsLe,AV.le];exact ⟨⟨_,_,rfl⟩,⟨_,_,rfl⟩,trivial⟩)
        · have hq:rid L.rates.length=[.row 20,.row 21,.row 22]:=by rw [hW];rfl
          have hl:rkvL (setR L 1 κ s).rates=[[.sl (rkv (setR L 1 κ s).rates L.rates.length 0)],[.sl (rkv (setR L 1 κ s).rates L.rates.length 1)],[.sl (rkv (setR L 1 κ s).rates L.rates.length 2)]]:=by unfold rkvL;rw [hMl,hW];rfl
          rw [m0,m1,m2] at hl
          (refine Le.ok some [20,21,22] ?_;constructor;all_goals (try simp only [vle,vkt,seval,tbL10_37,xbL10_1,onH,onS0,onS1,onS2,onS3,renL_ridR,ids3R,lgDH,tyD,ti55d,idsW,fzW,p27d,p31d,List.map_nil]))
          all_goals first|rfl|(refine And.intro ⟨rfl,rfl,rfl⟩ ?_;rw [hq,hl];simp only [rowsLe,AV.le];exact ⟨⟨_,_,rfl⟩,⟨_,_,rfl⟩,⟨_,_,rfl⟩,trivial⟩)
      · rw [hF]
        (refine Le.ok some [2] ?_;constructor;all_goals (try simp only [vle,vkt,seval,tbL10_37,xbL10_1,onH,onS0,onS1,onS2,onS3,renL_ridR,ids3R,lgDH,tyD,ti55d,idsW,fzW,p27d,p31d,List.map_nil]))
        all_goals first|rfl|exact ⟨_,_,rfl⟩|(simp;done)
    · subst h9
      have m0:=mo 0 (by decide)
      have m1:=mo 1 (by decide)
      have m2:=mn
      (refine vx env fun Q hQ=>?_;simp only [vkt,seval,tbL10_37,xbL10_1,onH,onS0,onS1,onS2,onS3,renL_ridR,ids3R,lgDH,tyD,ti55d,idsW,fzW,p27d,p31d,List.map_nil,gr,rc,g0,st,hS,hy3];(try simp only [ite_and]);(repeat' (first|with_reducible assumption|refine And.intro ?_ ?_|intro hp));all_goals (first|(refine hQ _ ?_;clear hQ Q)|(refine vq ?_;kernel_rfl)|omega|assumption|with_reducible rfl|skip))
      refine ⟨rfl, ?_⟩
      refine Le.trans (S':=onS2 (setR L 2 κ s) (rkvL (setR L 2 κ s).rates) y3) ?_ ?_
      · rcases (show L.rates.length=1∨L.rates.length=2∨L.rates.length=3 by omega) with hW|hW|hW
        · exfalso;omega
        · exfalso;omega
        · have hq:rid L.rates.length=[.row 20,.row 21,.row 22]:=by rw [hW];rfl
          have hl:rkvL (setR L 2 κ s).rates=[[.sl (rkv (setR L 2 κ s).rates L.rates.length 0)],[.sl (rkv (setR L 2 κ s).rates L.rates.length 1)],[.sl (rkv (setR L 2 κ s).rates L.rates.length 2)]]:=by unfold rkvL;rw [hMl,hW];rfl
          rw [m0,m1,m2] at hl
          (refine Le.ok some [20,21,22] ?_;constructor;all_goals (try simp only [vle,vkt,seval,tbL10_37,xbL10_1,onH,onS0,onS1,onS2,onS3,renL_ridR,ids3R,lgDH,tyD,ti55d,idsW,fzW,p27d,p31d,List.map_nil]))
          all_goals first|rfl|(refine And.intro ⟨rfl,rfl,rfl⟩ ?_;rw [hq,hl];simp only [rowsLe,AV.le];exact ⟨⟨_,_,rfl⟩,⟨_,_,rfl⟩,⟨_,_,rfl⟩,trivial⟩)
      · rw [hF]
        (refine Le.ok some [2] ?_;constructor;all_goals (try simp only [vle,vkt,seval,tbL10_37,xbL10_1,onH,onS0,onS1,onS2,onS3,renL_ridR,ids3R,lgDH,tyD,ti55d,idsW,fzW,p27d,p31d,List.map_nil]))
        all_goals first|rfl|exact ⟨_,_,rfl⟩|(simp;done)
  rintro e S1 ⟨rfl,hle⟩
  refine (sym_le hle ?_:Sym _ _ _ S1 _)
  clear hle
  obtain ⟨M,hM⟩:∃ M,setR L δ κ s=M:=⟨_,rfl⟩
  rw [hM] at hMc h1w hMf ⊢
  have hWr:aWrong M=.tup [aIntss (wrongL M),.v (.int .i64 0)]:=if_neg (by rw [hMc];simp)
  obtain ⟨β,hβ⟩:∃ β:Bool,decide (badL M=[])=β:=⟨_,rfl⟩
  have d5:decide (((wrongL M).length:Int)=0)=β:=by rw [← hβ];exact decide_eq_decide.2 ⟨fun h=>h1w.1.1 (by omega),fun h=>by have:=h1w.1.2 h;omega⟩
  have d6:decide (((badL M).length:Int)=0)=β:=by rw [← hβ];exact decide_eq_decide.2 ⟨fun h=>List.eq_nil_of_length_eq_zero (by omega),fun h=>by rw [h];rfl⟩
  have d7:decide (((wrongL M).length:Int)≤1)=true:=decide_eq_true (by have:=h1w.2;omega)
  repeat' (first|(apply nx;with_reducible constructor)|refine uq (by decide) ?_|((first|refine vx env fun Q hQ=>?_|refine vz fun Q hQ=>?_);simp only [vkt,seval,tbL10_37,xbL10_1,onH,onS0,onS1,onS2,onS3,renL_ridR,ids3R,lgDH,tyD,ti55d,idsW,fzW,p27d,p31d,List.map_nil,hWr,hMc,aIntss,List.length_map,d5,d6,d7];(try simp only [ite_and]);(repeat' (first|with_reducible assumption|refine And.intro ?_ ?_|intro hp));all_goals (first|(refine hQ _ ?_;clear hQ Q)|(refine hQ _ (fun h=>?_) (fun h=>?_) <;> clear hQ Q <;> (try simp only [vki,reduceCtorEq] at h))|(refine vq ?_;kernel_rfl)|omega|assumption|with_reducible rfl|skip)))
  (simp only [vrt,Try.results37,vkt,seval,tbL10_37,xbL10_1,onH,onS0,onS1,onS2,onS3,renL_ridR,ids3R,lgDH,tyD,ti55d,idsW,fzW,p27d,p31d,List.map_nil];refine Fin.ok (fun j=>if j=0 then some 0 else none) [] ?_ ?_ ?_ ?_ ?_ rfl;all_goals (try simp only [vle,vkt,seval,tbL10_37,xbL10_1,onH,onS0,onS1,onS2,onS3,renL_ridR,ids3R,lgDH,tyD,ti55d,idsW,fzW,p27d,p31d,List.map_nil]))
  all_goals first|rfl|(simp;done)
end Go.Sym.B
namespace Go.Sym.B
open Go Go.Sym Go.Proofs Go.Sym.C
noncomputable def p37 (S:St):List AV→Option Pk
  |[.ptr i 0]=>match S.h i with
    |some (.cells [.v (.int .u64 x)])=>some { hs:=[i],ar:=[.ptr 0 0],L0:=[.cells [.v (.int .u64 x)]],v:=.v (.bool true),L1:=[some (.cells [.v (.int .u64 (oneS x))])],fl:=true }
    |_=>none
  |_=>none
theorem e37 {A:Frm→Prop}:EntryOK A Try.prog 37 (fnE p37):=fnE_ok fun S bs q h hp=>by
  unfold p37 at h
  split at h
  · split at h
    · cases h;exact onew_fn _
    · cases h
  · cases h
theorem filt_up (f:Nat→Bool):∀ n,((List.range n).filter f).Pairwise (· < ·):=fun n=>(List.pairwise_lt_range).filter _
theorem badL_up {l:Led} {k:Nat} (hk:k+1 < (badL l).length):(badL l).getD k 0 < (badL l).getD (k+1) 0:=by
  unfold badL badK at *
  rw [List.length_map] at hk
  have h:=List.pairwise_iff_getElem.1 (filt_up (isBad l) l.entries.length) k (k+1) (by omega) hk (by omega)
  simp only [List.getD_eq_getElem?_getD,List.getElem?_map,List.getElem?_eq_getElem hk,List.getElem?_eq_getElem (show k < ((List.range l.entries.length).filter (isBad l)).length by omega),Option.map_some,Option.getD_some]
  omega
theorem pairs_2 {l:Led} {p:List Int} (hp:p ∈ pairsOf l):p.length=2:=by
  unfold pairsOf pairsK pairsR at hp
  obtain ⟨d,_,hp⟩:=List.mem_flatMap.1 hp
  obtain ⟨c,_,rfl⟩:=List.mem_map.1 hp
  rfl
def cwS1 (L:Led) (ys:List (List DV)) (y:Int):St:={ t:=asg [(2,aB false),(3,.ptr 0 0),(4,.ptr 1 0)],h:=hasg [(0,.cells [.v (.int .u64 y)]),(1,.cells [.sl (L.coins.map eInts),.row 2,.sl (L.start.map eInt),.sl (L.entries.map eEnt)]),(2,.row 55 1 ys)],n:=3 }
def cwH (L:Led) (y:Int):List (Nat × AObj):=[(0,.cells [.v (.int .u64 y)]),(1,.cells (cLed L))]
def cwT (B:List Int) (w:List (List Int)):List (Nat × AV):=[(2,aB false),(3,.ptr 0 0),(4,.ptr 1 0),(5,aInts B),(7,aIntss w)]
def cwS2 (L:Led) (y:Int):St:={ t:=asg [(2,aB false),(3,.ptr 0 0),(4,.ptr 1 0)],h:=hasg (cwH L y),n:=2 }
def cwS3 (L:Led) (y:Int) (B:List Int) (w:List (List Int)) (k:Nat):St:={ t:=asg (cwT B w++[(9,aI k)]),h:=hasg (cwH L y),n:=2 }
def cwS4 (L:Led) (y:Int) (B:List Int) (w:List (List Int)) (k:Nat):St:={ t:=asg (cwT B w++[(10,aI k)]),h:=hasg (cwH L y),n:=2 }
def cwS5 (L:Led) (y:Int) (B:List Int) (w:List (List Int)) (k:Nat):St:={ t:=asg (cwT B w++[(11,aI k)]),h:=hasg (cwH L y),n:=2 }
def cwS6 (L:Led) (y:Int) (B:List Int) (w:List (List Int)) (A:List (List (List Int))) (k j:Nat):St:={ t:=asg (cwT B w++[(11,aI k),(12,.sl (A.map eIntss)),(13,aI j)]),h:=hasg (cwH L y),n:=2 }
def tbL11_5:=vj @ty3 (vj @ty22 (vj @ty28 (vj @ty30 (vj @ty36 (vj @ty38 (vj @ty48 (vj @ty50 (vj @ti3.eq_1 (vj @ti22.eq_1 (vj @ti28.eq_1 (vj @ti30.eq_1 (vj @ti36.eq_1 (vj @ti38.eq_1 (vj @ti48.eq_1 @ti50.eq_1))))))))))))))
def xbL11_1:=vj @aI.eq_1 (vj @aB.eq_1 (vj @aLed.eq_1 (vj @cLed.eq_1 (vj @bgH.eq_1 (vj @aInts.eq_1 (vj @aIntss.eq_1 (vj @mInt (vj @mInts (vj @eInt.eq_1 (vj @gInt (vj @gInts (vj @eInts.eq_1 (vj @gEnt (vj @eEnt.eq_1 (vj @c19.eq_1 (vj @c19.eq_2 (vj @p20.eq_1 (vj @p20.eq_2 (vj @c32.eq_1 (vj @c32.eq_2 (vj @s36.eq_1 (vj @s36.eq_2 (vj @isL_e (@ldOf_e))))))))))))))))))))))))
end Go.Sym.B
