/- Walks and what they compute, joined: part 1. -/
import Derived.Test.YtoapndlmbpphfaaE2
set_option linter.all false
namespace Go.Sym.B
open Go Go.Sym Go.Proofs Go.RowKit
def spI:Sp:=.int .i64
theorem eI_of (r:List DV) (h:r.length=1) (hs:∀ (j:Nat) (s:Sp) (d:DV),[spI][j]?=some s→r[j]?=some d→D1 s d):∃ a,r=eInt a:=by
  obtain ⟨d,rfl⟩:=List.length_eq_one_iff.1 h
  obtain ⟨n,rfl,_⟩:=(hs 0 spI d rfl rfl).int_inv
  exact ⟨n,rfl⟩
theorem eIs_of (r:List DV) (h:r.length=1) (hs:∀ (j:Nat) (s:Sp) (d:DV),[Sp.sl [spI]][j]?=some s→r[j]?=some d→D1 s d):∃ a,r=eInts a:=by
  obtain ⟨d,rfl⟩:=List.length_eq_one_iff.1 h
  obtain ⟨l,rfl,_⟩:=(hs 0 _ d rfl rfl).sl_inv eInt eI_of
  exact ⟨l,rfl⟩
theorem eS_of (r:List DV) (h:r.length=2) (hs:∀ (j:Nat) (s:Sp) (d:DV),[spI,spI][j]?=some s→r[j]?=some d→D1 s d):∃ a,r=eSh a:=by
  match r,h with
  |[a,b],_ =>
    obtain ⟨n,rfl,_⟩:=(hs 0 spI a rfl rfl).int_inv
    obtain ⟨m,rfl,_⟩:=(hs 1 spI b rfl rfl).int_inv
    exact ⟨⟨n,m⟩,rfl⟩
theorem eSs_of (r:List DV) (h:r.length=1) (hs:∀ (j:Nat) (s:Sp) (d:DV),[Sp.sl [spI,spI]][j]?=some s→r[j]?=some d→D1 s d):∃ a,r=eShs a:=by
  obtain ⟨d,rfl⟩:=List.length_eq_one_iff.1 h
  obtain ⟨l,rfl,_⟩:=(hs 0 _ d rfl rfl).sl_inv eSh eS_of
  exact ⟨l,rfl⟩
theorem eE_of (r:List DV) (h:r.length=6) (hs:∀ (j:Nat) (s:Sp) (d:DV),[spI,spI,spI,spI,spI,spI][j]?=some s→r[j]?=some d→D1 s d):∃ a,r=eEnt a:=by
  match r,h with
  |[a,b,c,d,e,f],_ =>
    obtain ⟨n1,rfl,_⟩:=(hs 0 spI a rfl rfl).int_inv
    obtain ⟨n2,rfl,_⟩:=(hs 1 spI b rfl rfl).int_inv
    obtain ⟨n3,rfl,_⟩:=(hs 2 spI c rfl rfl).int_inv
    obtain ⟨n4,rfl,_⟩:=(hs 3 spI d rfl rfl).int_inv
    obtain ⟨n5,rfl,_⟩:=(hs 4 spI e rfl rfl).int_inv
    obtain ⟨n6,rfl,_⟩:=(hs 5 spI f rfl rfl).int_inv
    exact ⟨⟨n1,n2,n3,n4,n5,n6⟩,rfl⟩
def spL:List Sp:=[.sl [.sl [spI]],.sl [.sl [spI,spI]],.sl [spI],.sl [spI,spI,spI,spI,spI,spI]]
theorem fl3:Fl Try.prog 3 [spI]:=flB_sound (n:=6) (by kernel_rfl)
theorem fl22:Fl Try.prog 22 [.sl [spI]]:=flB_sound (n:=6) (by kernel_rfl)
theorem fl38:Fl Try.prog 38 spL:=flB_sound (n:=6) (by kernel_rfl)
variable {H : Type} {enc : TypeId × Value → H} {W : World} {base : Nat} {spare : Nat → Bool} {held : Bool}
theorem arg_int {fuel:Nat} {v:Value} {x:DataW H × List MemPlace} (h:DataW.trod enc Try.prog W base spare held fuel 3 [v]=some x):∃ n,ARel W (okW W) rho0 undef (aI n) v:=by
  obtain ⟨ds,hd⟩:=open_fl fl3 h
  obtain ⟨d,rfl,h1,h2⟩:=hd.one_inv
  obtain ⟨n,rfl,_⟩:=h1.int_inv
  exact ⟨n,toAV_rel h2⟩
theorem arg_ints {fuel:Nat} {v:Value} {x:DataW H × List MemPlace} (h:DataW.trod enc Try.prog W base spare held fuel 22 [v]=some x):∃ l:List Int,ARel W (okW W) rho0 undef (aInts l) v∧l.length≤maxLen:=by
  obtain ⟨ds,hd⟩:=open_fl fl22 h
  obtain ⟨d,rfl,h1,h2⟩:=hd.one_inv
  obtain ⟨l,rfl,hl⟩:=h1.sl_inv eInt eI_of
  exact ⟨l,toAV_rel h2,hl⟩
theorem arg_led {fuel:Nat} {cs:Array Value} {x:DataW H × List MemPlace} (h:DataW.trod enc Try.prog W base spare held fuel 38 cs.toList=some x):∃ l:Led,ARel W (okW W) rho0 undef (aLed l) (.agg cs):=by
  obtain ⟨ds,hd⟩:=open_fl fl38 h
  match ds,hd with
  |[a,b,c,d],hd =>
    obtain ⟨l1,rfl,_⟩:=(hd.shape 0 _ a rfl rfl).sl_inv eInts eIs_of
    obtain ⟨l2,rfl,_⟩:=(hd.shape 1 _ b rfl rfl).sl_inv eShs eSs_of
    obtain ⟨l3,rfl,_⟩:=(hd.shape 2 _ c rfl rfl).sl_inv eInt eI_of
    obtain ⟨l4,rfl,_⟩:=(hd.shape 3 _ d rfl rfl).sl_inv eEnt eE_of
    exact ⟨⟨l1,l2,l3,l4⟩,hd.agg⟩
  |[],hd=>exact absurd hd.len (by simp [spL])
  |[_],hd=>exact absurd hd.len (by simp [spL])
  |[_,_],hd=>exact absurd hd.len (by simp [spL])
  |[_,_,_],hd=>exact absurd hd.len (by simp [spL])
  |_ :: _ :: _ :: _ :: _ :: _,hd=>exact absurd hd.len (by simp [spL])
theorem cells_agg {v:Value} (h:v.cells.toList.length ≠ 1):∃ cs,v=.agg cs:=by
  cases v <;> first|exact ⟨_,rfl⟩|(simp [Value.cells] at h)
theorem led_of {v:Value} {d:DataW H} {p:List MemPlace} (h:DataW.Trod enc Try.prog W base spare held 38 v d p):∃ l:Led,ARel W (okW W) rho0 undef (aLed l) v:=by
  obtain ⟨fuel,hf⟩:=h
  obtain ⟨ds,hd⟩:=open_fl fl38 hf
  obtain ⟨cs,rfl⟩:=cells_agg (v:=v) (by rw [hd.clen];simp [spL])
  exact arg_led hf
set_option maxRecDepth 100000 in
theorem int_of {v:Value} {d:DataW H} {p:List MemPlace} {r:Reach} {b0:Nat} (h:DataW.Trod enc Try.prog W base spare held 3 v d p) (hu:Try.prog.underlying 3=some (.int .i64)) (hv:Value.okWide Try.prog W r b0 3 v):∃ n:Int,ARel W (okW W) rho0 undef (aI n) v:=by
  obtain ⟨fuel,hf⟩:=h
  obtain ⟨n,rfl⟩:=WideShapes.okWide_int hu hv
  exact arg_int hf
set_option maxRecDepth 100000 in
theorem ints_of {v:Value} {d:DataW H} {p:List MemPlace} {r:Reach} {b0:Nat} (h:DataW.Trod enc Try.prog W base spare held 22 v d p) (hu:Try.prog.underlying 22=some (.slice 3)) (hv:Value.okWide Try.prog W r b0 22 v):∃ l:List Int,ARel W (okW W) rho0 undef (aInts l) v∧l.length≤maxLen:=by
  obtain ⟨fuel,hf⟩:=h
  obtain ⟨a,n,c,rfl⟩:=WideShapes.okWide_slice hu hv
  exact arg_ints hf
end Go.Sym.B
