/- Walks and what they compute, joined: part 1. -/
import Derived.Test.YtcmfagpdahhfpaaGreatDoorYS3
import Derived.Test.YtcmfagpdahhfpaaGreatDoorProg
import Derived.KernelRfl
import Derived.Shelf.Strings.OnBuilder
import Derived.Shelf.Strconv.Itoa3
import Derived.Shelf.Strconv.AtoiAll
import Derived.Shelf.Strings.Split
import Derived.Shelf.Strings.Cut
set_option linter.all false
set_option maxHeartbeats 40000000
namespace Go.Sym.B
open Go Go.Sym Go.Proofs
theorem _root_.Go.Sym.jv {a b:Prop} (x:a) (y:b):a/\b:=⟨x,y⟩
def _root_.Go.Sym.jq:=@Yb
def _root_.Go.Sym.jx:=@R8
def _root_.Go.Sym.jz:=@QcG
def _root_.Go.Sym.jk:=@Qgk
def _root_.Go.Sym.jw:=@QgJ
def ti2:TI:={ cells:=1,bytes:=8,td:=.int .i64,zero:=[.v (.int .i64 0)],eqk:=none }
theorem tf2:TyFact Tryz.prog 2 ti2:=by
 refine ⟨⟨Tryz.t2,.int .i64 0,by kernel_rfl,rfl,rfl,rfl,rfl,rfl,by simp [Value.cells,Value.oneCell']⟩,⟨_,Tryz.underlying2,rfl⟩,fun fs h=>?_,fun ks h=>?_,fun q h=>?_⟩
 ·cases h
 ·cases h
 ·cases h
def ti3:TI:={ cells:=1,bytes:=8,td:=.int .i64,zero:=[.v (.int .i64 0)],eqk:=none }
theorem tf3:TyFact Tryz.prog 3 ti3:=by
 refine ⟨⟨Tryz.t3,.int .i64 0,by kernel_rfl,rfl,rfl,rfl,rfl,rfl,by simp [Value.cells,Value.oneCell']⟩,⟨_,Tryz.underlying3,rfl⟩,fun fs h=>?_,fun ks h=>?_,fun q h=>?_⟩
 ·cases h
 ·cases h
 ·cases h
def ti4:TI:={ cells:=1,bytes:=1,td:=.bool,zero:=[.v (.bool false)],eqk:=none }
theorem tf4:TyFact Tryz.prog 4 ti4:=by
 refine ⟨⟨Tryz.t4,.bool false,by kernel_rfl,rfl,rfl,rfl,rfl,rfl,by simp [Value.cells,Value.oneCell']⟩,⟨_,Tryz.underlying4,rfl⟩,fun fs h=>?_,fun ks h=>?_,fun q h=>?_⟩
 ·cases h
 ·cases h
 ·cases h
def ti5:TI:={ cells:=1,bytes:=1,td:=.int .u8,zero:=[.v (.int .u8 0)],eqk:=none }
theorem tf5:TyFact Tryz.prog 5 ti5:=by
 refine ⟨⟨Tryz.t5,.int .u8 0,by kernel_rfl,rfl,rfl,rfl,rfl,rfl,by simp [Value.cells,Value.oneCell']⟩,⟨_,Tryz.underlying5,rfl⟩,fun fs h=>?_,fun ks h=>?_,fun q h=>?_⟩
 ·cases h
 ·cases h
 ·cases h
def ti9:TI:={ cells:=1,bytes:=16,td:=.string,zero:=[.v (.string ⟨#[]⟩)],eqk:=none }
theorem tf9:TyFact Tryz.prog 9 ti9:=by
 refine ⟨⟨Tryz.t9,.string ⟨#[]⟩,by kernel_rfl,rfl,rfl,rfl,rfl,rfl,by simp [Value.cells,Value.oneCell']⟩,⟨_,Tryz.underlying9,rfl⟩,fun fs h=>?_,fun ks h=>?_,fun q h=>?_⟩
 ·cases h
 ·cases h
 ·cases h
def ti20:TI:={ cells:=1,bytes:=16,td:=.iface,zero:=[.v (.nilIface)],eqk:=none }
theorem tf20:TyFact Tryz.prog 20 ti20:=by
 refine ⟨⟨Tryz.t20,.nilIface,by kernel_rfl,rfl,rfl,rfl,rfl,rfl,by simp [Value.cells,Value.oneCell']⟩,⟨_,Tryz.underlying20,⟨_,rfl⟩⟩,fun fs h=>?_,fun ks h=>?_,fun q h=>?_⟩
 ·cases h
 ·cases h
 ·cases h
def ti21:TI:={ cells:=1,bytes:=4,td:=.int .i32,zero:=[.v (.int .i32 0)],eqk:=none }
theorem tf21:TyFact Tryz.prog 21 ti21:=by
 refine ⟨⟨Tryz.t21,.int .i32 0,by kernel_rfl,rfl,rfl,rfl,rfl,rfl,by simp [Value.cells,Value.oneCell']⟩,⟨_,Tryz.underlying21,rfl⟩,fun fs h=>?_,fun ks h=>?_,fun q h=>?_⟩
 ·cases h
 ·cases h
 ·cases h
def ZW:TI:={ cells:=1,bytes:=24,td:=.slice 84,zero:=[.nil],eqk:=none }
theorem tf22:TyFact Tryz.prog 22 ZW:=by
 refine ⟨⟨Tryz.t22,.slice none 0 0,by kernel_rfl,rfl,rfl,rfl,rfl,rfl,by simp [Value.cells,Value.oneCell']⟩,⟨_,Tryz.underlying22,rfl⟩,fun fs h=>?_,fun ks h=>?_,fun q h=>?_⟩
 ·cases h
 ·cases h
 ·cases h
def vW:TI:={ cells:=1,bytes:=24,td:=.slice 88,zero:=[.nil],eqk:=none }
theorem tf23:TyFact Tryz.prog 23 vW:=by
 refine ⟨⟨Tryz.t23,.slice none 0 0,by kernel_rfl,rfl,rfl,rfl,rfl,rfl,by simp [Value.cells,Value.oneCell']⟩,⟨_,Tryz.underlying23,rfl⟩,fun fs h=>?_,fun ks h=>?_,fun q h=>?_⟩
 ·cases h
 ·cases h
 ·cases h
def jE:TI:={ cells:=3,bytes:=56,td:=.struct [(0,1,22),(1,1,3),(2,1,23)],zero:=[.nil,.v (.int .i64 0),.nil],eqk:=none }
theorem tf25:TyFact Tryz.prog 25 jE:=by
 refine ⟨⟨Tryz.t25,.agg #[.slice none 0 0,.int .i64 0,.slice none 0 0],by kernel_rfl,rfl,rfl,rfl,rfl,rfl,by simp [Value.cells,Value.oneCell']⟩,⟨_,Tryz.underlying25,⟨_,rfl,rfl⟩⟩,fun fs h=>?_,fun ks h=>?_,fun q h=>?_⟩
 ·cases h
  simp only [ae,aV,or_false,forall_eq_or_imp,forall_eq]
  exact ⟨⟨Tryz.t22,by kernel_rfl,rfl⟩,⟨Tryz.t3,by kernel_rfl,rfl⟩,⟨Tryz.t23,by kernel_rfl,rfl⟩⟩
 ·cases h
 ·cases h
def QV:TI:={ cells:=1,bytes:=24,td:=.slice 3,zero:=[.nil],eqk:=none }
theorem tf26:TyFact Tryz.prog 26 QV:=by
 refine ⟨⟨Tryz.t26,.slice none 0 0,by kernel_rfl,rfl,rfl,rfl,rfl,rfl,by simp [Value.cells,Value.oneCell']⟩,⟨_,Tryz.underlying26,rfl⟩,fun fs h=>?_,fun ks h=>?_,fun q h=>?_⟩
 ·cases h
 ·cases h
 ·cases h
def ti28:TI:={ cells:=1,bytes:=8,td:=.func,zero:=[.v (.nilFunc)],eqk:=none }
theorem tf28:TyFact Tryz.prog 28 ti28:=by
 refine ⟨⟨Tryz.t28,.nilFunc,by kernel_rfl,rfl,rfl,rfl,rfl,rfl,by simp [Value.cells,Value.oneCell']⟩,⟨_,Tryz.underlying28,⟨_,_,_,rfl⟩⟩,fun fs h=>?_,fun ks h=>?_,fun q h=>?_⟩
 ·cases h
 ·cases h
 ·cases h
def ti30:TI:={ cells:=1,bytes:=8,td:=.ptr,zero:=[.v (.pointer none)],eqk:=none }
theorem tf30:TyFact Tryz.prog 30 ti30:=by
 refine ⟨⟨Tryz.t30,.pointer none,by kernel_rfl,rfl,rfl,rfl,rfl,rfl,by simp [Value.cells,Value.oneCell']⟩,⟨_,Tryz.underlying30,⟨_,rfl⟩⟩,fun fs h=>?_,fun ks h=>?_,fun q h=>?_⟩
 ·cases h
 ·cases h
 ·cases h
def ti32:TI:={ cells:=1,bytes:=24,td:=.slice 25,zero:=[.nil],eqk:=none }
theorem tf32:TyFact Tryz.prog 32 ti32:=by
 refine ⟨⟨Tryz.t32,.slice none 0 0,by kernel_rfl,rfl,rfl,rfl,rfl,rfl,by simp [Value.cells,Value.oneCell']⟩,⟨_,Tryz.underlying32,rfl⟩,fun fs h=>?_,fun ks h=>?_,fun q h=>?_⟩
 ·cases h
 ·cases h
 ·cases h
def Qaj:TI:={ cells:=1,bytes:=24,td:=.slice 9,zero:=[.nil],eqk:=none }
theorem tf33:TyFact Tryz.prog 33 Qaj:=by
 refine ⟨⟨Tryz.t33,.slice none 0 0,by kernel_rfl,rfl,rfl,rfl,rfl,rfl,by simp [Value.cells,Value.oneCell']⟩,⟨_,Tryz.underlying33,rfl⟩,fun fs h=>?_,fun ks h=>?_,fun q h=>?_⟩
 ·cases h
 ·cases h
 ·cases h
def kY:TI:={ cells:=1,bytes:=8,td:=.int .i64,zero:=[.v (.int .i64 0)],eqk:=none }
theorem tf34:TyFact Tryz.prog 34 kY:=by
 refine ⟨⟨Tryz.t34,.int .i64 0,by kernel_rfl,rfl,rfl,rfl,rfl,rfl,by simp [Value.cells,Value.oneCell']⟩,⟨_,Tryz.underlying34,rfl⟩,fun fs h=>?_,fun ks h=>?_,fun q h=>?_⟩
 ·cases h
 ·cases h
 ·cases h
def ti43:TI:={ cells:=1,bytes:=24,td:=.slice 26,zero:=[.nil],eqk:=none }
theorem tf43:TyFact Tryz.prog 43 ti43:=by
 refine ⟨⟨Tryz.t43,.slice none 0 0,by kernel_rfl,rfl,rfl,rfl,rfl,rfl,by simp [Value.cells,Value.oneCell']⟩,⟨_,Tryz.underlying43,rfl⟩,fun fs h=>?_,fun ks h=>?_,fun q h=>?_⟩
 ·cases h
 ·cases h
 ·cases h
def ti44:TI:={ cells:=1,bytes:=24,td:=.slice 108,zero:=[.nil],eqk:=none }
theorem tf44:TyFact Tryz.prog 44 ti44:=by
 refine ⟨⟨Tryz.t44,.slice none 0 0,by kernel_rfl,rfl,rfl,rfl,rfl,rfl,by simp [Value.cells,Value.oneCell']⟩,⟨_,Tryz.underlying44,rfl⟩,fun fs h=>?_,fun ks h=>?_,fun q h=>?_⟩
 ·cases h
 ·cases h
 ·cases h
def ti45:TI:={ cells:=1,bytes:=24,td:=.slice 129,zero:=[.nil],eqk:=none }
theorem tf45:TyFact Tryz.prog 45 ti45:=by
 refine ⟨⟨Tryz.t45,.slice none 0 0,by kernel_rfl,rfl,rfl,rfl,rfl,rfl,by simp [Value.cells,Value.oneCell']⟩,⟨_,Tryz.underlying45,rfl⟩,fun fs h=>?_,fun ks h=>?_,fun q h=>?_⟩
 ·cases h
 ·cases h
 ·cases h
def ti47:TI:={ cells:=4,bytes:=96,td:=.struct [(0,1,43),(1,1,44),(2,1,26),(3,1,45)],zero:=[.nil,.nil,.nil,.nil],eqk:=none }
theorem tf47:TyFact Tryz.prog 47 ti47:=by
 refine ⟨⟨Tryz.t47,.agg #[.slice none 0 0,.slice none 0 0,.slice none 0 0,.slice none 0 0],by kernel_rfl,rfl,rfl,rfl,rfl,rfl,by simp [Value.cells,Value.oneCell']⟩,⟨_,Tryz.underlying47,⟨_,rfl,rfl⟩⟩,fun fs h=>?_,fun ks h=>?_,fun q h=>?_⟩
 ·cases h
  simp only [ae,aV,or_false,forall_eq_or_imp,forall_eq]
  exact ⟨⟨Tryz.t43,by kernel_rfl,rfl⟩,⟨Tryz.t44,by kernel_rfl,rfl⟩,⟨Tryz.t26,by kernel_rfl,rfl⟩,⟨Tryz.t45,by kernel_rfl,rfl⟩⟩
 ·cases h
 ·cases h
def ti50:TI:={ cells:=1,bytes:=24,td:=.slice 47,zero:=[.nil],eqk:=none }
theorem tf50:TyFact Tryz.prog 50 ti50:=by
 refine ⟨⟨Tryz.t50,.slice none 0 0,by kernel_rfl,rfl,rfl,rfl,rfl,rfl,by simp [Value.cells,Value.oneCell']⟩,⟨_,Tryz.underlying50,rfl⟩,fun fs h=>?_,fun ks h=>?_,fun q h=>?_⟩
 ·cases h
 ·cases h
 ·cases h
def Qbp:TI:={ cells:=1,bytes:=24,td:=.slice 65,zero:=[.nil],eqk:=none }
theorem tf59:TyFact Tryz.prog 59 Qbp:=by
 refine ⟨⟨Tryz.t59,.slice none 0 0,by kernel_rfl,rfl,rfl,rfl,rfl,rfl,by simp [Value.cells,Value.oneCell']⟩,⟨_,Tryz.underlying59,rfl⟩,fun fs h=>?_,fun ks h=>?_,fun q h=>?_⟩
 ·cases h
 ·cases h
 ·cases h
def QT:TI:={ cells:=5,bytes:=56,td:=.struct [(0,1,3),(1,1,3),(2,1,3),(3,1,26),(4,1,4)],zero:=[.v (.int .i64 0),.v (.int .i64 0),.v (.int .i64 0),.nil,.v (.bool false)],eqk:=none }
theorem tf63:TyFact Tryz.prog 63 QT:=by
 refine ⟨⟨Tryz.t63,.agg #[.int .i64 0,.int .i64 0,.int .i64 0,.slice none 0 0,.bool false],by kernel_rfl,rfl,rfl,rfl,rfl,rfl,by simp [Value.cells,Value.oneCell']⟩,⟨_,Tryz.underlying63,⟨_,rfl,rfl⟩⟩,fun fs h=>?_,fun ks h=>?_,fun q h=>?_⟩
 ·cases h
  simp only [ae,aV,or_false,forall_eq_or_imp,forall_eq]
  exact ⟨⟨Tryz.t3,by kernel_rfl,rfl⟩,⟨Tryz.t3,by kernel_rfl,rfl⟩,⟨Tryz.t3,by kernel_rfl,rfl⟩,⟨Tryz.t26,by kernel_rfl,rfl⟩,⟨Tryz.t4,by kernel_rfl,rfl⟩⟩
 ·cases h
 ·cases h
def WP:TI:={ cells:=1,bytes:=24,td:=.slice 76,zero:=[.nil],eqk:=none }
theorem tf65:TyFact Tryz.prog 65 WP:=by
 refine ⟨⟨Tryz.t65,.slice none 0 0,by kernel_rfl,rfl,rfl,rfl,rfl,rfl,by simp [Value.cells,Value.oneCell']⟩,⟨_,Tryz.underlying65,rfl⟩,fun fs h=>?_,fun ks h=>?_,fun q h=>?_⟩
 ·cases h
 ·cases h
 ·cases h
def KO:TI:={ cells:=1,bytes:=24,td:=.slice 80,zero:=[.nil],eqk:=none }
theorem tf71:TyFact Tryz.prog 71 KO:=by
 refine ⟨⟨Tryz.t71,.slice none 0 0,by kernel_rfl,rfl,rfl,rfl,rfl,rfl,by simp [Value.cells,Value.oneCell']⟩,⟨_,Tryz.underlying71,rfl⟩,fun fs h=>?_,fun ks h=>?_,fun q h=>?_⟩
 ·cases h
 ·cases h
 ·cases h
theorem QcV (d:Nat) (w:World) (a0 b0:Int) (a1 b1:Int):(Op.equalIn (d+2) 76 (.agg #[.int .i64 a0,.int .i64 a1]) (.agg #[.int .i64 b0,.int .i64 b1])).run Tryz.prog w=.ok (ja [.int .i64 a0,.int .i64 a1] [.int .i64 b0,.int .i64 b1]) w:=by
 have h1:Tryz.prog.underlying 76=some (.struct (Tryz.prog.fieldsOf 76)):=by kernel_rfl
 have h2 : (Tryz.prog.fieldsOf 76).toList = [{ name := "Cabin", type := 3, offset := 0, embedded := false, tag := "", pkgPath := "", byteOffset := 0 }, { name := "Bed", type := 3, offset := 1, embedded := false, tag := "", pkgPath := "", byteOffset := 8 }] := by kernel_rfl
 rw [run_equalIn_agg w (d+1) 76 _ _ h1 (by kernel_rfl),h2]
 refine Eq.trans (b:=Result.ok (a0 == b0 && (a1 == b1 && true)) w) ?_ (congrArg (fun r=>Result.ok r w) (by simp [ja,veq]))
 exact zq (by simp) (qG (Tryz.isAgg3) rfl) (qG (Tryz.isAgg3) rfl) (run_equalIn_int w (d+0) 3 _ _ _ _ Tryz.underlying3) (zq (by simp) (qG (Tryz.isAgg3) rfl) (qG (Tryz.isAgg3) rfl) (run_equalIn_int w (d+0) 3 _ _ _ _ Tryz.underlying3) (wU))
def yY:TI:={ cells:=2,bytes:=16,td:=.struct [(0,1,3),(1,1,3)],zero:=[.v (.int .i64 0),.v (.int .i64 0)],eqk:=some [some .i64,some .i64] }
theorem tf76:TyFact Tryz.prog 76 yY:=by
 refine ⟨⟨Tryz.t76,.agg #[.int .i64 0,.int .i64 0],by kernel_rfl,rfl,rfl,rfl,rfl,rfl,by simp [Value.cells,Value.oneCell']⟩,⟨_,Tryz.underlying76,⟨_,rfl,rfl⟩⟩,fun fs h=>?_,fun ks h=>?_,fun q h=>?_⟩
 ·cases h
  simp only [ae,aV,or_false,forall_eq_or_imp,forall_eq]
  exact ⟨⟨Tryz.t3,by kernel_rfl,rfl⟩,⟨Tryz.t3,by kernel_rfl,rfl⟩⟩
 ·cases h
  refine ⟨by kernel_rfl,fun w xs ys hx hy=>?_⟩
  cases xs with
  |nil=>simp [ql] at hx
  |cons x0 xs1 =>
  cases xs1 with
  |nil=>simp [ql] at hx
  |cons x1 xs2 =>
  cases xs2 with
  |cons _ _=>simp [ql] at hx
  |nil =>
  cases ys with
  |nil=>simp [ql] at hy
  |cons y0 ys1 =>
  cases ys1 with
  |nil=>simp [ql] at hy
  |cons y1 ys2 =>
  cases ys2 with
  |cons _ _=>simp [ql] at hy
  |nil =>
  simp only [ql] at hx hy
  obtain ⟨⟨nx0,rfl⟩,⟨nx1,rfl⟩,_⟩:=hx
  obtain ⟨⟨ny0,rfl⟩,⟨ny1,rfl⟩,_⟩:=hy
  exact QcV 9998 w nx0 ny0 nx1 ny1
 ·cases h
theorem eqd80 (d:Nat) (w:World) (a0 b0:Int) (a1 b1:Int) (a2 b2:Int):(Op.equalIn (d+3) 80 (.agg #[.int .i64 a0,.int .i64 a1,.int .i64 a2]) (.agg #[.int .i64 b0,.int .i64 b1,.int .i64 b2])).run Tryz.prog w=.ok (ja [.int .i64 a0,.int .i64 a1,.int .i64 a2] [.int .i64 b0,.int .i64 b1,.int .i64 b2]) w:=by
 have h1:Tryz.prog.underlying 80=some (.struct (Tryz.prog.fieldsOf 80)):=by kernel_rfl
 have h2 : (Tryz.prog.fieldsOf 80).toList = [{ name := "Ticket", type := 3, offset := 0, embedded := false, tag := "", pkgPath := "", byteOffset := 0 }, { name := "Bunk", type := 76, offset := 1, embedded := true, tag := "", pkgPath := "", byteOffset := 8 }] := by kernel_rfl
 rw [run_equalIn_agg w (d+2) 80 _ _ h1 (by kernel_rfl),h2]
 refine Eq.trans (b:=Result.ok (a0 == b0 && (ja [.int .i64 a1,.int .i64 a2] [.int .i64 b1,.int .i64 b2] && true)) w) ?_ (congrArg (fun r=>Result.ok r w) (by simp [ja,veq]))
 exact zq (by simp) (qG (Tryz.isAgg3) rfl) (qG (Tryz.isAgg3) rfl) (run_equalIn_int w (d+1) 3 _ _ _ _ Tryz.underlying3) (zq (by simp) (zF (Tryz.isAgg76) (Tryz.sizeOf76) rfl) (zF (Tryz.isAgg76) (Tryz.sizeOf76) rfl) (QcV (d+0) w a1 b1 a2 b2) (wU))
def X7:TI:={ cells:=3,bytes:=24,td:=.struct [(0,1,3),(1,2,76)],zero:=[.v (.int .i64 0),.v (.int .i64 0),.v (.int .i64 0)],eqk:=some [some .i64,some .i64,some .i64] }
theorem tf80:TyFact Tryz.prog 80 X7:=by
 refine ⟨⟨Tryz.t80,.agg #[.int .i64 0,.int .i64 0,.int .i64 0],by kernel_rfl,rfl,rfl,rfl,rfl,rfl,by simp [Value.cells,Value.oneCell']⟩,⟨_,Tryz.underlying80,⟨_,rfl,rfl⟩⟩,fun fs h=>?_,fun ks h=>?_,fun q h=>?_⟩
 ·cases h
  simp only [ae,aV,or_false,forall_eq_or_imp,forall_eq]
  exact ⟨⟨Tryz.t3,by kernel_rfl,rfl⟩,⟨Tryz.t76,by kernel_rfl,rfl⟩⟩
 ·cases h
  refine ⟨by kernel_rfl,fun w xs ys hx hy=>?_⟩
  cases xs with
  |nil=>simp [ql] at hx
  |cons x0 xs1 =>
  cases xs1 with
  |nil=>simp [ql] at hx
  |cons x1 xs2 =>
  cases xs2 with
  |nil=>simp [ql] at hx
  |cons x2 xs3 =>
  cases xs3 with
  |cons _ _=>simp [ql] at hx
  |nil =>
  cases ys with
  |nil=>simp [ql] at hy
  |cons y0 ys1 =>
  cases ys1 with
  |nil=>simp [ql] at hy
  |cons y1 ys2 =>
  cases ys2 with
  |nil=>simp [ql] at hy
  |cons y2 ys3 =>
  cases ys3 with
  |cons _ _=>simp [ql] at hy
  |nil =>
  simp only [ql] at hx hy
  obtain ⟨⟨nx0,rfl⟩,⟨nx1,rfl⟩,⟨nx2,rfl⟩,_⟩:=hx
  obtain ⟨⟨ny0,rfl⟩,⟨ny1,rfl⟩,⟨ny2,rfl⟩,_⟩:=hy
  exact eqd80 9997 w nx0 ny0 nx1 ny1 nx2 ny2
 ·cases h
def ti81:TI:={ cells:=1,bytes:=8,td:=.func,zero:=[.v (.nilFunc)],eqk:=none }
theorem tf81:TyFact Tryz.prog 81 ti81:=by
 refine ⟨⟨Tryz.t81,.nilFunc,by kernel_rfl,rfl,rfl,rfl,rfl,rfl,by simp [Value.cells,Value.oneCell']⟩,⟨_,Tryz.underlying81,⟨_,_,_,rfl⟩⟩,fun fs h=>?_,fun ks h=>?_,fun q h=>?_⟩
 ·cases h
 ·cases h
 ·cases h
theorem eqd84 (d:Nat) (w:World) (a0 b0:Int) (a1 b1:Bool):(Op.equalIn (d+2) 84 (.agg #[.int .i64 a0,.bool a1]) (.agg #[.int .i64 b0,.bool b1])).run Tryz.prog w=.ok (ja [.int .i64 a0,.bool a1] [.int .i64 b0,.bool b1]) w:=by
 have h1:Tryz.prog.underlying 84=some (.struct (Tryz.prog.fieldsOf 84)):=by kernel_rfl
 have h2 : (Tryz.prog.fieldsOf 84).toList = [{ name := "Beds", type := 3, offset := 0, embedded := false, tag := "", pkgPath := "", byteOffset := 0 }, { name := "Door", type := 4, offset := 1, embedded := false, tag := "", pkgPath := "", byteOffset := 8 }] := by kernel_rfl
 rw [run_equalIn_agg w (d+1) 84 _ _ h1 (by kernel_rfl),h2]
 refine Eq.trans (b:=Result.ok (a0 == b0 && (a1 == b1 && true)) w) ?_ (congrArg (fun r=>Result.ok r w) (by simp [ja,veq]))
 exact zq (by simp) (qG (Tryz.isAgg3) rfl) (qG (Tryz.isAgg3) rfl) (run_equalIn_int w (d+0) 3 _ _ _ _ Tryz.underlying3) (zq (by simp) (qG (Tryz.isAgg4) rfl) (qG (Tryz.isAgg4) rfl) (run_equalIn_bool' w (d+0) 4 _ _ Tryz.underlying4) (wU))
def Z5:TI:={ cells:=2,bytes:=16,td:=.struct [(0,1,3),(1,1,4)],zero:=[.v (.int .i64 0),.v (.bool false)],eqk:=some [some .i64,none] }
theorem tf84:TyFact Tryz.prog 84 Z5:=by
 refine ⟨⟨Tryz.t84,.agg #[.int .i64 0,.bool false],by kernel_rfl,rfl,rfl,rfl,rfl,rfl,by simp [Value.cells,Value.oneCell']⟩,⟨_,Tryz.underlying84,⟨_,rfl,rfl⟩⟩,fun fs h=>?_,fun ks h=>?_,fun q h=>?_⟩
 ·cases h
  simp only [ae,aV,or_false,forall_eq_or_imp,forall_eq]
  exact ⟨⟨Tryz.t3,by kernel_rfl,rfl⟩,⟨Tryz.t4,by kernel_rfl,rfl⟩⟩
 ·cases h
  refine ⟨by kernel_rfl,fun w xs ys hx hy=>?_⟩
  cases xs with
  |nil=>simp [ql] at hx
  |cons x0 xs1 =>
  cases xs1 with
  |nil=>simp [ql] at hx
  |cons x1 xs2 =>
  cases xs2 with
  |cons _ _=>simp [ql] at hx
  |nil =>
  cases ys with
  |nil=>simp [ql] at hy
  |cons y0 ys1 =>
  cases ys1 with
  |nil=>simp [ql] at hy
  |cons y1 ys2 =>
  cases ys2 with
  |cons _ _=>simp [ql] at hy
  |nil =>
  simp only [ql] at hx hy
  obtain ⟨⟨nx0,rfl⟩,⟨nx1,rfl⟩,_⟩:=hx
  obtain ⟨⟨ny0,rfl⟩,⟨ny1,rfl⟩,_⟩:=hy
  exact eqd84 9998 w nx0 ny0 nx1 ny1
 ·cases h
theorem eqd88 (d:Nat) (w:World) (a0 b0:Int) (a1 b1:Int) (a2 b2:Int) (a3 b3:Int) (a4 b4:Int) (a5 b5:Int) (a6 b6:Bool):(Op.equalIn (d+3) 88 (.agg #[.int .i64 a0,.int .i64 a1,.int .i64 a2,.int .i64 a3,.int .i64 a4,.int .i64 a5,.bool a6]) (.agg #[.int .i64 b0,.int .i64 b1,.int .i64 b2,.int .i64 b3,.int .i64 b4,.int .i64 b5,.bool b6])).run Tryz.prog w=.ok (ja [.int .i64 a0,.int .i64 a1,.int .i64 a2,.int .i64 a3,.int .i64 a4,.int .i64 a5,.bool a6] [.int .i64 b0,.int .i64 b1,.int .i64 b2,.int .i64 b3,.int .i64 b4,.int .i64 b5,.bool b6]) w:=by
 have h1:Tryz.prog.underlying 88=some (.struct (Tryz.prog.fieldsOf 88)):=by kernel_rfl
 have h2 : (Tryz.prog.fieldsOf 88).toList = [{ name := "Party", type := 3, offset := 0, embedded := false, tag := "", pkgPath := "", byteOffset := 0 }, { name := "Sex", type := 3, offset := 1, embedded := false, tag := "", pkgPath := "", byteOffset := 8 }, { name := "Bunk", type := 76, offset := 2, embedded := true, tag := "", pkgPath := "", byteOffset := 16 }, { name := "From", type := 3, offset := 4, embedded := false, tag := "", pkgPath := "", byteOffset := 32 }, { name := "To", type := 3, offset := 5, embedded := false, tag := "", pkgPath := "", byteOffset := 40 }, { name := "Dog", type := 4, offset := 6, embedded := false, tag := "", pkgPath := "", byteOffset := 48 }] := by kernel_rfl
 rw [run_equalIn_agg w (d+2) 88 _ _ h1 (by kernel_rfl),h2]
 refine Eq.trans (b:=Result.ok (a0 == b0 && (a1 == b1 && (ja [.int .i64 a2,.int .i64 a3] [.int .i64 b2,.int .i64 b3] && (a4 == b4 && (a5 == b5 && (a6 == b6 && true)))))) w) ?_ (congrArg (fun r=>Result.ok r w) (by simp [ja,veq,Bool.and_assoc]))
 exact zq (by simp) (qG (Tryz.isAgg3) rfl) (qG (Tryz.isAgg3) rfl) (run_equalIn_int w (d+1) 3 _ _ _ _ Tryz.underlying3) (zq (by simp) (qG (Tryz.isAgg3) rfl) (qG (Tryz.isAgg3) rfl) (run_equalIn_int w (d+1) 3 _ _ _ _ Tryz.underlying3) (zq (by simp) (zF (Tryz.isAgg76) (Tryz.sizeOf76) rfl) (zF (Tryz.isAgg76) (Tryz.sizeOf76) rfl) (QcV (d+0) w a2 b2 a3 b3) (zq (by simp) (qG (Tryz.isAgg3) rfl) (qG (Tryz.isAgg3) rfl) (run_equalIn_int w (d+1) 3 _ _ _ _ Tryz.underlying3) (zq (by simp) (qG (Tryz.isAgg3) rfl) (qG (Tryz.isAgg3) rfl) (run_equalIn_int w (d+1) 3 _ _ _ _ Tryz.underlying3) (zq (by simp) (qG (Tryz.isAgg4) rfl) (qG (Tryz.isAgg4) rfl) (run_equalIn_bool' w (d+1) 4 _ _ Tryz.underlying4) (wU))))))
def jM:TI:={ cells:=7,bytes:=56,td:=.struct [(0,1,3),(1,1,3),(2,2,76),(4,1,3),(5,1,3),(6,1,4)],zero:=[.v (.int .i64 0),.v (.int .i64 0),.v (.int .i64 0),.v (.int .i64 0),.v (.int .i64 0),.v (.int .i64 0),.v (.bool false)],eqk:=some [some .i64,some .i64,some .i64,some .i64,some .i64,some .i64,none] }
theorem tf88:TyFact Tryz.prog 88 jM:=by
 refine ⟨⟨Tryz.t88,.agg #[.int .i64 0,.int .i64 0,.int .i64 0,.int .i64 0,.int .i64 0,.int .i64 0,.bool false],by kernel_rfl,rfl,rfl,rfl,rfl,rfl,by simp [Value.cells,Value.oneCell']⟩,⟨_,Tryz.underlying88,⟨_,rfl,rfl⟩⟩,fun fs h=>?_,fun ks h=>?_,fun q h=>?_⟩
 ·cases h
  simp only [ae,aV,or_false,forall_eq_or_imp,forall_eq]
  exact ⟨⟨Tryz.t3,by kernel_rfl,rfl⟩,⟨Tryz.t3,by kernel_rfl,rfl⟩,⟨Tryz.t76,by kernel_rfl,rfl⟩,⟨Tryz.t3,by kernel_rfl,rfl⟩,⟨Tryz.t3,by kernel_rfl,rfl⟩,⟨Tryz.t4,by kernel_rfl,rfl⟩⟩
 ·cases h
  refine ⟨by kernel_rfl,fun w xs ys hx hy=>?_⟩
  cases xs with
  |nil=>simp [ql] at hx
  |cons x0 xs1 =>
  cases xs1 with
  |nil=>simp [ql] at hx
  |cons x1 xs2 =>
  cases xs2 with
  |nil=>simp [ql] at hx
  |cons x2 xs3 =>
  cases xs3 with
  |nil=>simp [ql] at hx
  |cons x3 xs4 =>
  cases xs4 with
  |nil=>simp [ql] at hx
  |cons x4 xs5 =>
  cases xs5 with
  |nil=>simp [ql] at hx
  |cons x5 xs6 =>
  cases xs6 with
  |nil=>simp [ql] at hx
  |cons x6 xs7 =>
  cases xs7 with
  |cons _ _=>simp [ql] at hx
  |nil =>
  cases ys with
  |nil=>simp [ql] at hy
  |cons y0 ys1 =>
  cases ys1 with
  |nil=>simp [ql] at hy
  |cons y1 ys2 =>
  cases ys2 with
  |nil=>simp [ql] at hy
  |cons y2 ys3 =>
  cases ys3 with
  |nil=>simp [ql] at hy
  |cons y3 ys4 =>
  cases ys4 with
  |nil=>simp [ql] at hy
  |cons y4 ys5 =>
  cases ys5 with
  |nil=>simp [ql] at hy
  |cons y5 ys6 =>
  cases ys6 with
  |nil=>simp [ql] at hy
  |cons y6 ys7 =>
  cases ys7 with
  |cons _ _=>simp [ql] at hy
  |nil =>
  simp only [ql] at hx hy
  obtain ⟨⟨nx0,rfl⟩,⟨nx1,rfl⟩,⟨nx2,rfl⟩,⟨nx3,rfl⟩,⟨nx4,rfl⟩,⟨nx5,rfl⟩,⟨nx6,rfl⟩,_⟩:=hx
  obtain ⟨⟨ny0,rfl⟩,⟨ny1,rfl⟩,⟨ny2,rfl⟩,⟨ny3,rfl⟩,⟨ny4,rfl⟩,⟨ny5,rfl⟩,⟨ny6,rfl⟩,_⟩:=hy
  exact eqd88 9997 w nx0 ny0 nx1 ny1 nx2 ny2 nx3 ny3 nx4 ny4 nx5 ny5 nx6 ny6
 ·cases h
def Qdk:TI:={ cells:=1,bytes:=8,td:=.int .u64,zero:=[.v (.int .u64 0)],eqk:=none }
theorem tf90:TyFact Tryz.prog 90 Qdk:=by
 refine ⟨⟨Tryz.t90,.int .u64 0,by kernel_rfl,rfl,rfl,rfl,rfl,rfl,by simp [Value.cells,Value.oneCell']⟩,⟨_,Tryz.underlying90,rfl⟩,fun fs h=>?_,fun ks h=>?_,fun q h=>?_⟩
 ·cases h
 ·cases h
 ·cases h
def QhP:TI:={ cells:=1,bytes:=8,td:=.struct [(0,1,90)],zero:=[.v (.int .u64 0)],eqk:=none }
theorem tf92:TyFact Tryz.prog 92 QhP:=by
 refine ⟨⟨Tryz.t92,.agg #[.int .u64 0],by kernel_rfl,rfl,rfl,rfl,rfl,rfl,by simp [Value.cells,Value.oneCell']⟩,⟨_,Tryz.underlying92,⟨_,rfl,rfl⟩⟩,fun fs h=>?_,fun ks h=>?_,fun q h=>?_⟩
 ·cases h
  simp only [ae,aV,or_false,forall_eq]
  exact ⟨Tryz.t90,by kernel_rfl,rfl⟩
 ·cases h
 ·cases h
def ti93:TI:={ cells:=1,bytes:=8,td:=.int .u64,zero:=[.v (.int .u64 0)],eqk:=none }
theorem tf93:TyFact Tryz.prog 93 ti93:=by
 refine ⟨⟨Tryz.t93,.int .u64 0,by kernel_rfl,rfl,rfl,rfl,rfl,rfl,by simp [Value.cells,Value.oneCell']⟩,⟨_,Tryz.underlying93,rfl⟩,fun fs h=>?_,fun ks h=>?_,fun q h=>?_⟩
 ·cases h
 ·cases h
 ·cases h
def ti99:TI:={ cells:=1,bytes:=24,td:=.slice 5,zero:=[.nil],eqk:=none }
theorem tf99:TyFact Tryz.prog 99 ti99:=by
 refine ⟨⟨Tryz.t99,.slice none 0 0,by kernel_rfl,rfl,rfl,rfl,rfl,rfl,by simp [Value.cells,Value.oneCell']⟩,⟨_,Tryz.underlying99,rfl⟩,fun fs h=>?_,fun ks h=>?_,fun q h=>?_⟩
 ·cases h
 ·cases h
 ·cases h
def Qku:TI:={ cells:=1,bytes:=24,td:=.slice 110,zero:=[.nil],eqk:=none }
theorem tf108:TyFact Tryz.prog 108 Qku:=by
 refine ⟨⟨Tryz.t108,.slice none 0 0,by kernel_rfl,rfl,rfl,rfl,rfl,rfl,by simp [Value.cells,Value.oneCell']⟩,⟨_,Tryz.underlying108,rfl⟩,fun fs h=>?_,fun ks h=>?_,fun q h=>?_⟩
 ·cases h
 ·cases h
 ·cases h
theorem Wm (d:Nat) (w:World) (a0 b0:Int) (a1 b1:Int):(Op.equalIn (d+2) 110 (.agg #[.int .i64 a0,.int .i64 a1]) (.agg #[.int .i64 b0,.int .i64 b1])).run Tryz.prog w=.ok (ja [.int .i64 a0,.int .i64 a1] [.int .i64 b0,.int .i64 b1]) w:=by
 have h1:Tryz.prog.underlying 110=some (.struct (Tryz.prog.fieldsOf 110)):=by kernel_rfl
 have h2 : (Tryz.prog.fieldsOf 110).toList = [{ name := "Num", type := 3, offset := 0, embedded := false, tag := "", pkgPath := "", byteOffset := 0 }, { name := "Den", type := 3, offset := 1, embedded := false, tag := "", pkgPath := "", byteOffset := 8 }] := by kernel_rfl
 rw [run_equalIn_agg w (d+1) 110 _ _ h1 (by kernel_rfl),h2]
 refine Eq.trans (b:=Result.ok (a0 == b0 && (a1 == b1 && true)) w) ?_ (congrArg (fun r=>Result.ok r w) (by simp [ja,veq]))
 exact zq (by simp) (qG (Tryz.isAgg3) rfl) (qG (Tryz.isAgg3) rfl) (run_equalIn_int w (d+0) 3 _ _ _ _ Tryz.underlying3) (zq (by simp) (qG (Tryz.isAgg3) rfl) (qG (Tryz.isAgg3) rfl) (run_equalIn_int w (d+0) 3 _ _ _ _ Tryz.underlying3) (wU))
def Qkx:TI:={ cells:=2,bytes:=16,td:=.struct [(0,1,3),(1,1,3)],zero:=[.v (.int .i64 0),.v (.int .i64 0)],eqk:=some [some .i64,some .i64] }
theorem tf110:TyFact Tryz.prog 110 Qkx:=by
 refine ⟨⟨Tryz.t110,.agg #[.int .i64 0,.int .i64 0],by kernel_rfl,rfl,rfl,rfl,rfl,rfl,by simp [Value.cells,Value.oneCell']⟩,⟨_,Tryz.underlying110,⟨_,rfl,rfl⟩⟩,fun fs h=>?_,fun ks h=>?_,fun q h=>?_⟩
 ·cases h
  simp only [ae,aV,or_false,forall_eq_or_imp,forall_eq]
  exact ⟨⟨Tryz.t3,by kernel_rfl,rfl⟩,⟨Tryz.t3,by kernel_rfl,rfl⟩⟩
 ·cases h
  refine ⟨by kernel_rfl,fun w xs ys hx hy=>?_⟩
  cases xs with
  |nil=>simp [ql] at hx
  |cons x0 xs1 =>
  cases xs1 with
  |nil=>simp [ql] at hx
  |cons x1 xs2 =>
  cases xs2 with
  |cons _ _=>simp [ql] at hx
  |nil =>
  cases ys with
  |nil=>simp [ql] at hy
  |cons y0 ys1 =>
  cases ys1 with
  |nil=>simp [ql] at hy
  |cons y1 ys2 =>
  cases ys2 with
  |cons _ _=>simp [ql] at hy
  |nil =>
  simp only [ql] at hx hy
  obtain ⟨⟨nx0,rfl⟩,⟨nx1,rfl⟩,_⟩:=hx
  obtain ⟨⟨ny0,rfl⟩,⟨ny1,rfl⟩,_⟩:=hy
  exact Wm 9998 w nx0 ny0 nx1 ny1
 ·cases h
theorem QlW (d:Nat) (w:World) (a0 b0:Int) (a1 b1:Int) (a2 b2:Int) (a3 b3:Int) (a4 b4:Int) (a5 b5:Int) (a6 b6:Int) (a7 b7:Int) (a8 b8:Int) (a9 b9:Int) (a10 b10:Int) (a11 b11:Int):(Op.equalIn (d+3) 112 (.agg #[.int .i64 a0,.int .i64 a1,.int .i64 a2,.int .i64 a3,.int .i64 a4,.int .i64 a5,.int .i64 a6,.int .i64 a7,.int .i64 a8,.int .i64 a9,.int .i64 a10,.int .i64 a11]) (.agg #[.int .i64 b0,.int .i64 b1,.int .i64 b2,.int .i64 b3,.int .i64 b4,.int .i64 b5,.int .i64 b6,.int .i64 b7,.int .i64 b8,.int .i64 b9,.int .i64 b10,.int .i64 b11])).run Tryz.prog w=.ok (ja [.int .i64 a0,.int .i64 a1,.int .i64 a2,.int .i64 a3,.int .i64 a4,.int .i64 a5,.int .i64 a6,.int .i64 a7,.int .i64 a8,.int .i64 a9,.int .i64 a10,.int .i64 a11] [.int .i64 b0,.int .i64 b1,.int .i64 b2,.int .i64 b3,.int .i64 b4,.int .i64 b5,.int .i64 b6,.int .i64 b7,.int .i64 b8,.int .i64 b9,.int .i64 b10,.int .i64 b11]) w:=by
 have h1:Tryz.prog.underlying 112=some (.struct (Tryz.prog.fieldsOf 112)):=by kernel_rfl
 have h2 : (Tryz.prog.fieldsOf 112).toList = [{ name := "Taken", type := 110, offset := 0, embedded := false, tag := "", pkgPath := "", byteOffset := 0 }, { name := "Paid", type := 110, offset := 2, embedded := false, tag := "", pkgPath := "", byteOffset := 16 }, { name := "Gained", type := 110, offset := 4, embedded := false, tag := "", pkgPath := "", byteOffset := 32 }, { name := "Lost", type := 110, offset := 6, embedded := false, tag := "", pkgPath := "", byteOffset := 48 }, { name := "Found", type := 110, offset := 8, embedded := false, tag := "", pkgPath := "", byteOffset := 64 }, { name := "Worth", type := 110, offset := 10, embedded := false, tag := "", pkgPath := "", byteOffset := 80 }] := by kernel_rfl
 rw [run_equalIn_agg w (d+2) 112 _ _ h1 (by kernel_rfl),h2]
 refine Eq.trans (b:=Result.ok (ja [.int .i64 a0,.int .i64 a1] [.int .i64 b0,.int .i64 b1] && (ja [.int .i64 a2,.int .i64 a3] [.int .i64 b2,.int .i64 b3] && (ja [.int .i64 a4,.int .i64 a5] [.int .i64 b4,.int .i64 b5] && (ja [.int .i64 a6,.int .i64 a7] [.int .i64 b6,.int .i64 b7] && (ja [.int .i64 a8,.int .i64 a9] [.int .i64 b8,.int .i64 b9] && (ja [.int .i64 a10,.int .i64 a11] [.int .i64 b10,.int .i64 b11] && true)))))) w) ?_ (congrArg (fun r=>Result.ok r w) (by simp [ja,veq,Bool.and_assoc]))
 exact zq (by simp) (zF (Tryz.isAgg110) (Tryz.sizeOf110) rfl) (zF (Tryz.isAgg110) (Tryz.sizeOf110) rfl) (Wm (d+0) w a0 b0 a1 b1) (zq (by simp) (zF (Tryz.isAgg110) (Tryz.sizeOf110) rfl) (zF (Tryz.isAgg110) (Tryz.sizeOf110) rfl) (Wm (d+0) w a2 b2 a3 b3) (zq (by simp) (zF (Tryz.isAgg110) (Tryz.sizeOf110) rfl) (zF (Tryz.isAgg110) (Tryz.sizeOf110) rfl) (Wm (d+0) w a4 b4 a5 b5) (zq (by simp) (zF (Tryz.isAgg110) (Tryz.sizeOf110) rfl) (zF (Tryz.isAgg110) (Tryz.sizeOf110) rfl) (Wm (d+0) w a6 b6 a7 b7) (zq (by simp) (zF (Tryz.isAgg110) (Tryz.sizeOf110) rfl) (zF (Tryz.isAgg110) (Tryz.sizeOf110) rfl) (Wm (d+0) w a8 b8 a9 b9) (zq (by simp) (zF (Tryz.isAgg110) (Tryz.sizeOf110) rfl) (zF (Tryz.isAgg110) (Tryz.sizeOf110) rfl) (Wm (d+0) w a10 b10 a11 b11) (wU))))))
def Qki:TI:={ cells:=12,bytes:=96,td:=.struct [(0,2,110),(2,2,110),(4,2,110),(6,2,110),(8,2,110),(10,2,110)],zero:=[.v (.int .i64 0),.v (.int .i64 0),.v (.int .i64 0),.v (.int .i64 0),.v (.int .i64 0),.v (.int .i64 0),.v (.int .i64 0),.v (.int .i64 0),.v (.int .i64 0),.v (.int .i64 0),.v (.int .i64 0),.v (.int .i64 0)],eqk:=some [some .i64,some .i64,some .i64,some .i64,some .i64,some .i64,some .i64,some .i64,some .i64,some .i64,some .i64,some .i64] }
theorem tf112:TyFact Tryz.prog 112 Qki:=by
 refine ⟨⟨Tryz.t112,.agg #[.int .i64 0,.int .i64 0,.int .i64 0,.int .i64 0,.int .i64 0,.int .i64 0,.int .i64 0,.int .i64 0,.int .i64 0,.int .i64 0,.int .i64 0,.int .i64 0],by kernel_rfl,rfl,rfl,rfl,rfl,rfl,by simp [Value.cells,Value.oneCell']⟩,⟨_,Tryz.underlying112,⟨_,rfl,rfl⟩⟩,fun fs h=>?_,fun ks h=>?_,fun q h=>?_⟩
 ·cases h
  simp only [ae,aV,or_false,forall_eq_or_imp,forall_eq]
  exact ⟨⟨Tryz.t110,by kernel_rfl,rfl⟩,⟨Tryz.t110,by kernel_rfl,rfl⟩,⟨Tryz.t110,by kernel_rfl,rfl⟩,⟨Tryz.t110,by kernel_rfl,rfl⟩,⟨Tryz.t110,by kernel_rfl,rfl⟩,⟨Tryz.t110,by kernel_rfl,rfl⟩⟩
 ·cases h
  refine ⟨by kernel_rfl,fun w xs ys hx hy=>?_⟩
  cases xs with
  |nil=>simp [ql] at hx
  |cons x0 xs1 =>
  cases xs1 with
  |nil=>simp [ql] at hx
  |cons x1 xs2 =>
  cases xs2 with
  |nil=>simp [ql] at hx
  |cons x2 xs3 =>
  cases xs3 with
  |nil=>simp [ql] at hx
  |cons x3 xs4 =>
  cases xs4 with
  |nil=>simp [ql] at hx
  |cons x4 xs5 =>
  cases xs5 with
  |nil=>simp [ql] at hx
  |cons x5 xs6 =>
  cases xs6 with
  |nil=>simp [ql] at hx
  |cons x6 xs7 =>
  cases xs7 with
  |nil=>simp [ql] at hx
  |cons x7 xs8 =>
  cases xs8 with
  |nil=>simp [ql] at hx
  |cons x8 xs9 =>
  cases xs9 with
  |nil=>simp [ql] at hx
  |cons x9 xs10 =>
  cases xs10 with
  |nil=>simp [ql] at hx
  |cons x10 xs11 =>
  cases xs11 with
  |nil=>simp [ql] at hx
  |cons x11 xs12 =>
  cases xs12 with
  |cons _ _=>simp [ql] at hx
  |nil =>
  cases ys with
  |nil=>simp [ql] at hy
  |cons y0 ys1 =>
  cases ys1 with
  |nil=>simp [ql] at hy
  |cons y1 ys2 =>
  cases ys2 with
  |nil=>simp [ql] at hy
  |cons y2 ys3 =>
  cases ys3 with
  |nil=>simp [ql] at hy
  |cons y3 ys4 =>
  cases ys4 with
  |nil=>simp [ql] at hy
  |cons y4 ys5 =>
  cases ys5 with
  |nil=>simp [ql] at hy
  |cons y5 ys6 =>
  cases ys6 with
  |nil=>simp [ql] at hy
  |cons y6 ys7 =>
  cases ys7 with
  |nil=>simp [ql] at hy
  |cons y7 ys8 =>
  cases ys8 with
  |nil=>simp [ql] at hy
  |cons y8 ys9 =>
  cases ys9 with
  |nil=>simp [ql] at hy
  |cons y9 ys10 =>
  cases ys10 with
  |nil=>simp [ql] at hy
  |cons y10 ys11 =>
  cases ys11 with
  |nil=>simp [ql] at hy
  |cons y11 ys12 =>
  cases ys12 with
  |cons _ _=>simp [ql] at hy
  |nil =>
  simp only [ql] at hx hy
  obtain ⟨⟨nx0,rfl⟩,⟨nx1,rfl⟩,⟨nx2,rfl⟩,⟨nx3,rfl⟩,⟨nx4,rfl⟩,⟨nx5,rfl⟩,⟨nx6,rfl⟩,⟨nx7,rfl⟩,⟨nx8,rfl⟩,⟨nx9,rfl⟩,⟨nx10,rfl⟩,⟨nx11,rfl⟩,_⟩:=hx
  obtain ⟨⟨ny0,rfl⟩,⟨ny1,rfl⟩,⟨ny2,rfl⟩,⟨ny3,rfl⟩,⟨ny4,rfl⟩,⟨ny5,rfl⟩,⟨ny6,rfl⟩,⟨ny7,rfl⟩,⟨ny8,rfl⟩,⟨ny9,rfl⟩,⟨ny10,rfl⟩,⟨ny11,rfl⟩,_⟩:=hy
  exact QlW 9997 w nx0 ny0 nx1 ny1 nx2 ny2 nx3 ny3 nx4 ny4 nx5 ny5 nx6 ny6 nx7 ny7 nx8 ny8 nx9 ny9 nx10 ny10 nx11 ny11
 ·cases h
theorem Qlr (d:Nat) (w:World) (a0 b0:Int) (a1 b1:Int) (a2 b2:Int) (a3 b3:Int) (a4 b4:Int) (a5 b5:Int):(Op.equalIn (d+2) 129 (.agg #[.int .i64 a0,.int .i64 a1,.int .i64 a2,.int .i64 a3,.int .i64 a4,.int .i64 a5]) (.agg #[.int .i64 b0,.int .i64 b1,.int .i64 b2,.int .i64 b3,.int .i64 b4,.int .i64 b5])).run Tryz.prog w=.ok (ja [.int .i64 a0,.int .i64 a1,.int .i64 a2,.int .i64 a3,.int .i64 a4,.int .i64 a5] [.int .i64 b0,.int .i64 b1,.int .i64 b2,.int .i64 b3,.int .i64 b4,.int .i64 b5]) w:=by
 have h1:Tryz.prog.underlying 129=some (.struct (Tryz.prog.fieldsOf 129)):=by kernel_rfl
 have h2 : (Tryz.prog.fieldsOf 129).toList = [{ name := "Day", type := 3, offset := 0, embedded := false, tag := "", pkgPath := "", byteOffset := 0 }, { name := "Kind", type := 3, offset := 1, embedded := false, tag := "", pkgPath := "", byteOffset := 8 }, { name := "Coin", type := 3, offset := 2, embedded := false, tag := "", pkgPath := "", byteOffset := 16 }, { name := "To", type := 3, offset := 3, embedded := false, tag := "", pkgPath := "", byteOffset := 24 }, { name := "Amount", type := 3, offset := 4, embedded := false, tag := "", pkgPath := "", byteOffset := 32 }, { name := "Got", type := 3, offset := 5, embedded := false, tag := "", pkgPath := "", byteOffset := 40 }] := by kernel_rfl
 rw [run_equalIn_agg w (d+1) 129 _ _ h1 (by kernel_rfl),h2]
 refine Eq.trans (b:=Result.ok (a0 == b0 && (a1 == b1 && (a2 == b2 && (a3 == b3 && (a4 == b4 && (a5 == b5 && true)))))) w) ?_ (congrArg (fun r=>Result.ok r w) (by simp [ja,veq]))
 exact zq (by simp) (qG (Tryz.isAgg3) rfl) (qG (Tryz.isAgg3) rfl) (run_equalIn_int w (d+0) 3 _ _ _ _ Tryz.underlying3) (zq (by simp) (qG (Tryz.isAgg3) rfl) (qG (Tryz.isAgg3) rfl) (run_equalIn_int w (d+0) 3 _ _ _ _ Tryz.underlying3) (zq (by simp) (qG (Tryz.isAgg3) rfl) (qG (Tryz.isAgg3) rfl) (run_equalIn_int w (d+0) 3 _ _ _ _ Tryz.underlying3) (zq (by simp) (qG (Tryz.isAgg3) rfl) (qG (Tryz.isAgg3) rfl) (run_equalIn_int w (d+0) 3 _ _ _ _ Tryz.underlying3) (zq (by simp) (qG (Tryz.isAgg3) rfl) (qG (Tryz.isAgg3) rfl) (run_equalIn_int w (d+0) 3 _ _ _ _ Tryz.underlying3) (zq (by simp) (qG (Tryz.isAgg3) rfl) (qG (Tryz.isAgg3) rfl) (run_equalIn_int w (d+0) 3 _ _ _ _ Tryz.underlying3) (wU))))))
def Qkj:TI:={ cells:=6,bytes:=48,td:=.struct [(0,1,3),(1,1,3),(2,1,3),(3,1,3),(4,1,3),(5,1,3)],zero:=[.v (.int .i64 0),.v (.int .i64 0),.v (.int .i64 0),.v (.int .i64 0),.v (.int .i64 0),.v (.int .i64 0)],eqk:=some [some .i64,some .i64,some .i64,some .i64,some .i64,some .i64] }
theorem tf129:TyFact Tryz.prog 129 Qkj:=by
 refine ⟨⟨Tryz.t129,.agg #[.int .i64 0,.int .i64 0,.int .i64 0,.int .i64 0,.int .i64 0,.int .i64 0],by kernel_rfl,rfl,rfl,rfl,rfl,rfl,by simp [Value.cells,Value.oneCell']⟩,⟨_,Tryz.underlying129,⟨_,rfl,rfl⟩⟩,fun fs h=>?_,fun ks h=>?_,fun q h=>?_⟩
 ·cases h
  simp only [ae,aV,or_false,forall_eq_or_imp,forall_eq]
  exact ⟨⟨Tryz.t3,by kernel_rfl,rfl⟩,⟨Tryz.t3,by kernel_rfl,rfl⟩,⟨Tryz.t3,by kernel_rfl,rfl⟩,⟨Tryz.t3,by kernel_rfl,rfl⟩,⟨Tryz.t3,by kernel_rfl,rfl⟩,⟨Tryz.t3,by kernel_rfl,rfl⟩⟩
 ·cases h
  refine ⟨by kernel_rfl,fun w xs ys hx hy=>?_⟩
  cases xs with
  |nil=>simp [ql] at hx
  |cons x0 xs1 =>
  cases xs1 with
  |nil=>simp [ql] at hx
  |cons x1 xs2 =>
  cases xs2 with
  |nil=>simp [ql] at hx
  |cons x2 xs3 =>
  cases xs3 with
  |nil=>simp [ql] at hx
  |cons x3 xs4 =>
  cases xs4 with
  |nil=>simp [ql] at hx
  |cons x4 xs5 =>
  cases xs5 with
  |nil=>simp [ql] at hx
  |cons x5 xs6 =>
  cases xs6 with
  |cons _ _=>simp [ql] at hx
  |nil =>
  cases ys with
  |nil=>simp [ql] at hy
  |cons y0 ys1 =>
  cases ys1 with
  |nil=>simp [ql] at hy
  |cons y1 ys2 =>
  cases ys2 with
  |nil=>simp [ql] at hy
  |cons y2 ys3 =>
  cases ys3 with
  |nil=>simp [ql] at hy
  |cons y3 ys4 =>
  cases ys4 with
  |nil=>simp [ql] at hy
  |cons y4 ys5 =>
  cases ys5 with
  |nil=>simp [ql] at hy
  |cons y5 ys6 =>
  cases ys6 with
  |cons _ _=>simp [ql] at hy
  |nil =>
  simp only [ql] at hx hy
  obtain ⟨⟨nx0,rfl⟩,⟨nx1,rfl⟩,⟨nx2,rfl⟩,⟨nx3,rfl⟩,⟨nx4,rfl⟩,⟨nx5,rfl⟩,_⟩:=hx
  obtain ⟨⟨ny0,rfl⟩,⟨ny1,rfl⟩,⟨ny2,rfl⟩,⟨ny3,rfl⟩,⟨ny4,rfl⟩,⟨ny5,rfl⟩,_⟩:=hy
  exact Qlr 9998 w nx0 ny0 nx1 ny1 nx2 ny2 nx3 ny3 nx4 ny4 nx5 ny5
 ·cases h
def Qj6:TI:={ cells:=1,bytes:=8,td:=.ptr,zero:=[.v (.pointer none)],eqk:=none }
theorem tf137:TyFact Tryz.prog 137 Qj6:=by
 refine ⟨⟨Tryz.t137,.pointer none,by kernel_rfl,rfl,rfl,rfl,rfl,rfl,by simp [Value.cells,Value.oneCell']⟩,⟨_,Tryz.underlying137,⟨_,rfl⟩⟩,fun fs h=>?_,fun ks h=>?_,fun q h=>?_⟩
 ·cases h
 ·cases h
 ·cases h
def xh:TI:={ cells:=1,bytes:=8,td:=.ptr,zero:=[.v (.pointer none)],eqk:=none }
theorem tf141:TyFact Tryz.prog 141 xh:=by
 refine ⟨⟨Tryz.t141,.pointer none,by kernel_rfl,rfl,rfl,rfl,rfl,rfl,by simp [Value.cells,Value.oneCell']⟩,⟨_,Tryz.underlying141,⟨_,rfl⟩⟩,fun fs h=>?_,fun ks h=>?_,fun q h=>?_⟩
 ·cases h
 ·cases h
 ·cases h
def Qkl:TI:={ cells:=1,bytes:=8,td:=.func,zero:=[.v (.nilFunc)],eqk:=none }
theorem tf146:TyFact Tryz.prog 146 Qkl:=by
 refine ⟨⟨Tryz.t146,.nilFunc,by kernel_rfl,rfl,rfl,rfl,rfl,rfl,by simp [Value.cells,Value.oneCell']⟩,⟨_,Tryz.underlying146,⟨_,_,_,rfl⟩⟩,fun fs h=>?_,fun ks h=>?_,fun q h=>?_⟩
 ·cases h
 ·cases h
 ·cases h
def Qb6:TI:={ cells:=1,bytes:=8,td:=.func,zero:=[.v (.nilFunc)],eqk:=none }
theorem tf150:TyFact Tryz.prog 150 Qb6:=by
 refine ⟨⟨Tryz.t150,.nilFunc,by kernel_rfl,rfl,rfl,rfl,rfl,rfl,by simp [Value.cells,Value.oneCell']⟩,⟨_,Tryz.underlying150,⟨_,_,_,rfl⟩⟩,fun fs h=>?_,fun ks h=>?_,fun q h=>?_⟩
 ·cases h
 ·cases h
 ·cases h
def Qb:TI:={ cells:=3,bytes:=56,td:=.struct [(0,3,25)],zero:=[.nil,.v (.int .i64 0),.nil],eqk:=none }
theorem tf152:TyFact Tryz.prog 152 Qb:=by
 refine ⟨⟨Tryz.t152,.agg #[.slice none 0 0,.int .i64 0,.slice none 0 0],by kernel_rfl,rfl,rfl,rfl,rfl,rfl,by simp [Value.cells,Value.oneCell']⟩,⟨_,Tryz.underlying152,⟨_,rfl,rfl⟩⟩,fun fs h=>?_,fun ks h=>?_,fun q h=>?_⟩
 ·cases h
  simp only [ae,aV,or_false,forall_eq]
  exact ⟨Tryz.t25,by kernel_rfl,rfl⟩
 ·cases h
 ·cases h
def Qct:TI:={ cells:=1,bytes:=8,td:=.func,zero:=[.v (.nilFunc)],eqk:=none }
theorem tf153:TyFact Tryz.prog 153 Qct:=by
 refine ⟨⟨Tryz.t153,.nilFunc,by kernel_rfl,rfl,rfl,rfl,rfl,rfl,by simp [Value.cells,Value.oneCell']⟩,⟨_,Tryz.underlying153,⟨_,_,_,rfl⟩⟩,fun fs h=>?_,fun ks h=>?_,fun q h=>?_⟩
 ·cases h
 ·cases h
 ·cases h
def Qab:TI:={ cells:=2,bytes:=32,td:=.struct [(0,1,65),(1,1,153)],zero:=[.nil,.v (.nilFunc)],eqk:=none }
theorem tf155:TyFact Tryz.prog 155 Qab:=by
 refine ⟨⟨Tryz.t155,.agg #[.slice none 0 0,.nilFunc],by kernel_rfl,rfl,rfl,rfl,rfl,rfl,by simp [Value.cells,Value.oneCell']⟩,⟨_,Tryz.underlying155,⟨_,rfl,rfl⟩⟩,fun fs h=>?_,fun ks h=>?_,fun q h=>?_⟩
 ·cases h
  simp only [ae,aV,or_false,forall_eq_or_imp,forall_eq]
  exact ⟨⟨Tryz.t65,by kernel_rfl,rfl⟩,⟨Tryz.t153,by kernel_rfl,rfl⟩⟩
 ·cases h
 ·cases h
theorem QkV (d:Nat) (w:World) (a0 b0:Int) (a1 b1:Int) (a2 b2:Int):(Op.equalIn (d+3) 159 (.agg #[.int .i64 a0,.int .i64 a1,.int .i64 a2]) (.agg #[.int .i64 b0,.int .i64 b1,.int .i64 b2])).run Tryz.prog w=.ok (ja [.int .i64 a0,.int .i64 a1,.int .i64 a2] [.int .i64 b0,.int .i64 b1,.int .i64 b2]) w:=by
 have h1:Tryz.prog.underlying 159=some (.struct (Tryz.prog.fieldsOf 159)):=by kernel_rfl
 have h2 : (Tryz.prog.fieldsOf 159).toList = [{ name := "at", type := 3, offset := 0, embedded := false, tag := "", pkgPath := "couchette/berth", byteOffset := 0 }, { name := "bunk", type := 76, offset := 1, embedded := false, tag := "", pkgPath := "couchette/berth", byteOffset := 8 }] := by kernel_rfl
 rw [run_equalIn_agg w (d+2) 159 _ _ h1 (by kernel_rfl),h2]
 refine Eq.trans (b:=Result.ok (a0 == b0 && (ja [.int .i64 a1,.int .i64 a2] [.int .i64 b1,.int .i64 b2] && true)) w) ?_ (congrArg (fun r=>Result.ok r w) (by simp [ja,veq]))
 exact zq (by simp) (qG (Tryz.isAgg3) rfl) (qG (Tryz.isAgg3) rfl) (run_equalIn_int w (d+1) 3 _ _ _ _ Tryz.underlying3) (zq (by simp) (zF (Tryz.isAgg76) (Tryz.sizeOf76) rfl) (zF (Tryz.isAgg76) (Tryz.sizeOf76) rfl) (QcV (d+0) w a1 b1 a2 b2) (wU))
theorem QkI (w:World) (em:Bool) (a0:Int) (a1:Int) (a2:Int):(Instr.checkKey em 10000 159 (.agg #[.int .i64 a0,.int .i64 a1,.int .i64 a2])).run Tryz.prog w=.ok () w:=by kernel_rfl
def U0:TI:={ cells:=1,bytes:=8,td:=.map 159 3,zero:=[.v (.map none)],eqk:=none,key:=some { kd:=.agg [some .i64,some .i64,some .i64],z:=.v (.int .i64 0),agg:=false } }
theorem tf157:TyFact Tryz.prog 157 U0:=by
 refine ⟨⟨Tryz.t157,.map none,by kernel_rfl,rfl,rfl,rfl,rfl,rfl,by simp [Value.cells,Value.oneCell']⟩,⟨_,Tryz.underlying157,rfl⟩,fun fs h=>?_,fun ks h=>?_,fun q h=>?_⟩
 ·cases h
 ·cases h
 ·cases h
  refine ⟨159,3,rfl,QgG Tryz.underlying159 (fun w xs ys hx hy=>?_) (fun w em xs hx=>?_),fun w=>⟨.int .i64 0,by simp [zeroValue,typeInfo,show Tryz.prog.info? 3=some Tryz.t3 by kernel_rfl,Tryz.t3],fun w' ok ρ y=>?_⟩⟩
  ·skip
   cases xs with
   |nil=>simp [ql] at hx
   |cons x0 xs1 =>
   cases xs1 with
   |nil=>simp [ql] at hx
   |cons x1 xs2 =>
   cases xs2 with
   |nil=>simp [ql] at hx
   |cons x2 xs3 =>
   cases xs3 with
   |cons _ _=>simp [ql] at hx
   |nil =>
   cases ys with
   |nil=>simp [ql] at hy
   |cons y0 ys1 =>
   cases ys1 with
   |nil=>simp [ql] at hy
   |cons y1 ys2 =>
   cases ys2 with
   |nil=>simp [ql] at hy
   |cons y2 ys3 =>
   cases ys3 with
   |cons _ _=>simp [ql] at hy
   |nil =>
   simp only [ql] at hx
   obtain ⟨⟨nx0,rfl⟩,⟨nx1,rfl⟩,⟨nx2,rfl⟩,_⟩:=hx
   simp only [ql] at hy
   obtain ⟨⟨ny0,rfl⟩,⟨ny1,rfl⟩,⟨ny2,rfl⟩,_⟩:=hy
   exact QkV 9997 w nx0 ny0 nx1 ny1 nx2 ny2
  ·skip
   cases xs with
   |nil=>simp [ql] at hx
   |cons x0 xs1 =>
   cases xs1 with
   |nil=>simp [ql] at hx
   |cons x1 xs2 =>
   cases xs2 with
   |nil=>simp [ql] at hx
   |cons x2 xs3 =>
   cases xs3 with
   |cons _ _=>simp [ql] at hx
   |nil =>
   simp only [ql] at hx
   obtain ⟨⟨nx0,rfl⟩,⟨nx1,rfl⟩,⟨nx2,rfl⟩,_⟩:=hx
   exact QkI w em nx0 nx1 nx2
  ·exact .v rfl
def UJ:TI:={ cells:=3,bytes:=24,td:=.struct [(0,1,3),(1,2,76)],zero:=[.v (.int .i64 0),.v (.int .i64 0),.v (.int .i64 0)],eqk:=none }
theorem tf159:TyFact Tryz.prog 159 UJ:=by
 refine ⟨⟨Tryz.t159,.agg #[.int .i64 0,.int .i64 0,.int .i64 0],by kernel_rfl,rfl,rfl,rfl,rfl,rfl,by simp [Value.cells,Value.oneCell']⟩,⟨_,Tryz.underlying159,⟨_,rfl,rfl⟩⟩,fun fs h=>?_,fun ks h=>?_,fun q h=>?_⟩
 ·cases h
  simp only [ae,aV,or_false,forall_eq_or_imp,forall_eq]
  exact ⟨⟨Tryz.t3,by kernel_rfl,rfl⟩,⟨Tryz.t76,by kernel_rfl,rfl⟩⟩
 ·cases h
 ·cases h
def QcE:TI:={ cells:=1,bytes:=8,td:=.func,zero:=[.v (.nilFunc)],eqk:=none }
theorem tf167:TyFact Tryz.prog 167 QcE:=by
 refine ⟨⟨Tryz.t167,.nilFunc,by kernel_rfl,rfl,rfl,rfl,rfl,rfl,by simp [Value.cells,Value.oneCell']⟩,⟨_,Tryz.underlying167,⟨_,_,_,rfl⟩⟩,fun fs h=>?_,fun ks h=>?_,fun q h=>?_⟩
 ·cases h
 ·cases h
 ·cases h
def QjM:TI:={ cells:=1,bytes:=8,td:=.ptr,zero:=[.v (.pointer none)],eqk:=none }
theorem tf170:TyFact Tryz.prog 170 QjM:=by
 refine ⟨⟨Tryz.t170,.pointer none,by kernel_rfl,rfl,rfl,rfl,rfl,rfl,by simp [Value.cells,Value.oneCell']⟩,⟨_,Tryz.underlying170,⟨_,rfl⟩⟩,fun fs h=>?_,fun ks h=>?_,fun q h=>?_⟩
 ·cases h
 ·cases h
 ·cases h
def Qj8:TI:={ cells:=2,bytes:=32,td:=.struct [(0,1,170),(1,1,99)],zero:=[.v (.pointer none),.nil],eqk:=none }
theorem tf172:TyFact Tryz.prog 172 Qj8:=by
 refine ⟨⟨Tryz.t172,.agg #[.pointer none,.slice none 0 0],by kernel_rfl,rfl,rfl,rfl,rfl,rfl,by simp [Value.cells,Value.oneCell']⟩,⟨_,Tryz.underlying172,⟨_,rfl,rfl⟩⟩,fun fs h=>?_,fun ks h=>?_,fun q h=>?_⟩
 ·cases h
  simp only [ae,aV,or_false,forall_eq_or_imp,forall_eq]
  exact ⟨⟨Tryz.t170,by kernel_rfl,rfl⟩,⟨Tryz.t99,by kernel_rfl,rfl⟩⟩
 ·cases h
 ·cases h
def QjQ:TI:={ cells:=1,bytes:=16,td:=.iface,zero:=[.v (.nilIface)],eqk:=none }
theorem tf175:TyFact Tryz.prog 175 QjQ:=by
 refine ⟨⟨Tryz.t175,.nilIface,by kernel_rfl,rfl,rfl,rfl,rfl,rfl,by simp [Value.cells,Value.oneCell']⟩,⟨_,Tryz.underlying175,⟨_,rfl⟩⟩,fun fs h=>?_,fun ks h=>?_,fun q h=>?_⟩
 ·cases h
 ·cases h
 ·cases h
def Yi:TI:={ cells:=0,bytes:=0,td:=.struct [],zero:=[],eqk:=none }
theorem tf182:TyFact Tryz.prog 182 Yi:=by
 refine ⟨⟨Tryz.t182,.agg #[],by kernel_rfl,rfl,rfl,rfl,rfl,rfl,by simp [Value.cells,Value.oneCell']⟩,⟨_,Tryz.underlying182,⟨_,rfl,rfl⟩⟩,fun fs h=>?_,fun ks h=>?_,fun q h=>?_⟩
 ·cases h
  simp only [aV]
  exact fun _ h=>(h:False).elim
 ·cases h
 ·cases h
def QjX:TI:={ cells:=1,bytes:=8,td:=.ptr,zero:=[.v (.pointer none)],eqk:=none }
theorem tf185:TyFact Tryz.prog 185 QjX:=by
 refine ⟨⟨Tryz.t185,.pointer none,by kernel_rfl,rfl,rfl,rfl,rfl,rfl,by simp [Value.cells,Value.oneCell']⟩,⟨_,Tryz.underlying185,⟨_,rfl⟩⟩,fun fs h=>?_,fun ks h=>?_,fun q h=>?_⟩
 ·cases h
 ·cases h
 ·cases h
def QjL:TI:={ cells:=1,bytes:=8,td:=.ptr,zero:=[.v (.pointer none)],eqk:=none }
theorem tf188:TyFact Tryz.prog 188 QjL:=by
 refine ⟨⟨Tryz.t188,.pointer none,by kernel_rfl,rfl,rfl,rfl,rfl,rfl,by simp [Value.cells,Value.oneCell']⟩,⟨_,Tryz.underlying188,⟨_,rfl⟩⟩,fun fs h=>?_,fun ks h=>?_,fun q h=>?_⟩
 ·cases h
 ·cases h
 ·cases h
def Qj7:TI:={ cells:=1,bytes:=24,td:=.slice 191,zero:=[.nil],eqk:=none }
theorem tf190:TyFact Tryz.prog 190 Qj7:=by
 refine ⟨⟨Tryz.t190,.slice none 0 0,by kernel_rfl,rfl,rfl,rfl,rfl,rfl,by simp [Value.cells,Value.oneCell']⟩,⟨_,Tryz.underlying190,rfl⟩,fun fs h=>?_,fun ks h=>?_,fun q h=>?_⟩
 ·cases h
 ·cases h
 ·cases h
theorem Qlx (d:Nat) (w:World) (a0 b0:Int) (a1 b1:Int):(Op.equalIn (d+2) 191 (.agg #[.int .i64 a0,.int .i64 a1]) (.agg #[.int .i64 b0,.int .i64 b1])).run Tryz.prog w=.ok (ja [.int .i64 a0,.int .i64 a1] [.int .i64 b0,.int .i64 b1]) w:=by
 have h1:Tryz.prog.underlying 191=some (.struct (Tryz.prog.fieldsOf 191)):=by kernel_rfl
 have h2 : (Tryz.prog.fieldsOf 191).toList = [{ name := "Num", type := 3, offset := 0, embedded := false, tag := "", pkgPath := "", byteOffset := 0 }, { name := "Den", type := 3, offset := 1, embedded := false, tag := "", pkgPath := "", byteOffset := 8 }] := by kernel_rfl
 rw [run_equalIn_agg w (d+1) 191 _ _ h1 (by kernel_rfl),h2]
 refine Eq.trans (b:=Result.ok (a0 == b0 && (a1 == b1 && true)) w) ?_ (congrArg (fun r=>Result.ok r w) (by simp [ja,veq]))
 exact zq (by simp) (qG (Tryz.isAgg3) rfl) (qG (Tryz.isAgg3) rfl) (run_equalIn_int w (d+0) 3 _ _ _ _ Tryz.underlying3) (zq (by simp) (qG (Tryz.isAgg3) rfl) (qG (Tryz.isAgg3) rfl) (run_equalIn_int w (d+0) 3 _ _ _ _ Tryz.underlying3) (wU))
def Qkr:TI:={ cells:=2,bytes:=16,td:=.struct [(0,1,3),(1,1,3)],zero:=[.v (.int .i64 0),.v (.int .i64 0)],eqk:=some [some .i64,some .i64] }
theorem tf191:TyFact Tryz.prog 191 Qkr:=by
 refine ⟨⟨Tryz.t191,.agg #[.int .i64 0,.int .i64 0],by kernel_rfl,rfl,rfl,rfl,rfl,rfl,by simp [Value.cells,Value.oneCell']⟩,⟨_,Tryz.underlying191,⟨_,rfl,rfl⟩⟩,fun fs h=>?_,fun ks h=>?_,fun q h=>?_⟩
 ·cases h
  simp only [ae,aV,or_false,forall_eq_or_imp,forall_eq]
  exact ⟨⟨Tryz.t3,by kernel_rfl,rfl⟩,⟨Tryz.t3,by kernel_rfl,rfl⟩⟩
 ·cases h
  refine ⟨by kernel_rfl,fun w xs ys hx hy=>?_⟩
  cases xs with
  |nil=>simp [ql] at hx
  |cons x0 xs1 =>
  cases xs1 with
  |nil=>simp [ql] at hx
  |cons x1 xs2 =>
  cases xs2 with
  |cons _ _=>simp [ql] at hx
  |nil =>
  cases ys with
  |nil=>simp [ql] at hy
  |cons y0 ys1 =>
  cases ys1 with
  |nil=>simp [ql] at hy
  |cons y1 ys2 =>
  cases ys2 with
  |cons _ _=>simp [ql] at hy
  |nil =>
  simp only [ql] at hx hy
  obtain ⟨⟨nx0,rfl⟩,⟨nx1,rfl⟩,_⟩:=hx
  obtain ⟨⟨ny0,rfl⟩,⟨ny1,rfl⟩,_⟩:=hy
  exact Qlx 9998 w nx0 ny0 nx1 ny1
 ·cases h
def Qkk:TI:={ cells:=5,bytes:=120,td:=.struct [(0,4,47),(4,1,26)],zero:=[.nil,.nil,.nil,.nil,.nil],eqk:=none }
theorem tf196:TyFact Tryz.prog 196 Qkk:=by
 refine ⟨⟨Tryz.t196,.agg #[.slice none 0 0,.slice none 0 0,.slice none 0 0,.slice none 0 0,.slice none 0 0],by kernel_rfl,rfl,rfl,rfl,rfl,rfl,by simp [Value.cells,Value.oneCell']⟩,⟨_,Tryz.underlying196,⟨_,rfl,rfl⟩⟩,fun fs h=>?_,fun ks h=>?_,fun q h=>?_⟩
 ·cases h
  simp only [ae,aV,or_false,forall_eq_or_imp,forall_eq]
  exact ⟨⟨Tryz.t47,by kernel_rfl,rfl⟩,⟨Tryz.t26,by kernel_rfl,rfl⟩⟩
 ·cases h
 ·cases h
def QjO:TI:={ cells:=1,bytes:=8,td:=.func,zero:=[.v (.nilFunc)],eqk:=none }
theorem tf206:TyFact Tryz.prog 206 QjO:=by
 refine ⟨⟨Tryz.t206,.nilFunc,by kernel_rfl,rfl,rfl,rfl,rfl,rfl,by simp [Value.cells,Value.oneCell']⟩,⟨_,Tryz.underlying206,⟨_,_,_,rfl⟩⟩,fun fs h=>?_,fun ks h=>?_,fun q h=>?_⟩
 ·cases h
 ·cases h
 ·cases h
def Qkw:TI:={ cells:=1,bytes:=8,td:=.func,zero:=[.v (.nilFunc)],eqk:=none }
theorem tf207:TyFact Tryz.prog 207 Qkw:=by
 refine ⟨⟨Tryz.t207,.nilFunc,by kernel_rfl,rfl,rfl,rfl,rfl,rfl,by simp [Value.cells,Value.oneCell']⟩,⟨_,Tryz.underlying207,⟨_,_,_,rfl⟩⟩,fun fs h=>?_,fun ks h=>?_,fun q h=>?_⟩
 ·cases h
 ·cases h
 ·cases h
def Qks:TI:={ cells:=0,bytes:=0,td:=.struct [],zero:=[],eqk:=none }
theorem tf217:TyFact Tryz.prog 217 Qks:=by
 refine ⟨⟨Tryz.t217,.agg #[],by kernel_rfl,rfl,rfl,rfl,rfl,rfl,by simp [Value.cells,Value.oneCell']⟩,⟨_,Tryz.underlying217,⟨_,rfl,rfl⟩⟩,fun fs h=>?_,fun ks h=>?_,fun q h=>?_⟩
 ·cases h
  simp only [aV]
  exact fun _ h=>(h:False).elim
 ·cases h
 ·cases h
def Xm:TI:={ cells:=1,bytes:=8,td:=.int .u64,zero:=[.v (.int .u64 0)],eqk:=none }
theorem tf224:TyFact Tryz.prog 224 Xm:=by
 refine ⟨⟨Tryz.t224,.int .u64 0,by kernel_rfl,rfl,rfl,rfl,rfl,rfl,by simp [Value.cells,Value.oneCell']⟩,⟨_,Tryz.underlying224,rfl⟩,fun fs h=>?_,fun ks h=>?_,fun q h=>?_⟩
 ·cases h
 ·cases h
 ·cases h
def Ll:TI:={ cells:=3,bytes:=24,td:=.array 3 224,zero:=[.v (.int .u64 0),.v (.int .u64 0),.v (.int .u64 0)],eqk:=none }
theorem tf226:TyFact Tryz.prog 226 Ll:=by
 refine ⟨⟨Tryz.t226,.agg #[.int .u64 0,.int .u64 0,.int .u64 0],by kernel_rfl,rfl,rfl,rfl,rfl,rfl,by simp [Value.cells,Value.oneCell']⟩,⟨_,Tryz.underlying226,rfl⟩,fun fs h=>?_,fun ks h=>?_,fun q h=>?_⟩
 ·cases h
 ·cases h
 ·cases h
def UX:TI:={ cells:=1,bytes:=8,td:=.func,zero:=[.v (.nilFunc)],eqk:=none }
theorem tf231:TyFact Tryz.prog 231 UX:=by
 refine ⟨⟨Tryz.t231,.nilFunc,by kernel_rfl,rfl,rfl,rfl,rfl,rfl,by simp [Value.cells,Value.oneCell']⟩,⟨_,Tryz.underlying231,⟨_,_,_,rfl⟩⟩,fun fs h=>?_,fun ks h=>?_,fun q h=>?_⟩
 ·cases h
 ·cases h
 ·cases h
def Qkh:TI:={ cells:=1,bytes:=8,td:=.func,zero:=[.v (.nilFunc)],eqk:=none }
theorem tf233:TyFact Tryz.prog 233 Qkh:=by
 refine ⟨⟨Tryz.t233,.nilFunc,by kernel_rfl,rfl,rfl,rfl,rfl,rfl,by simp [Value.cells,Value.oneCell']⟩,⟨_,Tryz.underlying233,⟨_,_,_,rfl⟩⟩,fun fs h=>?_,fun ks h=>?_,fun q h=>?_⟩
 ·cases h
 ·cases h
 ·cases h
def Qb9:TI:={ cells:=1,bytes:=8,td:=.map 3 3,zero:=[.v (.map none)],eqk:=none,key:=some { kd:=.one (.int .i64),z:=.v (.int .i64 0),agg:=false } }
theorem tf234:TyFact Tryz.prog 234 Qb9:=by
 refine ⟨⟨Tryz.t234,.map none,by kernel_rfl,rfl,rfl,rfl,rfl,rfl,by simp [Value.cells,Value.oneCell']⟩,⟨_,Tryz.underlying234,rfl⟩,fun fs h=>?_,fun ks h=>?_,fun q h=>?_⟩
 ·cases h
 ·cases h
 ·cases h
  refine ⟨3,3,rfl,QbD Tryz.underlying3,fun w=>⟨.int .i64 0,by simp [zeroValue,typeInfo,show Tryz.prog.info? 3=some Tryz.t3 by kernel_rfl,Tryz.t3],fun w' ok ρ y=>?_⟩⟩
  exact .v rfl
def UC:TI:={ cells:=1,bytes:=8,td:=.func,zero:=[.v (.nilFunc)],eqk:=none }
theorem tf235:TyFact Tryz.prog 235 UC:=by
 refine ⟨⟨Tryz.t235,.nilFunc,by kernel_rfl,rfl,rfl,rfl,rfl,rfl,by simp [Value.cells,Value.oneCell']⟩,⟨_,Tryz.underlying235,⟨_,_,_,rfl⟩⟩,fun fs h=>?_,fun ks h=>?_,fun q h=>?_⟩
 ·cases h
 ·cases h
 ·cases h
def Qke:TI:={ cells:=1,bytes:=8,td:=.ptr,zero:=[.v (.pointer none)],eqk:=none }
theorem tf242:TyFact Tryz.prog 242 Qke:=by
 refine ⟨⟨Tryz.t242,.pointer none,by kernel_rfl,rfl,rfl,rfl,rfl,rfl,by simp [Value.cells,Value.oneCell']⟩,⟨_,Tryz.underlying242,⟨_,rfl⟩⟩,fun fs h=>?_,fun ks h=>?_,fun q h=>?_⟩
 ·cases h
 ·cases h
 ·cases h
def Qj2:TI:={ cells:=1,bytes:=8,td:=.func,zero:=[.v (.nilFunc)],eqk:=none }
theorem tf259:TyFact Tryz.prog 259 Qj2:=by
 refine ⟨⟨Tryz.t259,.nilFunc,by kernel_rfl,rfl,rfl,rfl,rfl,rfl,by simp [Value.cells,Value.oneCell']⟩,⟨_,Tryz.underlying259,⟨_,_,_,rfl⟩⟩,fun fs h=>?_,fun ks h=>?_,fun q h=>?_⟩
 ·cases h
 ·cases h
 ·cases h
def Qkp:TI:={ cells:=24,bytes:=24,td:=.array 24 5,zero:=[.v (.int .u8 0),.v (.int .u8 0),.v (.int .u8 0),.v (.int .u8 0),.v (.int .u8 0),.v (.int .u8 0),.v (.int .u8 0),.v (.int .u8 0),.v (.int .u8 0),.v (.int .u8 0),.v (.int .u8 0),.v (.int .u8 0),.v (.int .u8 0),.v (.int .u8 0),.v (.int .u8 0),.v (.int .u8 0),.v (.int .u8 0),.v (.int .u8 0),.v (.int .u8 0),.v (.int .u8 0),.v (.int .u8 0),.v (.int .u8 0),.v (.int .u8 0),.v (.int .u8 0)],eqk:=none }
theorem tf267:TyFact Tryz.prog 267 Qkp:=by
 refine ⟨⟨Tryz.t267,.agg #[.int .u8 0,.int .u8 0,.int .u8 0,.int .u8 0,.int .u8 0,.int .u8 0,.int .u8 0,.int .u8 0,.int .u8 0,.int .u8 0,.int .u8 0,.int .u8 0,.int .u8 0,.int .u8 0,.int .u8 0,.int .u8 0,.int .u8 0,.int .u8 0,.int .u8 0,.int .u8 0,.int .u8 0,.int .u8 0,.int .u8 0,.int .u8 0],by kernel_rfl,rfl,rfl,rfl,rfl,rfl,by simp [Value.cells,Value.oneCell']⟩,⟨_,Tryz.underlying267,rfl⟩,fun fs h=>?_,fun ks h=>?_,fun q h=>?_⟩
 ·cases h
 ·cases h
 ·cases h
def QjY:TI:={ cells:=1,bytes:=4,td:=.int .u32,zero:=[.v (.int .u32 0)],eqk:=none }
theorem tf280:TyFact Tryz.prog 280 QjY:=by
 refine ⟨⟨Tryz.t280,.int .u32 0,by kernel_rfl,rfl,rfl,rfl,rfl,rfl,by simp [Value.cells,Value.oneCell']⟩,⟨_,Tryz.underlying280,rfl⟩,fun fs h=>?_,fun ks h=>?_,fun q h=>?_⟩
 ·cases h
 ·cases h
 ·cases h
def QjP:TI:={ cells:=20,bytes:=160,td:=.array 20 90,zero:=[.v (.int .u64 0),.v (.int .u64 0),.v (.int .u64 0),.v (.int .u64 0),.v (.int .u64 0),.v (.int .u64 0),.v (.int .u64 0),.v (.int .u64 0),.v (.int .u64 0),.v (.int .u64 0),.v (.int .u64 0),.v (.int .u64 0),.v (.int .u64 0),.v (.int .u64 0),.v (.int .u64 0),.v (.int .u64 0),.v (.int .u64 0),.v (.int .u64 0),.v (.int .u64 0),.v (.int .u64 0)],eqk:=none }
theorem tf293:TyFact Tryz.prog 293 QjP:=by
 refine ⟨⟨Tryz.t293,.agg #[.int .u64 0,.int .u64 0,.int .u64 0,.int .u64 0,.int .u64 0,.int .u64 0,.int .u64 0,.int .u64 0,.int .u64 0,.int .u64 0,.int .u64 0,.int .u64 0,.int .u64 0,.int .u64 0,.int .u64 0,.int .u64 0,.int .u64 0,.int .u64 0,.int .u64 0,.int .u64 0],by kernel_rfl,rfl,rfl,rfl,rfl,rfl,by simp [Value.cells,Value.oneCell']⟩,⟨_,Tryz.underlying293,rfl⟩,fun fs h=>?_,fun ks h=>?_,fun q h=>?_⟩
 ·cases h
 ·cases h
 ·cases h
def QjK:TI:={ cells:=1,bytes:=8,td:=.int .i64,zero:=[.v (.int .i64 0)],eqk:=none }
theorem tf302:TyFact Tryz.prog 302 QjK:=by
 refine ⟨⟨Tryz.t302,.int .i64 0,by kernel_rfl,rfl,rfl,rfl,rfl,rfl,by simp [Value.cells,Value.oneCell']⟩,⟨_,Tryz.underlying302,rfl⟩,fun fs h=>?_,fun ks h=>?_,fun q h=>?_⟩
 ·cases h
 ·cases h
 ·cases h
def Qkd:TI:={ cells:=1,bytes:=8,td:=.ptr,zero:=[.v (.pointer none)],eqk:=none }
theorem tf305:TyFact Tryz.prog 305 Qkd:=by
 refine ⟨⟨Tryz.t305,.pointer none,by kernel_rfl,rfl,rfl,rfl,rfl,rfl,by simp [Value.cells,Value.oneCell']⟩,⟨_,Tryz.underlying305,⟨_,rfl⟩⟩,fun fs h=>?_,fun ks h=>?_,fun q h=>?_⟩
 ·cases h
 ·cases h
 ·cases h
def QjT:TI:={ cells:=32,bytes:=32,td:=.array 32 5,zero:=[.v (.int .u8 0),.v (.int .u8 0),.v (.int .u8 0),.v (.int .u8 0),.v (.int .u8 0),.v (.int .u8 0),.v (.int .u8 0),.v (.int .u8 0),.v (.int .u8 0),.v (.int .u8 0),.v (.int .u8 0),.v (.int .u8 0),.v (.int .u8 0),.v (.int .u8 0),.v (.int .u8 0),.v (.int .u8 0),.v (.int .u8 0),.v (.int .u8 0),.v (.int .u8 0),.v (.int .u8 0),.v (.int .u8 0),.v (.int .u8 0),.v (.int .u8 0),.v (.int .u8 0),.v (.int .u8 0),.v (.int .u8 0),.v (.int .u8 0),.v (.int .u8 0),.v (.int .u8 0),.v (.int .u8 0),.v (.int .u8 0),.v (.int .u8 0)],eqk:=none }
theorem tf308:TyFact Tryz.prog 308 QjT:=by
 refine ⟨⟨Tryz.t308,.agg #[.int .u8 0,.int .u8 0,.int .u8 0,.int .u8 0,.int .u8 0,.int .u8 0,.int .u8 0,.int .u8 0,.int .u8 0,.int .u8 0,.int .u8 0,.int .u8 0,.int .u8 0,.int .u8 0,.int .u8 0,.int .u8 0,.int .u8 0,.int .u8 0,.int .u8 0,.int .u8 0,.int .u8 0,.int .u8 0,.int .u8 0,.int .u8 0,.int .u8 0,.int .u8 0,.int .u8 0,.int .u8 0,.int .u8 0,.int .u8 0,.int .u8 0,.int .u8 0],by kernel_rfl,rfl,rfl,rfl,rfl,rfl,by simp [Value.cells,Value.oneCell']⟩,⟨_,Tryz.underlying308,rfl⟩,fun fs h=>?_,fun ks h=>?_,fun q h=>?_⟩
 ·cases h
 ·cases h
 ·cases h
def Qj5:TI:={ cells:=64,bytes:=64,td:=.array 64 5,zero:=[.v (.int .u8 0),.v (.int .u8 0),.v (.int .u8 0),.v (.int .u8 0),.v (.int .u8 0),.v (.int .u8 0),.v (.int .u8 0),.v (.int .u8 0),.v (.int .u8 0),.v (.int .u8 0),.v (.int .u8 0),.v (.int .u8 0),.v (.int .u8 0),.v (.int .u8 0),.v (.int .u8 0),.v (.int .u8 0),.v (.int .u8 0),.v (.int .u8 0),.v (.int .u8 0),.v (.int .u8 0),.v (.int .u8 0),.v (.int .u8 0),.v (.int .u8 0),.v (.int .u8 0),.v (.int .u8 0),.v (.int .u8 0),.v (.int .u8 0),.v (.int .u8 0),.v (.int .u8 0),.v (.int .u8 0),.v (.int .u8 0),.v (.int .u8 0),.v (.int .u8 0),.v (.int .u8 0),.v (.int .u8 0),.v (.int .u8 0),.v (.int .u8 0),.v (.int .u8 0),.v (.int .u8 0),.v (.int .u8 0),.v (.int .u8 0),.v (.int .u8 0),.v (.int .u8 0),.v (.int .u8 0),.v (.int .u8 0),.v (.int .u8 0),.v (.int .u8 0),.v (.int .u8 0),.v (.int .u8 0),.v (.int .u8 0),.v (.int .u8 0),.v (.int .u8 0),.v (.int .u8 0),.v (.int .u8 0),.v (.int .u8 0),.v (.int .u8 0),.v (.int .u8 0),.v (.int .u8 0),.v (.int .u8 0),.v (.int .u8 0),.v (.int .u8 0),.v (.int .u8 0),.v (.int .u8 0),.v (.int .u8 0)],eqk:=none }
theorem tf309:TyFact Tryz.prog 309 Qj5:=by
 refine ⟨⟨Tryz.t309,.agg #[.int .u8 0,.int .u8 0,.int .u8 0,.int .u8 0,.int .u8 0,.int .u8 0,.int .u8 0,.int .u8 0,.int .u8 0,.int .u8 0,.int .u8 0,.int .u8 0,.int .u8 0,.int .u8 0,.int .u8 0,.int .u8 0,.int .u8 0,.int .u8 0,.int .u8 0,.int .u8 0,.int .u8 0,.int .u8 0,.int .u8 0,.int .u8 0,.int .u8 0,.int .u8 0,.int .u8 0,.int .u8 0,.int .u8 0,.int .u8 0,.int .u8 0,.int .u8 0,.int .u8 0,.int .u8 0,.int .u8 0,.int .u8 0,.int .u8 0,.int .u8 0,.int .u8 0,.int .u8 0,.int .u8 0,.int .u8 0,.int .u8 0,.int .u8 0,.int .u8 0,.int .u8 0,.int .u8 0,.int .u8 0,.int .u8 0,.int .u8 0,.int .u8 0,.int .u8 0,.int .u8 0,.int .u8 0,.int .u8 0,.int .u8 0,.int .u8 0,.int .u8 0,.int .u8 0,.int .u8 0,.int .u8 0,.int .u8 0,.int .u8 0,.int .u8 0],by kernel_rfl,rfl,rfl,rfl,rfl,rfl,by simp [Value.cells,Value.oneCell']⟩,⟨_,Tryz.underlying309,rfl⟩,fun fs h=>?_,fun ks h=>?_,fun q h=>?_⟩
 ·cases h
 ·cases h
 ·cases h
def Qj9:TI:={ cells:=2,bytes:=2,td:=.struct [(0,1,5),(1,1,5)],zero:=[.v (.int .u8 0),.v (.int .u8 0)],eqk:=none }
theorem tf312:TyFact Tryz.prog 312 Qj9:=by
 refine ⟨⟨Tryz.t312,.agg #[.int .u8 0,.int .u8 0],by kernel_rfl,rfl,rfl,rfl,rfl,rfl,by simp [Value.cells,Value.oneCell']⟩,⟨_,Tryz.underlying312,⟨_,rfl,rfl⟩⟩,fun fs h=>?_,fun ks h=>?_,fun q h=>?_⟩
 ·cases h
  simp only [ae,aV,or_false,forall_eq_or_imp,forall_eq]
  exact ⟨⟨Tryz.t5,by kernel_rfl,rfl⟩,⟨Tryz.t5,by kernel_rfl,rfl⟩⟩
 ·cases h
 ·cases h
def Qj0:TI:={ cells:=32,bytes:=32,td:=.array 16 312,zero:=[.v (.int .u8 0),.v (.int .u8 0),.v (.int .u8 0),.v (.int .u8 0),.v (.int .u8 0),.v (.int .u8 0),.v (.int .u8 0),.v (.int .u8 0),.v (.int .u8 0),.v (.int .u8 0),.v (.int .u8 0),.v (.int .u8 0),.v (.int .u8 0),.v (.int .u8 0),.v (.int .u8 0),.v (.int .u8 0),.v (.int .u8 0),.v (.int .u8 0),.v (.int .u8 0),.v (.int .u8 0),.v (.int .u8 0),.v (.int .u8 0),.v (.int .u8 0),.v (.int .u8 0),.v (.int .u8 0),.v (.int .u8 0),.v (.int .u8 0),.v (.int .u8 0),.v (.int .u8 0),.v (.int .u8 0),.v (.int .u8 0),.v (.int .u8 0)],eqk:=none }
theorem tf313:TyFact Tryz.prog 313 Qj0:=by
 refine ⟨⟨Tryz.t313,.agg #[.int .u8 0,.int .u8 0,.int .u8 0,.int .u8 0,.int .u8 0,.int .u8 0,.int .u8 0,.int .u8 0,.int .u8 0,.int .u8 0,.int .u8 0,.int .u8 0,.int .u8 0,.int .u8 0,.int .u8 0,.int .u8 0,.int .u8 0,.int .u8 0,.int .u8 0,.int .u8 0,.int .u8 0,.int .u8 0,.int .u8 0,.int .u8 0,.int .u8 0,.int .u8 0,.int .u8 0,.int .u8 0,.int .u8 0,.int .u8 0,.int .u8 0,.int .u8 0],by kernel_rfl,rfl,rfl,rfl,rfl,rfl,by simp [Value.cells,Value.oneCell']⟩,⟨_,Tryz.underlying313,rfl⟩,fun fs h=>?_,fun ks h=>?_,fun q h=>?_⟩
 ·cases h
 ·cases h
 ·cases h
def Qkv:TI:={ cells:=3,bytes:=48,td:=.struct [(0,1,9),(1,1,9),(2,1,175)],zero:=[.v (.string ⟨#[]⟩),.v (.string ⟨#[]⟩),.v (.nilIface)],eqk:=none }
theorem tf319:TyFact Tryz.prog 319 Qkv:=by
 refine ⟨⟨Tryz.t319,.agg #[.string ⟨#[]⟩,.string ⟨#[]⟩,.nilIface],by kernel_rfl,rfl,rfl,rfl,rfl,rfl,by simp [Value.cells,Value.oneCell']⟩,⟨_,Tryz.underlying319,⟨_,rfl,rfl⟩⟩,fun fs h=>?_,fun ks h=>?_,fun q h=>?_⟩
 ·cases h
  simp only [ae,aV,or_false,forall_eq_or_imp,forall_eq]
  exact ⟨⟨Tryz.t9,by kernel_rfl,rfl⟩,⟨Tryz.t9,by kernel_rfl,rfl⟩,⟨Tryz.t175,by kernel_rfl,rfl⟩⟩
 ·cases h
 ·cases h
def QjW:TI:={ cells:=1,bytes:=8,td:=.ptr,zero:=[.v (.pointer none)],eqk:=none }
theorem tf323:TyFact Tryz.prog 323 QjW:=by
 refine ⟨⟨Tryz.t323,.pointer none,by kernel_rfl,rfl,rfl,rfl,rfl,rfl,by simp [Value.cells,Value.oneCell']⟩,⟨_,Tryz.underlying323,⟨_,rfl⟩⟩,fun fs h=>?_,fun ks h=>?_,fun q h=>?_⟩
 ·cases h
 ·cases h
 ·cases h
def QjR:TI:={ cells:=1,bytes:=16,td:=.struct [(0,1,9)],zero:=[.v (.string ⟨#[]⟩)],eqk:=none }
theorem tf325:TyFact Tryz.prog 325 QjR:=by
 refine ⟨⟨Tryz.t325,.agg #[.string ⟨#[]⟩],by kernel_rfl,rfl,rfl,rfl,rfl,rfl,by simp [Value.cells,Value.oneCell']⟩,⟨_,Tryz.underlying325,⟨_,rfl,rfl⟩⟩,fun fs h=>?_,fun ks h=>?_,fun q h=>?_⟩
 ·cases h
  simp only [ae,aV,or_false,forall_eq]
  exact ⟨Tryz.t9,by kernel_rfl,rfl⟩
 ·cases h
 ·cases h
def tyL:List (Nat × TI):=[(2,ti2),(3,ti3),(4,ti4),(5,ti5),(9,ti9),(20,ti20),(21,ti21),(22,ZW),(23,vW),(25,jE),(26,QV),(28,ti28),(30,ti30),(32,ti32),(33,Qaj),(34,kY),(43,ti43),(44,ti44),(45,ti45),(47,ti47),(50,ti50),(59,Qbp),(63,QT),(65,WP),(71,KO),(76,yY),(80,X7),(81,ti81),(84,Z5),(88,jM),(90,Qdk),(92,QhP),(93,ti93),(99,ti99),(108,Qku),(110,Qkx),(112,Qki),(129,Qkj),(137,Qj6),(141,xh),(146,Qkl),(150,Qb6),(152,Qb),(153,Qct),(155,Qab),(157,U0),(159,UJ),(167,QcE),(170,QjM),(172,Qj8),(175,QjQ),(182,Yi),(185,QjX),(188,QjL),(190,Qj7),(191,Qkr),(196,Qkk),(206,QjO),(207,Qkw),(217,Qks),(224,Xm),(226,Ll),(231,UX),(233,Qkh),(234,Qb9),(235,UC),(242,Qke),(259,Qj2),(267,Qkp),(280,QjY),(293,QjP),(302,QjK),(305,Qkd),(308,QjT),(309,Qj5),(312,Qj9),(313,Qj0),(319,Qkv),(323,QjW),(325,QjR)]
def tyOf:List (Nat × TI)->Tys
 |[],_=>none
 |p :: r,t=>if t=p.1 then some p.2 else tyOf r t
def tyB:Tys:=tyOf tyL
theorem ty3:tyB 3=some ti3:=rfl
theorem ty4:tyB 4=some ti4:=rfl
theorem ty9:tyB 9=some ti9:=rfl
theorem JH:tyB 22=some ZW:=rfl
theorem xW:tyB 23=some vW:=rfl
theorem jW:tyB 25=some jE:=rfl
theorem WG:tyB 26=some QV:=rfl
theorem QfW:tyB 33=some Qaj:=rfl
theorem Zq:tyB 34=some kY:=rfl
theorem ty59:tyB 59=some Qbp:=rfl
theorem WB:tyB 63=some QT:=rfl
theorem VH:tyB 65=some WP:=rfl
theorem QdS:tyB 71=some KO:=rfl
theorem xy:tyB 76=some yY:=rfl
theorem QdF:tyB 80=some X7:=rfl
theorem JI:tyB 84=some Z5:=rfl
theorem yc:tyB 88=some jM:=rfl
theorem ty90:tyB 90=some Qdk:=rfl
theorem ty92:tyB 92=some QhP:=rfl
theorem Qn:tyB 141=some xh:=rfl
theorem ty150:tyB 150=some Qb6:=rfl
theorem Z7:tyB 152=some Qb:=rfl
theorem ty153:tyB 153=some Qct:=rfl
theorem QjN:tyB 155=some Qab:=rfl
theorem Qkn:tyB 157=some U0:=rfl
theorem QjZ:tyB 159=some UJ:=rfl
theorem ty167:tyB 167=some QcE:=rfl
theorem Qac:tyB 182=some Yi:=rfl
theorem QgZ:tyB 224=some Xm:=rfl
theorem Qkm:tyB 226=some Ll:=rfl
theorem Qkb:tyB 231=some UX:=rfl
theorem ty234:tyB 234=some Qb9:=rfl
theorem Qj4:tyB 235=some UC:=rfl
theorem Ue:∀ {L:List (Nat × TI)} {t:Nat} {i:TI},tyOf L t=some i->(t,i) ∈ L
 |p :: r,t,i,h=>by
  simp only [tyOf] at h
  split at h
  ·rename_i ht;cases h;rw [ht];exact aZ
  ·exact aY _ (Ue h)
theorem Y4:zZ Tryz.prog tyB:=fun t i h=>by
 have h:=Ue h
 simp only [tyL,ae,aV,or_false,Prod.mk.injEq] at h
 rcases h with ⟨rfl,rfl⟩|⟨rfl,rfl⟩|⟨rfl,rfl⟩|⟨rfl,rfl⟩|⟨rfl,rfl⟩|⟨rfl,rfl⟩|⟨rfl,rfl⟩|⟨rfl,rfl⟩|⟨rfl,rfl⟩|⟨rfl,rfl⟩|⟨rfl,rfl⟩|⟨rfl,rfl⟩|⟨rfl,rfl⟩|⟨rfl,rfl⟩|⟨rfl,rfl⟩|⟨rfl,rfl⟩|⟨rfl,rfl⟩|⟨rfl,rfl⟩|⟨rfl,rfl⟩|⟨rfl,rfl⟩|⟨rfl,rfl⟩|⟨rfl,rfl⟩|⟨rfl,rfl⟩|⟨rfl,rfl⟩|⟨rfl,rfl⟩|⟨rfl,rfl⟩|⟨rfl,rfl⟩|⟨rfl,rfl⟩|⟨rfl,rfl⟩|⟨rfl,rfl⟩|⟨rfl,rfl⟩|⟨rfl,rfl⟩|⟨rfl,rfl⟩|⟨rfl,rfl⟩|⟨rfl,rfl⟩|⟨rfl,rfl⟩|⟨rfl,rfl⟩|⟨rfl,rfl⟩|⟨rfl,rfl⟩|⟨rfl,rfl⟩|⟨rfl,rfl⟩|⟨rfl,rfl⟩|⟨rfl,rfl⟩|⟨rfl,rfl⟩|⟨rfl,rfl⟩|⟨rfl,rfl⟩|⟨rfl,rfl⟩|⟨rfl,rfl⟩|⟨rfl,rfl⟩|⟨rfl,rfl⟩|⟨rfl,rfl⟩|⟨rfl,rfl⟩|⟨rfl,rfl⟩|⟨rfl,rfl⟩|⟨rfl,rfl⟩|⟨rfl,rfl⟩|⟨rfl,rfl⟩|⟨rfl,rfl⟩|⟨rfl,rfl⟩|⟨rfl,rfl⟩|⟨rfl,rfl⟩|⟨rfl,rfl⟩|⟨rfl,rfl⟩|⟨rfl,rfl⟩|⟨rfl,rfl⟩|⟨rfl,rfl⟩|⟨rfl,rfl⟩|⟨rfl,rfl⟩|⟨rfl,rfl⟩|⟨rfl,rfl⟩|⟨rfl,rfl⟩|⟨rfl,rfl⟩|⟨rfl,rfl⟩|⟨rfl,rfl⟩|⟨rfl,rfl⟩|⟨rfl,rfl⟩|⟨rfl,rfl⟩|⟨rfl,rfl⟩|⟨rfl,rfl⟩|⟨rfl,rfl⟩
 ·exact tf2
 ·exact tf3
 ·exact tf4
 ·exact tf5
 ·exact tf9
 ·exact tf20
 ·exact tf21
 ·exact tf22
 ·exact tf23
 ·exact tf25
 ·exact tf26
 ·exact tf28
 ·exact tf30
 ·exact tf32
 ·exact tf33
 ·exact tf34
 ·exact tf43
 ·exact tf44
 ·exact tf45
 ·exact tf47
 ·exact tf50
 ·exact tf59
 ·exact tf63
 ·exact tf65
 ·exact tf71
 ·exact tf76
 ·exact tf80
 ·exact tf81
 ·exact tf84
 ·exact tf88
 ·exact tf90
 ·exact tf92
 ·exact tf93
 ·exact tf99
 ·exact tf108
 ·exact tf110
 ·exact tf112
 ·exact tf129
 ·exact tf137
 ·exact tf141
 ·exact tf146
 ·exact tf150
 ·exact tf152
 ·exact tf153
 ·exact tf155
 ·exact tf157
 ·exact tf159
 ·exact tf167
 ·exact tf170
 ·exact tf172
 ·exact tf175
 ·exact tf182
 ·exact tf185
 ·exact tf188
 ·exact tf190
 ·exact tf191
 ·exact tf196
 ·exact tf206
 ·exact tf207
 ·exact tf217
 ·exact tf224
 ·exact tf226
 ·exact tf231
 ·exact tf233
 ·exact tf234
 ·exact tf235
 ·exact tf242
 ·exact tf259
 ·exact tf267
 ·exact tf280
 ·exact tf293
 ·exact tf302
 ·exact tf305
 ·exact tf308
 ·exact tf309
 ·exact tf312
 ·exact tf313
 ·exact tf319
 ·exact tf323
 ·exact tf325
end Go.Sym.B
namespace Go.Sym.C
def Bd (B:Nat) (q:Rat):Prop:=q.den ∣ 27720/\q.num<=B * q.den/\-(B * q.den:Int)<=q.num
theorem Bd.mono {B C:Nat} {q:Rat} (h:Bd B q) (hB:B<=C):Bd C q:=by
 obtain ⟨h1,h2,h3⟩:=h
 have h4:(B:Int) * q.den<=C * q.den:=by exact_mod_cast aM _ hB
 exact ⟨h1,by omega,by omega⟩
end Go.Sym.C
namespace Go.Sym.B
open Go Go.Sym Go.Proofs Go.Sym.C
structure Bunk where
 cab:Int
 bed:Int
deriving DecidableEq,Inhabited
structure Cabin where
 beds:Int
 door:Bool
deriving DecidableEq,Inhabited
structure Tk where
 party:Int
 sex:Int
 cab:Int
 bed:Int
 frm:Int
 to:Int
 dog:Bool
deriving DecidableEq,Inhabited
structure Tr where
 ticket:Int
 cab:Int
 bed:Int
deriving DecidableEq,Inhabited
structure Chart where
 cabins:List Cabin
 secs:Int
 sold:List Tk
deriving DecidableEq,Inhabited
structure Ask where
 party:Int
 frm:Int
 to:Int
 sexes:List Int
 dog:Bool
deriving DecidableEq,Inhabited
def Tk.bunk (t:Tk):Bunk:=⟨t.cab,t.bed⟩
def dI:DV->Int
 |.v (.int _ n)=>n
 |_=>0
def dB:DV->Bool
 |.v (.bool b)=>b
 |_=>false
def dL:DV->List (List DV)
 |.sl xs=>xs
 |_=>[]
def zG (n:Int):List DV:=[.v (.int .i64 n)]
def qI (b:Bunk):List DV:=[.v (.int .i64 b.cab),.v (.int .i64 b.bed)]
def qo (c:Cabin):List DV:=[.v (.int .i64 c.beds),.v (.bool c.door)]
def eTk (t:Tk):List DV:=[.v (.int .i64 t.party),.v (.int .i64 t.sex),.v (.int .i64 t.cab),.v (.int .i64 t.bed),.v (.int .i64 t.frm),.v (.int .i64 t.to),.v (.bool t.dog)]
def eTr (t:Tr):List DV:=[.v (.int .i64 t.ticket),.v (.int .i64 t.cab),.v (.int .i64 t.bed)]
def zI (l:List Bunk):List DV:=[.sl (l.map qI)]
def zD (r:List DV):Int:=dI (r.headD (.sl []))
def zK:List DV->Bunk
 |[a,b]=>⟨dI a,dI b⟩
 |_=>default
def qp:List DV->Cabin
 |[a,b]=>⟨dI a,dB b⟩
 |_=>default
def dTk:List DV->Tk
 |[a,b,c,d,e,f,g]=>⟨dI a,dI b,dI c,dI d,dI e,dI f,dB g⟩
 |_=>default
def dTr:List DV->Tr
 |[a,b,c]=>⟨dI a,dI b,dI c⟩
 |_=>default
def Q0:List DV->List Bunk
 |[a]=>(dL a).map zK
 |_=>[]
theorem Qls (n:Int):zD (zG n)=n:=rfl
theorem Qiy (b:Bunk):zK (qI b)=b:=rfl
theorem QgL (b:Cabin):qp (qo b)=b:=rfl
theorem Qkg (b:Tk):dTk (eTk b)=b:=rfl
theorem dTr_e (b:Tr):dTr (eTr b)=b:=rfl
theorem WK (l:List Int):(l.map zG).map zD=l:=by simp [Function.comp_def,Qls]
theorem QN (l:List Bunk):(l.map qI).map zK=l:=by simp [Function.comp_def,Qiy]
theorem qD (l:List Cabin):(l.map qo).map qp=l:=by simp [Function.comp_def,QgL]
theorem mTk (l:List Tk):(l.map eTk).map dTk=l:=by simp [Function.comp_def,Qkg]
theorem mTr (l:List Tr):(l.map eTr).map dTr=l:=by simp [Function.comp_def,dTr_e]
theorem Qga (l:List Bunk):Q0 (zI l)=l:=QN l
theorem Qao (l:List (List Bunk)):(l.map zI).map Q0=l:=by simp [Function.comp_def,Qga]
theorem QeK (l:List (Int)) (n:Nat):(l.map zG).getD n [.v (.int .i64 0)]=zG (l.getD n 0):=Qm zG l n 0
theorem Qgn (l:List (Int)):zn 1 (l.map zG)=True:=jV (f:=zG) (k:=1) (fun _=>rfl) l
theorem wh (l:List (Bunk)) (n:Nat):(l.map qI).getD n [.v (.int .i64 0),.v (.int .i64 0)]=qI (l.getD n default):=Qm qI l n default
theorem hBunk {l:List (Bunk)} {n:Nat} (h:n < l.length):(l.map qI).getD n []=qI (l.getD n default):=by simp [ah,h]
theorem Ul (l:List (Bunk)):zn 2 (l.map qI)=True:=jV (f:=qI) (k:=2) (fun _=>rfl) l
theorem wF (l:List (Cabin)) (n:Nat):(l.map qo).getD n [.v (.int .i64 0),.v (.bool false)]=qo (l.getD n default):=Qm qo l n default
theorem QhF {l:List (Cabin)} {n:Nat} (h:n < l.length):(l.map qo).getD n []=qo (l.getD n default):=by simp [ah,h]
theorem wR (l:List (Cabin)):zn 2 (l.map qo)=True:=jV (f:=qo) (k:=2) (fun _=>rfl) l
theorem gTk (l:List (Tk)) (n:Nat):(l.map eTk).getD n [.v (.int .i64 0),.v (.int .i64 0),.v (.int .i64 0),.v (.int .i64 0),.v (.int .i64 0),.v (.int .i64 0),.v (.bool false)]=eTk (l.getD n default):=Qm eTk l n default
theorem hTk {l:List (Tk)} {n:Nat} (h:n < l.length):(l.map eTk).getD n []=eTk (l.getD n default):=by simp [ah,h]
theorem rTk (l:List (Tk)):zn 7 (l.map eTk)=True:=jV (f:=eTk) (k:=7) (fun _=>rfl) l
theorem gTr (l:List (Tr)) (n:Nat):(l.map eTr).getD n [.v (.int .i64 0),.v (.int .i64 0),.v (.int .i64 0)]=eTr (l.getD n default):=Qm eTr l n default
theorem rTr (l:List (Tr)):zn 3 (l.map eTr)=True:=jV (f:=eTr) (k:=3) (fun _=>rfl) l
theorem Qg6 {l:List (List Bunk)} {n:Nat} (h:n < l.length):(l.map zI).getD n []=zI (l.getD n []):=by simp [ah,h]
theorem QkJ (l:List (List Bunk)):zn 1 (l.map zI)=True:=jV (f:=zI) (k:=1) (fun _=>rfl) l
def aI (n:Int):AV:=.v (.int .i64 n)
def aB (b:Bool):AV:=.v (.bool b)
def qw (b:Bunk):AV:=.agg [.v (.int .i64 b.cab),.v (.int .i64 b.bed)]
def cTk (t:Tk):List AV:=[.v (.int .i64 t.party),.v (.int .i64 t.sex),.v (.int .i64 t.cab),.v (.int .i64 t.bed),.v (.int .i64 t.frm),.v (.int .i64 t.to),.v (.bool t.dog)]
def aTk (t:Tk):AV:=.agg (cTk t)
def qj (a:Ask):List AV:=[.v (.int .i64 a.party),.v (.int .i64 a.frm),.v (.int .i64 a.to),.sl (a.sexes.map zG),.v (.bool a.dog)]
def zh (a:Ask):AV:=.agg (qj a)
def qd (c:Chart):List AV:=[.sl (c.cabins.map qo),.v (.int .i64 c.secs),.sl (c.sold.map eTk)]
def qh (c:Chart):AV:=.agg (qd c)
def qx (l:List Int):AV:=.sl (l.map zG)
def qb (l:List Bunk):AV:=.sl (l.map qI)
def qy (l:List Tk):AV:=.sl (l.map eTk)
def wH (l:List Cabin):AV:=.sl (l.map qo)
def jU (l:List Tr):AV:=.sl (l.map eTr)
theorem Fn0 {fn:Func} {c:Code} {f:FuncId} (hf:Tryz.prog.funcs[f]?=some fn) (hb:fn.body=some c) (he:∀ vs w,(callFunc f vs).run Tryz.prog w=.ok (.enter f vs) w) (hd:yO fn.ntmps c=true):FnData Tryz.prog tyB f fn c:=⟨Y4,hf,hb,he,hd⟩
theorem qB {L:List (FuncId × Entry)} {A:Frm->Prop} (h:Vb A Tryz.prog L):Env A Tryz.prog tyB (tab L):=⟨Y4,Qfs h,by kernel_rfl⟩
theorem z0 {a b:Int} (h:-9223372036854775808<=a+b/\a+b < 9223372036854775808):IntKind.wrap .i64 (a+b)=a+b:=wrap64 h.1 h.2
def inB (n lo hi:Int):Bool:=decide (lo<=n) && decide (n<=hi)
theorem jo {n lo hi:Int}:inB n lo hi=true ↔ lo<=n/\n<=hi:=by simp [inB]
def zH (n a b:Int):Int:=if n < a then 7 else if b < n then 6 else 0
def yu:List Int->Int
 |[]=>0
 |e :: r=>if e=0 then yu r else e
theorem Q5 {l:List Int} {k:Nat} (h:∀ j,j < k->l.getD j 0=0) (hk:k < l.length) (he:l.getD k 0 ≠ 0):yu l=l.getD k 0:=by
 induction l generalizing k with
 |nil=>simp at hk
 |cons e r ih =>
  cases k with
  |zero=>rw [yu,if_neg (by simpa using he)];rfl
  |succ k =>
   rw [yu,if_pos (by simpa using h 0 (by omega))]
   have:=ih (k:=k) (fun j hj=>by simpa using h (j+1) (by omega)) (by simpa using hk) (by simpa using he)
   rw [this];rfl
theorem xJ {l:List Int} (h:∀ j,j < l.length->l.getD j 0=0):yu l=0:=by
 induction l with
 |nil=>rfl
 |cons e r ih =>
  rw [yu,if_pos (by simpa using h 0 (by simp))]
  exact ih fun j hj=>by simpa using h (j+1) (by simpa using hj)
theorem Zr {l:List Int} (h:yu l=0):∀ e ∈ l,e=0:=by
 induction l with
 |nil=>simp
 |cons e r ih =>
  rw [yu] at h
  split at h
  ·rename_i h0
   intro x hx
   rcases ae.1 hx with rfl|hx
   ·exact h0
   ·exact ih h x hx
  ·rename_i h0;exact absurd h h0
def Wl (a b:Tk):Bool:=decide (a.frm < b.to) && decide (b.frm < a.to)
def Yl (a b:Tk):Bool:=decide (a.party=b.party) || decide (a.cab ≠ b.cab) || !Wl a b || (decide (a.sex=b.sex) && !a.dog && !b.dog)
def ZU (secs frm to:Int):Int:=if frm < 0\/to<=frm\/secs < to then 5 else 0
def Zp (t x:Tk):Bool:=decide (x.cab=t.cab) && decide (x.bed=t.bed) && Wl x t
def wI (t:Tk) (l:List Tk):Int:=if l.any (Zp t) then 4 else if l.any (fun x=>!Yl x t) then 9 else 0
def xm (cs:List Cabin) (cab bed:Int):Bool:=inB cab 0 ((cs.length:Int) - 1) && inB bed 0 ((cs.getD cab.toNat default).beds - 1)
def zY (c:Chart) (t:Tk) (l:List Tk):Int :=
 if !inB t.party 1 99 then 1 else if !inB t.sex 1 2 then 8 else if !xm c.cabins t.cab t.bed then 3 else if ZU c.secs t.frm t.to ≠ 0 then ZU c.secs t.frm t.to else wI t l
def Jw (x:Cabin):Int:=if !inB x.beds 1 3 then 1 else 0
def QW (c:Chart):Int :=
 if zH c.cabins.length 1 3 ≠ 0 then zH c.cabins.length 1 3 else if yu (c.cabins.map Jw) ≠ 0 then yu (c.cabins.map Jw) else if !inB c.secs 1 5 then 1 else zH c.sold.length 0 8
def ko (c:Chart) (l:List Tk):Int:=yu ((List.range l.length).map fun i=>zY c (l.getD i default) (l.take i))
def zo (c:Chart):Int:=if QW c ≠ 0 then QW c else ko c c.sold
structure CarOk (c:Chart):Prop where
 cabs:1<=c.cabins.length/\c.cabins.length<=3
 beds:∀ x ∈ c.cabins,1<=x.beds/\x.beds<=3
 secs:1<=c.secs/\c.secs<=5
theorem Qcz {c:Chart} (h:QW c=0):CarOk c/\c.sold.length<=8:=by
 unfold QW at h
 split at h
 ·exact absurd h ‹_›
 rename_i h1
 split at h
 ·exact absurd h ‹_›
 rename_i h2
 split at h
 ·exact absurd h (by decide)
 rename_i h3
 have h1:=Decidable.not_not.1 h1
 have h2:=Decidable.not_not.1 h2
 have h3:inB c.secs 1 5=true:=by simpa using h3
 unfold zH at h1 h
 refine ⟨⟨?_,fun x hx=>?_,jo.1 h3⟩, ?_⟩
 ·split at h1
  ·exact absurd h1 (by decide)
  ·split at h1
   ·exact absurd h1 (by decide)
   ·omega
 ·have:=Zr h2 _ (am.2 ⟨x,hx,rfl⟩)
  unfold Jw at this
  split at this
  ·exact absurd this (by decide)
  ·rename_i h4
   exact jo.1 (by simpa using h4)
 ·split at h
  ·exact absurd h (by decide)
  ·split at h
   ·exact absurd h (by decide)
   ·omega
structure TkOk (c:Chart) (t:Tk):Prop where
 party:1<=t.party/\t.party<=99
 sex:1<=t.sex/\t.sex<=2
 cab:0<=t.cab/\t.cab.toNat < c.cabins.length
 bed:0<=t.bed/\t.bed < (c.cabins.getD t.cab.toNat default).beds
 frm:0<=t.frm
 way:t.frm < t.to
 to:t.to<=c.secs
theorem Ry {s a b:Int} (h:ZU s a b=0):0<=a/\a < b/\b<=s:=by
 unfold ZU at h
 split at h
 ·exact absurd h (by decide)
 ·omega
theorem Qeh {cs:List Cabin} {a b:Int} (h:xm cs a b=true):0<=a/\a.toNat < cs.length/\0<=b/\b < (cs.getD a.toNat default).beds:=by
 unfold xm at h
 rw [bm,jo,jo] at h
 omega
theorem QaO {c:Chart} {t:Tk} {l:List Tk} (h:zY c t l=0):TkOk c t/\wI t l=0:=by
 unfold zY at h
 split at h
 ·exact absurd h (by decide)
 rename_i h1
 split at h
 ·exact absurd h (by decide)
 rename_i h2
 split at h
 ·exact absurd h (by decide)
 rename_i h3
 split at h
 ·exact absurd h ‹_›
 rename_i h4
 have nf:∀ {p:Bool},¬ (!p)=true->p=true:=fun h=>by simpa using h
 have g1:=jo.1 (nf h1)
 have g2:=jo.1 (nf h2)
 obtain ⟨g3,g4,g5,g6⟩:=Qeh (nf h3)
 obtain ⟨g7,g8,g9⟩:=Ry (Decidable.not_not.1 h4)
 exact ⟨⟨g1,g2,⟨g3,g4⟩,⟨g5,g6⟩,g7,g8,g9⟩,h⟩
theorem yX {Z:Type} {l:List Z} {k:Nat} {d:Z} (h:k < l.length):l.getD k d ∈ l:=by
 rw [ah,ai h];exact bH h
theorem Qbd {c:Chart} {l:List Tk} (h:ko c l=0):∀ i,i < l.length->TkOk c (l.getD i default)/\wI (l.getD i default) (l.take i)=0:=fun i hi =>
 QaO (Zr h _ (am.2 ⟨i,aX.2 hi,rfl⟩))
structure Val (c:Chart):Prop where
 car:CarOk c
 many:c.sold.length<=8
 tk:∀ t ∈ c.sold,TkOk c t
theorem kU {c:Chart} (h:zo c=0):Val c:=by
 unfold zo at h
 split at h
 ·exact absurd h ‹_›
 rename_i h1
 obtain ⟨g1,g2⟩:=Qcz (Decidable.not_not.1 h1)
 refine ⟨g1,g2,fun t ht=>?_⟩
 obtain ⟨i,hi,rfl⟩:=cG.1 ht
 have:=(Qbd h i hi).1
 rwa [show c.sold.getD i default=c.sold[i] by simp [ah,hi]] at this
def qW (cs:List Cabin):List Bunk:=(List.range cs.length).flatMap fun i=>(List.range (cs.getD i default).beds.toNat).map fun (k:Nat)=>⟨(i:Int),(k:Int)⟩
def Xy (cs:List Cabin) (l:List Bunk):Bool :=
 let lo:=l.foldl (fun m b=>min m b.cab) (l.getD 0 default).cab
 let hi:=l.foldl (fun m b=>max m b.cab) (l.getD 0 default).cab
 decide (lo=hi) || (decide (lo+1=hi) && (cs.getD lo.toNat default).door)
def ZV (a:Ask) (i:Nat) (b:Bunk):Tk:=⟨a.party,a.sexes.getD i 0,b.cab,b.bed,a.frm,a.to,a.dog⟩
def goB (cs:List Cabin) (a:Ask) (sold:List Tk) (begun:List Bunk) (b:Bunk):Bool:=!begun.contains b && Xy cs (begun++[b]) && decide (wI (ZV a begun.length b) sold=0)
def atB (s:Int) (t:Tk):Bool:=decide (t.frm<=s) && decide (s < t.to)
def JP (sold:List Tk) (s i:Int):Bool:=sold.all fun t=>!(atB s t && decide (t.cab=i))
def QR (cs:List Cabin) (secs:Int) (sold:List Tk):Int:=(((List.range secs.toNat).flatMap fun (s:Nat)=>(List.range cs.length).filter fun (i:Nat)=>JP sold s i).length:Int)
def Qq (c:Chart) (a:Ask):Int :=
 if !inB a.party 1 99 then 1 else if c.sold.any (fun t=>decide (t.party=a.party)) then 4 else if ZU c.secs a.frm a.to ≠ 0 then ZU c.secs a.frm a.to else if zH a.sexes.length 1 3 ≠ 0 then zH a.sexes.length 1 3 else
 yu (a.sexes.map fun s=>if !inB s 1 2 then 8 else 0)
def wo (c:Chart) (a:Ask):Int:=if zo c ≠ 0 then zo c else Qq c a
def Qje:=jv @ty3 @ti3.eq_1
def VG:=jv @aI.eq_1 (@aB.eq_1)
theorem in_fn (n a b:Int):FnV Tryz.prog 146 [aI n,aI a,aI b] (aB (inB n a b)):=by
 have env:Env (fun _=>True) Tryz.prog tyB (tab []):=qB trivial
 refine Fn.of (A:=fun _=>True) (n0:=0) (D:=noD) (Fn0 Tryz.func146 rfl (fun vs w=>by kernel_rfl) (by kernel_rfl)) (by simp) (by simp [AV.ids,aI]) (fun i o h=>by cases h) (fun _ _ _ _=>trivial) q9 ?_
 repeat' first|(apply nx;with_reducible constructor)|refine jq (by decide) ?_|((first|refine jz env fun Q hQ=>?_|refine jk fun Q hQ=>?_);simp only [vkt,seval,Qje,VG];(try simp only [ite_and]);(repeat' (first|with_reducible assumption|refine dR ?_ ?_|intro hp));all_goals (first|(refine hQ _ ?_;clear hQ Q)|(refine hQ _ (fun h=>?_) (fun h=>?_) <;> clear hQ Q <;> (try simp only [vki,reduceCtorEq] at h))|(refine jx ?_;kernel_rfl)|omega|assumption|with_reducible rfl|skip))
 all_goals (simp only [vrt,Tryz.results146,vkt,seval,VG];refine Fin.val rfl ?_;(try simp only [AV.le]))
 all_goals simp [inB, *]
def sin:List AV->Prop × AV
 |[.v (.int .i64 n),.v (.int .i64 a),.v (.int .i64 b)]=>(True,aB (inB n a b))
 |_=>(False,.junk)
theorem ein {A:Frm->Prop}:qm A Tryz.prog 146 (zU true sin):=ze fun vs hv h=>by
 clear hv
 unfold sin at h ⊢
 split at h
 ·rename_i n a b;clear h
  refine ⟨by first|trivial|(repeat' split) <;> simp [AV.plain,AV.plainL,aI,aB,qx,qb,qy,qw,aTk,cTk],fun _=>(by simp [AV.flat,aB]), ?_⟩
  have:=in_fn n a b
  simp only [aI] at this
  first|exact this|(simp only [aI];exact this)
 ·exact h.elim
def KZ:=jv @ty3 @ti3.eq_1
theorem Qbc (n a b:Int):FnV Tryz.prog 145 [aI n,aI a,aI b] (aI (zH n a b)):=by
 have env:Env (fun _=>True) Tryz.prog tyB (tab []):=qB trivial
 refine Fn.of (A:=fun _=>True) (n0:=0) (D:=noD) (Fn0 Tryz.func145 rfl (fun vs w=>by kernel_rfl) (by kernel_rfl)) (by simp) (by simp [AV.ids,aI]) (fun i o h=>by cases h) (fun _ _ _ _=>trivial) q9 ?_
 repeat' first|(apply nx;with_reducible constructor)|refine jq (by decide) ?_|((first|refine jz env fun Q hQ=>?_|refine jk fun Q hQ=>?_);simp only [vkt,seval,KZ,VG];(try simp only [ite_and]);(repeat' (first|with_reducible assumption|refine dR ?_ ?_|intro hp));all_goals (first|(refine hQ _ ?_;clear hQ Q)|(refine hQ _ (fun h=>?_) (fun h=>?_) <;> clear hQ Q <;> (try simp only [vki] at h))|(refine jx ?_;kernel_rfl)|omega|assumption|with_reducible rfl|skip))
 all_goals (simp only [vrt,Tryz.results145,vkt,seval,VG];refine Fin.val rfl ?_;(try simp only [AV.le]))
 all_goals (unfold zH;simp [*])
 all_goals omega
def vU:List AV->Prop × AV
 |[.v (.int .i64 n),.v (.int .i64 a),.v (.int .i64 b)]=>(True,aI (zH n a b))
 |_=>(False,.junk)
theorem UQ {A:Frm->Prop}:qm A Tryz.prog 145 (zU true vU):=ze fun vs hv h=>by
 clear hv
 unfold vU at h ⊢
 split at h
 ·rename_i n a b;clear h
  refine ⟨by first|trivial|(repeat' split) <;> simp [AV.plain,AV.plainL,aI,aB,qx,qb,qy,qw,aTk,cTk],fun _=>(by simp [AV.flat,aI]), ?_⟩
  have:=Qbc n a b
  simp only [aI] at this
  first|exact this|(simp only [aI];exact this)
 ·exact h.elim
def Qev:=jv @ty3 (jv @yc (jv @ti3.eq_1 @jM.eq_1))
theorem Qh9 (a b:Tk):FnV Tryz.prog 183 [aTk a,aTk b] (aB (Wl a b)):=by
 have env:Env (fun _=>True) Tryz.prog tyB (tab []):=qB trivial
 refine Fn.of (A:=fun _=>True) (n0:=0) (D:=noD) (Fn0 Tryz.func183 rfl (fun vs w=>by kernel_rfl) (by kernel_rfl)) (by simp) (by simp [AV.ids,AV.idsL,aTk,cTk]) (fun i o h=>by cases h) (fun _ _ _ _=>trivial) q9 ?_
 repeat' first|(apply nx;with_reducible constructor)|refine jq (by decide) ?_|((first|refine jz env fun Q hQ=>?_|refine jk fun Q hQ=>?_);simp only [vkt,seval,Qev,aTk,cTk];(try simp only [ite_and]);(repeat' (first|with_reducible assumption|refine dR ?_ ?_|intro hp));all_goals (first|(refine hQ _ ?_;clear hQ Q)|(refine hQ _ (fun h=>?_) (fun h=>?_) <;> clear hQ Q <;> (try simp only [vki,reduceCtorEq] at h))|(refine jx ?_;kernel_rfl)|omega|assumption|with_reducible rfl|skip))
 all_goals (simp only [vrt,Tryz.results183,vkt,seval,VG];refine Fin.val rfl ?_;(try simp only [AV.le]))
 all_goals simp [Wl, *]
def X3:List AV->Prop × AV
 |[.agg [.v (.int .i64 a0),.v (.int .i64 a1),.v (.int .i64 a2),.v (.int .i64 a3),.v (.int .i64 a4),.v (.int .i64 a5),.v (.bool a6)],.agg [.v (.int .i64 b0),.v (.int .i64 b1),.v (.int .i64 b2),.v (.int .i64 b3),.v (.int .i64 b4),.v (.int .i64 b5),.v (.bool b6)]]=>(True,aB (Wl (⟨a0,a1,a2,a3,a4,a5,a6⟩:Tk) (⟨b0,b1,b2,b3,b4,b5,b6⟩:Tk)))
 |_=>(False,.junk)
theorem QjU {A:Frm->Prop}:qm A Tryz.prog 183 (zU true X3):=ze fun vs hv h=>by
 clear hv
 unfold X3 at h ⊢
 split at h
 ·rename_i a0 a1 a2 a3 a4 a5 a6 b0 b1 b2 b3 b4 b5 b6;clear h
  refine ⟨by first|trivial|(repeat' split) <;> simp [AV.plain,AV.plainL,aI,aB,qx,qb,qy,qw,aTk,cTk],fun _=>(by simp [AV.flat,aB]), ?_⟩
  have:=Qh9 (⟨a0,a1,a2,a3,a4,a5,a6⟩:Tk) (⟨b0,b1,b2,b3,b4,b5,b6⟩:Tk)
  simp only [aB,aTk,cTk] at this
  first|exact this|(simp only [aB,aI,aTk,cTk];exact this)
 ·exact h.elim
def QfC:=jv @ty3 (jv @ty4 (jv @xy (jv @yc (jv @ti3.eq_1 (jv @ti4.eq_1 (jv @yY.eq_1 @jM.eq_1))))))
def QgQ:=jv @aI.eq_1 (@aB.eq_1)
theorem QlS (a b:Tk):FnV Tryz.prog 185 [aTk a,aTk b] (aB (Yl a b)):=by
 have env:Env (fun _=>True) Tryz.prog tyB (tab [(183,zU true X3)]):=qB ⟨QjU,trivial⟩
 refine Fn.of (A:=fun _=>True) (n0:=0) (D:=noD) (Fn0 Tryz.func185 rfl (fun vs w=>by kernel_rfl) (by kernel_rfl)) (by simp) (by simp [AV.ids,AV.idsL,aTk,cTk]) (fun i o h=>by cases h) (fun _ _ _ _=>trivial) q9 ?_
 have em:Wl ⟨a.party,a.sex,a.cab,a.bed,a.frm,a.to,a.dog⟩ ⟨b.party,b.sex,b.cab,b.bed,b.frm,b.to,b.dog⟩=Wl a b:=rfl
 repeat' first|(apply nx;with_reducible constructor)|refine jq (by decide) ?_|((first|refine jz env fun Q hQ=>?_|refine jk fun Q hQ=>?_);simp only [vkt,seval,QfC,QgQ,aTk,cTk,X3,em];(try simp only [ite_and]);(repeat' (first|with_reducible assumption|refine dR ?_ ?_|intro hp));all_goals (first|(refine hQ _ ?_;clear hQ Q)|(refine hQ _ (fun h=>?_) (fun h=>?_) <;> clear hQ Q <;> (try simp only [vki,reduceCtorEq] at h))|(refine jx ?_;kernel_rfl)|omega|assumption|with_reducible rfl|skip))
 all_goals (simp only [vrt,Tryz.results185,vkt,seval,QgQ];refine Fin.val rfl ?_;(try simp only [AV.le]))
 all_goals first|(simp [Yl, *];done)|(simp_all [Yl];done)
def stog:List AV->Prop × AV
 |[.agg [.v (.int .i64 a0),.v (.int .i64 a1),.v (.int .i64 a2),.v (.int .i64 a3),.v (.int .i64 a4),.v (.int .i64 a5),.v (.bool a6)],.agg [.v (.int .i64 b0),.v (.int .i64 b1),.v (.int .i64 b2),.v (.int .i64 b3),.v (.int .i64 b4),.v (.int .i64 b5),.v (.bool b6)]]=>(True,aB (Yl (⟨a0,a1,a2,a3,a4,a5,a6⟩:Tk) (⟨b0,b1,b2,b3,b4,b5,b6⟩:Tk)))
 |_=>(False,.junk)
theorem etog {A:Frm->Prop}:qm A Tryz.prog 185 (zU true stog):=ze fun vs hv h=>by
 clear hv
 unfold stog at h ⊢
 split at h
 ·rename_i a0 a1 a2 a3 a4 a5 a6 b0 b1 b2 b3 b4 b5 b6;clear h
  refine ⟨by first|trivial|(repeat' split) <;> simp [AV.plain,AV.plainL,aI,aB,qx,qb,qy,qw,aTk,cTk],fun _=>(by simp [AV.flat,aB]), ?_⟩
  have:=QlS (⟨a0,a1,a2,a3,a4,a5,a6⟩:Tk) (⟨b0,b1,b2,b3,b4,b5,b6⟩:Tk)
  simp only [aB,aTk,cTk] at this
  first|exact this|(simp only [aB,aI,aTk,cTk];exact this)
 ·exact h.elim
def Qhs:=jv @ty3 (jv @jW (jv @ti3.eq_1 @jE.eq_1))
def Qfy:=jv @aI.eq_1 (@aB.eq_1)
theorem Qlf (c:Chart) (a b:Int):FnV Tryz.prog 147 [qh c,aI a,aI b] (aI (ZU c.secs a b)):=by
 have env:Env (fun _=>True) Tryz.prog tyB (tab []):=qB trivial
 refine Fn.of (A:=fun _=>True) (n0:=0) (D:=noD) (Fn0 Tryz.func147 rfl (fun vs w=>by kernel_rfl) (by kernel_rfl)) (by simp) (by simp [AV.ids,AV.idsL,aI,qh,qd]) (fun i o h=>by cases h) (fun _ _ _ _=>trivial) q9 ?_
 repeat' first|(apply nx;with_reducible constructor)|refine jq (by decide) ?_|((first|refine jz env fun Q hQ=>?_|refine jk fun Q hQ=>?_);simp only [vkt,seval,Qhs,Qfy,qh,qd];(try simp only [ite_and]);(repeat' (first|with_reducible assumption|refine dR ?_ ?_|intro hp));all_goals (first|(refine hQ _ ?_;clear hQ Q)|(refine hQ _ (fun h=>?_) (fun h=>?_) <;> clear hQ Q <;> (try simp only [vki,reduceCtorEq] at h))|(refine jx ?_;kernel_rfl)|omega|assumption|with_reducible rfl|skip))
 all_goals (simp only [vrt,Tryz.results147,vkt,seval,Qfy];refine Fin.val rfl ?_;(try simp only [AV.le]))
 all_goals (unfold ZU;simp [*])
 all_goals omega
def Uf:List AV->Prop × AV
 |[.agg [.sl c0,.v (.int .i64 c1),.sl c2],.v (.int .i64 a),.v (.int .i64 b)]=>(c0=(c0.map qp).map qo/\c2=(c2.map dTk).map eTk,aI (ZU c1 a b))
 |_=>(False,.junk)
theorem eway {A:Frm->Prop}:qm A Tryz.prog 147 (zU true Uf):=ze fun vs hv h=>by
 clear hv
 unfold Uf at h ⊢
 split at h
 ·rename_i c0 c1 c2 a b;obtain ⟨q0,q1⟩:=h
  refine ⟨by first|trivial|(repeat' split) <;> simp [AV.plain,AV.plainL,aI,aB,qx,qb,qy,qw,aTk,cTk],fun _=>(by simp [AV.flat,aI]), ?_⟩
  have:=Qlf ⟨c0.map qp,c1,c2.map dTk⟩ a b
  simp only [qh,aI,qd,<- q0,<- q1] at this
  first|exact this|(simp only [wH,qh,aI,qy,qd,<- q0,<- q1];exact this)
 ·exact h.elim
theorem Qbv {Z β:Type} (f:Z->List β) (d:β) (da:Z):∀ (l:List Z) (i k:Nat),i < l.length->k < (f (l.getD i da)).length->(l.flatMap f).getD (((l.take i).map fun a=>(f a).length).sum+k) d=(f (l.getD i da)).getD k d
 |[],i,_,h,_=>by simp at h
 |a :: l,0,k,_,hk=>by
  have hk:k < (f a).length:=hk
  rw [bZ,dn,au,List.sum_nil,bj,ah,bp hk,<- ah]
  rfl
 |a :: l,i+1,k,h,hk=>by
  have ih:=Qbv f d da l i k (by simpa using h) (by simpa using hk)
  rw [bZ,cI,af,cV,ah,bv (by omega),<- ah,show (f a).length+((l.take i).map fun a=>(f a).length).sum+k - (f a).length=((l.take i).map fun a=>(f a).length).sum+k by omega,ih]
  rfl
theorem Qhv {Z β:Type} (f:Z->List β) (l:List Z):(l.flatMap f).length=(l.map fun a=>(f a).length).sum:=by
 rw [List.length_flatMap]
theorem WU {g:List Nat} {i:Nat} (h:i < g.length):(g.take (i+1)).sum=(g.take i).sum+g.getD i 0:=by
 rw [bP h,List.sum_append]
 simp [ah,h]
theorem vL {g:List Nat}:∀ {i j:Nat},i<=j->(g.take i).sum<=(g.take j).sum:=by
 induction g with
 |nil=>simp
 |cons a g ih =>
  intro i j h
  cases i with
  |zero=>simp
  |succ i =>
   cases j with
   |zero=>omega
   |succ j =>
    simp only [cI,cV]
    have:=ih (show i<=j by omega)
    omega
theorem U2:∀ (g:List Nat) (q:Nat),q < g.sum->∃ i,i < g.length/\(g.take i).sum<=q/\q < (g.take (i+1)).sum
 |[],q,h=>by simp at h
 |a :: g,q,h=>by
  rw [cV] at h
  by_cases h1:q < a
  ·exact ⟨0,by simp,by simp,by simpa using h1⟩
  ·obtain ⟨i,h2,h3,h4⟩:=U2 g (q - a) (by omega)
   refine ⟨i+1,by simpa using h2, ?_, ?_⟩
   ·rw [cI,cV];omega
   ·rw [cI,cV];omega
def vS (ans:Nat->Bool) (R:Nat):Bool:=decide (R=0) || ans (R - 1)
theorem nest (g:List Nat) {ans:Nat->Bool} {R:Nat} (h:Rounds ans R g.sum):∃ (RB:Nat) (ansB:Nat->Bool),Rounds ansB RB g.length /\
  (∀ i,i < RB->(g.take i).sum<=R/\Rounds (fun j=>ans ((g.take i).sum+j)) (min (g.getD i 0) (R - (g.take i).sum)) (g.getD i 0)/\ansB i=vS (fun j=>ans ((g.take i).sum+j)) (min (g.getD i 0) (R - (g.take i).sum)) /\
   min (g.take (i+1)).sum R=(g.take i).sum+min (g.getD i 0) (R - (g.take i).sum))/\min (g.take RB).sum R=R/\vS ans R=vS ansB RB:=by
 have hle:=h.le
 by_cases hB:0 < R/\ans (R - 1)=false
 ·obtain ⟨hR,hf⟩:=hB
  obtain ⟨i,hi,h1,h2⟩:=U2 g (R - 1) (by omega)
  refine ⟨i+1,fun k=>decide (k ≠ i),⟨hi,fun j hj=>by simp;omega,fun _=>⟨by omega,by simp⟩⟩,fun k hk=>?_,by omega, ?_⟩
  ·have hkl:k < g.length:=by omega
   have ho:=vL (g:=g) (show k<=i by omega)
   have hs:=WU hkl
   have hoR:(g.take k).sum<=R:=by omega
   refine ⟨hoR,⟨Nat.min_le_left _ _,fun j hj=>h.yes _ (by omega),fun hlt=>⟨by omega, ?_⟩⟩, ?_,by omega⟩
   ·show ans _=false
    rw [show (g.take k).sum+(min (g.getD k 0) (R - (g.take k).sum) - 1)=R - 1 by omega];exact hf
   ·by_cases hki:k=i
    ·subst hki
     have e:(g.take k).sum+(min (g.getD k 0) (R - (g.take k).sum) - 1)=R - 1:=by omega
     have e0:¬ min (g.getD k 0) (R - (g.take k).sum)=0:=by omega
     simp only [vS,e,hf,e0,ne_eq,not_true_eq_false,decide_false,Bool.or_self]
    ·have h3:=vL (g:=g) (show k+1<=i by omega)
     have e1:min (g.getD k 0) (R - (g.take k).sum)=g.getD k 0:=by omega
     rw [e1]
     by_cases h0:g.getD k 0=0
     ·simp [-List.getD_eq_getElem?_getD,vS,h0,hki]
     ·have:=h.yes ((g.take k).sum+(g.getD k 0 - 1)) (by omega)
      simp [-List.getD_eq_getElem?_getD,vS,h0,hki,this]
  ·simp [vS,hf,show ¬ R=0 by omega]
 ·have hRN:R=g.sum:=by
   refine Nat.le_antisymm hle (Nat.le_of_not_lt fun hlt=>?_)
   exact hB (h.stop hlt)
  have hall:∀ j,j < R->ans j=true:=fun j hj=>by
   by_cases hj1:j+1 < R
   ·exact h.yes j hj1
   ·have:j=R - 1:=by omega
    subst this
    cases ha:ans (R - 1) with
    |true=>rfl
    |false=>exact absurd ⟨by omega,ha⟩ hB
  have hfull:(g.take g.length).sum=g.sum:=by rw [bF]
  refine ⟨g.length,fun _=>true,⟨aA _,fun _ _=>rfl,fun h=>absurd h (dp _)⟩,fun k hk=>?_,by omega, ?_⟩
  ·have hs:=WU hk
   have h3:=vL (g:=g) (show k+1<=g.length by omega)
   have e1:min (g.getD k 0) (R - (g.take k).sum)=g.getD k 0:=by omega
   refine ⟨by omega, ?_, ?_,by omega⟩
   ·rw [e1]
    exact ⟨aA _,fun j hj=>hall _ (by omega),fun h=>absurd h (dp _)⟩
   ·rw [e1]
    by_cases h0:g.getD k 0=0
    ·simp [-List.getD_eq_getElem?_getD,vS,h0]
    ·simp [-List.getD_eq_getElem?_getD,vS,h0,hall ((g.take k).sum+(g.getD k 0 - 1)) (by omega)]
  ·by_cases h0:R=0
   ·simp [vS,h0]
   ·simp [vS,hall (R - 1) (by omega)]
def QK (cs:List Cabin):List Nat:=cs.map fun x=>x.beds.toNat
theorem Jb (cs:List Cabin):qW cs=(List.range cs.length).flatMap fun i=>(List.range (cs.getD i default).beds.toNat).map fun (k:Nat)=>(⟨(i:Int),(k:Int)⟩:Bunk):=rfl
theorem Qag (cs:List Cabin) {i:Nat} (hi:i<=cs.length):(((List.range cs.length).take i).map fun (j:Nat)=>(List.map (fun (k:Nat)=>(⟨(j:Int),(k:Int)⟩:Bunk)) (List.range (cs.getD j default).beds.toNat)).length)=(QK cs).take i:=by
 apply List.ext_getElem
 ·simp [QK]
 ·intro n h1 h2
  simp only [aj,be,dq] at h1
  have hn:n < cs.length:=by omega
  simp [QK,ah,hn]
theorem Qdz (cs:List Cabin):(qW cs).length=(QK cs).sum:=by
 rw [Jb,Qhv]
 have:=Qag cs (aA cs.length)
 rw [bJ (by simp),bJ (by simp [QK])] at this
 rw [this]
theorem QdG {cs:List Cabin} {i k:Nat} (hi:i < cs.length) (hk:k < (cs.getD i default).beds.toNat):(qW cs).getD (((QK cs).take i).sum+k) default=⟨(i:Int),(k:Int)⟩:=by
 have hr:(List.range cs.length).getD i 0=i:=by simp [ah,hi]
 have:=Qbv (fun i=>(List.range (cs.getD i default).beds.toNat).map fun (k:Nat)=>(⟨(i:Int),(k:Int)⟩:Bunk)) default 0 (List.range cs.length) i k (by simpa using hi) (by rw [hr];simpa using hk)
 rw [Qag cs (by omega),hr] at this
 rw [Jb,this]
 generalize (cs.getD i default).beds.toNat=m at hk ⊢
 simp [ah,hk]
theorem Uk {cs:List Cabin} {b:Bunk}:b ∈ qW cs ↔ ∃ i k:Nat,i < cs.length/\k < (cs.getD i default).beds.toNat/\b=⟨(i:Int),(k:Int)⟩:=by
 rw [Jb,cZ]
 constructor
 ·rintro ⟨i,hi,hb⟩
  obtain ⟨k,hk,rfl⟩:=am.1 hb
  exact ⟨i,k,aX.1 hi,aX.1 hk,rfl⟩
 ·rintro ⟨i,k,hi,hk,rfl⟩
  exact ⟨i,aX.2 hi,am.2 ⟨k,aX.2 hk,rfl⟩⟩
theorem Qjo {cs:List Cabin} {i:Nat} (hi:i < cs.length):(QK cs).getD i 0=(cs.getD i default).beds.toNat:=by
 simp [QK,ah,hi]
def Uh (p:Tk->Bool) (l:List Tk):Int:=match l.findIdx? p with
 |some i=>(i:Int)
 |none=>-1
theorem Qf1 {p:Tk->Bool} {l:List Tk} {k:Nat} (hk:k < l.length) (h:∀ j,j < k->p (l.getD j default)=false) (hp:p (l.getD k default)=true):Uh p l=(k:Int):=by
 have:l.findIdx? p=some k:=by
  rw [dt]
  refine ⟨hk,by simpa [ah,hk] using hp,fun j hj=>?_⟩
  have:=h j hj
  simpa [ah,show j < l.length by omega] using this
 simp [Uh,this]
theorem QdN {p:Tk->Bool} {l:List Tk} (h:∀ j,j < l.length->p (l.getD j default)=false):Uh p l=-1:=by
 have:l.findIdx? p=none:=by
  rw [du]
  intro x hx
  obtain ⟨j,hj,rfl⟩:=cG.1 hx
  have:=h j hj
  simpa [ah,hj] using this
 simp [Uh,this]
theorem Qge (p:Tk->Bool) (l:List Tk):decide (0<=Uh p l)=l.any p:=by
 unfold Uh
 cases h:l.findIdx? p with
 |none =>
  rw [du] at h
  symm
  simpa using h
 |some i =>
  rw [dt] at h
  obtain ⟨hi,hp,_⟩:=h
  symm
  simp only [cJ,decide_true,cm]
  exact ⟨_,bH hi,hp⟩
structure PCs (cs:List AV):Prop where
 ids:AV.idsL cs=[]
 le:∀ h σ,AV.leL h σ cs cs=True
 ren:∀ τ,AV.renL τ cs=cs
theorem QgN (t:Tk):PCs (cTk t):=⟨by simp [cTk,AV.idsL,AV.ids],by simp [cTk,AV.leL,AV.le],by simp [cTk,AV.renL,AV.ren]⟩
def pTk (cs:List AV) (p:Tk->Bool) (S:St):List AV->Option Pk
 |[.agg [.v (.int .i64 a),.v (.int .i64 b),.v (.int .i64 c),.v (.int .i64 d),.v (.int .i64 e),.v (.int .i64 f),.v (.bool g)],.ptr t 0]=>match S.h t with
  |some (.cells cs')=>some { pre:=cs'=cs,hs:=[t],ar:=[.agg [.v (.int .i64 a),.v (.int .i64 b),.v (.int .i64 c),.v (.int .i64 d),.v (.int .i64 e),.v (.int .i64 f),.v (.bool g)],.ptr 0 0],L0:=[.cells cs],v:=aB (p ⟨a,b,c,d,e,f,g⟩),L1:=[some (.cells cs)] }
  |_=>none
 |_=>none
def Wq (cl:Nat) (cs:List AV) (p:Tk->Bool):Prop:=∀ x,Fn noB Tryz.prog cl [aTk x,.ptr 0 0] (qa [(0,.cells cs)]) (aB (p x)) (qa [(0,.cells cs)]) 0
theorem eTkp {A:Frm->Prop} {cl:Nat} {cs:List AV} {p:Tk->Bool} (h0:Wq cl cs p):qm A Tryz.prog cl (fnE (pTk cs p)):=zB fun S bs q h hp=>by
 unfold pTk at h
 split at h
 ·split at h
  ·rename_i a b c d e f g t _ cs' _
   cases h
   exact h0 ⟨a,b,c,d,e,f,g⟩
  ·cases h
 ·cases h
def ixS (l:List Tk) (cl:Nat) (cs:List AV) (k:Nat):St:={ t:=asg [(0,qy l),(1,.clo cl [.ptr 0 0]),(4,aI 0),(6,qy l),(7,aI l.length),(8,aI k)],h:=qa [(0,.cells cs)],n:=1,m:=1 }
def QI:=jv @ty3 (jv @xW (jv @yc (jv @ti3.eq_1 (jv @vW.eq_1 @jM.eq_1))))
def Ws:=jv @aI.eq_1 (jv @aB.eq_1 (@ixS.eq_1))
theorem Qe4 {cl:Nat} {cs:List AV} {p:Tk->Bool} (hc:PCs cs) (h0:Wq cl cs p) (l:List Tk) (hl:l.length<=100):Fn noB Tryz.prog 208 [qy l,.clo cl [.ptr 0 0]] (qa [(0,.cells cs)]) (aI (Uh p l)) (qa [(0,.cells cs)]) 0:=by
 have env:=qB (A:=fun _=>True) (kC (eTkp h0) kN)
 obtain ⟨c1,c2,c4⟩:=hc
 refine Fn.of (A:=fun _=>True) (n0:=1) (D:=noD) (Fn0 Tryz.func208 rfl (fun vs w=>by kernel_rfl) (by kernel_rfl)) (by simp) (by simp [AV.ids,AV.idsL,qy]) ?_ (fun _ _ _ _=>trivial) q9 ?_
 ·intro i o hi
  have h:=qE hi
  simp at h;obtain ⟨rfl,rfl⟩:=h;simp [AObj.ids,c1]
 repeat' first|(apply nx;with_reducible constructor)|apply jq (by decide)|((first|apply jz env|apply jw);intro Q hQ;simp only [vkt,seval,QI,qy,ite_and];(repeat' first|with_reducible assumption|apply jv|intro hp);all_goals first|(apply hQ;clear hQ Q)|(apply jx;kernel_rfl)|omega|assumption|with_reducible rfl|skip)
 refine qY (fun k:{ k:Nat // k<=l.length/\∀ j,j < k->p (l.getD j default)=false }=>ixS l cl cs k.1) (fun k=>l.length - k.1) ⟨0,ap _,fun j h=>absurd h (bu _)⟩ ?_ fun ⟨k,hk,hno⟩=>?_
 ·(refine Le.ok some [] ?_;constructor;all_goals (try simp only [vle,vkt,seval,Ws,qy]))
  all_goals first|rfl|(simp [c1,c2];done)
 ·repeat' first|(apply nx;with_reducible constructor)|apply jq (by decide)
  (apply jz env;intro Q hQ;simp only [vkt,seval,QI,Ws,qy,ite_and];(repeat' first|with_reducible assumption|apply jv|intro hp);all_goals first|(apply hQ;clear hQ Q)|(apply jx;kernel_rfl)|omega|assumption|with_reducible rfl|skip)
  repeat' first|(apply nx;with_reducible constructor)|apply jq (by decide)
  (refine jc (by simp only [vkt,seval];rfl) (fun h=>?_) (fun h=>?_) <;> (try simp only [vki] at h))
  ·have hlt:k < l.length:=by omega
   have e9:=k9 k (by omega)
   obtain ⟨x,hx⟩:∃ x,l.getD k default=x:=⟨_,rfl⟩
   have ex:(⟨x.party,x.sex,x.cab,x.bed,x.frm,x.to,x.dog⟩:Tk)=x:=rfl
   cases hp:p x
   ·repeat' first|(apply nx;with_reducible constructor)|apply jq (by decide)|((first|apply jz env|apply jw);intro Q hQ;simp only [vkt,seval,QI,Ws,eTk,gTk,pTk,hx,ex,hp,e9,c1,c2,c4,ite_and];(repeat' first|with_reducible assumption|apply jv|intro hp);all_goals first|(apply hQ;clear hQ Q)|(apply jx;kernel_rfl)|omega|assumption|with_reducible rfl|skip)
    refine ⟨⟨k+1,hlt,fun j hj=>?_⟩,by show l.length - (k+1) < l.length - k;omega, ?_⟩
    ·rcases bw (bx hj) with h1|h1
     ·exact hno j h1
     ·rw [h1,hx];exact hp
    ·(refine Le.ok some [] ?_;constructor;all_goals (try simp only [vle,vkt,seval,Ws,qy]))
     all_goals first|rfl|(simp [c1,c2];done)
   ·have hh:=Qf1 hlt hno (by rw [hx];exact hp)
    rw [hh]
    repeat' first|(apply nx;with_reducible constructor)|apply jq (by decide)|((first|apply jz env|apply jw);intro Q hQ;simp only [vkt,seval,QI,Ws,eTk,gTk,pTk,hx,ex,hp,c1,c2,c4,ite_and];(repeat' first|with_reducible assumption|apply jv|intro hp);all_goals first|(apply hQ;clear hQ Q)|(apply jx;kernel_rfl)|omega|assumption|with_reducible rfl|skip)
    (simp only [vrt,Tryz.results208,vkt,seval,Ws];refine Fin.ok some [] ?_ ?_ ?_ ?_ ?_ rfl;all_goals (try simp only [vle,vkt,seval]))
    all_goals first|rfl|(simp [c2];done)
  ·have hke:k=l.length:=by omega
   subst hke
   rw [QdN hno]
   repeat' first|(apply nx;with_reducible constructor)|apply jq (by decide)|((first|apply jz env|apply jw);intro Q hQ;simp only [vkt,seval,ite_and];(repeat' first|with_reducible assumption|apply jv|intro hp);all_goals first|(apply hQ;clear hQ Q)|(apply jx;kernel_rfl)|omega|assumption|with_reducible rfl|skip)
   (simp only [vrt,Tryz.results208,vkt,seval,Ws];refine Fin.ok some [] ?_ ?_ ?_ ?_ ?_ rfl;all_goals (try simp only [vle,vkt,seval]))
   all_goals first|rfl|(simp [c2];done)
def pIdx (cl:Nat) (cs:List AV) (p:Tk->Bool) (S:St):List AV->Option Pk
 |[.sl xs,.clo f [.ptr t 0]]=>match S.h t with
  |some (.cells cs')=>some { pre:=f=cl/\cs'=cs/\xs=(xs.map dTk).map eTk/\xs.length<=100,hs:=[t],ar:=[.sl xs,.clo cl [.ptr 0 0]],L0:=[.cells cs],v:=aI (Uh p (xs.map dTk)),L1:=[some (.cells cs)] }
  |_=>none
 |_=>none
theorem eIdx {A:Frm->Prop} {cl:Nat} {cs:List AV} {p:Tk->Bool} (hc:PCs cs) (h0:Wq cl cs p):qm A Tryz.prog 208 (fnE (pIdx cl cs p)):=zB fun S bs q h hp=>by
 unfold pIdx at h
 split at h
 ·split at h
  ·cases h
   obtain ⟨_,_,h1,h2⟩:=hp
   have:=Qe4 hc h0 (List.map dTk _) (by rw [aj];exact h2)
   rw [qy,<- h1] at this
   exact this
  ·cases h
 ·cases h
def Qeq:=jv @ty3 @ti3.eq_1
def QfM:=jv @aI.eq_1 (@aB.eq_1)
theorem RI {cl:Nat} {cs:List AV} {p:Tk->Bool} (hc:PCs cs) (h0:Wq cl cs p) (l:List Tk) (hl:l.length<=100):Fn noB Tryz.prog 171 [qy l,.clo cl [.ptr 0 0]] (qa [(0,.cells cs)]) (aB (l.any p)) (qa [(0,.cells cs)]) 0:=by
 have env:=qB (A:=fun _=>True) (kC (eIdx hc h0) kN)
 obtain ⟨c1,c2,c4⟩:=hc
 refine Fn.of (A:=fun _=>True) (n0:=1) (D:=noD) (Fn0 Tryz.func171 rfl (fun vs w=>by kernel_rfl) (by kernel_rfl)) (by simp) (by simp [AV.ids,AV.idsL,qy]) ?_ (fun _ _ _ _=>trivial) q9 ?_
 ·intro i o hi
  have h:=qE hi
  simp at h;obtain ⟨rfl,rfl⟩:=h;simp [AObj.ids,c1]
 repeat' first|(apply nx;with_reducible constructor)|apply jq (by decide)|((first|apply jz env|apply jw);intro Q hQ;simp only [vkt,seval,Qeq,QfM,qy,mTk,pIdx,c1,c2,c4,ite_and];(repeat' first|with_reducible assumption|apply jv|intro hp);all_goals first|(apply hQ;clear hQ Q)|(apply jx;kernel_rfl)|omega|assumption|with_reducible rfl|skip)
 (simp only [vrt,Tryz.results171,Qge,vkt,seval,QfM];refine Fin.ok some [] ?_ ?_ ?_ ?_ ?_ rfl;all_goals (try simp only [vle,vkt,seval]))
 all_goals first|rfl|(simp [c2];done)
def QeH:=jv @xy (jv @yc (jv @yY.eq_1 @jM.eq_1))
def X6:=jv @aI.eq_1 (@aB.eq_1)
theorem QiK (t:Tk):Wq 182 (cTk t) (Zp t):=fun x=>by
 have env:Env (fun _=>True) Tryz.prog tyB (tab [(183,zU true X3)]):=qB ⟨QjU,trivial⟩
 refine Fn.of (A:=fun _=>True) (n0:=1) (D:=noD) (Fn0 Tryz.func182 rfl (fun vs w=>by kernel_rfl) (by kernel_rfl)) (by simp) (by simp [AV.ids,AV.idsL,aTk,cTk]) ?_ (fun _ _ _ _=>trivial) q9 ?_
 ·intro i o hi
  have h:=qE hi
  simp at h;obtain ⟨rfl,rfl⟩:=h;simp [cTk,AObj.ids,AV.ids,AV.idsL]
 have em:Wl ⟨x.party,x.sex,x.cab,x.bed,x.frm,x.to,x.dog⟩ ⟨t.party,t.sex,t.cab,t.bed,t.frm,t.to,t.dog⟩=Wl x t:=rfl
 repeat' first|(apply nx;with_reducible constructor)|refine jq (by decide) ?_|((first|refine jz env fun Q hQ=>?_|refine jk fun Q hQ=>?_);simp only [vkt,seval,QeH,X6,aTk,cTk,X3,em];(try simp only [ite_and]);(repeat' (first|with_reducible assumption|refine dR ?_ ?_|intro hp));all_goals (first|(refine hQ _ ?_;clear hQ Q)|(refine hQ _ (fun h=>?_) (fun h=>?_) <;> clear hQ Q <;> (try simp only [vki,reduceCtorEq] at h))|(refine jx ?_;kernel_rfl)|omega|assumption|with_reducible rfl|skip))
 all_goals (simp only [vrt,Tryz.results182,vkt,seval,X6,cTk];refine Fin.ok some [] ?_ ?_ ?_ ?_ ?_ rfl;all_goals (try simp only [vle,vkt,seval]))
 all_goals first|rfl|(simp [Zp, *];done)|(simp_all [Zp];done)
def Qd6:=jv @yc @jM.eq_1
theorem QiY (t:Tk):Wq 184 (cTk t) (fun x=>!Yl x t):=fun x=>by
 have env:Env (fun _=>True) Tryz.prog tyB (tab [(185,zU true stog)]):=qB ⟨etog,trivial⟩
 refine Fn.of (A:=fun _=>True) (n0:=1) (D:=noD) (Fn0 Tryz.func184 rfl (fun vs w=>by kernel_rfl) (by kernel_rfl)) (by simp) (by simp [AV.ids,AV.idsL,aTk,cTk]) ?_ (fun _ _ _ _=>trivial) q9 ?_
 ·intro i o hi
  have h:=qE hi
  simp at h;obtain ⟨rfl,rfl⟩:=h;simp [cTk,AObj.ids,AV.ids,AV.idsL]
 have em:Yl ⟨x.party,x.sex,x.cab,x.bed,x.frm,x.to,x.dog⟩ ⟨t.party,t.sex,t.cab,t.bed,t.frm,t.to,t.dog⟩=Yl x t:=rfl
 repeat' first|(apply nx;with_reducible constructor)|refine jq (by decide) ?_|((first|refine jz env fun Q hQ=>?_|refine jk fun Q hQ=>?_);simp only [vkt,seval,Qd6,X6,aTk,cTk,stog,em];(try simp only [ite_and]);(repeat' (first|with_reducible assumption|refine dR ?_ ?_|intro hp));all_goals (first|(refine hQ _ ?_;clear hQ Q)|(refine hQ _ (fun h=>?_) (fun h=>?_) <;> clear hQ Q <;> (try simp only [vki,reduceCtorEq] at h))|(refine jx ?_;kernel_rfl)|omega|assumption|with_reducible rfl|skip))
 all_goals (simp only [vrt,Tryz.results184,vkt,seval,X6,cTk];refine Fin.ok some [] ?_ ?_ ?_ ?_ ?_ rfl;all_goals (try simp only [vle,vkt,seval]))
 all_goals first|rfl|simp
def U7 (S:St):List AV->Option Pk
 |[.sl xs,.clo 182 [.ptr t 0]]=>match S.h t with
  |some (.cells [.v (.int .i64 a),.v (.int .i64 b),.v (.int .i64 c),.v (.int .i64 d),.v (.int .i64 e),.v (.int .i64 f),.v (.bool g)])=>some { pre:=xs=(xs.map dTk).map eTk/\xs.length<=100,hs:=[t],ar:=[.sl xs,.clo 182 [.ptr 0 0]],L0:=[.cells (cTk ⟨a,b,c,d,e,f,g⟩)],v:=aB ((xs.map dTk).any (Zp ⟨a,b,c,d,e,f,g⟩)),L1:=[some (.cells (cTk ⟨a,b,c,d,e,f,g⟩))] }
  |_=>none
 |[.sl xs,.clo 184 [.ptr t 0]]=>match S.h t with
  |some (.cells [.v (.int .i64 a),.v (.int .i64 b),.v (.int .i64 c),.v (.int .i64 d),.v (.int .i64 e),.v (.int .i64 f),.v (.bool g)])=>some { pre:=xs=(xs.map dTk).map eTk/\xs.length<=100,hs:=[t],ar:=[.sl xs,.clo 184 [.ptr 0 0]],L0:=[.cells (cTk ⟨a,b,c,d,e,f,g⟩)],v:=aB ((xs.map dTk).any fun x=>!Yl x ⟨a,b,c,d,e,f,g⟩),L1:=[some (.cells (cTk ⟨a,b,c,d,e,f,g⟩))] }
  |_=>none
 |_=>none
theorem eCont {A:Frm->Prop}:qm A Tryz.prog 171 (fnE U7):=zB fun S bs q h hp=>by
 unfold U7 at h
 split at h
 ·split at h
  ·rename_i xs t _ a b c d e f g _
   cases h
   obtain ⟨h1,h2⟩:=hp
   have:=RI (QgN ⟨a,b,c,d,e,f,g⟩) (QiK ⟨a,b,c,d,e,f,g⟩) (xs.map dTk) (by rw [aj];exact h2)
   rw [qy,<- h1] at this
   exact this
  ·cases h
 ·split at h
  ·rename_i xs t _ a b c d e f g _
   cases h
   obtain ⟨h1,h2⟩:=hp
   have:=RI (QgN ⟨a,b,c,d,e,f,g⟩) (QiY ⟨a,b,c,d,e,f,g⟩) (xs.map dTk) (by rw [aj];exact h2)
   rw [qy,<- h1] at this
   exact this
  ·cases h
 ·cases h
def J6:=jv @aI.eq_1 (@aB.eq_1)
theorem QdB (t:Tk) (l:List Tk) (hl:l.length<=100):FnV Tryz.prog 148 [aTk t,qy l] (aI (wI t l)):=by
 have env:=qB (A:=fun _=>True) (kC eCont kN)
 refine kV (Fn0 Tryz.func148 rfl (fun vs w=>by kernel_rfl) (by kernel_rfl)) (by simp) (by simp [AV.ids,AV.idsL,aTk,cTk,qy]) ?_
 have et:(⟨t.party,t.sex,t.cab,t.bed,t.frm,t.to,t.dog⟩:Tk)=t:=rfl
 cases h1:l.any (Zp t)
 ·cases h2:l.any (fun x=>!Yl x t)
  ·rw [show wI t l=0 by simp [wI,h1,h2]]
   repeat' first|(apply nx;with_reducible constructor)|apply jq (by decide)|((first|apply jz env|apply jw);intro Q hQ;simp only [vkt,seval,J6,aTk,cTk,qy,mTk,U7,et,h1,h2,ite_and];(repeat' first|with_reducible assumption|apply jv|intro hp);all_goals first|(apply hQ;clear hQ Q)|(apply jx;kernel_rfl)|omega|assumption|with_reducible rfl|skip)
   (simp only [vrt,Tryz.results148,vkt,seval,J6];refine Fin.val rfl ?_;(try simp only [AV.le]))
   all_goals first|rfl|simp
  ·rw [show wI t l=9 by simp [wI,h1,h2]]
   repeat' first|(apply nx;with_reducible constructor)|apply jq (by decide)|((first|apply jz env|apply jw);intro Q hQ;simp only [vkt,seval,J6,aTk,cTk,qy,mTk,U7,et,h1,h2,ite_and];(repeat' first|with_reducible assumption|apply jv|intro hp);all_goals first|(apply hQ;clear hQ Q)|(apply jx;kernel_rfl)|omega|assumption|with_reducible rfl|skip)
   (simp only [vrt,Tryz.results148,vkt,seval,J6];refine Fin.val rfl ?_;(try simp only [AV.le]))
   all_goals first|rfl|simp
 ·rw [show wI t l=4 by simp [wI,h1]]
  repeat' first|(apply nx;with_reducible constructor)|apply jq (by decide)|((first|apply jz env|apply jw);intro Q hQ;simp only [vkt,seval,J6,aTk,cTk,qy,mTk,U7,et,h1,ite_and];(repeat' first|with_reducible assumption|apply jv|intro hp);all_goals first|(apply hQ;clear hQ Q)|(apply jx;kernel_rfl)|omega|assumption|with_reducible rfl|skip)
  (simp only [vrt,Tryz.results148,vkt,seval,J6];refine Fin.val rfl ?_;(try simp only [AV.le]))
  all_goals first|rfl|simp
def YA:List AV->Prop × AV
 |[.agg [.v (.int .i64 t0),.v (.int .i64 t1),.v (.int .i64 t2),.v (.int .i64 t3),.v (.int .i64 t4),.v (.int .i64 t5),.v (.bool t6)],.sl l]=>(l=(l.map dTk).map eTk/\(l.map dTk).length<=100,aI (wI (⟨t0,t1,t2,t3,t4,t5,t6⟩:Tk) (l.map dTk)))
 |_=>(False,.junk)
theorem QcX {A:Frm->Prop}:qm A Tryz.prog 148 (zU true YA):=ze fun vs hv h=>by
 clear hv
 unfold YA at h ⊢
 split at h
 ·rename_i t0 t1 t2 t3 t4 t5 t6 l;obtain ⟨q0,k0⟩:=h
  refine ⟨by first|trivial|(repeat' split) <;> simp [AV.plain,AV.plainL,aI,aB,qx,qb,qy,qw,aTk,cTk],fun _=>(by simp [AV.flat,aI]), ?_⟩
  have:=QdB (⟨t0,t1,t2,t3,t4,t5,t6⟩:Tk) (l.map dTk) k0
  simp only [aI,aTk,qy,cTk,<- q0] at this
  first|exact this|(simp only [aB,aI,aTk,qy,cTk,<- q0];exact this)
 ·exact h.elim
theorem mapD {Z:Type} [Inhabited Z] {f:Z->Int} {l:List Z} {j:Nat} (h:j < l.length):(l.map f).getD j 0=f (l.getD j default):=by simp [ah,h]
theorem rngD {f:Nat->Int} {n j:Nat} (h:j < n):((List.range n).map f).getD j 0=f j:=by simp [ah,h]
def crS (c:Chart) (k:Nat):St:={ t:=asg [(1,.ptr 0 0),(2,aI 0),(14,.sl (c.cabins.map qo)),(15,aI c.cabins.length),(16,aI k)],h:=qa [(0,.cells (qd c))],n:=1 }
def xH:=jv @ty3 (jv @JH (jv @xW (jv @jW (jv @Zq (jv @JI (jv @yc (jv @ti3.eq_1 (jv @ZW.eq_1 (jv @vW.eq_1 (jv @jE.eq_1 (jv @kY.eq_1 (jv @Z5.eq_1 @jM.eq_1))))))))))))
def vD:=jv @aI.eq_1 (@aB.eq_1)
theorem QkS (c:Chart) (hc:c.cabins.length<=maxLen):FnV Tryz.prog 88 [qh c] (aI (QW c)):=by
 have env:=qB (A:=fun _=>True) (kC ein (kC UQ kN))
 refine kV (Fn0 Tryz.func88 rfl (fun vs w=>by kernel_rfl) (by kernel_rfl)) (by simp) (by simp [AV.ids,AV.idsL,qh,qd]) ?_
 by_cases h1:zH c.cabins.length 1 3=0
 ·have hl:c.cabins.length<=3:=by
   unfold zH at h1
   split at h1
   ·exact absurd h1 (by decide)
   ·split at h1
    ·exact absurd h1 (by decide)
    ·omega
  repeat' first|(apply nx;with_reducible constructor)|apply jq (by decide)|((first|apply jz env|apply jw);intro Q hQ;simp only [vkt,seval,xH,vD,qh,qd,vU,h1,ite_and];(repeat' first|with_reducible assumption|apply jv|intro hp);all_goals first|(apply hQ;clear hQ Q)|(apply jx;kernel_rfl)|omega|assumption|with_reducible rfl|skip)
  refine qY (fun k:{ k:Nat // k<=c.cabins.length/\∀ j,j < k->(c.cabins.map Jw).getD j 0=0 }=>crS c k.1) (fun k=>c.cabins.length - k.1) ⟨0,ap _,fun j h=>absurd h (bu _)⟩ ?_ fun ⟨k,hk,hno⟩=>?_
  ·(refine Le.ok some [] ?_;constructor;all_goals (try simp only [vle,vkt,seval,vD,qd]))
   all_goals first|rfl|simp
  ·repeat' first|(apply nx;with_reducible constructor)|apply jq (by decide)
   (apply jz env;intro Q hQ;simp only [vkt,seval,xH,vD,qd,crS,ite_and];(repeat' first|with_reducible assumption|apply jv|intro hp);all_goals first|(apply hQ;clear hQ Q)|(apply jx;kernel_rfl)|omega|assumption|with_reducible rfl|skip)
   repeat' first|(apply nx;with_reducible constructor)|apply jq (by decide)
   (refine jc (by simp only [vkt,seval];rfl) (fun h=>?_) (fun h=>?_) <;> (try simp only [vki] at h))
   ·have hlt:k < c.cabins.length:=by omega
    have e9:=k9 k (by omega)
    obtain ⟨x,hx⟩:∃ x,c.cabins.getD k default=x:=⟨_,rfl⟩
    have hm:(c.cabins.map Jw).getD k 0=Jw x:=by rw [mapD hlt,hx]
    cases hb:inB x.beds 1 3
    ·have hE:Jw x=1:=by simp [Jw,hb]
     have hf:=Q5 hno (by simpa using hlt) (by rw [hm,hE];decide)
     rw [hm,hE] at hf
     rw [show QW c=1 by unfold QW;rw [if_neg (by rw [h1];simp),hf];simp]
     repeat' first|(apply nx;with_reducible constructor)|apply jq (by decide)|((first|apply jz env|apply jw);intro Q hQ;simp only [vkt,seval,xH,vD,qo,wF,sin,hx,hb,ite_and];(repeat' first|with_reducible assumption|apply jv|intro hp);all_goals first|(apply hQ;clear hQ Q)|(apply jx;kernel_rfl)|omega|assumption|with_reducible rfl|skip)
     (simp only [vrt,Tryz.results88,vkt,seval,vD];refine Fin.val rfl ?_;(try simp only [AV.le]))
     all_goals first|rfl|simp
    ·have hE:Jw x=0:=by simp [Jw,hb]
     repeat' first|(apply nx;with_reducible constructor)|apply jq (by decide)|((first|apply jz env|apply jw);intro Q hQ;simp only [vkt,seval,xH,vD,qo,wF,sin,hx,hb,e9,ite_and];(repeat' first|with_reducible assumption|apply jv|intro hp);all_goals first|(apply hQ;clear hQ Q)|(apply jx;kernel_rfl)|omega|assumption|with_reducible rfl|skip)
     refine ⟨⟨k+1,hlt,fun j hj=>?_⟩,by show c.cabins.length - (k+1) < c.cabins.length - k;omega, ?_⟩
     ·rcases bw (bx hj) with h2|h2
      ·exact hno j h2
      ·rw [h2,hm,hE]
     ·(refine Le.ok some [] ?_;constructor;all_goals (try simp only [vle,vkt,seval,vD,qd]))
      all_goals first|rfl|simp
   ·have hke:k=c.cabins.length:=by omega
    subst hke
    have hf:yu (c.cabins.map Jw)=0:=xJ (by simpa using hno)
    cases hs:inB c.secs 1 5
    ·rw [show QW c=1 by unfold QW;rw [if_neg (by rw [h1];simp),if_neg (by rw [hf];simp),hs];rfl]
     repeat' first|(apply nx;with_reducible constructor)|apply jq (by decide)|((first|apply jz env|apply jw);intro Q hQ;simp only [vkt,seval,xH,vD,sin,hs,ite_and];(repeat' first|with_reducible assumption|apply jv|intro hp);all_goals first|(apply hQ;clear hQ Q)|(apply jx;kernel_rfl)|omega|assumption|with_reducible rfl|skip)
     (simp only [vrt,Tryz.results88,vkt,seval,vD];refine Fin.val rfl ?_;(try simp only [AV.le]))
     all_goals first|rfl|simp
    ·rw [show QW c=zH c.sold.length 0 8 by unfold QW;rw [if_neg (by rw [h1];simp),if_neg (by rw [hf];simp),hs];rfl]
     repeat' first|(apply nx;with_reducible constructor)|apply jq (by decide)|((first|apply jz env|apply jw);intro Q hQ;simp only [vkt,seval,xH,vD,sin,vU,hs,ite_and];(repeat' first|with_reducible assumption|apply jv|intro hp);all_goals first|(apply hQ;clear hQ Q)|(apply jx;kernel_rfl)|omega|assumption|with_reducible rfl|skip)
     (simp only [vrt,Tryz.results88,vkt,seval,vD];refine Fin.val rfl ?_;(try simp only [AV.le]))
     all_goals first|rfl|simp
 ·rw [show QW c=zH c.cabins.length 1 3 by unfold QW;rw [if_pos h1]]
  repeat' first|(apply nx;with_reducible constructor)|apply jq (by decide)|((first|apply jz env|apply jw);intro Q hQ;simp only [vkt,seval,xH,vD,qh,qd,vU,h1,ite_and];(repeat' first|with_reducible assumption|apply jv|intro hp);all_goals first|(apply hQ;clear hQ Q)|(apply jx;kernel_rfl)|omega|assumption|with_reducible rfl|skip)
  (simp only [vrt,Tryz.results88,vkt,seval,vD];refine Fin.val rfl ?_;(try simp only [AV.le]))
  all_goals first|rfl|simp
def scar:List AV->Prop × AV
 |[.agg [.sl c0,.v (.int .i64 c1),.sl c2]]=>(c0=(c0.map qp).map qo/\c2=(c2.map dTk).map eTk/\c0.length<=maxLen,aI (QW (⟨(c0.map qp),c1,(c2.map dTk)⟩:Chart)))
 |_=>(False,.junk)
theorem ecar {A:Frm->Prop}:qm A Tryz.prog 88 (zU true scar):=ze fun vs hv h=>by
 clear hv
 unfold scar at h ⊢
 split at h
 ·rename_i c0 c1 c2;obtain ⟨q0,q1,k0⟩:=h
  refine ⟨by first|trivial|(repeat' split) <;> simp [AV.plain,AV.plainL,aI,aB,qx,qb,qy,qw,aTk,cTk],fun _=>(by simp [AV.flat,aI]), ?_⟩
  have:=QkS (⟨(c0.map qp),c1,(c2.map dTk)⟩:Chart) (by simpa using k0)
  simp only [qh,aI,qd,<- q0,<- q1] at this
  first|exact this|(simp only [wH,qh,aI,qy,qd,<- q0,<- q1];exact this)
 ·exact h.elim
def yJ:=jv @ty3 (jv @JH (jv @jW (jv @Zq (jv @xy (jv @JI (jv @yc (jv @ti3.eq_1 (jv @ZW.eq_1 (jv @jE.eq_1 (jv @kY.eq_1 (jv @yY.eq_1 (jv @Z5.eq_1 @jM.eq_1))))))))))))
def vY:=jv @aI.eq_1 (@aB.eq_1)
theorem QeX (c:Chart) (t:Tk) (l:List Tk) (hc:CarOk c) (hl:l.length<=100):FnV Tryz.prog 89 [qh c,aTk t,qy l] (aI (zY c t l)):=by
 have env:=qB (A:=fun _=>True) (kC ein (kC eway (kC QcX kN)))
 refine kV (Fn0 Tryz.func89 rfl (fun vs w=>by kernel_rfl) (by kernel_rfl)) (by simp) (by simp [AV.ids,AV.idsL,qh,qd,aTk,cTk,qy]) ?_
 have hcl:=hc.cabs
 have et:(⟨t.party,t.sex,t.cab,t.bed,t.frm,t.to,t.dog⟩:Tk)=t:=rfl
 have w1:IntKind.wrap .i64 ((c.cabins.length:Int) - 1)=(c.cabins.length:Int) - 1:=wrap64 (by omega) (by omega)
 have rest:inB t.party 1 99=true->inB t.sex 1 2=true->xm c.cabins t.cab t.bed=true->zY c t l=if ZU c.secs t.frm t.to ≠ 0 then ZU c.secs t.frm t.to else wI t l:=fun a1 a2 a3=>by
  unfold zY;simp [a1,a2,a3]
 cases h1:inB t.party 1 99
 ·rw [show zY c t l=1 by simp [zY,h1]]
  repeat' first|(apply nx;with_reducible constructor)|apply jq (by decide)|((first|apply jz env|apply jw);intro Q hQ;simp only [vkt,seval,yJ,vY,qh,qd,aTk,cTk,qy,sin,h1,ite_and];(repeat' first|with_reducible assumption|apply jv|intro hp);all_goals first|(apply hQ;clear hQ Q)|(apply jx;kernel_rfl)|omega|assumption|with_reducible rfl|skip)
  (simp only [vrt,Tryz.results89,vkt,seval,vY];refine Fin.val rfl ?_;(try simp only [AV.le]))
  all_goals first|rfl|simp
 cases h2:inB t.sex 1 2
 ·rw [show zY c t l=8 by simp [zY,h1,h2]]
  repeat' first|(apply nx;with_reducible constructor)|apply jq (by decide)|((first|apply jz env|apply jw);intro Q hQ;simp only [vkt,seval,yJ,vY,qh,qd,aTk,cTk,qy,sin,h1,h2,ite_and];(repeat' first|with_reducible assumption|apply jv|intro hp);all_goals first|(apply hQ;clear hQ Q)|(apply jx;kernel_rfl)|omega|assumption|with_reducible rfl|skip)
  (simp only [vrt,Tryz.results89,vkt,seval,vY];refine Fin.val rfl ?_;(try simp only [AV.le]))
  all_goals first|rfl|simp
 cases h3:inB t.cab 0 ((c.cabins.length:Int) - 1)
 ·rw [show zY c t l=3 by simp [zY,h1,h2,xm,h3]]
  repeat' first|(apply nx;with_reducible constructor)|apply jq (by decide)|((first|apply jz env|apply jw);intro Q hQ;simp only [vkt,seval,yJ,vY,qh,qd,aTk,cTk,qy,sin,h1,h2,h3,w1,ite_and];(repeat' first|with_reducible assumption|apply jv|intro hp);all_goals first|(apply hQ;clear hQ Q)|(apply jx;kernel_rfl)|omega|assumption|with_reducible rfl|skip)
  (simp only [vrt,Tryz.results89,vkt,seval,vY];refine Fin.val rfl ?_;(try simp only [AV.le]))
  all_goals first|rfl|simp
 have b3:=jo.1 h3
 have g1:0<=t.cab:=b3.1
 have g2:t.cab.toNat < c.cabins.length:=by omega
 obtain ⟨x,hx⟩:∃ x,c.cabins.getD t.cab.toNat default=x:=⟨_,rfl⟩
 have hxb:=hc.beds _ (yX (d:=default) g2)
 rw [hx] at hxb
 have w2:IntKind.wrap .i64 (x.beds - 1)=x.beds - 1:=wrap64 (by omega) (by omega)
 cases h4:inB t.bed 0 (x.beds - 1)
 ·rw [show zY c t l=3 by simp [-List.getD_eq_getElem?_getD,zY,h1,h2,xm,h3,hx,h4]]
  repeat' first|(apply nx;with_reducible constructor)|apply jq (by decide)|((first|apply jz env|apply jw);intro Q hQ;simp only [vkt,seval,yJ,vY,qh,qd,aTk,cTk,qy,qo,wF,sin,h1,h2,h3,h4,w1,w2,hx,g1,g2,ite_and];(repeat' first|with_reducible assumption|apply jv|intro hp);all_goals first|(apply hQ;clear hQ Q)|(apply jx;kernel_rfl)|omega|assumption|with_reducible rfl|skip)
  (simp only [vrt,Tryz.results89,vkt,seval,vY];refine Fin.val rfl ?_;(try simp only [AV.le]))
  all_goals first|rfl|simp
 have hr:=rest h1 h2 (by simp [-List.getD_eq_getElem?_getD,xm,h3,hx,h4])
 by_cases h5:ZU c.secs t.frm t.to=0
 ·rw [if_neg (by rw [h5];simp)] at hr
  rw [hr]
  repeat' first|(apply nx;with_reducible constructor)|apply jq (by decide)|((first|apply jz env|apply jw);intro Q hQ;simp only [vkt,seval,yJ,vY,qh,qd,aTk,cTk,qy,qo,wF,qD,mTk,sin,Uf,YA,h1,h2,h3,h4,h5,w1,w2,hx,g1,g2,et,ite_and];(repeat' first|with_reducible assumption|apply jv|intro hp);all_goals first|(apply hQ;clear hQ Q)|(apply jx;kernel_rfl)|omega|assumption|with_reducible rfl|skip)
  (simp only [vrt,Tryz.results89,vkt,seval,vY];refine Fin.val rfl ?_;(try simp only [AV.le]))
  all_goals first|rfl|simp
 ·rw [if_pos h5] at hr
  rw [hr]
  repeat' first|(apply nx;with_reducible constructor)|apply jq (by decide)|((first|apply jz env|apply jw);intro Q hQ;simp only [vkt,seval,yJ,vY,qh,qd,aTk,cTk,qy,qo,wF,qD,mTk,sin,Uf,h1,h2,h3,h4,h5,w1,w2,hx,g1,g2,ite_and];(repeat' first|with_reducible assumption|apply jv|intro hp);all_goals first|(apply hQ;clear hQ Q)|(apply jx;kernel_rfl)|omega|assumption|with_reducible rfl|skip)
  (simp only [vrt,Tryz.results89,vkt,seval,vY];refine Fin.val rfl ?_;(try simp only [AV.le]))
  all_goals first|rfl|simp
def YF:List AV->Prop × AV
 |[.agg [.sl c0,.v (.int .i64 c1),.sl c2],.agg [.v (.int .i64 t0),.v (.int .i64 t1),.v (.int .i64 t2),.v (.int .i64 t3),.v (.int .i64 t4),.v (.int .i64 t5),.v (.bool t6)],.sl l]=>(c0=(c0.map qp).map qo/\c2=(c2.map dTk).map eTk/\l=(l.map dTk).map eTk/\CarOk (⟨(c0.map qp),c1,(c2.map dTk)⟩:Chart)/\(l.map dTk).length<=100,aI (zY (⟨(c0.map qp),c1,(c2.map dTk)⟩:Chart) (⟨t0,t1,t2,t3,t4,t5,t6⟩:Tk) (l.map dTk)))
 |_=>(False,.junk)
theorem QiW {A:Frm->Prop}:qm A Tryz.prog 89 (zU true YF):=ze fun vs hv h=>by
 clear hv
 unfold YF at h ⊢
 split at h
 ·rename_i c0 c1 c2 t0 t1 t2 t3 t4 t5 t6 l;obtain ⟨q0,q1,q2,k0,k1⟩:=h
  refine ⟨by first|trivial|(repeat' split) <;> simp [AV.plain,AV.plainL,aI,aB,qx,qb,qy,qw,aTk,cTk],fun _=>(by simp [AV.flat,aI]), ?_⟩
  have:=QeX (⟨(c0.map qp),c1,(c2.map dTk)⟩:Chart) (⟨t0,t1,t2,t3,t4,t5,t6⟩:Tk) (l.map dTk) k0 k1
  simp only [qh,aI,aTk,qy,qd,cTk,<- q0,<- q1,<- q2] at this
  first|exact this|(simp only [aB,wH,qh,aI,aTk,qy,qd,cTk,<- q0,<- q1,<- q2];exact this)
 ·exact h.elim
def ckS (c:Chart) (k:Nat):St:={ t:=asg [(1,.ptr 0 0),(2,aI 0),(13,qy c.sold),(14,aI c.sold.length),(15,aI k)],h:=qa [(0,.cells (qd c))],n:=1 }
def xQ:=jv @ty3 (jv @xW (jv @jW (jv @Zq (jv @yc (jv @ti3.eq_1 (jv @vW.eq_1 (jv @jE.eq_1 (jv @kY.eq_1 @jM.eq_1))))))))
def kQ:=jv @aI.eq_1 (@aB.eq_1)
theorem QfF (c:Chart) (hc:c.cabins.length<=maxLen):FnV Tryz.prog 41 [qh c] (aI (zo c)):=by
 have env:=qB (A:=fun _=>True) (kC ecar (kC QiW kN))
 refine kV (Fn0 Tryz.func41 rfl (fun vs w=>by kernel_rfl) (by kernel_rfl)) (by simp) (by simp [AV.ids,AV.idsL,qh,qd]) ?_
 have ec:(⟨c.cabins,c.secs,c.sold⟩:Chart)=c:=rfl
 by_cases h1:QW c=0
 ·obtain ⟨hcar,hsl⟩:=Qcz h1
  have hE:zo c=ko c c.sold:=by unfold zo;rw [if_neg (by rw [h1];simp)]
  rw [hE]
  repeat' first|(apply nx;with_reducible constructor)|apply jq (by decide)|((first|apply jz env|apply jw);intro Q hQ;simp only [vkt,seval,xQ,kQ,qh,qd,qD,mTk,scar,h1,ec,ite_and];(repeat' first|with_reducible assumption|apply jv|intro hp);all_goals first|(apply hQ;clear hQ Q)|(apply jx;kernel_rfl)|omega|assumption|with_reducible rfl|skip)
  refine qY (fun k:{ k:Nat // k<=c.sold.length/\∀ j,j < k->zY c (c.sold.getD j default) (c.sold.take j)=0 }=>ckS c k.1) (fun k=>c.sold.length - k.1) ⟨0,ap _,fun j h=>absurd h (bu _)⟩ ?_ fun ⟨k,hk,hno⟩=>?_
  ·(refine Le.ok some [] ?_;constructor;all_goals (try simp only [vle,vkt,seval,kQ,qd,qy]))
   all_goals first|rfl|simp
  ·repeat' first|(apply nx;with_reducible constructor)|apply jq (by decide)
   (apply jz env;intro Q hQ;simp only [vkt,seval,xQ,kQ,qd,qy,ckS,ite_and];(repeat' first|with_reducible assumption|apply jv|intro hp);all_goals first|(apply hQ;clear hQ Q)|(apply jx;kernel_rfl)|omega|assumption|with_reducible rfl|skip)
   repeat' first|(apply nx;with_reducible constructor)|apply jq (by decide)
   (refine jc (by simp only [vkt,seval];rfl) (fun h=>?_) (fun h=>?_) <;> (try simp only [vki] at h))
   ·have hlt:k < c.sold.length:=by omega
    have e9:=k9 k (by omega)
    obtain ⟨x,hx⟩:∃ x,c.sold.getD k default=x:=⟨_,rfl⟩
    have ex:(⟨x.party,x.sex,x.cab,x.bed,x.frm,x.to,x.dog⟩:Tk)=x:=rfl
    have tk:List.take k (c.sold.map eTk)=(c.sold.take k).map eTk:=List.map_take.symm
    have t100:(c.sold.take k).length<=100:=by rw [be];omega
    have hcar':CarOk ⟨c.cabins,c.secs,c.sold⟩:=hcar
    have hg:=rngD (f:=fun i=>zY c (c.sold.getD i default) (c.sold.take i)) hlt
    by_cases h2:zY c x (c.sold.take k)=0
    ·repeat' first|(apply nx;with_reducible constructor)|apply jq (by decide)|((first|apply jz env|apply jw);intro Q hQ;simp only [vkt,seval,xQ,kQ,eTk,gTk,rTk,qD,mTk,YF,hx,ex,ec,tk,h2,e9,ite_and];(repeat' first|with_reducible assumption|apply jv|intro hp);all_goals first|(apply hQ;clear hQ Q)|(apply jx;kernel_rfl)|omega|assumption|with_reducible rfl|skip)
     refine ⟨⟨k+1,hlt,fun j hj=>?_⟩,by show c.sold.length - (k+1) < c.sold.length - k;omega, ?_⟩
     ·rcases bw (bx hj) with h3|h3
      ·exact hno j h3
      ·rw [h3,hx];exact h2
     ·(refine Le.ok some [] ?_;constructor;all_goals (try simp only [vle,vkt,seval,kQ,qd,qy]))
      all_goals first|rfl|simp
    ·have hf:ko c c.sold=zY c x (c.sold.take k):=by
      unfold ko
      rw [Q5 (k:=k) (fun j hj=>by rw [rngD (by omega)];exact hno j hj) (by simpa using hlt) (by rw [hg,hx];exact h2),hg,hx]
     rw [hf]
     repeat' first|(apply nx;with_reducible constructor)|apply jq (by decide)|((first|apply jz env|apply jw);intro Q hQ;simp only [vkt,seval,xQ,kQ,eTk,gTk,rTk,qD,mTk,YF,hx,ex,ec,tk,h2,ite_and];(repeat' first|with_reducible assumption|apply jv|intro hp);all_goals first|(apply hQ;clear hQ Q)|(apply jx;kernel_rfl)|omega|assumption|with_reducible rfl|skip)
     (simp only [vrt,Tryz.results41,vkt,seval,kQ];refine Fin.val rfl ?_;(try simp only [AV.le]))
     all_goals first|rfl|simp
   ·have hke:k=c.sold.length:=by omega
    subst hke
    rw [show ko c c.sold=0 from xJ fun j hj=>by
     have hj':j < c.sold.length:=by simpa using hj
     rw [rngD hj'];exact hno j hj']
    repeat' first|(apply nx;with_reducible constructor)|apply jq (by decide)|((first|apply jz env|apply jw);intro Q hQ;simp only [vkt,seval,ite_and];(repeat' first|with_reducible assumption|apply jv|intro hp);all_goals first|(apply hQ;clear hQ Q)|(apply jx;kernel_rfl)|omega|assumption|with_reducible rfl|skip)
    (simp only [vrt,Tryz.results41,vkt,seval,kQ];refine Fin.val rfl ?_;(try simp only [AV.le]))
    all_goals first|rfl|simp
 ·have hE:zo c=QW c:=by unfold zo;rw [if_pos h1]
  rw [hE]
  repeat' first|(apply nx;with_reducible constructor)|apply jq (by decide)|((first|apply jz env|apply jw);intro Q hQ;simp only [vkt,seval,xQ,kQ,qh,qd,qD,mTk,scar,h1,ec,ite_and];(repeat' first|with_reducible assumption|apply jv|intro hp);all_goals first|(apply hQ;clear hQ Q)|(apply jx;kernel_rfl)|omega|assumption|with_reducible rfl|skip)
  (simp only [vrt,Tryz.results41,vkt,seval,kQ];refine Fin.val rfl ?_;(try simp only [AV.le]))
  all_goals first|rfl|simp
def yB:List AV->Prop × AV
 |[.agg [.sl c0,.v (.int .i64 c1),.sl c2]]=>(c0=(c0.map qp).map qo/\c2=(c2.map dTk).map eTk/\c0.length<=maxLen,aI (zo (⟨(c0.map qp),c1,(c2.map dTk)⟩:Chart)))
 |_=>(False,.junk)
theorem JF {A:Frm->Prop}:qm A Tryz.prog 41 (zU true yB):=ze fun vs hv h=>by
 clear hv
 unfold yB at h ⊢
 split at h
 ·rename_i c0 c1 c2;obtain ⟨q0,q1,k0⟩:=h
  refine ⟨by first|trivial|(repeat' split) <;> simp [AV.plain,AV.plainL,aI,aB,qx,qb,qy,qw,aTk,cTk],fun _=>(by simp [AV.flat,aI]), ?_⟩
  have:=QfF (⟨(c0.map qp),c1,(c2.map dTk)⟩:Chart) (by simpa using k0)
  simp only [qh,aI,qd,<- q0,<- q1] at this
  first|exact this|(simp only [wH,qh,aI,qy,qd,<- q0,<- q1];exact this)
 ·exact h.elim
def buO (cs:List Cabin) (s:Int):AObj:=.cells [.sl (cs.map qo),.v (.int .i64 s),.any]
def buY (cs:List Cabin) (j:Nat):List AV:=[qw ((qW cs).getD j default)]
def bu1 (cs:List Cabin) (s:Int) (i j:Nat):St:={ t:=asg [(0,.cb),(1,.ptr 0 0),(7,.sl (cs.map qo)),(8,aI cs.length),(9,aI i)],h:=qa [(0,.cells [.sl (cs.map qo),.v (.int .i64 s),.any])],n:=1,j:=j,m:=1 }
def bu2 (cs:List Cabin) (s:Int) (i:Nat) (b:Int) (k j:Nat):St:={ t:=asg [(0,.cb),(1,.ptr 0 0),(3,aI i),(7,.sl (cs.map qo)),(8,aI cs.length),(9,aI i),(15,aI b),(16,aI k)],h:=qa [(0,.cells [.sl (cs.map qo),.v (.int .i64 s),.any])],n:=1,j:=j,m:=1 }
structure CabsOk (cs:List Cabin):Prop where
 len:cs.length<=1000
 beds:∀ x ∈ cs,x.beds<=1000
def jf:=jv @ty3 (jv @JH (jv @jW (jv @xy (jv @JI (jv @ti3.eq_1 (jv @ZW.eq_1 (jv @jE.eq_1 (jv @yY.eq_1 @Z5.eq_1))))))))
def WC:=jv @aI.eq_1 (@aB.eq_1)
theorem R4 (cs:List Cabin) (s:Int) (hc:CabsOk cs):Iter Tryz.prog 181 [.cb,.ptr 0 0] (nth [buO cs s]) (buY cs) (qW cs).length (fun _=>nth [buO cs s]) fun _ _=>.tup []:=by
 intro ans R hr
 have e0:(nth [buO cs s])=qa (qz 0 [buO cs s]):=by
  funext i
  match i with
  |0=>rfl
  |i+1=>simp [nth,qz,qa]
 obtain ⟨A0,hA0⟩:∃ A0:Frm->Prop,A0=Acb Tryz.prog (qa (qz 0 [buO cs s])) (qa (qz 0 [buO cs s])) (buY cs) (fun _=>nth [buO cs s]) ans R:=⟨_,rfl⟩
 have hA:∀ F,A0 F->Acb Tryz.prog (qa (qz 0 [buO cs s])) (qa (qz 0 [buO cs s])) (buY cs) (fun _=>nth [buO cs s]) ans R F:=fun F h=>hA0 ▸ h
 have env:Env A0 Tryz.prog tyB (Go.Sym.tabC (cbX [0] (buY cs) (fun _=>[buO cs s]) ans R) []):=⟨Y4,X5 (fun S bs h hS ops o g args tys caps hw ho hg hb=>JD hA (fun i o hi=>by
  rw [zT] at hi
  cases i with
  |zero=>rfl
  |succ i=>simp at hi) (by simp) h hS hw ho hg hb) trivial,by kernel_rfl⟩
 rw [Qdz] at hr
 have hcl:=hc.len
 rw [e0]
 refine Fn.of (A:=A0) (n0:=1) (D:=noD) (Fn0 Tryz.func181 rfl (fun vs w=>by kernel_rfl) (by kernel_rfl)) (by simp) (by simp [AV.ids]) ?_ (fun F hb h0 _=>hA0 ▸ ⟨h0,fun i o hi=>⟨o,hi⟩,by rw [<- e0] at hb ⊢;exact hb⟩) q9 ?_
 ·intro i o hi
  have h:=qE hi
  simp [qz,buO] at h;obtain ⟨rfl,rfl⟩:=h;simp [AObj.ids,AV.ids,AV.idsL]
 show Sym _ _ _ (qP [.cb,.ptr 0 0] 1 (qa [(0,.cells [.sl (cs.map qo),.v (.int .i64 s),.any])])) (jP tyB noD Tryz.f181 fun S rv=>Fin S rv (.tup []) 1 (qa [(0,.cells [.sl (cs.map qo),.v (.int .i64 s),.any])]) R)
 have eo:buO cs s=.cells [.sl (cs.map qo),.v (.int .i64 s),.any]:=rfl
 repeat' first|(apply nx;with_reducible constructor)|apply jq (by decide)|((first|apply jz env|apply jw);intro Q hQ;simp only [vkt,seval,jf,ite_and];(repeat' first|with_reducible assumption|apply jv|intro hp);all_goals first|(apply hQ;clear hQ Q)|(apply jx;kernel_rfl)|omega|assumption|with_reducible rfl|skip)
 refine qY (fun x:{ x:Nat × Nat // x.1<=cs.length/\x.2=((QK cs).take x.1).sum/\∀ q,q < x.2->ans q=true }=>bu1 cs s x.1.1 x.1.2) (fun x=>cs.length - x.1.1) ⟨(0,0),ap _,by simp,fun q h=>absurd h (bu _)⟩ ?_ fun ⟨(i,o),hi,ho,hy⟩=>?_
 ·(refine Le.ok some [] ?_;constructor;all_goals (try simp only [vle,vkt,seval,WC]))
  all_goals first|rfl|simp
 simp only at hi ho hy ⊢
 repeat' first|(apply nx;with_reducible constructor)|apply jq (by decide)
 (apply jz env;intro Q hQ;simp only [vkt,seval,jf,WC,bu1,ite_and];(repeat' first|with_reducible assumption|apply jv|intro hp);all_goals first|(apply hQ;clear hQ Q)|(apply jx;kernel_rfl)|omega|assumption|with_reducible rfl|skip)
 repeat' first|(apply nx;with_reducible constructor)|apply jq (by decide)
 (refine jc (by simp only [vkt,seval];rfl) (fun h=>?_) (fun h=>?_) <;> (try simp only [vki] at h))
 ·have hlt:i < cs.length:=by omega
  have hts:=WU (g:=QK cs) (i:=i) (by simp [QK];omega)
  rw [Qjo hlt] at hts
  have hsm:((QK cs).take (i+1)).sum<=(QK cs).sum:=by
   have:=vL (g:=QK cs) (show i+1<=(QK cs).length by simp [QK];omega)
   rwa [bF] at this
  have hbx:=hc.beds _ (yX (d:=default) hlt)
  have hget:=fun k=>QdG (cs:=cs) (i:=i) (k:=k) hlt
  obtain ⟨x,hx⟩:∃ x,cs.getD i default=x:=⟨_,rfl⟩
  rw [hx] at hts hbx
  simp only [hx] at hget
  have e9:=k9 i (by omega)
  repeat' first|(apply nx;with_reducible constructor)|apply jq (by decide)|((first|apply jz env|apply jw);intro Q hQ;simp only [vkt,seval,jf,qo,wF,hx,ite_and];(repeat' first|with_reducible assumption|apply jv|intro hp);all_goals first|(apply hQ;clear hQ Q)|(apply jx;kernel_rfl)|omega|assumption|with_reducible rfl|skip)
  refine qY (fun y:{ y:Nat × Nat // y.1<=x.beds.toNat/\y.2=o+y.1/\∀ q,q < y.2->ans q=true }=>bu2 cs s i x.beds y.1.1 y.1.2) (fun y=>x.beds.toNat - y.1.1) ⟨(0,o),ap _,rfl,hy⟩ ?_ fun ⟨(k,q),hk,hq,hz⟩=>?_
  ·(refine Le.ok some [] ?_;constructor;all_goals (try simp only [vle,vkt,seval,WC]))
   all_goals first|rfl|simp
  simp only at hk hq hz ⊢
  repeat' first|(apply nx;with_reducible constructor)|apply jq (by decide)
  (apply jz env;intro Q hQ;simp only [vkt,seval,jf,WC,bu2,ite_and];(repeat' first|with_reducible assumption|apply jv|intro hp);all_goals first|(apply hQ;clear hQ Q)|(apply jx;kernel_rfl)|omega|assumption|with_reducible rfl|skip)
  repeat' first|(apply nx;with_reducible constructor)|apply jq (by decide)
  (refine jc (by simp only [vkt,seval];rfl) (fun h=>?_) (fun h=>?_) <;> (try simp only [vki] at h))
  ·have hkl:k < x.beds.toNat:=by omega
   have e8:=k9 k (by omega)
   have hqR:q < R:=hr.lt (by omega) hz
   have hbq:buY cs q=[.agg [.v (.int .i64 (i:Int)),.v (.int .i64 (k:Int))]]:=by
    unfold buY
    rw [hq,ho,hget k hkl]
    rfl
   cases hb:ans q with
   |false =>
    have eR:R=q+1:=by have:=hr.last hqR hb;omega
    subst eR
    repeat' first|(apply nx;with_reducible constructor)|apply jq (by decide)|((first|apply jz env|apply jw);intro Q hQ;simp only [vkt,seval,jf,Go.Sym.tabC,cbX,vH,hwL,hqR,hbq,eo,hb,ite_and];(repeat' first|with_reducible assumption|apply jv|intro hp);all_goals first|(apply hQ;clear hQ Q)|(apply jx;kernel_rfl)|omega|assumption|with_reducible rfl|skip)
    (simp only [vrt,Tryz.results181,vkt,seval];refine Fin.ok some [] ?_ ?_ ?_ ?_ ?_ rfl;all_goals (try simp only [vle,vkt,seval]))
    all_goals first|rfl|simp
   |true =>
    have hz':∀ p,p < q+1->ans p=true:=fun p hp=>by
     rcases bw (bx hp) with h1|h1
     ·exact hz p h1
     ·rw [h1];exact hb
    repeat' first|(apply nx;with_reducible constructor)|apply jq (by decide)|((first|apply jz env|apply jw);intro Q hQ;simp only [vkt,seval,jf,Go.Sym.tabC,cbX,vH,hwL,hqR,hbq,eo,hb,e8,ite_and];(repeat' first|with_reducible assumption|apply jv|intro hp);all_goals first|(apply hQ;clear hQ Q)|(apply jx;kernel_rfl)|omega|assumption|with_reducible rfl|skip)
    refine ⟨⟨(k+1,q+1),hkl,by omega,hz'⟩,by show x.beds.toNat - (k+1) < x.beds.toNat - k;omega, ?_⟩
    (refine Le.ok some [] ?_;constructor;all_goals (try simp only [vle,vkt,seval,WC]))
    all_goals first|rfl|simp
  ·have hkn:q=((QK cs).take (i+1)).sum:=by omega
   repeat' first|(apply nx;with_reducible constructor)|apply jq (by decide)|((first|apply jz env|apply jw);intro Q hQ;simp only [vkt,seval,jf,e9,ite_and];(repeat' first|with_reducible assumption|apply jv|intro hp);all_goals first|(apply hQ;clear hQ Q)|(apply jx;kernel_rfl)|omega|assumption|with_reducible rfl|skip)
   refine ⟨⟨(i+1,q),hlt,hkn,hz⟩,by show cs.length - (i+1) < cs.length - i;omega, ?_⟩
   (refine Le.ok some [] ?_;constructor;all_goals (try simp only [vle,vkt,seval,WC]))
   all_goals first|rfl|simp
 ·have hie:i=cs.length:=by omega
  subst hie
  have hoN:o=(QK cs).sum:=by rw [ho,bJ (by simp [QK])]
  have eR:R=o:=by rw [hoN];exact hr.all (Nat.le_of_eq hoN.symm) hy
  subst eR
  repeat' first|(apply nx;with_reducible constructor)|apply jq (by decide)|((first|apply jz env|apply jw);intro Q hQ;simp only [vkt,seval,jf,WC,qw,qo,wF,bu1,bu2,Go.Sym.tabC,cbX,Yk,vH,nth,hwL,ite_and];(repeat' first|with_reducible assumption|apply jv|intro hp);all_goals first|(apply hQ;clear hQ Q)|(apply jx;kernel_rfl)|omega|assumption|with_reducible rfl|skip)
  (simp only [vrt,Tryz.results181,vkt,seval];refine Fin.ok some [] ?_ ?_ ?_ ?_ ?_ rfl;all_goals (try simp only [vle,vkt,seval]))
  all_goals first|rfl|simp
theorem Qhb (cs:List Cabin) (s:Int):Fn noB Tryz.prog 144 [.agg [.sl (cs.map qo),.v (.int .i64 s),.any]] (qa []) (.clo 181 [.ptr 0 0]) (qa [(0,.cells [.sl (cs.map qo),.v (.int .i64 s),.any])]) 0:=by
 have env:=qB (A:=fun _=>True) kN
 refine kV (Fn0 Tryz.func144 rfl (fun vs w=>by kernel_rfl) (by kernel_rfl)) (by simp) (by simp [AV.ids,AV.idsL]) ?_
 repeat' first|(apply nx;with_reducible constructor)|apply jq (by decide)|((first|apply jz env|apply jw);intro Q hQ;simp only [vkt,seval,ite_and];(repeat' first|with_reducible assumption|apply jv|intro hp);all_goals first|(apply hQ;clear hQ Q)|(apply jx;kernel_rfl)|omega|assumption|with_reducible rfl|skip)
 (simp only [vrt,Tryz.results144,vkt,seval];refine Fin.ok some [] ?_ ?_ ?_ ?_ ?_ rfl;all_goals (try simp only [vle,vkt,seval]))
 all_goals first|rfl|simp
def WA (_:St):List AV->Option Pk
 |[.agg [.sl cs,.v (.int .i64 s),_]]=>some { pre:=cs=(cs.map qp).map qo,ar:=[.agg [.sl cs,.v (.int .i64 s),.any]],v:=.clo 181 [.ptr 0 0],L1:=[some (.cells [.sl cs,.v (.int .i64 s),.any])] }
 |_=>none
theorem QcM {A:Frm->Prop}:qm A Tryz.prog 144 (fnE WA):=zB fun S bs q h hp=>by
 unfold WA at h
 split at h
 ·rename_i cs s _
  cases h
  have:=Qhb (cs.map qp) s
  rw [<- (show cs=(cs.map qp).map qo from hp)] at this
  exact this
 ·cases h
theorem b47 {n:Nat} (h:n<=100000):n * 8<=140737488355328/\n * 24<=140737488355328/\n * 16<=140737488355328/\n * 56<=140737488355328/\n<=maxLen:=by
 have:(100000:Nat)<=maxLen:=by decide
 omega
def jh:=jv @xW (jv @yc (jv @vW.eq_1 @jM.eq_1))
theorem Xq (xs:List (List DV)) (h1:zn 7 xs) (h2:xs.length<=100000):Fn noB Tryz.prog 174 [.sl xs] noH (.row 0) (qa [(0,.row 88 7 xs)]) 0:=by
 have env:=qB (A:=fun _=>True) kN
 obtain ⟨b1,b2,b3,b5,b4⟩:=b47 h2
 refine kV (Fn0 Tryz.func174 rfl (fun vs w=>by kernel_rfl) (by kernel_rfl)) (by simp) (by simp [AV.ids]) ?_
 repeat' first|(apply nx;with_reducible constructor)|apply jq (by decide)
 (apply jz env;intro Q hQ;simp only [vkt,seval,jh,@true_and,ite_and];(repeat' first|with_reducible assumption|apply jv|intro hp);all_goals first|(apply hQ;clear hQ Q)|(apply jx;kernel_rfl)|omega|assumption|with_reducible rfl|skip)
 repeat' first|(apply nx;with_reducible constructor)|apply jq (by decide)
 refine kG (d1:=3) (d2:=4) (t:=23) (e:=88) (x:=.tmp 0) (xs:=xs) rfl rfl rfl rfl rfl rfl Tryz.underlying23 rfl fun b hb=>?_
 repeat' first|(apply nx;with_reducible constructor)|apply jq (by decide)
 (refine jc (by simp only [vkt,seval,jh,@true_and];rfl) (fun h=>?_) (fun h=>?_) <;> (try simp only [vki,reduceCtorEq] at h))
 ·have hx:=hb h
  subst hx
  repeat' first|(apply nx;with_reducible constructor)|apply jq (by decide)|((first|apply jz env|apply jw);intro Q hQ;simp only [vkt,seval,jh,@true_and,ite_and];(repeat' first|with_reducible assumption|apply jv|intro hp);all_goals first|(apply hQ;clear hQ Q)|(apply jx;kernel_rfl)|omega|assumption|with_reducible rfl|skip)
  (simp only [vrt,Tryz.results174,vkt,seval,jh,@true_and];refine Fin.ok (fun _=>none) [] ?_ ?_ ?_ ?_ ?_ rfl;all_goals (try simp only [vle,vkt,seval,jh,@true_and]))
  all_goals simp
 ·repeat' first|(apply nx;with_reducible constructor)|apply jq (by decide)|((first|apply jz env|apply jw);intro Q hQ;simp only [vkt,seval,jh,@true_and,ite_and];(repeat' first|with_reducible assumption|apply jv|intro hp);all_goals first|(apply hQ;clear hQ Q)|(apply jx;kernel_rfl)|omega|assumption|with_reducible rfl|skip)
  (simp only [vrt,Tryz.results174,vkt,seval,jh,@true_and];refine Fin.ok some [] ?_ ?_ ?_ ?_ ?_ rfl;all_goals (try simp only [vle,vkt,seval,jh,@true_and]))
  all_goals simp
def jl:=jv @VH (jv @xy (jv @WP.eq_1 @yY.eq_1))
theorem QdT (xs:List (List DV)) (h1:zn 2 xs) (h2:xs.length<=100000):Fn noB Tryz.prog 175 [.sl xs] noH (.row 0) (qa [(0,.row 76 2 xs)]) 0:=by
 have env:=qB (A:=fun _=>True) kN
 obtain ⟨b1,b2,b3,b5,b4⟩:=b47 h2
 refine kV (Fn0 Tryz.func175 rfl (fun vs w=>by kernel_rfl) (by kernel_rfl)) (by simp) (by simp [AV.ids]) ?_
 repeat' first|(apply nx;with_reducible constructor)|apply jq (by decide)
 (apply jz env;intro Q hQ;simp only [vkt,seval,jl,@true_and,ite_and];(repeat' first|with_reducible assumption|apply jv|intro hp);all_goals first|(apply hQ;clear hQ Q)|(apply jx;kernel_rfl)|omega|assumption|with_reducible rfl|skip)
 repeat' first|(apply nx;with_reducible constructor)|apply jq (by decide)
 refine kG (d1:=3) (d2:=4) (t:=65) (e:=76) (x:=.tmp 0) (xs:=xs) rfl rfl rfl rfl rfl rfl Tryz.underlying65 rfl fun b hb=>?_
 repeat' first|(apply nx;with_reducible constructor)|apply jq (by decide)
 (refine jc (by simp only [vkt,seval,jl,@true_and];rfl) (fun h=>?_) (fun h=>?_) <;> (try simp only [vki,reduceCtorEq] at h))
 ·have hx:=hb h
  subst hx
  repeat' first|(apply nx;with_reducible constructor)|apply jq (by decide)|((first|apply jz env|apply jw);intro Q hQ;simp only [vkt,seval,jl,@true_and,ite_and];(repeat' first|with_reducible assumption|apply jv|intro hp);all_goals first|(apply hQ;clear hQ Q)|(apply jx;kernel_rfl)|omega|assumption|with_reducible rfl|skip)
  (simp only [vrt,Tryz.results175,vkt,seval,jl,@true_and];refine Fin.ok (fun _=>none) [] ?_ ?_ ?_ ?_ ?_ rfl;all_goals (try simp only [vle,vkt,seval,jl,@true_and]))
  all_goals simp
 ·repeat' first|(apply nx;with_reducible constructor)|apply jq (by decide)|((first|apply jz env|apply jw);intro Q hQ;simp only [vkt,seval,jl,@true_and,ite_and];(repeat' first|with_reducible assumption|apply jv|intro hp);all_goals first|(apply hQ;clear hQ Q)|(apply jx;kernel_rfl)|omega|assumption|with_reducible rfl|skip)
  (simp only [vrt,Tryz.results175,vkt,seval,jl,@true_and];refine Fin.ok some [] ?_ ?_ ?_ ?_ ?_ rfl;all_goals (try simp only [vle,vkt,seval,jl,@true_and]))
  all_goals simp
def Jr (S:St):List AV->Option Pk
 |[.sl xs]=>some { pre:=zn 7 xs/\xs.length<=100000,ar:=[.sl xs],v:=.row 0,L1:=[some (.row 88 7 xs)] }
 |[.row r]=>match S.h r with
  |some (.row _ _ xs)=>some { pre:=zn 7 xs/\xs.length<=100000,bo:=[r],fl:=true,ar:=[.sl xs],v:=.row 0,L1:=[some (.row 88 7 xs)] }
  |_=>none
 |_=>none
theorem Qcr {A:Frm->Prop}:qm A Tryz.prog 174 (fnE Jr):=zB fun S bs q h hp=>by
 unfold Jr at h
 split at h
 ·cases h;exact Xq _ hp.1 hp.2
 ·split at h
  ·cases h;exact Xq _ hp.1 hp.2
  ·cases h
 ·cases h
def WY (_:St):List AV->Option Pk
 |[.sl xs]=>some { pre:=zn 2 xs/\xs.length<=100000,ar:=[.sl xs],v:=.row 0,L1:=[some (.row 76 2 xs)] }
 |_=>none
theorem Qh8 {A:Frm->Prop}:qm A Tryz.prog 175 (fnE WY):=zB fun S bs q h hp=>by
 unfold WY at h
 split at h
 ·cases h;exact QdT _ hp.1 hp.2
 ·cases h
def ibS (b:Bunk) (l:List Bunk) (k:Nat):St:={ t:=asg [(0,qb l),(3,.ptr 0 0),(4,aI 0),(6,qb l),(7,aI l.length),(8,aI k)],h:=qa [(0,.cells [.v (.int .i64 b.cab),.v (.int .i64 b.bed)])],n:=1 }
def UH (b:Bunk) (l:List Bunk):Int:=match l.findIdx? (· == b) with
 |some i=>(i:Int)
 |none=>-1
theorem Qfb {b:Bunk} {l:List Bunk} {k:Nat} (hk:k < l.length) (h:∀ j,j < k->l.getD j default ≠ b) (hp:l.getD k default=b):UH b l=(k:Int):=by
 have:l.findIdx? (· == b)=some k:=by
  rw [dt]
  refine ⟨hk,by simpa [ah,hk] using hp,fun j hj=>?_⟩
  have:=h j hj
  simpa [ah,show j < l.length by omega] using this
 simp [UH,this]
theorem Qdq {b:Bunk} {l:List Bunk} (h:∀ j,j < l.length->l.getD j default ≠ b):UH b l=-1:=by
 have:l.findIdx? (· == b)=none:=by
  rw [du]
  intro x hx
  obtain ⟨j,hj,rfl⟩:=cG.1 hx
  have:=h j hj
  simpa [ah,hj] using this
 simp [UH,this]
theorem QhN (b:Bunk) (l:List Bunk):decide (0<=UH b l)=l.contains b:=by
 unfold UH
 cases h:l.findIdx? (· == b) with
 |none =>
  rw [du] at h
  symm
  simp only [show ¬ (0:Int)<=-1 by decide,decide_false]
  rw [Bool.eq_false_iff]
  intro hc
  have:=h b (by simpa using hc)
  simp at this
 |some i =>
  rw [dt] at h
  obtain ⟨hi,hp,_⟩:=h
  symm
  simp only [cJ,decide_true]
  have:l[i]=b:=by simpa using hp
  rw [<- this];simp
def zV:=jv @ty3 (jv @VH (jv @xy (jv @ti3.eq_1 (jv @WP.eq_1 @yY.eq_1))))
def vZ:=jv @aI.eq_1 (@aB.eq_1)
theorem Qdc (b:Bunk) (l:List Bunk) (hl:l.length<=100):FnV Tryz.prog 209 [qb l,qw b] (aI (UH b l)):=by
 have env:=qB (A:=fun _=>True) kN
 refine kV (Fn0 Tryz.func209 rfl (fun vs w=>by kernel_rfl) (by kernel_rfl)) (by simp) (by simp [AV.ids,AV.idsL,qb,qw]) ?_
 repeat' first|(apply nx;with_reducible constructor)|apply jq (by decide)|((first|apply jz env|apply jw);intro Q hQ;simp only [vkt,seval,zV,vZ,qw,qb,qI,wh,ibS,bE,bz,ite_and];(repeat' first|with_reducible assumption|apply jv|intro hp);all_goals first|(apply hQ;clear hQ Q)|(apply jx;kernel_rfl)|omega|assumption|with_reducible rfl|skip)
 refine qY (fun k:{ k:Nat // k<=l.length/\∀ j,j < k->l.getD j default ≠ b }=>ibS b l k.1) (fun k=>l.length - k.1) ⟨0,ap _,fun j h=>absurd h (bu _)⟩ ?_ fun ⟨k,hk,hno⟩=>?_
 ·(refine Le.ok some [] ?_;constructor;all_goals (try simp only [vle,vkt,seval,zV,vZ,qw,qb,qI,wh,ibS,bE,bz]))
  all_goals first|rfl|simp
 ·repeat' first|(apply nx;with_reducible constructor)|apply jq (by decide)
  (apply jz env;intro Q hQ;simp only [vkt,seval,zV,vZ,qw,qb,qI,wh,ibS,bE,bz,ite_and];(repeat' first|with_reducible assumption|apply jv|intro hp);all_goals first|(apply hQ;clear hQ Q)|(apply jx;kernel_rfl)|omega|assumption|with_reducible rfl|skip)
  repeat' first|(apply nx;with_reducible constructor)|apply jq (by decide)
  (refine jc (by simp only [vkt,seval,zV,vZ,qw,qb,qI,wh,ibS,bE,bz];rfl) (fun h=>?_) (fun h=>?_) <;> (try simp only [vki,reduceCtorEq] at h))
  ·have hlt:k < l.length:=by omega
   have e9:=k9 k (by omega)
   obtain ⟨x,hx⟩:∃ x,l.getD k default=x:=⟨_,rfl⟩
   have hxb:(x=b)=(b.cab=x.cab/\b.bed=x.bed):=by
    cases x;cases b;simp;exact ⟨fun ⟨a,b⟩=>⟨a.symm,b.symm⟩,fun ⟨a,b⟩=>⟨a.symm,b.symm⟩⟩
   have hnx:¬ x=b->∀ j,j < k+1->l.getD j default ≠ b:=fun hp j hj=>by
    rcases bw (bx hj) with h1|h1
    ·exact hno j h1
    ·rw [h1,hx];exact hp
   cases q1:decide (b.cab=x.cab)
   ·have hp:¬ x=b:=by rw [hxb];exact fun h=>of_decide_eq_false q1 h.1
    repeat' first|(apply nx;with_reducible constructor)|apply jq (by decide)|((first|apply jz env|apply jw);intro Q hQ;simp only [vkt,seval,zV,vZ,qw,qb,qI,wh,ibS,bE,bz,hx,q1,e9,ite_and];(repeat' first|with_reducible assumption|apply jv|intro hp);all_goals first|(apply hQ;clear hQ Q)|(apply jx;kernel_rfl)|omega|assumption|with_reducible rfl|skip)
    refine ⟨⟨k+1,hlt,hnx hp⟩,by show l.length - (k+1) < l.length - k;omega, ?_⟩
    (refine Le.ok some [] ?_;constructor;all_goals (try simp only [vle,vkt,seval,zV,vZ,qw,qb,qI,wh,ibS,bE,bz]))
    all_goals first|rfl|simp
   ·cases q2:decide (b.bed=x.bed)
    ·have hp:¬ x=b:=by rw [hxb];exact fun h=>of_decide_eq_false q2 h.2
     repeat' first|(apply nx;with_reducible constructor)|apply jq (by decide)|((first|apply jz env|apply jw);intro Q hQ;simp only [vkt,seval,zV,vZ,qw,qb,qI,wh,ibS,bE,bz,hx,q1,q2,e9,ite_and];(repeat' first|with_reducible assumption|apply jv|intro hp);all_goals first|(apply hQ;clear hQ Q)|(apply jx;kernel_rfl)|omega|assumption|with_reducible rfl|skip)
     refine ⟨⟨k+1,hlt,hnx hp⟩,by show l.length - (k+1) < l.length - k;omega, ?_⟩
     (refine Le.ok some [] ?_;constructor;all_goals (try simp only [vle,vkt,seval,zV,vZ,qw,qb,qI,wh,ibS,bE,bz]))
     all_goals first|rfl|simp
    ·have hh:=Qfb hlt hno (by rw [hx,hxb];exact ⟨of_decide_eq_true q1,of_decide_eq_true q2⟩)
     rw [hh]
     repeat' first|(apply nx;with_reducible constructor)|apply jq (by decide)|((first|apply jz env|apply jw);intro Q hQ;simp only [vkt,seval,zV,vZ,qw,qb,qI,wh,ibS,bE,bz,hx,q1,q2,e9,ite_and];(repeat' first|with_reducible assumption|apply jv|intro hp);all_goals first|(apply hQ;clear hQ Q)|(apply jx;kernel_rfl)|omega|assumption|with_reducible rfl|skip)
     (simp only [vrt,Tryz.results209,vkt,seval,zV,vZ,qw,qb,qI,wh,ibS,bE,bz];refine Fin.val rfl ?_;(try simp only [AV.le,AV.leL]))
     all_goals first|rfl|simp
  ·have hke:k=l.length:=by omega
   subst hke
   rw [Qdq hno]
   repeat' first|(apply nx;with_reducible constructor)|apply jq (by decide)|((first|apply jz env|apply jw);intro Q hQ;simp only [vkt,seval,zV,vZ,qw,qb,qI,wh,ibS,bE,bz,ite_and];(repeat' first|with_reducible assumption|apply jv|intro hp);all_goals first|(apply hQ;clear hQ Q)|(apply jx;kernel_rfl)|omega|assumption|with_reducible rfl|skip)
   (simp only [vrt,Tryz.results209,vkt,seval,zV,vZ,qw,qb,qI,wh,ibS,bE,bz];refine Fin.val rfl ?_;(try simp only [AV.le,AV.leL]))
   all_goals first|rfl|simp
def YC:List AV->Prop × AV
 |[.sl l,.agg [.v (.int .i64 b0),.v (.int .i64 b1)]]=>(l=(l.map zK).map qI/\(l.map zK).length<=100,aI (UH (⟨b0,b1⟩:Bunk) (l.map zK)))
 |_=>(False,.junk)
theorem Qjh {A:Frm->Prop}:qm A Tryz.prog 209 (zU true YC):=ze fun vs hv h=>by
 clear hv
 unfold YC at h ⊢
 split at h
 ·rename_i l b0 b1;obtain ⟨q0,k0⟩:=h
  refine ⟨by first|trivial|(repeat' split) <;> simp [AV.plain,AV.plainL,aI,aB,qx,qb,qy,qw,aTk,cTk],fun _=>(by simp [AV.flat,AV.flatL,aI,aB]), ?_⟩
  have:=Qdc (⟨b0,b1⟩:Bunk) (l.map zK) k0
  simp only [qw,qb,aI,<- q0] at this
  first|exact this|(simp only [qw,qb,aI,<- q0];exact this)
 ·exact h.elim
def Y3:=jv @ty3 (jv @xy (jv @ti3.eq_1 @yY.eq_1))
def QfZ:=jv @aI.eq_1 (@aB.eq_1)
theorem QgV (b:Bunk) (l:List Bunk) (hl:l.length<=100):FnV Tryz.prog 176 [qb l,qw b] (aB (l.contains b)):=by
 have env:=qB (A:=fun _=>True) (kC Qjh kN)
 refine kV (Fn0 Tryz.func176 rfl (fun vs w=>by kernel_rfl) (by kernel_rfl)) (by simp) (by simp [AV.ids,AV.idsL,qb,qw]) ?_
 have ex:(⟨b.cab,b.bed⟩:Bunk)=b:=rfl
 have ea:=QhN b l
 repeat' first|(apply nx;with_reducible constructor)|apply jq (by decide)|((first|apply jz env|apply jw);intro Q hQ;simp only [vkt,seval,Y3,QfZ,qw,qb,qI,QN,YC,aj,ex,ea,ite_and];(repeat' first|with_reducible assumption|apply jv|intro hp);all_goals first|(apply hQ;clear hQ Q)|(apply jx;kernel_rfl)|omega|assumption|with_reducible rfl|skip)
 (simp only [vrt,Tryz.results176,vkt,seval,Y3,QfZ,qw,qb,qI,QN,YC,aj];refine Fin.val rfl ?_;(try simp only [AV.le,AV.leL]))
 all_goals first|rfl|simp
def Qt:List AV->Prop × AV
 |[.sl l,.agg [.v (.int .i64 b0),.v (.int .i64 b1)]]=>(l=(l.map zK).map qI/\(l.map zK).length<=100,aB ((l.map zK).contains (⟨b0,b1⟩:Bunk)))
 |_=>(False,.junk)
theorem QkO {A:Frm->Prop}:qm A Tryz.prog 176 (zU true Qt):=ze fun vs hv h=>by
 clear hv
 unfold Qt at h ⊢
 split at h
 ·rename_i l b0 b1;obtain ⟨q0,k0⟩:=h
  refine ⟨by first|trivial|(repeat' split) <;> simp [AV.plain,AV.plainL,aI,aB,qx,qb,qy,qw,aTk,cTk],fun _=>(by simp [AV.flat,AV.flatL,aI,aB]), ?_⟩
  have:=QgV (⟨b0,b1⟩:Bunk) (l.map zK) k0
  simp only [qw,qb,aI,<- q0] at this
  first|exact this|(simp only [qw,qb,aI,<- q0];exact this)
 ·exact h.elim
def qf (cs:List Cabin) (s:Int) (r:Nat):AObj:=.cells [.sl (cs.map qo),.v (.int .i64 s),.row r]
def qc (l:List Tk):AObj:=.row 88 7 (l.map eTk)
def qH (cs:List Cabin) (s:Int) (l:List Tk):List AObj:=[qf cs s 1,qc l]
structure NearOk (cs:List Cabin) (l:List Bunk):Prop where
 ne:0 < l.length
 len:l.length<=100
 cabs:cs.length<=100
 mem:∀ b ∈ l,0<=b.cab/\b.cab.toNat < cs.length
def loK (l:List Bunk) (k:Nat):Int:=(l.take k).foldl (fun m b=>min m b.cab) (l.getD 0 default).cab
def hiK (l:List Bunk) (k:Nat):Int:=(l.take k).foldl (fun m b=>max m b.cab) (l.getD 0 default).cab
theorem L6 {l:List Bunk} {k:Nat} (h:k < l.length):loK l (k+1)=min (loK l k) (l.getD k default).cab:=by
 unfold loK
 rw [bP h,dM]
 simp [ah,h]
theorem Qaa {l:List Bunk} {k:Nat} (h:k < l.length):hiK l (k+1)=max (hiK l k) (l.getD k default).cab:=by
 unfold hiK
 rw [bP h,dM]
 simp [ah,h]
theorem Qi5 (cs:List Cabin) (l:List Bunk):Xy cs l=(decide (loK l l.length=hiK l l.length) || (decide (loK l l.length+1=hiK l l.length) && (cs.getD (loK l l.length).toNat default).door)):=by
 unfold Xy loK hiK
 rw [bF]
theorem QdC {cs:List Cabin} {l:List Bunk} (h:NearOk cs l):∀ k,k<=l.length->0<=loK l k/\(loK l k).toNat < cs.length/\0<=hiK l k/\(hiK l k).toNat < cs.length:=by
 intro k
 induction k with
 |zero =>
  intro _
  have:=h.mem _ (yX (d:=default) h.ne)
  simp only [loK,hiK,dn,List.foldl_nil]
  exact ⟨this.1,this.2,this.1,this.2⟩
 |succ k ih =>
  intro hk
  have h1:=ih (by omega)
  have h2:=h.mem _ (yX (d:=default) (show k < l.length by omega))
  rw [L6 (by omega),Qaa (by omega)]
  omega
def nrS (cs:List Cabin) (s:Int) (sold:List Tk) (l:List Bunk) (k:Nat) (lo hi:Int):St:={ t:=asg [(0,.ptr 0 0),(1,qb l),(4,aB false),(5,aI lo),(6,aI hi),(17,qb l),(18,aI l.length),(19,aI k)],h:=qa [(0,qf cs s 1),(1,qc sold)],n:=2,m:=2 }
def wu:=jv @ty3 (jv @ty4 (jv @JH (jv @jW (jv @VH (jv @xy (jv @JI (jv @Z7 (jv @ti3.eq_1 (jv @ti4.eq_1 (jv @ZW.eq_1 (jv @jE.eq_1 (jv @WP.eq_1 (jv @yY.eq_1 (jv @Z5.eq_1 @Qb.eq_1))))))))))))))
def yz:=jv @aI.eq_1 (@aB.eq_1)
theorem Qjd (cs:List Cabin) (s:Int) (sold:List Tk) (l:List Bunk) (ok:NearOk cs l):Fn noB Tryz.prog 177 [.ptr 0 0,qb l] (qa (qz 0 (qH cs s sold))) (aB (Xy cs l)) (qa (za 0 ((qH cs s sold).map some))) 0:=by
 have env:=qB (A:=fun _=>True) kN
 refine Fn.of (A:=fun _=>True) (n0:=2) (D:=noD) (Fn0 Tryz.func177 rfl (fun vs w=>by kernel_rfl) (by kernel_rfl)) (by simp) (by simp [AV.ids,AV.idsL,qb]) ?_ (fun _ _ _ _=>trivial) q9 ?_
 ·intro i o hi
  have h:=qE hi
  simp [qz,qH] at h
  rcases h with ⟨rfl,rfl⟩|⟨rfl,rfl⟩ <;> simp [AObj.ids,AV.ids,AV.idsL,qf,qc]
 have hne:=ok.ne
 have hll:=ok.len
 have hcl:=ok.cabs
 have hbd:=QdC ok
 obtain ⟨x0,hx0⟩:∃ x,l.getD 0 default=x:=⟨_,rfl⟩
 have l0:loK l 0=x0.cab:=by rw [<- hx0];rfl
 have h0:hiK l 0=x0.cab:=by rw [<- hx0];rfl
 rw [Qi5]
 show Sym _ _ _ (qP [.ptr 0 0,qb l] 2 (qa [(0,qf cs s 1),(1,qc sold)])) (jP tyB noD Tryz.f177 fun S rv=>Fin S rv _ 2 (qa [(0,qf cs s 1),(1,qc sold)]) 0)
 repeat' first|(apply nx;with_reducible constructor)|apply jq (by decide)|((first|apply jz env|apply jw);intro Q hQ;simp only [vkt,seval,wu,yz,qw,qb,qI,wh,qo,wF,qf,qc,qH,nrS,aj,hx0,ite_and];(repeat' first|with_reducible assumption|apply jv|intro hp);all_goals first|(apply hQ;clear hQ Q)|(apply jx;kernel_rfl)|omega|assumption|with_reducible rfl|skip)
 refine qY (fun k:{ k:Nat // k<=l.length }=>nrS cs s sold l k.1 (loK l k.1) (hiK l k.1)) (fun k=>l.length - k.1) ⟨0,ap _⟩ ?_ fun ⟨k,hk⟩=>?_
 ·simp only [l0,h0]
  (refine Le.ok some [] ?_;constructor;all_goals (try simp only [vle,vkt,seval,wu,yz,qw,qb,qI,wh,qo,wF,qf,qc,qH,nrS,aj]))
  all_goals first|rfl|simp
 ·repeat' first|(apply nx;with_reducible constructor)|apply jq (by decide)
  (apply jz env;intro Q hQ;simp only [vkt,seval,wu,yz,qw,qb,qI,wh,qo,wF,qf,qc,qH,nrS,aj,ite_and];(repeat' first|with_reducible assumption|apply jv|intro hp);all_goals first|(apply hQ;clear hQ Q)|(apply jx;kernel_rfl)|omega|assumption|with_reducible rfl|skip)
  repeat' first|(apply nx;with_reducible constructor)|apply jq (by decide)
  (refine jc (by simp only [vkt,seval,wu,yz,qw,qb,qI,wh,qo,wF,qf,qc,qH,nrS,aj];rfl) (fun h=>?_) (fun h=>?_) <;> (try simp only [vki,reduceCtorEq] at h))
  ·have hlt:k < l.length:=by omega
   have e9:=k9 k (by omega)
   obtain ⟨x,hx⟩:∃ x,l.getD k default=x:=⟨_,rfl⟩
   have hl1:=L6 hlt
   have hh1:=Qaa hlt
   rw [hx] at hl1 hh1
   repeat' first|(apply nx;with_reducible constructor)|apply jq (by decide)|((first|apply jz env|apply jw);intro Q hQ;simp only [vkt,seval,wu,yz,qw,qb,qI,wh,qo,wF,qf,qc,qH,nrS,aj,hx,e9,ite_and];(repeat' first|with_reducible assumption|apply jv|intro hp);all_goals first|(apply hQ;clear hQ Q)|(apply jx;kernel_rfl)|omega|assumption|with_reducible rfl|skip)
   refine ⟨⟨k+1,hlt⟩,by show l.length - (k+1) < l.length - k;omega, ?_⟩
   simp only [hl1,hh1]
   (refine Le.ok some [] ?_;constructor;all_goals (try simp only [vle,vkt,seval,wu,yz,qw,qb,qI,wh,qo,wF,qf,qc,qH,nrS,aj]))
   all_goals first|rfl|simp
  ·have hke:k=l.length:=by omega
   subst hke
   obtain ⟨g1,g2,g3,g4⟩:=hbd l.length (aA _)
   obtain ⟨lo,hlo⟩:∃ x,loK l l.length=x:=⟨_,rfl⟩
   obtain ⟨hi,hhi⟩:∃ x,hiK l l.length=x:=⟨_,rfl⟩
   rw [hlo] at g1 g2
   rw [hhi] at g3 g4
   obtain ⟨x,hx⟩:∃ x,cs.getD lo.toNat default=x:=⟨_,rfl⟩
   have w1:IntKind.wrap .i64 (lo+1)=lo+1:=wrap64 (by omega) (by omega)
   simp only [hlo,hhi]
   by_cases c1:lo=hi
   ·rw [show (decide (lo=hi) || (decide (lo+1=hi) && (cs.getD lo.toNat default).door))=true by simp [c1]]
    have d1:decide (lo=hi)=true:=decide_eq_true c1
    have d1':(lo == hi)=true:=by simpa using c1
    repeat' first|(apply nx;with_reducible constructor)|apply jq (by decide)|((first|apply jz env|apply jw);intro Q hQ;simp only [vkt,seval,wu,yz,qw,qb,qI,wh,qo,wF,qf,qc,qH,nrS,aj,d1,d1',w1,hx,g1,g2,ite_and];(repeat' first|with_reducible assumption|apply jv|intro hp);all_goals first|(apply hQ;clear hQ Q)|(apply jx;kernel_rfl)|omega|assumption|with_reducible rfl|skip)
    (simp only [vrt,Tryz.results177,vkt,seval,wu,yz,qw,qb,qI,wh,qo,wF,qf,qc,qH,nrS,aj];refine Fin.ok some [] ?_ ?_ ?_ ?_ ?_ rfl;all_goals (try simp only [vle,vkt,seval,wu,yz,qw,qb,qI,wh,qo,wF,qf,qc,qH,nrS,aj]))
    all_goals first|rfl|simp
   ·have d1:decide (lo=hi)=false:=decide_eq_false c1
    have d1':(lo == hi)=false:=by simpa using c1
    by_cases c2:lo+1=hi
    ·rw [show (decide (lo=hi) || (decide (lo+1=hi) && (cs.getD lo.toNat default).door))=x.door by rw [d1,hx,decide_eq_true c2];simp]
     have d2:decide (lo+1=hi)=true:=decide_eq_true c2
     have d2':(lo+1 == hi)=true:=by simpa using c2
     repeat' first|(apply nx;with_reducible constructor)|apply jq (by decide)|((first|apply jz env|apply jw);intro Q hQ;simp only [vkt,seval,wu,yz,qw,qb,qI,wh,qo,wF,qf,qc,qH,nrS,aj,d1,d1',d2,d2',w1,hx,g1,g2,ite_and];(repeat' first|with_reducible assumption|apply jv|intro hp);all_goals first|(apply hQ;clear hQ Q)|(apply jx;kernel_rfl)|omega|assumption|with_reducible rfl|skip)
     (simp only [vrt,Tryz.results177,vkt,seval,wu,yz,qw,qb,qI,wh,qo,wF,qf,qc,qH,nrS,aj];refine Fin.ok some [] ?_ ?_ ?_ ?_ ?_ rfl;all_goals (try simp only [vle,vkt,seval,wu,yz,qw,qb,qI,wh,qo,wF,qf,qc,qH,nrS,aj]))
     all_goals first|rfl|simp
    ·rw [show (decide (lo=hi) || (decide (lo+1=hi) && (cs.getD lo.toNat default).door))=false by rw [d1,decide_eq_false c2];rfl]
     have d2:decide (lo+1=hi)=false:=decide_eq_false c2
     have d2':(lo+1 == hi)=false:=by simpa using c2
     repeat' first|(apply nx;with_reducible constructor)|apply jq (by decide)|((first|apply jz env|apply jw);intro Q hQ;simp only [vkt,seval,wu,yz,qw,qb,qI,wh,qo,wF,qf,qc,qH,nrS,aj,d1,d1',d2,d2',w1,hx,g1,g2,ite_and];(repeat' first|with_reducible assumption|apply jv|intro hp);all_goals first|(apply hQ;clear hQ Q)|(apply jx;kernel_rfl)|omega|assumption|with_reducible rfl|skip)
     (simp only [vrt,Tryz.results177,vkt,seval,wu,yz,qw,qb,qI,wh,qo,wF,qf,qc,qH,nrS,aj];refine Fin.ok some [] ?_ ?_ ?_ ?_ ?_ rfl;all_goals (try simp only [vle,vkt,seval,wu,yz,qw,qb,qI,wh,qo,wF,qf,qc,qH,nrS,aj]))
     all_goals first|rfl|simp
theorem vG {cs:List Cabin} {s:Int} {l:List Tk}:∀ i o,qa (qz 0 (qH cs s l)) i=some o->i < 2/\∀ id ∈ o.ids,id < 2:=by
 intro i o hi
 have h:=qE hi
 simp [qz,qH] at h
 rcases h with ⟨rfl,rfl⟩|⟨rfl,rfl⟩ <;> simp [AObj.ids,AV.ids,AV.idsL,qf,qc]
def Yh (S:St):List AV->Option Pk
 |[.ptr c 0,.sl bs]=>match S.h c with
  |some (.cells [.sl cs,.v (.int .i64 s),.row r])=>match S.h r with
   |some (.row _ _ xs)=>some { pre:=bs=(bs.map zK).map qI/\cs=(cs.map qp).map qo/\xs=(xs.map dTk).map eTk/\NearOk (cs.map qp) (bs.map zK),hs:=[c,r],ar:=[.ptr 0 0,.sl bs],L0:=qH (cs.map qp) s (xs.map dTk),v:=aB (Xy (cs.map qp) (bs.map zK)),L1:=(qH (cs.map qp) s (xs.map dTk)).map some }
   |_=>none
  |_=>none
 |_=>none
theorem eNear {A:Frm->Prop}:qm A Tryz.prog 177 (fnE Yh):=zB fun S bs q h hp=>by
 unfold Yh at h
 split at h
 ·split at h
  ·split at h
   ·cases h
    obtain ⟨h1,h2,h3,h4⟩:=hp
    have:=Qjd _ (by assumption) (List.map dTk (by assumption)) _ h4
    rw [qb,<- h1] at this
    exact this
   ·cases h
  ·cases h
 ·cases h
def Qd5:=jv @xW (jv @jW (jv @Zq (jv @yc (jv @Z7 (jv @vW.eq_1 (jv @jE.eq_1 (jv @kY.eq_1 (jv @jM.eq_1 @Qb.eq_1))))))))
def QhR:=jv @aI.eq_1 (@aB.eq_1)
theorem Qi9 (cs:List Cabin) (s:Int) (sold:List Tk) (t:Tk) (hl:sold.length<=100):Fn noB Tryz.prog 178 [.ptr 0 0,aTk t] (qa (qz 0 (qH cs s sold))) (aB (decide (wI t sold=0))) (qa (za 0 ((qH cs s sold).map some))) 0:=by
 have env:=qB (A:=fun _=>True) (kC QcX kN)
 refine Fn.of (A:=fun _=>True) (n0:=2) (D:=noD) (Fn0 Tryz.func178 rfl (fun vs w=>by kernel_rfl) (by kernel_rfl)) (by simp) (by simp [AV.ids,AV.idsL,aTk,cTk]) vG (fun _ _ _ _=>trivial) q9 ?_
 have et:(⟨t.party,t.sex,t.cab,t.bed,t.frm,t.to,t.dog⟩:Tk)=t:=rfl
 show Sym _ _ _ (qP [.ptr 0 0,aTk t] 2 (qa [(0,qf cs s 1),(1,qc sold)])) (jP tyB noD Tryz.f178 fun S rv=>Fin S rv _ 2 (qa [(0,qf cs s 1),(1,qc sold)]) 0)
 repeat' first|(apply nx;with_reducible constructor)|apply jq (by decide)|((first|apply jz env|apply jw);intro Q hQ;simp only [vkt,seval,Qd5,QhR,aTk,cTk,mTk,qf,qc,YA,et,ite_and];(repeat' first|with_reducible assumption|apply jv|intro hp);all_goals first|(apply hQ;clear hQ Q)|(apply jx;kernel_rfl)|omega|assumption|with_reducible rfl|skip)
 (simp only [vrt,Tryz.results178,vkt,seval,QhR,qf,qc];refine Fin.ok some [] ?_ ?_ ?_ ?_ ?_ rfl;all_goals (try simp only [vle,vkt,seval]))
 all_goals first|rfl|simp
def Y7 (S:St):List AV->Option Pk
 |[.ptr c 0,.agg [.v (.int .i64 a),.v (.int .i64 b),.v (.int .i64 d),.v (.int .i64 e),.v (.int .i64 f),.v (.int .i64 g),.v (.bool k)]]=>match S.h c with
  |some (.cells [.sl cs,.v (.int .i64 s),.row r])=>match S.h r with
   |some (.row _ _ xs)=>some { pre:=cs=(cs.map qp).map qo/\xs=(xs.map dTk).map eTk/\xs.length<=100,hs:=[c,r],ar:=[.ptr 0 0,.agg [.v (.int .i64 a),.v (.int .i64 b),.v (.int .i64 d),.v (.int .i64 e),.v (.int .i64 f),.v (.int .i64 g),.v (.bool k)]],L0:=qH (cs.map qp) s (xs.map dTk),v:=aB (decide (wI ⟨a,b,d,e,f,g,k⟩ (xs.map dTk)=0)),L1:=(qH (cs.map qp) s (xs.map dTk)).map some }
   |_=>none
  |_=>none
 |_=>none
theorem eFits {A:Frm->Prop}:qm A Tryz.prog 178 (fnE Y7):=zB fun S bs q h hp=>by
 unfold Y7 at h
 split at h
 ·rename_i a b d e f g k
  split at h
  ·split at h
   ·rename_i s _ _ _ _ xs _
    cases h
    obtain ⟨h1,h2,h3⟩:=hp
    exact Qi9 _ _ _ ⟨a,b,d,e,f,g,k⟩ (by rw [aj];exact h3)
   ·cases h
  ·cases h
 ·cases h
theorem Qi1 {l:List Tk} {r:List DV} {d:DV} (hr:r ∈ l.map eTk) (hd:d ∈ r):∃ x,d=.v x:=by
 obtain ⟨t,_,rfl⟩:=am.1 hr
 simp only [eTk,ae,aV,or_false] at hd
 rcases hd with rfl|rfl|rfl|rfl|rfl|rfl|rfl <;> exact ⟨_,rfl⟩
def YS (cs:List Cabin) (s:Int) (l:List Tk) (t:Tk):List AObj:=[qf cs s 4,qc l,.cells [.row 1],.cells [.ptr 0 0],qc (l++[t])]
def Qef:=jv @xW (jv @jW (jv @yc (jv @Qn (jv @Z7 (jv @vW.eq_1 (jv @jE.eq_1 (jv @jM.eq_1 (jv @xh.eq_1 @Qb.eq_1))))))))
theorem QiA (cs:List Cabin) (s:Int) (sold:List Tk) (t:Tk) (hl:sold.length<=100):Fn noB Tryz.prog 210 [.ptr 0 0,aTk t] (qa (qz 0 (qH cs s sold))) (.clo 224 [.ptr 2 0,.ptr 3 0]) (qa (za 0 ((YS cs s sold t).map some))) 0:=by
 have env:=qB (A:=fun _=>True) (kC Qcr kN)
 refine Fn.of (A:=fun _=>True) (n0:=2) (D:=noD) (Fn0 Tryz.func210 rfl (fun vs w=>by kernel_rfl) (by kernel_rfl)) (by simp) (by simp [AV.ids,AV.idsL,aTk,cTk]) vG (fun _ _ _ _=>trivial) q9 ?_
 have hm:(100:Nat)+1<=maxLen:=by decide
 show Sym _ _ _ (qP [.ptr 0 0,aTk t] 2 (qa [(0,qf cs s 1),(1,qc sold)])) (jP tyB noD Tryz.f210 fun S rv=>Fin S rv _ 2 (qa [(0,qf cs s 4),(1,qc sold),(2,.cells [.row 1]),(3,.cells [.ptr 0 0]),(4,qc (sold++[t]))]) 0)
 repeat' first|(apply nx;with_reducible constructor)|apply jq (by decide)|((first|apply jz env|apply jw);intro Q hQ;simp only [vkt,seval,Qef,aTk,cTk,rTk,qf,qc,Jr,ite_and];(repeat' first|with_reducible assumption|apply jv|intro hp);all_goals first|(apply hQ;clear hQ Q)|(apply jx;kernel_rfl)|omega|assumption|with_reducible rfl|skip)
 ·exact ⟨_,_,rfl⟩
 ·exact Qi1 (by assumption) (by assumption)
 (simp only [vrt,Tryz.results210,vkt,seval,eTk,qf,qc,aq];refine Fin.ok (fun j=>[0,1,4,2,7][j]?) [] ?_ ?_ ?_ ?_ ?_ rfl;all_goals (try simp only [vle,vkt,seval]))
 all_goals first|rfl|(simp;done)|exact fun i hi=>(match i,hi with|0,_=>rfl|1,_=>rfl)
def QcC (S:St):List AV->Option Pk
 |[.ptr c 0,.agg [.v (.int .i64 a),.v (.int .i64 b),.v (.int .i64 d),.v (.int .i64 e),.v (.int .i64 f),.v (.int .i64 g),.v (.bool k)]]=>match S.h c with
  |some (.cells [.sl cs,.v (.int .i64 s),.row r])=>match S.h r with
   |some (.row _ _ xs)=>some { pre:=cs=(cs.map qp).map qo/\xs=(xs.map dTk).map eTk/\xs.length<=100,hs:=[c,r],ar:=[.ptr 0 0,.agg [.v (.int .i64 a),.v (.int .i64 b),.v (.int .i64 d),.v (.int .i64 e),.v (.int .i64 f),.v (.int .i64 g),.v (.bool k)]],L0:=qH (cs.map qp) s (xs.map dTk),v:=.clo 224 [.ptr 2 0,.ptr 3 0],L1:=(YS (cs.map qp) s (xs.map dTk) ⟨a,b,d,e,f,g,k⟩).map some }
   |_=>none
  |_=>none
 |_=>none
theorem eSell {A:Frm->Prop}:qm A Tryz.prog 210 (fnE QcC):=zB fun S bs q h hp=>by
 unfold QcC at h
 split at h
 ·rename_i a b d e f g k
  split at h
  ·split at h
   ·cases h
    obtain ⟨h1,h2,h3⟩:=hp
    exact QiA _ _ _ ⟨a,b,d,e,f,g,k⟩ (by rw [aj];exact h3)
   ·cases h
  ·cases h
 ·cases h
def Qa4:=jv @xW (jv @jW (jv @yc (jv @Qn (jv @Z7 (jv @vW.eq_1 (jv @jE.eq_1 (jv @jM.eq_1 (jv @xh.eq_1 @Qb.eq_1))))))))
theorem QgX (cs:List Cabin) (s:Int) (sold:List Tk) (t:Tk):FnD Tryz.prog 224 [.ptr 2 0,.ptr 3 0] (qa (qz 0 (YS cs s sold t))) (.tup []) (qa (za 0 ([qf cs s 1,qc sold,.cells [.row 1],.cells [.ptr 0 0],qc (sold++[t])].map some))):=by
 have env:Env (fun F=>F.r=none) Tryz.prog tyB (tab []):=qB trivial
 refine FnD.of (n0:=5) (Fn0 Tryz.func224 rfl (fun vs w=>by kernel_rfl) (by kernel_rfl)) (by simp) (by simp [AV.ids]) ?_ ?_
 ·intro i o hi
  have h:=qE hi
  simp [qz,YS] at h
  rcases h with ⟨rfl,rfl⟩|⟨rfl,rfl⟩|⟨rfl,rfl⟩|⟨rfl,rfl⟩|⟨rfl,rfl⟩ <;> simp [AObj.ids,AV.ids,AV.idsL,qf,qc]
 show Sym _ _ _ (qP [.ptr 2 0,.ptr 3 0] 5 (qa [(0,qf cs s 4),(1,qc sold),(2,.cells [.row 1]),(3,.cells [.ptr 0 0]),(4,qc (sold++[t]))])) (QfU tyB Tryz.f224 fun S rv=>Fin S rv _ 5 (qa [(0,qf cs s 1),(1,qc sold),(2,.cells [.row 1]),(3,.cells [.ptr 0 0]),(4,qc (sold++[t]))]) 0)
 repeat' first|(apply nx;with_reducible constructor)|apply jq (by decide)|((first|apply jz env|apply jw);intro Q hQ;simp only [vkt,seval,Qa4,qf,qc,ite_and];(repeat' first|with_reducible assumption|apply jv|intro hp);all_goals first|(apply hQ;clear hQ Q)|(apply jx;kernel_rfl)|omega|assumption|with_reducible rfl|skip)
 simp only [QfU.eq_1]
 refine ⟨trivial, ?_⟩
 (simp only [vrt,Tryz.results224,vkt,seval,qf,qc];refine Fin.ok some [] ?_ ?_ ?_ ?_ ?_ rfl;all_goals (try simp only [vle,vkt,seval]))
 all_goals first|rfl|simp
def Rw (S:St):List AV->Option Pk
 |[.ptr b 0,.ptr q 0]=>match S.h b,S.h q with
  |some (.cells [.row r]),some (.cells [.ptr c 0])=>match S.h c with
   |some (.cells [.sl cs,.v (.int .i64 s),.row r'])=>match S.h r,S.h r' with
    |some (.row _ _ xs),some (.row _ _ ys)=>some { pre:=cs=(cs.map qp).map qo/\ys=(xs.map dTk).map eTk++[ys.getLastD []]/\ys.getLastD []=eTk (dTk (ys.getLastD [])),hs:=[c,r,b,q,r'],ar:=[.ptr 2 0,.ptr 3 0],L0:=YS (cs.map qp) s (xs.map dTk) (dTk (ys.getLastD [])),v:=.tup [],L1:=[qf (cs.map qp) s 1,qc (xs.map dTk),.cells [.row 1],.cells [.ptr 0 0],qc (xs.map dTk++[dTk (ys.getLastD [])])].map some }
    |_,_=>none
   |_=>none
  |_,_=>none
 |_=>none
theorem QlA {A:Frm->Prop}:yj.OK A Tryz.prog (dfE 224 Rw):=QfA fun S bs q h hp=>by
 unfold Rw at h
 split at h
 ·split at h
  ·split at h
   ·split at h
    ·cases h
     exact QgX _ _ _ _
    ·cases h
   ·cases h
  ·cases h
 ·cases h
def zO (cs:List Cabin) (a:Ask):Nat->List Tk->List Bunk->List (List Bunk × List Tk)
 |0,sold,begun=>[(begun,sold)]
 |m+1,sold,begun=>(qW cs).flatMap fun b=>if goB cs a sold begun b then zO cs a m (sold++[ZV a begun.length b]) (begun++[b]) else []
structure GrowOk (cs:List Cabin) (s:Int) (a:Ask) (m:Nat) (sold:List Tk) (begun:List Bunk) (ys:Nat->List AV) (hl:Nat->List AObj) (ans:Nat->Bool) (R:Nat):Prop where
 sz:begun.length+m=a.sexes.length
 sx:a.sexes.length<=10
 cab:CabsOk cs
 c100:cs.length<=100
 many:sold.length+m<=100
 mem:∀ b ∈ begun,0<=b.cab/\b.cab.toNat < cs.length
 rounds:Rounds ans R (zO cs a m sold begun).length
 ys:∀ j,j < (zO cs a m sold begun).length->ys j=[qb ((zO cs a m sold begun).getD j default).1]
 hl:∀ j,j < (zO cs a m sold begun).length->hl j=qH cs s ((zO cs a m sold begun).getD j default).2
def Vi (cs:List Cabin) (s:Int) (a:Ask) (m:Nat):Prop:=∀ (sold:List Tk) (begun:List Bunk) (ys:Nat->List AV) (hl:Nat->List AObj) (ans:Nat->Bool) (R:Nat),GrowOk cs s a m sold begun ys hl ans R ->
 Fn (Bcc Tryz.prog (qa (qz 0 [qf cs s 1])) (qa (qz 0 (qH cs s sold))) ys (fun j=>nth (hl j)) ans R) Tryz.prog 141 [.ptr 0 0,zh a,qb begun,.cb] (qa (qz 0 (qH cs s sold))) (aB (vS ans R)) (qa (za 0 ((qH cs s sold).map some))) R
def Qb3 (cs:List Cabin) (s:Int) (a:Ask) (m:Nat) (ys:Nat->List AV) (hl:Nat->List AObj) (ans:Nat->Bool) (R:Nat) (S:St):List AV->Option PkI
 |[.ptr c 0,.agg aa,.sl bs,.cb]=>match S.h c with
  |some (.cells [.sl cc,.v (.int .i64 s'),.row r])=>match S.h r with
   |some (.row _ _ xs)=>some { q:={ pre:=cc=cs.map qo/\s'=s/\aa=qj a/\bs=(bs.map zK).map qI/\xs=(xs.map dTk).map eTk/\GrowOk cs s a m (xs.map dTk) (bs.map zK) (fun j=>ys (S.j+j)) (fun j=>hl (S.j+j)) (fun j=>ans (S.j+j)) (min (zO cs a m (xs.map dTk) (bs.map zK)).length (R - S.j)),hs:=[c,r],ar:=[.ptr 0 0,.agg aa,.sl bs,.cb],L0:=qH cs s (xs.map dTk),v:=aB (vS (fun j=>ans (S.j+j)) (min (zO cs a m (xs.map dTk) (bs.map zK)).length (R - S.j))),L1:=(qH cs s (xs.map dTk)).map some },dj:=min (zO cs a m (xs.map dTk) (bs.map zK)).length (R - S.j) }
   |_=>none
  |_=>none
 |_=>none
theorem eGrow {A:Frm->Prop} {cs:List Cabin} {s:Int} {a:Ask} {m:Nat} {ys:Nat->List AV} {hl:Nat->List AObj} {ans:Nat->Bool} {R:Nat} {h0:Nat->Option AObj} (ih:Vi cs s a m) (hA:∀ F,A F->Acb Tryz.prog (qa (qz 0 [qf cs s 1])) h0 ys (fun j=>nth (hl j)) ans R F) :
  qm A Tryz.prog 141 (fnI [qf cs s 1] R (Qb3 cs s a m ys hl ans R)):=KG hA fun S bs q h hp=>by
 unfold Qb3 at h
 split at h
 ·split at h
  ·split at h
   ·cases h
    obtain ⟨_,_,h3,h4,_,h6⟩:=hp
    have:=ih _ _ _ _ _ _ h6
    rw [qb,<- h4,zh,<- h3] at this
    exact this
   ·cases h
  ·cases h
 ·cases h
def g1L (cs:List Cabin) (s:Int) (a:Ask) (sold:List Tk) (begun:List Bunk):List AObj:=[qf cs s 1,qc sold,.cells [.ptr 0 0],.cells (qj a),.cells [.sl (begun.map qI)],.cells [.cb]]
theorem Qgq {cs:List Cabin} {s:Int} {a:Ask} {sold:List Tk} {begun:List Bunk}:∀ i o,qa (qz 0 (g1L cs s a sold begun)) i=some o->i < 6/\∀ id ∈ o.ids,id < 6:=by
 intro i o hi
 have h:=qE hi
 simp [qz,g1L] at h
 rcases h with ⟨rfl,rfl⟩|⟨rfl,rfl⟩|⟨rfl,rfl⟩|⟨rfl,rfl⟩|⟨rfl,rfl⟩|⟨rfl,rfl⟩ <;> simp [AObj.ids,AV.ids,AV.idsL,qf,qc,qj]
theorem Qgd {cs:List Cabin} {s:Int} {r:List AObj}:∀ i o,qa (qz 0 [qf cs s 1]) i=some o->∃ o',qa (qz 0 (qf cs s 1 :: r)) i=some o':=fun i o hi=>by
 rw [zT] at hi
 cases i with
 |zero=>exact ⟨_,rfl⟩
 |succ i=>simp at hi
def KI (cs:List Cabin) (s:Int) (a:Ask) (m:Nat):Prop:=∀ (sold:List Tk) (begun:List Bunk) (ys:Nat->List AV) (hl:Nat->List AObj) (ans:Nat->Bool) (R:Nat),GrowOk cs s a m sold begun ys hl ans R ->
 Fn (Bcc Tryz.prog (qa (qz 0 [qf cs s 1])) (qa (qz 0 (g1L cs s a sold begun))) ys (fun j=>nth (hl j)) ans R) Tryz.prog 180 [.ptr 2 0,.ptr 3 0,.ptr 4 0,.ptr 5 0] (qa (qz 0 (g1L cs s a sold begun))) (aB (vS ans R)) (qa (za 0 ((g1L cs s a sold begun).map some))) R
def Qa8:=jv @WB (jv @VH (jv @xy (jv @Qn (jv @Qkb (jv @QT.eq_1 (jv @WP.eq_1 (jv @yY.eq_1 (jv @xh.eq_1 @UX.eq_1))))))))
def Qho:=jv @aI.eq_1 (@aB.eq_1)
theorem Qhu {cs:List Cabin} {s:Int} {a:Ask} {m:Nat} (ih:Vi cs s a m):KI cs s a m:=by
 intro sold begun ys hl ans R ok
 obtain ⟨A0,hA0⟩:∃ A0:Frm->Prop,A0=Acb Tryz.prog (qa (qz 0 [qf cs s 1])) (qa (qz 0 (g1L cs s a sold begun))) ys (fun j=>nth (hl j)) ans R:=⟨_,rfl⟩
 have hA:∀ F,A0 F->Acb Tryz.prog (qa (qz 0 [qf cs s 1])) (qa (qz 0 (g1L cs s a sold begun))) ys (fun j=>nth (hl j)) ans R F:=fun F h=>hA0 ▸ h
 have env:Env A0 Tryz.prog tyB (tab [(141,fnI [qf cs s 1] R (Qb3 cs s a m ys hl ans R))]):=qB ⟨eGrow ih hA,trivial⟩
 refine Fn.of (A:=A0) (n0:=6) (D:=noD) (Fn0 Tryz.func180 rfl (fun vs w=>by kernel_rfl) (by kernel_rfl)) (by simp) (by simp [AV.ids]) Qgq (fun F hb h0 _=>hA0 ▸ ⟨h0,Qgd,hb⟩) q9 ?_
 have hle:=ok.rounds.le
 have eR:min (zO cs a m sold begun).length R=R:=by omega
 have ea1:a.sexes=a.sexes:=rfl
 show Sym _ _ _ (qP [.ptr 2 0,.ptr 3 0,.ptr 4 0,.ptr 5 0] 6 (qa [(0,qf cs s 1),(1,qc sold),(2,.cells [.ptr 0 0]),(3,.cells (qj a)),(4,.cells [.sl (begun.map qI)]),(5,.cells [.cb])])) (jP tyB noD Tryz.f180 fun S rv=>Fin S rv _ 6 (qa [(0,qf cs s 1),(1,qc sold),(2,.cells [.ptr 0 0]),(3,.cells (qj a)),(4,.cells [.sl (begun.map qI)]),(5,.cells [.cb])]) R)
 repeat' first|(apply nx;with_reducible constructor)|apply jq (by decide)|((first|apply jz env|apply jw);intro Q hQ;simp only [vkt,seval,Qa8,Qho,qj,QN,mTk,qf,qc,qH,Qb3,fnI,Yk,hwL,aP,eR,ok,ite_and];(repeat' first|with_reducible assumption|apply jv|intro hp);all_goals first|(apply hQ;clear hQ Q)|(apply jx;kernel_rfl)|omega|assumption|with_reducible rfl|skip)
 (simp only [vrt,Tryz.results180,vkt,seval,Qho,qj,qf,qc];refine Fin.ok some [] ?_ ?_ ?_ ?_ ?_ rfl;all_goals (try simp only [vle,vkt,seval]))
 all_goals first|rfl|(simp;done)|exact fun i hi=>(match i,hi with|0,_=>rfl|1,_=>rfl)
def Ro (cs:List Cabin) (s:Int) (a:Ask) (m:Nat) (ys:Nat->List AV) (hl:Nat->List AObj) (ans:Nat->Bool) (R:Nat) (S:St):List AV->Option PkI
 |[.ptr p2 0,.ptr p3 0,.ptr p4 0,.ptr p5 0]=>match S.h p2,S.h p3,S.h p4,S.h p5 with
  |some (.cells [.ptr c 0]),some (.cells aa),some (.cells [.sl bs]),some (.cells [.cb])=>match S.h c with
   |some (.cells [.sl cc,.v (.int .i64 s'),.row r])=>match S.h r with
    |some (.row _ _ xs)=>some { q:={ pre:=cc=cs.map qo/\s'=s/\aa=qj a/\bs=(bs.map zK).map qI/\xs=(xs.map dTk).map eTk/\GrowOk cs s a m (xs.map dTk) (bs.map zK) (fun j=>ys (S.j+j)) (fun j=>hl (S.j+j)) (fun j=>ans (S.j+j)) (min (zO cs a m (xs.map dTk) (bs.map zK)).length (R - S.j)),hs:=[c,r,p2,p3,p4,p5],ar:=[.ptr 2 0,.ptr 3 0,.ptr 4 0,.ptr 5 0],L0:=g1L cs s a (xs.map dTk) (bs.map zK),v:=aB (vS (fun j=>ans (S.j+j)) (min (zO cs a m (xs.map dTk) (bs.map zK)).length (R - S.j))),L1:=(g1L cs s a (xs.map dTk) (bs.map zK)).map some },dj:=min (zO cs a m (xs.map dTk) (bs.map zK)).length (R - S.j) }
    |_=>none
   |_=>none
  |_,_,_,_=>none
 |_=>none
theorem QlV {A:Frm->Prop} {cs:List Cabin} {s:Int} {a:Ask} {m:Nat} {ys:Nat->List AV} {hl:Nat->List AObj} {ans:Nat->Bool} {R:Nat} {h0:Nat->Option AObj} (ih:KI cs s a m) (hA:∀ F,A F->Acb Tryz.prog (qa (qz 0 [qf cs s 1])) h0 ys (fun j=>nth (hl j)) ans R F) :
  qm A Tryz.prog 180 (fnI [qf cs s 1] R (Ro cs s a m ys hl ans R)):=KG hA fun S bs q h hp=>by
 unfold Ro at h
 split at h
 ·split at h
  ·split at h
   ·split at h
    ·cases h
     obtain ⟨_,_,_,_,_,h6⟩:=hp
     exact ih _ _ _ _ _ _ h6
    ·cases h
   ·cases h
  ·cases h
 ·cases h
def QbL (cs:List Cabin) (s:Int) (a:Ask) (m:Nat):Prop:=∀ (sold:List Tk) (t:Tk) (begun:List Bunk) (ys:Nat->List AV) (hl:Nat->List AObj) (ans:Nat->Bool) (R:Nat),GrowOk cs s a m (sold++[t]) begun ys hl ans R ->
 Fn (Bcc Tryz.prog (qa (qz 0 [qf cs s 1])) (qa (qz 0 (g1L cs s a sold begun))) ys (fun j=>nth (hl j)) ans R) Tryz.prog 179 [.ptr 0 0,aTk t,.clo 180 [.ptr 2 0,.ptr 3 0,.ptr 4 0,.ptr 5 0]] (qa (qz 0 (g1L cs s a sold begun))) (aB (vS ans R)) (qa (za 0 ((g1L cs s a sold begun).map some))) R
def Qd4:=jv @yc @jM.eq_1
def QhE:=jv @aI.eq_1 (@aB.eq_1)
theorem Qi4 {cs:List Cabin} {s:Int} {a:Ask} {m:Nat} (ih:KI cs s a m):QbL cs s a m:=by
 intro sold t begun ys hl ans R ok
 obtain ⟨A0,hA0⟩:∃ A0:Frm->Prop,A0=fun F=>F.r=none/\Acb Tryz.prog (qa (qz 0 [qf cs s 1])) (qa (qz 0 (g1L cs s a sold begun))) ys (fun j=>nth (hl j)) ans R F:=⟨_,rfl⟩
 have hr:∀ F,A0 F->F.r=none:=fun F h=>by rw [hA0] at h;exact h.1
 have hA:∀ F,A0 F->Acb Tryz.prog (qa (qz 0 [qf cs s 1])) (qa (qz 0 (g1L cs s a sold begun))) ys (fun j=>nth (hl j)) ans R F:=fun F h=>by rw [hA0] at h;exact h.2
 have env:Env A0 Tryz.prog tyB (tab [(210,fnE QcC),(180,fnI [qf cs s 1] R (Ro cs s a m ys hl ans R))]):=qB ⟨eSell,QlV ih hA,trivial⟩
 refine Fn.of (A:=A0) (n0:=6) (D:=dfE 224 Rw) (Fn0 Tryz.func179 rfl (fun vs w=>by kernel_rfl) (by kernel_rfl)) (by simp) (by simp [AV.ids,AV.idsL,aTk,cTk]) Qgq (fun F hb h0 h1=>by rw [hA0];exact ⟨h1,h0,Qgd,hb⟩) QlA ?_
 have hle:=ok.rounds.le
 have eR:min (zO cs a m (sold++[t]) begun).length R=R:=by omega
 have hs1:=ok.many
 have hs2:sold.length<=100:=by rw [aF] at hs1;omega
 have et:(⟨t.party,t.sex,t.cab,t.bed,t.frm,t.to,t.dog⟩:Tk)=t:=rfl
 have hgl:(List.map eTk sold++[eTk t]).getLastD []=eTk t:=by simp
 have hma:List.map eTk (sold++[t])=List.map eTk sold++[eTk t]:=by simp
 show Sym _ _ _ (qP [.ptr 0 0,aTk t,.clo 180 [.ptr 2 0,.ptr 3 0,.ptr 4 0,.ptr 5 0]] 6 (qa [(0,qf cs s 1),(1,qc sold),(2,.cells [.ptr 0 0]),(3,.cells (qj a)),(4,.cells [.sl (begun.map qI)]),(5,.cells [.cb])])) (jP tyB _ Tryz.f179 fun S rv=>Fin S rv _ 6 (qa [(0,qf cs s 1),(1,qc sold),(2,.cells [.ptr 0 0]),(3,.cells (qj a)),(4,.cells [.sl (begun.map qI)]),(5,.cells [.cb])]) R)
 repeat' first|(apply nx;with_reducible constructor)|apply jq (by decide)
 (apply jz env;intro Q hQ;simp only [vkt,seval,aTk,cTk,qj,qf,qc,ite_and];(repeat' first|with_reducible assumption|apply jv|intro hp);all_goals first|(apply hQ;clear hQ Q)|(apply jx;kernel_rfl)|omega|assumption|with_reducible rfl|skip)
 repeat' first|(apply nx;with_reducible constructor)|apply jq (by decide)
 refine VF hr env rfl rfl rfl fun Q hQ=>?_
 simp only [List.dropLast]
 simp only [vkt,seval,Qd4,mTk,qD,qf,qc,qH,YS,QcC,hwL,et,hs2]
 repeat' first|with_reducible assumption|refine dR ?_ ?_|intro hp
 all_goals first|(refine hQ _ _ _ (by simp only [vkt,seval];rfl) ?_;clear hQ Q)|skip
 dsimp only [put]
 repeat' first|(apply nx;with_reducible constructor)|apply jq (by decide)|((first|apply jz env|apply jw);intro Q hQ;simp only [vkt,seval,QhE,qj,QN,mTk,qf,qc,g1L,Ro,fnI,Yk,hwL,aP,eR,ok,ite_and];(repeat' first|with_reducible assumption|apply jv|intro hp);all_goals first|(apply hQ;clear hQ Q)|(apply jx;kernel_rfl)|omega|assumption|with_reducible rfl|skip)
 simp only [vrt,Tryz.results179,vkt,seval,QhE,qj,mTk,qD,qf,qc,YS,Rw,dfE,hwL,hgl,hma,Qkg]
 refine Fin.ok some [] ?_ ?_ ?_ ?_ ?_ rfl
 all_goals (try simp only [vle,vkt,seval])
 all_goals first|rfl|simp
def Xu (cs:List Cabin) (s:Int) (a:Ask) (m:Nat) (ys:Nat->List AV) (hl:Nat->List AObj) (ans:Nat->Bool) (R:Nat) (S:St):List AV->Option PkI
 |[.ptr c 0,.agg [.v (.int .i64 t0),.v (.int .i64 t1),.v (.int .i64 t2),.v (.int .i64 t3),.v (.int .i64 t4),.v (.int .i64 t5),.v (.bool t6)],.clo f [.ptr p2 0,.ptr p3 0,.ptr p4 0,.ptr p5 0]]=>match S.h p2,S.h p3,S.h p4,S.h p5 with
  |some (.cells [.ptr c' 0]),some (.cells aa),some (.cells [.sl bs]),some (.cells [.cb])=>match S.h c with
   |some (.cells [.sl cc,.v (.int .i64 s'),.row r])=>match S.h r with
    |some (.row _ _ xs)=>some { q:={ pre:=f=180/\c'=c/\cc=cs.map qo/\s'=s/\aa=qj a/\bs=(bs.map zK).map qI/\xs=(xs.map dTk).map eTk/\GrowOk cs s a m (xs.map dTk++[⟨t0,t1,t2,t3,t4,t5,t6⟩]) (bs.map zK) (fun j=>ys (S.j+j)) (fun j=>hl (S.j+j)) (fun j=>ans (S.j+j)) (min (zO cs a m (xs.map dTk++[⟨t0,t1,t2,t3,t4,t5,t6⟩]) (bs.map zK)).length (R - S.j)),hs:=[c,r,p2,p3,p4,p5],ar:=[.ptr 0 0,.agg [.v (.int .i64 t0),.v (.int .i64 t1),.v (.int .i64 t2),.v (.int .i64 t3),.v (.int .i64 t4),.v (.int .i64 t5),.v (.bool t6)],.clo 180 [.ptr 2 0,.ptr 3 0,.ptr 4 0,.ptr 5 0]],L0:=g1L cs s a (xs.map dTk) (bs.map zK),v:=aB (vS (fun j=>ans (S.j+j)) (min (zO cs a m (xs.map dTk++[⟨t0,t1,t2,t3,t4,t5,t6⟩]) (bs.map zK)).length (R - S.j))),L1:=(g1L cs s a (xs.map dTk) (bs.map zK)).map some },dj:=min (zO cs a m (xs.map dTk++[⟨t0,t1,t2,t3,t4,t5,t6⟩]) (bs.map zK)).length (R - S.j) }
    |_=>none
   |_=>none
  |_,_,_,_=>none
 |_=>none
theorem eWith {A:Frm->Prop} {cs:List Cabin} {s:Int} {a:Ask} {m:Nat} {ys:Nat->List AV} {hl:Nat->List AObj} {ans:Nat->Bool} {R:Nat} {h0:Nat->Option AObj} (ih:QbL cs s a m) (hA:∀ F,A F->Acb Tryz.prog (qa (qz 0 [qf cs s 1])) h0 ys (fun j=>nth (hl j)) ans R F) :
  qm A Tryz.prog 179 (fnI [qf cs s 1] R (Xu cs s a m ys hl ans R)):=KG hA fun S bs q h hp=>by
 unfold Xu at h
 split at h
 ·split at h
  ·split at h
   ·split at h
    ·cases h
     obtain ⟨_,_,_,_,_,_,_,h6⟩:=hp
     exact ih _ _ _ _ _ _ _ h6
    ·cases h
   ·cases h
  ·cases h
 ·cases h
theorem QdA {cs:List Cabin} {s:Int} {l:List Tk}:∀ i o,qa (qz 0 [qf cs s 1]) i=some o->([0,1]:List Nat)[i]?=some i:=fun i o hi=>by
 rw [zT] at hi
 cases i with
 |zero=>rfl
 |succ i=>simp at hi
def ww:=jv @ty3 (jv @ty4 (jv @jW (jv @WG (jv @WB (jv @VH (jv @xy (jv @yc (jv @Qn (jv @Z7 (jv @Qkb (jv @ti3.eq_1 (jv @ti4.eq_1 (jv @jE.eq_1 (jv @QV.eq_1 (jv @QT.eq_1 (jv @WP.eq_1 (jv @yY.eq_1 (jv @jM.eq_1 (jv @xh.eq_1 (jv @Qb.eq_1 @UX.eq_1))))))))))))))))))))
def Qlt:=jv @aI.eq_1 (@aB.eq_1)
theorem Qdl (cs:List Cabin) (s:Int) (a:Ask):Vi cs s a 0:=by
 intro sold begun ys hl ans R ok
 obtain ⟨A0,hA0⟩:∃ A0:Frm->Prop,A0=Acb Tryz.prog (qa (qz 0 [qf cs s 1])) (qa (qz 0 (qH cs s sold))) ys (fun j=>nth (hl j)) ans R:=⟨_,rfl⟩
 have hA:∀ F,A0 F->Acb Tryz.prog (qa (qz 0 [qf cs s 1])) (qa (qz 0 (qH cs s sold))) ys (fun j=>nth (hl j)) ans R F:=fun F h=>hA0 ▸ h
 have env:Env A0 Tryz.prog tyB (Go.Sym.tabC (cbX [0,1] ys hl ans R) []):=⟨Y4,X5 (fun S bs h hS ops o g args tys caps hw ho hg hb=>JD hA (QdA (l:=sold)) (by simp) h hS hw ho hg hb) trivial,by kernel_rfl⟩
 refine Fn.of (A:=A0) (n0:=2) (D:=noD) (Fn0 Tryz.func141 rfl (fun vs w=>by kernel_rfl) (by kernel_rfl)) (by simp) (by simp [AV.ids,AV.idsL,zh,qj,qb]) vG (fun F hb h0 _=>hA0 ▸ ⟨h0,Qgd,hb⟩) q9 ?_
 have hr:=ok.rounds
 have hy:=ok.ys 0 (by simp [zO])
 have hh:=ok.hl 0 (by simp [zO])
 have hsz:=ok.sz
 simp only [zO,bf,bK,ak] at hr hy hh
 have hR:R=1:=by
  have h1:=hr.le
  have h2:=hr.lt (k:=0) (by omega) (fun j hj=>by omega)
  omega
 subst hR
 rw [qb] at hy
 rw [show vS ans 1=ans 0 by simp [vS]]
 have d1:decide ((begun.length:Int)=(a.sexes.length:Int))=true:=decide_eq_true (by omega)
 show Sym _ _ _ (qP [.ptr 0 0,zh a,qb begun,.cb] 2 (qa [(0,qf cs s 1),(1,qc sold)])) (jP tyB noD Tryz.f141 fun S rv=>Fin S rv _ 2 (qa [(0,qf cs s 1),(1,qc sold)]) 1)
 repeat' first|(apply nx;with_reducible constructor)|apply jq (by decide)|((first|apply jz env|apply jw);intro Q hQ;simp only [vkt,seval,ww,zh,qj,qb,qf,qc,qH,Go.Sym.tabC,cbX,vH,hwL,hy,hh,d1,ite_and];(repeat' first|with_reducible assumption|apply jv|intro hp);all_goals first|(apply hQ;clear hQ Q)|(apply jx;kernel_rfl)|omega|assumption|with_reducible rfl|skip)
 (simp only [vrt,Tryz.results141,vkt,seval,ww,Qlt,qf,qc];refine Fin.ok some [] ?_ ?_ ?_ ?_ ?_ rfl;all_goals (try simp only [vle,vkt,seval]))
 all_goals first|rfl|(simp;done)|exact fun i hi=>(match i,hi with|0,_=>rfl|1,_=>rfl)
def gbL (cs:List Cabin) (a:Ask) (m:Nat) (sold:List Tk) (begun:List Bunk) (b:Bunk):List (List Bunk × List Tk):=if goB cs a sold begun b then zO cs a m (sold++[ZV a begun.length b]) (begun++[b]) else []
def gsL (cs:List Cabin) (a:Ask) (m:Nat) (sold:List Tk) (begun:List Bunk):List Nat:=(qW cs).map fun b=>(gbL cs a m sold begun b).length
theorem Qw (cs:List Cabin) (a:Ask) (m:Nat) (sold:List Tk) (begun:List Bunk):zO cs a (m+1) sold begun=(qW cs).flatMap (gbL cs a m sold begun):=rfl
theorem XT (cs:List Cabin) (a:Ask) (m:Nat) (sold:List Tk) (begun:List Bunk):(zO cs a (m+1) sold begun).length=(gsL cs a m sold begun).sum:=by rw [Qw,Qhv];rfl
theorem Qde {cs:List Cabin} {a:Ask} {m:Nat} {sold:List Tk} {begun:List Bunk} {i k:Nat} (hi:i < (qW cs).length) (hk:k < (gbL cs a m sold begun ((qW cs).getD i default)).length) :
  (zO cs a (m+1) sold begun).getD (((gsL cs a m sold begun).take i).sum+k) default=(gbL cs a m sold begun ((qW cs).getD i default)).getD k default:=by
 have:=Qbv (gbL cs a m sold begun) default default (qW cs) i k hi hk
 rw [Qw,gsL,<- List.map_take]
 exact this
theorem QgU {cs:List Cabin} {a:Ask} {m:Nat} {sold:List Tk} {begun:List Bunk} {i:Nat} (hi:i < (qW cs).length):(gsL cs a m sold begun).getD i 0=(gbL cs a m sold begun ((qW cs).getD i default)).length:=by
 simp [gsL,ah,hi]
theorem Qcc {cs:List Cabin} {i:Nat} (hi:i < (qW cs).length):0<=((qW cs).getD i default).cab/\((qW cs).getD i default).cab.toNat < cs.length:=by
 obtain ⟨x,y,h1,h2,h3⟩:=Uk.1 (yX (d:=default) hi)
 rw [h3]
 exact ⟨cJ _,by simpa using h1⟩
theorem QbN {cs:List Cabin} {s:Int} {a:Ask} {m:Nat} {sold:List Tk} {begun:List Bunk} {ys:Nat->List AV} {hl:Nat->List AObj} {ans:Nat->Bool} {R:Nat} (ok:GrowOk cs s a (m+1) sold begun ys hl ans R) {i o:Nat} {b:Bunk} (hi:i < (qW cs).length) (hb:(qW cs).getD i default=b)
  (ho:((gsL cs a m sold begun).take i).sum=o) (hg:goB cs a sold begun b=true) {D:Nat} (hr:Rounds (fun j=>ans (o+j)) D (zO cs a m (sold++[ZV a begun.length b]) (begun++[b])).length) :
  GrowOk cs s a m (sold++[ZV a begun.length b]) (begun++[b]) (fun j=>ys (o+j)) (fun j=>hl (o+j)) (fun j=>ans (o+j)) D:=by
 have hgb:gbL cs a m sold begun b=zO cs a m (sold++[ZV a begun.length b]) (begun++[b]):=by unfold gbL;rw [if_pos hg]
 have hlen:∀ j,j < (zO cs a m (sold++[ZV a begun.length b]) (begun++[b])).length->o+j < (zO cs a (m+1) sold begun).length:=fun j hj=>by
  rw [XT,<- ho]
  have h1:=WU (g:=gsL cs a m sold begun) (i:=i) (by simpa [gsL] using hi)
  have h2:=vL (g:=gsL cs a m sold begun) (show i+1<=(gsL cs a m sold begun).length by simp [gsL];omega)
  rw [bF] at h2
  rw [QgU hi,hb,hgb] at h1
  omega
 have hget:∀ j,j < (zO cs a m (sold++[ZV a begun.length b]) (begun++[b])).length->(zO cs a (m+1) sold begun).getD (o+j) default=(zO cs a m (sold++[ZV a begun.length b]) (begun++[b])).getD j default:=fun j hj=>by
  rw [<- ho,Qde hi (by rw [hb,hgb];exact hj),hb,hgb]
 have h1:=ok.sz
 have h2:=ok.many
 refine ⟨by simp;omega,ok.sx,ok.cab,ok.c100,by simp;omega,fun x hx=>?_,hr,fun j hj=>?_,fun j hj=>?_⟩
 ·rcases aw.1 hx with hx|hx
  ·exact ok.mem x hx
  ·rw [aO.1 hx,<- hb];exact Qcc hi
 ·show ys (o+j)=_
  rw [ok.ys _ (hlen j hj),hget j hj]
 ·show hl (o+j)=_
  rw [ok.hl _ (hlen j hj),hget j hj]
def gwL:List (Nat × AV):=[(4,.ptr 2 0),(5,.ptr 3 0),(6,.ptr 4 0),(7,.ptr 5 0),(8,.ptr 6 0),(25,.clo 181 [.ptr 7 0])]
def gwH (cs:List Cabin) (s:Int) (a:Ask) (sold:List Tk) (begun:List Bunk):List (Nat × AObj):=[(0,qf cs s 1),(1,qc sold),(2,.cells [.ptr 0 0]),(3,.cells (qj a)),(4,.cells [.sl (begun.map qI)]),(5,.cells [.cb]),(6,.cells [aB false])]
theorem Qju (cs:List Cabin) (s:Int):qO [7] 9 0 [buO cs s]=[(7,buO cs s)]:=rfl
def jH:=jv @aI.eq_1 (jv @aB.eq_1 (jv @WK (jv @QeK (@zG.eq_1))))
theorem Qd8 (cs:List Cabin) (s:Int) (a:Ask) (m:Nat) (ih:QbL cs s a m):Vi cs s a (m+1):=by
 intro sold begun ys hl ans R ok
 obtain ⟨A0,hA0⟩:∃ A0:Frm->Prop,A0=fun F=>F.r=none/\Acb Tryz.prog (qa (qz 0 [qf cs s 1])) (qa (qz 0 (qH cs s sold))) ys (fun j=>nth (hl j)) ans R F:=⟨_,rfl⟩
 have hr0:∀ F,A0 F->F.r=none:=fun F h=>by rw [hA0] at h;exact h.1
 have hA:∀ F,A0 F->Acb Tryz.prog (qa (qz 0 [qf cs s 1])) (qa (qz 0 (qH cs s sold))) ys (fun j=>nth (hl j)) ans R F:=fun F h=>by rw [hA0] at h;exact h.2
 have env:Env A0 Tryz.prog tyB (tab [(144,fnE WA)]):=qB ⟨QcM,trivial⟩
 refine Fn.of (A:=A0) (n0:=2) (D:=noD) (Fn0 Tryz.func141 rfl (fun vs w=>by kernel_rfl) (by kernel_rfl)) (by simp) (by simp [AV.ids,AV.idsL,zh,qj,qb]) vG (fun F hb h0 h1=>by rw [hA0];exact ⟨h1,h0,Qgd,hb⟩) q9 ?_
 have hr:=ok.rounds
 rw [XT] at hr
 have hsz:=ok.sz
 have hsx:=ok.sx
 have d0:decide ((begun.length:Int)=(a.sexes.length:Int))=false:=decide_eq_false (by omega)
 obtain ⟨RB,ansB,hRB,hN,hend,hres⟩:=nest _ hr
 rw [show (gsL cs a m sold begun).length=(qW cs).length by simp [gsL]] at hRB
 have hRl:=hRB.le
 rw [hres]
 show Sym _ _ _ (qP [.ptr 0 0,zh a,qb begun,.cb] 2 (qa [(0,qf cs s 1),(1,qc sold)])) (jP tyB noD Tryz.f141 fun S rv=>Fin S rv _ 2 (qa [(0,qf cs s 1),(1,qc sold)]) R)
 repeat' first|(apply nx;with_reducible constructor)|apply jq (by decide)|((first|apply jz env|apply jw);intro Q hQ;simp only [vkt,seval,ww,zh,qj,qb,qD,qf,qc,WA,hwL,aP,d0,ite_and];(repeat' first|with_reducible assumption|apply jv|intro hp);all_goals first|(apply hQ;clear hQ Q)|(apply jx;kernel_rfl)|omega|assumption|with_reducible rfl|skip)
 refine ve (S':={ t:=asg gwL,h:=qa (gwH cs s a sold begun++[(7,buO cs s)]),n:=8,j:=0,d:=[],m:=2 }) ?_ ?_
 ·show Le _ { t:=asg [(4,.ptr 2 0),(5,.ptr 3 0),(6,.ptr 4 0),(7,.ptr 5 0),(8,.ptr 6 0),(25,.clo 181 [.ptr 7 0])],h:=qa [(0,qf cs s 1),(1,qc sold),(2,.cells [.ptr 0 0]),(3,.cells (qj a)),(4,.cells [.sl (begun.map qI)]),(5,.cells [.cb]),(6,.cells [aB false]),(7,buO cs s)],n:=8,j:=0,d:=[],m:=2 }
  (refine Le.ok some [] ?_;constructor;all_goals (try simp only [vle,vkt,seval,jH,qj,qf,qc,buO]))
  all_goals first|rfl|simp
 rw [<- Qju cs s]
 have ej:(fun i=>min ((gsL cs a m sold begun).take i).sum R) 0=0:=by simp
 rw [show ({ t:=asg gwL,h:=qa (gwH cs s a sold begun++qO [7] 9 0 [buO cs s]),n:=8,j:=0,d:=[],m:=2 }:St)={ t:=asg gwL,h:=qa ((fun _=>gwH cs s a sold begun) 0++qO [7] (8+1) 0 [buO cs s]),n:=8,j:=(fun i=>min ((gsL cs a m sold begun).take i).sum R) 0,d:=[],m:=2 } by rw [ej]]
 refine yw hr0 1 (L:=gwL) (L':=gwL) (xs:=[]) (hs:=[7]) (n:=8) (nl:=0) (hc:=fun _=>gwH cs s a sold begun) (Lp:=[buO cs s]) (jj:=fun i=>min ((gsL cs a m sold begun).take i).sum R) (d:=[]) (ys:=buY cs) (hl:=fun _=>[buO cs s]) (ans:=ansB) (ex:=.ret) (caps:=[.ptr 7 0]) (caps0:=[.ptr 0 0]) (N:=(qW cs).length) (R:=RB) (A':=fun i=>Acb Tryz.prog (qa (qz 0 [qf cs s 1])) (qa ((8,.mark) :: gwH cs s a sold begun++[(7,buO cs s)])) (fun k=>ys (min ((gsL cs a m sold begun).take i).sum R+k)) (fun k=>nth (hl (min ((gsL cs a m sold begun).take i).sum R+k))) (fun k=>ans (min ((gsL cs a m sold begun).take i).sum R+k)) (R - min ((gsL cs a m sold begun).take i).sum R)) rfl (R4 cs s ok.cab) hRB (.inl rfl) ?_ ?_ ?_ rfl (by simp) ?_ (by simp) ?_ ?_ ?_ (fun _ _=>rfl) (fun x hx=>by cases hx) (fun j hj p _ h=>by cases h) ?_ (fun j hj=>?_) ?_ (fun j hj=>?_) (fun hall=>?_) (fun hpos hlast=>?_)
 ·simp [AV.leL,AV.le]
 ·simp [AV.nocbL,AV.nocb]
 ·simp [Z9,buO,AObj.nocb,AV.nocbL,AV.nocb,AObj.ids,AV.ids,AV.idsL,AObj.ren,AV.renL,AV.ren,AObj.le,AV.leL,AV.le,wW]
 ·simp [gwH,qa]
 ·intro F hF j hj F' hR
  refine XJ (hA F hF) hR fun i o hi=>?_
  rw [zT] at hi
  cases i with
  |zero=>exact ⟨_,rfl⟩
  |succ i=>simp at hi
 ·simp [gwH,qa]
 ·exact fun _ _ _ _ h=>h
 ·simp [JR,gwL,AV.ids,AV.idsL]
 ·refine ⟨?_,rfl, ?_, ?_,rfl, ?_⟩
  ·simp [ku,gwH,AObj.ids,AV.ids,AV.idsL,qf,qc,qj,aB]
  ·simp [Za,buO,AObj.nocb,AV.nocbL,AV.nocb,AObj.ids,AV.ids,AV.idsL]
  ·simp [Vx,buY,qw,AV.nocb,AV.nocbL,AV.ids,AV.idsL]
  ·simp [xV,Wh,qO,qg,gwH,gwL,yU,AV.ids,AV.idsL,ADf.ids,bB]
 ·simp [ku,gwH,AObj.ids,AV.ids,AV.idsL,qf,qc,qj,aB]
 ·have hjl:j < (qW cs).length:=by omega
  obtain ⟨n1,n2,n3,n4⟩:=hN j hj
  obtain ⟨o,ho⟩:∃ o,((gsL cs a m sold begun).take j).sum=o:=⟨_,rfl⟩
  have eo:min o R=o:=by omega
  rw [QgU hjl,ho] at n2 n3 n4
  obtain ⟨b,hb⟩:∃ b,(qW cs).getD j default=b:=⟨_,rfl⟩
  rw [hb] at n2 n3 n4
  have hbi:=Qcc hjl
  rw [hb] at hbi
  simp only [ho,eo]
  have hst:wL gwL [26] [7] 8 0 (buY cs j) (gwH cs s a sold begun) [buO cs s]={ t:=asg [(26,qw b),(4,.ptr 2 0),(5,.ptr 3 0),(6,.ptr 4 0),(7,.ptr 5 0),(8,.ptr 6 0),(25,.clo 181 [.ptr 7 0])],h:=qa [(8,.mark),(0,qf cs s 1),(1,qc sold),(2,.cells [.ptr 0 0]),(3,.cells (qj a)),(4,.cells [.sl (begun.map qI)]),(5,.cells [.cb]),(6,.cells [aB false]),(7,buO cs s)],n:=9,m:=9 }:=by
   simp only [wL,buY,hb,qw,af,au,AV.ren,AV.renL,ck,cw,gwH,gwL,Qh,aT,aG]
   rfl
  show Sym _ _ _ (wL gwL [26] [7] 8 0 (buY cs j) (gwH cs s a sold begun) [buO cs s]) _
  rw [hst]
  obtain ⟨A1,hA1⟩:∃ A1:Frm->Prop,A1=Acb Tryz.prog (qa (qz 0 [qf cs s 1])) (qa ((8,.mark) :: gwH cs s a sold begun++[(7,buO cs s)])) (fun k=>ys (o+k)) (fun k=>nth (hl (o+k))) (fun k=>ans (o+k)) (R - o):=⟨_,rfl⟩
  rw [<- hA1]
  have env:Env A1 Tryz.prog tyB (tab [(175,fnE WY),(176,zU true Qt),(177,fnE Yh),(178,fnE Y7),(179,fnI [qf cs s 1] (R - o) (Xu cs s a m (fun k=>ys (o+k)) (fun k=>hl (o+k)) (fun k=>ans (o+k)) (R - o)))]) :=
   qB ⟨Qh8,QkO,eNear,eFits,eWith ih (h0:=qa ((8,.mark) :: gwH cs s a sold begun++[(7,buO cs s)])) fun F hF=>by rw [hA1] at hF;exact hF,trivial⟩
  have hcl:=ok.c100
  have hmany:=ok.many
  obtain ⟨sx,hsx1⟩:∃ x,a.sexes.getD begun.length 0=x:=⟨_,rfl⟩
  have hlt:begun.length < a.sexes.length:=by omega
  have hb1:begun.length<=100:=by omega
  have hb2:begun.length<=100000:=by omega
  have hm:(100:Nat)+1<=maxLen:=by decide
  have hb3:begun.length+1<=maxLen:=by omega
  repeat' first|(apply nx;with_reducible constructor)|apply jq (by decide)
  (apply jz env;intro Q hQ;simp only [vkt,seval,ww,jH,qj,qw,qf,qc,buO,ite_and];(repeat' first|with_reducible assumption|apply jv|intro hp);all_goals first|(apply hQ;clear hQ Q)|(apply jx;kernel_rfl)|omega|assumption|with_reducible rfl|skip)
  repeat' first|(apply nx;with_reducible constructor)|apply jq (by decide)
  (apply jz env;intro Q hQ;simp only [vkt,seval,ww,Ul,qf,WY,hwL,aP,hb2,hb3,ite_and];(repeat' first|with_reducible assumption|apply jv|intro hp);all_goals first|(apply hQ;clear hQ Q)|(apply jx;kernel_rfl)|omega|assumption|with_reducible rfl|skip)
  repeat' first|(apply nx;with_reducible constructor)|apply jq (by decide)
  (apply jz env;intro Q hQ;simp only [vkt,seval,ww,jH,qf,hsx1,hlt,ite_and];(repeat' first|with_reducible assumption|apply jv|intro hp);all_goals first|(apply hQ;clear hQ Q)|(apply jx;kernel_rfl)|omega|assumption|with_reducible rfl|skip)
  repeat' first|(apply nx;with_reducible constructor)|apply jq (by decide)
  have hma:List.map qI begun++[[DV.v (.int .i64 b.cab),DV.v (.int .i64 b.bed)]]=List.map qI (begun++[b]):=by simp [qI]
  refine ve (S':={ t:=asg [(4,.ptr 2 0),(5,.ptr 3 0),(6,.ptr 4 0),(7,.ptr 5 0),(8,.ptr 6 0),(9,.ptr 9 0),(10,.ptr 10 0),(11,.ptr 11 0)],h:=qa [(8,.mark),(0,qf cs s 1),(1,qc sold),(2,.cells [.ptr 0 0]),(3,.cells (qj a)),(4,.cells [.sl (begun.map qI)]),(5,.cells [.cb]),(6,.cells [aB false]),(7,buO cs s),(9,.cells [.v (.int .i64 b.cab),.v (.int .i64 b.bed)]),(10,.cells [.sl (List.map qI (begun++[b]))]),(11,.cells [.v (.int .i64 a.party),.v (.int .i64 sx),.v (.int .i64 b.cab),.v (.int .i64 b.bed),.v (.int .i64 a.frm),.v (.int .i64 a.to),.v (.bool a.dog)])],n:=12,j:=0,d:=[],m:=9 }) ?_ ?_
  ·(refine Le.ok (fun i=>if i=10 then some 13 else if i=11 then some 14 else some i) [12] ?_;constructor;all_goals (try simp only [vle,vkt,seval,jH,qj,qf,qc,buO]))
   all_goals first|rfl|(simp;done)|(rw [hma];exact ⟨_,_,rfl⟩)|(intro i hi;rw [if_neg (by omega),if_neg (by omega)];done)
  have et:(⟨a.party,sx,b.cab,b.bed,a.frm,a.to,a.dog⟩:Tk)=ZV a begun.length b:=by rw [<- hsx1];rfl
  have eb:(⟨b.cab,b.bed⟩:Bunk)=b:=rfl
  have hno:NearOk cs (begun++[b]):=⟨by simp,by simp;omega,hcl,fun x hx=>by
   rcases aw.1 hx with hx|hx
   ·exact ok.mem x hx
   ·rw [aO.1 hx];exact hbi⟩
  have hs100:sold.length<=100:=by omega
  have stop:goB cs a sold begun b=false->ansB j=true/\min ((gsL cs a m sold begun).take (j+1)).sum R=o:=fun h=>by
   have e0:gbL cs a m sold begun b=[]:=by unfold gbL;rw [h];rfl
   rw [e0] at n3 n4
   simp only [bK,Nat.zero_min] at n3 n4
   exact ⟨by rw [n3];simp [vS],by rw [n4];rfl⟩
  cases c1:begun.contains b with
  |true =>
   obtain ⟨s1,s2⟩:=stop (by unfold goB;rw [c1];rfl)
   repeat' first|(apply nx;with_reducible constructor)|apply jq (by decide)|((first|apply jz env|apply jw);intro Q hQ;simp only [vkt,seval,ww,jH,qj,QN,qf,qc,buO,Qt,hb1,c1,eb,ite_and];(repeat' first|with_reducible assumption|apply jv|intro hp);all_goals first|(apply hQ;clear hQ Q)|(apply jx;kernel_rfl)|omega|assumption|with_reducible rfl|skip)
   refine ⟨by rw [s1];rfl,by show _=_+0;simp only [s2,ho,eo];rfl,some,_,RFin.okQ some [] ?_⟩
   constructor
   all_goals (try simp only [vle,yS,yH,qg,vkt,seval,jH,qj,qf,qc,gwL,gwH,buO])
   all_goals first|rfl|simp
  |false =>
   cases c2:Xy cs (begun++[b]) with
   |false =>
    obtain ⟨s1,s2⟩:=stop (by unfold goB;rw [c1,c2];rfl)
    repeat' first|(apply nx;with_reducible constructor)|apply jq (by decide)|((first|apply jz env|apply jw);intro Q hQ;simp only [vkt,seval,ww,jH,qj,QN,mTk,qD,qf,qc,qH,buO,Yh,Qt,hwL,hb1,c1,c2,eb,hno,ite_and];(repeat' first|with_reducible assumption|apply jv|intro hp);all_goals first|(apply hQ;clear hQ Q)|(apply jx;kernel_rfl)|omega|assumption|with_reducible rfl|skip)
    refine ⟨by rw [s1];rfl,by show _=_+0;simp only [s2,ho,eo];rfl,some,_,RFin.okQ some [] ?_⟩
    constructor
    all_goals (try simp only [vle,yS,yH,qg,vkt,seval,jH,qj,qf,qc,gwL,gwH,buO])
    all_goals first|rfl|simp
   |true =>
    cases c3:decide (wI (ZV a begun.length b) sold=0) with
    |false =>
     obtain ⟨s1,s2⟩:=stop (by unfold goB;rw [c1,c2,c3];rfl)
     repeat' first|(apply nx;with_reducible constructor)|apply jq (by decide)|((first|apply jz env|apply jw);intro Q hQ;simp only [vkt,seval,ww,jH,qj,QN,mTk,qD,qf,qc,qH,buO,Yh,Y7,Qt,hwL,hb1,c1,c2,c3,eb,et,hno,hs100,ite_and];(repeat' first|with_reducible assumption|apply jv|intro hp);all_goals first|(apply hQ;clear hQ Q)|(apply jx;kernel_rfl)|omega|assumption|with_reducible rfl|skip)
     refine ⟨by rw [s1];rfl,by show _=_+0;simp only [s2,ho,eo];rfl,some,_,RFin.okQ some [] ?_⟩
     constructor
     all_goals (try simp only [vle,yS,yH,qg,vkt,seval,jH,qj,qf,qc,gwL,gwH,buO])
     all_goals first|rfl|simp
    |true =>
     have hgo:goB cs a sold begun b=true:=by unfold goB;rw [c1,c2,c3];rfl
     have hgb:gbL cs a m sold begun b=zO cs a m (sold++[ZV a begun.length b]) (begun++[b]):=by unfold gbL;rw [if_pos hgo]
     rw [hgb] at n2 n3 n4
     have hG:=QbN ok hjl hb ho hgo n2
     obtain ⟨D,hD⟩:∃ D,min (zO cs a m (sold++[ZV a begun.length b]) (begun++[b])).length (R - o)=D:=⟨_,rfl⟩
     rw [hD] at hG n3 n4
     have hDle:D<=R - o:=by omega
     cases hab:ansB j with
     |false =>
      rw [hab] at n3
      have n3:=n3.symm
      repeat' first|(apply nx;with_reducible constructor)|apply jq (by decide)|((first|apply jz env|apply jw);intro Q hQ;simp only [vkt,seval,ww,jH,qj,QN,mTk,qD,qf,qc,qH,g1L,buO,Yh,Y7,Xu,Qt,fnI,Yk,hwL,aP,hb1,c1,c2,c3,eb,et,hno,hs100,hD,hDle,hG,n3,ite_and];(repeat' first|with_reducible assumption|apply jv|intro hp);all_goals first|(apply hQ;clear hQ Q)|(apply jx;kernel_rfl)|omega|assumption|with_reducible rfl|skip)
      refine ⟨by rw [hab];rfl,by simp only [n4,ho,eo],some,_,RFin.okQ some [] ?_⟩
      constructor
      all_goals (try simp only [vle,yS,yH,qg,vkt,seval,jH,qj,qf,qc,gwL,gwH,buO])
      all_goals first|rfl|simp
     |true =>
      rw [hab] at n3
      have n3:=n3.symm
      repeat' first|(apply nx;with_reducible constructor)|apply jq (by decide)|((first|apply jz env|apply jw);intro Q hQ;simp only [vkt,seval,ww,jH,qj,QN,mTk,qD,qf,qc,qH,g1L,buO,Yh,Y7,Xu,Qt,fnI,Yk,hwL,aP,hb1,c1,c2,c3,eb,et,hno,hs100,hD,hDle,hG,n3,ite_and];(repeat' first|with_reducible assumption|apply jv|intro hp);all_goals first|(apply hQ;clear hQ Q)|(apply jx;kernel_rfl)|omega|assumption|with_reducible rfl|skip)
      refine ⟨by rw [hab];rfl,by simp only [n4,ho,eo],some,_,RFin.okQ some [] ?_⟩
      constructor
      all_goals (try simp only [vle,yS,yH,qg,vkt,seval,jH,qj,qf,qc,gwL,gwH,buO])
      all_goals first|rfl|simp
 ·have hR:vS ansB RB=true:=by
   by_cases h0:RB=0
   ·simp [vS,h0]
   ·simp [vS,hall (RB - 1) (by omega)]
  rw [hR,hend]
  have eh:qa ((8,AObj.mark) :: gwH cs s a sold begun++qO [7] (8+1) 0 [buO cs s])=qa [(8,.mark),(0,qf cs s 1),(1,qc sold),(2,.cells [.ptr 0 0]),(3,.cells (qj a)),(4,.cells [.sl (begun.map qI)]),(5,.cells [.cb]),(6,.cells [aB false]),(7,buO cs s)]:=rfl
  rw [eh]
  repeat' first|(apply nx;with_reducible constructor)|apply jq (by decide)|((first|apply jz env|apply jw);intro Q hQ;simp only [vkt,seval,ww,jH,qj,qf,qc,gwL,buO,ite_and];(repeat' first|with_reducible assumption|apply jv|intro hp);all_goals first|(apply hQ;clear hQ Q)|(apply jx;kernel_rfl)|omega|assumption|with_reducible rfl|skip)
  (simp only [vrt,Tryz.results141,vkt,seval,ww,jH,qf,qc];refine Fin.ok some [] ?_ ?_ ?_ ?_ ?_ rfl;all_goals (try simp only [vle,vkt,seval]))
  all_goals first|rfl|(simp;done)|exact fun i hi=>(match i,hi with|0,_=>rfl|1,_=>rfl)
 ·have hR:vS ansB RB=false:=by
   simp [vS,hlast,show ¬ RB=0 by omega]
  rw [hR,hend]
  have eh:qa ((8,AObj.mark) :: gwH cs s a sold begun++qO [7] (8+1) 0 [buO cs s])=qa [(8,.mark),(0,qf cs s 1),(1,qc sold),(2,.cells [.ptr 0 0]),(3,.cells (qj a)),(4,.cells [.sl (begun.map qI)]),(5,.cells [.cb]),(6,.cells [aB false]),(7,buO cs s)]:=rfl
  rw [eh]
  repeat' first|(apply nx;with_reducible constructor)|apply jq (by decide)|((first|apply jz env|apply jw);intro Q hQ;simp only [vkt,seval,ww,jH,aTk,cTk,zh,qj,qw,qb,qI,Ul,QN,mTk,qD,qf,qc,qH,g1L,gwL,gwH,buO,WA,WY,Yh,Y7,Xu,Qt,aj,fnI,Yk,vH,nth,hwL,bj,aP,ite_and];(repeat' first|with_reducible assumption|apply jv|intro hp);all_goals first|(apply hQ;clear hQ Q)|(apply jx;kernel_rfl)|omega|assumption|with_reducible rfl|skip)
  (simp only [vrt,Tryz.results141,vkt,seval,ww,jH,qj,qf,qc,gwL,buO];refine Fin.ok some [] ?_ ?_ ?_ ?_ ?_ rfl;all_goals (try simp only [vle,vkt,seval]))
  all_goals first|rfl|(simp;done)|exact fun i hi=>(match i,hi with|0,_=>rfl|1,_=>rfl)
theorem LG (cs:List Cabin) (s:Int) (a:Ask):∀ m,Vi cs s a m
 |0=>Qdl cs s a
 |m+1=>Qd8 cs s a m (Qi4 (Qhu (LG cs s a m)))
theorem QiR (a:Ask):PCs (qj a):=⟨by simp [qj,AV.idsL,AV.ids],by simp [qj,AV.leL,AV.le],by simp [qj,AV.renL,AV.ren]⟩
def QeJ:=jv @ty3 (jv @WB (jv @yc (jv @ti3.eq_1 (jv @QT.eq_1 @jM.eq_1))))
def QlI:=jv @aI.eq_1 (@aB.eq_1)
theorem Qio (a:Ask):Wq 172 (qj a) (fun x=>decide (x.party=a.party)):=fun x=>by
 have env:Env (fun _=>True) Tryz.prog tyB (tab []):=qB trivial
 refine Fn.of (A:=fun _=>True) (n0:=1) (D:=noD) (Fn0 Tryz.func172 rfl (fun vs w=>by kernel_rfl) (by kernel_rfl)) (by simp) (by simp [AV.ids,AV.idsL,aTk,cTk]) ?_ (fun _ _ _ _=>trivial) q9 ?_
 ·intro i o hi
  have h:=qE hi
  simp at h;obtain ⟨rfl,rfl⟩:=h;simp [qj,AObj.ids,AV.ids,AV.idsL]
 repeat' first|(apply nx;with_reducible constructor)|refine jq (by decide) ?_|((first|refine jz env fun Q hQ=>?_|refine jk fun Q hQ=>?_);simp only [vkt,seval,QeJ,aTk,cTk,qj];(try simp only [ite_and]);(repeat' (first|with_reducible assumption|refine dR ?_ ?_|intro hp));all_goals (first|(refine hQ _ ?_;clear hQ Q)|(refine hQ _ (fun h=>?_) (fun h=>?_) <;> clear hQ Q <;> (try simp only [vki,reduceCtorEq] at h))|(refine jx ?_;kernel_rfl)|omega|assumption|with_reducible rfl|skip))
 all_goals (simp only [vrt,Tryz.results172,vkt,seval,QlI,qj];refine Fin.ok some [] ?_ ?_ ?_ ?_ ?_ rfl;all_goals (try simp only [vle,vkt,seval]))
 all_goals first|rfl|simp
def Wp (a:Ask) (S:St):List AV->Option Pk
 |[.sl xs,.clo f [.ptr t 0]]=>match S.h t with
  |some (.cells cs')=>some { pre:=f=172/\cs'=qj a/\xs=(xs.map dTk).map eTk/\xs.length<=100,hs:=[t],ar:=[.sl xs,.clo 172 [.ptr 0 0]],L0:=[.cells (qj a)],v:=aB ((xs.map dTk).any fun x=>decide (x.party=a.party)),L1:=[some (.cells (qj a))] }
  |_=>none
 |_=>none
theorem QlN {A:Frm->Prop} {a:Ask}:qm A Tryz.prog 171 (fnE (Wp a)):=zB fun S bs q h hp=>by
 unfold Wp at h
 split at h
 ·split at h
  ·cases h
   obtain ⟨_,_,h1,h2⟩:=hp
   have:=RI (QiR a) (Qio a) (List.map dTk _) (by rw [aj];exact h2)
   rw [qy,<- h1] at this
   exact this
  ·cases h
 ·cases h
def akS (c:Chart) (a:Ask) (k:Nat):St:={ t:=asg [(2,.ptr 0 0),(3,.ptr 1 0),(4,aI 0),(36,.sl (a.sexes.map zG)),(37,aI a.sexes.length),(38,aI k)],h:=qa [(0,.cells (qd c)),(1,.cells (qj a))],n:=2 }
def V9 (s:Int):Int:=if !inB s 1 2 then 8 else 0
def vO:=jv @ty3 (jv @xW (jv @jW (jv @WG (jv @Zq (jv @WB (jv @yc (jv @ti3.eq_1 (jv @vW.eq_1 (jv @jE.eq_1 (jv @QV.eq_1 (jv @kY.eq_1 (jv @QT.eq_1 @jM.eq_1))))))))))))
def j6:=jv @aI.eq_1 (jv @aB.eq_1 (jv @zG.eq_1 (jv @QeK (@WK))))
theorem Qlc (c:Chart) (a:Ask) (hc:c.sold.length<=100) (ha:a.sexes.length<=maxLen):FnV Tryz.prog 137 [qh c,zh a] (aI (Qq c a)):=by
 have env:Env (fun _=>True) Tryz.prog tyB (tab [(146,zU true sin),(145,zU true vU),(147,zU true Uf),(171,fnE (Wp a))]):=qB ⟨ein,UQ,eway,QlN,trivial⟩
 refine Fn.of (A:=fun _=>True) (n0:=0) (D:=noD) (Fn0 Tryz.func137 rfl (fun vs w=>by kernel_rfl) (by kernel_rfl)) (by simp) (by simp [AV.ids,AV.idsL,qh,qd,zh,qj]) (fun i o h=>by cases h) (fun _ _ _ _=>trivial) q9 ?_
 cases h1:inB a.party 1 99
 ·rw [show Qq c a=1 by simp [Qq,h1]]
  repeat' first|(apply nx;with_reducible constructor)|apply jq (by decide)|((first|apply jz env|apply jw);intro Q hQ;simp only [vkt,seval,vO,j6,qh,qd,zh,qj,sin,h1,ite_and];(repeat' first|with_reducible assumption|apply jv|intro hp);all_goals first|(apply hQ;clear hQ Q)|(apply jx;kernel_rfl)|omega|assumption|with_reducible rfl|skip)
  (simp only [vrt,Tryz.results137,vkt,seval,j6];refine Fin.val rfl ?_;(try simp only [AV.le]))
  all_goals first|rfl|simp
 cases h2:c.sold.any (fun t=>decide (t.party=a.party))
 case true =>
  rw [show Qq c a=4 by simp only [Qq,h1,h2];rfl]
  repeat' first|(apply nx;with_reducible constructor)|apply jq (by decide)|((first|apply jz env|apply jw);intro Q hQ;simp only [vkt,seval,vO,j6,qh,qd,zh,qj,mTk,sin,Wp,h1,h2,hc,ite_and];(repeat' first|with_reducible assumption|apply jv|intro hp);all_goals first|(apply hQ;clear hQ Q)|(apply jx;kernel_rfl)|omega|assumption|with_reducible rfl|skip)
  (simp only [vrt,Tryz.results137,vkt,seval,j6];refine Fin.val rfl ?_;(try simp only [AV.le]))
  all_goals first|rfl|simp
 by_cases h3:ZU c.secs a.frm a.to=0
 case neg =>
  rw [show Qq c a=ZU c.secs a.frm a.to by unfold Qq;rw [h1,h2];simp [h3]]
  repeat' first|(apply nx;with_reducible constructor)|apply jq (by decide)|((first|apply jz env|apply jw);intro Q hQ;simp only [vkt,seval,vO,j6,qh,qd,zh,qj,mTk,qD,sin,Uf,Wp,h1,h2,h3,hc,ite_and];(repeat' first|with_reducible assumption|apply jv|intro hp);all_goals first|(apply hQ;clear hQ Q)|(apply jx;kernel_rfl)|omega|assumption|with_reducible rfl|skip)
  (simp only [vrt,Tryz.results137,vkt,seval,j6];refine Fin.val rfl ?_;(try simp only [AV.le]))
  all_goals first|rfl|simp
 by_cases h4:zH a.sexes.length 1 3=0
 case neg =>
  rw [show Qq c a=zH a.sexes.length 1 3 by unfold Qq;rw [h1,h2,h3];simp [h4]]
  repeat' first|(apply nx;with_reducible constructor)|apply jq (by decide)|((first|apply jz env|apply jw);intro Q hQ;simp only [vkt,seval,vO,j6,qh,qd,zh,qj,mTk,qD,sin,vU,Uf,Wp,h1,h2,h3,h4,hc,ite_and];(repeat' first|with_reducible assumption|apply jv|intro hp);all_goals first|(apply hQ;clear hQ Q)|(apply jx;kernel_rfl)|omega|assumption|with_reducible rfl|skip)
  (simp only [vrt,Tryz.results137,vkt,seval,j6];refine Fin.val rfl ?_;(try simp only [AV.le]))
  all_goals first|rfl|simp
 have hl:a.sexes.length<=3:=by
  unfold zH at h4
  split at h4
  ·exact absurd h4 (by decide)
  ·split at h4
   ·exact absurd h4 (by decide)
   ·omega
 rw [show Qq c a=yu (a.sexes.map V9) by unfold Qq;rw [h1,h2,h3,h4];rfl]
 repeat' first|(apply nx;with_reducible constructor)|apply jq (by decide)|((first|apply jz env|apply jw);intro Q hQ;simp only [vkt,seval,vO,j6,qh,qd,zh,qj,mTk,qD,sin,vU,Uf,Wp,h1,h2,h3,h4,hc,ite_and];(repeat' first|with_reducible assumption|apply jv|intro hp);all_goals first|(apply hQ;clear hQ Q)|(apply jx;kernel_rfl)|omega|assumption|with_reducible rfl|skip)
 refine qY (fun k:{ k:Nat // k<=a.sexes.length/\∀ j,j < k->(a.sexes.map V9).getD j 0=0 }=>akS c a k.1) (fun k=>a.sexes.length - k.1) ⟨0,ap _,fun j h=>absurd h (bu _)⟩ ?_ fun ⟨k,hk,hno⟩=>?_
 ·(refine Le.ok some [] ?_;constructor;all_goals (try simp only [vle,vkt,seval,j6,qd,qj]))
  all_goals first|rfl|simp
 ·repeat' first|(apply nx;with_reducible constructor)|apply jq (by decide)
  (apply jz env;intro Q hQ;simp only [vkt,seval,vO,j6,qd,qj,akS,ite_and];(repeat' first|with_reducible assumption|apply jv|intro hp);all_goals first|(apply hQ;clear hQ Q)|(apply jx;kernel_rfl)|omega|assumption|with_reducible rfl|skip)
  repeat' first|(apply nx;with_reducible constructor)|apply jq (by decide)
  (refine jc (by simp only [vkt,seval];rfl) (fun h=>?_) (fun h=>?_) <;> (try simp only [vki] at h))
  ·have hlt:k < a.sexes.length:=by omega
   have e9:IntKind.wrap .i64 ((k:Int)+1)=((k+1:Nat):Int):=by rw [wrap64 (by omega) (by omega)];rfl
   obtain ⟨x,hx⟩:∃ x,a.sexes.getD k 0=x:=⟨_,rfl⟩
   have hm:(a.sexes.map V9).getD k 0=V9 x:=by rw [mapD hlt];exact congrArg V9 hx
   cases hb:inB x 1 2
   ·have hE:V9 x=8:=by simp [V9,hb]
    have hf:=Q5 hno (by simpa using hlt) (by rw [hm,hE];decide)
    rw [hm,hE] at hf
    rw [hf]
    repeat' first|(apply nx;with_reducible constructor)|apply jq (by decide)|((first|apply jz env|apply jw);intro Q hQ;simp only [vkt,seval,vO,j6,sin,hx,hb,ite_and];(repeat' first|with_reducible assumption|apply jv|intro hp);all_goals first|(apply hQ;clear hQ Q)|(apply jx;kernel_rfl)|omega|assumption|with_reducible rfl|skip)
    (simp only [vrt,Tryz.results137,vkt,seval,j6];refine Fin.val rfl ?_;(try simp only [AV.le]))
    all_goals first|rfl|simp
   ·have hE:V9 x=0:=by simp [V9,hb]
    repeat' first|(apply nx;with_reducible constructor)|apply jq (by decide)|((first|apply jz env|apply jw);intro Q hQ;simp only [vkt,seval,vO,j6,sin,hx,hb,e9,ite_and];(repeat' first|with_reducible assumption|apply jv|intro hp);all_goals first|(apply hQ;clear hQ Q)|(apply jx;kernel_rfl)|omega|assumption|with_reducible rfl|skip)
    refine ⟨⟨k+1,hlt,fun j hj=>?_⟩,by show a.sexes.length - (k+1) < a.sexes.length - k;omega, ?_⟩
    ·rcases bw (bx hj) with h2|h2
     ·exact hno j h2
     ·rw [h2,hm,hE]
    ·(refine Le.ok some [] ?_;constructor;all_goals (try simp only [vle,vkt,seval,j6,qd,qj]))
     all_goals first|rfl|simp
  ·have hke:k=a.sexes.length:=by omega
   subst hke
   rw [xJ (l:=a.sexes.map V9) (by simpa using hno)]
   repeat' first|(apply nx;with_reducible constructor)|apply jq (by decide)|((first|apply jz env|apply jw);intro Q hQ;simp only [vkt,seval,ite_and];(repeat' first|with_reducible assumption|apply jv|intro hp);all_goals first|(apply hQ;clear hQ Q)|(apply jx;kernel_rfl)|omega|assumption|with_reducible rfl|skip)
   (simp only [vrt,Tryz.results137,vkt,seval,j6];refine Fin.val rfl ?_;(try simp only [AV.le]))
   all_goals first|rfl|simp
def sask:List AV->Prop × AV
 |[.agg [.sl c0,.v (.int .i64 c1),.sl c2],.agg [.v (.int .i64 a0),.v (.int .i64 a1),.v (.int .i64 a2),.sl a3,.v (.bool a4)]]=>(c0=(c0.map qp).map qo/\c2=(c2.map dTk).map eTk/\a3=(a3.map zD).map zG/\c2.length<=100/\a3.length<=maxLen,aI (Qq (⟨(c0.map qp),c1,(c2.map dTk)⟩:Chart) (⟨a0,a1,a2,(a3.map zD),a4⟩:Ask)))
 |_=>(False,.junk)
theorem eask {A:Frm->Prop}:qm A Tryz.prog 137 (zU true sask):=ze fun vs hv h=>by
 clear hv
 unfold sask at h ⊢
 split at h
 ·rename_i c0 c1 c2 a0 a1 a2 a3 a4;obtain ⟨q0,q1,q2,k0,k1⟩:=h
  refine ⟨by first|trivial|(repeat' split) <;> simp [AV.plain,AV.plainL,aI,aB,qx,qb,qy,qw,aTk,cTk],fun _=>(by simp [AV.flat,aI]), ?_⟩
  have:=Qlc (⟨(c0.map qp),c1,(c2.map dTk)⟩:Chart) (⟨a0,a1,a2,(a3.map zD),a4⟩:Ask) (by simpa using k0) (by simpa using k1)
  simp only [zh,qh,aI,qj,qd,<- q0,<- q1,<- q2] at this
  first|exact this|(simp only [zh,aB,wH,qh,aI,qx,qy,qj,qd,<- q0,<- q1,<- q2];exact this)
 ·exact h.elim
def UY:=jv @JH (jv @JI (jv @ZW.eq_1 @Z5.eq_1))
theorem QdU (xs:List (List DV)) (h1:zn 2 xs) (h2:xs.length<=100000):Fn noB Tryz.prog 173 [.sl xs] noH (.row 0) (qa [(0,.row 84 2 xs)]) 0:=by
 have env:=qB (A:=fun _=>True) kN
 obtain ⟨b1,b2,b3,b5,b4⟩:=b47 h2
 refine kV (Fn0 Tryz.func173 rfl (fun vs w=>by kernel_rfl) (by kernel_rfl)) (by simp) (by simp [AV.ids]) ?_
 repeat' first|(apply nx;with_reducible constructor)|apply jq (by decide)
 (apply jz env;intro Q hQ;simp only [vkt,seval,ite_and];(repeat' first|with_reducible assumption|apply jv|intro hp);all_goals first|(apply hQ;clear hQ Q)|(apply jx;kernel_rfl)|omega|assumption|with_reducible rfl|skip)
 repeat' first|(apply nx;with_reducible constructor)|apply jq (by decide)
 refine kG (d1:=3) (d2:=4) (t:=22) (e:=84) (x:=.tmp 0) (xs:=xs) rfl rfl rfl rfl rfl rfl Tryz.underlying22 rfl fun b hb=>?_
 repeat' first|(apply nx;with_reducible constructor)|apply jq (by decide)
 (refine jc (by simp only [vkt,seval];rfl) (fun h=>?_) (fun h=>?_) <;> (try simp only [vki,reduceCtorEq] at h))
 ·have hx:=hb h
  subst hx
  repeat' first|(apply nx;with_reducible constructor)|apply jq (by decide)|((first|apply jz env|apply jw);intro Q hQ;simp only [vkt,seval,ite_and];(repeat' first|with_reducible assumption|apply jv|intro hp);all_goals first|(apply hQ;clear hQ Q)|(apply jx;kernel_rfl)|omega|assumption|with_reducible rfl|skip)
  (simp only [vrt,Tryz.results173,vkt,seval];refine Fin.ok (fun _=>none) [] ?_ ?_ ?_ ?_ ?_ rfl;all_goals (try simp only [vle,vkt,seval]))
  all_goals simp
 ·repeat' first|(apply nx;with_reducible constructor)|apply jq (by decide)|((first|apply jz env|apply jw);intro Q hQ;simp only [vkt,seval,UY,ite_and];(repeat' first|with_reducible assumption|apply jv|intro hp);all_goals first|(apply hQ;clear hQ Q)|(apply jx;kernel_rfl)|omega|assumption|with_reducible rfl|skip)
  (simp only [vrt,Tryz.results173,vkt,seval];refine Fin.ok some [] ?_ ?_ ?_ ?_ ?_ rfl;all_goals (try simp only [vle,vkt,seval]))
  all_goals simp
def Yx (_:St):List AV->Option Pk
 |[.sl xs]=>some { pre:=zn 2 xs/\xs.length<=100000,ar:=[.sl xs],v:=.row 0,L1:=[some (.row 84 2 xs)] }
 |_=>none
theorem Qix {A:Frm->Prop}:qm A Tryz.prog 173 (fnE Yx):=zB fun S bs q h hp=>by
 unfold Yx at h
 split at h
 ·cases h;exact QdU _ hp.1 hp.2
 ·cases h
def Qa1:=jv @JH (jv @xW (jv @jW (jv @JI (jv @yc (jv @Z7 (jv @ZW.eq_1 (jv @vW.eq_1 (jv @jE.eq_1 (jv @Z5.eq_1 (jv @jM.eq_1 @Qb.eq_1))))))))))
theorem Qfu (c:Chart) (h1:c.cabins.length<=100000) (h2:c.sold.length<=100000):Fn noB Tryz.prog 138 [qh c] noH (.ptr 0 0) (qa (za 0 ((qH c.cabins c.secs c.sold).map some))) 0:=by
 have env:Env (fun _=>True) Tryz.prog tyB (tab [(174,fnE Jr),(173,fnE Yx)]):=qB ⟨Qcr,Qix,trivial⟩
 refine Fn.of (A:=fun _=>True) (n0:=0) (D:=noD) (Fn0 Tryz.func138 rfl (fun vs w=>by kernel_rfl) (by kernel_rfl)) (by simp) (by simp [AV.ids,AV.idsL,qh,qd]) (fun i o h=>by cases h) (fun _ _ _ _=>trivial) q9 ?_
 show Sym _ _ _ (qP [qh c] 0 noH) (jP tyB noD Tryz.f138 fun S rv=>Fin S rv _ 0 (qa [(0,qf c.cabins c.secs 1),(1,qc c.sold)]) 0)
 repeat' first|(apply nx;with_reducible constructor)|refine jq (by decide) ?_|((first|refine jz env fun Q hQ=>?_|refine jk fun Q hQ=>?_);simp only [vkt,seval,Qa1,qh,qd,rTk,wR,Jr,Yx,h1,h2];(try simp only [ite_and]);(repeat' (first|with_reducible assumption|refine dR ?_ ?_|intro hp));all_goals (first|(refine hQ _ ?_;clear hQ Q)|(refine hQ _ (fun h=>?_) (fun h=>?_) <;> clear hQ Q <;> (try simp only [vki,reduceCtorEq] at h))|(refine jx ?_;kernel_rfl)|omega|assumption|with_reducible rfl|skip))
 all_goals (simp only [vrt,Tryz.results138,vkt,seval,qf,qc];refine Fin.ok (fun j=>[3,2][j]?) [1] ?_ ?_ ?_ ?_ ?_ rfl;all_goals (try simp only [vle,vkt,seval]))
 all_goals first|rfl|simp
def QbX (_:St):List AV->Option Pk
 |[.agg [.sl cs,.v (.int .i64 s),.sl ts]]=>some { pre:=cs=(cs.map qp).map qo/\ts=(ts.map dTk).map eTk/\cs.length<=100000/\ts.length<=100000,ar:=[.agg [.sl cs,.v (.int .i64 s),.sl ts]],v:=.ptr 0 0,L1:=(qH (cs.map qp) s (ts.map dTk)).map some }
 |_=>none
theorem QfB {A:Frm->Prop}:qm A Tryz.prog 138 (fnE QbX):=zB fun S bs q h hp=>by
 unfold QbX at h
 split at h
 ·rename_i cs s ts
  cases h
  obtain ⟨h1,h2,h3,h4⟩:=hp
  have:=Qfu ⟨cs.map qp,s,ts.map dTk⟩ (by simpa using h3) (by simpa using h4)
  simp only [qh,qd,<- h1,<- h2] at this
  exact this
 ·cases h
theorem kz {c:Chart} {a:Ask} (h:wo c a=0):zo c=0/\Qq c a=0:=by
 unfold wo at h
 split at h
 ·rename_i h1;exact absurd h h1
 ·rename_i h1;exact ⟨Decidable.not_not.1 h1,h⟩
def Zl:=jv @jW (jv @Zq (jv @WB (jv @jE.eq_1 (jv @kY.eq_1 @QT.eq_1))))
def ZR:=jv @aI.eq_1 (jv @aB.eq_1 (@WK))
theorem Qfw (c:Chart) (a:Ask) (h:wo c a=0) (hc:c.cabins.length<=maxLen) (ha:a.sexes.length<=maxLen):Fn noB Tryz.prog 76 [qh c,zh a] noH (.tup [.ptr 0 0,aI 0]) (qa (za 0 ((qH c.cabins c.secs c.sold).map some))) 0:=by
 have env:=qB (A:=fun _=>True) (kC JF (kC eask (kC QfB kN)))
 refine kV (Fn0 Tryz.func76 rfl (fun vs w=>by kernel_rfl) (by kernel_rfl)) (by simp) (by simp [AV.ids,AV.idsL,qh,qd,zh,qj]) ?_
 obtain ⟨h1,h2⟩:=kz h
 have hv:=kU h1
 have b1:=hv.car.cabs
 have b2:=hv.many
 have ec:(⟨c.cabins,c.secs,c.sold⟩:Chart)=c:=rfl
 have ea:(⟨a.party,a.frm,a.to,a.sexes,a.dog⟩:Ask)=a:=rfl
 have b3:c.sold.length<=100:=by omega
 have b4:c.sold.length<=100000:=by omega
 have b5:c.cabins.length<=100000:=by omega
 show Sym _ _ _ (qP [qh c,zh a] 0 noH) (jP tyB noD Tryz.f76 fun S rv=>Fin S rv _ 0 (qa [(0,qf c.cabins c.secs 1),(1,qc c.sold)]) 0)
 repeat' first|(apply nx;with_reducible constructor)|apply jq (by decide)|((first|apply jz env|apply jw);intro Q hQ;simp only [vkt,seval,Zl,ZR,qh,qd,zh,qj,mTk,qD,qf,qc,qH,yB,sask,QbX,ec,ea,h1,h2,b3,b4,b5,ite_and];(repeat' first|with_reducible assumption|apply jv|intro hp);all_goals first|(apply hQ;clear hQ Q)|(apply jx;kernel_rfl)|omega|assumption|with_reducible rfl|skip)
 (simp only [vrt,Tryz.results76,vkt,seval,ZR,qf,qc];refine Fin.ok (fun j=>[2,3][j]?) [] ?_ ?_ ?_ ?_ ?_ rfl;all_goals (try simp only [vle,vkt,seval]))
 all_goals first|rfl|simp
theorem Qdr (c:Chart) (a:Ask) (h0:wo c a ≠ 0) (hc:c.cabins.length<=maxLen) (ha:a.sexes.length<=maxLen):Fn noB Tryz.prog 76 [qh c,zh a] noH (.tup [.v (.pointer none),aI (wo c a)]) noH 0:=by
 have env:=qB (A:=fun _=>True) (kC JF (kC eask (kC QfB kN)))
 refine kV (Fn0 Tryz.func76 rfl (fun vs w=>by kernel_rfl) (by kernel_rfl)) (by simp) (by simp [AV.ids,AV.idsL,qh,qd,zh,qj]) ?_
 have ec:(⟨c.cabins,c.secs,c.sold⟩:Chart)=c:=rfl
 have ea:(⟨a.party,a.frm,a.to,a.sexes,a.dog⟩:Ask)=a:=rfl
 by_cases h1:zo c=0
 ·have hE:wo c a=Qq c a:=by unfold wo;rw [if_neg (by rw [h1];simp)]
  rw [hE] at h0 ⊢
  have hv:=kU h1
  have b2:=hv.many
  have b3:c.sold.length<=100:=by omega
  repeat' first|(apply nx;with_reducible constructor)|apply jq (by decide)|((first|apply jz env|apply jw);intro Q hQ;simp only [vkt,seval,Zl,ZR,qh,qd,zh,qj,mTk,qD,yB,sask,ec,ea,h1,h0,b3,ite_and];(repeat' first|with_reducible assumption|apply jv|intro hp);all_goals first|(apply hQ;clear hQ Q)|(apply jx;kernel_rfl)|omega|assumption|with_reducible rfl|skip)
  (simp only [vrt,Tryz.results76,vkt,seval,ZR];refine Fin.val rfl ?_;(try simp only [AV.le,AV.leL]))
  all_goals first|rfl|simp
 ·have hE:wo c a=zo c:=by unfold wo;rw [if_pos h1]
  rw [hE]
  repeat' first|(apply nx;with_reducible constructor)|apply jq (by decide)|((first|apply jz env|apply jw);intro Q hQ;simp only [vkt,seval,Zl,ZR,qh,qd,zh,qj,mTk,qD,yB,ec,h1,ite_and];(repeat' first|with_reducible assumption|apply jv|intro hp);all_goals first|(apply hQ;clear hQ Q)|(apply jx;kernel_rfl)|omega|assumption|with_reducible rfl|skip)
  (simp only [vrt,Tryz.results76,vkt,seval,ZR];refine Fin.val rfl ?_;(try simp only [AV.le,AV.leL]))
  all_goals first|rfl|simp
def jS (_:St):List AV->Option Pk
 |[.agg [.sl cs,.v (.int .i64 s),.sl ts],.agg [.v (.int .i64 p),.v (.int .i64 f),.v (.int .i64 t),.sl xs,.v (.bool d)]] =>
  if wo ⟨cs.map qp,s,ts.map dTk⟩ ⟨p,f,t,xs.map zD,d⟩=0 then
   some { pre:=cs=(cs.map qp).map qo/\ts=(ts.map dTk).map eTk/\xs=(xs.map zD).map zG/\cs.length<=maxLen/\xs.length<=maxLen,ar:=[.agg [.sl cs,.v (.int .i64 s),.sl ts],.agg [.v (.int .i64 p),.v (.int .i64 f),.v (.int .i64 t),.sl xs,.v (.bool d)]],v:=.tup [.ptr 0 0,aI 0],L1:=(qH (cs.map qp) s (ts.map dTk)).map some }
  else some { pre:=cs=(cs.map qp).map qo/\ts=(ts.map dTk).map eTk/\xs=(xs.map zD).map zG/\cs.length<=maxLen/\xs.length<=maxLen,ar:=[.agg [.sl cs,.v (.int .i64 s),.sl ts],.agg [.v (.int .i64 p),.v (.int .i64 f),.v (.int .i64 t),.sl xs,.v (.bool d)]],v:=.tup [.v (.pointer none),aI (wo ⟨cs.map qp,s,ts.map dTk⟩ ⟨p,f,t,xs.map zD,d⟩)] }
 |_=>none
theorem Vj {A:Frm->Prop}:qm A Tryz.prog 76 (fnE jS):=zB fun S bs q h hp=>by
 unfold jS at h
 split at h
 ·rename_i cs s ts p f t xs d
  split at h
  ·rename_i hE
   cases h
   obtain ⟨h1,h2,h3,h4,h5⟩:=hp
   have:=Qfw ⟨cs.map qp,s,ts.map dTk⟩ ⟨p,f,t,xs.map zD,d⟩ hE (by simpa using h4) (by simpa using h5)
   simp only [qh,qd,zh,qj,<- h1,<- h2,<- h3] at this
   exact this
  ·rename_i hE
   cases h
   obtain ⟨h1,h2,h3,h4,h5⟩:=hp
   have:=Qdr ⟨cs.map qp,s,ts.map dTk⟩ ⟨p,f,t,xs.map zD,d⟩ hE (by simpa using h4) (by simpa using h5)
   simp only [qh,qd,zh,qj,<- h1,<- h2,<- h3] at this
   exact this
 ·cases h
theorem W9 (L:List AObj):nth L=qa (qz 0 L):=by
 funext i
 rw [zT]
 simp [nth]
def plL (c:Chart) (a:Ask):List AObj:=[qf c.cabins c.secs 1,qc c.sold,.cells [.ptr 0 0],.cells (qj a)]
def plP (c:Chart) (a:Ask):List (List Bunk × List Tk):=zO c.cabins a a.sexes.length c.sold []
def plY (c:Chart) (a:Ask) (j:Nat):List AV:=[qb ((plP c a).getD j default).1]
def plH (c:Chart) (a:Ask) (j:Nat):List AObj:=qH c.cabins c.secs ((plP c a).getD j default).2
structure PlOk (c:Chart) (a:Ask):Prop where
 val:Val c
 sx:a.sexes.length<=3
theorem pl_ok {c:Chart} {a:Ask} (h:PlOk c a) {ans:Nat->Bool} {R:Nat} (hr:Rounds ans R (plP c a).length):GrowOk c.cabins c.secs a a.sexes.length c.sold [] (plY c a) (plH c a) ans R:=by
 have h1:=h.val.car.cabs
 have h2:=h.val.many
 have h3:=h.sx
 exact ⟨by simp,by omega,⟨by omega,fun x hx=>by have:=h.val.car.beds x hx;omega⟩,by omega,by omega,(by simp),hr,fun _ _=>rfl,fun _ _=>rfl⟩
def KX (c:Chart) (a:Ask) (ys:Nat->List AV) (hl:Nat->List AObj) (ans:Nat->Bool) (R:Nat) (S:St):List AV->Option PkI
 |[.ptr p 0,.agg aa,.nil,.cb]=>match S.h p with
  |some (.cells [.sl cc,.v (.int .i64 s'),.row r])=>match S.h r with
   |some (.row _ _ xs)=>some { q:={ pre:=cc=c.cabins.map qo/\s'=c.secs/\aa=qj a/\xs=c.sold.map eTk/\S.j=0/\GrowOk c.cabins c.secs a a.sexes.length c.sold [] ys hl ans R,hs:=[p,r],ar:=[.ptr 0 0,zh a,qb [],.cb],L0:=qH c.cabins c.secs c.sold,v:=aB (vS ans R),L1:=(qH c.cabins c.secs c.sold).map some },dj:=R }
   |_=>none
  |_=>none
 |_=>none
theorem QkM {A:Frm->Prop} {c:Chart} {a:Ask} {ys:Nat->List AV} {hl:Nat->List AObj} {ans:Nat->Bool} {R:Nat} {h0:Nat->Option AObj} (hA:∀ F,A F->Acb Tryz.prog (qa (qz 0 [qf c.cabins c.secs 1])) h0 ys (fun j=>nth (hl j)) ans R F) :
  qm A Tryz.prog 141 (fnI [qf c.cabins c.secs 1] R (KX c a ys hl ans R)):=KG hA fun S bs q h hp=>by
 unfold KX at h
 split at h
 ·split at h
  ·split at h
   ·cases h
    obtain ⟨_,_,_,_,h4,h6⟩:=hp
    have:=LG _ _ _ _ _ _ _ _ _ _ h6
    simp only [h4,bj]
    exact this
   ·cases h
  ·cases h
 ·cases h
theorem KV {c:Chart} {a:Ask}:∀ i o,qa (qz 0 (plL c a)) i=some o->i < 4/\∀ id ∈ o.ids,id < 4:=by
 intro i o hi
 have h:=qE hi
 simp [qz,plL] at h
 rcases h with ⟨rfl,rfl⟩|⟨rfl,rfl⟩|⟨rfl,rfl⟩|⟨rfl,rfl⟩ <;> simp [AObj.ids,AV.ids,AV.idsL,qf,qc,qj]
def Xa:=jv @WB (jv @Qn (jv @QT.eq_1 @xh.eq_1))
def Qiz:=jv @aI.eq_1 (@aB.eq_1)
theorem ZB {c:Chart} {a:Ask} (h:PlOk c a):QcD Tryz.prog 140 [.cb,.ptr 2 0,.ptr 3 0] (nth ((plL c a).take 1)) (nth (plL c a)) (plY c a) (plP c a).length (fun j=>nth (plH c a j)) (fun _ _=>.tup []):=by
 intro ans R hr
 have ok:=pl_ok h hr
 rw [W9,W9]
 obtain ⟨A0,hA0⟩:∃ A0:Frm->Prop,A0=Acb Tryz.prog (qa (qz 0 [qf c.cabins c.secs 1])) (qa (qz 0 (plL c a))) (plY c a) (fun j=>nth (plH c a j)) ans R:=⟨_,rfl⟩
 have hA:∀ F,A0 F->Acb Tryz.prog (qa (qz 0 [qf c.cabins c.secs 1])) (qa (qz 0 (plL c a))) (plY c a) (fun j=>nth (plH c a j)) ans R F:=fun F h=>hA0 ▸ h
 have env:Env A0 Tryz.prog tyB (tab [(141,fnI [qf c.cabins c.secs 1] R (KX c a (plY c a) (plH c a) ans R))]):=qB ⟨QkM hA,trivial⟩
 refine Fn.of (A:=A0) (n0:=4) (D:=noD) (Fn0 Tryz.func140 rfl (fun vs w=>by kernel_rfl) (by kernel_rfl)) (by simp) (by simp [AV.ids]) KV (fun F hb h0 _=>hA0 ▸ ⟨h0,Qgd,hb⟩) q9 ?_
 show Sym _ _ _ (qP [.cb,.ptr 2 0,.ptr 3 0] 4 (qa [(0,qf c.cabins c.secs 1),(1,qc c.sold),(2,.cells [.ptr 0 0]),(3,.cells (qj a))])) (jP tyB noD Tryz.f140 fun S rv=>Fin S rv _ 4 (qa [(0,qf c.cabins c.secs 1),(1,qc c.sold),(2,.cells [.ptr 0 0]),(3,.cells (qj a))]) R)
 repeat' first|(apply nx;with_reducible constructor)|apply jq (by decide)|((first|apply jz env|apply jw);intro Q hQ;simp only [vkt,seval,Xa,Qiz,zh,qj,qb,qf,qc,qH,KX,fnI,Yk,hwL,ok,ite_and];(repeat' first|with_reducible assumption|apply jv|intro hp);all_goals first|(apply hQ;clear hQ Q)|(apply jx;kernel_rfl)|omega|assumption|with_reducible rfl|skip)
 (simp only [vrt,Tryz.results140,vkt,seval,qj,qf,qc];refine Fin.ok some [] ?_ ?_ ?_ ?_ ?_ rfl;all_goals (try simp only [vle,vkt,seval]))
 all_goals first|rfl|simp
theorem Qek (c:Chart) (a:Ask):Fn noB Tryz.prog 78 [.ptr 0 0,zh a] (qa (qz 0 (qH c.cabins c.secs c.sold))) (.clo 140 [.ptr 2 0,.ptr 3 0]) (qa (za 0 ((plL c a).map some))) 0:=by
 have env:=qB (A:=fun _=>True) kN
 refine Fn.of (A:=fun _=>True) (n0:=2) (D:=noD) (Fn0 Tryz.func78 rfl (fun vs w=>by kernel_rfl) (by kernel_rfl)) (by simp) (by simp [AV.ids,AV.idsL,zh,qj]) vG (fun _ _ _ _=>trivial) q9 ?_
 show Sym _ _ _ (qP [.ptr 0 0,zh a] 2 (qa [(0,qf c.cabins c.secs 1),(1,qc c.sold)])) (jP tyB noD Tryz.f78 fun S rv=>Fin S rv _ 2 (qa [(0,qf c.cabins c.secs 1),(1,qc c.sold),(2,.cells [.ptr 0 0]),(3,.cells (qj a))]) 0)
 repeat' first|(apply nx;with_reducible constructor)|apply jq (by decide)|((first|apply jz env|apply jw);intro Q hQ;simp only [vkt,seval,zh,qj,qf,qc,ite_and];(repeat' first|with_reducible assumption|apply jv|intro hp);all_goals first|(apply hQ;clear hQ Q)|(apply jx;kernel_rfl)|omega|assumption|with_reducible rfl|skip)
 (simp only [vrt,Tryz.results78,vkt,seval,qj,qf,qc];refine Fin.ok some [] ?_ ?_ ?_ ?_ ?_ rfl;all_goals (try simp only [vle,vkt,seval]))
 all_goals first|rfl|(simp;done)|exact fun i hi=>(match i,hi with|0,_=>rfl|1,_=>rfl)
def jZ (S:St):List AV->Option Pk
 |[.ptr p 0,.agg [.v (.int .i64 a0),.v (.int .i64 a1),.v (.int .i64 a2),.sl a3,.v (.bool a4)]]=>match S.h p with
  |some (.cells [.sl cs,.v (.int .i64 s),.row r])=>match S.h r with
   |some (.row _ _ xs)=>some { pre:=cs=(cs.map qp).map qo/\xs=(xs.map dTk).map eTk/\a3=(a3.map zD).map zG,hs:=[p,r],ar:=[.ptr 0 0,.agg [.v (.int .i64 a0),.v (.int .i64 a1),.v (.int .i64 a2),.sl a3,.v (.bool a4)]],L0:=qH (cs.map qp) s (xs.map dTk),v:=.clo 140 [.ptr 2 0,.ptr 3 0],L1:=(plL ⟨cs.map qp,s,xs.map dTk⟩ ⟨a0,a1,a2,a3.map zD,a4⟩).map some }
   |_=>none
  |_=>none
 |_=>none
theorem Yz {A:Frm->Prop}:qm A Tryz.prog 78 (fnE jZ):=zB fun S bs q h hp=>by
 unfold jZ at h
 split at h
 ·rename_i a0 a1 a2 a3 a4
  split at h
  ·split at h
   ·rename_i cs s _ _ _ _ _ xs _
    cases h
    obtain ⟨h1,h2,h3⟩:=hp
    have:=Qek ⟨cs.map qp,s,xs.map dTk⟩ ⟨a0,a1,a2,a3.map zD,a4⟩
    simp only [zh,qj,<- h3] at this
    exact this
   ·cases h
  ·cases h
 ·cases h
theorem KS {N:Nat}:Rounds (fun _=>true) N N:=⟨aA _,fun _ _=>rfl,fun h=>absurd h (dp _)⟩
theorem Qe2 {Z β:Type} {f:Z->List β} {M:Nat}:∀ {l:List Z},(∀ a ∈ l,(f a).length<=M)->(l.flatMap f).length<=l.length * M
 |[],_=>by simp
 |a :: l,h=>by
  have h1:=Qe2 (l:=l) fun b hb=>h b (aY _ hb)
  have h2:=h a aZ
  rw [bZ,aF,bf,cF];omega
theorem Lj (cs:List Cabin) (a:Ask) {K:Nat} (hK:(qW cs).length<=K):∀ (m:Nat) (sold:List Tk) (begun:List Bunk),(zO cs a m sold begun).length<=K ^ m
 |0,_,_=>by simp [zO]
 |m+1,sold,begun=>by
  have h1:(zO cs a (m+1) sold begun).length<=(qW cs).length * K ^ m:=Qe2 fun b _=>by
   split
   ·exact Lj cs a hK m _ _
   ·simp
  rw [Nat.pow_succ,cd (K ^ m) K]
  exact aN h1 (aM _ hK)
theorem Qhq {cs:List Cabin} (h1:cs.length<=3) (h2:∀ x ∈ cs,x.beds<=3):(qW cs).length<=9:=by
 rw [Jb]
 refine aN (Qe2 (M:=3) fun i hi=>?_) (by rw [dq];omega)
 rw [aj,dq]
 have:=h2 _ (yX (d:=default) (aX.1 hi))
 omega
theorem QaH {c:Chart} {a:Ask} (h:PlOk c a):(plP c a).length<=729:=by
 have h1:=Lj c.cabins a (Qhq h.val.car.cabs.2 fun x hx=>(h.val.car.beds x hx).2) a.sexes.length c.sold []
 refine aN h1 ?_
 have:=h.sx
 exact aN (Nat.pow_le_pow_right (by omega) this) (by decide)
def plR (c:Chart) (a:Ask) (j:Nat):List (List DV):=((plP c a).take j).map fun x=>zI x.1
theorem QfT {c:Chart} {a:Ask} {j:Nat} (h:j < (plP c a).length):plR c a (j+1)=plR c a j++[zI ((plP c a).getD j default).1]:=by
 unfold plR
 rw [bP h,aq]
 simp [ah,h]
theorem QkB (c:Chart) (a:Ask) (j:Nat):zn 1 (plR c a j)=True:=by
 unfold plR
 exact jV (f:=fun x:List Bunk × List Tk=>zI x.1) (k:=1) (fun _=>rfl) _
def aqL:List (Nat × AV):=[(2,.ptr 4 0)]
def aqL0:List (Nat × AV):=[(2,.ptr 4 0),(6,.clo 140 [.ptr 2 0,.ptr 3 0])]
def aqH (c:Chart) (a:Ask) (j:Nat):List (Nat × AObj):=[(4,.cells [.row 5]),(5,.row 65 1 (plR c a j))]
theorem UE (c:Chart) (a:Ask):qO [0,1,2,3] 7 0 (plL c a)=[(0,qf c.cabins c.secs 1),(1,qc c.sold),(2,.cells [.ptr 0 0]),(3,.cells (qj a))]:=by
 simp [qO,plL,qg,AObj.ren,AV.renL,AV.ren,qf,qc,qj]
theorem Qcm (c:Chart) (a:Ask) (j:Nat):qO [0] 7 0 (plH c a j)=[(0,qf c.cabins c.secs 7),(7,qc ((plP c a).getD j default).2)]:=by
 simp [qO,plH,qH,qg,AObj.ren,AV.renL,AV.ren,qf,qc]
def QM:=jv @ty59 (jv @VH (jv @Qbp.eq_1 @WP.eq_1))
end Go.Sym.B
