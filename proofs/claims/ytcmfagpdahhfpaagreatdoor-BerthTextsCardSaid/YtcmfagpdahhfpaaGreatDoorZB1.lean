/- Walks and what they compute, joined: part 1. -/
import Derived.Test.YtcmfagpdahhfpaaGreatDoorZS3
import Derived.Test.YtcmfagpdahhfpaaGreatDoorProg
import Derived.KernelRfl
import Derived.Shelf.Strings.OnBuilder
import Derived.Shelf.Strconv.Itoa3
import Derived.Shelf.Strconv.AtoiAll
import Derived.Shelf.Strings.Split
import Derived.Shelf.Strings.Cut
set_option linter.all false
set_option maxHeartbeats 40000000
namespace Go.Sym.B
open Go Go.Sym Go.Proofs Go.Proofs.Tryz
def _root_.Go.Sym.jv {a b:Prop} (x:a) (y:b):a/\b:=⟨x,y⟩
def _root_.Go.Sym.jq:=@YR
def _root_.Go.Sym.jx:=@LG
def _root_.Go.Sym.jz:=@QcV
def _root_.Go.Sym.jk:=@Qhr
def _root_.Go.Sym.jw:=@Qhi
def ti2:TI:={ cells:=1,bytes:=8,td:=.int .i64,zero:=[.v (.int .i64 0)],eqk:=none }
def tf2:TyFact prog 2 ti2:=by
 refine ⟨⟨Tryz.t2,.int .i64 0,by kernel_rfl,rfl,rfl,rfl,rfl,rfl,by simp [Value.cells,Value.oneCell']⟩,⟨_,underlying2,rfl⟩,fun fs h=>?_,fun ks h=>?_,fun q h=>?_⟩
 ·cases h
 ·cases h
 ·cases h
def ti3:TI:={ cells:=1,bytes:=8,td:=.int .i64,zero:=[.v (.int .i64 0)],eqk:=none }
def tf3:TyFact prog 3 ti3:=by
 refine ⟨⟨Tryz.t3,.int .i64 0,by kernel_rfl,rfl,rfl,rfl,rfl,rfl,by simp [Value.cells,Value.oneCell']⟩,⟨_,underlying3,rfl⟩,fun fs h=>?_,fun ks h=>?_,fun q h=>?_⟩
 ·cases h
 ·cases h
 ·cases h
def ti4:TI:={ cells:=1,bytes:=1,td:=.bool,zero:=[.v (.bool false)],eqk:=none }
def tf4:TyFact prog 4 ti4:=by
 refine ⟨⟨Tryz.t4,.bool false,by kernel_rfl,rfl,rfl,rfl,rfl,rfl,by simp [Value.cells,Value.oneCell']⟩,⟨_,underlying4,rfl⟩,fun fs h=>?_,fun ks h=>?_,fun q h=>?_⟩
 ·cases h
 ·cases h
 ·cases h
def ti5:TI:={ cells:=1,bytes:=1,td:=.int .u8,zero:=[.v (.int .u8 0)],eqk:=none }
def tf5:TyFact prog 5 ti5:=by
 refine ⟨⟨Tryz.t5,.int .u8 0,by kernel_rfl,rfl,rfl,rfl,rfl,rfl,by simp [Value.cells,Value.oneCell']⟩,⟨_,underlying5,rfl⟩,fun fs h=>?_,fun ks h=>?_,fun q h=>?_⟩
 ·cases h
 ·cases h
 ·cases h
def ti9:TI:={ cells:=1,bytes:=16,td:=.string,zero:=[.v (.string ⟨#[]⟩)],eqk:=none }
def tf9:TyFact prog 9 ti9:=by
 refine ⟨⟨Tryz.t9,.string ⟨#[]⟩,by kernel_rfl,rfl,rfl,rfl,rfl,rfl,by simp [Value.cells,Value.oneCell']⟩,⟨_,underlying9,rfl⟩,fun fs h=>?_,fun ks h=>?_,fun q h=>?_⟩
 ·cases h
 ·cases h
 ·cases h
def ti20:TI:={ cells:=1,bytes:=16,td:=.iface,zero:=[.v (.nilIface)],eqk:=none }
def tf20:TyFact prog 20 ti20:=by
 refine ⟨⟨Tryz.t20,.nilIface,by kernel_rfl,rfl,rfl,rfl,rfl,rfl,by simp [Value.cells,Value.oneCell']⟩,⟨_,underlying20,⟨_,rfl⟩⟩,fun fs h=>?_,fun ks h=>?_,fun q h=>?_⟩
 ·cases h
 ·cases h
 ·cases h
def ti21:TI:={ cells:=1,bytes:=4,td:=.int .i32,zero:=[.v (.int .i32 0)],eqk:=none }
def tf21:TyFact prog 21 ti21:=by
 refine ⟨⟨Tryz.t21,.int .i32 0,by kernel_rfl,rfl,rfl,rfl,rfl,rfl,by simp [Value.cells,Value.oneCell']⟩,⟨_,underlying21,rfl⟩,fun fs h=>?_,fun ks h=>?_,fun q h=>?_⟩
 ·cases h
 ·cases h
 ·cases h
def Qv:TI:={ cells:=1,bytes:=24,td:=.slice 84,zero:=[.nil],eqk:=none }
def tf22:TyFact prog 22 Qv:=by
 refine ⟨⟨Tryz.t22,.slice none 0 0,by kernel_rfl,rfl,rfl,rfl,rfl,rfl,by simp [Value.cells,Value.oneCell']⟩,⟨_,underlying22,rfl⟩,fun fs h=>?_,fun ks h=>?_,fun q h=>?_⟩
 ·cases h
 ·cases h
 ·cases h
def yI:TI:={ cells:=1,bytes:=24,td:=.slice 88,zero:=[.nil],eqk:=none }
def tf23:TyFact prog 23 yI:=by
 refine ⟨⟨Tryz.t23,.slice none 0 0,by kernel_rfl,rfl,rfl,rfl,rfl,rfl,by simp [Value.cells,Value.oneCell']⟩,⟨_,underlying23,rfl⟩,fun fs h=>?_,fun ks h=>?_,fun q h=>?_⟩
 ·cases h
 ·cases h
 ·cases h
def wY:TI:={ cells:=3,bytes:=56,td:=.struct [(0,1,22),(1,1,3),(2,1,23)],zero:=[.nil,.v (.int .i64 0),.nil],eqk:=none }
def tf25:TyFact prog 25 wY:=by
 refine ⟨⟨Tryz.t25,.agg #[.slice none 0 0,.int .i64 0,.slice none 0 0],by kernel_rfl,rfl,rfl,rfl,rfl,rfl,by simp [Value.cells,Value.oneCell']⟩,⟨_,underlying25,⟨_,rfl,rfl⟩⟩,fun fs h=>?_,fun ks h=>?_,fun q h=>?_⟩
 ·cases h
  simp only [ah,aX,or_false,forall_eq_or_imp,forall_eq]
  exact ⟨⟨Tryz.t22,by kernel_rfl,rfl⟩,⟨Tryz.t3,by kernel_rfl,rfl⟩,⟨Tryz.t23,by kernel_rfl,rfl⟩⟩
 ·cases h
 ·cases h
def ZE:TI:={ cells:=1,bytes:=24,td:=.slice 3,zero:=[.nil],eqk:=none }
def tf26:TyFact prog 26 ZE:=by
 refine ⟨⟨Tryz.t26,.slice none 0 0,by kernel_rfl,rfl,rfl,rfl,rfl,rfl,by simp [Value.cells,Value.oneCell']⟩,⟨_,underlying26,rfl⟩,fun fs h=>?_,fun ks h=>?_,fun q h=>?_⟩
 ·cases h
 ·cases h
 ·cases h
def ti28:TI:={ cells:=1,bytes:=8,td:=.func,zero:=[.v (.nilFunc)],eqk:=none }
def tf28:TyFact prog 28 ti28:=by
 refine ⟨⟨Tryz.t28,.nilFunc,by kernel_rfl,rfl,rfl,rfl,rfl,rfl,by simp [Value.cells,Value.oneCell']⟩,⟨_,underlying28,⟨_,_,_,rfl⟩⟩,fun fs h=>?_,fun ks h=>?_,fun q h=>?_⟩
 ·cases h
 ·cases h
 ·cases h
def ti30:TI:={ cells:=1,bytes:=8,td:=.ptr,zero:=[.v (.pointer none)],eqk:=none }
def tf30:TyFact prog 30 ti30:=by
 refine ⟨⟨Tryz.t30,.pointer none,by kernel_rfl,rfl,rfl,rfl,rfl,rfl,by simp [Value.cells,Value.oneCell']⟩,⟨_,underlying30,⟨_,rfl⟩⟩,fun fs h=>?_,fun ks h=>?_,fun q h=>?_⟩
 ·cases h
 ·cases h
 ·cases h
def ti32:TI:={ cells:=1,bytes:=24,td:=.slice 25,zero:=[.nil],eqk:=none }
def tf32:TyFact prog 32 ti32:=by
 refine ⟨⟨Tryz.t32,.slice none 0 0,by kernel_rfl,rfl,rfl,rfl,rfl,rfl,by simp [Value.cells,Value.oneCell']⟩,⟨_,underlying32,rfl⟩,fun fs h=>?_,fun ks h=>?_,fun q h=>?_⟩
 ·cases h
 ·cases h
 ·cases h
def YA:TI:={ cells:=1,bytes:=24,td:=.slice 9,zero:=[.nil],eqk:=none }
def tf33:TyFact prog 33 YA:=by
 refine ⟨⟨Tryz.t33,.slice none 0 0,by kernel_rfl,rfl,rfl,rfl,rfl,rfl,by simp [Value.cells,Value.oneCell']⟩,⟨_,underlying33,rfl⟩,fun fs h=>?_,fun ks h=>?_,fun q h=>?_⟩
 ·cases h
 ·cases h
 ·cases h
def xQ:TI:={ cells:=1,bytes:=8,td:=.int .i64,zero:=[.v (.int .i64 0)],eqk:=none }
def tf34:TyFact prog 34 xQ:=by
 refine ⟨⟨Tryz.t34,.int .i64 0,by kernel_rfl,rfl,rfl,rfl,rfl,rfl,by simp [Value.cells,Value.oneCell']⟩,⟨_,underlying34,rfl⟩,fun fs h=>?_,fun ks h=>?_,fun q h=>?_⟩
 ·cases h
 ·cases h
 ·cases h
def ti43:TI:={ cells:=1,bytes:=24,td:=.slice 26,zero:=[.nil],eqk:=none }
def tf43:TyFact prog 43 ti43:=by
 refine ⟨⟨Tryz.t43,.slice none 0 0,by kernel_rfl,rfl,rfl,rfl,rfl,rfl,by simp [Value.cells,Value.oneCell']⟩,⟨_,underlying43,rfl⟩,fun fs h=>?_,fun ks h=>?_,fun q h=>?_⟩
 ·cases h
 ·cases h
 ·cases h
def ti44:TI:={ cells:=1,bytes:=24,td:=.slice 108,zero:=[.nil],eqk:=none }
def tf44:TyFact prog 44 ti44:=by
 refine ⟨⟨Tryz.t44,.slice none 0 0,by kernel_rfl,rfl,rfl,rfl,rfl,rfl,by simp [Value.cells,Value.oneCell']⟩,⟨_,underlying44,rfl⟩,fun fs h=>?_,fun ks h=>?_,fun q h=>?_⟩
 ·cases h
 ·cases h
 ·cases h
def ti45:TI:={ cells:=1,bytes:=24,td:=.slice 129,zero:=[.nil],eqk:=none }
def tf45:TyFact prog 45 ti45:=by
 refine ⟨⟨Tryz.t45,.slice none 0 0,by kernel_rfl,rfl,rfl,rfl,rfl,rfl,by simp [Value.cells,Value.oneCell']⟩,⟨_,underlying45,rfl⟩,fun fs h=>?_,fun ks h=>?_,fun q h=>?_⟩
 ·cases h
 ·cases h
 ·cases h
def ti47:TI:={ cells:=4,bytes:=96,td:=.struct [(0,1,43),(1,1,44),(2,1,26),(3,1,45)],zero:=[.nil,.nil,.nil,.nil],eqk:=none }
def tf47:TyFact prog 47 ti47:=by
 refine ⟨⟨Tryz.t47,.agg #[.slice none 0 0,.slice none 0 0,.slice none 0 0,.slice none 0 0],by kernel_rfl,rfl,rfl,rfl,rfl,rfl,by simp [Value.cells,Value.oneCell']⟩,⟨_,underlying47,⟨_,rfl,rfl⟩⟩,fun fs h=>?_,fun ks h=>?_,fun q h=>?_⟩
 ·cases h
  simp only [ah,aX,or_false,forall_eq_or_imp,forall_eq]
  exact ⟨⟨Tryz.t43,by kernel_rfl,rfl⟩,⟨Tryz.t44,by kernel_rfl,rfl⟩,⟨Tryz.t26,by kernel_rfl,rfl⟩,⟨Tryz.t45,by kernel_rfl,rfl⟩⟩
 ·cases h
 ·cases h
def ti50:TI:={ cells:=1,bytes:=24,td:=.slice 47,zero:=[.nil],eqk:=none }
def tf50:TyFact prog 50 ti50:=by
 refine ⟨⟨Tryz.t50,.slice none 0 0,by kernel_rfl,rfl,rfl,rfl,rfl,rfl,by simp [Value.cells,Value.oneCell']⟩,⟨_,underlying50,rfl⟩,fun fs h=>?_,fun ks h=>?_,fun q h=>?_⟩
 ·cases h
 ·cases h
 ·cases h
def QaZ:TI:={ cells:=1,bytes:=24,td:=.slice 65,zero:=[.nil],eqk:=none }
def tf59:TyFact prog 59 QaZ:=by
 refine ⟨⟨Tryz.t59,.slice none 0 0,by kernel_rfl,rfl,rfl,rfl,rfl,rfl,by simp [Value.cells,Value.oneCell']⟩,⟨_,underlying59,rfl⟩,fun fs h=>?_,fun ks h=>?_,fun q h=>?_⟩
 ·cases h
 ·cases h
 ·cases h
def ZG:TI:={ cells:=5,bytes:=56,td:=.struct [(0,1,3),(1,1,3),(2,1,3),(3,1,26),(4,1,4)],zero:=[.v (.int .i64 0),.v (.int .i64 0),.v (.int .i64 0),.nil,.v (.bool false)],eqk:=none }
def tf63:TyFact prog 63 ZG:=by
 refine ⟨⟨Tryz.t63,.agg #[.int .i64 0,.int .i64 0,.int .i64 0,.slice none 0 0,.bool false],by kernel_rfl,rfl,rfl,rfl,rfl,rfl,by simp [Value.cells,Value.oneCell']⟩,⟨_,underlying63,⟨_,rfl,rfl⟩⟩,fun fs h=>?_,fun ks h=>?_,fun q h=>?_⟩
 ·cases h
  simp only [ah,aX,or_false,forall_eq_or_imp,forall_eq]
  exact ⟨⟨Tryz.t3,by kernel_rfl,rfl⟩,⟨Tryz.t3,by kernel_rfl,rfl⟩,⟨Tryz.t3,by kernel_rfl,rfl⟩,⟨Tryz.t26,by kernel_rfl,rfl⟩,⟨Tryz.t4,by kernel_rfl,rfl⟩⟩
 ·cases h
 ·cases h
def JY:TI:={ cells:=1,bytes:=24,td:=.slice 76,zero:=[.nil],eqk:=none }
def tf65:TyFact prog 65 JY:=by
 refine ⟨⟨Tryz.t65,.slice none 0 0,by kernel_rfl,rfl,rfl,rfl,rfl,rfl,by simp [Value.cells,Value.oneCell']⟩,⟨_,underlying65,rfl⟩,fun fs h=>?_,fun ks h=>?_,fun q h=>?_⟩
 ·cases h
 ·cases h
 ·cases h
def RV:TI:={ cells:=1,bytes:=24,td:=.slice 80,zero:=[.nil],eqk:=none }
def tf71:TyFact prog 71 RV:=by
 refine ⟨⟨Tryz.t71,.slice none 0 0,by kernel_rfl,rfl,rfl,rfl,rfl,rfl,by simp [Value.cells,Value.oneCell']⟩,⟨_,underlying71,rfl⟩,fun fs h=>?_,fun ks h=>?_,fun q h=>?_⟩
 ·cases h
 ·cases h
 ·cases h
def Qc5 (d:Nat) (w:World) (a0 b0:Int) (a1 b1:Int):(Op.equalIn (d+2) 76 (.agg #[.int .i64 a0,.int .i64 a1]) (.agg #[.int .i64 b0,.int .i64 b1])).run prog w=.ok (jF [.int .i64 a0,.int .i64 a1] [.int .i64 b0,.int .i64 b1]) w:=by
 have h1:prog.underlying 76=some (.struct (prog.fieldsOf 76)):=by kernel_rfl
 have h2 : (prog.fieldsOf 76).toList = [{ name := "Cabin", type := 3, offset := 0, embedded := false, tag := "", pkgPath := "", byteOffset := 0 }, { name := "Bed", type := 3, offset := 1, embedded := false, tag := "", pkgPath := "", byteOffset := 8 }] := by kernel_rfl
 rw [run_equalIn_agg w (d+1) 76 _ _ h1 (by kernel_rfl),h2]
 refine Eq.trans (b:=Result.ok (a0 == b0 && (a1 == b1 && true)) w) ?_ (congrArg (fun r=>Result.ok r w) (by simp [jF,veq]))
 exact zx (by simp) (qI (isAgg3) rfl) (qI (isAgg3) rfl) (run_equalIn_int w (d+0) 3 _ _ _ _ underlying3) (zx (by simp) (qI (isAgg3) rfl) (qI (isAgg3) rfl) (run_equalIn_int w (d+0) 3 _ _ _ _ underlying3) (jg))
def yG:TI:={ cells:=2,bytes:=16,td:=.struct [(0,1,3),(1,1,3)],zero:=[.v (.int .i64 0),.v (.int .i64 0)],eqk:=some [some .i64,some .i64] }
def tf76:TyFact prog 76 yG:=by
 refine ⟨⟨Tryz.t76,.agg #[.int .i64 0,.int .i64 0],by kernel_rfl,rfl,rfl,rfl,rfl,rfl,by simp [Value.cells,Value.oneCell']⟩,⟨_,underlying76,⟨_,rfl,rfl⟩⟩,fun fs h=>?_,fun ks h=>?_,fun q h=>?_⟩
 ·cases h
  simp only [ah,aX,or_false,forall_eq_or_imp,forall_eq]
  exact ⟨⟨Tryz.t3,by kernel_rfl,rfl⟩,⟨Tryz.t3,by kernel_rfl,rfl⟩⟩
 ·cases h
  refine ⟨by kernel_rfl,fun w xs ys hx hy=>?_⟩
  cases xs with
  |nil=>simp [qp] at hx
  |cons x0 xs1 =>
  cases xs1 with
  |nil=>simp [qp] at hx
  |cons x1 xs2 =>
  cases xs2 with
  |cons _ _=>simp [qp] at hx
  |nil =>
  cases ys with
  |nil=>simp [qp] at hy
  |cons y0 ys1 =>
  cases ys1 with
  |nil=>simp [qp] at hy
  |cons y1 ys2 =>
  cases ys2 with
  |cons _ _=>simp [qp] at hy
  |nil =>
  simp only [qp] at hx hy
  obtain ⟨⟨nx0,rfl⟩,⟨nx1,rfl⟩,_⟩:=hx
  obtain ⟨⟨ny0,rfl⟩,⟨ny1,rfl⟩,_⟩:=hy
  exact Qc5 9998 w nx0 ny0 nx1 ny1
 ·cases h
def eqd80 (d:Nat) (w:World) (a0 b0:Int) (a1 b1:Int) (a2 b2:Int):(Op.equalIn (d+3) 80 (.agg #[.int .i64 a0,.int .i64 a1,.int .i64 a2]) (.agg #[.int .i64 b0,.int .i64 b1,.int .i64 b2])).run prog w=.ok (jF [.int .i64 a0,.int .i64 a1,.int .i64 a2] [.int .i64 b0,.int .i64 b1,.int .i64 b2]) w:=by
 have h1:prog.underlying 80=some (.struct (prog.fieldsOf 80)):=by kernel_rfl
 have h2 : (prog.fieldsOf 80).toList = [{ name := "Ticket", type := 3, offset := 0, embedded := false, tag := "", pkgPath := "", byteOffset := 0 }, { name := "Bunk", type := 76, offset := 1, embedded := true, tag := "", pkgPath := "", byteOffset := 8 }] := by kernel_rfl
 rw [run_equalIn_agg w (d+2) 80 _ _ h1 (by kernel_rfl),h2]
 refine Eq.trans (b:=Result.ok (a0 == b0 && (jF [.int .i64 a1,.int .i64 a2] [.int .i64 b1,.int .i64 b2] && true)) w) ?_ (congrArg (fun r=>Result.ok r w) (by simp [jF,veq]))
 exact zx (by simp) (qI (isAgg3) rfl) (qI (isAgg3) rfl) (run_equalIn_int w (d+1) 3 _ _ _ _ underlying3) (zx (by simp) (zK (isAgg76) (sizeOf76) rfl) (zK (isAgg76) (sizeOf76) rfl) (Qc5 (d+0) w a1 b1 a2 b2) (jg))
def K4:TI:={ cells:=3,bytes:=24,td:=.struct [(0,1,3),(1,2,76)],zero:=[.v (.int .i64 0),.v (.int .i64 0),.v (.int .i64 0)],eqk:=some [some .i64,some .i64,some .i64] }
def tf80:TyFact prog 80 K4:=by
 refine ⟨⟨Tryz.t80,.agg #[.int .i64 0,.int .i64 0,.int .i64 0],by kernel_rfl,rfl,rfl,rfl,rfl,rfl,by simp [Value.cells,Value.oneCell']⟩,⟨_,underlying80,⟨_,rfl,rfl⟩⟩,fun fs h=>?_,fun ks h=>?_,fun q h=>?_⟩
 ·cases h
  simp only [ah,aX,or_false,forall_eq_or_imp,forall_eq]
  exact ⟨⟨Tryz.t3,by kernel_rfl,rfl⟩,⟨Tryz.t76,by kernel_rfl,rfl⟩⟩
 ·cases h
  refine ⟨by kernel_rfl,fun w xs ys hx hy=>?_⟩
  cases xs with
  |nil=>simp [qp] at hx
  |cons x0 xs1 =>
  cases xs1 with
  |nil=>simp [qp] at hx
  |cons x1 xs2 =>
  cases xs2 with
  |nil=>simp [qp] at hx
  |cons x2 xs3 =>
  cases xs3 with
  |cons _ _=>simp [qp] at hx
  |nil =>
  cases ys with
  |nil=>simp [qp] at hy
  |cons y0 ys1 =>
  cases ys1 with
  |nil=>simp [qp] at hy
  |cons y1 ys2 =>
  cases ys2 with
  |nil=>simp [qp] at hy
  |cons y2 ys3 =>
  cases ys3 with
  |cons _ _=>simp [qp] at hy
  |nil =>
  simp only [qp] at hx hy
  obtain ⟨⟨nx0,rfl⟩,⟨nx1,rfl⟩,⟨nx2,rfl⟩,_⟩:=hx
  obtain ⟨⟨ny0,rfl⟩,⟨ny1,rfl⟩,⟨ny2,rfl⟩,_⟩:=hy
  exact eqd80 9997 w nx0 ny0 nx1 ny1 nx2 ny2
 ·cases h
def ti81:TI:={ cells:=1,bytes:=8,td:=.func,zero:=[.v (.nilFunc)],eqk:=none }
def tf81:TyFact prog 81 ti81:=by
 refine ⟨⟨Tryz.t81,.nilFunc,by kernel_rfl,rfl,rfl,rfl,rfl,rfl,by simp [Value.cells,Value.oneCell']⟩,⟨_,underlying81,⟨_,_,_,rfl⟩⟩,fun fs h=>?_,fun ks h=>?_,fun q h=>?_⟩
 ·cases h
 ·cases h
 ·cases h
def eqd84 (d:Nat) (w:World) (a0 b0:Int) (a1 b1:Bool):(Op.equalIn (d+2) 84 (.agg #[.int .i64 a0,.bool a1]) (.agg #[.int .i64 b0,.bool b1])).run prog w=.ok (jF [.int .i64 a0,.bool a1] [.int .i64 b0,.bool b1]) w:=by
 have h1:prog.underlying 84=some (.struct (prog.fieldsOf 84)):=by kernel_rfl
 have h2 : (prog.fieldsOf 84).toList = [{ name := "Beds", type := 3, offset := 0, embedded := false, tag := "", pkgPath := "", byteOffset := 0 }, { name := "Door", type := 4, offset := 1, embedded := false, tag := "", pkgPath := "", byteOffset := 8 }] := by kernel_rfl
 rw [run_equalIn_agg w (d+1) 84 _ _ h1 (by kernel_rfl),h2]
 refine Eq.trans (b:=Result.ok (a0 == b0 && (a1 == b1 && true)) w) ?_ (congrArg (fun r=>Result.ok r w) (by simp [jF,veq]))
 exact zx (by simp) (qI (isAgg3) rfl) (qI (isAgg3) rfl) (run_equalIn_int w (d+0) 3 _ _ _ _ underlying3) (zx (by simp) (qI (isAgg4) rfl) (qI (isAgg4) rfl) (run_equalIn_bool' w (d+0) 4 _ _ underlying4) (jg))
def Qz:TI:={ cells:=2,bytes:=16,td:=.struct [(0,1,3),(1,1,4)],zero:=[.v (.int .i64 0),.v (.bool false)],eqk:=some [some .i64,none] }
def tf84:TyFact prog 84 Qz:=by
 refine ⟨⟨Tryz.t84,.agg #[.int .i64 0,.bool false],by kernel_rfl,rfl,rfl,rfl,rfl,rfl,by simp [Value.cells,Value.oneCell']⟩,⟨_,underlying84,⟨_,rfl,rfl⟩⟩,fun fs h=>?_,fun ks h=>?_,fun q h=>?_⟩
 ·cases h
  simp only [ah,aX,or_false,forall_eq_or_imp,forall_eq]
  exact ⟨⟨Tryz.t3,by kernel_rfl,rfl⟩,⟨Tryz.t4,by kernel_rfl,rfl⟩⟩
 ·cases h
  refine ⟨by kernel_rfl,fun w xs ys hx hy=>?_⟩
  cases xs with
  |nil=>simp [qp] at hx
  |cons x0 xs1 =>
  cases xs1 with
  |nil=>simp [qp] at hx
  |cons x1 xs2 =>
  cases xs2 with
  |cons _ _=>simp [qp] at hx
  |nil =>
  cases ys with
  |nil=>simp [qp] at hy
  |cons y0 ys1 =>
  cases ys1 with
  |nil=>simp [qp] at hy
  |cons y1 ys2 =>
  cases ys2 with
  |cons _ _=>simp [qp] at hy
  |nil =>
  simp only [qp] at hx hy
  obtain ⟨⟨nx0,rfl⟩,⟨nx1,rfl⟩,_⟩:=hx
  obtain ⟨⟨ny0,rfl⟩,⟨ny1,rfl⟩,_⟩:=hy
  exact eqd84 9998 w nx0 ny0 nx1 ny1
 ·cases h
def eqd88 (d:Nat) (w:World) (a0 b0:Int) (a1 b1:Int) (a2 b2:Int) (a3 b3:Int) (a4 b4:Int) (a5 b5:Int) (a6 b6:Bool):(Op.equalIn (d+3) 88 (.agg #[.int .i64 a0,.int .i64 a1,.int .i64 a2,.int .i64 a3,.int .i64 a4,.int .i64 a5,.bool a6]) (.agg #[.int .i64 b0,.int .i64 b1,.int .i64 b2,.int .i64 b3,.int .i64 b4,.int .i64 b5,.bool b6])).run prog w=.ok (jF [.int .i64 a0,.int .i64 a1,.int .i64 a2,.int .i64 a3,.int .i64 a4,.int .i64 a5,.bool a6] [.int .i64 b0,.int .i64 b1,.int .i64 b2,.int .i64 b3,.int .i64 b4,.int .i64 b5,.bool b6]) w:=by
 have h1:prog.underlying 88=some (.struct (prog.fieldsOf 88)):=by kernel_rfl
 have h2 : (prog.fieldsOf 88).toList = [{ name := "Party", type := 3, offset := 0, embedded := false, tag := "", pkgPath := "", byteOffset := 0 }, { name := "Sex", type := 3, offset := 1, embedded := false, tag := "", pkgPath := "", byteOffset := 8 }, { name := "Bunk", type := 76, offset := 2, embedded := true, tag := "", pkgPath := "", byteOffset := 16 }, { name := "From", type := 3, offset := 4, embedded := false, tag := "", pkgPath := "", byteOffset := 32 }, { name := "To", type := 3, offset := 5, embedded := false, tag := "", pkgPath := "", byteOffset := 40 }, { name := "Dog", type := 4, offset := 6, embedded := false, tag := "", pkgPath := "", byteOffset := 48 }] := by kernel_rfl
 rw [run_equalIn_agg w (d+2) 88 _ _ h1 (by kernel_rfl),h2]
 refine Eq.trans (b:=Result.ok (a0 == b0 && (a1 == b1 && (jF [.int .i64 a2,.int .i64 a3] [.int .i64 b2,.int .i64 b3] && (a4 == b4 && (a5 == b5 && (a6 == b6 && true)))))) w) ?_ (congrArg (fun r=>Result.ok r w) (by simp [jF,veq,Bool.and_assoc]))
 exact zx (by simp) (qI (isAgg3) rfl) (qI (isAgg3) rfl) (run_equalIn_int w (d+1) 3 _ _ _ _ underlying3) (zx (by simp) (qI (isAgg3) rfl) (qI (isAgg3) rfl) (run_equalIn_int w (d+1) 3 _ _ _ _ underlying3) (zx (by simp) (zK (isAgg76) (sizeOf76) rfl) (zK (isAgg76) (sizeOf76) rfl) (Qc5 (d+0) w a2 b2 a3 b3) (zx (by simp) (qI (isAgg3) rfl) (qI (isAgg3) rfl) (run_equalIn_int w (d+1) 3 _ _ _ _ underlying3) (zx (by simp) (qI (isAgg3) rfl) (qI (isAgg3) rfl) (run_equalIn_int w (d+1) 3 _ _ _ _ underlying3) (zx (by simp) (qI (isAgg4) rfl) (qI (isAgg4) rfl) (run_equalIn_bool' w (d+1) 4 _ _ underlying4) (jg))))))
def je:TI:={ cells:=7,bytes:=56,td:=.struct [(0,1,3),(1,1,3),(2,2,76),(4,1,3),(5,1,3),(6,1,4)],zero:=[.v (.int .i64 0),.v (.int .i64 0),.v (.int .i64 0),.v (.int .i64 0),.v (.int .i64 0),.v (.int .i64 0),.v (.bool false)],eqk:=some [some .i64,some .i64,some .i64,some .i64,some .i64,some .i64,none] }
def tf88:TyFact prog 88 je:=by
 refine ⟨⟨Tryz.t88,.agg #[.int .i64 0,.int .i64 0,.int .i64 0,.int .i64 0,.int .i64 0,.int .i64 0,.bool false],by kernel_rfl,rfl,rfl,rfl,rfl,rfl,by simp [Value.cells,Value.oneCell']⟩,⟨_,underlying88,⟨_,rfl,rfl⟩⟩,fun fs h=>?_,fun ks h=>?_,fun q h=>?_⟩
 ·cases h
  simp only [ah,aX,or_false,forall_eq_or_imp,forall_eq]
  exact ⟨⟨Tryz.t3,by kernel_rfl,rfl⟩,⟨Tryz.t3,by kernel_rfl,rfl⟩,⟨Tryz.t76,by kernel_rfl,rfl⟩,⟨Tryz.t3,by kernel_rfl,rfl⟩,⟨Tryz.t3,by kernel_rfl,rfl⟩,⟨Tryz.t4,by kernel_rfl,rfl⟩⟩
 ·cases h
  refine ⟨by kernel_rfl,fun w xs ys hx hy=>?_⟩
  cases xs with
  |nil=>simp [qp] at hx
  |cons x0 xs1 =>
  cases xs1 with
  |nil=>simp [qp] at hx
  |cons x1 xs2 =>
  cases xs2 with
  |nil=>simp [qp] at hx
  |cons x2 xs3 =>
  cases xs3 with
  |nil=>simp [qp] at hx
  |cons x3 xs4 =>
  cases xs4 with
  |nil=>simp [qp] at hx
  |cons x4 xs5 =>
  cases xs5 with
  |nil=>simp [qp] at hx
  |cons x5 xs6 =>
  cases xs6 with
  |nil=>simp [qp] at hx
  |cons x6 xs7 =>
  cases xs7 with
  |cons _ _=>simp [qp] at hx
  |nil =>
  cases ys with
  |nil=>simp [qp] at hy
  |cons y0 ys1 =>
  cases ys1 with
  |nil=>simp [qp] at hy
  |cons y1 ys2 =>
  cases ys2 with
  |nil=>simp [qp] at hy
  |cons y2 ys3 =>
  cases ys3 with
  |nil=>simp [qp] at hy
  |cons y3 ys4 =>
  cases ys4 with
  |nil=>simp [qp] at hy
  |cons y4 ys5 =>
  cases ys5 with
  |nil=>simp [qp] at hy
  |cons y5 ys6 =>
  cases ys6 with
  |nil=>simp [qp] at hy
  |cons y6 ys7 =>
  cases ys7 with
  |cons _ _=>simp [qp] at hy
  |nil =>
  simp only [qp] at hx hy
  obtain ⟨⟨nx0,rfl⟩,⟨nx1,rfl⟩,⟨nx2,rfl⟩,⟨nx3,rfl⟩,⟨nx4,rfl⟩,⟨nx5,rfl⟩,⟨nx6,rfl⟩,_⟩:=hx
  obtain ⟨⟨ny0,rfl⟩,⟨ny1,rfl⟩,⟨ny2,rfl⟩,⟨ny3,rfl⟩,⟨ny4,rfl⟩,⟨ny5,rfl⟩,⟨ny6,rfl⟩,_⟩:=hy
  exact eqd88 9997 w nx0 ny0 nx1 ny1 nx2 ny2 nx3 ny3 nx4 ny4 nx5 ny5 nx6 ny6
 ·cases h
def QeU:TI:={ cells:=1,bytes:=8,td:=.int .u64,zero:=[.v (.int .u64 0)],eqk:=none }
def tf90:TyFact prog 90 QeU:=by
 refine ⟨⟨Tryz.t90,.int .u64 0,by kernel_rfl,rfl,rfl,rfl,rfl,rfl,by simp [Value.cells,Value.oneCell']⟩,⟨_,underlying90,rfl⟩,fun fs h=>?_,fun ks h=>?_,fun q h=>?_⟩
 ·cases h
 ·cases h
 ·cases h
def Qib:TI:={ cells:=1,bytes:=8,td:=.struct [(0,1,90)],zero:=[.v (.int .u64 0)],eqk:=none }
def tf92:TyFact prog 92 Qib:=by
 refine ⟨⟨Tryz.t92,.agg #[.int .u64 0],by kernel_rfl,rfl,rfl,rfl,rfl,rfl,by simp [Value.cells,Value.oneCell']⟩,⟨_,underlying92,⟨_,rfl,rfl⟩⟩,fun fs h=>?_,fun ks h=>?_,fun q h=>?_⟩
 ·cases h
  simp only [ah,aX,or_false,forall_eq]
  exact ⟨Tryz.t90,by kernel_rfl,rfl⟩
 ·cases h
 ·cases h
def ti93:TI:={ cells:=1,bytes:=8,td:=.int .u64,zero:=[.v (.int .u64 0)],eqk:=none }
def tf93:TyFact prog 93 ti93:=by
 refine ⟨⟨Tryz.t93,.int .u64 0,by kernel_rfl,rfl,rfl,rfl,rfl,rfl,by simp [Value.cells,Value.oneCell']⟩,⟨_,underlying93,rfl⟩,fun fs h=>?_,fun ks h=>?_,fun q h=>?_⟩
 ·cases h
 ·cases h
 ·cases h
def ti99:TI:={ cells:=1,bytes:=24,td:=.slice 5,zero:=[.nil],eqk:=none }
def tf99:TyFact prog 99 ti99:=by
 refine ⟨⟨Tryz.t99,.slice none 0 0,by kernel_rfl,rfl,rfl,rfl,rfl,rfl,by simp [Value.cells,Value.oneCell']⟩,⟨_,underlying99,rfl⟩,fun fs h=>?_,fun ks h=>?_,fun q h=>?_⟩
 ·cases h
 ·cases h
 ·cases h
def Qk7:TI:={ cells:=1,bytes:=24,td:=.slice 110,zero:=[.nil],eqk:=none }
def tf108:TyFact prog 108 Qk7:=by
 refine ⟨⟨Tryz.t108,.slice none 0 0,by kernel_rfl,rfl,rfl,rfl,rfl,rfl,by simp [Value.cells,Value.oneCell']⟩,⟨_,underlying108,rfl⟩,fun fs h=>?_,fun ks h=>?_,fun q h=>?_⟩
 ·cases h
 ·cases h
 ·cases h
def WX (d:Nat) (w:World) (a0 b0:Int) (a1 b1:Int):(Op.equalIn (d+2) 110 (.agg #[.int .i64 a0,.int .i64 a1]) (.agg #[.int .i64 b0,.int .i64 b1])).run prog w=.ok (jF [.int .i64 a0,.int .i64 a1] [.int .i64 b0,.int .i64 b1]) w:=by
 have h1:prog.underlying 110=some (.struct (prog.fieldsOf 110)):=by kernel_rfl
 have h2 : (prog.fieldsOf 110).toList = [{ name := "Num", type := 3, offset := 0, embedded := false, tag := "", pkgPath := "", byteOffset := 0 }, { name := "Den", type := 3, offset := 1, embedded := false, tag := "", pkgPath := "", byteOffset := 8 }] := by kernel_rfl
 rw [run_equalIn_agg w (d+1) 110 _ _ h1 (by kernel_rfl),h2]
 refine Eq.trans (b:=Result.ok (a0 == b0 && (a1 == b1 && true)) w) ?_ (congrArg (fun r=>Result.ok r w) (by simp [jF,veq]))
 exact zx (by simp) (qI (isAgg3) rfl) (qI (isAgg3) rfl) (run_equalIn_int w (d+0) 3 _ _ _ _ underlying3) (zx (by simp) (qI (isAgg3) rfl) (qI (isAgg3) rfl) (run_equalIn_int w (d+0) 3 _ _ _ _ underlying3) (jg))
def Qlj:TI:={ cells:=2,bytes:=16,td:=.struct [(0,1,3),(1,1,3)],zero:=[.v (.int .i64 0),.v (.int .i64 0)],eqk:=some [some .i64,some .i64] }
def tf110:TyFact prog 110 Qlj:=by
 refine ⟨⟨Tryz.t110,.agg #[.int .i64 0,.int .i64 0],by kernel_rfl,rfl,rfl,rfl,rfl,rfl,by simp [Value.cells,Value.oneCell']⟩,⟨_,underlying110,⟨_,rfl,rfl⟩⟩,fun fs h=>?_,fun ks h=>?_,fun q h=>?_⟩
 ·cases h
  simp only [ah,aX,or_false,forall_eq_or_imp,forall_eq]
  exact ⟨⟨Tryz.t3,by kernel_rfl,rfl⟩,⟨Tryz.t3,by kernel_rfl,rfl⟩⟩
 ·cases h
  refine ⟨by kernel_rfl,fun w xs ys hx hy=>?_⟩
  cases xs with
  |nil=>simp [qp] at hx
  |cons x0 xs1 =>
  cases xs1 with
  |nil=>simp [qp] at hx
  |cons x1 xs2 =>
  cases xs2 with
  |cons _ _=>simp [qp] at hx
  |nil =>
  cases ys with
  |nil=>simp [qp] at hy
  |cons y0 ys1 =>
  cases ys1 with
  |nil=>simp [qp] at hy
  |cons y1 ys2 =>
  cases ys2 with
  |cons _ _=>simp [qp] at hy
  |nil =>
  simp only [qp] at hx hy
  obtain ⟨⟨nx0,rfl⟩,⟨nx1,rfl⟩,_⟩:=hx
  obtain ⟨⟨ny0,rfl⟩,⟨ny1,rfl⟩,_⟩:=hy
  exact WX 9998 w nx0 ny0 nx1 ny1
 ·cases h
def Qnh (d:Nat) (w:World) (a0 b0:Int) (a1 b1:Int) (a2 b2:Int) (a3 b3:Int) (a4 b4:Int) (a5 b5:Int) (a6 b6:Int) (a7 b7:Int) (a8 b8:Int) (a9 b9:Int) (a10 b10:Int) (a11 b11:Int):(Op.equalIn (d+3) 112 (.agg #[.int .i64 a0,.int .i64 a1,.int .i64 a2,.int .i64 a3,.int .i64 a4,.int .i64 a5,.int .i64 a6,.int .i64 a7,.int .i64 a8,.int .i64 a9,.int .i64 a10,.int .i64 a11]) (.agg #[.int .i64 b0,.int .i64 b1,.int .i64 b2,.int .i64 b3,.int .i64 b4,.int .i64 b5,.int .i64 b6,.int .i64 b7,.int .i64 b8,.int .i64 b9,.int .i64 b10,.int .i64 b11])).run prog w=.ok (jF [.int .i64 a0,.int .i64 a1,.int .i64 a2,.int .i64 a3,.int .i64 a4,.int .i64 a5,.int .i64 a6,.int .i64 a7,.int .i64 a8,.int .i64 a9,.int .i64 a10,.int .i64 a11] [.int .i64 b0,.int .i64 b1,.int .i64 b2,.int .i64 b3,.int .i64 b4,.int .i64 b5,.int .i64 b6,.int .i64 b7,.int .i64 b8,.int .i64 b9,.int .i64 b10,.int .i64 b11]) w:=by
 have h1:prog.underlying 112=some (.struct (prog.fieldsOf 112)):=by kernel_rfl
 have h2 : (prog.fieldsOf 112).toList = [{ name := "Taken", type := 110, offset := 0, embedded := false, tag := "", pkgPath := "", byteOffset := 0 }, { name := "Paid", type := 110, offset := 2, embedded := false, tag := "", pkgPath := "", byteOffset := 16 }, { name := "Gained", type := 110, offset := 4, embedded := false, tag := "", pkgPath := "", byteOffset := 32 }, { name := "Lost", type := 110, offset := 6, embedded := false, tag := "", pkgPath := "", byteOffset := 48 }, { name := "Found", type := 110, offset := 8, embedded := false, tag := "", pkgPath := "", byteOffset := 64 }, { name := "Worth", type := 110, offset := 10, embedded := false, tag := "", pkgPath := "", byteOffset := 80 }] := by kernel_rfl
 rw [run_equalIn_agg w (d+2) 112 _ _ h1 (by kernel_rfl),h2]
 refine Eq.trans (b:=Result.ok (jF [.int .i64 a0,.int .i64 a1] [.int .i64 b0,.int .i64 b1] && (jF [.int .i64 a2,.int .i64 a3] [.int .i64 b2,.int .i64 b3] && (jF [.int .i64 a4,.int .i64 a5] [.int .i64 b4,.int .i64 b5] && (jF [.int .i64 a6,.int .i64 a7] [.int .i64 b6,.int .i64 b7] && (jF [.int .i64 a8,.int .i64 a9] [.int .i64 b8,.int .i64 b9] && (jF [.int .i64 a10,.int .i64 a11] [.int .i64 b10,.int .i64 b11] && true)))))) w) ?_ (congrArg (fun r=>Result.ok r w) (by simp [jF,veq,Bool.and_assoc]))
 exact zx (by simp) (zK (isAgg110) (sizeOf110) rfl) (zK (isAgg110) (sizeOf110) rfl) (WX (d+0) w a0 b0 a1 b1) (zx (by simp) (zK (isAgg110) (sizeOf110) rfl) (zK (isAgg110) (sizeOf110) rfl) (WX (d+0) w a2 b2 a3 b3) (zx (by simp) (zK (isAgg110) (sizeOf110) rfl) (zK (isAgg110) (sizeOf110) rfl) (WX (d+0) w a4 b4 a5 b5) (zx (by simp) (zK (isAgg110) (sizeOf110) rfl) (zK (isAgg110) (sizeOf110) rfl) (WX (d+0) w a6 b6 a7 b7) (zx (by simp) (zK (isAgg110) (sizeOf110) rfl) (zK (isAgg110) (sizeOf110) rfl) (WX (d+0) w a8 b8 a9 b9) (zx (by simp) (zK (isAgg110) (sizeOf110) rfl) (zK (isAgg110) (sizeOf110) rfl) (WX (d+0) w a10 b10 a11 b11) (jg))))))
def Qlp:TI:={ cells:=12,bytes:=96,td:=.struct [(0,2,110),(2,2,110),(4,2,110),(6,2,110),(8,2,110),(10,2,110)],zero:=[.v (.int .i64 0),.v (.int .i64 0),.v (.int .i64 0),.v (.int .i64 0),.v (.int .i64 0),.v (.int .i64 0),.v (.int .i64 0),.v (.int .i64 0),.v (.int .i64 0),.v (.int .i64 0),.v (.int .i64 0),.v (.int .i64 0)],eqk:=some [some .i64,some .i64,some .i64,some .i64,some .i64,some .i64,some .i64,some .i64,some .i64,some .i64,some .i64,some .i64] }
def tf112:TyFact prog 112 Qlp:=by
 refine ⟨⟨Tryz.t112,.agg #[.int .i64 0,.int .i64 0,.int .i64 0,.int .i64 0,.int .i64 0,.int .i64 0,.int .i64 0,.int .i64 0,.int .i64 0,.int .i64 0,.int .i64 0,.int .i64 0],by kernel_rfl,rfl,rfl,rfl,rfl,rfl,by simp [Value.cells,Value.oneCell']⟩,⟨_,underlying112,⟨_,rfl,rfl⟩⟩,fun fs h=>?_,fun ks h=>?_,fun q h=>?_⟩
 ·cases h
  simp only [ah,aX,or_false,forall_eq_or_imp,forall_eq]
  exact ⟨⟨Tryz.t110,by kernel_rfl,rfl⟩,⟨Tryz.t110,by kernel_rfl,rfl⟩,⟨Tryz.t110,by kernel_rfl,rfl⟩,⟨Tryz.t110,by kernel_rfl,rfl⟩,⟨Tryz.t110,by kernel_rfl,rfl⟩,⟨Tryz.t110,by kernel_rfl,rfl⟩⟩
 ·cases h
  refine ⟨by kernel_rfl,fun w xs ys hx hy=>?_⟩
  cases xs with
  |nil=>simp [qp] at hx
  |cons x0 xs1 =>
  cases xs1 with
  |nil=>simp [qp] at hx
  |cons x1 xs2 =>
  cases xs2 with
  |nil=>simp [qp] at hx
  |cons x2 xs3 =>
  cases xs3 with
  |nil=>simp [qp] at hx
  |cons x3 xs4 =>
  cases xs4 with
  |nil=>simp [qp] at hx
  |cons x4 xs5 =>
  cases xs5 with
  |nil=>simp [qp] at hx
  |cons x5 xs6 =>
  cases xs6 with
  |nil=>simp [qp] at hx
  |cons x6 xs7 =>
  cases xs7 with
  |nil=>simp [qp] at hx
  |cons x7 xs8 =>
  cases xs8 with
  |nil=>simp [qp] at hx
  |cons x8 xs9 =>
  cases xs9 with
  |nil=>simp [qp] at hx
  |cons x9 xs10 =>
  cases xs10 with
  |nil=>simp [qp] at hx
  |cons x10 xs11 =>
  cases xs11 with
  |nil=>simp [qp] at hx
  |cons x11 xs12 =>
  cases xs12 with
  |cons _ _=>simp [qp] at hx
  |nil =>
  cases ys with
  |nil=>simp [qp] at hy
  |cons y0 ys1 =>
  cases ys1 with
  |nil=>simp [qp] at hy
  |cons y1 ys2 =>
  cases ys2 with
  |nil=>simp [qp] at hy
  |cons y2 ys3 =>
  cases ys3 with
  |nil=>simp [qp] at hy
  |cons y3 ys4 =>
  cases ys4 with
  |nil=>simp [qp] at hy
  |cons y4 ys5 =>
  cases ys5 with
  |nil=>simp [qp] at hy
  |cons y5 ys6 =>
  cases ys6 with
  |nil=>simp [qp] at hy
  |cons y6 ys7 =>
  cases ys7 with
  |nil=>simp [qp] at hy
  |cons y7 ys8 =>
  cases ys8 with
  |nil=>simp [qp] at hy
  |cons y8 ys9 =>
  cases ys9 with
  |nil=>simp [qp] at hy
  |cons y9 ys10 =>
  cases ys10 with
  |nil=>simp [qp] at hy
  |cons y10 ys11 =>
  cases ys11 with
  |nil=>simp [qp] at hy
  |cons y11 ys12 =>
  cases ys12 with
  |cons _ _=>simp [qp] at hy
  |nil =>
  simp only [qp] at hx hy
  obtain ⟨⟨nx0,rfl⟩,⟨nx1,rfl⟩,⟨nx2,rfl⟩,⟨nx3,rfl⟩,⟨nx4,rfl⟩,⟨nx5,rfl⟩,⟨nx6,rfl⟩,⟨nx7,rfl⟩,⟨nx8,rfl⟩,⟨nx9,rfl⟩,⟨nx10,rfl⟩,⟨nx11,rfl⟩,_⟩:=hx
  obtain ⟨⟨ny0,rfl⟩,⟨ny1,rfl⟩,⟨ny2,rfl⟩,⟨ny3,rfl⟩,⟨ny4,rfl⟩,⟨ny5,rfl⟩,⟨ny6,rfl⟩,⟨ny7,rfl⟩,⟨ny8,rfl⟩,⟨ny9,rfl⟩,⟨ny10,rfl⟩,⟨ny11,rfl⟩,_⟩:=hy
  exact Qnh 9997 w nx0 ny0 nx1 ny1 nx2 ny2 nx3 ny3 nx4 ny4 nx5 ny5 nx6 ny6 nx7 ny7 nx8 ny8 nx9 ny9 nx10 ny10 nx11 ny11
 ·cases h
def Qm4 (d:Nat) (w:World) (a0 b0:Int) (a1 b1:Int) (a2 b2:Int) (a3 b3:Int) (a4 b4:Int) (a5 b5:Int):(Op.equalIn (d+2) 129 (.agg #[.int .i64 a0,.int .i64 a1,.int .i64 a2,.int .i64 a3,.int .i64 a4,.int .i64 a5]) (.agg #[.int .i64 b0,.int .i64 b1,.int .i64 b2,.int .i64 b3,.int .i64 b4,.int .i64 b5])).run prog w=.ok (jF [.int .i64 a0,.int .i64 a1,.int .i64 a2,.int .i64 a3,.int .i64 a4,.int .i64 a5] [.int .i64 b0,.int .i64 b1,.int .i64 b2,.int .i64 b3,.int .i64 b4,.int .i64 b5]) w:=by
 have h1:prog.underlying 129=some (.struct (prog.fieldsOf 129)):=by kernel_rfl
 have h2 : (prog.fieldsOf 129).toList = [{ name := "Day", type := 3, offset := 0, embedded := false, tag := "", pkgPath := "", byteOffset := 0 }, { name := "Kind", type := 3, offset := 1, embedded := false, tag := "", pkgPath := "", byteOffset := 8 }, { name := "Coin", type := 3, offset := 2, embedded := false, tag := "", pkgPath := "", byteOffset := 16 }, { name := "To", type := 3, offset := 3, embedded := false, tag := "", pkgPath := "", byteOffset := 24 }, { name := "Amount", type := 3, offset := 4, embedded := false, tag := "", pkgPath := "", byteOffset := 32 }, { name := "Got", type := 3, offset := 5, embedded := false, tag := "", pkgPath := "", byteOffset := 40 }] := by kernel_rfl
 rw [run_equalIn_agg w (d+1) 129 _ _ h1 (by kernel_rfl),h2]
 refine Eq.trans (b:=Result.ok (a0 == b0 && (a1 == b1 && (a2 == b2 && (a3 == b3 && (a4 == b4 && (a5 == b5 && true)))))) w) ?_ (congrArg (fun r=>Result.ok r w) (by simp [jF,veq]))
 exact zx (by simp) (qI (isAgg3) rfl) (qI (isAgg3) rfl) (run_equalIn_int w (d+0) 3 _ _ _ _ underlying3) (zx (by simp) (qI (isAgg3) rfl) (qI (isAgg3) rfl) (run_equalIn_int w (d+0) 3 _ _ _ _ underlying3) (zx (by simp) (qI (isAgg3) rfl) (qI (isAgg3) rfl) (run_equalIn_int w (d+0) 3 _ _ _ _ underlying3) (zx (by simp) (qI (isAgg3) rfl) (qI (isAgg3) rfl) (run_equalIn_int w (d+0) 3 _ _ _ _ underlying3) (zx (by simp) (qI (isAgg3) rfl) (qI (isAgg3) rfl) (run_equalIn_int w (d+0) 3 _ _ _ _ underlying3) (zx (by simp) (qI (isAgg3) rfl) (qI (isAgg3) rfl) (run_equalIn_int w (d+0) 3 _ _ _ _ underlying3) (jg))))))
def Qly:TI:={ cells:=6,bytes:=48,td:=.struct [(0,1,3),(1,1,3),(2,1,3),(3,1,3),(4,1,3),(5,1,3)],zero:=[.v (.int .i64 0),.v (.int .i64 0),.v (.int .i64 0),.v (.int .i64 0),.v (.int .i64 0),.v (.int .i64 0)],eqk:=some [some .i64,some .i64,some .i64,some .i64,some .i64,some .i64] }
def tf129:TyFact prog 129 Qly:=by
 refine ⟨⟨Tryz.t129,.agg #[.int .i64 0,.int .i64 0,.int .i64 0,.int .i64 0,.int .i64 0,.int .i64 0],by kernel_rfl,rfl,rfl,rfl,rfl,rfl,by simp [Value.cells,Value.oneCell']⟩,⟨_,underlying129,⟨_,rfl,rfl⟩⟩,fun fs h=>?_,fun ks h=>?_,fun q h=>?_⟩
 ·cases h
  simp only [ah,aX,or_false,forall_eq_or_imp,forall_eq]
  exact ⟨⟨Tryz.t3,by kernel_rfl,rfl⟩,⟨Tryz.t3,by kernel_rfl,rfl⟩,⟨Tryz.t3,by kernel_rfl,rfl⟩,⟨Tryz.t3,by kernel_rfl,rfl⟩,⟨Tryz.t3,by kernel_rfl,rfl⟩,⟨Tryz.t3,by kernel_rfl,rfl⟩⟩
 ·cases h
  refine ⟨by kernel_rfl,fun w xs ys hx hy=>?_⟩
  cases xs with
  |nil=>simp [qp] at hx
  |cons x0 xs1 =>
  cases xs1 with
  |nil=>simp [qp] at hx
  |cons x1 xs2 =>
  cases xs2 with
  |nil=>simp [qp] at hx
  |cons x2 xs3 =>
  cases xs3 with
  |nil=>simp [qp] at hx
  |cons x3 xs4 =>
  cases xs4 with
  |nil=>simp [qp] at hx
  |cons x4 xs5 =>
  cases xs5 with
  |nil=>simp [qp] at hx
  |cons x5 xs6 =>
  cases xs6 with
  |cons _ _=>simp [qp] at hx
  |nil =>
  cases ys with
  |nil=>simp [qp] at hy
  |cons y0 ys1 =>
  cases ys1 with
  |nil=>simp [qp] at hy
  |cons y1 ys2 =>
  cases ys2 with
  |nil=>simp [qp] at hy
  |cons y2 ys3 =>
  cases ys3 with
  |nil=>simp [qp] at hy
  |cons y3 ys4 =>
  cases ys4 with
  |nil=>simp [qp] at hy
  |cons y4 ys5 =>
  cases ys5 with
  |nil=>simp [qp] at hy
  |cons y5 ys6 =>
  cases ys6 with
  |cons _ _=>simp [qp] at hy
  |nil =>
  simp only [qp] at hx hy
  obtain ⟨⟨nx0,rfl⟩,⟨nx1,rfl⟩,⟨nx2,rfl⟩,⟨nx3,rfl⟩,⟨nx4,rfl⟩,⟨nx5,rfl⟩,_⟩:=hx
  obtain ⟨⟨ny0,rfl⟩,⟨ny1,rfl⟩,⟨ny2,rfl⟩,⟨ny3,rfl⟩,⟨ny4,rfl⟩,⟨ny5,rfl⟩,_⟩:=hy
  exact Qm4 9998 w nx0 ny0 nx1 ny1 nx2 ny2 nx3 ny3 nx4 ny4 nx5 ny5
 ·cases h
def Qlb:TI:={ cells:=1,bytes:=8,td:=.ptr,zero:=[.v (.pointer none)],eqk:=none }
def tf137:TyFact prog 137 Qlb:=by
 refine ⟨⟨Tryz.t137,.pointer none,by kernel_rfl,rfl,rfl,rfl,rfl,rfl,by simp [Value.cells,Value.oneCell']⟩,⟨_,underlying137,⟨_,rfl⟩⟩,fun fs h=>?_,fun ks h=>?_,fun q h=>?_⟩
 ·cases h
 ·cases h
 ·cases h
def xW:TI:={ cells:=1,bytes:=8,td:=.ptr,zero:=[.v (.pointer none)],eqk:=none }
def tf141:TyFact prog 141 xW:=by
 refine ⟨⟨Tryz.t141,.pointer none,by kernel_rfl,rfl,rfl,rfl,rfl,rfl,by simp [Value.cells,Value.oneCell']⟩,⟨_,underlying141,⟨_,rfl⟩⟩,fun fs h=>?_,fun ks h=>?_,fun q h=>?_⟩
 ·cases h
 ·cases h
 ·cases h
def Qli:TI:={ cells:=1,bytes:=8,td:=.func,zero:=[.v (.nilFunc)],eqk:=none }
def tf146:TyFact prog 146 Qli:=by
 refine ⟨⟨Tryz.t146,.nilFunc,by kernel_rfl,rfl,rfl,rfl,rfl,rfl,by simp [Value.cells,Value.oneCell']⟩,⟨_,underlying146,⟨_,_,_,rfl⟩⟩,fun fs h=>?_,fun ks h=>?_,fun q h=>?_⟩
 ·cases h
 ·cases h
 ·cases h
def QdJ:TI:={ cells:=1,bytes:=8,td:=.func,zero:=[.v (.nilFunc)],eqk:=none }
def tf150:TyFact prog 150 QdJ:=by
 refine ⟨⟨Tryz.t150,.nilFunc,by kernel_rfl,rfl,rfl,rfl,rfl,rfl,by simp [Value.cells,Value.oneCell']⟩,⟨_,underlying150,⟨_,_,_,rfl⟩⟩,fun fs h=>?_,fun ks h=>?_,fun q h=>?_⟩
 ·cases h
 ·cases h
 ·cases h
def QC:TI:={ cells:=3,bytes:=56,td:=.struct [(0,3,25)],zero:=[.nil,.v (.int .i64 0),.nil],eqk:=none }
def tf152:TyFact prog 152 QC:=by
 refine ⟨⟨Tryz.t152,.agg #[.slice none 0 0,.int .i64 0,.slice none 0 0],by kernel_rfl,rfl,rfl,rfl,rfl,rfl,by simp [Value.cells,Value.oneCell']⟩,⟨_,underlying152,⟨_,rfl,rfl⟩⟩,fun fs h=>?_,fun ks h=>?_,fun q h=>?_⟩
 ·cases h
  simp only [ah,aX,or_false,forall_eq]
  exact ⟨Tryz.t25,by kernel_rfl,rfl⟩
 ·cases h
 ·cases h
def QcQ:TI:={ cells:=1,bytes:=8,td:=.func,zero:=[.v (.nilFunc)],eqk:=none }
def tf153:TyFact prog 153 QcQ:=by
 refine ⟨⟨Tryz.t153,.nilFunc,by kernel_rfl,rfl,rfl,rfl,rfl,rfl,by simp [Value.cells,Value.oneCell']⟩,⟨_,underlying153,⟨_,_,_,rfl⟩⟩,fun fs h=>?_,fun ks h=>?_,fun q h=>?_⟩
 ·cases h
 ·cases h
 ·cases h
def La:TI:={ cells:=2,bytes:=32,td:=.struct [(0,1,65),(1,1,153)],zero:=[.nil,.v (.nilFunc)],eqk:=none }
def tf155:TyFact prog 155 La:=by
 refine ⟨⟨Tryz.t155,.agg #[.slice none 0 0,.nilFunc],by kernel_rfl,rfl,rfl,rfl,rfl,rfl,by simp [Value.cells,Value.oneCell']⟩,⟨_,underlying155,⟨_,rfl,rfl⟩⟩,fun fs h=>?_,fun ks h=>?_,fun q h=>?_⟩
 ·cases h
  simp only [ah,aX,or_false,forall_eq_or_imp,forall_eq]
  exact ⟨⟨Tryz.t65,by kernel_rfl,rfl⟩,⟨Tryz.t153,by kernel_rfl,rfl⟩⟩
 ·cases h
 ·cases h
def Qne (d:Nat) (w:World) (a0 b0:Int) (a1 b1:Int) (a2 b2:Int):(Op.equalIn (d+3) 159 (.agg #[.int .i64 a0,.int .i64 a1,.int .i64 a2]) (.agg #[.int .i64 b0,.int .i64 b1,.int .i64 b2])).run prog w=.ok (jF [.int .i64 a0,.int .i64 a1,.int .i64 a2] [.int .i64 b0,.int .i64 b1,.int .i64 b2]) w:=by
 have h1:prog.underlying 159=some (.struct (prog.fieldsOf 159)):=by kernel_rfl
 have h2 : (prog.fieldsOf 159).toList = [{ name := "at", type := 3, offset := 0, embedded := false, tag := "", pkgPath := "couchette/berth", byteOffset := 0 }, { name := "bunk", type := 76, offset := 1, embedded := false, tag := "", pkgPath := "couchette/berth", byteOffset := 8 }] := by kernel_rfl
 rw [run_equalIn_agg w (d+2) 159 _ _ h1 (by kernel_rfl),h2]
 refine Eq.trans (b:=Result.ok (a0 == b0 && (jF [.int .i64 a1,.int .i64 a2] [.int .i64 b1,.int .i64 b2] && true)) w) ?_ (congrArg (fun r=>Result.ok r w) (by simp [jF,veq]))
 exact zx (by simp) (qI (isAgg3) rfl) (qI (isAgg3) rfl) (run_equalIn_int w (d+1) 3 _ _ _ _ underlying3) (zx (by simp) (zK (isAgg76) (sizeOf76) rfl) (zK (isAgg76) (sizeOf76) rfl) (Qc5 (d+0) w a1 b1 a2 b2) (jg))
def Qna (w:World) (em:Bool) (a0:Int) (a1:Int) (a2:Int):(Instr.checkKey em 10000 159 (.agg #[.int .i64 a0,.int .i64 a1,.int .i64 a2])).run prog w=.ok () w:=by kernel_rfl
def LB:TI:={ cells:=1,bytes:=8,td:=.map 159 3,zero:=[.v (.map none)],eqk:=none,key:=some { kd:=.agg [some .i64,some .i64,some .i64],z:=.v (.int .i64 0),agg:=false } }
def tf157:TyFact prog 157 LB:=by
 refine ⟨⟨Tryz.t157,.map none,by kernel_rfl,rfl,rfl,rfl,rfl,rfl,by simp [Value.cells,Value.oneCell']⟩,⟨_,underlying157,rfl⟩,fun fs h=>?_,fun ks h=>?_,fun q h=>?_⟩
 ·cases h
 ·cases h
 ·cases h
  refine ⟨159,3,rfl,Qh7 underlying159 (fun w xs ys hx hy=>?_) (fun w em xs hx=>?_),fun w=>⟨.int .i64 0,by simp [zeroValue,typeInfo,show prog.info? 3=some Tryz.t3 by kernel_rfl,Tryz.t3],fun w' ok ρ y=>?_⟩⟩
  ·skip
   cases xs with
   |nil=>simp [qp] at hx
   |cons x0 xs1 =>
   cases xs1 with
   |nil=>simp [qp] at hx
   |cons x1 xs2 =>
   cases xs2 with
   |nil=>simp [qp] at hx
   |cons x2 xs3 =>
   cases xs3 with
   |cons _ _=>simp [qp] at hx
   |nil =>
   cases ys with
   |nil=>simp [qp] at hy
   |cons y0 ys1 =>
   cases ys1 with
   |nil=>simp [qp] at hy
   |cons y1 ys2 =>
   cases ys2 with
   |nil=>simp [qp] at hy
   |cons y2 ys3 =>
   cases ys3 with
   |cons _ _=>simp [qp] at hy
   |nil =>
   simp only [qp] at hx
   obtain ⟨⟨nx0,rfl⟩,⟨nx1,rfl⟩,⟨nx2,rfl⟩,_⟩:=hx
   simp only [qp] at hy
   obtain ⟨⟨ny0,rfl⟩,⟨ny1,rfl⟩,⟨ny2,rfl⟩,_⟩:=hy
   exact Qne 9997 w nx0 ny0 nx1 ny1 nx2 ny2
  ·skip
   cases xs with
   |nil=>simp [qp] at hx
   |cons x0 xs1 =>
   cases xs1 with
   |nil=>simp [qp] at hx
   |cons x1 xs2 =>
   cases xs2 with
   |nil=>simp [qp] at hx
   |cons x2 xs3 =>
   cases xs3 with
   |cons _ _=>simp [qp] at hx
   |nil =>
   simp only [qp] at hx
   obtain ⟨⟨nx0,rfl⟩,⟨nx1,rfl⟩,⟨nx2,rfl⟩,_⟩:=hx
   exact Qna w em nx0 nx1 nx2
  ·exact .v rfl
def LF:TI:={ cells:=3,bytes:=24,td:=.struct [(0,1,3),(1,2,76)],zero:=[.v (.int .i64 0),.v (.int .i64 0),.v (.int .i64 0)],eqk:=none }
def tf159:TyFact prog 159 LF:=by
 refine ⟨⟨Tryz.t159,.agg #[.int .i64 0,.int .i64 0,.int .i64 0],by kernel_rfl,rfl,rfl,rfl,rfl,rfl,by simp [Value.cells,Value.oneCell']⟩,⟨_,underlying159,⟨_,rfl,rfl⟩⟩,fun fs h=>?_,fun ks h=>?_,fun q h=>?_⟩
 ·cases h
  simp only [ah,aX,or_false,forall_eq_or_imp,forall_eq]
  exact ⟨⟨Tryz.t3,by kernel_rfl,rfl⟩,⟨Tryz.t76,by kernel_rfl,rfl⟩⟩
 ·cases h
 ·cases h
def Qdy:TI:={ cells:=1,bytes:=8,td:=.func,zero:=[.v (.nilFunc)],eqk:=none }
def tf167:TyFact prog 167 Qdy:=by
 refine ⟨⟨Tryz.t167,.nilFunc,by kernel_rfl,rfl,rfl,rfl,rfl,rfl,by simp [Value.cells,Value.oneCell']⟩,⟨_,underlying167,⟨_,_,_,rfl⟩⟩,fun fs h=>?_,fun ks h=>?_,fun q h=>?_⟩
 ·cases h
 ·cases h
 ·cases h
def QlN:TI:={ cells:=1,bytes:=8,td:=.ptr,zero:=[.v (.pointer none)],eqk:=none }
def tf170:TyFact prog 170 QlN:=by
 refine ⟨⟨Tryz.t170,.pointer none,by kernel_rfl,rfl,rfl,rfl,rfl,rfl,by simp [Value.cells,Value.oneCell']⟩,⟨_,underlying170,⟨_,rfl⟩⟩,fun fs h=>?_,fun ks h=>?_,fun q h=>?_⟩
 ·cases h
 ·cases h
 ·cases h
def QlB:TI:={ cells:=2,bytes:=32,td:=.struct [(0,1,170),(1,1,99)],zero:=[.v (.pointer none),.nil],eqk:=none }
def tf172:TyFact prog 172 QlB:=by
 refine ⟨⟨Tryz.t172,.agg #[.pointer none,.slice none 0 0],by kernel_rfl,rfl,rfl,rfl,rfl,rfl,by simp [Value.cells,Value.oneCell']⟩,⟨_,underlying172,⟨_,rfl,rfl⟩⟩,fun fs h=>?_,fun ks h=>?_,fun q h=>?_⟩
 ·cases h
  simp only [ah,aX,or_false,forall_eq_or_imp,forall_eq]
  exact ⟨⟨Tryz.t170,by kernel_rfl,rfl⟩,⟨Tryz.t99,by kernel_rfl,rfl⟩⟩
 ·cases h
 ·cases h
def Qk5:TI:={ cells:=1,bytes:=16,td:=.iface,zero:=[.v (.nilIface)],eqk:=none }
def tf175:TyFact prog 175 Qk5:=by
 refine ⟨⟨Tryz.t175,.nilIface,by kernel_rfl,rfl,rfl,rfl,rfl,rfl,by simp [Value.cells,Value.oneCell']⟩,⟨_,underlying175,⟨_,rfl⟩⟩,fun fs h=>?_,fun ks h=>?_,fun q h=>?_⟩
 ·cases h
 ·cases h
 ·cases h
def YU:TI:={ cells:=0,bytes:=0,td:=.struct [],zero:=[],eqk:=none }
def tf182:TyFact prog 182 YU:=by
 refine ⟨⟨Tryz.t182,.agg #[],by kernel_rfl,rfl,rfl,rfl,rfl,rfl,by simp [Value.cells,Value.oneCell']⟩,⟨_,underlying182,⟨_,rfl,rfl⟩⟩,fun fs h=>?_,fun ks h=>?_,fun q h=>?_⟩
 ·cases h
  simp only [aX]
  exact fun _ h=>(h:False).elim
 ·cases h
 ·cases h
def QlL:TI:={ cells:=1,bytes:=8,td:=.ptr,zero:=[.v (.pointer none)],eqk:=none }
def tf185:TyFact prog 185 QlL:=by
 refine ⟨⟨Tryz.t185,.pointer none,by kernel_rfl,rfl,rfl,rfl,rfl,rfl,by simp [Value.cells,Value.oneCell']⟩,⟨_,underlying185,⟨_,rfl⟩⟩,fun fs h=>?_,fun ks h=>?_,fun q h=>?_⟩
 ·cases h
 ·cases h
 ·cases h
def QlA:TI:={ cells:=1,bytes:=8,td:=.ptr,zero:=[.v (.pointer none)],eqk:=none }
def tf188:TyFact prog 188 QlA:=by
 refine ⟨⟨Tryz.t188,.pointer none,by kernel_rfl,rfl,rfl,rfl,rfl,rfl,by simp [Value.cells,Value.oneCell']⟩,⟨_,underlying188,⟨_,rfl⟩⟩,fun fs h=>?_,fun ks h=>?_,fun q h=>?_⟩
 ·cases h
 ·cases h
 ·cases h
def Qlm:TI:={ cells:=1,bytes:=24,td:=.slice 191,zero:=[.nil],eqk:=none }
def tf190:TyFact prog 190 Qlm:=by
 refine ⟨⟨Tryz.t190,.slice none 0 0,by kernel_rfl,rfl,rfl,rfl,rfl,rfl,by simp [Value.cells,Value.oneCell']⟩,⟨_,underlying190,rfl⟩,fun fs h=>?_,fun ks h=>?_,fun q h=>?_⟩
 ·cases h
 ·cases h
 ·cases h
def Qm8 (d:Nat) (w:World) (a0 b0:Int) (a1 b1:Int):(Op.equalIn (d+2) 191 (.agg #[.int .i64 a0,.int .i64 a1]) (.agg #[.int .i64 b0,.int .i64 b1])).run prog w=.ok (jF [.int .i64 a0,.int .i64 a1] [.int .i64 b0,.int .i64 b1]) w:=by
 have h1:prog.underlying 191=some (.struct (prog.fieldsOf 191)):=by kernel_rfl
 have h2 : (prog.fieldsOf 191).toList = [{ name := "Num", type := 3, offset := 0, embedded := false, tag := "", pkgPath := "", byteOffset := 0 }, { name := "Den", type := 3, offset := 1, embedded := false, tag := "", pkgPath := "", byteOffset := 8 }] := by kernel_rfl
 rw [run_equalIn_agg w (d+1) 191 _ _ h1 (by kernel_rfl),h2]
 refine Eq.trans (b:=Result.ok (a0 == b0 && (a1 == b1 && true)) w) ?_ (congrArg (fun r=>Result.ok r w) (by simp [jF,veq]))
 exact zx (by simp) (qI (isAgg3) rfl) (qI (isAgg3) rfl) (run_equalIn_int w (d+0) 3 _ _ _ _ underlying3) (zx (by simp) (qI (isAgg3) rfl) (qI (isAgg3) rfl) (run_equalIn_int w (d+0) 3 _ _ _ _ underlying3) (jg))
def Qlz:TI:={ cells:=2,bytes:=16,td:=.struct [(0,1,3),(1,1,3)],zero:=[.v (.int .i64 0),.v (.int .i64 0)],eqk:=some [some .i64,some .i64] }
def tf191:TyFact prog 191 Qlz:=by
 refine ⟨⟨Tryz.t191,.agg #[.int .i64 0,.int .i64 0],by kernel_rfl,rfl,rfl,rfl,rfl,rfl,by simp [Value.cells,Value.oneCell']⟩,⟨_,underlying191,⟨_,rfl,rfl⟩⟩,fun fs h=>?_,fun ks h=>?_,fun q h=>?_⟩
 ·cases h
  simp only [ah,aX,or_false,forall_eq_or_imp,forall_eq]
  exact ⟨⟨Tryz.t3,by kernel_rfl,rfl⟩,⟨Tryz.t3,by kernel_rfl,rfl⟩⟩
 ·cases h
  refine ⟨by kernel_rfl,fun w xs ys hx hy=>?_⟩
  cases xs with
  |nil=>simp [qp] at hx
  |cons x0 xs1 =>
  cases xs1 with
  |nil=>simp [qp] at hx
  |cons x1 xs2 =>
  cases xs2 with
  |cons _ _=>simp [qp] at hx
  |nil =>
  cases ys with
  |nil=>simp [qp] at hy
  |cons y0 ys1 =>
  cases ys1 with
  |nil=>simp [qp] at hy
  |cons y1 ys2 =>
  cases ys2 with
  |cons _ _=>simp [qp] at hy
  |nil =>
  simp only [qp] at hx hy
  obtain ⟨⟨nx0,rfl⟩,⟨nx1,rfl⟩,_⟩:=hx
  obtain ⟨⟨ny0,rfl⟩,⟨ny1,rfl⟩,_⟩:=hy
  exact Qm8 9998 w nx0 ny0 nx1 ny1
 ·cases h
def Qlk:TI:={ cells:=5,bytes:=120,td:=.struct [(0,4,47),(4,1,26)],zero:=[.nil,.nil,.nil,.nil,.nil],eqk:=none }
def tf196:TyFact prog 196 Qlk:=by
 refine ⟨⟨Tryz.t196,.agg #[.slice none 0 0,.slice none 0 0,.slice none 0 0,.slice none 0 0,.slice none 0 0],by kernel_rfl,rfl,rfl,rfl,rfl,rfl,by simp [Value.cells,Value.oneCell']⟩,⟨_,underlying196,⟨_,rfl,rfl⟩⟩,fun fs h=>?_,fun ks h=>?_,fun q h=>?_⟩
 ·cases h
  simp only [ah,aX,or_false,forall_eq_or_imp,forall_eq]
  exact ⟨⟨Tryz.t47,by kernel_rfl,rfl⟩,⟨Tryz.t26,by kernel_rfl,rfl⟩⟩
 ·cases h
 ·cases h
def QlG:TI:={ cells:=1,bytes:=8,td:=.func,zero:=[.v (.nilFunc)],eqk:=none }
def tf206:TyFact prog 206 QlG:=by
 refine ⟨⟨Tryz.t206,.nilFunc,by kernel_rfl,rfl,rfl,rfl,rfl,rfl,by simp [Value.cells,Value.oneCell']⟩,⟨_,underlying206,⟨_,_,_,rfl⟩⟩,fun fs h=>?_,fun ks h=>?_,fun q h=>?_⟩
 ·cases h
 ·cases h
 ·cases h
def Qle:TI:={ cells:=1,bytes:=8,td:=.func,zero:=[.v (.nilFunc)],eqk:=none }
def tf207:TyFact prog 207 Qle:=by
 refine ⟨⟨Tryz.t207,.nilFunc,by kernel_rfl,rfl,rfl,rfl,rfl,rfl,by simp [Value.cells,Value.oneCell']⟩,⟨_,underlying207,⟨_,_,_,rfl⟩⟩,fun fs h=>?_,fun ks h=>?_,fun q h=>?_⟩
 ·cases h
 ·cases h
 ·cases h
def QlC:TI:={ cells:=0,bytes:=0,td:=.struct [],zero:=[],eqk:=none }
def tf217:TyFact prog 217 QlC:=by
 refine ⟨⟨Tryz.t217,.agg #[],by kernel_rfl,rfl,rfl,rfl,rfl,rfl,by simp [Value.cells,Value.oneCell']⟩,⟨_,underlying217,⟨_,rfl,rfl⟩⟩,fun fs h=>?_,fun ks h=>?_,fun q h=>?_⟩
 ·cases h
  simp only [aX]
  exact fun _ h=>(h:False).elim
 ·cases h
 ·cases h
def XX:TI:={ cells:=1,bytes:=8,td:=.int .u64,zero:=[.v (.int .u64 0)],eqk:=none }
def tf224:TyFact prog 224 XX:=by
 refine ⟨⟨Tryz.t224,.int .u64 0,by kernel_rfl,rfl,rfl,rfl,rfl,rfl,by simp [Value.cells,Value.oneCell']⟩,⟨_,underlying224,rfl⟩,fun fs h=>?_,fun ks h=>?_,fun q h=>?_⟩
 ·cases h
 ·cases h
 ·cases h
def LW:TI:={ cells:=3,bytes:=24,td:=.array 3 224,zero:=[.v (.int .u64 0),.v (.int .u64 0),.v (.int .u64 0)],eqk:=none }
def tf226:TyFact prog 226 LW:=by
 refine ⟨⟨Tryz.t226,.agg #[.int .u64 0,.int .u64 0,.int .u64 0],by kernel_rfl,rfl,rfl,rfl,rfl,rfl,by simp [Value.cells,Value.oneCell']⟩,⟨_,underlying226,rfl⟩,fun fs h=>?_,fun ks h=>?_,fun q h=>?_⟩
 ·cases h
 ·cases h
 ·cases h
def UT:TI:={ cells:=1,bytes:=8,td:=.func,zero:=[.v (.nilFunc)],eqk:=none }
def tf231:TyFact prog 231 UT:=by
 refine ⟨⟨Tryz.t231,.nilFunc,by kernel_rfl,rfl,rfl,rfl,rfl,rfl,by simp [Value.cells,Value.oneCell']⟩,⟨_,underlying231,⟨_,_,_,rfl⟩⟩,fun fs h=>?_,fun ks h=>?_,fun q h=>?_⟩
 ·cases h
 ·cases h
 ·cases h
def Qlr:TI:={ cells:=1,bytes:=8,td:=.func,zero:=[.v (.nilFunc)],eqk:=none }
def tf233:TyFact prog 233 Qlr:=by
 refine ⟨⟨Tryz.t233,.nilFunc,by kernel_rfl,rfl,rfl,rfl,rfl,rfl,by simp [Value.cells,Value.oneCell']⟩,⟨_,underlying233,⟨_,_,_,rfl⟩⟩,fun fs h=>?_,fun ks h=>?_,fun q h=>?_⟩
 ·cases h
 ·cases h
 ·cases h
def QcR:TI:={ cells:=1,bytes:=8,td:=.map 3 3,zero:=[.v (.map none)],eqk:=none,key:=some { kd:=.one (.int .i64),z:=.v (.int .i64 0),agg:=false } }
def tf234:TyFact prog 234 QcR:=by
 refine ⟨⟨Tryz.t234,.map none,by kernel_rfl,rfl,rfl,rfl,rfl,rfl,by simp [Value.cells,Value.oneCell']⟩,⟨_,underlying234,rfl⟩,fun fs h=>?_,fun ks h=>?_,fun q h=>?_⟩
 ·cases h
 ·cases h
 ·cases h
  refine ⟨3,3,rfl,QbA underlying3,fun w=>⟨.int .i64 0,by simp [zeroValue,typeInfo,show prog.info? 3=some Tryz.t3 by kernel_rfl,Tryz.t3],fun w' ok ρ y=>?_⟩⟩
  exact .v rfl
def U7:TI:={ cells:=1,bytes:=8,td:=.func,zero:=[.v (.nilFunc)],eqk:=none }
def tf235:TyFact prog 235 U7:=by
 refine ⟨⟨Tryz.t235,.nilFunc,by kernel_rfl,rfl,rfl,rfl,rfl,rfl,by simp [Value.cells,Value.oneCell']⟩,⟨_,underlying235,⟨_,_,_,rfl⟩⟩,fun fs h=>?_,fun ks h=>?_,fun q h=>?_⟩
 ·cases h
 ·cases h
 ·cases h
def Qls:TI:={ cells:=1,bytes:=8,td:=.ptr,zero:=[.v (.pointer none)],eqk:=none }
def tf242:TyFact prog 242 Qls:=by
 refine ⟨⟨Tryz.t242,.pointer none,by kernel_rfl,rfl,rfl,rfl,rfl,rfl,by simp [Value.cells,Value.oneCell']⟩,⟨_,underlying242,⟨_,rfl⟩⟩,fun fs h=>?_,fun ks h=>?_,fun q h=>?_⟩
 ·cases h
 ·cases h
 ·cases h
def Qlh:TI:={ cells:=1,bytes:=8,td:=.func,zero:=[.v (.nilFunc)],eqk:=none }
def tf259:TyFact prog 259 Qlh:=by
 refine ⟨⟨Tryz.t259,.nilFunc,by kernel_rfl,rfl,rfl,rfl,rfl,rfl,by simp [Value.cells,Value.oneCell']⟩,⟨_,underlying259,⟨_,_,_,rfl⟩⟩,fun fs h=>?_,fun ks h=>?_,fun q h=>?_⟩
 ·cases h
 ·cases h
 ·cases h
def Qlq:TI:={ cells:=24,bytes:=24,td:=.array 24 5,zero:=List.replicate 24 (.v (.int .u8 0)),eqk:=none }
def tf267:TyFact prog 267 Qlq:=by
 refine ⟨⟨Tryz.t267,.agg #[.int .u8 0,.int .u8 0,.int .u8 0,.int .u8 0,.int .u8 0,.int .u8 0,.int .u8 0,.int .u8 0,.int .u8 0,.int .u8 0,.int .u8 0,.int .u8 0,.int .u8 0,.int .u8 0,.int .u8 0,.int .u8 0,.int .u8 0,.int .u8 0,.int .u8 0,.int .u8 0,.int .u8 0,.int .u8 0,.int .u8 0,.int .u8 0],by kernel_rfl,rfl,rfl,rfl,rfl,rfl,by simp [Value.cells,Value.oneCell']⟩,⟨_,underlying267,rfl⟩,fun fs h=>?_,fun ks h=>?_,fun q h=>?_⟩
 ·cases h
 ·cases h
 ·cases h
def Qlx:TI:={ cells:=1,bytes:=4,td:=.int .u32,zero:=[.v (.int .u32 0)],eqk:=none }
def tf280:TyFact prog 280 Qlx:=by
 refine ⟨⟨Tryz.t280,.int .u32 0,by kernel_rfl,rfl,rfl,rfl,rfl,rfl,by simp [Value.cells,Value.oneCell']⟩,⟨_,underlying280,rfl⟩,fun fs h=>?_,fun ks h=>?_,fun q h=>?_⟩
 ·cases h
 ·cases h
 ·cases h
def Qk2:TI:={ cells:=20,bytes:=160,td:=.array 20 90,zero:=[.v (.int .u64 0),.v (.int .u64 0),.v (.int .u64 0),.v (.int .u64 0),.v (.int .u64 0),.v (.int .u64 0),.v (.int .u64 0),.v (.int .u64 0),.v (.int .u64 0),.v (.int .u64 0),.v (.int .u64 0),.v (.int .u64 0),.v (.int .u64 0),.v (.int .u64 0),.v (.int .u64 0),.v (.int .u64 0),.v (.int .u64 0),.v (.int .u64 0),.v (.int .u64 0),.v (.int .u64 0)],eqk:=none }
def tf293:TyFact prog 293 Qk2:=by
 refine ⟨⟨Tryz.t293,.agg #[.int .u64 0,.int .u64 0,.int .u64 0,.int .u64 0,.int .u64 0,.int .u64 0,.int .u64 0,.int .u64 0,.int .u64 0,.int .u64 0,.int .u64 0,.int .u64 0,.int .u64 0,.int .u64 0,.int .u64 0,.int .u64 0,.int .u64 0,.int .u64 0,.int .u64 0,.int .u64 0],by kernel_rfl,rfl,rfl,rfl,rfl,rfl,by simp [Value.cells,Value.oneCell']⟩,⟨_,underlying293,rfl⟩,fun fs h=>?_,fun ks h=>?_,fun q h=>?_⟩
 ·cases h
 ·cases h
 ·cases h
def Qlt:TI:={ cells:=1,bytes:=8,td:=.int .i64,zero:=[.v (.int .i64 0)],eqk:=none }
def tf302:TyFact prog 302 Qlt:=by
 refine ⟨⟨Tryz.t302,.int .i64 0,by kernel_rfl,rfl,rfl,rfl,rfl,rfl,by simp [Value.cells,Value.oneCell']⟩,⟨_,underlying302,rfl⟩,fun fs h=>?_,fun ks h=>?_,fun q h=>?_⟩
 ·cases h
 ·cases h
 ·cases h
def Qk9:TI:={ cells:=1,bytes:=8,td:=.ptr,zero:=[.v (.pointer none)],eqk:=none }
def tf305:TyFact prog 305 Qk9:=by
 refine ⟨⟨Tryz.t305,.pointer none,by kernel_rfl,rfl,rfl,rfl,rfl,rfl,by simp [Value.cells,Value.oneCell']⟩,⟨_,underlying305,⟨_,rfl⟩⟩,fun fs h=>?_,fun ks h=>?_,fun q h=>?_⟩
 ·cases h
 ·cases h
 ·cases h
def Qlf:TI:={ cells:=32,bytes:=32,td:=.array 32 5,zero:=List.replicate 32 (.v (.int .u8 0)),eqk:=none }
def tf308:TyFact prog 308 Qlf:=by
 refine ⟨⟨Tryz.t308,.agg #[.int .u8 0,.int .u8 0,.int .u8 0,.int .u8 0,.int .u8 0,.int .u8 0,.int .u8 0,.int .u8 0,.int .u8 0,.int .u8 0,.int .u8 0,.int .u8 0,.int .u8 0,.int .u8 0,.int .u8 0,.int .u8 0,.int .u8 0,.int .u8 0,.int .u8 0,.int .u8 0,.int .u8 0,.int .u8 0,.int .u8 0,.int .u8 0,.int .u8 0,.int .u8 0,.int .u8 0,.int .u8 0,.int .u8 0,.int .u8 0,.int .u8 0,.int .u8 0],by kernel_rfl,rfl,rfl,rfl,rfl,rfl,by simp [Value.cells,Value.oneCell']⟩,⟨_,underlying308,rfl⟩,fun fs h=>?_,fun ks h=>?_,fun q h=>?_⟩
 ·cases h
 ·cases h
 ·cases h
def Qk8:TI:={ cells:=64,bytes:=64,td:=.array 64 5,zero:=List.replicate 64 (.v (.int .u8 0)),eqk:=none }
def tf309:TyFact prog 309 Qk8:=by
 refine ⟨⟨Tryz.t309,.agg #[.int .u8 0,.int .u8 0,.int .u8 0,.int .u8 0,.int .u8 0,.int .u8 0,.int .u8 0,.int .u8 0,.int .u8 0,.int .u8 0,.int .u8 0,.int .u8 0,.int .u8 0,.int .u8 0,.int .u8 0,.int .u8 0,.int .u8 0,.int .u8 0,.int .u8 0,.int .u8 0,.int .u8 0,.int .u8 0,.int .u8 0,.int .u8 0,.int .u8 0,.int .u8 0,.int .u8 0,.int .u8 0,.int .u8 0,.int .u8 0,.int .u8 0,.int .u8 0,.int .u8 0,.int .u8 0,.int .u8 0,.int .u8 0,.int .u8 0,.int .u8 0,.int .u8 0,.int .u8 0,.int .u8 0,.int .u8 0,.int .u8 0,.int .u8 0,.int .u8 0,.int .u8 0,.int .u8 0,.int .u8 0,.int .u8 0,.int .u8 0,.int .u8 0,.int .u8 0,.int .u8 0,.int .u8 0,.int .u8 0,.int .u8 0,.int .u8 0,.int .u8 0,.int .u8 0,.int .u8 0,.int .u8 0,.int .u8 0,.int .u8 0,.int .u8 0],by kernel_rfl,rfl,rfl,rfl,rfl,rfl,by simp [Value.cells,Value.oneCell']⟩,⟨_,underlying309,rfl⟩,fun fs h=>?_,fun ks h=>?_,fun q h=>?_⟩
 ·cases h
 ·cases h
 ·cases h
def QlP:TI:={ cells:=2,bytes:=2,td:=.struct [(0,1,5),(1,1,5)],zero:=[.v (.int .u8 0),.v (.int .u8 0)],eqk:=none }
def tf312:TyFact prog 312 QlP:=by
 refine ⟨⟨Tryz.t312,.agg #[.int .u8 0,.int .u8 0],by kernel_rfl,rfl,rfl,rfl,rfl,rfl,by simp [Value.cells,Value.oneCell']⟩,⟨_,underlying312,⟨_,rfl,rfl⟩⟩,fun fs h=>?_,fun ks h=>?_,fun q h=>?_⟩
 ·cases h
  simp only [ah,aX,or_false,forall_eq_or_imp,forall_eq]
  exact ⟨⟨Tryz.t5,by kernel_rfl,rfl⟩,⟨Tryz.t5,by kernel_rfl,rfl⟩⟩
 ·cases h
 ·cases h
def Qlu:TI:={ cells:=32,bytes:=32,td:=.array 16 312,zero:=List.replicate 32 (.v (.int .u8 0)),eqk:=none }
def tf313:TyFact prog 313 Qlu:=by
 refine ⟨⟨Tryz.t313,.agg #[.int .u8 0,.int .u8 0,.int .u8 0,.int .u8 0,.int .u8 0,.int .u8 0,.int .u8 0,.int .u8 0,.int .u8 0,.int .u8 0,.int .u8 0,.int .u8 0,.int .u8 0,.int .u8 0,.int .u8 0,.int .u8 0,.int .u8 0,.int .u8 0,.int .u8 0,.int .u8 0,.int .u8 0,.int .u8 0,.int .u8 0,.int .u8 0,.int .u8 0,.int .u8 0,.int .u8 0,.int .u8 0,.int .u8 0,.int .u8 0,.int .u8 0,.int .u8 0],by kernel_rfl,rfl,rfl,rfl,rfl,rfl,by simp [Value.cells,Value.oneCell']⟩,⟨_,underlying313,rfl⟩,fun fs h=>?_,fun ks h=>?_,fun q h=>?_⟩
 ·cases h
 ·cases h
 ·cases h
def QlO:TI:={ cells:=3,bytes:=48,td:=.struct [(0,1,9),(1,1,9),(2,1,175)],zero:=[.v (.string ⟨#[]⟩),.v (.string ⟨#[]⟩),.v (.nilIface)],eqk:=none }
def tf319:TyFact prog 319 QlO:=by
 refine ⟨⟨Tryz.t319,.agg #[.string ⟨#[]⟩,.string ⟨#[]⟩,.nilIface],by kernel_rfl,rfl,rfl,rfl,rfl,rfl,by simp [Value.cells,Value.oneCell']⟩,⟨_,underlying319,⟨_,rfl,rfl⟩⟩,fun fs h=>?_,fun ks h=>?_,fun q h=>?_⟩
 ·cases h
  simp only [ah,aX,or_false,forall_eq_or_imp,forall_eq]
  exact ⟨⟨Tryz.t9,by kernel_rfl,rfl⟩,⟨Tryz.t9,by kernel_rfl,rfl⟩,⟨Tryz.t175,by kernel_rfl,rfl⟩⟩
 ·cases h
 ·cases h
def QlD:TI:={ cells:=1,bytes:=8,td:=.ptr,zero:=[.v (.pointer none)],eqk:=none }
def tf323:TyFact prog 323 QlD:=by
 refine ⟨⟨Tryz.t323,.pointer none,by kernel_rfl,rfl,rfl,rfl,rfl,rfl,by simp [Value.cells,Value.oneCell']⟩,⟨_,underlying323,⟨_,rfl⟩⟩,fun fs h=>?_,fun ks h=>?_,fun q h=>?_⟩
 ·cases h
 ·cases h
 ·cases h
def Qll:TI:={ cells:=1,bytes:=16,td:=.struct [(0,1,9)],zero:=[.v (.string ⟨#[]⟩)],eqk:=none }
def tf325:TyFact prog 325 Qll:=by
 refine ⟨⟨Tryz.t325,.agg #[.string ⟨#[]⟩],by kernel_rfl,rfl,rfl,rfl,rfl,rfl,by simp [Value.cells,Value.oneCell']⟩,⟨_,underlying325,⟨_,rfl,rfl⟩⟩,fun fs h=>?_,fun ks h=>?_,fun q h=>?_⟩
 ·cases h
  simp only [ah,aX,or_false,forall_eq]
  exact ⟨Tryz.t9,by kernel_rfl,rfl⟩
 ·cases h
 ·cases h
def tyL:List (Nat × TI):=[(2,ti2),(3,ti3),(4,ti4),(5,ti5),(9,ti9),(20,ti20),(21,ti21),(22,Qv),(23,yI),(25,wY),(26,ZE),(28,ti28),(30,ti30),(32,ti32),(33,YA),(34,xQ),(43,ti43),(44,ti44),(45,ti45),(47,ti47),(50,ti50),(59,QaZ),(63,ZG),(65,JY),(71,RV),(76,yG),(80,K4),(81,ti81),(84,Qz),(88,je),(90,QeU),(92,Qib),(93,ti93),(99,ti99),(108,Qk7),(110,Qlj),(112,Qlp),(129,Qly),(137,Qlb),(141,xW),(146,Qli),(150,QdJ),(152,QC),(153,QcQ),(155,La),(157,LB),(159,LF),(167,Qdy),(170,QlN),(172,QlB),(175,Qk5),(182,YU),(185,QlL),(188,QlA),(190,Qlm),(191,Qlz),(196,Qlk),(206,QlG),(207,Qle),(217,QlC),(224,XX),(226,LW),(231,UT),(233,Qlr),(234,QcR),(235,U7),(242,Qls),(259,Qlh),(267,Qlq),(280,Qlx),(293,Qk2),(302,Qlt),(305,Qk9),(308,Qlf),(309,Qk8),(312,QlP),(313,Qlu),(319,QlO),(323,QlD),(325,Qll)]
def tyOf:List (Nat × TI)->Tys
 |[],_=>none
 |p :: r,t=>if t=p.1 then some p.2 else tyOf r t
def tyB:Tys:=tyOf tyL
def ty3:tyB 3=some ti3:=rfl
def ty4:tyB 4=some ti4:=rfl
def ty5:tyB 5=some ti5:=rfl
def ty9:tyB 9=some ti9:=rfl
def ZF:tyB 22=some Qv:=rfl
def vJ:tyB 23=some yI:=rfl
def jm:tyB 25=some wY:=rfl
def Jj:tyB 26=some ZE:=rfl
def ty32:tyB 32=some ti32:=rfl
def XN:tyB 33=some YA:=rfl
def Qa:tyB 34=some xQ:=rfl
def ty59:tyB 59=some QaZ:=rfl
def Jp:tyB 63=some ZG:=rfl
def Vy:tyB 65=some JY:=rfl
def QfO:tyB 71=some RV:=rfl
def vS:tyB 76=some yG:=rfl
def QfJ:tyB 80=some K4:=rfl
def ZC:tyB 84=some Qz:=rfl
def jC:tyB 88=some je:=rfl
def ty90:tyB 90=some QeU:=rfl
def ty92:tyB 92=some Qib:=rfl
def ty99:tyB 99=some ti99:=rfl
def QM:tyB 141=some xW:=rfl
def ty150:tyB 150=some QdJ:=rfl
def WP:tyB 152=some QC:=rfl
def ty153:tyB 153=some QcQ:=rfl
def Qla:tyB 155=some La:=rfl
def Qlo:tyB 157=some LB:=rfl
def Qk6:tyB 159=some LF:=rfl
def ty167:tyB 167=some Qdy:=rfl
def UZ:tyB 182=some YU:=rfl
def QiR:tyB 224=some XX:=rfl
def QlF:tyB 226=some LW:=rfl
def Qlw:tyB 231=some UT:=rfl
def ty234:tyB 234=some QcR:=rfl
def Qk3:tyB 235=some U7:=rfl
def LQ:∀ {L:List (Nat × TI)} {t:Nat} {i:TI},tyOf L t=some i->(t,i) ∈ L
 |p :: r,t,i,h=>by
  simp only [tyOf] at h
  split at h
  ·rename_i ht;cases h;rw [ht];exact ba
  ·exact aZ _ (LQ h)
def Xe:wB prog tyB:=fun t i h=>by
 have h:=LQ h
 simp only [tyL,ah,aX,or_false,Prod.mk.injEq] at h
 rcases h with ⟨rfl,rfl⟩|⟨rfl,rfl⟩|⟨rfl,rfl⟩|⟨rfl,rfl⟩|⟨rfl,rfl⟩|⟨rfl,rfl⟩|⟨rfl,rfl⟩|⟨rfl,rfl⟩|⟨rfl,rfl⟩|⟨rfl,rfl⟩|⟨rfl,rfl⟩|⟨rfl,rfl⟩|⟨rfl,rfl⟩|⟨rfl,rfl⟩|⟨rfl,rfl⟩|⟨rfl,rfl⟩|⟨rfl,rfl⟩|⟨rfl,rfl⟩|⟨rfl,rfl⟩|⟨rfl,rfl⟩|⟨rfl,rfl⟩|⟨rfl,rfl⟩|⟨rfl,rfl⟩|⟨rfl,rfl⟩|⟨rfl,rfl⟩|⟨rfl,rfl⟩|⟨rfl,rfl⟩|⟨rfl,rfl⟩|⟨rfl,rfl⟩|⟨rfl,rfl⟩|⟨rfl,rfl⟩|⟨rfl,rfl⟩|⟨rfl,rfl⟩|⟨rfl,rfl⟩|⟨rfl,rfl⟩|⟨rfl,rfl⟩|⟨rfl,rfl⟩|⟨rfl,rfl⟩|⟨rfl,rfl⟩|⟨rfl,rfl⟩|⟨rfl,rfl⟩|⟨rfl,rfl⟩|⟨rfl,rfl⟩|⟨rfl,rfl⟩|⟨rfl,rfl⟩|⟨rfl,rfl⟩|⟨rfl,rfl⟩|⟨rfl,rfl⟩|⟨rfl,rfl⟩|⟨rfl,rfl⟩|⟨rfl,rfl⟩|⟨rfl,rfl⟩|⟨rfl,rfl⟩|⟨rfl,rfl⟩|⟨rfl,rfl⟩|⟨rfl,rfl⟩|⟨rfl,rfl⟩|⟨rfl,rfl⟩|⟨rfl,rfl⟩|⟨rfl,rfl⟩|⟨rfl,rfl⟩|⟨rfl,rfl⟩|⟨rfl,rfl⟩|⟨rfl,rfl⟩|⟨rfl,rfl⟩|⟨rfl,rfl⟩|⟨rfl,rfl⟩|⟨rfl,rfl⟩|⟨rfl,rfl⟩|⟨rfl,rfl⟩|⟨rfl,rfl⟩|⟨rfl,rfl⟩|⟨rfl,rfl⟩|⟨rfl,rfl⟩|⟨rfl,rfl⟩|⟨rfl,rfl⟩|⟨rfl,rfl⟩|⟨rfl,rfl⟩|⟨rfl,rfl⟩|⟨rfl,rfl⟩
 ·exact tf2
 ·exact tf3
 ·exact tf4
 ·exact tf5
 ·exact tf9
 ·exact tf20
 ·exact tf21
 ·exact tf22
 ·exact tf23
 ·exact tf25
 ·exact tf26
 ·exact tf28
 ·exact tf30
 ·exact tf32
 ·exact tf33
 ·exact tf34
 ·exact tf43
 ·exact tf44
 ·exact tf45
 ·exact tf47
 ·exact tf50
 ·exact tf59
 ·exact tf63
 ·exact tf65
 ·exact tf71
 ·exact tf76
 ·exact tf80
 ·exact tf81
 ·exact tf84
 ·exact tf88
 ·exact tf90
 ·exact tf92
 ·exact tf93
 ·exact tf99
 ·exact tf108
 ·exact tf110
 ·exact tf112
 ·exact tf129
 ·exact tf137
 ·exact tf141
 ·exact tf146
 ·exact tf150
 ·exact tf152
 ·exact tf153
 ·exact tf155
 ·exact tf157
 ·exact tf159
 ·exact tf167
 ·exact tf170
 ·exact tf172
 ·exact tf175
 ·exact tf182
 ·exact tf185
 ·exact tf188
 ·exact tf190
 ·exact tf191
 ·exact tf196
 ·exact tf206
 ·exact tf207
 ·exact tf217
 ·exact tf224
 ·exact tf226
 ·exact tf231
 ·exact tf233
 ·exact tf234
 ·exact tf235
 ·exact tf242
 ·exact tf259
 ·exact tf267
 ·exact tf280
 ·exact tf293
 ·exact tf302
 ·exact tf305
 ·exact tf308
 ·exact tf309
 ·exact tf312
 ·exact tf313
 ·exact tf319
 ·exact tf323
 ·exact tf325
end Go.Sym.B
namespace Go.Sym.C
def Bd (B:Nat) (q:Rat):Prop:=q.den ∣ 27720/\q.num<=B * q.den/\-(B * q.den:Int)<=q.num
def Bd.mono {B C:Nat} {q:Rat} (h:Bd B q) (hB:B<=C):Bd C q:=by
 obtain ⟨h1,h2,h3⟩:=h
 have h4:(B:Int) * q.den<=C * q.den:=by exact_mod_cast aM _ hB
 exact ⟨h1,by omega,by omega⟩
end Go.Sym.C
namespace Go.Sym.B
open Go Go.Sym Go.Proofs Go.Proofs.Tryz Go.Sym.C
structure Bunk where
 cab:Int
 bed:Int
deriving DecidableEq,Inhabited
structure Cabin where
 beds:Int
 door:Bool
deriving DecidableEq,Inhabited
structure Tk where
 party:Int
 sex:Int
 cab:Int
 bed:Int
 frm:Int
 to:Int
 dog:Bool
deriving DecidableEq,Inhabited
structure Tr where
 ticket:Int
 cab:Int
 bed:Int
deriving DecidableEq,Inhabited
structure Chart where
 cabins:List Cabin
 secs:Int
 sold:List Tk
deriving DecidableEq,Inhabited
structure Ask where
 party:Int
 frm:Int
 to:Int
 sexes:List Int
 dog:Bool
deriving DecidableEq,Inhabited
def Tk.bunk (t:Tk):Bunk:=⟨t.cab,t.bed⟩
def dI:DV->Int
 |.v (.int _ n)=>n
 |_=>0
def dB:DV->Bool
 |.v (.bool b)=>b
 |_=>false
def dL:DV->List (List DV)
 |.sl xs=>xs
 |_=>[]
def zL (n:Int):List DV:=[.v (.int .i64 n)]
def qK (b:Bunk):List DV:=[.v (.int .i64 b.cab),.v (.int .i64 b.bed)]
def qx (c:Cabin):List DV:=[.v (.int .i64 c.beds),.v (.bool c.door)]
def eTk (t:Tk):List DV:=[.v (.int .i64 t.party),.v (.int .i64 t.sex),.v (.int .i64 t.cab),.v (.int .i64 t.bed),.v (.int .i64 t.frm),.v (.int .i64 t.to),.v (.bool t.dog)]
def eTr (t:Tr):List DV:=[.v (.int .i64 t.ticket),.v (.int .i64 t.cab),.v (.int .i64 t.bed)]
def Xf (c:Chart):List DV:=[.sl (c.cabins.map qx),.v (.int .i64 c.secs),.sl (c.sold.map eTk)]
def zM (l:List Bunk):List DV:=[.sl (l.map qK)]
def zI (r:List DV):Int:=dI (r.headD (.sl []))
def zO:List DV->Bunk
 |[a,b]=>⟨dI a,dI b⟩
 |_=>default
def qh:List DV->Cabin
 |[a,b]=>⟨dI a,dB b⟩
 |_=>default
def dTk:List DV->Tk
 |[a,b,c,d,e,f,g]=>⟨dI a,dI b,dI c,dI d,dI e,dI f,dB g⟩
 |_=>default
def dTr:List DV->Tr
 |[a,b,c]=>⟨dI a,dI b,dI c⟩
 |_=>default
def ZR:List DV->List Bunk
 |[a]=>(dL a).map zO
 |_=>[]
def Qmy (n:Int):zI (zL n)=n:=rfl
def Qjg (b:Bunk):zO (qK b)=b:=rfl
def QgD (b:Cabin):qh (qx b)=b:=rfl
def Qlc (b:Tk):dTk (eTk b)=b:=rfl
def dTr_e (b:Tr):dTr (eTr b)=b:=rfl
def Ju (l:List Int):(l.map zL).map zI=l:=by simp [Function.comp_def,Qmy]
def Zz (l:List Bunk):(l.map qK).map zO=l:=by simp [Function.comp_def,Qjg]
def qC (l:List Cabin):(l.map qx).map qh=l:=by simp [Function.comp_def,QgD]
def mTk (l:List Tk):(l.map eTk).map dTk=l:=by simp [Function.comp_def,Qlc]
def mTr (l:List Tr):(l.map eTr).map dTr=l:=by simp [Function.comp_def,dTr_e]
def Qhj (l:List Bunk):ZR (zM l)=l:=Zz l
def Qb9 (l:List (List Bunk)):(l.map zM).map ZR=l:=by simp [Function.comp_def,Qhj]
def QeB (l:List (Int)) (n:Nat):(l.map zL).getD n [.v (.int .i64 0)]=zL (l.getD n 0):=QI zL l n 0
def QiJ (l:List (Int)):zu 1 (l.map zL)=True:=yo (f:=zL) (k:=1) (fun _=>rfl) l
def wy (l:List (Bunk)) (n:Nat):(l.map qK).getD n [.v (.int .i64 0),.v (.int .i64 0)]=qK (l.getD n default):=QI qK l n default
def hBunk {l:List (Bunk)} {n:Nat} (h:n < l.length):(l.map qK).getD n []=qK (l.getD n default):=by simp [ai,h]
def UY (l:List (Bunk)):zu 2 (l.map qK)=True:=yo (f:=qK) (k:=2) (fun _=>rfl) l
def zX (l:List (Cabin)) (n:Nat):(l.map qx).getD n [.v (.int .i64 0),.v (.bool false)]=qx (l.getD n default):=QI qx l n default
def Qa3 {l:List (Cabin)} {n:Nat} (h:n < l.length):(l.map qx).getD n []=qx (l.getD n default):=by simp [ai,h]
def wP (l:List (Cabin)):zu 2 (l.map qx)=True:=yo (f:=qx) (k:=2) (fun _=>rfl) l
def gTk (l:List (Tk)) (n:Nat):(l.map eTk).getD n [.v (.int .i64 0),.v (.int .i64 0),.v (.int .i64 0),.v (.int .i64 0),.v (.int .i64 0),.v (.int .i64 0),.v (.bool false)]=eTk (l.getD n default):=QI eTk l n default
def hTk {l:List (Tk)} {n:Nat} (h:n < l.length):(l.map eTk).getD n []=eTk (l.getD n default):=by simp [ai,h]
def rTk (l:List (Tk)):zu 7 (l.map eTk)=True:=yo (f:=eTk) (k:=7) (fun _=>rfl) l
def gTr (l:List (Tr)) (n:Nat):(l.map eTr).getD n [.v (.int .i64 0),.v (.int .i64 0),.v (.int .i64 0)]=eTr (l.getD n default):=QI eTr l n default
def rTr (l:List (Tr)):zu 3 (l.map eTr)=True:=yo (f:=eTr) (k:=3) (fun _=>rfl) l
def Qgu {l:List (List Bunk)} {n:Nat} (h:n < l.length):(l.map zM).getD n []=zM (l.getD n []):=by simp [ai,h]
def Qm0 (l:List (List Bunk)):zu 1 (l.map zM)=True:=yo (f:=zM) (k:=1) (fun _=>rfl) l
def QmM {l:List (Chart)} {n:Nat} (h:n < l.length):(l.map Xf).getD n []=Xf (l.getD n default):=by simp [ai,h]
def aI (n:Int):AV:=.v (.int .i64 n)
def aB (b:Bool):AV:=.v (.bool b)
def qw (b:Bunk):AV:=.agg [.v (.int .i64 b.cab),.v (.int .i64 b.bed)]
def cTk (t:Tk):List AV:=[.v (.int .i64 t.party),.v (.int .i64 t.sex),.v (.int .i64 t.cab),.v (.int .i64 t.bed),.v (.int .i64 t.frm),.v (.int .i64 t.to),.v (.bool t.dog)]
def aTk (t:Tk):AV:=.agg (cTk t)
def qo (a:Ask):List AV:=[.v (.int .i64 a.party),.v (.int .i64 a.frm),.v (.int .i64 a.to),.sl (a.sexes.map zL),.v (.bool a.dog)]
def zl (a:Ask):AV:=.agg (qo a)
def qa (c:Chart):List AV:=[.sl (c.cabins.map qx),.v (.int .i64 c.secs),.sl (c.sold.map eTk)]
def qd (c:Chart):AV:=.agg (qa c)
def qz (l:List Int):AV:=.sl (l.map zL)
def qc (l:List Bunk):AV:=.sl (l.map qK)
def qy (l:List Tk):AV:=.sl (l.map eTk)
def zF (l:List Cabin):AV:=.sl (l.map qx)
def yn (l:List Tr):AV:=.sl (l.map eTr)
def Fn0 {fn:Func} {c:Code} {f:FuncId} (hf:prog.funcs[f]?=some fn) (hb:fn.body=some c) (he:∀ vs w,(callFunc f vs).run prog w=.ok (.enter f vs) w) (hd:vN fn.ntmps c=true):FnData prog tyB f fn c:=⟨Xe,hf,hb,he,hd⟩
def qA {L:List (FuncId × Entry)} {A:Frm->Prop} (h:VZ A prog L):Env A prog tyB (tab L):=⟨Xe,QiA h,by kernel_rfl⟩
def z0 {a b:Int} (h:-9223372036854775808<=a+b/\a+b < 9223372036854775808):IntKind.wrap .i64 (a+b)=a+b:=wrap64 h.1 h.2
def inB (n lo hi:Int):Bool:=decide (lo<=n) && decide (n<=hi)
def jc {n lo hi:Int}:inB n lo hi=true ↔ lo<=n/\n<=hi:=by simp [inB]
def zG (n a b:Int):Int:=if n < a then 7 else if b < n then 6 else 0
def jy:List Int->Int
 |[]=>0
 |e :: r=>if e=0 then jy r else e
def xC {l:List Int} {k:Nat} (h:∀ j,j < k->l.getD j 0=0) (hk:k < l.length) (he:l.getD k 0 ≠ 0):jy l=l.getD k 0:=by
 induction l generalizing k with
 |nil=>simp at hk
 |cons e r ih =>
  cases k with
  |zero=>rw [jy,if_neg (by simpa using he)];rfl
  |succ k =>
   rw [jy,if_pos (by simpa using h 0 (by omega))]
   have:=ih (k:=k) (fun j hj=>by simpa using h (j+1) (by omega)) (by simpa using hk) (by simpa using he)
   rw [this];rfl
def yU {l:List Int} (h:∀ j,j < l.length->l.getD j 0=0):jy l=0:=by
 induction l with
 |nil=>rfl
 |cons e r ih =>
  rw [jy,if_pos (by simpa using h 0 (by simp))]
  exact ih fun j hj=>by simpa using h (j+1) (by simpa using hj)
def Qh {l:List Int} (h:jy l=0):∀ e ∈ l,e=0:=by
 induction l with
 |nil=>simp
 |cons e r ih =>
  rw [jy] at h
  split at h
  ·rename_i h0
   intro x hx
   rcases ah.1 hx with rfl|hx
   ·exact h0
   ·exact ih h x hx
  ·rename_i h0;exact absurd h h0
def xL (a b:Tk):Bool:=decide (a.frm < b.to) && decide (b.frm < a.to)
def QQ (a b:Tk):Bool:=decide (a.party=b.party) || decide (a.cab ≠ b.cab) || !xL a b || (decide (a.sex=b.sex) && !a.dog && !b.dog)
def Qc (secs frm to:Int):Int:=if frm < 0\/to<=frm\/secs < to then 5 else 0
def Qw (t x:Tk):Bool:=decide (x.cab=t.cab) && decide (x.bed=t.bed) && xL x t
def wE (t:Tk) (l:List Tk):Int:=if l.any (Qw t) then 4 else if l.any (fun x=>!QQ x t) then 9 else 0
def yx (cs:List Cabin) (cab bed:Int):Bool:=inB cab 0 ((cs.length:Int) - 1) && inB bed 0 ((cs.getD cab.toNat default).beds - 1)
def zg (c:Chart) (t:Tk) (l:List Tk):Int :=
 if !inB t.party 1 99 then 1 else if !inB t.sex 1 2 then 8 else if !yx c.cabins t.cab t.bed then 3 else if Qc c.secs t.frm t.to ≠ 0 then Qc c.secs t.frm t.to else wE t l
def vT (x:Cabin):Int:=if !inB x.beds 1 3 then 1 else 0
def QY (c:Chart):Int :=
 if zG c.cabins.length 1 3 ≠ 0 then zG c.cabins.length 1 3 else if jy (c.cabins.map vT) ≠ 0 then jy (c.cabins.map vT) else if !inB c.secs 1 5 then 1 else zG c.sold.length 0 8
def jD (c:Chart) (l:List Tk):Int:=jy ((List.range l.length).map fun i=>zg c (l.getD i default) (l.take i))
def zt (c:Chart):Int:=if QY c ≠ 0 then QY c else jD c c.sold
structure CarOk (c:Chart):Prop where
 cabs:1<=c.cabins.length/\c.cabins.length<=3
 beds:∀ x ∈ c.cabins,1<=x.beds/\x.beds<=3
 secs:1<=c.secs/\c.secs<=5
def Qdc {c:Chart} (h:QY c=0):CarOk c/\c.sold.length<=8:=by
 unfold QY at h
 split at h
 ·exact absurd h ‹_›
 rename_i h1
 split at h
 ·exact absurd h ‹_›
 rename_i h2
 split at h
 ·exact absurd h (by decide)
 rename_i h3
 have h1:=Decidable.not_not.1 h1
 have h2:=Decidable.not_not.1 h2
 have h3:inB c.secs 1 5=true:=by simpa using h3
 unfold zG at h1 h
 refine ⟨⟨?_,fun x hx=>?_,jc.1 h3⟩, ?_⟩
 ·split at h1
  ·exact absurd h1 (by decide)
  ·split at h1
   ·exact absurd h1 (by decide)
   ·omega
 ·have:=Qh h2 _ (ap.2 ⟨x,hx,rfl⟩)
  unfold vT at this
  split at this
  ·exact absurd this (by decide)
  ·rename_i h4
   exact jc.1 (by simpa using h4)
 ·split at h
  ·exact absurd h (by decide)
  ·split at h
   ·exact absurd h (by decide)
   ·omega
structure TkOk (c:Chart) (t:Tk):Prop where
 party:1<=t.party/\t.party<=99
 sex:1<=t.sex/\t.sex<=2
 cab:0<=t.cab/\t.cab.toNat < c.cabins.length
 bed:0<=t.bed/\t.bed < (c.cabins.getD t.cab.toNat default).beds
 frm:0<=t.frm
 way:t.frm < t.to
 to:t.to<=c.secs
def R9 {s a b:Int} (h:Qc s a b=0):0<=a/\a < b/\b<=s:=by
 unfold Qc at h
 split at h
 ·exact absurd h (by decide)
 ·omega
def Qev {cs:List Cabin} {a b:Int} (h:yx cs a b=true):0<=a/\a.toNat < cs.length/\0<=b/\b < (cs.getD a.toNat default).beds:=by
 unfold yx at h
 rw [bz,jc,jc] at h
 omega
def Qa5 {c:Chart} {t:Tk} {l:List Tk} (h:zg c t l=0):TkOk c t/\wE t l=0:=by
 unfold zg at h
 split at h
 ·exact absurd h (by decide)
 rename_i h1
 split at h
 ·exact absurd h (by decide)
 rename_i h2
 split at h
 ·exact absurd h (by decide)
 rename_i h3
 split at h
 ·exact absurd h ‹_›
 rename_i h4
 have nf:∀ {p:Bool},¬ (!p)=true->p=true:=fun h=>by simpa using h
 have g1:=jc.1 (nf h1)
 have g2:=jc.1 (nf h2)
 obtain ⟨g3,g4,g5,g6⟩:=Qev (nf h3)
 obtain ⟨g7,g8,g9⟩:=R9 (Decidable.not_not.1 h4)
 exact ⟨⟨g1,g2,⟨g3,g4⟩,⟨g5,g6⟩,g7,g8,g9⟩,h⟩
def vG {Z:Type} {l:List Z} {k:Nat} {d:Z} (h:k < l.length):l.getD k d ∈ l:=by
 rw [ai,ak h];exact bE h
def QbN {c:Chart} {l:List Tk} (h:jD c l=0):∀ i,i < l.length->TkOk c (l.getD i default)/\wE (l.getD i default) (l.take i)=0:=fun i hi =>
 Qa5 (Qh h _ (ap.2 ⟨i,aY.2 hi,rfl⟩))
structure Val (c:Chart):Prop where
 car:CarOk c
 many:c.sold.length<=8
 tk:∀ t ∈ c.sold,TkOk c t
def Ze {c:Chart} (h:zt c=0):Val c:=by
 unfold zt at h
 split at h
 ·exact absurd h ‹_›
 rename_i h1
 obtain ⟨g1,g2⟩:=Qdc (Decidable.not_not.1 h1)
 refine ⟨g1,g2,fun t ht=>?_⟩
 obtain ⟨i,hi,rfl⟩:=cu.1 ht
 have:=(QbN h i hi).1
 rwa [show c.sold.getD i default=c.sold[i] by simp [ai,hi]] at this
def qZ (cs:List Cabin):List Bunk:=(List.range cs.length).flatMap fun i=>(List.range (cs.getD i default).beds.toNat).map fun (k:Nat)=>⟨(i:Int),(k:Int)⟩
def Kr (cs:List Cabin) (l:List Bunk):Bool :=
 let lo:=l.foldl (fun m b=>min m b.cab) (l.getD 0 default).cab
 let hi:=l.foldl (fun m b=>max m b.cab) (l.getD 0 default).cab
 decide (lo=hi) || (decide (lo+1=hi) && (cs.getD lo.toNat default).door)
def WM (a:Ask) (i:Nat) (b:Bunk):Tk:=⟨a.party,a.sexes.getD i 0,b.cab,b.bed,a.frm,a.to,a.dog⟩
def goB (cs:List Cabin) (a:Ask) (sold:List Tk) (begun:List Bunk) (b:Bunk):Bool:=!begun.contains b && Kr cs (begun++[b]) && decide (wE (WM a begun.length b) sold=0)
def atB (s:Int) (t:Tk):Bool:=decide (t.frm<=s) && decide (s < t.to)
def YE (sold:List Tk) (s i:Int):Bool:=sold.all fun t=>!(atB s t && decide (t.cab=i))
def Zx (cs:List Cabin) (secs:Int) (sold:List Tk):Int:=(((List.range secs.toNat).flatMap fun (s:Nat)=>(List.range cs.length).filter fun (i:Nat)=>YE sold s i).length:Int)
def Q9 (c:Chart) (a:Ask):Int :=
 if !inB a.party 1 99 then 1 else if c.sold.any (fun t=>decide (t.party=a.party)) then 4 else if Qc c.secs a.frm a.to ≠ 0 then Qc c.secs a.frm a.to else if zG a.sexes.length 1 3 ≠ 0 then zG a.sexes.length 1 3 else
 jy (a.sexes.map fun s=>if !inB s 1 2 then 8 else 0)
def wz (c:Chart) (a:Ask):Int:=if zt c ≠ 0 then zt c else Q9 c a
def Qi6:=jv @ty3 @ti3.eq_1
def Z7:=jv @aI.eq_1 (@aB.eq_1)
def in_fn (n a b:Int):FnV prog 146 [aI n,aI a,aI b] (aB (inB n a b)):=by
 have env:Env (fun _=>True) prog tyB (tab []):=qA trivial
 refine Fn.of (A:=fun _=>True) (n0:=0) (D:=noD) (Fn0 func146 rfl (fun vs w=>by kernel_rfl) (by kernel_rfl)) (by simp) (by simp [AV.ids,aI]) (fun i o h=>by cases h) (fun _ _ _ _=>trivial) qX ?_
 repeat' first|(apply nx;with_reducible constructor)|refine jq (by decide) ?_|((first|refine jz env fun Q hQ=>?_|refine jk fun Q hQ=>?_);simp only [vkt,seval,Qi6,Z7];(try simp only [ite_and]);(repeat' (first|with_reducible assumption|refine dT ?_ ?_|intro hp));all_goals (first|(refine hQ _ ?_;clear hQ Q)|(refine hQ _ (fun h=>?_) (fun h=>?_) <;> clear hQ Q <;> (try simp only [vki,reduceCtorEq] at h))|(refine jx ?_;kernel_rfl)|omega|assumption|rfl|skip))
 all_goals (simp only [vrt,results146,vkt,seval,Z7];refine Fin.val rfl ?_;(try simp only [AV.le]))
 all_goals simp [inB, *]
def sin:List AV->Prop × AV
 |[.v (.int .i64 n),.v (.int .i64 a),.v (.int .i64 b)]=>(True,aB (inB n a b))
 |_=>(False,.junk)
def ein {A:Frm->Prop}:qm A prog 146 (zw true sin):=qL fun vs hv h=>by
 clear hv
 unfold sin at h ⊢
 split at h
 ·rename_i n a b;clear h
  refine ⟨by first|trivial|(repeat' split) <;> simp [AV.plain,AV.plainL,aI,aB,qz,qc,qy,qw,aTk,cTk],fun _=>(by simp [AV.flat,aB]), ?_⟩
  have:=in_fn n a b
  simp only [aI] at this
  first|exact this|(simp only [aI];exact this)
 ·exact h.elim
def Qfa:=jv @ty3 @ti3.eq_1
def Qjv (n a b:Int):FnV prog 152 [aI n,aI a,aI b] (aB (inB n a b)):=by
 have env:Env (fun _=>True) prog tyB (tab []):=qA trivial
 refine Fn.of (A:=fun _=>True) (n0:=0) (D:=noD) (Fn0 func152 rfl (fun vs w=>by kernel_rfl) (by kernel_rfl)) (by simp) (by simp [AV.ids,aI]) (fun i o h=>by cases h) (fun _ _ _ _=>trivial) qX ?_
 repeat' first|(apply nx;with_reducible constructor)|refine jq (by decide) ?_|((first|refine jz env fun Q hQ=>?_|refine jk fun Q hQ=>?_);simp only [vkt,seval,Qfa,Z7];(try simp only [ite_and]);(repeat' (first|with_reducible assumption|refine dT ?_ ?_|intro hp));all_goals (first|(refine hQ _ ?_;clear hQ Q)|(refine hQ _ (fun h=>?_) (fun h=>?_) <;> clear hQ Q <;> (try simp only [vki,reduceCtorEq] at h))|(refine jx ?_;kernel_rfl)|omega|assumption|rfl|skip))
 all_goals (simp only [vrt,results152,vkt,seval,Z7];refine Fin.val rfl ?_;(try simp only [AV.le]))
 all_goals simp [inB, *]
def QL:List AV->Prop × AV
 |[.v (.int .i64 n),.v (.int .i64 a),.v (.int .i64 b)]=>(True,aB (inB n a b))
 |_=>(False,.junk)
def QiX {A:Frm->Prop}:qm A prog 152 (zw true QL):=qL fun vs hv h=>by
 clear hv
 unfold QL at h ⊢
 split at h
 ·rename_i n a b;clear h
  refine ⟨by first|trivial|(repeat' split) <;> simp [AV.plain,AV.plainL,aI,aB,qz,qc,qy,qw,aTk,cTk],fun _=>(by simp [AV.flat,aB]), ?_⟩
  have:=Qjv n a b
  simp only [aI] at this
  first|exact this|(simp only [aI];exact this)
 ·exact h.elim
def RP:=jv @ty3 @ti3.eq_1
def QbV (n a b:Int):FnV prog 145 [aI n,aI a,aI b] (aI (zG n a b)):=by
 have env:Env (fun _=>True) prog tyB (tab []):=qA trivial
 refine Fn.of (A:=fun _=>True) (n0:=0) (D:=noD) (Fn0 func145 rfl (fun vs w=>by kernel_rfl) (by kernel_rfl)) (by simp) (by simp [AV.ids,aI]) (fun i o h=>by cases h) (fun _ _ _ _=>trivial) qX ?_
 repeat' first|(apply nx;with_reducible constructor)|refine jq (by decide) ?_|((first|refine jz env fun Q hQ=>?_|refine jk fun Q hQ=>?_);simp only [vkt,seval,RP,Z7];(try simp only [ite_and]);(repeat' (first|with_reducible assumption|refine dT ?_ ?_|intro hp));all_goals (first|(refine hQ _ ?_;clear hQ Q)|(refine hQ _ (fun h=>?_) (fun h=>?_) <;> clear hQ Q <;> (try simp only [vki] at h))|(refine jx ?_;kernel_rfl)|omega|assumption|rfl|skip))
 all_goals (simp only [vrt,results145,vkt,seval,Z7];refine Fin.val rfl ?_;(try simp only [AV.le]))
 all_goals (unfold zG;simp [*])
 all_goals omega
def xJ:List AV->Prop × AV
 |[.v (.int .i64 n),.v (.int .i64 a),.v (.int .i64 b)]=>(True,aI (zG n a b))
 |_=>(False,.junk)
def Qap {A:Frm->Prop}:qm A prog 145 (zw true xJ):=qL fun vs hv h=>by
 clear hv
 unfold xJ at h ⊢
 split at h
 ·rename_i n a b;clear h
  refine ⟨by first|trivial|(repeat' split) <;> simp [AV.plain,AV.plainL,aI,aB,qz,qc,qy,qw,aTk,cTk],fun _=>(by simp [AV.flat,aI]), ?_⟩
  have:=QbV n a b
  simp only [aI] at this
  first|exact this|(simp only [aI];exact this)
 ·exact h.elim
def QfA:=jv @ty3 (jv @jC (jv @ti3.eq_1 @je.eq_1))
def Qja (a b:Tk):FnV prog 183 [aTk a,aTk b] (aB (xL a b)):=by
 have env:Env (fun _=>True) prog tyB (tab []):=qA trivial
 refine Fn.of (A:=fun _=>True) (n0:=0) (D:=noD) (Fn0 func183 rfl (fun vs w=>by kernel_rfl) (by kernel_rfl)) (by simp) (by simp [AV.ids,AV.idsL,aTk,cTk]) (fun i o h=>by cases h) (fun _ _ _ _=>trivial) qX ?_
 repeat' first|(apply nx;with_reducible constructor)|refine jq (by decide) ?_|((first|refine jz env fun Q hQ=>?_|refine jk fun Q hQ=>?_);simp only [vkt,seval,QfA,aTk,cTk];(try simp only [ite_and]);(repeat' (first|with_reducible assumption|refine dT ?_ ?_|intro hp));all_goals (first|(refine hQ _ ?_;clear hQ Q)|(refine hQ _ (fun h=>?_) (fun h=>?_) <;> clear hQ Q <;> (try simp only [vki,reduceCtorEq] at h))|(refine jx ?_;kernel_rfl)|omega|assumption|rfl|skip))
 all_goals (simp only [vrt,results183,vkt,seval,Z7];refine Fin.val rfl ?_;(try simp only [AV.le]))
 all_goals simp [xL, *]
def X5:List AV->Prop × AV
 |[.agg [.v (.int .i64 a0),.v (.int .i64 a1),.v (.int .i64 a2),.v (.int .i64 a3),.v (.int .i64 a4),.v (.int .i64 a5),.v (.bool a6)],.agg [.v (.int .i64 b0),.v (.int .i64 b1),.v (.int .i64 b2),.v (.int .i64 b3),.v (.int .i64 b4),.v (.int .i64 b5),.v (.bool b6)]]=>(True,aB (xL (⟨a0,a1,a2,a3,a4,a5,a6⟩:Tk) (⟨b0,b1,b2,b3,b4,b5,b6⟩:Tk)))
 |_=>(False,.junk)
def Qln {A:Frm->Prop}:qm A prog 183 (zw true X5):=qL fun vs hv h=>by
 clear hv
 unfold X5 at h ⊢
 split at h
 ·rename_i a0 a1 a2 a3 a4 a5 a6 b0 b1 b2 b3 b4 b5 b6;clear h
  refine ⟨by first|trivial|(repeat' split) <;> simp [AV.plain,AV.plainL,aI,aB,qz,qc,qy,qw,aTk,cTk],fun _=>(by simp [AV.flat,aB]), ?_⟩
  have:=Qja (⟨a0,a1,a2,a3,a4,a5,a6⟩:Tk) (⟨b0,b1,b2,b3,b4,b5,b6⟩:Tk)
  simp only [aB,aTk,cTk] at this
  first|exact this|(simp only [aB,aI,aTk,cTk];exact this)
 ·exact h.elim
def Qcw:=jv @ty3 (jv @jC (jv @ti3.eq_1 @je.eq_1))
def QhY (a b:Tk):FnV prog 194 [aTk a,aTk b] (aB (xL a b)):=by
 have env:Env (fun _=>True) prog tyB (tab []):=qA trivial
 refine Fn.of (A:=fun _=>True) (n0:=0) (D:=noD) (Fn0 func194 rfl (fun vs w=>by kernel_rfl) (by kernel_rfl)) (by simp) (by simp [AV.ids,AV.idsL,aTk,cTk]) (fun i o h=>by cases h) (fun _ _ _ _=>trivial) qX ?_
 repeat' first|(apply nx;with_reducible constructor)|refine jq (by decide) ?_|((first|refine jz env fun Q hQ=>?_|refine jk fun Q hQ=>?_);simp only [vkt,seval,Qcw,aTk,cTk];(try simp only [ite_and]);(repeat' (first|with_reducible assumption|refine dT ?_ ?_|intro hp));all_goals (first|(refine hQ _ ?_;clear hQ Q)|(refine hQ _ (fun h=>?_) (fun h=>?_) <;> clear hQ Q <;> (try simp only [vki,reduceCtorEq] at h))|(refine jx ?_;kernel_rfl)|omega|assumption|rfl|skip))
 all_goals (simp only [vrt,results194,vkt,seval,Z7];refine Fin.val rfl ?_;(try simp only [AV.le]))
 all_goals simp [xL, *]
def Yr:List AV->Prop × AV
 |[.agg [.v (.int .i64 a0),.v (.int .i64 a1),.v (.int .i64 a2),.v (.int .i64 a3),.v (.int .i64 a4),.v (.int .i64 a5),.v (.bool a6)],.agg [.v (.int .i64 b0),.v (.int .i64 b1),.v (.int .i64 b2),.v (.int .i64 b3),.v (.int .i64 b4),.v (.int .i64 b5),.v (.bool b6)]]=>(True,aB (xL (⟨a0,a1,a2,a3,a4,a5,a6⟩:Tk) (⟨b0,b1,b2,b3,b4,b5,b6⟩:Tk)))
 |_=>(False,.junk)
def QhH {A:Frm->Prop}:qm A prog 194 (zw true Yr):=qL fun vs hv h=>by
 clear hv
 unfold Yr at h ⊢
 split at h
 ·rename_i a0 a1 a2 a3 a4 a5 a6 b0 b1 b2 b3 b4 b5 b6;clear h
  refine ⟨by first|trivial|(repeat' split) <;> simp [AV.plain,AV.plainL,aI,aB,qz,qc,qy,qw,aTk,cTk],fun _=>(by simp [AV.flat,aB]), ?_⟩
  have:=QhY (⟨a0,a1,a2,a3,a4,a5,a6⟩:Tk) (⟨b0,b1,b2,b3,b4,b5,b6⟩:Tk)
  simp only [aB,aTk,cTk] at this
  first|exact this|(simp only [aB,aI,aTk,cTk];exact this)
 ·exact h.elim
def QhX:=jv @ty3 (jv @ty4 (jv @vS (jv @jC (jv @ti3.eq_1 (jv @ti4.eq_1 (jv @yG.eq_1 @je.eq_1))))))
def Rh:=jv @aI.eq_1 (@aB.eq_1)
def Qmc (a b:Tk):FnV prog 185 [aTk a,aTk b] (aB (QQ a b)):=by
 have env:Env (fun _=>True) prog tyB (tab [(183,zw true X5)]):=qA ⟨Qln,trivial⟩
 refine Fn.of (A:=fun _=>True) (n0:=0) (D:=noD) (Fn0 func185 rfl (fun vs w=>by kernel_rfl) (by kernel_rfl)) (by simp) (by simp [AV.ids,AV.idsL,aTk,cTk]) (fun i o h=>by cases h) (fun _ _ _ _=>trivial) qX ?_
 have em:xL ⟨a.party,a.sex,a.cab,a.bed,a.frm,a.to,a.dog⟩ ⟨b.party,b.sex,b.cab,b.bed,b.frm,b.to,b.dog⟩=xL a b:=rfl
 repeat' first|(apply nx;with_reducible constructor)|refine jq (by decide) ?_|((first|refine jz env fun Q hQ=>?_|refine jk fun Q hQ=>?_);simp only [vkt,seval,QhX,Rh,aTk,cTk,X5,em];(try simp only [ite_and]);(repeat' (first|with_reducible assumption|refine dT ?_ ?_|intro hp));all_goals (first|(refine hQ _ ?_;clear hQ Q)|(refine hQ _ (fun h=>?_) (fun h=>?_) <;> clear hQ Q <;> (try simp only [vki,reduceCtorEq] at h))|(refine jx ?_;kernel_rfl)|omega|assumption|rfl|skip))
 all_goals (simp only [vrt,results185,vkt,seval,Rh];refine Fin.val rfl ?_;(try simp only [AV.le]))
 all_goals first|(simp [QQ, *];done)|(simp_all [QQ];done)
def stog:List AV->Prop × AV
 |[.agg [.v (.int .i64 a0),.v (.int .i64 a1),.v (.int .i64 a2),.v (.int .i64 a3),.v (.int .i64 a4),.v (.int .i64 a5),.v (.bool a6)],.agg [.v (.int .i64 b0),.v (.int .i64 b1),.v (.int .i64 b2),.v (.int .i64 b3),.v (.int .i64 b4),.v (.int .i64 b5),.v (.bool b6)]]=>(True,aB (QQ (⟨a0,a1,a2,a3,a4,a5,a6⟩:Tk) (⟨b0,b1,b2,b3,b4,b5,b6⟩:Tk)))
 |_=>(False,.junk)
def etog {A:Frm->Prop}:qm A prog 185 (zw true stog):=qL fun vs hv h=>by
 clear hv
 unfold stog at h ⊢
 split at h
 ·rename_i a0 a1 a2 a3 a4 a5 a6 b0 b1 b2 b3 b4 b5 b6;clear h
  refine ⟨by first|trivial|(repeat' split) <;> simp [AV.plain,AV.plainL,aI,aB,qz,qc,qy,qw,aTk,cTk],fun _=>(by simp [AV.flat,aB]), ?_⟩
  have:=Qmc (⟨a0,a1,a2,a3,a4,a5,a6⟩:Tk) (⟨b0,b1,b2,b3,b4,b5,b6⟩:Tk)
  simp only [aB,aTk,cTk] at this
  first|exact this|(simp only [aB,aI,aTk,cTk];exact this)
 ·exact h.elim
def Qes:=jv @ty3 (jv @ty4 (jv @vS (jv @jC (jv @ti3.eq_1 (jv @ti4.eq_1 (jv @yG.eq_1 @je.eq_1))))))
def Qkj (a b:Tk):FnV prog 195 [aTk a,aTk b] (aB (QQ a b)):=by
 have env:Env (fun _=>True) prog tyB (tab [(194,zw true Yr)]):=qA ⟨QhH,trivial⟩
 refine Fn.of (A:=fun _=>True) (n0:=0) (D:=noD) (Fn0 func195 rfl (fun vs w=>by kernel_rfl) (by kernel_rfl)) (by simp) (by simp [AV.ids,AV.idsL,aTk,cTk]) (fun i o h=>by cases h) (fun _ _ _ _=>trivial) qX ?_
 have em:xL ⟨a.party,a.sex,a.cab,a.bed,a.frm,a.to,a.dog⟩ ⟨b.party,b.sex,b.cab,b.bed,b.frm,b.to,b.dog⟩=xL a b:=rfl
 repeat' first|(apply nx;with_reducible constructor)|refine jq (by decide) ?_|((first|refine jz env fun Q hQ=>?_|refine jk fun Q hQ=>?_);simp only [vkt,seval,Qes,Rh,aTk,cTk,Yr,em];(try simp only [ite_and]);(repeat' (first|with_reducible assumption|refine dT ?_ ?_|intro hp));all_goals (first|(refine hQ _ ?_;clear hQ Q)|(refine hQ _ (fun h=>?_) (fun h=>?_) <;> clear hQ Q <;> (try simp only [vki,reduceCtorEq] at h))|(refine jx ?_;kernel_rfl)|omega|assumption|rfl|skip))
 all_goals (simp only [vrt,results195,vkt,seval,Rh];refine Fin.val rfl ?_;(try simp only [AV.le]))
 all_goals first|(simp [QQ, *];done)|(simp_all [QQ];done)
def Qdo:List AV->Prop × AV
 |[.agg [.v (.int .i64 a0),.v (.int .i64 a1),.v (.int .i64 a2),.v (.int .i64 a3),.v (.int .i64 a4),.v (.int .i64 a5),.v (.bool a6)],.agg [.v (.int .i64 b0),.v (.int .i64 b1),.v (.int .i64 b2),.v (.int .i64 b3),.v (.int .i64 b4),.v (.int .i64 b5),.v (.bool b6)]]=>(True,aB (QQ (⟨a0,a1,a2,a3,a4,a5,a6⟩:Tk) (⟨b0,b1,b2,b3,b4,b5,b6⟩:Tk)))
 |_=>(False,.junk)
def ertog {A:Frm->Prop}:qm A prog 195 (zw true Qdo):=qL fun vs hv h=>by
 clear hv
 unfold Qdo at h ⊢
 split at h
 ·rename_i a0 a1 a2 a3 a4 a5 a6 b0 b1 b2 b3 b4 b5 b6;clear h
  refine ⟨by first|trivial|(repeat' split) <;> simp [AV.plain,AV.plainL,aI,aB,qz,qc,qy,qw,aTk,cTk],fun _=>(by simp [AV.flat,aB]), ?_⟩
  have:=Qkj (⟨a0,a1,a2,a3,a4,a5,a6⟩:Tk) (⟨b0,b1,b2,b3,b4,b5,b6⟩:Tk)
  simp only [aB,aTk,cTk] at this
  first|exact this|(simp only [aB,aI,aTk,cTk];exact this)
 ·exact h.elim
def QhT:=jv @ty3 (jv @jm (jv @ti3.eq_1 @wY.eq_1))
def Uo:=jv @aI.eq_1 (@aB.eq_1)
def QmZ (c:Chart) (a b:Int):FnV prog 147 [qd c,aI a,aI b] (aI (Qc c.secs a b)):=by
 have env:Env (fun _=>True) prog tyB (tab []):=qA trivial
 refine Fn.of (A:=fun _=>True) (n0:=0) (D:=noD) (Fn0 func147 rfl (fun vs w=>by kernel_rfl) (by kernel_rfl)) (by simp) (by simp [AV.ids,AV.idsL,aI,qd,qa]) (fun i o h=>by cases h) (fun _ _ _ _=>trivial) qX ?_
 repeat' first|(apply nx;with_reducible constructor)|refine jq (by decide) ?_|((first|refine jz env fun Q hQ=>?_|refine jk fun Q hQ=>?_);simp only [vkt,seval,QhT,Uo,qd,qa];(try simp only [ite_and]);(repeat' (first|with_reducible assumption|refine dT ?_ ?_|intro hp));all_goals (first|(refine hQ _ ?_;clear hQ Q)|(refine hQ _ (fun h=>?_) (fun h=>?_) <;> clear hQ Q <;> (try simp only [vki,reduceCtorEq] at h))|(refine jx ?_;kernel_rfl)|omega|assumption|rfl|skip))
 all_goals (simp only [vrt,results147,vkt,seval,Uo];refine Fin.val rfl ?_;(try simp only [AV.le]))
 all_goals (unfold Qc;simp [*])
 all_goals omega
def QaK:List AV->Prop × AV
 |[.agg [.sl c0,.v (.int .i64 c1),.sl c2],.v (.int .i64 a),.v (.int .i64 b)]=>(c0=(c0.map qh).map qx/\c2=(c2.map dTk).map eTk,aI (Qc c1 a b))
 |_=>(False,.junk)
def eway {A:Frm->Prop}:qm A prog 147 (zw true QaK):=qL fun vs hv h=>by
 clear hv
 unfold QaK at h ⊢
 split at h
 ·rename_i c0 c1 c2 a b;obtain ⟨q0,q1⟩:=h
  refine ⟨by first|trivial|(repeat' split) <;> simp [AV.plain,AV.plainL,aI,aB,qz,qc,qy,qw,aTk,cTk],fun _=>(by simp [AV.flat,aI]), ?_⟩
  have:=QmZ ⟨c0.map qh,c1,c2.map dTk⟩ a b
  simp only [qd,aI,qa,<- q0,<- q1] at this
  first|exact this|(simp only [zF,qd,aI,qy,qa,<- q0,<- q1];exact this)
 ·exact h.elim
def Qff:=jv @ty3 (jv @jm (jv @ti3.eq_1 @wY.eq_1))
def QkA (c:Chart) (a b:Int):FnV prog 193 [qd c,aI a,aI b] (aI (Qc c.secs a b)):=by
 have env:Env (fun _=>True) prog tyB (tab []):=qA trivial
 refine Fn.of (A:=fun _=>True) (n0:=0) (D:=noD) (Fn0 func193 rfl (fun vs w=>by kernel_rfl) (by kernel_rfl)) (by simp) (by simp [AV.ids,AV.idsL,aI,qd,qa]) (fun i o h=>by cases h) (fun _ _ _ _=>trivial) qX ?_
 repeat' first|(apply nx;with_reducible constructor)|refine jq (by decide) ?_|((first|refine jz env fun Q hQ=>?_|refine jk fun Q hQ=>?_);simp only [vkt,seval,Qff,Uo,qd,qa];(try simp only [ite_and]);(repeat' (first|with_reducible assumption|refine dT ?_ ?_|intro hp));all_goals (first|(refine hQ _ ?_;clear hQ Q)|(refine hQ _ (fun h=>?_) (fun h=>?_) <;> clear hQ Q <;> (try simp only [vki,reduceCtorEq] at h))|(refine jx ?_;kernel_rfl)|omega|assumption|rfl|skip))
 all_goals (simp only [vrt,results193,vkt,seval,Uo];refine Fin.val rfl ?_;(try simp only [AV.le]))
 all_goals (unfold Qc;simp [*])
 all_goals omega
def Qda:List AV->Prop × AV
 |[.agg [.sl c0,.v (.int .i64 c1),.sl c2],.v (.int .i64 a),.v (.int .i64 b)]=>(c0=(c0.map qh).map qx/\c2=(c2.map dTk).map eTk,aI (Qc c1 a b))
 |_=>(False,.junk)
def erway {A:Frm->Prop}:qm A prog 193 (zw true Qda):=qL fun vs hv h=>by
 clear hv
 unfold Qda at h ⊢
 split at h
 ·rename_i c0 c1 c2 a b;obtain ⟨q0,q1⟩:=h
  refine ⟨by first|trivial|(repeat' split) <;> simp [AV.plain,AV.plainL,aI,aB,qz,qc,qy,qw,aTk,cTk],fun _=>(by simp [AV.flat,aI]), ?_⟩
  have:=QkA ⟨c0.map qh,c1,c2.map dTk⟩ a b
  simp only [qd,aI,qa,<- q0,<- q1] at this
  first|exact this|(simp only [zF,qd,aI,qy,qa,<- q0,<- q1];exact this)
 ·exact h.elim
def Qct {Z β:Type} (f:Z->List β) (d:β) (da:Z):∀ (l:List Z) (i k:Nat),i < l.length->k < (f (l.getD i da)).length->(l.flatMap f).getD (((l.take i).map fun a=>(f a).length).sum+k) d=(f (l.getD i da)).getD k d
 |[],i,_,h,_=>by simp at h
 |a :: l,0,k,_,hk=>by
  have hk:k < (f a).length:=hk
  rw [ca,dt,au,List.sum_nil,bf,ai,bv hk,<- ai]
  rfl
 |a :: l,i+1,k,h,hk=>by
  have ih:=Qct f d da l i k (by simpa using h) (by simpa using hk)
  rw [ca,cI,aj,cX,ai,bA (by omega),<- ai,show (f a).length+((l.take i).map fun a=>(f a).length).sum+k - (f a).length=((l.take i).map fun a=>(f a).length).sum+k by omega,ih]
  rfl
def Qit {Z β:Type} (f:Z->List β) (l:List Z):(l.flatMap f).length=(l.map fun a=>(f a).length).sum:=by
 rw [List.length_flatMap]
def JF {g:List Nat} {i:Nat} (h:i < g.length):(g.take (i+1)).sum=(g.take i).sum+g.getD i 0:=by
 rw [bQ h,List.sum_append]
 simp [ai,h]
def xF {g:List Nat}:∀ {i j:Nat},i<=j->(g.take i).sum<=(g.take j).sum:=by
 induction g with
 |nil=>simp
 |cons a g ih =>
  intro i j h
  cases i with
  |zero=>simp
  |succ i =>
   cases j with
   |zero=>omega
   |succ j =>
    simp only [cI,cX]
    have:=ih (show i<=j by omega)
    omega
def Lu:∀ (g:List Nat) (q:Nat),q < g.sum->∃ i,i < g.length/\(g.take i).sum<=q/\q < (g.take (i+1)).sum
 |[],q,h=>by simp at h
 |a :: g,q,h=>by
  rw [cX] at h
  by_cases h1:q < a
  ·exact ⟨0,by simp,by simp,by simpa using h1⟩
  ·obtain ⟨i,h2,h3,h4⟩:=Lu g (q - a) (by omega)
   refine ⟨i+1,by simpa using h2, ?_, ?_⟩
   ·rw [cI,cX];omega
   ·rw [cI,cX];omega
def xK (ans:Nat->Bool) (R:Nat):Bool:=decide (R=0) || ans (R - 1)
def nest (g:List Nat) {ans:Nat->Bool} {R:Nat} (h:Rounds ans R g.sum):∃ (RB:Nat) (ansB:Nat->Bool),Rounds ansB RB g.length /\
  (∀ i,i < RB->(g.take i).sum<=R/\Rounds (fun j=>ans ((g.take i).sum+j)) (min (g.getD i 0) (R - (g.take i).sum)) (g.getD i 0)/\ansB i=xK (fun j=>ans ((g.take i).sum+j)) (min (g.getD i 0) (R - (g.take i).sum)) /\
   min (g.take (i+1)).sum R=(g.take i).sum+min (g.getD i 0) (R - (g.take i).sum))/\min (g.take RB).sum R=R/\xK ans R=xK ansB RB:=by
 have hle:=h.le
 by_cases hB:0 < R/\ans (R - 1)=false
 ·obtain ⟨hR,hf⟩:=hB
  obtain ⟨i,hi,h1,h2⟩:=Lu g (R - 1) (by omega)
  refine ⟨i+1,fun k=>decide (k ≠ i),⟨hi,fun j hj=>by simp;omega,fun _=>⟨by omega,by simp⟩⟩,fun k hk=>?_,by omega, ?_⟩
  ·have hkl:k < g.length:=by omega
   have ho:=xF (g:=g) (show k<=i by omega)
   have hs:=JF hkl
   have hoR:(g.take k).sum<=R:=by omega
   refine ⟨hoR,⟨Nat.min_le_left _ _,fun j hj=>h.yes _ (by omega),fun hlt=>⟨by omega, ?_⟩⟩, ?_,by omega⟩
   ·show ans _=false
    rw [show (g.take k).sum+(min (g.getD k 0) (R - (g.take k).sum) - 1)=R - 1 by omega];exact hf
   ·by_cases hki:k=i
    ·subst hki
     have e:(g.take k).sum+(min (g.getD k 0) (R - (g.take k).sum) - 1)=R - 1:=by omega
     have e0:¬ min (g.getD k 0) (R - (g.take k).sum)=0:=by omega
     simp only [xK,e,hf,e0,ne_eq,not_true_eq_false,decide_false,Bool.or_self]
    ·have h3:=xF (g:=g) (show k+1<=i by omega)
     have e1:min (g.getD k 0) (R - (g.take k).sum)=g.getD k 0:=by omega
     rw [e1]
     by_cases h0:g.getD k 0=0
     ·simp [-List.getD_eq_getElem?_getD,xK,h0,hki]
     ·have:=h.yes ((g.take k).sum+(g.getD k 0 - 1)) (by omega)
      simp [-List.getD_eq_getElem?_getD,xK,h0,hki,this]
  ·simp [xK,hf,show ¬ R=0 by omega]
 ·have hRN:R=g.sum:=by
   refine Nat.le_antisymm hle (Nat.le_of_not_lt fun hlt=>?_)
   exact hB (h.stop hlt)
  have hall:∀ j,j < R->ans j=true:=fun j hj=>by
   by_cases hj1:j+1 < R
   ·exact h.yes j hj1
   ·have:j=R - 1:=by omega
    subst this
    cases ha:ans (R - 1) with
    |true=>rfl
    |false=>exact absurd ⟨by omega,ha⟩ hB
  have hfull:(g.take g.length).sum=g.sum:=by rw [bO]
  refine ⟨g.length,fun _=>true,⟨aw _,fun _ _=>rfl,fun h=>absurd h (du _)⟩,fun k hk=>?_,by omega, ?_⟩
  ·have hs:=JF hk
   have h3:=xF (g:=g) (show k+1<=g.length by omega)
   have e1:min (g.getD k 0) (R - (g.take k).sum)=g.getD k 0:=by omega
   refine ⟨by omega, ?_, ?_,by omega⟩
   ·rw [e1]
    exact ⟨aw _,fun j hj=>hall _ (by omega),fun h=>absurd h (du _)⟩
   ·rw [e1]
    by_cases h0:g.getD k 0=0
    ·simp [-List.getD_eq_getElem?_getD,xK,h0]
    ·simp [-List.getD_eq_getElem?_getD,xK,h0,hall ((g.take k).sum+(g.getD k 0 - 1)) (by omega)]
  ·by_cases h0:R=0
   ·simp [xK,h0]
   ·simp [xK,hall (R - 1) (by omega)]
def Zk (cs:List Cabin):List Nat:=cs.map fun x=>x.beds.toNat
def JI (cs:List Cabin):qZ cs=(List.range cs.length).flatMap fun i=>(List.range (cs.getD i default).beds.toNat).map fun (k:Nat)=>(⟨(i:Int),(k:Int)⟩:Bunk):=rfl
def Qan (cs:List Cabin) {i:Nat} (hi:i<=cs.length):(((List.range cs.length).take i).map fun (j:Nat)=>(List.map (fun (k:Nat)=>(⟨(j:Int),(k:Int)⟩:Bunk)) (List.range (cs.getD j default).beds.toNat)).length)=(Zk cs).take i:=by
 apply List.ext_getElem
 ·simp [Zk]
 ·intro n h1 h2
  simp only [ao,aR,dw] at h1
  have hn:n < cs.length:=by omega
  simp [Zk,ai,hn]
def Qd7 (cs:List Cabin):(qZ cs).length=(Zk cs).sum:=by
 rw [JI,Qit]
 have:=Qan cs (aw cs.length)
 rw [bF (by simp),bF (by simp [Zk])] at this
 rw [this]
def Qep {cs:List Cabin} {i k:Nat} (hi:i < cs.length) (hk:k < (cs.getD i default).beds.toNat):(qZ cs).getD (((Zk cs).take i).sum+k) default=⟨(i:Int),(k:Int)⟩:=by
 have hr:(List.range cs.length).getD i 0=i:=by simp [ai,hi]
 have:=Qct (fun i=>(List.range (cs.getD i default).beds.toNat).map fun (k:Nat)=>(⟨(i:Int),(k:Int)⟩:Bunk)) default 0 (List.range cs.length) i k (by simpa using hi) (by rw [hr];simpa using hk)
 rw [Qan cs (by omega),hr] at this
 rw [JI,this]
 generalize (cs.getD i default).beds.toNat=m at hk ⊢
 simp [ai,hk]
def Ll {cs:List Cabin} {b:Bunk}:b ∈ qZ cs ↔ ∃ i k:Nat,i < cs.length/\k < (cs.getD i default).beds.toNat/\b=⟨(i:Int),(k:Int)⟩:=by
 rw [JI,db]
 constructor
 ·rintro ⟨i,hi,hb⟩
  obtain ⟨k,hk,rfl⟩:=ap.1 hb
  exact ⟨i,k,aY.1 hi,aY.1 hk,rfl⟩
 ·rintro ⟨i,k,hi,hk,rfl⟩
  exact ⟨i,aY.2 hi,ap.2 ⟨k,aY.2 hk,rfl⟩⟩
def QkZ {cs:List Cabin} {i:Nat} (hi:i < cs.length):(Zk cs).getD i 0=(cs.getD i default).beds.toNat:=by
 simp [Zk,ai,hi]
def UR (p:Tk->Bool) (l:List Tk):Int:=match l.findIdx? p with
 |some i=>(i:Int)
 |none=>-1
def QgX {p:Tk->Bool} {l:List Tk} {k:Nat} (hk:k < l.length) (h:∀ j,j < k->p (l.getD j default)=false) (hp:p (l.getD k default)=true):UR p l=(k:Int):=by
 have:l.findIdx? p=some k:=by
  rw [dx]
  refine ⟨hk,by simpa [ai,hk] using hp,fun j hj=>?_⟩
  have:=h j hj
  simpa [ai,show j < l.length by omega] using this
 simp [UR,this]
def Qet {p:Tk->Bool} {l:List Tk} (h:∀ j,j < l.length->p (l.getD j default)=false):UR p l=-1:=by
 have:l.findIdx? p=none:=by
  rw [dy]
  intro x hx
  obtain ⟨j,hj,rfl⟩:=cu.1 hx
  have:=h j hj
  simpa [ai,hj] using this
 simp [UR,this]
def Qiv (p:Tk->Bool) (l:List Tk):decide (0<=UR p l)=l.any p:=by
 unfold UR
 cases h:l.findIdx? p with
 |none =>
  rw [dy] at h
  symm
  simpa using h
 |some i =>
  rw [dx] at h
  obtain ⟨hi,hp,_⟩:=h
  symm
  simp only [cJ,decide_true,bY]
  exact ⟨_,bE hi,hp⟩
structure PCs (cs:List AV):Prop where
 ids:AV.idsL cs=[]
 le:∀ h σ,AV.leL h σ cs cs=True
 ren:∀ τ,AV.renL τ cs=cs
def QhF (t:Tk):PCs (cTk t):=⟨by simp [cTk,AV.idsL,AV.ids],by simp [cTk,AV.leL,AV.le],by simp [cTk,AV.renL,AV.ren]⟩
def pTk (cs:List AV) (p:Tk->Bool) (S:St):List AV->Option Pk
 |[.agg [.v (.int .i64 a),.v (.int .i64 b),.v (.int .i64 c),.v (.int .i64 d),.v (.int .i64 e),.v (.int .i64 f),.v (.bool g)],.ptr t 0]=>match S.h t with
  |some (.cells cs')=>some { pre:=cs'=cs,hs:=[t],ar:=[.agg [.v (.int .i64 a),.v (.int .i64 b),.v (.int .i64 c),.v (.int .i64 d),.v (.int .i64 e),.v (.int .i64 f),.v (.bool g)],.ptr 0 0],L0:=[.cells cs],v:=aB (p ⟨a,b,c,d,e,f,g⟩),L1:=[some (.cells cs)] }
  |_=>none
 |_=>none
def Ji (cl:Nat) (cs:List AV) (p:Tk->Bool):Prop:=∀ x,Fn noB prog cl [aTk x,.ptr 0 0] (qb [(0,.cells cs)]) (aB (p x)) (qb [(0,.cells cs)]) 0
def eTkp {A:Frm->Prop} {cl:Nat} {cs:List AV} {p:Tk->Bool} (h0:Ji cl cs p):qm A prog cl (fnE (pTk cs p)):=zJ fun S bs q h hp=>by
 unfold pTk at h
 split at h
 ·split at h
  ·rename_i a b c d e f g t _ cs' _
   cases h
   exact h0 ⟨a,b,c,d,e,f,g⟩
  ·cases h
 ·cases h
def ixS (l:List Tk) (cl:Nat) (cs:List AV) (k:Nat):St:={ t:=asg [(0,qy l),(1,.clo cl [.ptr 0 0]),(4,aI 0),(6,qy l),(7,aI l.length),(8,aI k)],h:=qb [(0,.cells cs)],n:=1,m:=1 }
def Q8:=jv @ty3 (jv @vJ (jv @jC (jv @ti3.eq_1 (jv @yI.eq_1 @je.eq_1))))
def Jm:=jv @aI.eq_1 (jv @aB.eq_1 (@ixS.eq_1))
def Qiy {cl:Nat} {cs:List AV} {p:Tk->Bool} (hc:PCs cs) (h0:Ji cl cs p) (l:List Tk) (hl:l.length<=100):Fn noB prog 208 [qy l,.clo cl [.ptr 0 0]] (qb [(0,.cells cs)]) (aI (UR p l)) (qb [(0,.cells cs)]) 0:=by
 have env:=qA (A:=fun _=>True) (kC (eTkp h0) kN)
 obtain ⟨c1,c2,c4⟩:=hc
 refine Fn.of (A:=fun _=>True) (n0:=1) (D:=noD) (Fn0 func208 rfl (fun vs w=>by kernel_rfl) (by kernel_rfl)) (by simp) (by simp [AV.ids,AV.idsL,qy]) ?_ (fun _ _ _ _=>trivial) qX ?_
 ·intro i o hi
  have h:=qG hi
  simp at h;obtain ⟨rfl,rfl⟩:=h;simp [AObj.ids,c1]
 repeat' first|(apply nx;with_reducible constructor)|apply jq (by decide)|((first|apply jz env|apply jw);intro Q hQ;simp only [vkt,seval,Q8,qy,ite_and];(repeat' first|with_reducible assumption|apply jv|intro hp);all_goals first|(apply hQ;clear hQ Q)|(apply jx;kernel_rfl)|omega|assumption|rfl|skip)
 refine qN (fun k:{ k:Nat // k<=l.length/\∀ j,j < k->p (l.getD j default)=false }=>ixS l cl cs k.1) (fun k=>l.length - k.1) ⟨0,ag _,fun j h=>absurd h (bp _)⟩ ?_ fun ⟨k,hk,hno⟩=>?_
 ·(refine Le.ok some [] ?_;constructor;all_goals (try simp only [vle,vkt,seval,Jm,qy]))
  all_goals first|rfl|(simp [c1,c2];done)
 ·repeat' first|(apply nx;with_reducible constructor)|apply jq (by decide)
  (apply jz env;intro Q hQ;simp only [vkt,seval,Q8,Jm,qy,ite_and];(repeat' first|with_reducible assumption|apply jv|intro hp);all_goals first|(apply hQ;clear hQ Q)|(apply jx;kernel_rfl)|omega|assumption|rfl|skip)
  repeat' first|(apply nx;with_reducible constructor)|apply jq (by decide)
  (refine jE (by simp only [vkt,seval];rfl) (fun h=>?_) (fun h=>?_) <;> (try simp only [vki] at h))
  ·have hlt:k < l.length:=by omega
   have e9:=k9 k (by omega)
   obtain ⟨x,hx⟩:∃ x,l.getD k default=x:=⟨_,rfl⟩
   have ex:(⟨x.party,x.sex,x.cab,x.bed,x.frm,x.to,x.dog⟩:Tk)=x:=rfl
   cases hp:p x
   ·repeat' first|(apply nx;with_reducible constructor)|apply jq (by decide)|((first|apply jz env|apply jw);intro Q hQ;simp only [vkt,seval,Q8,Jm,eTk,gTk,pTk,hx,ex,hp,e9,c1,c2,c4,ite_and];(repeat' first|with_reducible assumption|apply jv|intro hp);all_goals first|(apply hQ;clear hQ Q)|(apply jx;kernel_rfl)|omega|assumption|rfl|skip)
    refine ⟨⟨k+1,hlt,fun j hj=>?_⟩,by show l.length - (k+1) < l.length - k;omega, ?_⟩
    ·rcases bq (bt hj) with h1|h1
     ·exact hno j h1
     ·rw [h1,hx];exact hp
    ·(refine Le.ok some [] ?_;constructor;all_goals (try simp only [vle,vkt,seval,Jm,qy]))
     all_goals first|rfl|(simp [c1,c2];done)
   ·have hh:=QgX hlt hno (by rw [hx];exact hp)
    rw [hh]
    repeat' first|(apply nx;with_reducible constructor)|apply jq (by decide)|((first|apply jz env|apply jw);intro Q hQ;simp only [vkt,seval,Q8,Jm,eTk,gTk,pTk,hx,ex,hp,c1,c2,c4,ite_and];(repeat' first|with_reducible assumption|apply jv|intro hp);all_goals first|(apply hQ;clear hQ Q)|(apply jx;kernel_rfl)|omega|assumption|rfl|skip)
    (simp only [vrt,results208,vkt,seval,Jm];refine Fin.ok some [] ?_ ?_ ?_ ?_ ?_ rfl;all_goals (try simp only [vle,vkt,seval]))
    all_goals first|rfl|(simp [c2];done)
  ·have hke:k=l.length:=by omega
   subst hke
   rw [Qet hno]
   repeat' first|(apply nx;with_reducible constructor)|apply jq (by decide)|((first|apply jz env|apply jw);intro Q hQ;simp only [vkt,seval,ite_and];(repeat' first|with_reducible assumption|apply jv|intro hp);all_goals first|(apply hQ;clear hQ Q)|(apply jx;kernel_rfl)|omega|assumption|rfl|skip)
   (simp only [vrt,results208,vkt,seval,Jm];refine Fin.ok some [] ?_ ?_ ?_ ?_ ?_ rfl;all_goals (try simp only [vle,vkt,seval]))
   all_goals first|rfl|(simp [c2];done)
def pIdx (cl:Nat) (cs:List AV) (p:Tk->Bool) (S:St):List AV->Option Pk
 |[.sl xs,.clo f [.ptr t 0]]=>match S.h t with
  |some (.cells cs')=>some { pre:=f=cl/\cs'=cs/\xs=(xs.map dTk).map eTk/\xs.length<=100,hs:=[t],ar:=[.sl xs,.clo cl [.ptr 0 0]],L0:=[.cells cs],v:=aI (UR p (xs.map dTk)),L1:=[some (.cells cs)] }
  |_=>none
 |_=>none
def eIdx {A:Frm->Prop} {cl:Nat} {cs:List AV} {p:Tk->Bool} (hc:PCs cs) (h0:Ji cl cs p):qm A prog 208 (fnE (pIdx cl cs p)):=zJ fun S bs q h hp=>by
 unfold pIdx at h
 split at h
 ·split at h
  ·cases h
   obtain ⟨_,_,h1,h2⟩:=hp
   have:=Qiy hc h0 (List.map dTk _) (by rw [ao];exact h2)
   rw [qy,<- h1] at this
   exact this
  ·cases h
 ·cases h
def Qd6:=jv @ty3 @ti3.eq_1
def Qf5:=jv @aI.eq_1 (@aB.eq_1)
def RZ {cl:Nat} {cs:List AV} {p:Tk->Bool} (hc:PCs cs) (h0:Ji cl cs p) (l:List Tk) (hl:l.length<=100):Fn noB prog 171 [qy l,.clo cl [.ptr 0 0]] (qb [(0,.cells cs)]) (aB (l.any p)) (qb [(0,.cells cs)]) 0:=by
 have env:=qA (A:=fun _=>True) (kC (eIdx hc h0) kN)
 obtain ⟨c1,c2,c4⟩:=hc
 refine Fn.of (A:=fun _=>True) (n0:=1) (D:=noD) (Fn0 func171 rfl (fun vs w=>by kernel_rfl) (by kernel_rfl)) (by simp) (by simp [AV.ids,AV.idsL,qy]) ?_ (fun _ _ _ _=>trivial) qX ?_
 ·intro i o hi
  have h:=qG hi
  simp at h;obtain ⟨rfl,rfl⟩:=h;simp [AObj.ids,c1]
 repeat' first|(apply nx;with_reducible constructor)|apply jq (by decide)|((first|apply jz env|apply jw);intro Q hQ;simp only [vkt,seval,Qd6,Qf5,qy,mTk,pIdx,c1,c2,c4,ite_and];(repeat' first|with_reducible assumption|apply jv|intro hp);all_goals first|(apply hQ;clear hQ Q)|(apply jx;kernel_rfl)|omega|assumption|rfl|skip)
 (simp only [vrt,results171,Qiv,vkt,seval,Qf5];refine Fin.ok some [] ?_ ?_ ?_ ?_ ?_ rfl;all_goals (try simp only [vle,vkt,seval]))
 all_goals first|rfl|(simp [c2];done)
def Qeg:=jv @vS (jv @jC (jv @yG.eq_1 @je.eq_1))
def UG:=jv @aI.eq_1 (@aB.eq_1)
def Qkb (t:Tk):Ji 182 (cTk t) (Qw t):=fun x=>by
 have env:Env (fun _=>True) prog tyB (tab [(183,zw true X5)]):=qA ⟨Qln,trivial⟩
 refine Fn.of (A:=fun _=>True) (n0:=1) (D:=noD) (Fn0 func182 rfl (fun vs w=>by kernel_rfl) (by kernel_rfl)) (by simp) (by simp [AV.ids,AV.idsL,aTk,cTk]) ?_ (fun _ _ _ _=>trivial) qX ?_
 ·intro i o hi
  have h:=qG hi
  simp at h;obtain ⟨rfl,rfl⟩:=h;simp [cTk,AObj.ids,AV.ids,AV.idsL]
 have em:xL ⟨x.party,x.sex,x.cab,x.bed,x.frm,x.to,x.dog⟩ ⟨t.party,t.sex,t.cab,t.bed,t.frm,t.to,t.dog⟩=xL x t:=rfl
 repeat' first|(apply nx;with_reducible constructor)|refine jq (by decide) ?_|((first|refine jz env fun Q hQ=>?_|refine jk fun Q hQ=>?_);simp only [vkt,seval,Qeg,UG,aTk,cTk,X5,em];(try simp only [ite_and]);(repeat' (first|with_reducible assumption|refine dT ?_ ?_|intro hp));all_goals (first|(refine hQ _ ?_;clear hQ Q)|(refine hQ _ (fun h=>?_) (fun h=>?_) <;> clear hQ Q <;> (try simp only [vki,reduceCtorEq] at h))|(refine jx ?_;kernel_rfl)|omega|assumption|rfl|skip))
 all_goals (simp only [vrt,results182,vkt,seval,UG,cTk];refine Fin.ok some [] ?_ ?_ ?_ ?_ ?_ rfl;all_goals (try simp only [vle,vkt,seval]))
 all_goals first|rfl|(simp [Qw, *];done)|(simp_all [Qw];done)
def Qey:=jv @jC @je.eq_1
def Qj8 (t:Tk):Ji 184 (cTk t) (fun x=>!QQ x t):=fun x=>by
 have env:Env (fun _=>True) prog tyB (tab [(185,zw true stog)]):=qA ⟨etog,trivial⟩
 refine Fn.of (A:=fun _=>True) (n0:=1) (D:=noD) (Fn0 func184 rfl (fun vs w=>by kernel_rfl) (by kernel_rfl)) (by simp) (by simp [AV.ids,AV.idsL,aTk,cTk]) ?_ (fun _ _ _ _=>trivial) qX ?_
 ·intro i o hi
  have h:=qG hi
  simp at h;obtain ⟨rfl,rfl⟩:=h;simp [cTk,AObj.ids,AV.ids,AV.idsL]
 have em:QQ ⟨x.party,x.sex,x.cab,x.bed,x.frm,x.to,x.dog⟩ ⟨t.party,t.sex,t.cab,t.bed,t.frm,t.to,t.dog⟩=QQ x t:=rfl
 repeat' first|(apply nx;with_reducible constructor)|refine jq (by decide) ?_|((first|refine jz env fun Q hQ=>?_|refine jk fun Q hQ=>?_);simp only [vkt,seval,Qey,UG,aTk,cTk,stog,em];(try simp only [ite_and]);(repeat' (first|with_reducible assumption|refine dT ?_ ?_|intro hp));all_goals (first|(refine hQ _ ?_;clear hQ Q)|(refine hQ _ (fun h=>?_) (fun h=>?_) <;> clear hQ Q <;> (try simp only [vki,reduceCtorEq] at h))|(refine jx ?_;kernel_rfl)|omega|assumption|rfl|skip))
 all_goals (simp only [vrt,results184,vkt,seval,UG,cTk];refine Fin.ok some [] ?_ ?_ ?_ ?_ ?_ rfl;all_goals (try simp only [vle,vkt,seval]))
 all_goals first|rfl|simp
def UL (S:St):List AV->Option Pk
 |[.sl xs,.clo 182 [.ptr t 0]]=>match S.h t with
  |some (.cells [.v (.int .i64 a),.v (.int .i64 b),.v (.int .i64 c),.v (.int .i64 d),.v (.int .i64 e),.v (.int .i64 f),.v (.bool g)])=>some { pre:=xs=(xs.map dTk).map eTk/\xs.length<=100,hs:=[t],ar:=[.sl xs,.clo 182 [.ptr 0 0]],L0:=[.cells (cTk ⟨a,b,c,d,e,f,g⟩)],v:=aB ((xs.map dTk).any (Qw ⟨a,b,c,d,e,f,g⟩)),L1:=[some (.cells (cTk ⟨a,b,c,d,e,f,g⟩))] }
  |_=>none
 |[.sl xs,.clo 184 [.ptr t 0]]=>match S.h t with
  |some (.cells [.v (.int .i64 a),.v (.int .i64 b),.v (.int .i64 c),.v (.int .i64 d),.v (.int .i64 e),.v (.int .i64 f),.v (.bool g)])=>some { pre:=xs=(xs.map dTk).map eTk/\xs.length<=100,hs:=[t],ar:=[.sl xs,.clo 184 [.ptr 0 0]],L0:=[.cells (cTk ⟨a,b,c,d,e,f,g⟩)],v:=aB ((xs.map dTk).any fun x=>!QQ x ⟨a,b,c,d,e,f,g⟩),L1:=[some (.cells (cTk ⟨a,b,c,d,e,f,g⟩))] }
  |_=>none
 |_=>none
def eCont {A:Frm->Prop}:qm A prog 171 (fnE UL):=zJ fun S bs q h hp=>by
 unfold UL at h
 split at h
 ·split at h
  ·rename_i xs t _ a b c d e f g _
   cases h
   obtain ⟨h1,h2⟩:=hp
   have:=RZ (QhF ⟨a,b,c,d,e,f,g⟩) (Qkb ⟨a,b,c,d,e,f,g⟩) (xs.map dTk) (by rw [ao];exact h2)
   rw [qy,<- h1] at this
   exact this
  ·cases h
 ·split at h
  ·rename_i xs t _ a b c d e f g _
   cases h
   obtain ⟨h1,h2⟩:=hp
   have:=RZ (QhF ⟨a,b,c,d,e,f,g⟩) (Qj8 ⟨a,b,c,d,e,f,g⟩) (xs.map dTk) (by rw [ao];exact h2)
   rw [qy,<- h1] at this
   exact this
  ·cases h
 ·cases h
def YH:=jv @aI.eq_1 (@aB.eq_1)
def QdT (t:Tk) (l:List Tk) (hl:l.length<=100):FnV prog 148 [aTk t,qy l] (aI (wE t l)):=by
 have env:=qA (A:=fun _=>True) (kC eCont kN)
 refine kV (Fn0 func148 rfl (fun vs w=>by kernel_rfl) (by kernel_rfl)) (by simp) (by simp [AV.ids,AV.idsL,aTk,cTk,qy]) ?_
 have et:(⟨t.party,t.sex,t.cab,t.bed,t.frm,t.to,t.dog⟩:Tk)=t:=rfl
 cases h1:l.any (Qw t)
 ·cases h2:l.any (fun x=>!QQ x t)
  ·rw [show wE t l=0 by simp [wE,h1,h2]]
   repeat' first|(apply nx;with_reducible constructor)|apply jq (by decide)|((first|apply jz env|apply jw);intro Q hQ;simp only [vkt,seval,YH,aTk,cTk,qy,mTk,UL,et,h1,h2,ite_and];(repeat' first|with_reducible assumption|apply jv|intro hp);all_goals first|(apply hQ;clear hQ Q)|(apply jx;kernel_rfl)|omega|assumption|rfl|skip)
   (simp only [vrt,results148,vkt,seval,YH];refine Fin.val rfl ?_;(try simp only [AV.le]))
   all_goals first|rfl|simp
  ·rw [show wE t l=9 by simp [wE,h1,h2]]
   repeat' first|(apply nx;with_reducible constructor)|apply jq (by decide)|((first|apply jz env|apply jw);intro Q hQ;simp only [vkt,seval,YH,aTk,cTk,qy,mTk,UL,et,h1,h2,ite_and];(repeat' first|with_reducible assumption|apply jv|intro hp);all_goals first|(apply hQ;clear hQ Q)|(apply jx;kernel_rfl)|omega|assumption|rfl|skip)
   (simp only [vrt,results148,vkt,seval,YH];refine Fin.val rfl ?_;(try simp only [AV.le]))
   all_goals first|rfl|simp
 ·rw [show wE t l=4 by simp [wE,h1]]
  repeat' first|(apply nx;with_reducible constructor)|apply jq (by decide)|((first|apply jz env|apply jw);intro Q hQ;simp only [vkt,seval,YH,aTk,cTk,qy,mTk,UL,et,h1,ite_and];(repeat' first|with_reducible assumption|apply jv|intro hp);all_goals first|(apply hQ;clear hQ Q)|(apply jx;kernel_rfl)|omega|assumption|rfl|skip)
  (simp only [vrt,results148,vkt,seval,YH];refine Fin.val rfl ?_;(try simp only [AV.le]))
  all_goals first|rfl|simp
def Vd:List AV->Prop × AV
 |[.agg [.v (.int .i64 t0),.v (.int .i64 t1),.v (.int .i64 t2),.v (.int .i64 t3),.v (.int .i64 t4),.v (.int .i64 t5),.v (.bool t6)],.sl l]=>(l=(l.map dTk).map eTk/\(l.map dTk).length<=100,aI (wE (⟨t0,t1,t2,t3,t4,t5,t6⟩:Tk) (l.map dTk)))
 |_=>(False,.junk)
def QcI {A:Frm->Prop}:qm A prog 148 (zw true Vd):=qL fun vs hv h=>by
 clear hv
 unfold Vd at h ⊢
 split at h
 ·rename_i t0 t1 t2 t3 t4 t5 t6 l;obtain ⟨q0,k0⟩:=h
  refine ⟨by first|trivial|(repeat' split) <;> simp [AV.plain,AV.plainL,aI,aB,qz,qc,qy,qw,aTk,cTk],fun _=>(by simp [AV.flat,aI]), ?_⟩
  have:=QdT (⟨t0,t1,t2,t3,t4,t5,t6⟩:Tk) (l.map dTk) k0
  simp only [aI,aTk,qy,cTk,<- q0] at this
  first|exact this|(simp only [aB,aI,aTk,qy,cTk,<- q0];exact this)
 ·exact h.elim
def mapD {Z:Type} [Inhabited Z] {f:Z->Int} {l:List Z} {j:Nat} (h:j < l.length):(l.map f).getD j 0=f (l.getD j default):=by simp [ai,h]
def Qex {f:Nat->Int} {n j:Nat} (h:j < n):((List.range n).map f).getD j 0=f j:=by simp [ai,h]
def crS (c:Chart) (k:Nat):St:={ t:=asg [(1,.ptr 0 0),(2,aI 0),(14,.sl (c.cabins.map qx)),(15,aI c.cabins.length),(16,aI k)],h:=qb [(0,.cells (qa c))],n:=1 }
def kK:=jv @ty3 (jv @ZF (jv @vJ (jv @jm (jv @Qa (jv @ZC (jv @jC (jv @ti3.eq_1 (jv @Qv.eq_1 (jv @yI.eq_1 (jv @wY.eq_1 (jv @xQ.eq_1 (jv @Qz.eq_1 @je.eq_1))))))))))))
def xf:=jv @aI.eq_1 (@aB.eq_1)
def QmY (c:Chart) (hc:c.cabins.length<=maxLen):FnV prog 88 [qd c] (aI (QY c)):=by
 have env:=qA (A:=fun _=>True) (kC ein (kC Qap kN))
 refine kV (Fn0 func88 rfl (fun vs w=>by kernel_rfl) (by kernel_rfl)) (by simp) (by simp [AV.ids,AV.idsL,qd,qa]) ?_
 by_cases h1:zG c.cabins.length 1 3=0
 ·have hl:c.cabins.length<=3:=by
   unfold zG at h1
   split at h1
   ·exact absurd h1 (by decide)
   ·split at h1
    ·exact absurd h1 (by decide)
    ·omega
  repeat' first|(apply nx;with_reducible constructor)|apply jq (by decide)|((first|apply jz env|apply jw);intro Q hQ;simp only [vkt,seval,kK,xf,qd,qa,xJ,h1,ite_and];(repeat' first|with_reducible assumption|apply jv|intro hp);all_goals first|(apply hQ;clear hQ Q)|(apply jx;kernel_rfl)|omega|assumption|rfl|skip)
  refine qN (fun k:{ k:Nat // k<=c.cabins.length/\∀ j,j < k->(c.cabins.map vT).getD j 0=0 }=>crS c k.1) (fun k=>c.cabins.length - k.1) ⟨0,ag _,fun j h=>absurd h (bp _)⟩ ?_ fun ⟨k,hk,hno⟩=>?_
  ·(refine Le.ok some [] ?_;constructor;all_goals (try simp only [vle,vkt,seval,xf,qa]))
   all_goals first|rfl|simp
  ·repeat' first|(apply nx;with_reducible constructor)|apply jq (by decide)
   (apply jz env;intro Q hQ;simp only [vkt,seval,kK,xf,qa,crS,ite_and];(repeat' first|with_reducible assumption|apply jv|intro hp);all_goals first|(apply hQ;clear hQ Q)|(apply jx;kernel_rfl)|omega|assumption|rfl|skip)
   repeat' first|(apply nx;with_reducible constructor)|apply jq (by decide)
   (refine jE (by simp only [vkt,seval];rfl) (fun h=>?_) (fun h=>?_) <;> (try simp only [vki] at h))
   ·have hlt:k < c.cabins.length:=by omega
    have e9:=k9 k (by omega)
    obtain ⟨x,hx⟩:∃ x,c.cabins.getD k default=x:=⟨_,rfl⟩
    have hm:(c.cabins.map vT).getD k 0=vT x:=by rw [mapD hlt,hx]
    cases hb:inB x.beds 1 3
    ·have hE:vT x=1:=by simp [vT,hb]
     have hf:=xC hno (by simpa using hlt) (by rw [hm,hE];decide)
     rw [hm,hE] at hf
     rw [show QY c=1 by unfold QY;rw [if_neg (by rw [h1];simp),hf];simp]
     repeat' first|(apply nx;with_reducible constructor)|apply jq (by decide)|((first|apply jz env|apply jw);intro Q hQ;simp only [vkt,seval,kK,xf,qx,zX,sin,hx,hb,ite_and];(repeat' first|with_reducible assumption|apply jv|intro hp);all_goals first|(apply hQ;clear hQ Q)|(apply jx;kernel_rfl)|omega|assumption|rfl|skip)
     (simp only [vrt,results88,vkt,seval,xf];refine Fin.val rfl ?_;(try simp only [AV.le]))
     all_goals first|rfl|simp
    ·have hE:vT x=0:=by simp [vT,hb]
     repeat' first|(apply nx;with_reducible constructor)|apply jq (by decide)|((first|apply jz env|apply jw);intro Q hQ;simp only [vkt,seval,kK,xf,qx,zX,sin,hx,hb,e9,ite_and];(repeat' first|with_reducible assumption|apply jv|intro hp);all_goals first|(apply hQ;clear hQ Q)|(apply jx;kernel_rfl)|omega|assumption|rfl|skip)
     refine ⟨⟨k+1,hlt,fun j hj=>?_⟩,by show c.cabins.length - (k+1) < c.cabins.length - k;omega, ?_⟩
     ·rcases bq (bt hj) with h2|h2
      ·exact hno j h2
      ·rw [h2,hm,hE]
     ·(refine Le.ok some [] ?_;constructor;all_goals (try simp only [vle,vkt,seval,xf,qa]))
      all_goals first|rfl|simp
   ·have hke:k=c.cabins.length:=by omega
    subst hke
    have hf:jy (c.cabins.map vT)=0:=yU (by simpa using hno)
    cases hs:inB c.secs 1 5
    ·rw [show QY c=1 by unfold QY;rw [if_neg (by rw [h1];simp),if_neg (by rw [hf];simp),hs];rfl]
     repeat' first|(apply nx;with_reducible constructor)|apply jq (by decide)|((first|apply jz env|apply jw);intro Q hQ;simp only [vkt,seval,kK,xf,sin,hs,ite_and];(repeat' first|with_reducible assumption|apply jv|intro hp);all_goals first|(apply hQ;clear hQ Q)|(apply jx;kernel_rfl)|omega|assumption|rfl|skip)
     (simp only [vrt,results88,vkt,seval,xf];refine Fin.val rfl ?_;(try simp only [AV.le]))
     all_goals first|rfl|simp
    ·rw [show QY c=zG c.sold.length 0 8 by unfold QY;rw [if_neg (by rw [h1];simp),if_neg (by rw [hf];simp),hs];rfl]
     repeat' first|(apply nx;with_reducible constructor)|apply jq (by decide)|((first|apply jz env|apply jw);intro Q hQ;simp only [vkt,seval,kK,xf,sin,xJ,hs,ite_and];(repeat' first|with_reducible assumption|apply jv|intro hp);all_goals first|(apply hQ;clear hQ Q)|(apply jx;kernel_rfl)|omega|assumption|rfl|skip)
     (simp only [vrt,results88,vkt,seval,xf];refine Fin.val rfl ?_;(try simp only [AV.le]))
     all_goals first|rfl|simp
 ·rw [show QY c=zG c.cabins.length 1 3 by unfold QY;rw [if_pos h1]]
  repeat' first|(apply nx;with_reducible constructor)|apply jq (by decide)|((first|apply jz env|apply jw);intro Q hQ;simp only [vkt,seval,kK,xf,qd,qa,xJ,h1,ite_and];(repeat' first|with_reducible assumption|apply jv|intro hp);all_goals first|(apply hQ;clear hQ Q)|(apply jx;kernel_rfl)|omega|assumption|rfl|skip)
  (simp only [vrt,results88,vkt,seval,xf];refine Fin.val rfl ?_;(try simp only [AV.le]))
  all_goals first|rfl|simp
def scar:List AV->Prop × AV
 |[.agg [.sl c0,.v (.int .i64 c1),.sl c2]]=>(c0=(c0.map qh).map qx/\c2=(c2.map dTk).map eTk/\c0.length<=maxLen,aI (QY (⟨(c0.map qh),c1,(c2.map dTk)⟩:Chart)))
 |_=>(False,.junk)
def ecar {A:Frm->Prop}:qm A prog 88 (zw true scar):=qL fun vs hv h=>by
 clear hv
 unfold scar at h ⊢
 split at h
 ·rename_i c0 c1 c2;obtain ⟨q0,q1,k0⟩:=h
  refine ⟨by first|trivial|(repeat' split) <;> simp [AV.plain,AV.plainL,aI,aB,qz,qc,qy,qw,aTk,cTk],fun _=>(by simp [AV.flat,aI]), ?_⟩
  have:=QmY (⟨(c0.map qh),c1,(c2.map dTk)⟩:Chart) (by simpa using k0)
  simp only [qd,aI,qa,<- q0,<- q1] at this
  first|exact this|(simp only [zF,qd,aI,qy,qa,<- q0,<- q1];exact this)
 ·exact h.elim
def vE:=jv @ty3 (jv @ZF (jv @jm (jv @Qa (jv @vS (jv @ZC (jv @jC (jv @ti3.eq_1 (jv @Qv.eq_1 (jv @wY.eq_1 (jv @xQ.eq_1 (jv @yG.eq_1 (jv @Qz.eq_1 @je.eq_1))))))))))))
def xR:=jv @aI.eq_1 (@aB.eq_1)
def QeR (c:Chart) (t:Tk) (l:List Tk) (hc:CarOk c) (hl:l.length<=100):FnV prog 89 [qd c,aTk t,qy l] (aI (zg c t l)):=by
 have env:=qA (A:=fun _=>True) (kC ein (kC eway (kC QcI kN)))
 refine kV (Fn0 func89 rfl (fun vs w=>by kernel_rfl) (by kernel_rfl)) (by simp) (by simp [AV.ids,AV.idsL,qd,qa,aTk,cTk,qy]) ?_
 have hcl:=hc.cabs
 have et:(⟨t.party,t.sex,t.cab,t.bed,t.frm,t.to,t.dog⟩:Tk)=t:=rfl
 have w1:IntKind.wrap .i64 ((c.cabins.length:Int) - 1)=(c.cabins.length:Int) - 1:=wrap64 (by omega) (by omega)
 have rest:inB t.party 1 99=true->inB t.sex 1 2=true->yx c.cabins t.cab t.bed=true->zg c t l=if Qc c.secs t.frm t.to ≠ 0 then Qc c.secs t.frm t.to else wE t l:=fun a1 a2 a3=>by
  unfold zg;simp [a1,a2,a3]
 cases h1:inB t.party 1 99
 ·rw [show zg c t l=1 by simp [zg,h1]]
  repeat' first|(apply nx;with_reducible constructor)|apply jq (by decide)|((first|apply jz env|apply jw);intro Q hQ;simp only [vkt,seval,vE,xR,qd,qa,aTk,cTk,qy,sin,h1,ite_and];(repeat' first|with_reducible assumption|apply jv|intro hp);all_goals first|(apply hQ;clear hQ Q)|(apply jx;kernel_rfl)|omega|assumption|rfl|skip)
  (simp only [vrt,results89,vkt,seval,xR];refine Fin.val rfl ?_;(try simp only [AV.le]))
  all_goals first|rfl|simp
 cases h2:inB t.sex 1 2
 ·rw [show zg c t l=8 by simp [zg,h1,h2]]
  repeat' first|(apply nx;with_reducible constructor)|apply jq (by decide)|((first|apply jz env|apply jw);intro Q hQ;simp only [vkt,seval,vE,xR,qd,qa,aTk,cTk,qy,sin,h1,h2,ite_and];(repeat' first|with_reducible assumption|apply jv|intro hp);all_goals first|(apply hQ;clear hQ Q)|(apply jx;kernel_rfl)|omega|assumption|rfl|skip)
  (simp only [vrt,results89,vkt,seval,xR];refine Fin.val rfl ?_;(try simp only [AV.le]))
  all_goals first|rfl|simp
 cases h3:inB t.cab 0 ((c.cabins.length:Int) - 1)
 ·rw [show zg c t l=3 by simp [zg,h1,h2,yx,h3]]
  repeat' first|(apply nx;with_reducible constructor)|apply jq (by decide)|((first|apply jz env|apply jw);intro Q hQ;simp only [vkt,seval,vE,xR,qd,qa,aTk,cTk,qy,sin,h1,h2,h3,w1,ite_and];(repeat' first|with_reducible assumption|apply jv|intro hp);all_goals first|(apply hQ;clear hQ Q)|(apply jx;kernel_rfl)|omega|assumption|rfl|skip)
  (simp only [vrt,results89,vkt,seval,xR];refine Fin.val rfl ?_;(try simp only [AV.le]))
  all_goals first|rfl|simp
 have b3:=jc.1 h3
 have g1:0<=t.cab:=b3.1
 have g2:t.cab.toNat < c.cabins.length:=by omega
 obtain ⟨x,hx⟩:∃ x,c.cabins.getD t.cab.toNat default=x:=⟨_,rfl⟩
 have hxb:=hc.beds _ (vG (d:=default) g2)
 rw [hx] at hxb
 have w2:IntKind.wrap .i64 (x.beds - 1)=x.beds - 1:=wrap64 (by omega) (by omega)
 cases h4:inB t.bed 0 (x.beds - 1)
 ·rw [show zg c t l=3 by simp [-List.getD_eq_getElem?_getD,zg,h1,h2,yx,h3,hx,h4]]
  repeat' first|(apply nx;with_reducible constructor)|apply jq (by decide)|((first|apply jz env|apply jw);intro Q hQ;simp only [vkt,seval,vE,xR,qd,qa,aTk,cTk,qy,qx,zX,sin,h1,h2,h3,h4,w1,w2,hx,g1,g2,ite_and];(repeat' first|with_reducible assumption|apply jv|intro hp);all_goals first|(apply hQ;clear hQ Q)|(apply jx;kernel_rfl)|omega|assumption|rfl|skip)
  (simp only [vrt,results89,vkt,seval,xR];refine Fin.val rfl ?_;(try simp only [AV.le]))
  all_goals first|rfl|simp
 have hr:=rest h1 h2 (by simp [-List.getD_eq_getElem?_getD,yx,h3,hx,h4])
 by_cases h5:Qc c.secs t.frm t.to=0
 ·rw [if_neg (by rw [h5];simp)] at hr
  rw [hr]
  repeat' first|(apply nx;with_reducible constructor)|apply jq (by decide)|((first|apply jz env|apply jw);intro Q hQ;simp only [vkt,seval,vE,xR,qd,qa,aTk,cTk,qy,qx,zX,qC,mTk,sin,QaK,Vd,h1,h2,h3,h4,h5,w1,w2,hx,g1,g2,et,ite_and];(repeat' first|with_reducible assumption|apply jv|intro hp);all_goals first|(apply hQ;clear hQ Q)|(apply jx;kernel_rfl)|omega|assumption|rfl|skip)
  (simp only [vrt,results89,vkt,seval,xR];refine Fin.val rfl ?_;(try simp only [AV.le]))
  all_goals first|rfl|simp
 ·rw [if_pos h5] at hr
  rw [hr]
  repeat' first|(apply nx;with_reducible constructor)|apply jq (by decide)|((first|apply jz env|apply jw);intro Q hQ;simp only [vkt,seval,vE,xR,qd,qa,aTk,cTk,qy,qx,zX,qC,mTk,sin,QaK,h1,h2,h3,h4,h5,w1,w2,hx,g1,g2,ite_and];(repeat' first|with_reducible assumption|apply jv|intro hp);all_goals first|(apply hQ;clear hQ Q)|(apply jx;kernel_rfl)|omega|assumption|rfl|skip)
  (simp only [vrt,results89,vkt,seval,xR];refine Fin.val rfl ?_;(try simp only [AV.le]))
  all_goals first|rfl|simp
def Y2:List AV->Prop × AV
 |[.agg [.sl c0,.v (.int .i64 c1),.sl c2],.agg [.v (.int .i64 t0),.v (.int .i64 t1),.v (.int .i64 t2),.v (.int .i64 t3),.v (.int .i64 t4),.v (.int .i64 t5),.v (.bool t6)],.sl l]=>(c0=(c0.map qh).map qx/\c2=(c2.map dTk).map eTk/\l=(l.map dTk).map eTk/\CarOk (⟨(c0.map qh),c1,(c2.map dTk)⟩:Chart)/\(l.map dTk).length<=100,aI (zg (⟨(c0.map qh),c1,(c2.map dTk)⟩:Chart) (⟨t0,t1,t2,t3,t4,t5,t6⟩:Tk) (l.map dTk)))
 |_=>(False,.junk)
def QkN {A:Frm->Prop}:qm A prog 89 (zw true Y2):=qL fun vs hv h=>by
 clear hv
 unfold Y2 at h ⊢
 split at h
 ·rename_i c0 c1 c2 t0 t1 t2 t3 t4 t5 t6 l;obtain ⟨q0,q1,q2,k0,k1⟩:=h
  refine ⟨by first|trivial|(repeat' split) <;> simp [AV.plain,AV.plainL,aI,aB,qz,qc,qy,qw,aTk,cTk],fun _=>(by simp [AV.flat,aI]), ?_⟩
  have:=QeR (⟨(c0.map qh),c1,(c2.map dTk)⟩:Chart) (⟨t0,t1,t2,t3,t4,t5,t6⟩:Tk) (l.map dTk) k0 k1
  simp only [qd,aI,aTk,qy,qa,cTk,<- q0,<- q1,<- q2] at this
  first|exact this|(simp only [aB,zF,qd,aI,aTk,qy,qa,cTk,<- q0,<- q1,<- q2];exact this)
 ·exact h.elim
def ckS (c:Chart) (k:Nat):St:={ t:=asg [(1,.ptr 0 0),(2,aI 0),(13,qy c.sold),(14,aI c.sold.length),(15,aI k)],h:=qb [(0,.cells (qa c))],n:=1 }
def kW:=jv @ty3 (jv @vJ (jv @jm (jv @Qa (jv @jC (jv @ti3.eq_1 (jv @yI.eq_1 (jv @wY.eq_1 (jv @xQ.eq_1 @je.eq_1))))))))
def Qt:=jv @aI.eq_1 (@aB.eq_1)
def QhE (c:Chart) (hc:c.cabins.length<=maxLen):FnV prog 41 [qd c] (aI (zt c)):=by
 have env:=qA (A:=fun _=>True) (kC ecar (kC QkN kN))
 refine kV (Fn0 func41 rfl (fun vs w=>by kernel_rfl) (by kernel_rfl)) (by simp) (by simp [AV.ids,AV.idsL,qd,qa]) ?_
 have ec:(⟨c.cabins,c.secs,c.sold⟩:Chart)=c:=rfl
 by_cases h1:QY c=0
 ·obtain ⟨hcar,hsl⟩:=Qdc h1
  have hE:zt c=jD c c.sold:=by unfold zt;rw [if_neg (by rw [h1];simp)]
  rw [hE]
  repeat' first|(apply nx;with_reducible constructor)|apply jq (by decide)|((first|apply jz env|apply jw);intro Q hQ;simp only [vkt,seval,kW,Qt,qd,qa,qC,mTk,scar,h1,ec,ite_and];(repeat' first|with_reducible assumption|apply jv|intro hp);all_goals first|(apply hQ;clear hQ Q)|(apply jx;kernel_rfl)|omega|assumption|rfl|skip)
  refine qN (fun k:{ k:Nat // k<=c.sold.length/\∀ j,j < k->zg c (c.sold.getD j default) (c.sold.take j)=0 }=>ckS c k.1) (fun k=>c.sold.length - k.1) ⟨0,ag _,fun j h=>absurd h (bp _)⟩ ?_ fun ⟨k,hk,hno⟩=>?_
  ·(refine Le.ok some [] ?_;constructor;all_goals (try simp only [vle,vkt,seval,Qt,qa,qy]))
   all_goals first|rfl|simp
  ·repeat' first|(apply nx;with_reducible constructor)|apply jq (by decide)
   (apply jz env;intro Q hQ;simp only [vkt,seval,kW,Qt,qa,qy,ckS,ite_and];(repeat' first|with_reducible assumption|apply jv|intro hp);all_goals first|(apply hQ;clear hQ Q)|(apply jx;kernel_rfl)|omega|assumption|rfl|skip)
   repeat' first|(apply nx;with_reducible constructor)|apply jq (by decide)
   (refine jE (by simp only [vkt,seval];rfl) (fun h=>?_) (fun h=>?_) <;> (try simp only [vki] at h))
   ·have hlt:k < c.sold.length:=by omega
    have e9:=k9 k (by omega)
    obtain ⟨x,hx⟩:∃ x,c.sold.getD k default=x:=⟨_,rfl⟩
    have ex:(⟨x.party,x.sex,x.cab,x.bed,x.frm,x.to,x.dog⟩:Tk)=x:=rfl
    have tk:List.take k (c.sold.map eTk)=(c.sold.take k).map eTk:=List.map_take.symm
    have t100:(c.sold.take k).length<=100:=by rw [aR];omega
    have hcar':CarOk ⟨c.cabins,c.secs,c.sold⟩:=hcar
    have hg:=Qex (f:=fun i=>zg c (c.sold.getD i default) (c.sold.take i)) hlt
    by_cases h2:zg c x (c.sold.take k)=0
    ·repeat' first|(apply nx;with_reducible constructor)|apply jq (by decide)|((first|apply jz env|apply jw);intro Q hQ;simp only [vkt,seval,kW,Qt,eTk,gTk,rTk,qC,mTk,Y2,hx,ex,ec,tk,h2,e9,ite_and];(repeat' first|with_reducible assumption|apply jv|intro hp);all_goals first|(apply hQ;clear hQ Q)|(apply jx;kernel_rfl)|omega|assumption|rfl|skip)
     refine ⟨⟨k+1,hlt,fun j hj=>?_⟩,by show c.sold.length - (k+1) < c.sold.length - k;omega, ?_⟩
     ·rcases bq (bt hj) with h3|h3
      ·exact hno j h3
      ·rw [h3,hx];exact h2
     ·(refine Le.ok some [] ?_;constructor;all_goals (try simp only [vle,vkt,seval,Qt,qa,qy]))
      all_goals first|rfl|simp
    ·have hf:jD c c.sold=zg c x (c.sold.take k):=by
      unfold jD
      rw [xC (k:=k) (fun j hj=>by rw [Qex (by omega)];exact hno j hj) (by simpa using hlt) (by rw [hg,hx];exact h2),hg,hx]
     rw [hf]
     repeat' first|(apply nx;with_reducible constructor)|apply jq (by decide)|((first|apply jz env|apply jw);intro Q hQ;simp only [vkt,seval,kW,Qt,eTk,gTk,rTk,qC,mTk,Y2,hx,ex,ec,tk,h2,ite_and];(repeat' first|with_reducible assumption|apply jv|intro hp);all_goals first|(apply hQ;clear hQ Q)|(apply jx;kernel_rfl)|omega|assumption|rfl|skip)
     (simp only [vrt,results41,vkt,seval,Qt];refine Fin.val rfl ?_;(try simp only [AV.le]))
     all_goals first|rfl|simp
   ·have hke:k=c.sold.length:=by omega
    subst hke
    rw [show jD c c.sold=0 from yU fun j hj=>by
     have hj':j < c.sold.length:=by simpa using hj
     rw [Qex hj'];exact hno j hj']
    repeat' first|(apply nx;with_reducible constructor)|apply jq (by decide)|((first|apply jz env|apply jw);intro Q hQ;simp only [vkt,seval,ite_and];(repeat' first|with_reducible assumption|apply jv|intro hp);all_goals first|(apply hQ;clear hQ Q)|(apply jx;kernel_rfl)|omega|assumption|rfl|skip)
    (simp only [vrt,results41,vkt,seval,Qt];refine Fin.val rfl ?_;(try simp only [AV.le]))
    all_goals first|rfl|simp
 ·have hE:zt c=QY c:=by unfold zt;rw [if_pos h1]
  rw [hE]
  repeat' first|(apply nx;with_reducible constructor)|apply jq (by decide)|((first|apply jz env|apply jw);intro Q hQ;simp only [vkt,seval,kW,Qt,qd,qa,qC,mTk,scar,h1,ec,ite_and];(repeat' first|with_reducible assumption|apply jv|intro hp);all_goals first|(apply hQ;clear hQ Q)|(apply jx;kernel_rfl)|omega|assumption|rfl|skip)
  (simp only [vrt,results41,vkt,seval,Qt];refine Fin.val rfl ?_;(try simp only [AV.le]))
  all_goals first|rfl|simp
def yT:List AV->Prop × AV
 |[.agg [.sl c0,.v (.int .i64 c1),.sl c2]]=>(c0=(c0.map qh).map qx/\c2=(c2.map dTk).map eTk/\c0.length<=maxLen,aI (zt (⟨(c0.map qh),c1,(c2.map dTk)⟩:Chart)))
 |_=>(False,.junk)
def YF {A:Frm->Prop}:qm A prog 41 (zw true yT):=qL fun vs hv h=>by
 clear hv
 unfold yT at h ⊢
 split at h
 ·rename_i c0 c1 c2;obtain ⟨q0,q1,k0⟩:=h
  refine ⟨by first|trivial|(repeat' split) <;> simp [AV.plain,AV.plainL,aI,aB,qz,qc,qy,qw,aTk,cTk],fun _=>(by simp [AV.flat,aI]), ?_⟩
  have:=QhE (⟨(c0.map qh),c1,(c2.map dTk)⟩:Chart) (by simpa using k0)
  simp only [qd,aI,qa,<- q0,<- q1] at this
  first|exact this|(simp only [zF,qd,aI,qy,qa,<- q0,<- q1];exact this)
 ·exact h.elim
def buO (cs:List Cabin) (s:Int):AObj:=.cells [.sl (cs.map qx),.v (.int .i64 s),.any]
def buY (cs:List Cabin) (j:Nat):List AV:=[qw ((qZ cs).getD j default)]
def bu1 (cs:List Cabin) (s:Int) (i j:Nat):St:={ t:=asg [(0,.cb),(1,.ptr 0 0),(7,.sl (cs.map qx)),(8,aI cs.length),(9,aI i)],h:=qb [(0,.cells [.sl (cs.map qx),.v (.int .i64 s),.any])],n:=1,j:=j,m:=1 }
def bu2 (cs:List Cabin) (s:Int) (i:Nat) (b:Int) (k j:Nat):St:={ t:=asg [(0,.cb),(1,.ptr 0 0),(3,aI i),(7,.sl (cs.map qx)),(8,aI cs.length),(9,aI i),(15,aI b),(16,aI k)],h:=qb [(0,.cells [.sl (cs.map qx),.v (.int .i64 s),.any])],n:=1,j:=j,m:=1 }
structure CabsOk (cs:List Cabin):Prop where
 len:cs.length<=1000
 beds:∀ x ∈ cs,x.beds<=1000
def jL:=jv @ty3 (jv @ZF (jv @jm (jv @vS (jv @ZC (jv @ti3.eq_1 (jv @Qv.eq_1 (jv @wY.eq_1 (jv @yG.eq_1 @Qz.eq_1))))))))
def WV:=jv @aI.eq_1 (@aB.eq_1)
def Qas (cs:List Cabin) (s:Int) (hc:CabsOk cs):Iter prog 181 [.cb,.ptr 0 0] (nth [buO cs s]) (buY cs) (qZ cs).length (fun _=>nth [buO cs s]) fun _ _=>.tup []:=by
 intro ans R hr
 have e0:(nth [buO cs s])=qb (qB 0 [buO cs s]):=by
  funext i
  match i with
  |0=>rfl
  |i+1=>simp [nth,qB,qb]
 obtain ⟨A0,hA0⟩:∃ A0:Frm->Prop,A0=Acb prog (qb (qB 0 [buO cs s])) (qb (qB 0 [buO cs s])) (buY cs) (fun _=>nth [buO cs s]) ans R:=⟨_,rfl⟩
 have hA:∀ F,A0 F->Acb prog (qb (qB 0 [buO cs s])) (qb (qB 0 [buO cs s])) (buY cs) (fun _=>nth [buO cs s]) ans R F:=fun F h=>hA0 ▸ h
 have env:Env A0 prog tyB (Go.Sym.tabC (cbX [0] (buY cs) (fun _=>[buO cs s]) ans R) []):=⟨Xe,RN (fun S bs h hS ops o g args tys caps hw ho hg hb=>Yy hA (fun i o hi=>by
  rw [zZ] at hi
  cases i with
  |zero=>rfl
  |succ i=>simp at hi) (by simp) h hS hw ho hg hb) trivial,by kernel_rfl⟩
 rw [Qd7] at hr
 have hcl:=hc.len
 rw [e0]
 refine Fn.of (A:=A0) (n0:=1) (D:=noD) (Fn0 func181 rfl (fun vs w=>by kernel_rfl) (by kernel_rfl)) (by simp) (by simp [AV.ids]) ?_ (fun F hb h0 _=>hA0 ▸ ⟨h0,fun i o hi=>⟨o,hi⟩,by rw [<- e0] at hb ⊢;exact hb⟩) qX ?_
 ·intro i o hi
  have h:=qG hi
  simp [qB,buO] at h;obtain ⟨rfl,rfl⟩:=h;simp [AObj.ids,AV.ids,AV.idsL]
 show Sym _ _ _ (qV [.cb,.ptr 0 0] 1 (qb [(0,.cells [.sl (cs.map qx),.v (.int .i64 s),.any])])) (yc tyB noD Tryz.f181 fun S rv=>Fin S rv (.tup []) 1 (qb [(0,.cells [.sl (cs.map qx),.v (.int .i64 s),.any])]) R)
 have eo:buO cs s=.cells [.sl (cs.map qx),.v (.int .i64 s),.any]:=rfl
 repeat' first|(apply nx;with_reducible constructor)|apply jq (by decide)|((first|apply jz env|apply jw);intro Q hQ;simp only [vkt,seval,jL,ite_and];(repeat' first|with_reducible assumption|apply jv|intro hp);all_goals first|(apply hQ;clear hQ Q)|(apply jx;kernel_rfl)|omega|assumption|rfl|skip)
 refine qN (fun x:{ x:Nat × Nat // x.1<=cs.length/\x.2=((Zk cs).take x.1).sum/\∀ q,q < x.2->ans q=true }=>bu1 cs s x.1.1 x.1.2) (fun x=>cs.length - x.1.1) ⟨(0,0),ag _,by simp,fun q h=>absurd h (bp _)⟩ ?_ fun ⟨(i,o),hi,ho,hy⟩=>?_
 ·(refine Le.ok some [] ?_;constructor;all_goals (try simp only [vle,vkt,seval,WV]))
  all_goals first|rfl|simp
 simp only at hi ho hy ⊢
 repeat' first|(apply nx;with_reducible constructor)|apply jq (by decide)
 (apply jz env;intro Q hQ;simp only [vkt,seval,jL,WV,bu1,ite_and];(repeat' first|with_reducible assumption|apply jv|intro hp);all_goals first|(apply hQ;clear hQ Q)|(apply jx;kernel_rfl)|omega|assumption|rfl|skip)
 repeat' first|(apply nx;with_reducible constructor)|apply jq (by decide)
 (refine jE (by simp only [vkt,seval];rfl) (fun h=>?_) (fun h=>?_) <;> (try simp only [vki] at h))
 ·have hlt:i < cs.length:=by omega
  have hts:=JF (g:=Zk cs) (i:=i) (by simp [Zk];omega)
  rw [QkZ hlt] at hts
  have hsm:((Zk cs).take (i+1)).sum<=(Zk cs).sum:=by
   have:=xF (g:=Zk cs) (show i+1<=(Zk cs).length by simp [Zk];omega)
   rwa [bO] at this
  have hbx:=hc.beds _ (vG (d:=default) hlt)
  have hget:=fun k=>Qep (cs:=cs) (i:=i) (k:=k) hlt
  obtain ⟨x,hx⟩:∃ x,cs.getD i default=x:=⟨_,rfl⟩
  rw [hx] at hts hbx
  simp only [hx] at hget
  have e9:=k9 i (by omega)
  repeat' first|(apply nx;with_reducible constructor)|apply jq (by decide)|((first|apply jz env|apply jw);intro Q hQ;simp only [vkt,seval,jL,qx,zX,hx,ite_and];(repeat' first|with_reducible assumption|apply jv|intro hp);all_goals first|(apply hQ;clear hQ Q)|(apply jx;kernel_rfl)|omega|assumption|rfl|skip)
  refine qN (fun y:{ y:Nat × Nat // y.1<=x.beds.toNat/\y.2=o+y.1/\∀ q,q < y.2->ans q=true }=>bu2 cs s i x.beds y.1.1 y.1.2) (fun y=>x.beds.toNat - y.1.1) ⟨(0,o),ag _,rfl,hy⟩ ?_ fun ⟨(k,q),hk,hq,hz⟩=>?_
  ·(refine Le.ok some [] ?_;constructor;all_goals (try simp only [vle,vkt,seval,WV]))
   all_goals first|rfl|simp
  simp only at hk hq hz ⊢
  repeat' first|(apply nx;with_reducible constructor)|apply jq (by decide)
  (apply jz env;intro Q hQ;simp only [vkt,seval,jL,WV,bu2,ite_and];(repeat' first|with_reducible assumption|apply jv|intro hp);all_goals first|(apply hQ;clear hQ Q)|(apply jx;kernel_rfl)|omega|assumption|rfl|skip)
  repeat' first|(apply nx;with_reducible constructor)|apply jq (by decide)
  (refine jE (by simp only [vkt,seval];rfl) (fun h=>?_) (fun h=>?_) <;> (try simp only [vki] at h))
  ·have hkl:k < x.beds.toNat:=by omega
   have e8:=k9 k (by omega)
   have hqR:q < R:=hr.lt (by omega) hz
   have hbq:buY cs q=[.agg [.v (.int .i64 (i:Int)),.v (.int .i64 (k:Int))]]:=by
    unfold buY
    rw [hq,ho,hget k hkl]
    rfl
   cases hb:ans q with
   |false =>
    have eR:R=q+1:=by have:=hr.last hqR hb;omega
    subst eR
    repeat' first|(apply nx;with_reducible constructor)|apply jq (by decide)|((first|apply jz env|apply jw);intro Q hQ;simp only [vkt,seval,jL,Go.Sym.tabC,cbX,xc,hwL,hqR,hbq,eo,hb,ite_and];(repeat' first|with_reducible assumption|apply jv|intro hp);all_goals first|(apply hQ;clear hQ Q)|(apply jx;kernel_rfl)|omega|assumption|rfl|skip)
    (simp only [vrt,results181,vkt,seval];refine Fin.ok some [] ?_ ?_ ?_ ?_ ?_ rfl;all_goals (try simp only [vle,vkt,seval]))
    all_goals first|rfl|simp
   |true =>
    have hz':∀ p,p < q+1->ans p=true:=fun p hp=>by
     rcases bq (bt hp) with h1|h1
     ·exact hz p h1
     ·rw [h1];exact hb
    repeat' first|(apply nx;with_reducible constructor)|apply jq (by decide)|((first|apply jz env|apply jw);intro Q hQ;simp only [vkt,seval,jL,Go.Sym.tabC,cbX,xc,hwL,hqR,hbq,eo,hb,e8,ite_and];(repeat' first|with_reducible assumption|apply jv|intro hp);all_goals first|(apply hQ;clear hQ Q)|(apply jx;kernel_rfl)|omega|assumption|rfl|skip)
    refine ⟨⟨(k+1,q+1),hkl,by omega,hz'⟩,by show x.beds.toNat - (k+1) < x.beds.toNat - k;omega, ?_⟩
    (refine Le.ok some [] ?_;constructor;all_goals (try simp only [vle,vkt,seval,WV]))
    all_goals first|rfl|simp
  ·have hkn:q=((Zk cs).take (i+1)).sum:=by omega
   repeat' first|(apply nx;with_reducible constructor)|apply jq (by decide)|((first|apply jz env|apply jw);intro Q hQ;simp only [vkt,seval,jL,e9,ite_and];(repeat' first|with_reducible assumption|apply jv|intro hp);all_goals first|(apply hQ;clear hQ Q)|(apply jx;kernel_rfl)|omega|assumption|rfl|skip)
   refine ⟨⟨(i+1,q),hlt,hkn,hz⟩,by show cs.length - (i+1) < cs.length - i;omega, ?_⟩
   (refine Le.ok some [] ?_;constructor;all_goals (try simp only [vle,vkt,seval,WV]))
   all_goals first|rfl|simp
 ·have hie:i=cs.length:=by omega
  subst hie
  have hoN:o=(Zk cs).sum:=by rw [ho,bF (by simp [Zk])]
  have eR:R=o:=by rw [hoN];exact hr.all (Nat.le_of_eq hoN.symm) hy
  subst eR
  repeat' first|(apply nx;with_reducible constructor)|apply jq (by decide)|((first|apply jz env|apply jw);intro Q hQ;simp only [vkt,seval,jL,WV,qw,qx,zX,bu1,bu2,Go.Sym.tabC,cbX,Y0,xc,nth,hwL,ite_and];(repeat' first|with_reducible assumption|apply jv|intro hp);all_goals first|(apply hQ;clear hQ Q)|(apply jx;kernel_rfl)|omega|assumption|rfl|skip)
  (simp only [vrt,results181,vkt,seval];refine Fin.ok some [] ?_ ?_ ?_ ?_ ?_ rfl;all_goals (try simp only [vle,vkt,seval]))
  all_goals first|rfl|simp
def Qgg (cs:List Cabin) (s:Int):Fn noB prog 144 [.agg [.sl (cs.map qx),.v (.int .i64 s),.any]] (qb []) (.clo 181 [.ptr 0 0]) (qb [(0,.cells [.sl (cs.map qx),.v (.int .i64 s),.any])]) 0:=by
 have env:=qA (A:=fun _=>True) kN
 refine kV (Fn0 func144 rfl (fun vs w=>by kernel_rfl) (by kernel_rfl)) (by simp) (by simp [AV.ids,AV.idsL]) ?_
 repeat' first|(apply nx;with_reducible constructor)|apply jq (by decide)|((first|apply jz env|apply jw);intro Q hQ;simp only [vkt,seval,ite_and];(repeat' first|with_reducible assumption|apply jv|intro hp);all_goals first|(apply hQ;clear hQ Q)|(apply jx;kernel_rfl)|omega|assumption|rfl|skip)
 (simp only [vrt,results144,vkt,seval];refine Fin.ok some [] ?_ ?_ ?_ ?_ ?_ rfl;all_goals (try simp only [vle,vkt,seval]))
 all_goals first|rfl|simp
def Jb (_:St):List AV->Option Pk
 |[.agg [.sl cs,.v (.int .i64 s),_]]=>some { pre:=cs=(cs.map qh).map qx,ar:=[.agg [.sl cs,.v (.int .i64 s),.any]],v:=.clo 181 [.ptr 0 0],L1:=[some (.cells [.sl cs,.v (.int .i64 s),.any])] }
 |_=>none
def Qdx {A:Frm->Prop}:qm A prog 144 (fnE Jb):=zJ fun S bs q h hp=>by
 unfold Jb at h
 split at h
 ·rename_i cs s _
  cases h
  have:=Qgg (cs.map qh) s
  rw [<- (show cs=(cs.map qh).map qx from hp)] at this
  exact this
 ·cases h
def b47 {n:Nat} (h:n<=100000):n * 8<=140737488355328/\n * 24<=140737488355328/\n * 16<=140737488355328/\n * 56<=140737488355328/\n<=maxLen:=by
 have:(100000:Nat)<=maxLen:=by decide
 omega
def jM:=jv @vJ (jv @jC (jv @yI.eq_1 @je.eq_1))
def KC (xs:List (List DV)) (h1:zu 7 xs) (h2:xs.length<=100000):Fn noB prog 174 [.sl xs] noH (.row 0) (qb [(0,.row 88 7 xs)]) 0:=by
 have env:=qA (A:=fun _=>True) kN
 obtain ⟨b1,b2,b3,b5,b4⟩:=b47 h2
 refine kV (Fn0 func174 rfl (fun vs w=>by kernel_rfl) (by kernel_rfl)) (by simp) (by simp [AV.ids]) ?_
 repeat' first|(apply nx;with_reducible constructor)|apply jq (by decide)
 (apply jz env;intro Q hQ;simp only [vkt,seval,jM,@true_and,ite_and];(repeat' first|with_reducible assumption|apply jv|intro hp);all_goals first|(apply hQ;clear hQ Q)|(apply jx;kernel_rfl)|omega|assumption|rfl|skip)
 repeat' first|(apply nx;with_reducible constructor)|apply jq (by decide)
 refine Qj (d1:=3) (d2:=4) (t:=23) (e:=88) (x:=.tmp 0) (xs:=xs) rfl rfl rfl rfl rfl rfl underlying23 rfl fun b hb=>?_
 repeat' first|(apply nx;with_reducible constructor)|apply jq (by decide)
 (refine jE (by simp only [vkt,seval,jM,@true_and];rfl) (fun h=>?_) (fun h=>?_) <;> (try simp only [vki,reduceCtorEq] at h))
 ·have hx:=hb h
  subst hx
  repeat' first|(apply nx;with_reducible constructor)|apply jq (by decide)|((first|apply jz env|apply jw);intro Q hQ;simp only [vkt,seval,jM,@true_and,ite_and];(repeat' first|with_reducible assumption|apply jv|intro hp);all_goals first|(apply hQ;clear hQ Q)|(apply jx;kernel_rfl)|omega|assumption|rfl|skip)
  (simp only [vrt,results174,vkt,seval,jM,@true_and];refine Fin.ok (fun _=>none) [] ?_ ?_ ?_ ?_ ?_ rfl;all_goals (try simp only [vle,vkt,seval,jM,@true_and]))
  all_goals simp
 ·repeat' first|(apply nx;with_reducible constructor)|apply jq (by decide)|((first|apply jz env|apply jw);intro Q hQ;simp only [vkt,seval,jM,@true_and,ite_and];(repeat' first|with_reducible assumption|apply jv|intro hp);all_goals first|(apply hQ;clear hQ Q)|(apply jx;kernel_rfl)|omega|assumption|rfl|skip)
  (simp only [vrt,results174,vkt,seval,jM,@true_and];refine Fin.ok some [] ?_ ?_ ?_ ?_ ?_ rfl;all_goals (try simp only [vle,vkt,seval,jM,@true_and]))
  all_goals simp
def jN:=jv @Vy (jv @vS (jv @JY.eq_1 @yG.eq_1))
def QeL (xs:List (List DV)) (h1:zu 2 xs) (h2:xs.length<=100000):Fn noB prog 175 [.sl xs] noH (.row 0) (qb [(0,.row 76 2 xs)]) 0:=by
 have env:=qA (A:=fun _=>True) kN
 obtain ⟨b1,b2,b3,b5,b4⟩:=b47 h2
 refine kV (Fn0 func175 rfl (fun vs w=>by kernel_rfl) (by kernel_rfl)) (by simp) (by simp [AV.ids]) ?_
 repeat' first|(apply nx;with_reducible constructor)|apply jq (by decide)
 (apply jz env;intro Q hQ;simp only [vkt,seval,jN,@true_and,ite_and];(repeat' first|with_reducible assumption|apply jv|intro hp);all_goals first|(apply hQ;clear hQ Q)|(apply jx;kernel_rfl)|omega|assumption|rfl|skip)
 repeat' first|(apply nx;with_reducible constructor)|apply jq (by decide)
 refine Qj (d1:=3) (d2:=4) (t:=65) (e:=76) (x:=.tmp 0) (xs:=xs) rfl rfl rfl rfl rfl rfl underlying65 rfl fun b hb=>?_
 repeat' first|(apply nx;with_reducible constructor)|apply jq (by decide)
 (refine jE (by simp only [vkt,seval,jN,@true_and];rfl) (fun h=>?_) (fun h=>?_) <;> (try simp only [vki,reduceCtorEq] at h))
 ·have hx:=hb h
  subst hx
  repeat' first|(apply nx;with_reducible constructor)|apply jq (by decide)|((first|apply jz env|apply jw);intro Q hQ;simp only [vkt,seval,jN,@true_and,ite_and];(repeat' first|with_reducible assumption|apply jv|intro hp);all_goals first|(apply hQ;clear hQ Q)|(apply jx;kernel_rfl)|omega|assumption|rfl|skip)
  (simp only [vrt,results175,vkt,seval,jN,@true_and];refine Fin.ok (fun _=>none) [] ?_ ?_ ?_ ?_ ?_ rfl;all_goals (try simp only [vle,vkt,seval,jN,@true_and]))
  all_goals simp
 ·repeat' first|(apply nx;with_reducible constructor)|apply jq (by decide)|((first|apply jz env|apply jw);intro Q hQ;simp only [vkt,seval,jN,@true_and,ite_and];(repeat' first|with_reducible assumption|apply jv|intro hp);all_goals first|(apply hQ;clear hQ Q)|(apply jx;kernel_rfl)|omega|assumption|rfl|skip)
  (simp only [vrt,results175,vkt,seval,jN,@true_and];refine Fin.ok some [] ?_ ?_ ?_ ?_ ?_ rfl;all_goals (try simp only [vle,vkt,seval,jN,@true_and]))
  all_goals simp
def J3 (S:St):List AV->Option Pk
 |[.sl xs]=>some { pre:=zu 7 xs/\xs.length<=100000,ar:=[.sl xs],v:=.row 0,L1:=[some (.row 88 7 xs)] }
 |[.row r]=>match S.h r with
  |some (.row _ _ xs)=>some { pre:=zu 7 xs/\xs.length<=100000,bo:=[r],fl:=true,ar:=[.sl xs],v:=.row 0,L1:=[some (.row 88 7 xs)] }
  |_=>none
 |_=>none
def Qdp {A:Frm->Prop}:qm A prog 174 (fnE J3):=zJ fun S bs q h hp=>by
 unfold J3 at h
 split at h
 ·cases h;exact KC _ hp.1 hp.2
 ·split at h
  ·cases h;exact KC _ hp.1 hp.2
  ·cases h
 ·cases h
def J9 (_:St):List AV->Option Pk
 |[.sl xs]=>some { pre:=zu 2 xs/\xs.length<=100000,ar:=[.sl xs],v:=.row 0,L1:=[some (.row 76 2 xs)] }
 |_=>none
def Qke {A:Frm->Prop}:qm A prog 175 (fnE J9):=zJ fun S bs q h hp=>by
 unfold J9 at h
 split at h
 ·cases h;exact QeL _ hp.1 hp.2
 ·cases h
def ibS (b:Bunk) (l:List Bunk) (k:Nat):St:={ t:=asg [(0,qc l),(3,.ptr 0 0),(4,aI 0),(6,qc l),(7,aI l.length),(8,aI k)],h:=qb [(0,.cells [.v (.int .i64 b.cab),.v (.int .i64 b.bed)])],n:=1 }
def LU (b:Bunk) (l:List Bunk):Int:=match l.findIdx? (· == b) with
 |some i=>(i:Int)
 |none=>-1
def QiE {b:Bunk} {l:List Bunk} {k:Nat} (hk:k < l.length) (h:∀ j,j < k->l.getD j default ≠ b) (hp:l.getD k default=b):LU b l=(k:Int):=by
 have:l.findIdx? (· == b)=some k:=by
  rw [dx]
  refine ⟨hk,by simpa [ai,hk] using hp,fun j hj=>?_⟩
  have:=h j hj
  simpa [ai,show j < l.length by omega] using this
 simp [LU,this]
def QdW {b:Bunk} {l:List Bunk} (h:∀ j,j < l.length->l.getD j default ≠ b):LU b l=-1:=by
 have:l.findIdx? (· == b)=none:=by
  rw [dy]
  intro x hx
  obtain ⟨j,hj,rfl⟩:=cu.1 hx
  have:=h j hj
  simpa [ai,hj] using this
 simp [LU,this]
def QhS (b:Bunk) (l:List Bunk):decide (0<=LU b l)=l.contains b:=by
 unfold LU
 cases h:l.findIdx? (· == b) with
 |none =>
  rw [dy] at h
  symm
  simp only [show ¬ (0:Int)<=-1 by decide,decide_false]
  rw [Bool.eq_false_iff]
  intro hc
  have:=h b (by simpa using hc)
  simp at this
 |some i =>
  rw [dx] at h
  obtain ⟨hi,hp,_⟩:=h
  symm
  simp only [cJ,decide_true]
  have:l[i]=b:=by simpa using hp
  rw [<- this];simp
def wh:=jv @ty3 (jv @Vy (jv @vS (jv @ti3.eq_1 (jv @JY.eq_1 @yG.eq_1))))
def xP:=jv @aI.eq_1 (@aB.eq_1)
def Qd1 (b:Bunk) (l:List Bunk) (hl:l.length<=100):FnV prog 209 [qc l,qw b] (aI (LU b l)):=by
 have env:=qA (A:=fun _=>True) kN
 refine kV (Fn0 func209 rfl (fun vs w=>by kernel_rfl) (by kernel_rfl)) (by simp) (by simp [AV.ids,AV.idsL,qc,qw]) ?_
 repeat' first|(apply nx;with_reducible constructor)|apply jq (by decide)|((first|apply jz env|apply jw);intro Q hQ;simp only [vkt,seval,wh,xP,qw,qc,qK,wy,ibS,bm,aT,ite_and];(repeat' first|with_reducible assumption|apply jv|intro hp);all_goals first|(apply hQ;clear hQ Q)|(apply jx;kernel_rfl)|omega|assumption|rfl|skip)
 refine qN (fun k:{ k:Nat // k<=l.length/\∀ j,j < k->l.getD j default ≠ b }=>ibS b l k.1) (fun k=>l.length - k.1) ⟨0,ag _,fun j h=>absurd h (bp _)⟩ ?_ fun ⟨k,hk,hno⟩=>?_
 ·(refine Le.ok some [] ?_;constructor;all_goals (try simp only [vle,vkt,seval,wh,xP,qw,qc,qK,wy,ibS,bm,aT]))
  all_goals first|rfl|simp
 ·repeat' first|(apply nx;with_reducible constructor)|apply jq (by decide)
  (apply jz env;intro Q hQ;simp only [vkt,seval,wh,xP,qw,qc,qK,wy,ibS,bm,aT,ite_and];(repeat' first|with_reducible assumption|apply jv|intro hp);all_goals first|(apply hQ;clear hQ Q)|(apply jx;kernel_rfl)|omega|assumption|rfl|skip)
  repeat' first|(apply nx;with_reducible constructor)|apply jq (by decide)
  (refine jE (by simp only [vkt,seval,wh,xP,qw,qc,qK,wy,ibS,bm,aT];rfl) (fun h=>?_) (fun h=>?_) <;> (try simp only [vki,reduceCtorEq] at h))
  ·have hlt:k < l.length:=by omega
   have e9:=k9 k (by omega)
   obtain ⟨x,hx⟩:∃ x,l.getD k default=x:=⟨_,rfl⟩
   have hxb:(x=b)=(b.cab=x.cab/\b.bed=x.bed):=by
    cases x;cases b;simp;exact ⟨fun ⟨a,b⟩=>⟨a.symm,b.symm⟩,fun ⟨a,b⟩=>⟨a.symm,b.symm⟩⟩
   have hnx:¬ x=b->∀ j,j < k+1->l.getD j default ≠ b:=fun hp j hj=>by
    rcases bq (bt hj) with h1|h1
    ·exact hno j h1
    ·rw [h1,hx];exact hp
   cases q1:decide (b.cab=x.cab)
   ·have hp:¬ x=b:=by rw [hxb];exact fun h=>of_decide_eq_false q1 h.1
    repeat' first|(apply nx;with_reducible constructor)|apply jq (by decide)|((first|apply jz env|apply jw);intro Q hQ;simp only [vkt,seval,wh,xP,qw,qc,qK,wy,ibS,bm,aT,hx,q1,e9,ite_and];(repeat' first|with_reducible assumption|apply jv|intro hp);all_goals first|(apply hQ;clear hQ Q)|(apply jx;kernel_rfl)|omega|assumption|rfl|skip)
    refine ⟨⟨k+1,hlt,hnx hp⟩,by show l.length - (k+1) < l.length - k;omega, ?_⟩
    (refine Le.ok some [] ?_;constructor;all_goals (try simp only [vle,vkt,seval,wh,xP,qw,qc,qK,wy,ibS,bm,aT]))
    all_goals first|rfl|simp
   ·cases q2:decide (b.bed=x.bed)
    ·have hp:¬ x=b:=by rw [hxb];exact fun h=>of_decide_eq_false q2 h.2
     repeat' first|(apply nx;with_reducible constructor)|apply jq (by decide)|((first|apply jz env|apply jw);intro Q hQ;simp only [vkt,seval,wh,xP,qw,qc,qK,wy,ibS,bm,aT,hx,q1,q2,e9,ite_and];(repeat' first|with_reducible assumption|apply jv|intro hp);all_goals first|(apply hQ;clear hQ Q)|(apply jx;kernel_rfl)|omega|assumption|rfl|skip)
     refine ⟨⟨k+1,hlt,hnx hp⟩,by show l.length - (k+1) < l.length - k;omega, ?_⟩
     (refine Le.ok some [] ?_;constructor;all_goals (try simp only [vle,vkt,seval,wh,xP,qw,qc,qK,wy,ibS,bm,aT]))
     all_goals first|rfl|simp
    ·have hh:=QiE hlt hno (by rw [hx,hxb];exact ⟨of_decide_eq_true q1,of_decide_eq_true q2⟩)
     rw [hh]
     repeat' first|(apply nx;with_reducible constructor)|apply jq (by decide)|((first|apply jz env|apply jw);intro Q hQ;simp only [vkt,seval,wh,xP,qw,qc,qK,wy,ibS,bm,aT,hx,q1,q2,e9,ite_and];(repeat' first|with_reducible assumption|apply jv|intro hp);all_goals first|(apply hQ;clear hQ Q)|(apply jx;kernel_rfl)|omega|assumption|rfl|skip)
     (simp only [vrt,results209,vkt,seval,wh,xP,qw,qc,qK,wy,ibS,bm,aT];refine Fin.val rfl ?_;(try simp only [AV.le,AV.leL]))
     all_goals first|rfl|simp
  ·have hke:k=l.length:=by omega
   subst hke
   rw [QdW hno]
   repeat' first|(apply nx;with_reducible constructor)|apply jq (by decide)|((first|apply jz env|apply jw);intro Q hQ;simp only [vkt,seval,wh,xP,qw,qc,qK,wy,ibS,bm,aT,ite_and];(repeat' first|with_reducible assumption|apply jv|intro hp);all_goals first|(apply hQ;clear hQ Q)|(apply jx;kernel_rfl)|omega|assumption|rfl|skip)
   (simp only [vrt,results209,vkt,seval,wh,xP,qw,qc,qK,wy,ibS,bm,aT];refine Fin.val rfl ?_;(try simp only [AV.le,AV.leL]))
   all_goals first|rfl|simp
def Vh:List AV->Prop × AV
 |[.sl l,.agg [.v (.int .i64 b0),.v (.int .i64 b1)]]=>(l=(l.map zO).map qK/\(l.map zO).length<=100,aI (LU (⟨b0,b1⟩:Bunk) (l.map zO)))
 |_=>(False,.junk)
def QjZ {A:Frm->Prop}:qm A prog 209 (zw true Vh):=qL fun vs hv h=>by
 clear hv
 unfold Vh at h ⊢
 split at h
 ·rename_i l b0 b1;obtain ⟨q0,k0⟩:=h
  refine ⟨by first|trivial|(repeat' split) <;> simp [AV.plain,AV.plainL,aI,aB,qz,qc,qy,qw,aTk,cTk],fun _=>(by simp [AV.flat,AV.flatL,aI,aB]), ?_⟩
  have:=Qd1 (⟨b0,b1⟩:Bunk) (l.map zO) k0
  simp only [qw,qc,aI,<- q0] at this
  first|exact this|(simp only [qw,qc,aI,<- q0];exact this)
 ·exact h.elim
def Xl:=jv @ty3 (jv @vS (jv @ti3.eq_1 @yG.eq_1))
def Qgw:=jv @aI.eq_1 (@aB.eq_1)
def Qf3 (b:Bunk) (l:List Bunk) (hl:l.length<=100):FnV prog 176 [qc l,qw b] (aB (l.contains b)):=by
 have env:=qA (A:=fun _=>True) (kC QjZ kN)
 refine kV (Fn0 func176 rfl (fun vs w=>by kernel_rfl) (by kernel_rfl)) (by simp) (by simp [AV.ids,AV.idsL,qc,qw]) ?_
 have ex:(⟨b.cab,b.bed⟩:Bunk)=b:=rfl
 have ea:=QhS b l
 repeat' first|(apply nx;with_reducible constructor)|apply jq (by decide)|((first|apply jz env|apply jw);intro Q hQ;simp only [vkt,seval,Xl,Qgw,qw,qc,qK,Zz,Vh,ao,ex,ea,ite_and];(repeat' first|with_reducible assumption|apply jv|intro hp);all_goals first|(apply hQ;clear hQ Q)|(apply jx;kernel_rfl)|omega|assumption|rfl|skip)
 (simp only [vrt,results176,vkt,seval,Xl,Qgw,qw,qc,qK,Zz,Vh,ao];refine Fin.val rfl ?_;(try simp only [AV.le,AV.leL]))
 all_goals first|rfl|simp
def QZ:List AV->Prop × AV
 |[.sl l,.agg [.v (.int .i64 b0),.v (.int .i64 b1)]]=>(l=(l.map zO).map qK/\(l.map zO).length<=100,aB ((l.map zO).contains (⟨b0,b1⟩:Bunk)))
 |_=>(False,.junk)
def QlX {A:Frm->Prop}:qm A prog 176 (zw true QZ):=qL fun vs hv h=>by
 clear hv
 unfold QZ at h ⊢
 split at h
 ·rename_i l b0 b1;obtain ⟨q0,k0⟩:=h
  refine ⟨by first|trivial|(repeat' split) <;> simp [AV.plain,AV.plainL,aI,aB,qz,qc,qy,qw,aTk,cTk],fun _=>(by simp [AV.flat,AV.flatL,aI,aB]), ?_⟩
  have:=Qf3 (⟨b0,b1⟩:Bunk) (l.map zO) k0
  simp only [qw,qc,aI,<- q0] at this
  first|exact this|(simp only [qw,qc,aI,<- q0];exact this)
 ·exact h.elim
def qg (cs:List Cabin) (s:Int) (r:Nat):AObj:=.cells [.sl (cs.map qx),.v (.int .i64 s),.row r]
def qf (l:List Tk):AObj:=.row 88 7 (l.map eTk)
def qJ (cs:List Cabin) (s:Int) (l:List Tk):List AObj:=[qg cs s 1,qf l]
structure NearOk (cs:List Cabin) (l:List Bunk):Prop where
 ne:0 < l.length
 len:l.length<=100
 cabs:cs.length<=100
 mem:∀ b ∈ l,0<=b.cab/\b.cab.toNat < cs.length
def loK (l:List Bunk) (k:Nat):Int:=(l.take k).foldl (fun m b=>min m b.cab) (l.getD 0 default).cab
def hiK (l:List Bunk) (k:Nat):Int:=(l.take k).foldl (fun m b=>max m b.cab) (l.getD 0 default).cab
def LM {l:List Bunk} {k:Nat} (h:k < l.length):loK l (k+1)=min (loK l k) (l.getD k default).cab:=by
 unfold loK
 rw [bQ h,dQ]
 simp [ai,h]
def Qay {l:List Bunk} {k:Nat} (h:k < l.length):hiK l (k+1)=max (hiK l k) (l.getD k default).cab:=by
 unfold hiK
 rw [bQ h,dQ]
 simp [ai,h]
def QkE (cs:List Cabin) (l:List Bunk):Kr cs l=(decide (loK l l.length=hiK l l.length) || (decide (loK l l.length+1=hiK l l.length) && (cs.getD (loK l l.length).toNat default).door)):=by
 unfold Kr loK hiK
 rw [bO]
def Qe9 {cs:List Cabin} {l:List Bunk} (h:NearOk cs l):∀ k,k<=l.length->0<=loK l k/\(loK l k).toNat < cs.length/\0<=hiK l k/\(hiK l k).toNat < cs.length:=by
 intro k
 induction k with
 |zero =>
  intro _
  have:=h.mem _ (vG (d:=default) h.ne)
  simp only [loK,hiK,dt,List.foldl_nil]
  exact ⟨this.1,this.2,this.1,this.2⟩
 |succ k ih =>
  intro hk
  have h1:=ih (by omega)
  have h2:=h.mem _ (vG (d:=default) (show k < l.length by omega))
  rw [LM (by omega),Qay (by omega)]
  omega
def nrS (cs:List Cabin) (s:Int) (sold:List Tk) (l:List Bunk) (k:Nat) (lo hi:Int):St:={ t:=asg [(0,.ptr 0 0),(1,qc l),(4,aB false),(5,aI lo),(6,aI hi),(17,qc l),(18,aI l.length),(19,aI k)],h:=qb [(0,qg cs s 1),(1,qf sold)],n:=2,m:=2 }
def wD:=jv @ty3 (jv @ty4 (jv @ZF (jv @jm (jv @Vy (jv @vS (jv @ZC (jv @WP (jv @ti3.eq_1 (jv @ti4.eq_1 (jv @Qv.eq_1 (jv @wY.eq_1 (jv @JY.eq_1 (jv @yG.eq_1 (jv @Qz.eq_1 @QC.eq_1))))))))))))))
def yZ:=jv @aI.eq_1 (@aB.eq_1)
def Qkk (cs:List Cabin) (s:Int) (sold:List Tk) (l:List Bunk) (ok:NearOk cs l):Fn noB prog 177 [.ptr 0 0,qc l] (qb (qB 0 (qJ cs s sold))) (aB (Kr cs l)) (qb (ze 0 ((qJ cs s sold).map some))) 0:=by
 have env:=qA (A:=fun _=>True) kN
 refine Fn.of (A:=fun _=>True) (n0:=2) (D:=noD) (Fn0 func177 rfl (fun vs w=>by kernel_rfl) (by kernel_rfl)) (by simp) (by simp [AV.ids,AV.idsL,qc]) ?_ (fun _ _ _ _=>trivial) qX ?_
 ·intro i o hi
  have h:=qG hi
  simp [qB,qJ] at h
  rcases h with ⟨rfl,rfl⟩|⟨rfl,rfl⟩ <;> simp [AObj.ids,AV.ids,AV.idsL,qg,qf]
 have hne:=ok.ne
 have hll:=ok.len
 have hcl:=ok.cabs
 have hbd:=Qe9 ok
 obtain ⟨x0,hx0⟩:∃ x,l.getD 0 default=x:=⟨_,rfl⟩
 have l0:loK l 0=x0.cab:=by rw [<- hx0];rfl
 have h0:hiK l 0=x0.cab:=by rw [<- hx0];rfl
 rw [QkE]
 show Sym _ _ _ (qV [.ptr 0 0,qc l] 2 (qb [(0,qg cs s 1),(1,qf sold)])) (yc tyB noD Tryz.f177 fun S rv=>Fin S rv _ 2 (qb [(0,qg cs s 1),(1,qf sold)]) 0)
 repeat' first|(apply nx;with_reducible constructor)|apply jq (by decide)|((first|apply jz env|apply jw);intro Q hQ;simp only [vkt,seval,wD,yZ,qw,qc,qK,wy,qx,zX,qg,qf,qJ,nrS,ao,hx0,ite_and];(repeat' first|with_reducible assumption|apply jv|intro hp);all_goals first|(apply hQ;clear hQ Q)|(apply jx;kernel_rfl)|omega|assumption|rfl|skip)
 refine qN (fun k:{ k:Nat // k<=l.length }=>nrS cs s sold l k.1 (loK l k.1) (hiK l k.1)) (fun k=>l.length - k.1) ⟨0,ag _⟩ ?_ fun ⟨k,hk⟩=>?_
 ·simp only [l0,h0]
  (refine Le.ok some [] ?_;constructor;all_goals (try simp only [vle,vkt,seval,wD,yZ,qw,qc,qK,wy,qx,zX,qg,qf,qJ,nrS,ao]))
  all_goals first|rfl|simp
 ·repeat' first|(apply nx;with_reducible constructor)|apply jq (by decide)
  (apply jz env;intro Q hQ;simp only [vkt,seval,wD,yZ,qw,qc,qK,wy,qx,zX,qg,qf,qJ,nrS,ao,ite_and];(repeat' first|with_reducible assumption|apply jv|intro hp);all_goals first|(apply hQ;clear hQ Q)|(apply jx;kernel_rfl)|omega|assumption|rfl|skip)
  repeat' first|(apply nx;with_reducible constructor)|apply jq (by decide)
  (refine jE (by simp only [vkt,seval,wD,yZ,qw,qc,qK,wy,qx,zX,qg,qf,qJ,nrS,ao];rfl) (fun h=>?_) (fun h=>?_) <;> (try simp only [vki,reduceCtorEq] at h))
  ·have hlt:k < l.length:=by omega
   have e9:=k9 k (by omega)
   obtain ⟨x,hx⟩:∃ x,l.getD k default=x:=⟨_,rfl⟩
   have hl1:=LM hlt
   have hh1:=Qay hlt
   rw [hx] at hl1 hh1
   repeat' first|(apply nx;with_reducible constructor)|apply jq (by decide)|((first|apply jz env|apply jw);intro Q hQ;simp only [vkt,seval,wD,yZ,qw,qc,qK,wy,qx,zX,qg,qf,qJ,nrS,ao,hx,e9,ite_and];(repeat' first|with_reducible assumption|apply jv|intro hp);all_goals first|(apply hQ;clear hQ Q)|(apply jx;kernel_rfl)|omega|assumption|rfl|skip)
   refine ⟨⟨k+1,hlt⟩,by show l.length - (k+1) < l.length - k;omega, ?_⟩
   simp only [hl1,hh1]
   (refine Le.ok some [] ?_;constructor;all_goals (try simp only [vle,vkt,seval,wD,yZ,qw,qc,qK,wy,qx,zX,qg,qf,qJ,nrS,ao]))
   all_goals first|rfl|simp
  ·have hke:k=l.length:=by omega
   subst hke
   obtain ⟨g1,g2,g3,g4⟩:=hbd l.length (aw _)
   obtain ⟨lo,hlo⟩:∃ x,loK l l.length=x:=⟨_,rfl⟩
   obtain ⟨hi,hhi⟩:∃ x,hiK l l.length=x:=⟨_,rfl⟩
   rw [hlo] at g1 g2
   rw [hhi] at g3 g4
   obtain ⟨x,hx⟩:∃ x,cs.getD lo.toNat default=x:=⟨_,rfl⟩
   have w1:IntKind.wrap .i64 (lo+1)=lo+1:=wrap64 (by omega) (by omega)
   simp only [hlo,hhi]
   by_cases c1:lo=hi
   ·rw [show (decide (lo=hi) || (decide (lo+1=hi) && (cs.getD lo.toNat default).door))=true by simp [c1]]
    have d1:decide (lo=hi)=true:=decide_eq_true c1
    have d1':(lo == hi)=true:=by simpa using c1
    repeat' first|(apply nx;with_reducible constructor)|apply jq (by decide)|((first|apply jz env|apply jw);intro Q hQ;simp only [vkt,seval,wD,yZ,qw,qc,qK,wy,qx,zX,qg,qf,qJ,nrS,ao,d1,d1',w1,hx,g1,g2,ite_and];(repeat' first|with_reducible assumption|apply jv|intro hp);all_goals first|(apply hQ;clear hQ Q)|(apply jx;kernel_rfl)|omega|assumption|rfl|skip)
    (simp only [vrt,results177,vkt,seval,wD,yZ,qw,qc,qK,wy,qx,zX,qg,qf,qJ,nrS,ao];refine Fin.ok some [] ?_ ?_ ?_ ?_ ?_ rfl;all_goals (try simp only [vle,vkt,seval,wD,yZ,qw,qc,qK,wy,qx,zX,qg,qf,qJ,nrS,ao]))
    all_goals first|rfl|simp
   ·have d1:decide (lo=hi)=false:=decide_eq_false c1
    have d1':(lo == hi)=false:=by simpa using c1
    by_cases c2:lo+1=hi
    ·rw [show (decide (lo=hi) || (decide (lo+1=hi) && (cs.getD lo.toNat default).door))=x.door by rw [d1,hx,decide_eq_true c2];simp]
     have d2:decide (lo+1=hi)=true:=decide_eq_true c2
     have d2':(lo+1 == hi)=true:=by simpa using c2
     repeat' first|(apply nx;with_reducible constructor)|apply jq (by decide)|((first|apply jz env|apply jw);intro Q hQ;simp only [vkt,seval,wD,yZ,qw,qc,qK,wy,qx,zX,qg,qf,qJ,nrS,ao,d1,d1',d2,d2',w1,hx,g1,g2,ite_and];(repeat' first|with_reducible assumption|apply jv|intro hp);all_goals first|(apply hQ;clear hQ Q)|(apply jx;kernel_rfl)|omega|assumption|rfl|skip)
     (simp only [vrt,results177,vkt,seval,wD,yZ,qw,qc,qK,wy,qx,zX,qg,qf,qJ,nrS,ao];refine Fin.ok some [] ?_ ?_ ?_ ?_ ?_ rfl;all_goals (try simp only [vle,vkt,seval,wD,yZ,qw,qc,qK,wy,qx,zX,qg,qf,qJ,nrS,ao]))
     all_goals first|rfl|simp
    ·rw [show (decide (lo=hi) || (decide (lo+1=hi) && (cs.getD lo.toNat default).door))=false by rw [d1,decide_eq_false c2];rfl]
     have d2:decide (lo+1=hi)=false:=decide_eq_false c2
     have d2':(lo+1 == hi)=false:=by simpa using c2
     repeat' first|(apply nx;with_reducible constructor)|apply jq (by decide)|((first|apply jz env|apply jw);intro Q hQ;simp only [vkt,seval,wD,yZ,qw,qc,qK,wy,qx,zX,qg,qf,qJ,nrS,ao,d1,d1',d2,d2',w1,hx,g1,g2,ite_and];(repeat' first|with_reducible assumption|apply jv|intro hp);all_goals first|(apply hQ;clear hQ Q)|(apply jx;kernel_rfl)|omega|assumption|rfl|skip)
     (simp only [vrt,results177,vkt,seval,wD,yZ,qw,qc,qK,wy,qx,zX,qg,qf,qJ,nrS,ao];refine Fin.ok some [] ?_ ?_ ?_ ?_ ?_ rfl;all_goals (try simp only [vle,vkt,seval,wD,yZ,qw,qc,qK,wy,qx,zX,qg,qf,qJ,nrS,ao]))
     all_goals first|rfl|simp
def vZ {cs:List Cabin} {s:Int} {l:List Tk}:∀ i o,qb (qB 0 (qJ cs s l)) i=some o->i < 2/\∀ id ∈ o.ids,id < 2:=by
 intro i o hi
 have h:=qG hi
 simp [qB,qJ] at h
 rcases h with ⟨rfl,rfl⟩|⟨rfl,rfl⟩ <;> simp [AObj.ids,AV.ids,AV.idsL,qg,qf]
def YV (S:St):List AV->Option Pk
 |[.ptr c 0,.sl bs]=>match S.h c with
  |some (.cells [.sl cs,.v (.int .i64 s),.row r])=>match S.h r with
   |some (.row _ _ xs)=>some { pre:=bs=(bs.map zO).map qK/\cs=(cs.map qh).map qx/\xs=(xs.map dTk).map eTk/\NearOk (cs.map qh) (bs.map zO),hs:=[c,r],ar:=[.ptr 0 0,.sl bs],L0:=qJ (cs.map qh) s (xs.map dTk),v:=aB (Kr (cs.map qh) (bs.map zO)),L1:=(qJ (cs.map qh) s (xs.map dTk)).map some }
   |_=>none
  |_=>none
 |_=>none
def eNear {A:Frm->Prop}:qm A prog 177 (fnE YV):=zJ fun S bs q h hp=>by
 unfold YV at h
 split at h
 ·split at h
  ·split at h
   ·cases h
    obtain ⟨h1,h2,h3,h4⟩:=hp
    have:=Qkk _ (by assumption) (List.map dTk (by assumption)) _ h4
    rw [qc,<- h1] at this
    exact this
   ·cases h
  ·cases h
 ·cases h
def Qfx:=jv @vJ (jv @jm (jv @Qa (jv @jC (jv @WP (jv @yI.eq_1 (jv @wY.eq_1 (jv @xQ.eq_1 (jv @je.eq_1 @QC.eq_1))))))))
def Qgb:=jv @aI.eq_1 (@aB.eq_1)
def Qko (cs:List Cabin) (s:Int) (sold:List Tk) (t:Tk) (hl:sold.length<=100):Fn noB prog 178 [.ptr 0 0,aTk t] (qb (qB 0 (qJ cs s sold))) (aB (decide (wE t sold=0))) (qb (ze 0 ((qJ cs s sold).map some))) 0:=by
 have env:=qA (A:=fun _=>True) (kC QcI kN)
 refine Fn.of (A:=fun _=>True) (n0:=2) (D:=noD) (Fn0 func178 rfl (fun vs w=>by kernel_rfl) (by kernel_rfl)) (by simp) (by simp [AV.ids,AV.idsL,aTk,cTk]) vZ (fun _ _ _ _=>trivial) qX ?_
 have et:(⟨t.party,t.sex,t.cab,t.bed,t.frm,t.to,t.dog⟩:Tk)=t:=rfl
 show Sym _ _ _ (qV [.ptr 0 0,aTk t] 2 (qb [(0,qg cs s 1),(1,qf sold)])) (yc tyB noD Tryz.f178 fun S rv=>Fin S rv _ 2 (qb [(0,qg cs s 1),(1,qf sold)]) 0)
 repeat' first|(apply nx;with_reducible constructor)|apply jq (by decide)|((first|apply jz env|apply jw);intro Q hQ;simp only [vkt,seval,Qfx,Qgb,aTk,cTk,mTk,qg,qf,Vd,et,ite_and];(repeat' first|with_reducible assumption|apply jv|intro hp);all_goals first|(apply hQ;clear hQ Q)|(apply jx;kernel_rfl)|omega|assumption|rfl|skip)
 (simp only [vrt,results178,vkt,seval,Qgb,qg,qf];refine Fin.ok some [] ?_ ?_ ?_ ?_ ?_ rfl;all_goals (try simp only [vle,vkt,seval]))
 all_goals first|rfl|simp
def VI (S:St):List AV->Option Pk
 |[.ptr c 0,.agg [.v (.int .i64 a),.v (.int .i64 b),.v (.int .i64 d),.v (.int .i64 e),.v (.int .i64 f),.v (.int .i64 g),.v (.bool k)]]=>match S.h c with
  |some (.cells [.sl cs,.v (.int .i64 s),.row r])=>match S.h r with
   |some (.row _ _ xs)=>some { pre:=cs=(cs.map qh).map qx/\xs=(xs.map dTk).map eTk/\xs.length<=100,hs:=[c,r],ar:=[.ptr 0 0,.agg [.v (.int .i64 a),.v (.int .i64 b),.v (.int .i64 d),.v (.int .i64 e),.v (.int .i64 f),.v (.int .i64 g),.v (.bool k)]],L0:=qJ (cs.map qh) s (xs.map dTk),v:=aB (decide (wE ⟨a,b,d,e,f,g,k⟩ (xs.map dTk)=0)),L1:=(qJ (cs.map qh) s (xs.map dTk)).map some }
   |_=>none
  |_=>none
 |_=>none
def eFits {A:Frm->Prop}:qm A prog 178 (fnE VI):=zJ fun S bs q h hp=>by
 unfold VI at h
 split at h
 ·rename_i a b d e f g k
  split at h
  ·split at h
   ·rename_i s _ _ _ _ xs _
    cases h
    obtain ⟨h1,h2,h3⟩:=hp
    exact Qko _ _ _ ⟨a,b,d,e,f,g,k⟩ (by rw [ao];exact h3)
   ·cases h
  ·cases h
 ·cases h
def Qjf {l:List Tk} {r:List DV} {d:DV} (hr:r ∈ l.map eTk) (hd:d ∈ r):∃ x,d=.v x:=by
 obtain ⟨t,_,rfl⟩:=ap.1 hr
 simp only [eTk,ah,aX,or_false] at hd
 rcases hd with rfl|rfl|rfl|rfl|rfl|rfl|rfl <;> exact ⟨_,rfl⟩
def VR (cs:List Cabin) (s:Int) (l:List Tk) (t:Tk):List AObj:=[qg cs s 4,qf l,.cells [.row 1],.cells [.ptr 0 0],qf (l++[t])]
def Qd3:=jv @vJ (jv @jm (jv @jC (jv @QM (jv @WP (jv @yI.eq_1 (jv @wY.eq_1 (jv @je.eq_1 (jv @xW.eq_1 @QC.eq_1))))))))
def QjA (cs:List Cabin) (s:Int) (sold:List Tk) (t:Tk) (hl:sold.length<=100):Fn noB prog 210 [.ptr 0 0,aTk t] (qb (qB 0 (qJ cs s sold))) (.clo 224 [.ptr 2 0,.ptr 3 0]) (qb (ze 0 ((VR cs s sold t).map some))) 0:=by
 have env:=qA (A:=fun _=>True) (kC Qdp kN)
 refine Fn.of (A:=fun _=>True) (n0:=2) (D:=noD) (Fn0 func210 rfl (fun vs w=>by kernel_rfl) (by kernel_rfl)) (by simp) (by simp [AV.ids,AV.idsL,aTk,cTk]) vZ (fun _ _ _ _=>trivial) qX ?_
 have hm:(100:Nat)+1<=maxLen:=by decide
 show Sym _ _ _ (qV [.ptr 0 0,aTk t] 2 (qb [(0,qg cs s 1),(1,qf sold)])) (yc tyB noD Tryz.f210 fun S rv=>Fin S rv _ 2 (qb [(0,qg cs s 4),(1,qf sold),(2,.cells [.row 1]),(3,.cells [.ptr 0 0]),(4,qf (sold++[t]))]) 0)
 repeat' first|(apply nx;with_reducible constructor)|apply jq (by decide)|((first|apply jz env|apply jw);intro Q hQ;simp only [vkt,seval,Qd3,aTk,cTk,rTk,qg,qf,J3,ite_and];(repeat' first|with_reducible assumption|apply jv|intro hp);all_goals first|(apply hQ;clear hQ Q)|(apply jx;kernel_rfl)|omega|assumption|rfl|skip)
 ·exact ⟨_,_,rfl⟩
 ·exact Qjf (by assumption) (by assumption)
 (simp only [vrt,results210,vkt,seval,eTk,qg,qf,aq];refine Fin.ok (fun j=>[0,1,4,2,7][j]?) [] ?_ ?_ ?_ ?_ ?_ rfl;all_goals (try simp only [vle,vkt,seval]))
 all_goals first|rfl|(simp;done)|exact fun i hi=>(match i,hi with|0,_=>rfl|1,_=>rfl)
def Qdk (S:St):List AV->Option Pk
 |[.ptr c 0,.agg [.v (.int .i64 a),.v (.int .i64 b),.v (.int .i64 d),.v (.int .i64 e),.v (.int .i64 f),.v (.int .i64 g),.v (.bool k)]]=>match S.h c with
  |some (.cells [.sl cs,.v (.int .i64 s),.row r])=>match S.h r with
   |some (.row _ _ xs)=>some { pre:=cs=(cs.map qh).map qx/\xs=(xs.map dTk).map eTk/\xs.length<=100,hs:=[c,r],ar:=[.ptr 0 0,.agg [.v (.int .i64 a),.v (.int .i64 b),.v (.int .i64 d),.v (.int .i64 e),.v (.int .i64 f),.v (.int .i64 g),.v (.bool k)]],L0:=qJ (cs.map qh) s (xs.map dTk),v:=.clo 224 [.ptr 2 0,.ptr 3 0],L1:=(VR (cs.map qh) s (xs.map dTk) ⟨a,b,d,e,f,g,k⟩).map some }
   |_=>none
  |_=>none
 |_=>none
def eSell {A:Frm->Prop}:qm A prog 210 (fnE Qdk):=zJ fun S bs q h hp=>by
 unfold Qdk at h
 split at h
 ·rename_i a b d e f g k
  split at h
  ·split at h
   ·cases h
    obtain ⟨h1,h2,h3⟩:=hp
    exact QjA _ _ _ ⟨a,b,d,e,f,g,k⟩ (by rw [ao];exact h3)
   ·cases h
  ·cases h
 ·cases h
def Qb5:=jv @vJ (jv @jm (jv @jC (jv @QM (jv @WP (jv @yI.eq_1 (jv @wY.eq_1 (jv @je.eq_1 (jv @xW.eq_1 @QC.eq_1))))))))
def QiC (cs:List Cabin) (s:Int) (sold:List Tk) (t:Tk):FnD prog 224 [.ptr 2 0,.ptr 3 0] (qb (qB 0 (VR cs s sold t))) (.tup []) (qb (ze 0 ([qg cs s 1,qf sold,.cells [.row 1],.cells [.ptr 0 0],qf (sold++[t])].map some))):=by
 have env:Env (fun F=>F.r=none) prog tyB (tab []):=qA trivial
 refine FnD.of (n0:=5) (Fn0 func224 rfl (fun vs w=>by kernel_rfl) (by kernel_rfl)) (by simp) (by simp [AV.ids]) ?_ ?_
 ·intro i o hi
  have h:=qG hi
  simp [qB,VR] at h
  rcases h with ⟨rfl,rfl⟩|⟨rfl,rfl⟩|⟨rfl,rfl⟩|⟨rfl,rfl⟩|⟨rfl,rfl⟩ <;> simp [AObj.ids,AV.ids,AV.idsL,qg,qf]
 show Sym _ _ _ (qV [.ptr 2 0,.ptr 3 0] 5 (qb [(0,qg cs s 4),(1,qf sold),(2,.cells [.row 1]),(3,.cells [.ptr 0 0]),(4,qf (sold++[t]))])) (Qg9 tyB Tryz.f224 fun S rv=>Fin S rv _ 5 (qb [(0,qg cs s 1),(1,qf sold),(2,.cells [.row 1]),(3,.cells [.ptr 0 0]),(4,qf (sold++[t]))]) 0)
 repeat' first|(apply nx;with_reducible constructor)|apply jq (by decide)|((first|apply jz env|apply jw);intro Q hQ;simp only [vkt,seval,Qb5,qg,qf,ite_and];(repeat' first|with_reducible assumption|apply jv|intro hp);all_goals first|(apply hQ;clear hQ Q)|(apply jx;kernel_rfl)|omega|assumption|rfl|skip)
 simp only [Qg9.eq_1]
 refine ⟨trivial, ?_⟩
 (simp only [vrt,results224,vkt,seval,qg,qf];refine Fin.ok some [] ?_ ?_ ?_ ?_ ?_ rfl;all_goals (try simp only [vle,vkt,seval]))
 all_goals first|rfl|simp
def Uw (S:St):List AV->Option Pk
 |[.ptr b 0,.ptr q 0]=>match S.h b,S.h q with
  |some (.cells [.row r]),some (.cells [.ptr c 0])=>match S.h c with
   |some (.cells [.sl cs,.v (.int .i64 s),.row r'])=>match S.h r,S.h r' with
    |some (.row _ _ xs),some (.row _ _ ys)=>some { pre:=cs=(cs.map qh).map qx/\ys=(xs.map dTk).map eTk++[ys.getLastD []]/\ys.getLastD []=eTk (dTk (ys.getLastD [])),hs:=[c,r,b,q,r'],ar:=[.ptr 2 0,.ptr 3 0],L0:=VR (cs.map qh) s (xs.map dTk) (dTk (ys.getLastD [])),v:=.tup [],L1:=[qg (cs.map qh) s 1,qf (xs.map dTk),.cells [.row 1],.cells [.ptr 0 0],qf (xs.map dTk++[dTk (ys.getLastD [])])].map some }
    |_,_=>none
   |_=>none
  |_,_=>none
 |_=>none
def QmT {A:Frm->Prop}:yP.OK A prog (dfE 224 Uw):=QgI fun S bs q h hp=>by
 unfold Uw at h
 split at h
 ·split at h
  ·split at h
   ·split at h
    ·cases h
     exact QiC _ _ _ _
    ·cases h
   ·cases h
  ·cases h
 ·cases h
def zS (cs:List Cabin) (a:Ask):Nat->List Tk->List Bunk->List (List Bunk × List Tk)
 |0,sold,begun=>[(begun,sold)]
 |m+1,sold,begun=>(qZ cs).flatMap fun b=>if goB cs a sold begun b then zS cs a m (sold++[WM a begun.length b]) (begun++[b]) else []
structure GrowOk (cs:List Cabin) (s:Int) (a:Ask) (m:Nat) (sold:List Tk) (begun:List Bunk) (ys:Nat->List AV) (hl:Nat->List AObj) (ans:Nat->Bool) (R:Nat):Prop where
 sz:begun.length+m=a.sexes.length
 sx:a.sexes.length<=10
 cab:CabsOk cs
 c100:cs.length<=100
 many:sold.length+m<=100
 mem:∀ b ∈ begun,0<=b.cab/\b.cab.toNat < cs.length
 rounds:Rounds ans R (zS cs a m sold begun).length
 ys:∀ j,j < (zS cs a m sold begun).length->ys j=[qc ((zS cs a m sold begun).getD j default).1]
 hl:∀ j,j < (zS cs a m sold begun).length->hl j=qJ cs s ((zS cs a m sold begun).getD j default).2
def Vs (cs:List Cabin) (s:Int) (a:Ask) (m:Nat):Prop:=∀ (sold:List Tk) (begun:List Bunk) (ys:Nat->List AV) (hl:Nat->List AObj) (ans:Nat->Bool) (R:Nat),GrowOk cs s a m sold begun ys hl ans R ->
 Fn (Bcc prog (qb (qB 0 [qg cs s 1])) (qb (qB 0 (qJ cs s sold))) ys (fun j=>nth (hl j)) ans R) prog 141 [.ptr 0 0,zl a,qc begun,.cb] (qb (qB 0 (qJ cs s sold))) (aB (xK ans R)) (qb (ze 0 ((qJ cs s sold).map some))) R
def QcJ (cs:List Cabin) (s:Int) (a:Ask) (m:Nat) (ys:Nat->List AV) (hl:Nat->List AObj) (ans:Nat->Bool) (R:Nat) (S:St):List AV->Option PkI
 |[.ptr c 0,.agg aa,.sl bs,.cb]=>match S.h c with
  |some (.cells [.sl cc,.v (.int .i64 s'),.row r])=>match S.h r with
   |some (.row _ _ xs)=>some { q:={ pre:=cc=cs.map qx/\s'=s/\aa=qo a/\bs=(bs.map zO).map qK/\xs=(xs.map dTk).map eTk/\GrowOk cs s a m (xs.map dTk) (bs.map zO) (fun j=>ys (S.j+j)) (fun j=>hl (S.j+j)) (fun j=>ans (S.j+j)) (min (zS cs a m (xs.map dTk) (bs.map zO)).length (R - S.j)),hs:=[c,r],ar:=[.ptr 0 0,.agg aa,.sl bs,.cb],L0:=qJ cs s (xs.map dTk),v:=aB (xK (fun j=>ans (S.j+j)) (min (zS cs a m (xs.map dTk) (bs.map zO)).length (R - S.j))),L1:=(qJ cs s (xs.map dTk)).map some },dj:=min (zS cs a m (xs.map dTk) (bs.map zO)).length (R - S.j) }
   |_=>none
  |_=>none
 |_=>none
def eGrow {A:Frm->Prop} {cs:List Cabin} {s:Int} {a:Ask} {m:Nat} {ys:Nat->List AV} {hl:Nat->List AObj} {ans:Nat->Bool} {R:Nat} {h0:Nat->Option AObj} (ih:Vs cs s a m) (hA:∀ F,A F->Acb prog (qb (qB 0 [qg cs s 1])) h0 ys (fun j=>nth (hl j)) ans R F) :
  qm A prog 141 (fnI [qg cs s 1] R (QcJ cs s a m ys hl ans R)):=Rj hA fun S bs q h hp=>by
 unfold QcJ at h
 split at h
 ·split at h
  ·split at h
   ·cases h
    obtain ⟨_,_,h3,h4,_,h6⟩:=hp
    have:=ih _ _ _ _ _ _ h6
    rw [qc,<- h4,zl,<- h3] at this
    exact this
   ·cases h
  ·cases h
 ·cases h
def g1L (cs:List Cabin) (s:Int) (a:Ask) (sold:List Tk) (begun:List Bunk):List AObj:=[qg cs s 1,qf sold,.cells [.ptr 0 0],.cells (qo a),.cells [.sl (begun.map qK)],.cells [.cb]]
def Qh6 {cs:List Cabin} {s:Int} {a:Ask} {sold:List Tk} {begun:List Bunk}:∀ i o,qb (qB 0 (g1L cs s a sold begun)) i=some o->i < 6/\∀ id ∈ o.ids,id < 6:=by
 intro i o hi
 have h:=qG hi
 simp [qB,g1L] at h
 rcases h with ⟨rfl,rfl⟩|⟨rfl,rfl⟩|⟨rfl,rfl⟩|⟨rfl,rfl⟩|⟨rfl,rfl⟩|⟨rfl,rfl⟩ <;> simp [AObj.ids,AV.ids,AV.idsL,qg,qf,qo]
def Qhl {cs:List Cabin} {s:Int} {r:List AObj}:∀ i o,qb (qB 0 [qg cs s 1]) i=some o->∃ o',qb (qB 0 (qg cs s 1 :: r)) i=some o':=fun i o hi=>by
 rw [zZ] at hi
 cases i with
 |zero=>exact ⟨_,rfl⟩
 |succ i=>simp at hi
def Ue (cs:List Cabin) (s:Int) (a:Ask) (m:Nat):Prop:=∀ (sold:List Tk) (begun:List Bunk) (ys:Nat->List AV) (hl:Nat->List AObj) (ans:Nat->Bool) (R:Nat),GrowOk cs s a m sold begun ys hl ans R ->
 Fn (Bcc prog (qb (qB 0 [qg cs s 1])) (qb (qB 0 (g1L cs s a sold begun))) ys (fun j=>nth (hl j)) ans R) prog 180 [.ptr 2 0,.ptr 3 0,.ptr 4 0,.ptr 5 0] (qb (qB 0 (g1L cs s a sold begun))) (aB (xK ans R)) (qb (ze 0 ((g1L cs s a sold begun).map some))) R
def Qcq:=jv @Jp (jv @Vy (jv @vS (jv @QM (jv @Qlw (jv @ZG.eq_1 (jv @JY.eq_1 (jv @yG.eq_1 (jv @xW.eq_1 @UT.eq_1))))))))
def QiW:=jv @aI.eq_1 (@aB.eq_1)
def Qha {cs:List Cabin} {s:Int} {a:Ask} {m:Nat} (ih:Vs cs s a m):Ue cs s a m:=by
 intro sold begun ys hl ans R ok
 obtain ⟨A0,hA0⟩:∃ A0:Frm->Prop,A0=Acb prog (qb (qB 0 [qg cs s 1])) (qb (qB 0 (g1L cs s a sold begun))) ys (fun j=>nth (hl j)) ans R:=⟨_,rfl⟩
 have hA:∀ F,A0 F->Acb prog (qb (qB 0 [qg cs s 1])) (qb (qB 0 (g1L cs s a sold begun))) ys (fun j=>nth (hl j)) ans R F:=fun F h=>hA0 ▸ h
 have env:Env A0 prog tyB (tab [(141,fnI [qg cs s 1] R (QcJ cs s a m ys hl ans R))]):=qA ⟨eGrow ih hA,trivial⟩
 refine Fn.of (A:=A0) (n0:=6) (D:=noD) (Fn0 func180 rfl (fun vs w=>by kernel_rfl) (by kernel_rfl)) (by simp) (by simp [AV.ids]) Qh6 (fun F hb h0 _=>hA0 ▸ ⟨h0,Qhl,hb⟩) qX ?_
 have hle:=ok.rounds.le
 have eR:min (zS cs a m sold begun).length R=R:=by omega
 have ea1:a.sexes=a.sexes:=rfl
 show Sym _ _ _ (qV [.ptr 2 0,.ptr 3 0,.ptr 4 0,.ptr 5 0] 6 (qb [(0,qg cs s 1),(1,qf sold),(2,.cells [.ptr 0 0]),(3,.cells (qo a)),(4,.cells [.sl (begun.map qK)]),(5,.cells [.cb])])) (yc tyB noD Tryz.f180 fun S rv=>Fin S rv _ 6 (qb [(0,qg cs s 1),(1,qf sold),(2,.cells [.ptr 0 0]),(3,.cells (qo a)),(4,.cells [.sl (begun.map qK)]),(5,.cells [.cb])]) R)
 repeat' first|(apply nx;with_reducible constructor)|apply jq (by decide)|((first|apply jz env|apply jw);intro Q hQ;simp only [vkt,seval,Qcq,QiW,qo,Zz,mTk,qg,qf,qJ,QcJ,fnI,Y0,hwL,aO,eR,ok,ite_and];(repeat' first|with_reducible assumption|apply jv|intro hp);all_goals first|(apply hQ;clear hQ Q)|(apply jx;kernel_rfl)|omega|assumption|rfl|skip)
 (simp only [vrt,results180,vkt,seval,QiW,qo,qg,qf];refine Fin.ok some [] ?_ ?_ ?_ ?_ ?_ rfl;all_goals (try simp only [vle,vkt,seval]))
 all_goals first|rfl|(simp;done)|exact fun i hi=>(match i,hi with|0,_=>rfl|1,_=>rfl)
def Ru (cs:List Cabin) (s:Int) (a:Ask) (m:Nat) (ys:Nat->List AV) (hl:Nat->List AObj) (ans:Nat->Bool) (R:Nat) (S:St):List AV->Option PkI
 |[.ptr p2 0,.ptr p3 0,.ptr p4 0,.ptr p5 0]=>match S.h p2,S.h p3,S.h p4,S.h p5 with
  |some (.cells [.ptr c 0]),some (.cells aa),some (.cells [.sl bs]),some (.cells [.cb])=>match S.h c with
   |some (.cells [.sl cc,.v (.int .i64 s'),.row r])=>match S.h r with
    |some (.row _ _ xs)=>some { q:={ pre:=cc=cs.map qx/\s'=s/\aa=qo a/\bs=(bs.map zO).map qK/\xs=(xs.map dTk).map eTk/\GrowOk cs s a m (xs.map dTk) (bs.map zO) (fun j=>ys (S.j+j)) (fun j=>hl (S.j+j)) (fun j=>ans (S.j+j)) (min (zS cs a m (xs.map dTk) (bs.map zO)).length (R - S.j)),hs:=[c,r,p2,p3,p4,p5],ar:=[.ptr 2 0,.ptr 3 0,.ptr 4 0,.ptr 5 0],L0:=g1L cs s a (xs.map dTk) (bs.map zO),v:=aB (xK (fun j=>ans (S.j+j)) (min (zS cs a m (xs.map dTk) (bs.map zO)).length (R - S.j))),L1:=(g1L cs s a (xs.map dTk) (bs.map zO)).map some },dj:=min (zS cs a m (xs.map dTk) (bs.map zO)).length (R - S.j) }
    |_=>none
   |_=>none
  |_,_,_,_=>none
 |_=>none
def Qm6 {A:Frm->Prop} {cs:List Cabin} {s:Int} {a:Ask} {m:Nat} {ys:Nat->List AV} {hl:Nat->List AObj} {ans:Nat->Bool} {R:Nat} {h0:Nat->Option AObj} (ih:Ue cs s a m) (hA:∀ F,A F->Acb prog (qb (qB 0 [qg cs s 1])) h0 ys (fun j=>nth (hl j)) ans R F) :
  qm A prog 180 (fnI [qg cs s 1] R (Ru cs s a m ys hl ans R)):=Rj hA fun S bs q h hp=>by
 unfold Ru at h
 split at h
 ·split at h
  ·split at h
   ·split at h
    ·cases h
     obtain ⟨_,_,_,_,_,h6⟩:=hp
     exact ih _ _ _ _ _ _ h6
    ·cases h
   ·cases h
  ·cases h
 ·cases h
def Qbg (cs:List Cabin) (s:Int) (a:Ask) (m:Nat):Prop:=∀ (sold:List Tk) (t:Tk) (begun:List Bunk) (ys:Nat->List AV) (hl:Nat->List AObj) (ans:Nat->Bool) (R:Nat),GrowOk cs s a m (sold++[t]) begun ys hl ans R ->
 Fn (Bcc prog (qb (qB 0 [qg cs s 1])) (qb (qB 0 (g1L cs s a sold begun))) ys (fun j=>nth (hl j)) ans R) prog 179 [.ptr 0 0,aTk t,.clo 180 [.ptr 2 0,.ptr 3 0,.ptr 4 0,.ptr 5 0]] (qb (qB 0 (g1L cs s a sold begun))) (aB (xK ans R)) (qb (ze 0 ((g1L cs s a sold begun).map some))) R
def QfG:=jv @jC @je.eq_1
def Qhe:=jv @aI.eq_1 (@aB.eq_1)
def Qi7 {cs:List Cabin} {s:Int} {a:Ask} {m:Nat} (ih:Ue cs s a m):Qbg cs s a m:=by
 intro sold t begun ys hl ans R ok
 obtain ⟨A0,hA0⟩:∃ A0:Frm->Prop,A0=fun F=>F.r=none/\Acb prog (qb (qB 0 [qg cs s 1])) (qb (qB 0 (g1L cs s a sold begun))) ys (fun j=>nth (hl j)) ans R F:=⟨_,rfl⟩
 have hr:∀ F,A0 F->F.r=none:=fun F h=>by rw [hA0] at h;exact h.1
 have hA:∀ F,A0 F->Acb prog (qb (qB 0 [qg cs s 1])) (qb (qB 0 (g1L cs s a sold begun))) ys (fun j=>nth (hl j)) ans R F:=fun F h=>by rw [hA0] at h;exact h.2
 have env:Env A0 prog tyB (tab [(210,fnE Qdk),(180,fnI [qg cs s 1] R (Ru cs s a m ys hl ans R))]):=qA ⟨eSell,Qm6 ih hA,trivial⟩
 refine Fn.of (A:=A0) (n0:=6) (D:=dfE 224 Uw) (Fn0 func179 rfl (fun vs w=>by kernel_rfl) (by kernel_rfl)) (by simp) (by simp [AV.ids,AV.idsL,aTk,cTk]) Qh6 (fun F hb h0 h1=>by rw [hA0];exact ⟨h1,h0,Qhl,hb⟩) QmT ?_
 have hle:=ok.rounds.le
 have eR:min (zS cs a m (sold++[t]) begun).length R=R:=by omega
 have hs1:=ok.many
 have hs2:sold.length<=100:=by rw [aA] at hs1;omega
 have et:(⟨t.party,t.sex,t.cab,t.bed,t.frm,t.to,t.dog⟩:Tk)=t:=rfl
 have hgl:(List.map eTk sold++[eTk t]).getLastD []=eTk t:=by simp
 have hma:List.map eTk (sold++[t])=List.map eTk sold++[eTk t]:=by simp
 show Sym _ _ _ (qV [.ptr 0 0,aTk t,.clo 180 [.ptr 2 0,.ptr 3 0,.ptr 4 0,.ptr 5 0]] 6 (qb [(0,qg cs s 1),(1,qf sold),(2,.cells [.ptr 0 0]),(3,.cells (qo a)),(4,.cells [.sl (begun.map qK)]),(5,.cells [.cb])])) (yc tyB _ Tryz.f179 fun S rv=>Fin S rv _ 6 (qb [(0,qg cs s 1),(1,qf sold),(2,.cells [.ptr 0 0]),(3,.cells (qo a)),(4,.cells [.sl (begun.map qK)]),(5,.cells [.cb])]) R)
 repeat' first|(apply nx;with_reducible constructor)|apply jq (by decide)
 (apply jz env;intro Q hQ;simp only [vkt,seval,aTk,cTk,qo,qg,qf,ite_and];(repeat' first|with_reducible assumption|apply jv|intro hp);all_goals first|(apply hQ;clear hQ Q)|(apply jx;kernel_rfl)|omega|assumption|rfl|skip)
 repeat' first|(apply nx;with_reducible constructor)|apply jq (by decide)
 refine VK hr env rfl rfl rfl fun Q hQ=>?_
 simp only [List.dropLast]
 simp only [vkt,seval,QfG,mTk,qC,qg,qf,qJ,VR,Qdk,hwL,et,hs2]
 repeat' first|with_reducible assumption|refine dT ?_ ?_|intro hp
 all_goals first|(refine hQ _ _ _ (by simp only [vkt,seval];rfl) ?_;clear hQ Q)|skip
 dsimp only [put]
 repeat' first|(apply nx;with_reducible constructor)|apply jq (by decide)|((first|apply jz env|apply jw);intro Q hQ;simp only [vkt,seval,Qhe,qo,Zz,mTk,qg,qf,g1L,Ru,fnI,Y0,hwL,aO,eR,ok,ite_and];(repeat' first|with_reducible assumption|apply jv|intro hp);all_goals first|(apply hQ;clear hQ Q)|(apply jx;kernel_rfl)|omega|assumption|rfl|skip)
 simp only [vrt,results179,vkt,seval,Qhe,qo,mTk,qC,qg,qf,VR,Uw,dfE,hwL,hgl,hma,Qlc]
 refine Fin.ok some [] ?_ ?_ ?_ ?_ ?_ rfl
 all_goals (try simp only [vle,vkt,seval])
 all_goals first|rfl|simp
def XR (cs:List Cabin) (s:Int) (a:Ask) (m:Nat) (ys:Nat->List AV) (hl:Nat->List AObj) (ans:Nat->Bool) (R:Nat) (S:St):List AV->Option PkI
 |[.ptr c 0,.agg [.v (.int .i64 t0),.v (.int .i64 t1),.v (.int .i64 t2),.v (.int .i64 t3),.v (.int .i64 t4),.v (.int .i64 t5),.v (.bool t6)],.clo f [.ptr p2 0,.ptr p3 0,.ptr p4 0,.ptr p5 0]]=>match S.h p2,S.h p3,S.h p4,S.h p5 with
  |some (.cells [.ptr c' 0]),some (.cells aa),some (.cells [.sl bs]),some (.cells [.cb])=>match S.h c with
   |some (.cells [.sl cc,.v (.int .i64 s'),.row r])=>match S.h r with
    |some (.row _ _ xs)=>some { q:={ pre:=f=180/\c'=c/\cc=cs.map qx/\s'=s/\aa=qo a/\bs=(bs.map zO).map qK/\xs=(xs.map dTk).map eTk/\GrowOk cs s a m (xs.map dTk++[⟨t0,t1,t2,t3,t4,t5,t6⟩]) (bs.map zO) (fun j=>ys (S.j+j)) (fun j=>hl (S.j+j)) (fun j=>ans (S.j+j)) (min (zS cs a m (xs.map dTk++[⟨t0,t1,t2,t3,t4,t5,t6⟩]) (bs.map zO)).length (R - S.j)),hs:=[c,r,p2,p3,p4,p5],ar:=[.ptr 0 0,.agg [.v (.int .i64 t0),.v (.int .i64 t1),.v (.int .i64 t2),.v (.int .i64 t3),.v (.int .i64 t4),.v (.int .i64 t5),.v (.bool t6)],.clo 180 [.ptr 2 0,.ptr 3 0,.ptr 4 0,.ptr 5 0]],L0:=g1L cs s a (xs.map dTk) (bs.map zO),v:=aB (xK (fun j=>ans (S.j+j)) (min (zS cs a m (xs.map dTk++[⟨t0,t1,t2,t3,t4,t5,t6⟩]) (bs.map zO)).length (R - S.j))),L1:=(g1L cs s a (xs.map dTk) (bs.map zO)).map some },dj:=min (zS cs a m (xs.map dTk++[⟨t0,t1,t2,t3,t4,t5,t6⟩]) (bs.map zO)).length (R - S.j) }
    |_=>none
   |_=>none
  |_,_,_,_=>none
 |_=>none
def eWith {A:Frm->Prop} {cs:List Cabin} {s:Int} {a:Ask} {m:Nat} {ys:Nat->List AV} {hl:Nat->List AObj} {ans:Nat->Bool} {R:Nat} {h0:Nat->Option AObj} (ih:Qbg cs s a m) (hA:∀ F,A F->Acb prog (qb (qB 0 [qg cs s 1])) h0 ys (fun j=>nth (hl j)) ans R F) :
  qm A prog 179 (fnI [qg cs s 1] R (XR cs s a m ys hl ans R)):=Rj hA fun S bs q h hp=>by
 unfold XR at h
 split at h
 ·split at h
  ·split at h
   ·split at h
    ·cases h
     obtain ⟨_,_,_,_,_,_,_,h6⟩:=hp
     exact ih _ _ _ _ _ _ _ h6
    ·cases h
   ·cases h
  ·cases h
 ·cases h
def Qfj {cs:List Cabin} {s:Int} {l:List Tk}:∀ i o,qb (qB 0 [qg cs s 1]) i=some o->([0,1]:List Nat)[i]?=some i:=fun i o hi=>by
 rw [zZ] at hi
 cases i with
 |zero=>rfl
 |succ i=>simp at hi
def wC:=jv @ty3 (jv @ty4 (jv @jm (jv @Jj (jv @Jp (jv @Vy (jv @vS (jv @jC (jv @QM (jv @WP (jv @Qlw (jv @ti3.eq_1 (jv @ti4.eq_1 (jv @wY.eq_1 (jv @ZE.eq_1 (jv @ZG.eq_1 (jv @JY.eq_1 (jv @yG.eq_1 (jv @je.eq_1 (jv @xW.eq_1 (jv @QC.eq_1 @UT.eq_1))))))))))))))))))))
def Qms:=jv @aI.eq_1 (@aB.eq_1)
def Qd2 (cs:List Cabin) (s:Int) (a:Ask):Vs cs s a 0:=by
 intro sold begun ys hl ans R ok
 obtain ⟨A0,hA0⟩:∃ A0:Frm->Prop,A0=Acb prog (qb (qB 0 [qg cs s 1])) (qb (qB 0 (qJ cs s sold))) ys (fun j=>nth (hl j)) ans R:=⟨_,rfl⟩
 have hA:∀ F,A0 F->Acb prog (qb (qB 0 [qg cs s 1])) (qb (qB 0 (qJ cs s sold))) ys (fun j=>nth (hl j)) ans R F:=fun F h=>hA0 ▸ h
 have env:Env A0 prog tyB (Go.Sym.tabC (cbX [0,1] ys hl ans R) []):=⟨Xe,RN (fun S bs h hS ops o g args tys caps hw ho hg hb=>Yy hA (Qfj (l:=sold)) (by simp) h hS hw ho hg hb) trivial,by kernel_rfl⟩
 refine Fn.of (A:=A0) (n0:=2) (D:=noD) (Fn0 func141 rfl (fun vs w=>by kernel_rfl) (by kernel_rfl)) (by simp) (by simp [AV.ids,AV.idsL,zl,qo,qc]) vZ (fun F hb h0 _=>hA0 ▸ ⟨h0,Qhl,hb⟩) qX ?_
 have hr:=ok.rounds
 have hy:=ok.ys 0 (by simp [zS])
 have hh:=ok.hl 0 (by simp [zS])
 have hsz:=ok.sz
 simp only [zS,bi,bH,ab] at hr hy hh
 have hR:R=1:=by
  have h1:=hr.le
  have h2:=hr.lt (k:=0) (by omega) (fun j hj=>by omega)
  omega
 subst hR
 rw [qc] at hy
 rw [show xK ans 1=ans 0 by simp [xK]]
 have d1:decide ((begun.length:Int)=(a.sexes.length:Int))=true:=decide_eq_true (by omega)
 show Sym _ _ _ (qV [.ptr 0 0,zl a,qc begun,.cb] 2 (qb [(0,qg cs s 1),(1,qf sold)])) (yc tyB noD Tryz.f141 fun S rv=>Fin S rv _ 2 (qb [(0,qg cs s 1),(1,qf sold)]) 1)
 repeat' first|(apply nx;with_reducible constructor)|apply jq (by decide)|((first|apply jz env|apply jw);intro Q hQ;simp only [vkt,seval,wC,zl,qo,qc,qg,qf,qJ,Go.Sym.tabC,cbX,xc,hwL,hy,hh,d1,ite_and];(repeat' first|with_reducible assumption|apply jv|intro hp);all_goals first|(apply hQ;clear hQ Q)|(apply jx;kernel_rfl)|omega|assumption|rfl|skip)
 (simp only [vrt,results141,vkt,seval,wC,Qms,qg,qf];refine Fin.ok some [] ?_ ?_ ?_ ?_ ?_ rfl;all_goals (try simp only [vle,vkt,seval]))
 all_goals first|rfl|(simp;done)|exact fun i hi=>(match i,hi with|0,_=>rfl|1,_=>rfl)
def gbL (cs:List Cabin) (a:Ask) (m:Nat) (sold:List Tk) (begun:List Bunk) (b:Bunk):List (List Bunk × List Tk):=if goB cs a sold begun b then zS cs a m (sold++[WM a begun.length b]) (begun++[b]) else []
def gsL (cs:List Cabin) (a:Ask) (m:Nat) (sold:List Tk) (begun:List Bunk):List Nat:=(qZ cs).map fun b=>(gbL cs a m sold begun b).length
def QV (cs:List Cabin) (a:Ask) (m:Nat) (sold:List Tk) (begun:List Bunk):zS cs a (m+1) sold begun=(qZ cs).flatMap (gbL cs a m sold begun):=rfl
def Kq (cs:List Cabin) (a:Ask) (m:Nat) (sold:List Tk) (begun:List Bunk):(zS cs a (m+1) sold begun).length=(gsL cs a m sold begun).sum:=by rw [QV,Qit];rfl
def Qd5 {cs:List Cabin} {a:Ask} {m:Nat} {sold:List Tk} {begun:List Bunk} {i k:Nat} (hi:i < (qZ cs).length) (hk:k < (gbL cs a m sold begun ((qZ cs).getD i default)).length) :
  (zS cs a (m+1) sold begun).getD (((gsL cs a m sold begun).take i).sum+k) default=(gbL cs a m sold begun ((qZ cs).getD i default)).getD k default:=by
 have:=Qct (gbL cs a m sold begun) default default (qZ cs) i k hi hk
 rw [QV,gsL,<- List.map_take]
 exact this
def QhK {cs:List Cabin} {a:Ask} {m:Nat} {sold:List Tk} {begun:List Bunk} {i:Nat} (hi:i < (qZ cs).length):(gsL cs a m sold begun).getD i 0=(gbL cs a m sold begun ((qZ cs).getD i default)).length:=by
 simp [gsL,ai,hi]
def Qc8 {cs:List Cabin} {i:Nat} (hi:i < (qZ cs).length):0<=((qZ cs).getD i default).cab/\((qZ cs).getD i default).cab.toNat < cs.length:=by
 obtain ⟨x,y,h1,h2,h3⟩:=Ll.1 (vG (d:=default) hi)
 rw [h3]
 exact ⟨cJ _,by simpa using h1⟩
def Qcd {cs:List Cabin} {s:Int} {a:Ask} {m:Nat} {sold:List Tk} {begun:List Bunk} {ys:Nat->List AV} {hl:Nat->List AObj} {ans:Nat->Bool} {R:Nat} (ok:GrowOk cs s a (m+1) sold begun ys hl ans R) {i o:Nat} {b:Bunk} (hi:i < (qZ cs).length) (hb:(qZ cs).getD i default=b)
  (ho:((gsL cs a m sold begun).take i).sum=o) (hg:goB cs a sold begun b=true) {D:Nat} (hr:Rounds (fun j=>ans (o+j)) D (zS cs a m (sold++[WM a begun.length b]) (begun++[b])).length) :
  GrowOk cs s a m (sold++[WM a begun.length b]) (begun++[b]) (fun j=>ys (o+j)) (fun j=>hl (o+j)) (fun j=>ans (o+j)) D:=by
 have hgb:gbL cs a m sold begun b=zS cs a m (sold++[WM a begun.length b]) (begun++[b]):=by unfold gbL;rw [if_pos hg]
 have hlen:∀ j,j < (zS cs a m (sold++[WM a begun.length b]) (begun++[b])).length->o+j < (zS cs a (m+1) sold begun).length:=fun j hj=>by
  rw [Kq,<- ho]
  have h1:=JF (g:=gsL cs a m sold begun) (i:=i) (by simpa [gsL] using hi)
  have h2:=xF (g:=gsL cs a m sold begun) (show i+1<=(gsL cs a m sold begun).length by simp [gsL];omega)
  rw [bO] at h2
  rw [QhK hi,hb,hgb] at h1
  omega
 have hget:∀ j,j < (zS cs a m (sold++[WM a begun.length b]) (begun++[b])).length->(zS cs a (m+1) sold begun).getD (o+j) default=(zS cs a m (sold++[WM a begun.length b]) (begun++[b])).getD j default:=fun j hj=>by
  rw [<- ho,Qd5 hi (by rw [hb,hgb];exact hj),hb,hgb]
 have h1:=ok.sz
 have h2:=ok.many
 refine ⟨by simp;omega,ok.sx,ok.cab,ok.c100,by simp;omega,fun x hx=>?_,hr,fun j hj=>?_,fun j hj=>?_⟩
 ·rcases aD.1 hx with hx|hx
  ·exact ok.mem x hx
  ·rw [aW.1 hx,<- hb];exact Qc8 hi
 ·show ys (o+j)=_
  rw [ok.ys _ (hlen j hj),hget j hj]
 ·show hl (o+j)=_
  rw [ok.hl _ (hlen j hj),hget j hj]
def gwL:List (Nat × AV):=[(4,.ptr 2 0),(5,.ptr 3 0),(6,.ptr 4 0),(7,.ptr 5 0),(8,.ptr 6 0),(25,.clo 181 [.ptr 7 0])]
def gwH (cs:List Cabin) (s:Int) (a:Ask) (sold:List Tk) (begun:List Bunk):List (Nat × AObj):=[(0,qg cs s 1),(1,qf sold),(2,.cells [.ptr 0 0]),(3,.cells (qo a)),(4,.cells [.sl (begun.map qK)]),(5,.cells [.cb]),(6,.cells [aB false])]
def QkT (cs:List Cabin) (s:Int):qU [7] 9 0 [buO cs s]=[(7,buO cs s)]:=rfl
def jZ:=jv @aI.eq_1 (jv @aB.eq_1 (jv @Ju (jv @QeB (@zL.eq_1))))
def Qfv (cs:List Cabin) (s:Int) (a:Ask) (m:Nat) (ih:Qbg cs s a m):Vs cs s a (m+1):=by
 intro sold begun ys hl ans R ok
 obtain ⟨A0,hA0⟩:∃ A0:Frm->Prop,A0=fun F=>F.r=none/\Acb prog (qb (qB 0 [qg cs s 1])) (qb (qB 0 (qJ cs s sold))) ys (fun j=>nth (hl j)) ans R F:=⟨_,rfl⟩
 have hr0:∀ F,A0 F->F.r=none:=fun F h=>by rw [hA0] at h;exact h.1
 have hA:∀ F,A0 F->Acb prog (qb (qB 0 [qg cs s 1])) (qb (qB 0 (qJ cs s sold))) ys (fun j=>nth (hl j)) ans R F:=fun F h=>by rw [hA0] at h;exact h.2
 have env:Env A0 prog tyB (tab [(144,fnE Jb)]):=qA ⟨Qdx,trivial⟩
 refine Fn.of (A:=A0) (n0:=2) (D:=noD) (Fn0 func141 rfl (fun vs w=>by kernel_rfl) (by kernel_rfl)) (by simp) (by simp [AV.ids,AV.idsL,zl,qo,qc]) vZ (fun F hb h0 h1=>by rw [hA0];exact ⟨h1,h0,Qhl,hb⟩) qX ?_
 have hr:=ok.rounds
 rw [Kq] at hr
 have hsz:=ok.sz
 have hsx:=ok.sx
 have d0:decide ((begun.length:Int)=(a.sexes.length:Int))=false:=decide_eq_false (by omega)
 obtain ⟨RB,ansB,hRB,hN,hend,hres⟩:=nest _ hr
 rw [show (gsL cs a m sold begun).length=(qZ cs).length by simp [gsL]] at hRB
 have hRl:=hRB.le
 rw [hres]
 show Sym _ _ _ (qV [.ptr 0 0,zl a,qc begun,.cb] 2 (qb [(0,qg cs s 1),(1,qf sold)])) (yc tyB noD Tryz.f141 fun S rv=>Fin S rv _ 2 (qb [(0,qg cs s 1),(1,qf sold)]) R)
 repeat' first|(apply nx;with_reducible constructor)|apply jq (by decide)|((first|apply jz env|apply jw);intro Q hQ;simp only [vkt,seval,wC,zl,qo,qc,qC,qg,qf,Jb,hwL,aO,d0,ite_and];(repeat' first|with_reducible assumption|apply jv|intro hp);all_goals first|(apply hQ;clear hQ Q)|(apply jx;kernel_rfl)|omega|assumption|rfl|skip)
 refine ve (S':={ t:=asg gwL,h:=qb (gwH cs s a sold begun++[(7,buO cs s)]),n:=8,j:=0,d:=[],m:=2 }) ?_ ?_
 ·show Le _ { t:=asg [(4,.ptr 2 0),(5,.ptr 3 0),(6,.ptr 4 0),(7,.ptr 5 0),(8,.ptr 6 0),(25,.clo 181 [.ptr 7 0])],h:=qb [(0,qg cs s 1),(1,qf sold),(2,.cells [.ptr 0 0]),(3,.cells (qo a)),(4,.cells [.sl (begun.map qK)]),(5,.cells [.cb]),(6,.cells [aB false]),(7,buO cs s)],n:=8,j:=0,d:=[],m:=2 }
  (refine Le.ok some [] ?_;constructor;all_goals (try simp only [vle,vkt,seval,jZ,qo,qg,qf,buO]))
  all_goals first|rfl|simp
 rw [<- QkT cs s]
 have ej:(fun i=>min ((gsL cs a m sold begun).take i).sum R) 0=0:=by simp
 rw [show ({ t:=asg gwL,h:=qb (gwH cs s a sold begun++qU [7] 9 0 [buO cs s]),n:=8,j:=0,d:=[],m:=2 }:St)={ t:=asg gwL,h:=qb ((fun _=>gwH cs s a sold begun) 0++qU [7] (8+1) 0 [buO cs s]),n:=8,j:=(fun i=>min ((gsL cs a m sold begun).take i).sum R) 0,d:=[],m:=2 } by rw [ej]]
 refine vw hr0 1 (L:=gwL) (L':=gwL) (xs:=[]) (hs:=[7]) (n:=8) (nl:=0) (hc:=fun _=>gwH cs s a sold begun) (Lp:=[buO cs s]) (jj:=fun i=>min ((gsL cs a m sold begun).take i).sum R) (d:=[]) (ys:=buY cs) (hl:=fun _=>[buO cs s]) (ans:=ansB) (ex:=.ret) (caps:=[.ptr 7 0]) (caps0:=[.ptr 0 0]) (N:=(qZ cs).length) (R:=RB) (A':=fun i=>Acb prog (qb (qB 0 [qg cs s 1])) (qb ((8,.mark) :: gwH cs s a sold begun++[(7,buO cs s)])) (fun k=>ys (min ((gsL cs a m sold begun).take i).sum R+k)) (fun k=>nth (hl (min ((gsL cs a m sold begun).take i).sum R+k))) (fun k=>ans (min ((gsL cs a m sold begun).take i).sum R+k)) (R - min ((gsL cs a m sold begun).take i).sum R)) rfl (Qas cs s ok.cab) hRB (.inl rfl) ?_ ?_ ?_ rfl (by simp) ?_ (by simp) ?_ ?_ ?_ (fun _ _=>rfl) (fun x hx=>by cases hx) (fun j hj p _ h=>by cases h) ?_ (fun j hj=>?_) ?_ (fun j hj=>?_) (fun hall=>?_) (fun hpos hlast=>?_)
 ·simp [AV.leL,AV.le]
 ·simp [AV.nocbL,AV.nocb]
 ·simp [WS,buO,AObj.nocb,AV.nocbL,AV.nocb,AObj.ids,AV.ids,AV.idsL,AObj.ren,AV.renL,AV.ren,AObj.le,AV.leL,AV.le,jh]
 ·simp [gwH,qb]
 ·intro F hF j hj F' hR
  refine XU (hA F hF) hR fun i o hi=>?_
  rw [zZ] at hi
  cases i with
  |zero=>exact ⟨_,rfl⟩
  |succ i=>simp at hi
 ·simp [gwH,qb]
 ·exact fun _ _ _ _ h=>h
 ·simp [Yw,gwL,AV.ids,AV.idsL]
 ·refine ⟨?_,rfl, ?_, ?_,rfl, ?_⟩
  ·simp [kZ,gwH,AObj.ids,AV.ids,AV.idsL,qg,qf,qo,aB]
  ·simp [ZZ,buO,AObj.nocb,AV.nocbL,AV.nocb,AObj.ids,AV.ids,AV.idsL]
  ·simp [V8,buY,qw,AV.nocb,AV.nocbL,AV.ids,AV.idsL]
  ·simp [kX,WT,qU,qj,gwH,gwL,vW,AV.ids,AV.idsL,ADf.ids,bC]
 ·simp [kZ,gwH,AObj.ids,AV.ids,AV.idsL,qg,qf,qo,aB]
 ·have hjl:j < (qZ cs).length:=by omega
  obtain ⟨n1,n2,n3,n4⟩:=hN j hj
  obtain ⟨o,ho⟩:∃ o,((gsL cs a m sold begun).take j).sum=o:=⟨_,rfl⟩
  have eo:min o R=o:=by omega
  rw [QhK hjl,ho] at n2 n3 n4
  obtain ⟨b,hb⟩:∃ b,(qZ cs).getD j default=b:=⟨_,rfl⟩
  rw [hb] at n2 n3 n4
  have hbi:=Qc8 hjl
  rw [hb] at hbi
  simp only [ho,eo]
  have hst:wV gwL [26] [7] 8 0 (buY cs j) (gwH cs s a sold begun) [buO cs s]={ t:=asg [(26,qw b),(4,.ptr 2 0),(5,.ptr 3 0),(6,.ptr 4 0),(7,.ptr 5 0),(8,.ptr 6 0),(25,.clo 181 [.ptr 7 0])],h:=qb [(8,.mark),(0,qg cs s 1),(1,qf sold),(2,.cells [.ptr 0 0]),(3,.cells (qo a)),(4,.cells [.sl (begun.map qK)]),(5,.cells [.cb]),(6,.cells [aB false]),(7,buO cs s)],n:=9,m:=9 }:=by
   simp only [wV,buY,hb,qw,aj,au,AV.ren,AV.renL,cn,cz,gwH,gwL,QE,aQ,aF]
   rfl
  show Sym _ _ _ (wV gwL [26] [7] 8 0 (buY cs j) (gwH cs s a sold begun) [buO cs s]) _
  rw [hst]
  obtain ⟨A1,hA1⟩:∃ A1:Frm->Prop,A1=Acb prog (qb (qB 0 [qg cs s 1])) (qb ((8,.mark) :: gwH cs s a sold begun++[(7,buO cs s)])) (fun k=>ys (o+k)) (fun k=>nth (hl (o+k))) (fun k=>ans (o+k)) (R - o):=⟨_,rfl⟩
  rw [<- hA1]
  have env:Env A1 prog tyB (tab [(175,fnE J9),(176,zw true QZ),(177,fnE YV),(178,fnE VI),(179,fnI [qg cs s 1] (R - o) (XR cs s a m (fun k=>ys (o+k)) (fun k=>hl (o+k)) (fun k=>ans (o+k)) (R - o)))]) :=
   qA ⟨Qke,QlX,eNear,eFits,eWith ih (h0:=qb ((8,.mark) :: gwH cs s a sold begun++[(7,buO cs s)])) fun F hF=>by rw [hA1] at hF;exact hF,trivial⟩
  have hcl:=ok.c100
  have hmany:=ok.many
  obtain ⟨sx,hsx1⟩:∃ x,a.sexes.getD begun.length 0=x:=⟨_,rfl⟩
  have hlt:begun.length < a.sexes.length:=by omega
  have hb1:begun.length<=100:=by omega
  have hb2:begun.length<=100000:=by omega
  have hm:(100:Nat)+1<=maxLen:=by decide
  have hb3:begun.length+1<=maxLen:=by omega
  repeat' first|(apply nx;with_reducible constructor)|apply jq (by decide)
  (apply jz env;intro Q hQ;simp only [vkt,seval,wC,jZ,qo,qw,qg,qf,buO,ite_and];(repeat' first|with_reducible assumption|apply jv|intro hp);all_goals first|(apply hQ;clear hQ Q)|(apply jx;kernel_rfl)|omega|assumption|rfl|skip)
  repeat' first|(apply nx;with_reducible constructor)|apply jq (by decide)
  (apply jz env;intro Q hQ;simp only [vkt,seval,wC,UY,qg,J9,hwL,aO,hb2,hb3,ite_and];(repeat' first|with_reducible assumption|apply jv|intro hp);all_goals first|(apply hQ;clear hQ Q)|(apply jx;kernel_rfl)|omega|assumption|rfl|skip)
  repeat' first|(apply nx;with_reducible constructor)|apply jq (by decide)
  (apply jz env;intro Q hQ;simp only [vkt,seval,wC,jZ,qg,hsx1,hlt,ite_and];(repeat' first|with_reducible assumption|apply jv|intro hp);all_goals first|(apply hQ;clear hQ Q)|(apply jx;kernel_rfl)|omega|assumption|rfl|skip)
  repeat' first|(apply nx;with_reducible constructor)|apply jq (by decide)
  have hma:List.map qK begun++[[DV.v (.int .i64 b.cab),DV.v (.int .i64 b.bed)]]=List.map qK (begun++[b]):=by simp [qK]
  refine ve (S':={ t:=asg [(4,.ptr 2 0),(5,.ptr 3 0),(6,.ptr 4 0),(7,.ptr 5 0),(8,.ptr 6 0),(9,.ptr 9 0),(10,.ptr 10 0),(11,.ptr 11 0)],h:=qb [(8,.mark),(0,qg cs s 1),(1,qf sold),(2,.cells [.ptr 0 0]),(3,.cells (qo a)),(4,.cells [.sl (begun.map qK)]),(5,.cells [.cb]),(6,.cells [aB false]),(7,buO cs s),(9,.cells [.v (.int .i64 b.cab),.v (.int .i64 b.bed)]),(10,.cells [.sl (List.map qK (begun++[b]))]),(11,.cells [.v (.int .i64 a.party),.v (.int .i64 sx),.v (.int .i64 b.cab),.v (.int .i64 b.bed),.v (.int .i64 a.frm),.v (.int .i64 a.to),.v (.bool a.dog)])],n:=12,j:=0,d:=[],m:=9 }) ?_ ?_
  ·(refine Le.ok (fun i=>if i=10 then some 13 else if i=11 then some 14 else some i) [12] ?_;constructor;all_goals (try simp only [vle,vkt,seval,jZ,qo,qg,qf,buO]))
   all_goals first|rfl|(simp;done)|(rw [hma];exact ⟨_,_,rfl⟩)|(intro i hi;rw [if_neg (by omega),if_neg (by omega)];done)
  have et:(⟨a.party,sx,b.cab,b.bed,a.frm,a.to,a.dog⟩:Tk)=WM a begun.length b:=by rw [<- hsx1];rfl
  have eb:(⟨b.cab,b.bed⟩:Bunk)=b:=rfl
  have hno:NearOk cs (begun++[b]):=⟨by simp,by simp;omega,hcl,fun x hx=>by
   rcases aD.1 hx with hx|hx
   ·exact ok.mem x hx
   ·rw [aW.1 hx];exact hbi⟩
  have hs100:sold.length<=100:=by omega
  have stop:goB cs a sold begun b=false->ansB j=true/\min ((gsL cs a m sold begun).take (j+1)).sum R=o:=fun h=>by
   have e0:gbL cs a m sold begun b=[]:=by unfold gbL;rw [h];rfl
   rw [e0] at n3 n4
   simp only [bH,Nat.zero_min] at n3 n4
   exact ⟨by rw [n3];simp [xK],by rw [n4];rfl⟩
  cases c1:begun.contains b with
  |true =>
   obtain ⟨s1,s2⟩:=stop (by unfold goB;rw [c1];rfl)
   repeat' first|(apply nx;with_reducible constructor)|apply jq (by decide)|((first|apply jz env|apply jw);intro Q hQ;simp only [vkt,seval,wC,jZ,qo,Zz,qg,qf,buO,QZ,hb1,c1,eb,ite_and];(repeat' first|with_reducible assumption|apply jv|intro hp);all_goals first|(apply hQ;clear hQ Q)|(apply jx;kernel_rfl)|omega|assumption|rfl|skip)
   refine ⟨by rw [s1];rfl,by show _=_+0;simp only [s2,ho,eo];rfl,some,_,RFin.okQ some [] ?_⟩
   constructor
   all_goals (try simp only [vle,vO,vC,qj,vkt,seval,jZ,qo,qg,qf,gwL,gwH,buO])
   all_goals first|rfl|simp
  |false =>
   cases c2:Kr cs (begun++[b]) with
   |false =>
    obtain ⟨s1,s2⟩:=stop (by unfold goB;rw [c1,c2];rfl)
    repeat' first|(apply nx;with_reducible constructor)|apply jq (by decide)|((first|apply jz env|apply jw);intro Q hQ;simp only [vkt,seval,wC,jZ,qo,Zz,mTk,qC,qg,qf,qJ,buO,YV,QZ,hwL,hb1,c1,c2,eb,hno,ite_and];(repeat' first|with_reducible assumption|apply jv|intro hp);all_goals first|(apply hQ;clear hQ Q)|(apply jx;kernel_rfl)|omega|assumption|rfl|skip)
    refine ⟨by rw [s1];rfl,by show _=_+0;simp only [s2,ho,eo];rfl,some,_,RFin.okQ some [] ?_⟩
    constructor
    all_goals (try simp only [vle,vO,vC,qj,vkt,seval,jZ,qo,qg,qf,gwL,gwH,buO])
    all_goals first|rfl|simp
   |true =>
    cases c3:decide (wE (WM a begun.length b) sold=0) with
    |false =>
     obtain ⟨s1,s2⟩:=stop (by unfold goB;rw [c1,c2,c3];rfl)
     repeat' first|(apply nx;with_reducible constructor)|apply jq (by decide)|((first|apply jz env|apply jw);intro Q hQ;simp only [vkt,seval,wC,jZ,qo,Zz,mTk,qC,qg,qf,qJ,buO,YV,VI,QZ,hwL,hb1,c1,c2,c3,eb,et,hno,hs100,ite_and];(repeat' first|with_reducible assumption|apply jv|intro hp);all_goals first|(apply hQ;clear hQ Q)|(apply jx;kernel_rfl)|omega|assumption|rfl|skip)
     refine ⟨by rw [s1];rfl,by show _=_+0;simp only [s2,ho,eo];rfl,some,_,RFin.okQ some [] ?_⟩
     constructor
     all_goals (try simp only [vle,vO,vC,qj,vkt,seval,jZ,qo,qg,qf,gwL,gwH,buO])
     all_goals first|rfl|simp
    |true =>
     have hgo:goB cs a sold begun b=true:=by unfold goB;rw [c1,c2,c3];rfl
     have hgb:gbL cs a m sold begun b=zS cs a m (sold++[WM a begun.length b]) (begun++[b]):=by unfold gbL;rw [if_pos hgo]
     rw [hgb] at n2 n3 n4
     have hG:=Qcd ok hjl hb ho hgo n2
     obtain ⟨D,hD⟩:∃ D,min (zS cs a m (sold++[WM a begun.length b]) (begun++[b])).length (R - o)=D:=⟨_,rfl⟩
     rw [hD] at hG n3 n4
     have hDle:D<=R - o:=by omega
     cases hab:ansB j with
     |false =>
      rw [hab] at n3
      have n3:=n3.symm
      repeat' first|(apply nx;with_reducible constructor)|apply jq (by decide)|((first|apply jz env|apply jw);intro Q hQ;simp only [vkt,seval,wC,jZ,qo,Zz,mTk,qC,qg,qf,qJ,g1L,buO,YV,VI,XR,QZ,fnI,Y0,hwL,aO,hb1,c1,c2,c3,eb,et,hno,hs100,hD,hDle,hG,n3,ite_and];(repeat' first|with_reducible assumption|apply jv|intro hp);all_goals first|(apply hQ;clear hQ Q)|(apply jx;kernel_rfl)|omega|assumption|rfl|skip)
      refine ⟨by rw [hab];rfl,by simp only [n4,ho,eo],some,_,RFin.okQ some [] ?_⟩
      constructor
      all_goals (try simp only [vle,vO,vC,qj,vkt,seval,jZ,qo,qg,qf,gwL,gwH,buO])
      all_goals first|rfl|simp
     |true =>
      rw [hab] at n3
      have n3:=n3.symm
      repeat' first|(apply nx;with_reducible constructor)|apply jq (by decide)|((first|apply jz env|apply jw);intro Q hQ;simp only [vkt,seval,wC,jZ,qo,Zz,mTk,qC,qg,qf,qJ,g1L,buO,YV,VI,XR,QZ,fnI,Y0,hwL,aO,hb1,c1,c2,c3,eb,et,hno,hs100,hD,hDle,hG,n3,ite_and];(repeat' first|with_reducible assumption|apply jv|intro hp);all_goals first|(apply hQ;clear hQ Q)|(apply jx;kernel_rfl)|omega|assumption|rfl|skip)
      refine ⟨by rw [hab];rfl,by simp only [n4,ho,eo],some,_,RFin.okQ some [] ?_⟩
      constructor
      all_goals (try simp only [vle,vO,vC,qj,vkt,seval,jZ,qo,qg,qf,gwL,gwH,buO])
      all_goals first|rfl|simp
 ·have hR:xK ansB RB=true:=by
   by_cases h0:RB=0
   ·simp [xK,h0]
   ·simp [xK,hall (RB - 1) (by omega)]
  rw [hR,hend]
  have eh:qb ((8,AObj.mark) :: gwH cs s a sold begun++qU [7] (8+1) 0 [buO cs s])=qb [(8,.mark),(0,qg cs s 1),(1,qf sold),(2,.cells [.ptr 0 0]),(3,.cells (qo a)),(4,.cells [.sl (begun.map qK)]),(5,.cells [.cb]),(6,.cells [aB false]),(7,buO cs s)]:=rfl
  rw [eh]
  repeat' first|(apply nx;with_reducible constructor)|apply jq (by decide)|((first|apply jz env|apply jw);intro Q hQ;simp only [vkt,seval,wC,jZ,qo,qg,qf,gwL,buO,ite_and];(repeat' first|with_reducible assumption|apply jv|intro hp);all_goals first|(apply hQ;clear hQ Q)|(apply jx;kernel_rfl)|omega|assumption|rfl|skip)
  (simp only [vrt,results141,vkt,seval,wC,jZ,qg,qf];refine Fin.ok some [] ?_ ?_ ?_ ?_ ?_ rfl;all_goals (try simp only [vle,vkt,seval]))
  all_goals first|rfl|(simp;done)|exact fun i hi=>(match i,hi with|0,_=>rfl|1,_=>rfl)
 ·have hR:xK ansB RB=false:=by
   simp [xK,hlast,show ¬ RB=0 by omega]
  rw [hR,hend]
  have eh:qb ((8,AObj.mark) :: gwH cs s a sold begun++qU [7] (8+1) 0 [buO cs s])=qb [(8,.mark),(0,qg cs s 1),(1,qf sold),(2,.cells [.ptr 0 0]),(3,.cells (qo a)),(4,.cells [.sl (begun.map qK)]),(5,.cells [.cb]),(6,.cells [aB false]),(7,buO cs s)]:=rfl
  rw [eh]
  repeat' first|(apply nx;with_reducible constructor)|apply jq (by decide)|((first|apply jz env|apply jw);intro Q hQ;simp only [vkt,seval,wC,jZ,aTk,cTk,zl,qo,qw,qc,qK,UY,Zz,mTk,qC,qg,qf,qJ,g1L,gwL,gwH,buO,Jb,J9,YV,VI,XR,QZ,ao,fnI,Y0,xc,nth,hwL,bf,aO,ite_and];(repeat' first|with_reducible assumption|apply jv|intro hp);all_goals first|(apply hQ;clear hQ Q)|(apply jx;kernel_rfl)|omega|assumption|rfl|skip)
  (simp only [vrt,results141,vkt,seval,wC,jZ,qo,qg,qf,gwL,buO];refine Fin.ok some [] ?_ ?_ ?_ ?_ ?_ rfl;all_goals (try simp only [vle,vkt,seval]))
  all_goals first|rfl|(simp;done)|exact fun i hi=>(match i,hi with|0,_=>rfl|1,_=>rfl)
def U3 (cs:List Cabin) (s:Int) (a:Ask):∀ m,Vs cs s a m
 |0=>Qd2 cs s a
 |m+1=>Qfv cs s a m (Qi7 (Qha (U3 cs s a m)))
def QjB (a:Ask):PCs (qo a):=⟨by simp [qo,AV.idsL,AV.ids],by simp [qo,AV.leL,AV.le],by simp [qo,AV.renL,AV.ren]⟩
def Qd0:=jv @ty3 (jv @Jp (jv @jC (jv @ti3.eq_1 (jv @ZG.eq_1 @je.eq_1))))
def Ql1:=jv @aI.eq_1 (@aB.eq_1)
def Qkg (a:Ask):Ji 172 (qo a) (fun x=>decide (x.party=a.party)):=fun x=>by
 have env:Env (fun _=>True) prog tyB (tab []):=qA trivial
 refine Fn.of (A:=fun _=>True) (n0:=1) (D:=noD) (Fn0 func172 rfl (fun vs w=>by kernel_rfl) (by kernel_rfl)) (by simp) (by simp [AV.ids,AV.idsL,aTk,cTk]) ?_ (fun _ _ _ _=>trivial) qX ?_
 ·intro i o hi
  have h:=qG hi
  simp at h;obtain ⟨rfl,rfl⟩:=h;simp [qo,AObj.ids,AV.ids,AV.idsL]
 repeat' first|(apply nx;with_reducible constructor)|refine jq (by decide) ?_|((first|refine jz env fun Q hQ=>?_|refine jk fun Q hQ=>?_);simp only [vkt,seval,Qd0,aTk,cTk,qo];(try simp only [ite_and]);(repeat' (first|with_reducible assumption|refine dT ?_ ?_|intro hp));all_goals (first|(refine hQ _ ?_;clear hQ Q)|(refine hQ _ (fun h=>?_) (fun h=>?_) <;> clear hQ Q <;> (try simp only [vki,reduceCtorEq] at h))|(refine jx ?_;kernel_rfl)|omega|assumption|rfl|skip))
 all_goals (simp only [vrt,results172,vkt,seval,Ql1,qo];refine Fin.ok some [] ?_ ?_ ?_ ?_ ?_ rfl;all_goals (try simp only [vle,vkt,seval]))
 all_goals first|rfl|simp
def Jl (a:Ask) (S:St):List AV->Option Pk
 |[.sl xs,.clo f [.ptr t 0]]=>match S.h t with
  |some (.cells cs')=>some { pre:=f=172/\cs'=qo a/\xs=(xs.map dTk).map eTk/\xs.length<=100,hs:=[t],ar:=[.sl xs,.clo 172 [.ptr 0 0]],L0:=[.cells (qo a)],v:=aB ((xs.map dTk).any fun x=>decide (x.party=a.party)),L1:=[some (.cells (qo a))] }
  |_=>none
 |_=>none
def Qmu {A:Frm->Prop} {a:Ask}:qm A prog 171 (fnE (Jl a)):=zJ fun S bs q h hp=>by
 unfold Jl at h
 split at h
 ·split at h
  ·cases h
   obtain ⟨_,_,h1,h2⟩:=hp
   have:=RZ (QjB a) (Qkg a) (List.map dTk _) (by rw [ao];exact h2)
   rw [qy,<- h1] at this
   exact this
  ·cases h
 ·cases h
def akS (c:Chart) (a:Ask) (k:Nat):St:={ t:=asg [(2,.ptr 0 0),(3,.ptr 1 0),(4,aI 0),(36,.sl (a.sexes.map zL)),(37,aI a.sexes.length),(38,aI k)],h:=qb [(0,.cells (qa c)),(1,.cells (qo a))],n:=2 }
def XL (s:Int):Int:=if !inB s 1 2 then 8 else 0
def xA:=jv @ty3 (jv @vJ (jv @jm (jv @Jj (jv @Qa (jv @Jp (jv @jC (jv @ti3.eq_1 (jv @yI.eq_1 (jv @wY.eq_1 (jv @ZE.eq_1 (jv @xQ.eq_1 (jv @ZG.eq_1 @je.eq_1))))))))))))
def yF:=jv @aI.eq_1 (jv @aB.eq_1 (jv @zL.eq_1 (jv @QeB (@Ju))))
def Qmz (c:Chart) (a:Ask) (hc:c.sold.length<=100) (ha:a.sexes.length<=maxLen):FnV prog 137 [qd c,zl a] (aI (Q9 c a)):=by
 have env:Env (fun _=>True) prog tyB (tab [(146,zw true sin),(145,zw true xJ),(147,zw true QaK),(171,fnE (Jl a))]):=qA ⟨ein,Qap,eway,Qmu,trivial⟩
 refine Fn.of (A:=fun _=>True) (n0:=0) (D:=noD) (Fn0 func137 rfl (fun vs w=>by kernel_rfl) (by kernel_rfl)) (by simp) (by simp [AV.ids,AV.idsL,qd,qa,zl,qo]) (fun i o h=>by cases h) (fun _ _ _ _=>trivial) qX ?_
 cases h1:inB a.party 1 99
 ·rw [show Q9 c a=1 by simp [Q9,h1]]
  repeat' first|(apply nx;with_reducible constructor)|apply jq (by decide)|((first|apply jz env|apply jw);intro Q hQ;simp only [vkt,seval,xA,yF,qd,qa,zl,qo,sin,h1,ite_and];(repeat' first|with_reducible assumption|apply jv|intro hp);all_goals first|(apply hQ;clear hQ Q)|(apply jx;kernel_rfl)|omega|assumption|rfl|skip)
  (simp only [vrt,results137,vkt,seval,yF];refine Fin.val rfl ?_;(try simp only [AV.le]))
  all_goals first|rfl|simp
 cases h2:c.sold.any (fun t=>decide (t.party=a.party))
 case true =>
  rw [show Q9 c a=4 by simp only [Q9,h1,h2];rfl]
  repeat' first|(apply nx;with_reducible constructor)|apply jq (by decide)|((first|apply jz env|apply jw);intro Q hQ;simp only [vkt,seval,xA,yF,qd,qa,zl,qo,mTk,sin,Jl,h1,h2,hc,ite_and];(repeat' first|with_reducible assumption|apply jv|intro hp);all_goals first|(apply hQ;clear hQ Q)|(apply jx;kernel_rfl)|omega|assumption|rfl|skip)
  (simp only [vrt,results137,vkt,seval,yF];refine Fin.val rfl ?_;(try simp only [AV.le]))
  all_goals first|rfl|simp
 by_cases h3:Qc c.secs a.frm a.to=0
 case neg =>
  rw [show Q9 c a=Qc c.secs a.frm a.to by unfold Q9;rw [h1,h2];simp [h3]]
  repeat' first|(apply nx;with_reducible constructor)|apply jq (by decide)|((first|apply jz env|apply jw);intro Q hQ;simp only [vkt,seval,xA,yF,qd,qa,zl,qo,mTk,qC,sin,QaK,Jl,h1,h2,h3,hc,ite_and];(repeat' first|with_reducible assumption|apply jv|intro hp);all_goals first|(apply hQ;clear hQ Q)|(apply jx;kernel_rfl)|omega|assumption|rfl|skip)
  (simp only [vrt,results137,vkt,seval,yF];refine Fin.val rfl ?_;(try simp only [AV.le]))
  all_goals first|rfl|simp
 by_cases h4:zG a.sexes.length 1 3=0
 case neg =>
  rw [show Q9 c a=zG a.sexes.length 1 3 by unfold Q9;rw [h1,h2,h3];simp [h4]]
  repeat' first|(apply nx;with_reducible constructor)|apply jq (by decide)|((first|apply jz env|apply jw);intro Q hQ;simp only [vkt,seval,xA,yF,qd,qa,zl,qo,mTk,qC,sin,xJ,QaK,Jl,h1,h2,h3,h4,hc,ite_and];(repeat' first|with_reducible assumption|apply jv|intro hp);all_goals first|(apply hQ;clear hQ Q)|(apply jx;kernel_rfl)|omega|assumption|rfl|skip)
  (simp only [vrt,results137,vkt,seval,yF];refine Fin.val rfl ?_;(try simp only [AV.le]))
  all_goals first|rfl|simp
 have hl:a.sexes.length<=3:=by
  unfold zG at h4
  split at h4
  ·exact absurd h4 (by decide)
  ·split at h4
   ·exact absurd h4 (by decide)
   ·omega
 rw [show Q9 c a=jy (a.sexes.map XL) by unfold Q9;rw [h1,h2,h3,h4];rfl]
 repeat' first|(apply nx;with_reducible constructor)|apply jq (by decide)|((first|apply jz env|apply jw);intro Q hQ;simp only [vkt,seval,xA,yF,qd,qa,zl,qo,mTk,qC,sin,xJ,QaK,Jl,h1,h2,h3,h4,hc,ite_and];(repeat' first|with_reducible assumption|apply jv|intro hp);all_goals first|(apply hQ;clear hQ Q)|(apply jx;kernel_rfl)|omega|assumption|rfl|skip)
 refine qN (fun k:{ k:Nat // k<=a.sexes.length/\∀ j,j < k->(a.sexes.map XL).getD j 0=0 }=>akS c a k.1) (fun k=>a.sexes.length - k.1) ⟨0,ag _,fun j h=>absurd h (bp _)⟩ ?_ fun ⟨k,hk,hno⟩=>?_
 ·(refine Le.ok some [] ?_;constructor;all_goals (try simp only [vle,vkt,seval,yF,qa,qo]))
  all_goals first|rfl|simp
 ·repeat' first|(apply nx;with_reducible constructor)|apply jq (by decide)
  (apply jz env;intro Q hQ;simp only [vkt,seval,xA,yF,qa,qo,akS,ite_and];(repeat' first|with_reducible assumption|apply jv|intro hp);all_goals first|(apply hQ;clear hQ Q)|(apply jx;kernel_rfl)|omega|assumption|rfl|skip)
  repeat' first|(apply nx;with_reducible constructor)|apply jq (by decide)
  (refine jE (by simp only [vkt,seval];rfl) (fun h=>?_) (fun h=>?_) <;> (try simp only [vki] at h))
  ·have hlt:k < a.sexes.length:=by omega
   have e9:IntKind.wrap .i64 ((k:Int)+1)=((k+1:Nat):Int):=by rw [wrap64 (by omega) (by omega)];rfl
   obtain ⟨x,hx⟩:∃ x,a.sexes.getD k 0=x:=⟨_,rfl⟩
   have hm:(a.sexes.map XL).getD k 0=XL x:=by rw [mapD hlt];exact congrArg XL hx
   cases hb:inB x 1 2
   ·have hE:XL x=8:=by simp [XL,hb]
    have hf:=xC hno (by simpa using hlt) (by rw [hm,hE];decide)
    rw [hm,hE] at hf
    rw [hf]
    repeat' first|(apply nx;with_reducible constructor)|apply jq (by decide)|((first|apply jz env|apply jw);intro Q hQ;simp only [vkt,seval,xA,yF,sin,hx,hb,ite_and];(repeat' first|with_reducible assumption|apply jv|intro hp);all_goals first|(apply hQ;clear hQ Q)|(apply jx;kernel_rfl)|omega|assumption|rfl|skip)
    (simp only [vrt,results137,vkt,seval,yF];refine Fin.val rfl ?_;(try simp only [AV.le]))
    all_goals first|rfl|simp
   ·have hE:XL x=0:=by simp [XL,hb]
    repeat' first|(apply nx;with_reducible constructor)|apply jq (by decide)|((first|apply jz env|apply jw);intro Q hQ;simp only [vkt,seval,xA,yF,sin,hx,hb,e9,ite_and];(repeat' first|with_reducible assumption|apply jv|intro hp);all_goals first|(apply hQ;clear hQ Q)|(apply jx;kernel_rfl)|omega|assumption|rfl|skip)
    refine ⟨⟨k+1,hlt,fun j hj=>?_⟩,by show a.sexes.length - (k+1) < a.sexes.length - k;omega, ?_⟩
    ·rcases bq (bt hj) with h2|h2
     ·exact hno j h2
     ·rw [h2,hm,hE]
    ·(refine Le.ok some [] ?_;constructor;all_goals (try simp only [vle,vkt,seval,yF,qa,qo]))
     all_goals first|rfl|simp
  ·have hke:k=a.sexes.length:=by omega
   subst hke
   rw [yU (l:=a.sexes.map XL) (by simpa using hno)]
   repeat' first|(apply nx;with_reducible constructor)|apply jq (by decide)|((first|apply jz env|apply jw);intro Q hQ;simp only [vkt,seval,ite_and];(repeat' first|with_reducible assumption|apply jv|intro hp);all_goals first|(apply hQ;clear hQ Q)|(apply jx;kernel_rfl)|omega|assumption|rfl|skip)
   (simp only [vrt,results137,vkt,seval,yF];refine Fin.val rfl ?_;(try simp only [AV.le]))
   all_goals first|rfl|simp
def sask:List AV->Prop × AV
 |[.agg [.sl c0,.v (.int .i64 c1),.sl c2],.agg [.v (.int .i64 a0),.v (.int .i64 a1),.v (.int .i64 a2),.sl a3,.v (.bool a4)]]=>(c0=(c0.map qh).map qx/\c2=(c2.map dTk).map eTk/\a3=(a3.map zI).map zL/\c2.length<=100/\a3.length<=maxLen,aI (Q9 (⟨(c0.map qh),c1,(c2.map dTk)⟩:Chart) (⟨a0,a1,a2,(a3.map zI),a4⟩:Ask)))
 |_=>(False,.junk)
def eask {A:Frm->Prop}:qm A prog 137 (zw true sask):=qL fun vs hv h=>by
 clear hv
 unfold sask at h ⊢
 split at h
 ·rename_i c0 c1 c2 a0 a1 a2 a3 a4;obtain ⟨q0,q1,q2,k0,k1⟩:=h
  refine ⟨by first|trivial|(repeat' split) <;> simp [AV.plain,AV.plainL,aI,aB,qz,qc,qy,qw,aTk,cTk],fun _=>(by simp [AV.flat,aI]), ?_⟩
  have:=Qmz (⟨(c0.map qh),c1,(c2.map dTk)⟩:Chart) (⟨a0,a1,a2,(a3.map zI),a4⟩:Ask) (by simpa using k0) (by simpa using k1)
  simp only [zl,qd,aI,qo,qa,<- q0,<- q1,<- q2] at this
  first|exact this|(simp only [zl,aB,zF,qd,aI,qz,qy,qo,qa,<- q0,<- q1,<- q2];exact this)
 ·exact h.elim
def Qah:=jv @ZF (jv @ZC (jv @Qv.eq_1 @Qz.eq_1))
def QdP (xs:List (List DV)) (h1:zu 2 xs) (h2:xs.length<=100000):Fn noB prog 173 [.sl xs] noH (.row 0) (qb [(0,.row 84 2 xs)]) 0:=by
 have env:=qA (A:=fun _=>True) kN
 obtain ⟨b1,b2,b3,b5,b4⟩:=b47 h2
 refine kV (Fn0 func173 rfl (fun vs w=>by kernel_rfl) (by kernel_rfl)) (by simp) (by simp [AV.ids]) ?_
 repeat' first|(apply nx;with_reducible constructor)|apply jq (by decide)
 (apply jz env;intro Q hQ;simp only [vkt,seval,ite_and];(repeat' first|with_reducible assumption|apply jv|intro hp);all_goals first|(apply hQ;clear hQ Q)|(apply jx;kernel_rfl)|omega|assumption|rfl|skip)
 repeat' first|(apply nx;with_reducible constructor)|apply jq (by decide)
 refine Qj (d1:=3) (d2:=4) (t:=22) (e:=84) (x:=.tmp 0) (xs:=xs) rfl rfl rfl rfl rfl rfl underlying22 rfl fun b hb=>?_
 repeat' first|(apply nx;with_reducible constructor)|apply jq (by decide)
 (refine jE (by simp only [vkt,seval];rfl) (fun h=>?_) (fun h=>?_) <;> (try simp only [vki,reduceCtorEq] at h))
 ·have hx:=hb h
  subst hx
  repeat' first|(apply nx;with_reducible constructor)|apply jq (by decide)|((first|apply jz env|apply jw);intro Q hQ;simp only [vkt,seval,ite_and];(repeat' first|with_reducible assumption|apply jv|intro hp);all_goals first|(apply hQ;clear hQ Q)|(apply jx;kernel_rfl)|omega|assumption|rfl|skip)
  (simp only [vrt,results173,vkt,seval];refine Fin.ok (fun _=>none) [] ?_ ?_ ?_ ?_ ?_ rfl;all_goals (try simp only [vle,vkt,seval]))
  all_goals simp
 ·repeat' first|(apply nx;with_reducible constructor)|apply jq (by decide)|((first|apply jz env|apply jw);intro Q hQ;simp only [vkt,seval,Qah,ite_and];(repeat' first|with_reducible assumption|apply jv|intro hp);all_goals first|(apply hQ;clear hQ Q)|(apply jx;kernel_rfl)|omega|assumption|rfl|skip)
  (simp only [vrt,results173,vkt,seval];refine Fin.ok some [] ?_ ?_ ?_ ?_ ?_ rfl;all_goals (try simp only [vle,vkt,seval]))
  all_goals simp
def Y7 (_:St):List AV->Option Pk
 |[.sl xs]=>some { pre:=zu 2 xs/\xs.length<=100000,ar:=[.sl xs],v:=.row 0,L1:=[some (.row 84 2 xs)] }
 |_=>none
def Qk0 {A:Frm->Prop}:qm A prog 173 (fnE Y7):=zJ fun S bs q h hp=>by
 unfold Y7 at h
 split at h
 ·cases h;exact QdP _ hp.1 hp.2
 ·cases h
def QbG:=jv @ZF (jv @vJ (jv @jm (jv @ZC (jv @jC (jv @WP (jv @Qv.eq_1 (jv @yI.eq_1 (jv @wY.eq_1 (jv @Qz.eq_1 (jv @je.eq_1 @QC.eq_1))))))))))
def QfW (c:Chart) (h1:c.cabins.length<=100000) (h2:c.sold.length<=100000):Fn noB prog 138 [qd c] noH (.ptr 0 0) (qb (ze 0 ((qJ c.cabins c.secs c.sold).map some))) 0:=by
 have env:Env (fun _=>True) prog tyB (tab [(174,fnE J3),(173,fnE Y7)]):=qA ⟨Qdp,Qk0,trivial⟩
 refine Fn.of (A:=fun _=>True) (n0:=0) (D:=noD) (Fn0 func138 rfl (fun vs w=>by kernel_rfl) (by kernel_rfl)) (by simp) (by simp [AV.ids,AV.idsL,qd,qa]) (fun i o h=>by cases h) (fun _ _ _ _=>trivial) qX ?_
 show Sym _ _ _ (qV [qd c] 0 noH) (yc tyB noD Tryz.f138 fun S rv=>Fin S rv _ 0 (qb [(0,qg c.cabins c.secs 1),(1,qf c.sold)]) 0)
 repeat' first|(apply nx;with_reducible constructor)|refine jq (by decide) ?_|((first|refine jz env fun Q hQ=>?_|refine jk fun Q hQ=>?_);simp only [vkt,seval,QbG,qd,qa,rTk,wP,J3,Y7,h1,h2];(try simp only [ite_and]);(repeat' (first|with_reducible assumption|refine dT ?_ ?_|intro hp));all_goals (first|(refine hQ _ ?_;clear hQ Q)|(refine hQ _ (fun h=>?_) (fun h=>?_) <;> clear hQ Q <;> (try simp only [vki,reduceCtorEq] at h))|(refine jx ?_;kernel_rfl)|omega|assumption|rfl|skip))
 all_goals (simp only [vrt,results138,vkt,seval,qg,qf];refine Fin.ok (fun j=>[3,2][j]?) [1] ?_ ?_ ?_ ?_ ?_ rfl;all_goals (try simp only [vle,vkt,seval]))
 all_goals first|rfl|simp
def Qck (_:St):List AV->Option Pk
 |[.agg [.sl cs,.v (.int .i64 s),.sl ts]]=>some { pre:=cs=(cs.map qh).map qx/\ts=(ts.map dTk).map eTk/\cs.length<=100000/\ts.length<=100000,ar:=[.agg [.sl cs,.v (.int .i64 s),.sl ts]],v:=.ptr 0 0,L1:=(qJ (cs.map qh) s (ts.map dTk)).map some }
 |_=>none
def Qik {A:Frm->Prop}:qm A prog 138 (fnE Qck):=zJ fun S bs q h hp=>by
 unfold Qck at h
 split at h
 ·rename_i cs s ts
  cases h
  obtain ⟨h1,h2,h3,h4⟩:=hp
  have:=QfW ⟨cs.map qh,s,ts.map dTk⟩ (by simpa using h3) (by simpa using h4)
  simp only [qd,qa,<- h1,<- h2] at this
  exact this
 ·cases h
def Qe {c:Chart} {a:Ask} (h:wz c a=0):zt c=0/\Q9 c a=0:=by
 unfold wz at h
 split at h
 ·rename_i h1;exact absurd h h1
 ·rename_i h1;exact ⟨Decidable.not_not.1 h1,h⟩
def ZJ:=jv @jm (jv @Qa (jv @Jp (jv @wY.eq_1 (jv @xQ.eq_1 @ZG.eq_1))))
def Wv:=jv @aI.eq_1 (jv @aB.eq_1 (@Ju))
def QhD (c:Chart) (a:Ask) (h:wz c a=0) (hc:c.cabins.length<=maxLen) (ha:a.sexes.length<=maxLen):Fn noB prog 76 [qd c,zl a] noH (.tup [.ptr 0 0,aI 0]) (qb (ze 0 ((qJ c.cabins c.secs c.sold).map some))) 0:=by
 have env:=qA (A:=fun _=>True) (kC YF (kC eask (kC Qik kN)))
 refine kV (Fn0 func76 rfl (fun vs w=>by kernel_rfl) (by kernel_rfl)) (by simp) (by simp [AV.ids,AV.idsL,qd,qa,zl,qo]) ?_
 obtain ⟨h1,h2⟩:=Qe h
 have hv:=Ze h1
 have b1:=hv.car.cabs
 have b2:=hv.many
 have ec:(⟨c.cabins,c.secs,c.sold⟩:Chart)=c:=rfl
 have ea:(⟨a.party,a.frm,a.to,a.sexes,a.dog⟩:Ask)=a:=rfl
 have b3:c.sold.length<=100:=by omega
 have b4:c.sold.length<=100000:=by omega
 have b5:c.cabins.length<=100000:=by omega
 show Sym _ _ _ (qV [qd c,zl a] 0 noH) (yc tyB noD Tryz.f76 fun S rv=>Fin S rv _ 0 (qb [(0,qg c.cabins c.secs 1),(1,qf c.sold)]) 0)
 repeat' first|(apply nx;with_reducible constructor)|apply jq (by decide)|((first|apply jz env|apply jw);intro Q hQ;simp only [vkt,seval,ZJ,Wv,qd,qa,zl,qo,mTk,qC,qg,qf,qJ,yT,sask,Qck,ec,ea,h1,h2,b3,b4,b5,ite_and];(repeat' first|with_reducible assumption|apply jv|intro hp);all_goals first|(apply hQ;clear hQ Q)|(apply jx;kernel_rfl)|omega|assumption|rfl|skip)
 (simp only [vrt,results76,vkt,seval,Wv,qg,qf];refine Fin.ok (fun j=>[2,3][j]?) [] ?_ ?_ ?_ ?_ ?_ rfl;all_goals (try simp only [vle,vkt,seval]))
 all_goals first|rfl|simp
def Qef (c:Chart) (a:Ask) (h0:wz c a ≠ 0) (hc:c.cabins.length<=maxLen) (ha:a.sexes.length<=maxLen):Fn noB prog 76 [qd c,zl a] noH (.tup [.v (.pointer none),aI (wz c a)]) noH 0:=by
 have env:=qA (A:=fun _=>True) (kC YF (kC eask (kC Qik kN)))
 refine kV (Fn0 func76 rfl (fun vs w=>by kernel_rfl) (by kernel_rfl)) (by simp) (by simp [AV.ids,AV.idsL,qd,qa,zl,qo]) ?_
 have ec:(⟨c.cabins,c.secs,c.sold⟩:Chart)=c:=rfl
 have ea:(⟨a.party,a.frm,a.to,a.sexes,a.dog⟩:Ask)=a:=rfl
 by_cases h1:zt c=0
 ·have hE:wz c a=Q9 c a:=by unfold wz;rw [if_neg (by rw [h1];simp)]
  rw [hE] at h0 ⊢
  have hv:=Ze h1
  have b2:=hv.many
  have b3:c.sold.length<=100:=by omega
  repeat' first|(apply nx;with_reducible constructor)|apply jq (by decide)|((first|apply jz env|apply jw);intro Q hQ;simp only [vkt,seval,ZJ,Wv,qd,qa,zl,qo,mTk,qC,yT,sask,ec,ea,h1,h0,b3,ite_and];(repeat' first|with_reducible assumption|apply jv|intro hp);all_goals first|(apply hQ;clear hQ Q)|(apply jx;kernel_rfl)|omega|assumption|rfl|skip)
  (simp only [vrt,results76,vkt,seval,Wv];refine Fin.val rfl ?_;(try simp only [AV.le,AV.leL]))
  all_goals first|rfl|simp
 ·have hE:wz c a=zt c:=by unfold wz;rw [if_pos h1]
  rw [hE]
  repeat' first|(apply nx;with_reducible constructor)|apply jq (by decide)|((first|apply jz env|apply jw);intro Q hQ;simp only [vkt,seval,ZJ,Wv,qd,qa,zl,qo,mTk,qC,yT,ec,h1,ite_and];(repeat' first|with_reducible assumption|apply jv|intro hp);all_goals first|(apply hQ;clear hQ Q)|(apply jx;kernel_rfl)|omega|assumption|rfl|skip)
  (simp only [vrt,results76,vkt,seval,Wv];refine Fin.val rfl ?_;(try simp only [AV.le,AV.leL]))
  all_goals first|rfl|simp
def yg (_:St):List AV->Option Pk
 |[.agg [.sl cs,.v (.int .i64 s),.sl ts],.agg [.v (.int .i64 p),.v (.int .i64 f),.v (.int .i64 t),.sl xs,.v (.bool d)]] =>
  if wz ⟨cs.map qh,s,ts.map dTk⟩ ⟨p,f,t,xs.map zI,d⟩=0 then
   some { pre:=cs=(cs.map qh).map qx/\ts=(ts.map dTk).map eTk/\xs=(xs.map zI).map zL/\cs.length<=maxLen/\xs.length<=maxLen,ar:=[.agg [.sl cs,.v (.int .i64 s),.sl ts],.agg [.v (.int .i64 p),.v (.int .i64 f),.v (.int .i64 t),.sl xs,.v (.bool d)]],v:=.tup [.ptr 0 0,aI 0],L1:=(qJ (cs.map qh) s (ts.map dTk)).map some }
  else some { pre:=cs=(cs.map qh).map qx/\ts=(ts.map dTk).map eTk/\xs=(xs.map zI).map zL/\cs.length<=maxLen/\xs.length<=maxLen,ar:=[.agg [.sl cs,.v (.int .i64 s),.sl ts],.agg [.v (.int .i64 p),.v (.int .i64 f),.v (.int .i64 t),.sl xs,.v (.bool d)]],v:=.tup [.v (.pointer none),aI (wz ⟨cs.map qh,s,ts.map dTk⟩ ⟨p,f,t,xs.map zI,d⟩)] }
 |_=>none
def Vv {A:Frm->Prop}:qm A prog 76 (fnE yg):=zJ fun S bs q h hp=>by
 unfold yg at h
 split at h
 ·rename_i cs s ts p f t xs d
  split at h
  ·rename_i hE
   cases h
   obtain ⟨h1,h2,h3,h4,h5⟩:=hp
   have:=QhD ⟨cs.map qh,s,ts.map dTk⟩ ⟨p,f,t,xs.map zI,d⟩ hE (by simpa using h4) (by simpa using h5)
   simp only [qd,qa,zl,qo,<- h1,<- h2,<- h3] at this
   exact this
  ·rename_i hE
   cases h
   obtain ⟨h1,h2,h3,h4,h5⟩:=hp
   have:=Qef ⟨cs.map qh,s,ts.map dTk⟩ ⟨p,f,t,xs.map zI,d⟩ hE (by simpa using h4) (by simpa using h5)
   simp only [qd,qa,zl,qo,<- h1,<- h2,<- h3] at this
   exact this
 ·cases h
def JA (L:List AObj):nth L=qb (qB 0 L):=by
 funext i
 rw [zZ]
 simp [nth]
def plL (c:Chart) (a:Ask):List AObj:=[qg c.cabins c.secs 1,qf c.sold,.cells [.ptr 0 0],.cells (qo a)]
def plP (c:Chart) (a:Ask):List (List Bunk × List Tk):=zS c.cabins a a.sexes.length c.sold []
def plY (c:Chart) (a:Ask) (j:Nat):List AV:=[qc ((plP c a).getD j default).1]
def plH (c:Chart) (a:Ask) (j:Nat):List AObj:=qJ c.cabins c.secs ((plP c a).getD j default).2
structure PlOk (c:Chart) (a:Ask):Prop where
 val:Val c
 sx:a.sexes.length<=3
def pl_ok {c:Chart} {a:Ask} (h:PlOk c a) {ans:Nat->Bool} {R:Nat} (hr:Rounds ans R (plP c a).length):GrowOk c.cabins c.secs a a.sexes.length c.sold [] (plY c a) (plH c a) ans R:=by
 have h1:=h.val.car.cabs
 have h2:=h.val.many
 have h3:=h.sx
 exact ⟨by simp,by omega,⟨by omega,fun x hx=>by have:=h.val.car.beds x hx;omega⟩,by omega,by omega,(by simp),hr,fun _ _=>rfl,fun _ _=>rfl⟩
def Uk (c:Chart) (a:Ask) (ys:Nat->List AV) (hl:Nat->List AObj) (ans:Nat->Bool) (R:Nat) (S:St):List AV->Option PkI
 |[.ptr p 0,.agg aa,.nil,.cb]=>match S.h p with
  |some (.cells [.sl cc,.v (.int .i64 s'),.row r])=>match S.h r with
   |some (.row _ _ xs)=>some { q:={ pre:=cc=c.cabins.map qx/\s'=c.secs/\aa=qo a/\xs=c.sold.map eTk/\S.j=0/\GrowOk c.cabins c.secs a a.sexes.length c.sold [] ys hl ans R,hs:=[p,r],ar:=[.ptr 0 0,zl a,qc [],.cb],L0:=qJ c.cabins c.secs c.sold,v:=aB (xK ans R),L1:=(qJ c.cabins c.secs c.sold).map some },dj:=R }
   |_=>none
  |_=>none
 |_=>none
def Ql2 {A:Frm->Prop} {c:Chart} {a:Ask} {ys:Nat->List AV} {hl:Nat->List AObj} {ans:Nat->Bool} {R:Nat} {h0:Nat->Option AObj} (hA:∀ F,A F->Acb prog (qb (qB 0 [qg c.cabins c.secs 1])) h0 ys (fun j=>nth (hl j)) ans R F) :
  qm A prog 141 (fnI [qg c.cabins c.secs 1] R (Uk c a ys hl ans R)):=Rj hA fun S bs q h hp=>by
 unfold Uk at h
 split at h
 ·split at h
  ·split at h
   ·cases h
    obtain ⟨_,_,_,_,h4,h6⟩:=hp
    have:=U3 _ _ _ _ _ _ _ _ _ _ h6
    simp only [h4,bf]
    exact this
   ·cases h
  ·cases h
 ·cases h
def Ur {c:Chart} {a:Ask}:∀ i o,qb (qB 0 (plL c a)) i=some o->i < 4/\∀ id ∈ o.ids,id < 4:=by
 intro i o hi
 have h:=qG hi
 simp [qB,plL] at h
 rcases h with ⟨rfl,rfl⟩|⟨rfl,rfl⟩|⟨rfl,rfl⟩|⟨rfl,rfl⟩ <;> simp [AObj.ids,AV.ids,AV.idsL,qg,qf,qo]
def XE:=jv @Jp (jv @QM (jv @ZG.eq_1 @xW.eq_1))
def Qkx:=jv @aI.eq_1 (@aB.eq_1)
def Wz {c:Chart} {a:Ask} (h:PlOk c a):QcN prog 140 [.cb,.ptr 2 0,.ptr 3 0] (nth ((plL c a).take 1)) (nth (plL c a)) (plY c a) (plP c a).length (fun j=>nth (plH c a j)) (fun _ _=>.tup []):=by
 intro ans R hr
 have ok:=pl_ok h hr
 rw [JA,JA]
 obtain ⟨A0,hA0⟩:∃ A0:Frm->Prop,A0=Acb prog (qb (qB 0 [qg c.cabins c.secs 1])) (qb (qB 0 (plL c a))) (plY c a) (fun j=>nth (plH c a j)) ans R:=⟨_,rfl⟩
 have hA:∀ F,A0 F->Acb prog (qb (qB 0 [qg c.cabins c.secs 1])) (qb (qB 0 (plL c a))) (plY c a) (fun j=>nth (plH c a j)) ans R F:=fun F h=>hA0 ▸ h
 have env:Env A0 prog tyB (tab [(141,fnI [qg c.cabins c.secs 1] R (Uk c a (plY c a) (plH c a) ans R))]):=qA ⟨Ql2 hA,trivial⟩
 refine Fn.of (A:=A0) (n0:=4) (D:=noD) (Fn0 func140 rfl (fun vs w=>by kernel_rfl) (by kernel_rfl)) (by simp) (by simp [AV.ids]) Ur (fun F hb h0 _=>hA0 ▸ ⟨h0,Qhl,hb⟩) qX ?_
 show Sym _ _ _ (qV [.cb,.ptr 2 0,.ptr 3 0] 4 (qb [(0,qg c.cabins c.secs 1),(1,qf c.sold),(2,.cells [.ptr 0 0]),(3,.cells (qo a))])) (yc tyB noD Tryz.f140 fun S rv=>Fin S rv _ 4 (qb [(0,qg c.cabins c.secs 1),(1,qf c.sold),(2,.cells [.ptr 0 0]),(3,.cells (qo a))]) R)
 repeat' first|(apply nx;with_reducible constructor)|apply jq (by decide)|((first|apply jz env|apply jw);intro Q hQ;simp only [vkt,seval,XE,Qkx,zl,qo,qc,qg,qf,qJ,Uk,fnI,Y0,hwL,ok,ite_and];(repeat' first|with_reducible assumption|apply jv|intro hp);all_goals first|(apply hQ;clear hQ Q)|(apply jx;kernel_rfl)|omega|assumption|rfl|skip)
 (simp only [vrt,results140,vkt,seval,qo,qg,qf];refine Fin.ok some [] ?_ ?_ ?_ ?_ ?_ rfl;all_goals (try simp only [vle,vkt,seval]))
 all_goals first|rfl|simp
def Qfn (c:Chart) (a:Ask):Fn noB prog 78 [.ptr 0 0,zl a] (qb (qB 0 (qJ c.cabins c.secs c.sold))) (.clo 140 [.ptr 2 0,.ptr 3 0]) (qb (ze 0 ((plL c a).map some))) 0:=by
 have env:=qA (A:=fun _=>True) kN
 refine Fn.of (A:=fun _=>True) (n0:=2) (D:=noD) (Fn0 func78 rfl (fun vs w=>by kernel_rfl) (by kernel_rfl)) (by simp) (by simp [AV.ids,AV.idsL,zl,qo]) vZ (fun _ _ _ _=>trivial) qX ?_
 show Sym _ _ _ (qV [.ptr 0 0,zl a] 2 (qb [(0,qg c.cabins c.secs 1),(1,qf c.sold)])) (yc tyB noD Tryz.f78 fun S rv=>Fin S rv _ 2 (qb [(0,qg c.cabins c.secs 1),(1,qf c.sold),(2,.cells [.ptr 0 0]),(3,.cells (qo a))]) 0)
 repeat' first|(apply nx;with_reducible constructor)|apply jq (by decide)|((first|apply jz env|apply jw);intro Q hQ;simp only [vkt,seval,zl,qo,qg,qf,ite_and];(repeat' first|with_reducible assumption|apply jv|intro hp);all_goals first|(apply hQ;clear hQ Q)|(apply jx;kernel_rfl)|omega|assumption|rfl|skip)
 (simp only [vrt,results78,vkt,seval,qo,qg,qf];refine Fin.ok some [] ?_ ?_ ?_ ?_ ?_ rfl;all_goals (try simp only [vle,vkt,seval]))
 all_goals first|rfl|(simp;done)|exact fun i hi=>(match i,hi with|0,_=>rfl|1,_=>rfl)
def yB (S:St):List AV->Option Pk
 |[.ptr p 0,.agg [.v (.int .i64 a0),.v (.int .i64 a1),.v (.int .i64 a2),.sl a3,.v (.bool a4)]]=>match S.h p with
  |some (.cells [.sl cs,.v (.int .i64 s),.row r])=>match S.h r with
   |some (.row _ _ xs)=>some { pre:=cs=(cs.map qh).map qx/\xs=(xs.map dTk).map eTk/\a3=(a3.map zI).map zL,hs:=[p,r],ar:=[.ptr 0 0,.agg [.v (.int .i64 a0),.v (.int .i64 a1),.v (.int .i64 a2),.sl a3,.v (.bool a4)]],L0:=qJ (cs.map qh) s (xs.map dTk),v:=.clo 140 [.ptr 2 0,.ptr 3 0],L1:=(plL ⟨cs.map qh,s,xs.map dTk⟩ ⟨a0,a1,a2,a3.map zI,a4⟩).map some }
   |_=>none
  |_=>none
 |_=>none
end Go.Sym.B
