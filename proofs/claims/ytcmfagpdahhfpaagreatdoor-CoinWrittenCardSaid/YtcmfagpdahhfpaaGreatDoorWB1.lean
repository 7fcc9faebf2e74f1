/- Walks and what they compute, joined: part 1. -/
import Derived.Test.YtcmfagpdahhfpaaGreatDoorWS3
import Derived.Test.YtcmfagpdahhfpaaGreatDoorProg
import Derived.KernelRfl
import Derived.Shelf.Strings.OnBuilder
import Derived.Shelf.Strconv.Itoa3
import Derived.Shelf.Strconv.AtoiAll
import Derived.Shelf.Strings.Split
import Derived.Shelf.Strings.Cut
set_option linter.all false
set_option maxRecDepth 100000
set_option maxHeartbeats 40000000
namespace Go.Sym.B
open Go Go.Sym Go.Proofs Go.Proofs.Tryz
def _root_.Go.Sym.jw {a b:Prop} (x:a) (y:b):a/\b:=⟨x,y⟩
def _root_.Go.Sym.jq:=@YF
def _root_.Go.Sym.jx:=@UC
def _root_.Go.Sym.jz:=@Qct
def _root_.Go.Sym.jj:=@QfS
def _root_.Go.Sym.jk:=@QgH
def ti2:TI:={ cells:=1,bytes:=8,td:=.int .i64,zero:=[.v (.int .i64 0)],eqk:=none }
def tf2:TyFact prog 2 ti2:=by
 refine ⟨⟨Tryz.t2,.int .i64 0,by kernel_rfl,rfl,rfl,rfl,rfl,rfl,by simp [Value.cells,Value.oneCell']⟩,⟨_,underlying2,rfl⟩,fun fs h=>?_,fun ks h=>?_,fun q h=>?_⟩
 ·cases h
 ·cases h
 ·cases h
def ti3:TI:={ cells:=1,bytes:=8,td:=.int .i64,zero:=[.v (.int .i64 0)],eqk:=none }
def tf3:TyFact prog 3 ti3:=by
 refine ⟨⟨Tryz.t3,.int .i64 0,by kernel_rfl,rfl,rfl,rfl,rfl,rfl,by simp [Value.cells,Value.oneCell']⟩,⟨_,underlying3,rfl⟩,fun fs h=>?_,fun ks h=>?_,fun q h=>?_⟩
 ·cases h
 ·cases h
 ·cases h
def ti4:TI:={ cells:=1,bytes:=1,td:=.bool,zero:=[.v (.bool false)],eqk:=none }
def tf4:TyFact prog 4 ti4:=by
 refine ⟨⟨Tryz.t4,.bool false,by kernel_rfl,rfl,rfl,rfl,rfl,rfl,by simp [Value.cells,Value.oneCell']⟩,⟨_,underlying4,rfl⟩,fun fs h=>?_,fun ks h=>?_,fun q h=>?_⟩
 ·cases h
 ·cases h
 ·cases h
def ti5:TI:={ cells:=1,bytes:=1,td:=.int .u8,zero:=[.v (.int .u8 0)],eqk:=none }
def tf5:TyFact prog 5 ti5:=by
 refine ⟨⟨Tryz.t5,.int .u8 0,by kernel_rfl,rfl,rfl,rfl,rfl,rfl,by simp [Value.cells,Value.oneCell']⟩,⟨_,underlying5,rfl⟩,fun fs h=>?_,fun ks h=>?_,fun q h=>?_⟩
 ·cases h
 ·cases h
 ·cases h
def ti9:TI:={ cells:=1,bytes:=16,td:=.string,zero:=[.v (.string ⟨#[]⟩)],eqk:=none }
def tf9:TyFact prog 9 ti9:=by
 refine ⟨⟨Tryz.t9,.string ⟨#[]⟩,by kernel_rfl,rfl,rfl,rfl,rfl,rfl,by simp [Value.cells,Value.oneCell']⟩,⟨_,underlying9,rfl⟩,fun fs h=>?_,fun ks h=>?_,fun q h=>?_⟩
 ·cases h
 ·cases h
 ·cases h
def ti20:TI:={ cells:=1,bytes:=16,td:=.iface,zero:=[.v (.nilIface)],eqk:=none }
def tf20:TyFact prog 20 ti20:=by
 refine ⟨⟨Tryz.t20,.nilIface,by kernel_rfl,rfl,rfl,rfl,rfl,rfl,by simp [Value.cells,Value.oneCell']⟩,⟨_,underlying20,⟨_,rfl⟩⟩,fun fs h=>?_,fun ks h=>?_,fun q h=>?_⟩
 ·cases h
 ·cases h
 ·cases h
def ti21:TI:={ cells:=1,bytes:=4,td:=.int .i32,zero:=[.v (.int .i32 0)],eqk:=none }
def tf21:TyFact prog 21 ti21:=by
 refine ⟨⟨Tryz.t21,.int .i32 0,by kernel_rfl,rfl,rfl,rfl,rfl,rfl,by simp [Value.cells,Value.oneCell']⟩,⟨_,underlying21,rfl⟩,fun fs h=>?_,fun ks h=>?_,fun q h=>?_⟩
 ·cases h
 ·cases h
 ·cases h
def ti22:TI:={ cells:=1,bytes:=24,td:=.slice 84,zero:=[.nil],eqk:=none }
def tf22:TyFact prog 22 ti22:=by
 refine ⟨⟨Tryz.t22,.slice none 0 0,by kernel_rfl,rfl,rfl,rfl,rfl,rfl,by simp [Value.cells,Value.oneCell']⟩,⟨_,underlying22,rfl⟩,fun fs h=>?_,fun ks h=>?_,fun q h=>?_⟩
 ·cases h
 ·cases h
 ·cases h
def ti23:TI:={ cells:=1,bytes:=24,td:=.slice 88,zero:=[.nil],eqk:=none }
def tf23:TyFact prog 23 ti23:=by
 refine ⟨⟨Tryz.t23,.slice none 0 0,by kernel_rfl,rfl,rfl,rfl,rfl,rfl,by simp [Value.cells,Value.oneCell']⟩,⟨_,underlying23,rfl⟩,fun fs h=>?_,fun ks h=>?_,fun q h=>?_⟩
 ·cases h
 ·cases h
 ·cases h
def ti25:TI:={ cells:=3,bytes:=56,td:=.struct [(0,1,22),(1,1,3),(2,1,23)],zero:=[.nil,.v (.int .i64 0),.nil],eqk:=none }
def tf25:TyFact prog 25 ti25:=by
 refine ⟨⟨Tryz.t25,.agg #[.slice none 0 0,.int .i64 0,.slice none 0 0],by kernel_rfl,rfl,rfl,rfl,rfl,rfl,by simp [Value.cells,Value.oneCell']⟩,⟨_,underlying25,⟨_,rfl,rfl⟩⟩,fun fs h=>?_,fun ks h=>?_,fun q h=>?_⟩
 ·cases h
  simp only [ae,aO,or_false,forall_eq_or_imp,forall_eq];exact ⟨⟨Tryz.t22,by kernel_rfl,rfl⟩,⟨Tryz.t3,by kernel_rfl,rfl⟩,⟨Tryz.t23,by kernel_rfl,rfl⟩⟩
 ·cases h
 ·cases h
def jr:TI:={ cells:=1,bytes:=24,td:=.slice 3,zero:=[.nil],eqk:=none }
def tf26:TyFact prog 26 jr:=by
 refine ⟨⟨Tryz.t26,.slice none 0 0,by kernel_rfl,rfl,rfl,rfl,rfl,rfl,by simp [Value.cells,Value.oneCell']⟩,⟨_,underlying26,rfl⟩,fun fs h=>?_,fun ks h=>?_,fun q h=>?_⟩
 ·cases h
 ·cases h
 ·cases h
def ti28:TI:={ cells:=1,bytes:=8,td:=.func,zero:=[.v (.nilFunc)],eqk:=none }
def tf28:TyFact prog 28 ti28:=by
 refine ⟨⟨Tryz.t28,.nilFunc,by kernel_rfl,rfl,rfl,rfl,rfl,rfl,by simp [Value.cells,Value.oneCell']⟩,⟨_,underlying28,⟨_,_,_,rfl⟩⟩,fun fs h=>?_,fun ks h=>?_,fun q h=>?_⟩
 ·cases h
 ·cases h
 ·cases h
def ti30:TI:={ cells:=1,bytes:=8,td:=.ptr,zero:=[.v (.pointer none)],eqk:=none }
def tf30:TyFact prog 30 ti30:=by
 refine ⟨⟨Tryz.t30,.pointer none,by kernel_rfl,rfl,rfl,rfl,rfl,rfl,by simp [Value.cells,Value.oneCell']⟩,⟨_,underlying30,⟨_,rfl⟩⟩,fun fs h=>?_,fun ks h=>?_,fun q h=>?_⟩
 ·cases h
 ·cases h
 ·cases h
def ti32:TI:={ cells:=1,bytes:=24,td:=.slice 25,zero:=[.nil],eqk:=none }
def tf32:TyFact prog 32 ti32:=by
 refine ⟨⟨Tryz.t32,.slice none 0 0,by kernel_rfl,rfl,rfl,rfl,rfl,rfl,by simp [Value.cells,Value.oneCell']⟩,⟨_,underlying32,rfl⟩,fun fs h=>?_,fun ks h=>?_,fun q h=>?_⟩
 ·cases h
 ·cases h
 ·cases h
def VC:TI:={ cells:=1,bytes:=24,td:=.slice 9,zero:=[.nil],eqk:=none }
def tf33:TyFact prog 33 VC:=by
 refine ⟨⟨Tryz.t33,.slice none 0 0,by kernel_rfl,rfl,rfl,rfl,rfl,rfl,by simp [Value.cells,Value.oneCell']⟩,⟨_,underlying33,rfl⟩,fun fs h=>?_,fun ks h=>?_,fun q h=>?_⟩
 ·cases h
 ·cases h
 ·cases h
def Zy:TI:={ cells:=1,bytes:=8,td:=.int .i64,zero:=[.v (.int .i64 0)],eqk:=none }
def tf34:TyFact prog 34 Zy:=by
 refine ⟨⟨Tryz.t34,.int .i64 0,by kernel_rfl,rfl,rfl,rfl,rfl,rfl,by simp [Value.cells,Value.oneCell']⟩,⟨_,underlying34,rfl⟩,fun fs h=>?_,fun ks h=>?_,fun q h=>?_⟩
 ·cases h
 ·cases h
 ·cases h
def Qo:TI:={ cells:=1,bytes:=24,td:=.slice 26,zero:=[.nil],eqk:=none }
def tf43:TyFact prog 43 Qo:=by
 refine ⟨⟨Tryz.t43,.slice none 0 0,by kernel_rfl,rfl,rfl,rfl,rfl,rfl,by simp [Value.cells,Value.oneCell']⟩,⟨_,underlying43,rfl⟩,fun fs h=>?_,fun ks h=>?_,fun q h=>?_⟩
 ·cases h
 ·cases h
 ·cases h
def WG:TI:={ cells:=1,bytes:=24,td:=.slice 108,zero:=[.nil],eqk:=none }
def tf44:TyFact prog 44 WG:=by
 refine ⟨⟨Tryz.t44,.slice none 0 0,by kernel_rfl,rfl,rfl,rfl,rfl,rfl,by simp [Value.cells,Value.oneCell']⟩,⟨_,underlying44,rfl⟩,fun fs h=>?_,fun ks h=>?_,fun q h=>?_⟩
 ·cases h
 ·cases h
 ·cases h
def JZ:TI:={ cells:=1,bytes:=24,td:=.slice 129,zero:=[.nil],eqk:=none }
def tf45:TyFact prog 45 JZ:=by
 refine ⟨⟨Tryz.t45,.slice none 0 0,by kernel_rfl,rfl,rfl,rfl,rfl,rfl,by simp [Value.cells,Value.oneCell']⟩,⟨_,underlying45,rfl⟩,fun fs h=>?_,fun ks h=>?_,fun q h=>?_⟩
 ·cases h
 ·cases h
 ·cases h
def vO:TI:={ cells:=4,bytes:=96,td:=.struct [(0,1,43),(1,1,44),(2,1,26),(3,1,45)],zero:=[.nil,.nil,.nil,.nil],eqk:=none }
def tf47:TyFact prog 47 vO:=by
 refine ⟨⟨Tryz.t47,.agg #[.slice none 0 0,.slice none 0 0,.slice none 0 0,.slice none 0 0],by kernel_rfl,rfl,rfl,rfl,rfl,rfl,by simp [Value.cells,Value.oneCell']⟩,⟨_,underlying47,⟨_,rfl,rfl⟩⟩,fun fs h=>?_,fun ks h=>?_,fun q h=>?_⟩
 ·cases h
  simp only [ae,aO,or_false,forall_eq_or_imp,forall_eq];exact ⟨⟨Tryz.t43,by kernel_rfl,rfl⟩,⟨Tryz.t44,by kernel_rfl,rfl⟩,⟨Tryz.t26,by kernel_rfl,rfl⟩,⟨Tryz.t45,by kernel_rfl,rfl⟩⟩
 ·cases h
 ·cases h
def ti50:TI:={ cells:=1,bytes:=24,td:=.slice 47,zero:=[.nil],eqk:=none }
def tf50:TyFact prog 50 ti50:=by
 refine ⟨⟨Tryz.t50,.slice none 0 0,by kernel_rfl,rfl,rfl,rfl,rfl,rfl,by simp [Value.cells,Value.oneCell']⟩,⟨_,underlying50,rfl⟩,fun fs h=>?_,fun ks h=>?_,fun q h=>?_⟩
 ·cases h
 ·cases h
 ·cases h
def ti59:TI:={ cells:=1,bytes:=24,td:=.slice 65,zero:=[.nil],eqk:=none }
def tf59:TyFact prog 59 ti59:=by
 refine ⟨⟨Tryz.t59,.slice none 0 0,by kernel_rfl,rfl,rfl,rfl,rfl,rfl,by simp [Value.cells,Value.oneCell']⟩,⟨_,underlying59,rfl⟩,fun fs h=>?_,fun ks h=>?_,fun q h=>?_⟩
 ·cases h
 ·cases h
 ·cases h
def ti63:TI:={ cells:=5,bytes:=56,td:=.struct [(0,1,3),(1,1,3),(2,1,3),(3,1,26),(4,1,4)],zero:=[.v (.int .i64 0),.v (.int .i64 0),.v (.int .i64 0),.nil,.v (.bool false)],eqk:=none }
def tf63:TyFact prog 63 ti63:=by
 refine ⟨⟨Tryz.t63,.agg #[.int .i64 0,.int .i64 0,.int .i64 0,.slice none 0 0,.bool false],by kernel_rfl,rfl,rfl,rfl,rfl,rfl,by simp [Value.cells,Value.oneCell']⟩,⟨_,underlying63,⟨_,rfl,rfl⟩⟩,fun fs h=>?_,fun ks h=>?_,fun q h=>?_⟩
 ·cases h
  simp only [ae,aO,or_false,forall_eq_or_imp,forall_eq];exact ⟨⟨Tryz.t3,by kernel_rfl,rfl⟩,⟨Tryz.t3,by kernel_rfl,rfl⟩,⟨Tryz.t3,by kernel_rfl,rfl⟩,⟨Tryz.t26,by kernel_rfl,rfl⟩,⟨Tryz.t4,by kernel_rfl,rfl⟩⟩
 ·cases h
 ·cases h
def ti65:TI:={ cells:=1,bytes:=24,td:=.slice 76,zero:=[.nil],eqk:=none }
def tf65:TyFact prog 65 ti65:=by
 refine ⟨⟨Tryz.t65,.slice none 0 0,by kernel_rfl,rfl,rfl,rfl,rfl,rfl,by simp [Value.cells,Value.oneCell']⟩,⟨_,underlying65,rfl⟩,fun fs h=>?_,fun ks h=>?_,fun q h=>?_⟩
 ·cases h
 ·cases h
 ·cases h
def ti71:TI:={ cells:=1,bytes:=24,td:=.slice 80,zero:=[.nil],eqk:=none }
def tf71:TyFact prog 71 ti71:=by
 refine ⟨⟨Tryz.t71,.slice none 0 0,by kernel_rfl,rfl,rfl,rfl,rfl,rfl,by simp [Value.cells,Value.oneCell']⟩,⟨_,underlying71,rfl⟩,fun fs h=>?_,fun ks h=>?_,fun q h=>?_⟩
 ·cases h
 ·cases h
 ·cases h
def Qco (d:Nat) (w:World) (a0 b0:Int) (a1 b1:Int):(Op.equalIn (d+2) 76 (.agg #[.int .i64 a0,.int .i64 a1]) (.agg #[.int .i64 b0,.int .i64 b1])).run prog w=.ok (jG [.int .i64 a0,.int .i64 a1] [.int .i64 b0,.int .i64 b1]) w:=by
 have h1:prog.underlying 76=some (.struct (prog.fieldsOf 76)):=by kernel_rfl
 have h2 : (prog.fieldsOf 76).toList = [{ name := "Cabin", type := 3, offset := 0, embedded := false, tag := "", pkgPath := "", byteOffset := 0 }, { name := "Bed", type := 3, offset := 1, embedded := false, tag := "", pkgPath := "", byteOffset := 8 }] := by kernel_rfl
 rw [run_equalIn_agg w (d+1) 76 _ _ h1 (by kernel_rfl),h2]
 refine Eq.trans (b:=Result.ok (a0 == b0 && (a1 == b1 && true)) w) ?_ (congrArg (fun r=>Result.ok r w) (by simp [jG,veq]))
 exact zf (by simp) (qo (isAgg3) rfl) (qo (isAgg3) rfl) (run_equalIn_int w (d+0) 3 _ _ _ _ underlying3) (zf (by simp) (qo (isAgg3) rfl) (qo (isAgg3) rfl) (run_equalIn_int w (d+0) 3 _ _ _ _ underlying3) (ji))
def ti76:TI:={ cells:=2,bytes:=16,td:=.struct [(0,1,3),(1,1,3)],zero:=[.v (.int .i64 0),.v (.int .i64 0)],eqk:=some [some .i64,some .i64] }
def tf76:TyFact prog 76 ti76:=by
 refine ⟨⟨Tryz.t76,.agg #[.int .i64 0,.int .i64 0],by kernel_rfl,rfl,rfl,rfl,rfl,rfl,by simp [Value.cells,Value.oneCell']⟩,⟨_,underlying76,⟨_,rfl,rfl⟩⟩,fun fs h=>?_,fun ks h=>?_,fun q h=>?_⟩
 ·cases h
  simp only [ae,aO,or_false,forall_eq_or_imp,forall_eq];exact ⟨⟨Tryz.t3,by kernel_rfl,rfl⟩,⟨Tryz.t3,by kernel_rfl,rfl⟩⟩
 ·cases h
  refine ⟨by kernel_rfl,fun w xs ys hx hy=>?_⟩
  cases xs with
  |nil=>simp [qa] at hx
  |cons x0 xs1 =>
  cases xs1 with
  |nil=>simp [qa] at hx
  |cons x1 xs2 =>
  cases xs2 with
  |cons _ _=>simp [qa] at hx
  |nil =>
  cases ys with
  |nil=>simp [qa] at hy
  |cons y0 ys1 =>
  cases ys1 with
  |nil=>simp [qa] at hy
  |cons y1 ys2 =>
  cases ys2 with
  |cons _ _=>simp [qa] at hy
  |nil =>
  simp only [qa] at hx hy;obtain ⟨⟨nx0,rfl⟩,⟨nx1,rfl⟩,_⟩:=hx
  obtain ⟨⟨ny0,rfl⟩,⟨ny1,rfl⟩,_⟩:=hy;exact Qco 9998 w nx0 ny0 nx1 ny1
 ·cases h
def eqd80 (d:Nat) (w:World) (a0 b0:Int) (a1 b1:Int) (a2 b2:Int):(Op.equalIn (d+3) 80 (.agg #[.int .i64 a0,.int .i64 a1,.int .i64 a2]) (.agg #[.int .i64 b0,.int .i64 b1,.int .i64 b2])).run prog w=.ok (jG [.int .i64 a0,.int .i64 a1,.int .i64 a2] [.int .i64 b0,.int .i64 b1,.int .i64 b2]) w:=by
 have h1:prog.underlying 80=some (.struct (prog.fieldsOf 80)):=by kernel_rfl
 have h2 : (prog.fieldsOf 80).toList = [{ name := "Ticket", type := 3, offset := 0, embedded := false, tag := "", pkgPath := "", byteOffset := 0 }, { name := "Bunk", type := 76, offset := 1, embedded := true, tag := "", pkgPath := "", byteOffset := 8 }] := by kernel_rfl
 rw [run_equalIn_agg w (d+2) 80 _ _ h1 (by kernel_rfl),h2]
 refine Eq.trans (b:=Result.ok (a0 == b0 && (jG [.int .i64 a1,.int .i64 a2] [.int .i64 b1,.int .i64 b2] && true)) w) ?_ (congrArg (fun r=>Result.ok r w) (by simp [jG,veq]))
 exact zf (by simp) (qo (isAgg3) rfl) (qo (isAgg3) rfl) (run_equalIn_int w (d+1) 3 _ _ _ _ underlying3) (zf (by simp) (zG (isAgg76) (sizeOf76) rfl) (zG (isAgg76) (sizeOf76) rfl) (Qco (d+0) w a1 b1 a2 b2) (ji))
def ti80:TI:={ cells:=3,bytes:=24,td:=.struct [(0,1,3),(1,2,76)],zero:=[.v (.int .i64 0),.v (.int .i64 0),.v (.int .i64 0)],eqk:=some [some .i64,some .i64,some .i64] }
def tf80:TyFact prog 80 ti80:=by
 refine ⟨⟨Tryz.t80,.agg #[.int .i64 0,.int .i64 0,.int .i64 0],by kernel_rfl,rfl,rfl,rfl,rfl,rfl,by simp [Value.cells,Value.oneCell']⟩,⟨_,underlying80,⟨_,rfl,rfl⟩⟩,fun fs h=>?_,fun ks h=>?_,fun q h=>?_⟩
 ·cases h
  simp only [ae,aO,or_false,forall_eq_or_imp,forall_eq];exact ⟨⟨Tryz.t3,by kernel_rfl,rfl⟩,⟨Tryz.t76,by kernel_rfl,rfl⟩⟩
 ·cases h
  refine ⟨by kernel_rfl,fun w xs ys hx hy=>?_⟩
  cases xs with
  |nil=>simp [qa] at hx
  |cons x0 xs1 =>
  cases xs1 with
  |nil=>simp [qa] at hx
  |cons x1 xs2 =>
  cases xs2 with
  |nil=>simp [qa] at hx
  |cons x2 xs3 =>
  cases xs3 with
  |cons _ _=>simp [qa] at hx
  |nil =>
  cases ys with
  |nil=>simp [qa] at hy
  |cons y0 ys1 =>
  cases ys1 with
  |nil=>simp [qa] at hy
  |cons y1 ys2 =>
  cases ys2 with
  |nil=>simp [qa] at hy
  |cons y2 ys3 =>
  cases ys3 with
  |cons _ _=>simp [qa] at hy
  |nil =>
  simp only [qa] at hx hy;obtain ⟨⟨nx0,rfl⟩,⟨nx1,rfl⟩,⟨nx2,rfl⟩,_⟩:=hx
  obtain ⟨⟨ny0,rfl⟩,⟨ny1,rfl⟩,⟨ny2,rfl⟩,_⟩:=hy;exact eqd80 9997 w nx0 ny0 nx1 ny1 nx2 ny2
 ·cases h
def ti81:TI:={ cells:=1,bytes:=8,td:=.func,zero:=[.v (.nilFunc)],eqk:=none }
def tf81:TyFact prog 81 ti81:=by
 refine ⟨⟨Tryz.t81,.nilFunc,by kernel_rfl,rfl,rfl,rfl,rfl,rfl,by simp [Value.cells,Value.oneCell']⟩,⟨_,underlying81,⟨_,_,_,rfl⟩⟩,fun fs h=>?_,fun ks h=>?_,fun q h=>?_⟩
 ·cases h
 ·cases h
 ·cases h
def eqd84 (d:Nat) (w:World) (a0 b0:Int) (a1 b1:Bool):(Op.equalIn (d+2) 84 (.agg #[.int .i64 a0,.bool a1]) (.agg #[.int .i64 b0,.bool b1])).run prog w=.ok (jG [.int .i64 a0,.bool a1] [.int .i64 b0,.bool b1]) w:=by
 have h1:prog.underlying 84=some (.struct (prog.fieldsOf 84)):=by kernel_rfl
 have h2 : (prog.fieldsOf 84).toList = [{ name := "Beds", type := 3, offset := 0, embedded := false, tag := "", pkgPath := "", byteOffset := 0 }, { name := "Door", type := 4, offset := 1, embedded := false, tag := "", pkgPath := "", byteOffset := 8 }] := by kernel_rfl
 rw [run_equalIn_agg w (d+1) 84 _ _ h1 (by kernel_rfl),h2]
 refine Eq.trans (b:=Result.ok (a0 == b0 && (a1 == b1 && true)) w) ?_ (congrArg (fun r=>Result.ok r w) (by simp [jG,veq]))
 exact zf (by simp) (qo (isAgg3) rfl) (qo (isAgg3) rfl) (run_equalIn_int w (d+0) 3 _ _ _ _ underlying3) (zf (by simp) (qo (isAgg4) rfl) (qo (isAgg4) rfl) (run_equalIn_bool' w (d+0) 4 _ _ underlying4) (ji))
def ti84:TI:={ cells:=2,bytes:=16,td:=.struct [(0,1,3),(1,1,4)],zero:=[.v (.int .i64 0),.v (.bool false)],eqk:=some [some .i64,none] }
def tf84:TyFact prog 84 ti84:=by
 refine ⟨⟨Tryz.t84,.agg #[.int .i64 0,.bool false],by kernel_rfl,rfl,rfl,rfl,rfl,rfl,by simp [Value.cells,Value.oneCell']⟩,⟨_,underlying84,⟨_,rfl,rfl⟩⟩,fun fs h=>?_,fun ks h=>?_,fun q h=>?_⟩
 ·cases h
  simp only [ae,aO,or_false,forall_eq_or_imp,forall_eq];exact ⟨⟨Tryz.t3,by kernel_rfl,rfl⟩,⟨Tryz.t4,by kernel_rfl,rfl⟩⟩
 ·cases h
  refine ⟨by kernel_rfl,fun w xs ys hx hy=>?_⟩
  cases xs with
  |nil=>simp [qa] at hx
  |cons x0 xs1 =>
  cases xs1 with
  |nil=>simp [qa] at hx
  |cons x1 xs2 =>
  cases xs2 with
  |cons _ _=>simp [qa] at hx
  |nil =>
  cases ys with
  |nil=>simp [qa] at hy
  |cons y0 ys1 =>
  cases ys1 with
  |nil=>simp [qa] at hy
  |cons y1 ys2 =>
  cases ys2 with
  |cons _ _=>simp [qa] at hy
  |nil =>
  simp only [qa] at hx hy;obtain ⟨⟨nx0,rfl⟩,⟨nx1,rfl⟩,_⟩:=hx
  obtain ⟨⟨ny0,rfl⟩,⟨ny1,rfl⟩,_⟩:=hy;exact eqd84 9998 w nx0 ny0 nx1 ny1
 ·cases h
def eqd88 (d:Nat) (w:World) (a0 b0:Int) (a1 b1:Int) (a2 b2:Int) (a3 b3:Int) (a4 b4:Int) (a5 b5:Int) (a6 b6:Bool):(Op.equalIn (d+3) 88 (.agg #[.int .i64 a0,.int .i64 a1,.int .i64 a2,.int .i64 a3,.int .i64 a4,.int .i64 a5,.bool a6]) (.agg #[.int .i64 b0,.int .i64 b1,.int .i64 b2,.int .i64 b3,.int .i64 b4,.int .i64 b5,.bool b6])).run prog w=.ok (jG [.int .i64 a0,.int .i64 a1,.int .i64 a2,.int .i64 a3,.int .i64 a4,.int .i64 a5,.bool a6] [.int .i64 b0,.int .i64 b1,.int .i64 b2,.int .i64 b3,.int .i64 b4,.int .i64 b5,.bool b6]) w:=by
 have h1:prog.underlying 88=some (.struct (prog.fieldsOf 88)):=by kernel_rfl
 have h2 : (prog.fieldsOf 88).toList = [{ name := "Party", type := 3, offset := 0, embedded := false, tag := "", pkgPath := "", byteOffset := 0 }, { name := "Sex", type := 3, offset := 1, embedded := false, tag := "", pkgPath := "", byteOffset := 8 }, { name := "Bunk", type := 76, offset := 2, embedded := true, tag := "", pkgPath := "", byteOffset := 16 }, { name := "From", type := 3, offset := 4, embedded := false, tag := "", pkgPath := "", byteOffset := 32 }, { name := "To", type := 3, offset := 5, embedded := false, tag := "", pkgPath := "", byteOffset := 40 }, { name := "Dog", type := 4, offset := 6, embedded := false, tag := "", pkgPath := "", byteOffset := 48 }] := by kernel_rfl
 rw [run_equalIn_agg w (d+2) 88 _ _ h1 (by kernel_rfl),h2]
 refine Eq.trans (b:=Result.ok (a0 == b0 && (a1 == b1 && (jG [.int .i64 a2,.int .i64 a3] [.int .i64 b2,.int .i64 b3] && (a4 == b4 && (a5 == b5 && (a6 == b6 && true)))))) w) ?_ (congrArg (fun r=>Result.ok r w) (by simp [jG,veq,Bool.and_assoc]))
 exact zf (by simp) (qo (isAgg3) rfl) (qo (isAgg3) rfl) (run_equalIn_int w (d+1) 3 _ _ _ _ underlying3) (zf (by simp) (qo (isAgg3) rfl) (qo (isAgg3) rfl) (run_equalIn_int w (d+1) 3 _ _ _ _ underlying3) (zf (by simp) (zG (isAgg76) (sizeOf76) rfl) (zG (isAgg76) (sizeOf76) rfl) (Qco (d+0) w a2 b2 a3 b3) (zf (by simp) (qo (isAgg3) rfl) (qo (isAgg3) rfl) (run_equalIn_int w (d+1) 3 _ _ _ _ underlying3) (zf (by simp) (qo (isAgg3) rfl) (qo (isAgg3) rfl) (run_equalIn_int w (d+1) 3 _ _ _ _ underlying3) (zf (by simp) (qo (isAgg4) rfl) (qo (isAgg4) rfl) (run_equalIn_bool' w (d+1) 4 _ _ underlying4) (ji))))))
def ti88:TI:={ cells:=7,bytes:=56,td:=.struct [(0,1,3),(1,1,3),(2,2,76),(4,1,3),(5,1,3),(6,1,4)],zero:=[.v (.int .i64 0),.v (.int .i64 0),.v (.int .i64 0),.v (.int .i64 0),.v (.int .i64 0),.v (.int .i64 0),.v (.bool false)],eqk:=some [some .i64,some .i64,some .i64,some .i64,some .i64,some .i64,none] }
def tf88:TyFact prog 88 ti88:=by
 refine ⟨⟨Tryz.t88,.agg #[.int .i64 0,.int .i64 0,.int .i64 0,.int .i64 0,.int .i64 0,.int .i64 0,.bool false],by kernel_rfl,rfl,rfl,rfl,rfl,rfl,by simp [Value.cells,Value.oneCell']⟩,⟨_,underlying88,⟨_,rfl,rfl⟩⟩,fun fs h=>?_,fun ks h=>?_,fun q h=>?_⟩
 ·cases h
  simp only [ae,aO,or_false,forall_eq_or_imp,forall_eq];exact ⟨⟨Tryz.t3,by kernel_rfl,rfl⟩,⟨Tryz.t3,by kernel_rfl,rfl⟩,⟨Tryz.t76,by kernel_rfl,rfl⟩,⟨Tryz.t3,by kernel_rfl,rfl⟩,⟨Tryz.t3,by kernel_rfl,rfl⟩,⟨Tryz.t4,by kernel_rfl,rfl⟩⟩
 ·cases h
  refine ⟨by kernel_rfl,fun w xs ys hx hy=>?_⟩
  cases xs with
  |nil=>simp [qa] at hx
  |cons x0 xs1 =>
  cases xs1 with
  |nil=>simp [qa] at hx
  |cons x1 xs2 =>
  cases xs2 with
  |nil=>simp [qa] at hx
  |cons x2 xs3 =>
  cases xs3 with
  |nil=>simp [qa] at hx
  |cons x3 xs4 =>
  cases xs4 with
  |nil=>simp [qa] at hx
  |cons x4 xs5 =>
  cases xs5 with
  |nil=>simp [qa] at hx
  |cons x5 xs6 =>
  cases xs6 with
  |nil=>simp [qa] at hx
  |cons x6 xs7 =>
  cases xs7 with
  |cons _ _=>simp [qa] at hx
  |nil =>
  cases ys with
  |nil=>simp [qa] at hy
  |cons y0 ys1 =>
  cases ys1 with
  |nil=>simp [qa] at hy
  |cons y1 ys2 =>
  cases ys2 with
  |nil=>simp [qa] at hy
  |cons y2 ys3 =>
  cases ys3 with
  |nil=>simp [qa] at hy
  |cons y3 ys4 =>
  cases ys4 with
  |nil=>simp [qa] at hy
  |cons y4 ys5 =>
  cases ys5 with
  |nil=>simp [qa] at hy
  |cons y5 ys6 =>
  cases ys6 with
  |nil=>simp [qa] at hy
  |cons y6 ys7 =>
  cases ys7 with
  |cons _ _=>simp [qa] at hy
  |nil =>
  simp only [qa] at hx hy;obtain ⟨⟨nx0,rfl⟩,⟨nx1,rfl⟩,⟨nx2,rfl⟩,⟨nx3,rfl⟩,⟨nx4,rfl⟩,⟨nx5,rfl⟩,⟨nx6,rfl⟩,_⟩:=hx
  obtain ⟨⟨ny0,rfl⟩,⟨ny1,rfl⟩,⟨ny2,rfl⟩,⟨ny3,rfl⟩,⟨ny4,rfl⟩,⟨ny5,rfl⟩,⟨ny6,rfl⟩,_⟩:=hy;exact eqd88 9997 w nx0 ny0 nx1 ny1 nx2 ny2 nx3 ny3 nx4 ny4 nx5 ny5 nx6 ny6
 ·cases h
def Qbr:TI:={ cells:=1,bytes:=8,td:=.int .u64,zero:=[.v (.int .u64 0)],eqk:=none }
def tf90:TyFact prog 90 Qbr:=by
 refine ⟨⟨Tryz.t90,.int .u64 0,by kernel_rfl,rfl,rfl,rfl,rfl,rfl,by simp [Value.cells,Value.oneCell']⟩,⟨_,underlying90,rfl⟩,fun fs h=>?_,fun ks h=>?_,fun q h=>?_⟩
 ·cases h
 ·cases h
 ·cases h
def Qfk:TI:={ cells:=1,bytes:=8,td:=.struct [(0,1,90)],zero:=[.v (.int .u64 0)],eqk:=none }
def tf92:TyFact prog 92 Qfk:=by
 refine ⟨⟨Tryz.t92,.agg #[.int .u64 0],by kernel_rfl,rfl,rfl,rfl,rfl,rfl,by simp [Value.cells,Value.oneCell']⟩,⟨_,underlying92,⟨_,rfl,rfl⟩⟩,fun fs h=>?_,fun ks h=>?_,fun q h=>?_⟩
 ·cases h
  simp only [ae,aO,or_false,forall_eq];exact ⟨Tryz.t90,by kernel_rfl,rfl⟩
 ·cases h
 ·cases h
def Qe4:TI:={ cells:=1,bytes:=8,td:=.int .u64,zero:=[.v (.int .u64 0)],eqk:=none }
def tf93:TyFact prog 93 Qe4:=by
 refine ⟨⟨Tryz.t93,.int .u64 0,by kernel_rfl,rfl,rfl,rfl,rfl,rfl,by simp [Value.cells,Value.oneCell']⟩,⟨_,underlying93,rfl⟩,fun fs h=>?_,fun ks h=>?_,fun q h=>?_⟩
 ·cases h
 ·cases h
 ·cases h
def ti99:TI:={ cells:=1,bytes:=24,td:=.slice 5,zero:=[.nil],eqk:=none }
def tf99:TyFact prog 99 ti99:=by
 refine ⟨⟨Tryz.t99,.slice none 0 0,by kernel_rfl,rfl,rfl,rfl,rfl,rfl,by simp [Value.cells,Value.oneCell']⟩,⟨_,underlying99,rfl⟩,fun fs h=>?_,fun ks h=>?_,fun q h=>?_⟩
 ·cases h
 ·cases h
 ·cases h
def vD:TI:={ cells:=1,bytes:=24,td:=.slice 110,zero:=[.nil],eqk:=none }
def tf108:TyFact prog 108 vD:=by
 refine ⟨⟨Tryz.t108,.slice none 0 0,by kernel_rfl,rfl,rfl,rfl,rfl,rfl,by simp [Value.cells,Value.oneCell']⟩,⟨_,underlying108,rfl⟩,fun fs h=>?_,fun ks h=>?_,fun q h=>?_⟩
 ·cases h
 ·cases h
 ·cases h
def Jl (d:Nat) (w:World) (a0 b0:Int) (a1 b1:Int):(Op.equalIn (d+2) 110 (.agg #[.int .i64 a0,.int .i64 a1]) (.agg #[.int .i64 b0,.int .i64 b1])).run prog w=.ok (jG [.int .i64 a0,.int .i64 a1] [.int .i64 b0,.int .i64 b1]) w:=by
 have h1:prog.underlying 110=some (.struct (prog.fieldsOf 110)):=by kernel_rfl
 have h2 : (prog.fieldsOf 110).toList = [{ name := "Num", type := 3, offset := 0, embedded := false, tag := "", pkgPath := "", byteOffset := 0 }, { name := "Den", type := 3, offset := 1, embedded := false, tag := "", pkgPath := "", byteOffset := 8 }] := by kernel_rfl
 rw [run_equalIn_agg w (d+1) 110 _ _ h1 (by kernel_rfl),h2]
 refine Eq.trans (b:=Result.ok (a0 == b0 && (a1 == b1 && true)) w) ?_ (congrArg (fun r=>Result.ok r w) (by simp [jG,veq]))
 exact zf (by simp) (qo (isAgg3) rfl) (qo (isAgg3) rfl) (run_equalIn_int w (d+0) 3 _ _ _ _ underlying3) (zf (by simp) (qo (isAgg3) rfl) (qo (isAgg3) rfl) (run_equalIn_int w (d+0) 3 _ _ _ _ underlying3) (ji))
def xS:TI:={ cells:=2,bytes:=16,td:=.struct [(0,1,3),(1,1,3)],zero:=[.v (.int .i64 0),.v (.int .i64 0)],eqk:=some [some .i64,some .i64] }
def tf110:TyFact prog 110 xS:=by
 refine ⟨⟨Tryz.t110,.agg #[.int .i64 0,.int .i64 0],by kernel_rfl,rfl,rfl,rfl,rfl,rfl,by simp [Value.cells,Value.oneCell']⟩,⟨_,underlying110,⟨_,rfl,rfl⟩⟩,fun fs h=>?_,fun ks h=>?_,fun q h=>?_⟩
 ·cases h
  simp only [ae,aO,or_false,forall_eq_or_imp,forall_eq];exact ⟨⟨Tryz.t3,by kernel_rfl,rfl⟩,⟨Tryz.t3,by kernel_rfl,rfl⟩⟩
 ·cases h
  refine ⟨by kernel_rfl,fun w xs ys hx hy=>?_⟩
  cases xs with
  |nil=>simp [qa] at hx
  |cons x0 xs1 =>
  cases xs1 with
  |nil=>simp [qa] at hx
  |cons x1 xs2 =>
  cases xs2 with
  |cons _ _=>simp [qa] at hx
  |nil =>
  cases ys with
  |nil=>simp [qa] at hy
  |cons y0 ys1 =>
  cases ys1 with
  |nil=>simp [qa] at hy
  |cons y1 ys2 =>
  cases ys2 with
  |cons _ _=>simp [qa] at hy
  |nil =>
  simp only [qa] at hx hy;obtain ⟨⟨nx0,rfl⟩,⟨nx1,rfl⟩,_⟩:=hx
  obtain ⟨⟨ny0,rfl⟩,⟨ny1,rfl⟩,_⟩:=hy;exact Jl 9998 w nx0 ny0 nx1 ny1
 ·cases h
def Qkd (d:Nat) (w:World) (a0 b0:Int) (a1 b1:Int) (a2 b2:Int) (a3 b3:Int) (a4 b4:Int) (a5 b5:Int) (a6 b6:Int) (a7 b7:Int) (a8 b8:Int) (a9 b9:Int) (a10 b10:Int) (a11 b11:Int):(Op.equalIn (d+3) 112 (.agg #[.int .i64 a0,.int .i64 a1,.int .i64 a2,.int .i64 a3,.int .i64 a4,.int .i64 a5,.int .i64 a6,.int .i64 a7,.int .i64 a8,.int .i64 a9,.int .i64 a10,.int .i64 a11]) (.agg #[.int .i64 b0,.int .i64 b1,.int .i64 b2,.int .i64 b3,.int .i64 b4,.int .i64 b5,.int .i64 b6,.int .i64 b7,.int .i64 b8,.int .i64 b9,.int .i64 b10,.int .i64 b11])).run prog w=.ok (jG [.int .i64 a0,.int .i64 a1,.int .i64 a2,.int .i64 a3,.int .i64 a4,.int .i64 a5,.int .i64 a6,.int .i64 a7,.int .i64 a8,.int .i64 a9,.int .i64 a10,.int .i64 a11] [.int .i64 b0,.int .i64 b1,.int .i64 b2,.int .i64 b3,.int .i64 b4,.int .i64 b5,.int .i64 b6,.int .i64 b7,.int .i64 b8,.int .i64 b9,.int .i64 b10,.int .i64 b11]) w:=by
 have h1:prog.underlying 112=some (.struct (prog.fieldsOf 112)):=by kernel_rfl
 have h2 : (prog.fieldsOf 112).toList = [{ name := "Taken", type := 110, offset := 0, embedded := false, tag := "", pkgPath := "", byteOffset := 0 }, { name := "Paid", type := 110, offset := 2, embedded := false, tag := "", pkgPath := "", byteOffset := 16 }, { name := "Gained", type := 110, offset := 4, embedded := false, tag := "", pkgPath := "", byteOffset := 32 }, { name := "Lost", type := 110, offset := 6, embedded := false, tag := "", pkgPath := "", byteOffset := 48 }, { name := "Found", type := 110, offset := 8, embedded := false, tag := "", pkgPath := "", byteOffset := 64 }, { name := "Worth", type := 110, offset := 10, embedded := false, tag := "", pkgPath := "", byteOffset := 80 }] := by kernel_rfl
 rw [run_equalIn_agg w (d+2) 112 _ _ h1 (by kernel_rfl),h2]
 refine Eq.trans (b:=Result.ok (jG [.int .i64 a0,.int .i64 a1] [.int .i64 b0,.int .i64 b1] && (jG [.int .i64 a2,.int .i64 a3] [.int .i64 b2,.int .i64 b3] && (jG [.int .i64 a4,.int .i64 a5] [.int .i64 b4,.int .i64 b5] && (jG [.int .i64 a6,.int .i64 a7] [.int .i64 b6,.int .i64 b7] && (jG [.int .i64 a8,.int .i64 a9] [.int .i64 b8,.int .i64 b9] && (jG [.int .i64 a10,.int .i64 a11] [.int .i64 b10,.int .i64 b11] && true)))))) w) ?_ (congrArg (fun r=>Result.ok r w) (by simp [jG,veq,Bool.and_assoc]))
 exact zf (by simp) (zG (isAgg110) (sizeOf110) rfl) (zG (isAgg110) (sizeOf110) rfl) (Jl (d+0) w a0 b0 a1 b1) (zf (by simp) (zG (isAgg110) (sizeOf110) rfl) (zG (isAgg110) (sizeOf110) rfl) (Jl (d+0) w a2 b2 a3 b3) (zf (by simp) (zG (isAgg110) (sizeOf110) rfl) (zG (isAgg110) (sizeOf110) rfl) (Jl (d+0) w a4 b4 a5 b5) (zf (by simp) (zG (isAgg110) (sizeOf110) rfl) (zG (isAgg110) (sizeOf110) rfl) (Jl (d+0) w a6 b6 a7 b7) (zf (by simp) (zG (isAgg110) (sizeOf110) rfl) (zG (isAgg110) (sizeOf110) rfl) (Jl (d+0) w a8 b8 a9 b9) (zf (by simp) (zG (isAgg110) (sizeOf110) rfl) (zG (isAgg110) (sizeOf110) rfl) (Jl (d+0) w a10 b10 a11 b11) (ji))))))
def LX:TI:={ cells:=12,bytes:=96,td:=.struct [(0,2,110),(2,2,110),(4,2,110),(6,2,110),(8,2,110),(10,2,110)],zero:=[.v (.int .i64 0),.v (.int .i64 0),.v (.int .i64 0),.v (.int .i64 0),.v (.int .i64 0),.v (.int .i64 0),.v (.int .i64 0),.v (.int .i64 0),.v (.int .i64 0),.v (.int .i64 0),.v (.int .i64 0),.v (.int .i64 0)],eqk:=some [some .i64,some .i64,some .i64,some .i64,some .i64,some .i64,some .i64,some .i64,some .i64,some .i64,some .i64,some .i64] }
def tf112:TyFact prog 112 LX:=by
 refine ⟨⟨Tryz.t112,.agg #[.int .i64 0,.int .i64 0,.int .i64 0,.int .i64 0,.int .i64 0,.int .i64 0,.int .i64 0,.int .i64 0,.int .i64 0,.int .i64 0,.int .i64 0,.int .i64 0],by kernel_rfl,rfl,rfl,rfl,rfl,rfl,by simp [Value.cells,Value.oneCell']⟩,⟨_,underlying112,⟨_,rfl,rfl⟩⟩,fun fs h=>?_,fun ks h=>?_,fun q h=>?_⟩
 ·cases h
  simp only [ae,aO,or_false,forall_eq_or_imp,forall_eq];exact ⟨⟨Tryz.t110,by kernel_rfl,rfl⟩,⟨Tryz.t110,by kernel_rfl,rfl⟩,⟨Tryz.t110,by kernel_rfl,rfl⟩,⟨Tryz.t110,by kernel_rfl,rfl⟩,⟨Tryz.t110,by kernel_rfl,rfl⟩,⟨Tryz.t110,by kernel_rfl,rfl⟩⟩
 ·cases h
  refine ⟨by kernel_rfl,fun w xs ys hx hy=>?_⟩
  cases xs with
  |nil=>simp [qa] at hx
  |cons x0 xs1 =>
  cases xs1 with
  |nil=>simp [qa] at hx
  |cons x1 xs2 =>
  cases xs2 with
  |nil=>simp [qa] at hx
  |cons x2 xs3 =>
  cases xs3 with
  |nil=>simp [qa] at hx
  |cons x3 xs4 =>
  cases xs4 with
  |nil=>simp [qa] at hx
  |cons x4 xs5 =>
  cases xs5 with
  |nil=>simp [qa] at hx
  |cons x5 xs6 =>
  cases xs6 with
  |nil=>simp [qa] at hx
  |cons x6 xs7 =>
  cases xs7 with
  |nil=>simp [qa] at hx
  |cons x7 xs8 =>
  cases xs8 with
  |nil=>simp [qa] at hx
  |cons x8 xs9 =>
  cases xs9 with
  |nil=>simp [qa] at hx
  |cons x9 xs10 =>
  cases xs10 with
  |nil=>simp [qa] at hx
  |cons x10 xs11 =>
  cases xs11 with
  |nil=>simp [qa] at hx
  |cons x11 xs12 =>
  cases xs12 with
  |cons _ _=>simp [qa] at hx
  |nil =>
  cases ys with
  |nil=>simp [qa] at hy
  |cons y0 ys1 =>
  cases ys1 with
  |nil=>simp [qa] at hy
  |cons y1 ys2 =>
  cases ys2 with
  |nil=>simp [qa] at hy
  |cons y2 ys3 =>
  cases ys3 with
  |nil=>simp [qa] at hy
  |cons y3 ys4 =>
  cases ys4 with
  |nil=>simp [qa] at hy
  |cons y4 ys5 =>
  cases ys5 with
  |nil=>simp [qa] at hy
  |cons y5 ys6 =>
  cases ys6 with
  |nil=>simp [qa] at hy
  |cons y6 ys7 =>
  cases ys7 with
  |nil=>simp [qa] at hy
  |cons y7 ys8 =>
  cases ys8 with
  |nil=>simp [qa] at hy
  |cons y8 ys9 =>
  cases ys9 with
  |nil=>simp [qa] at hy
  |cons y9 ys10 =>
  cases ys10 with
  |nil=>simp [qa] at hy
  |cons y10 ys11 =>
  cases ys11 with
  |nil=>simp [qa] at hy
  |cons y11 ys12 =>
  cases ys12 with
  |cons _ _=>simp [qa] at hy
  |nil =>
  simp only [qa] at hx hy;obtain ⟨⟨nx0,rfl⟩,⟨nx1,rfl⟩,⟨nx2,rfl⟩,⟨nx3,rfl⟩,⟨nx4,rfl⟩,⟨nx5,rfl⟩,⟨nx6,rfl⟩,⟨nx7,rfl⟩,⟨nx8,rfl⟩,⟨nx9,rfl⟩,⟨nx10,rfl⟩,⟨nx11,rfl⟩,_⟩:=hx
  obtain ⟨⟨ny0,rfl⟩,⟨ny1,rfl⟩,⟨ny2,rfl⟩,⟨ny3,rfl⟩,⟨ny4,rfl⟩,⟨ny5,rfl⟩,⟨ny6,rfl⟩,⟨ny7,rfl⟩,⟨ny8,rfl⟩,⟨ny9,rfl⟩,⟨ny10,rfl⟩,⟨ny11,rfl⟩,_⟩:=hy;exact Qkd 9997 w nx0 ny0 nx1 ny1 nx2 ny2 nx3 ny3 nx4 ny4 nx5 ny5 nx6 ny6 nx7 ny7 nx8 ny8 nx9 ny9 nx10 ny10 nx11 ny11
 ·cases h
def QkC (d:Nat) (w:World) (a0 b0:Int) (a1 b1:Int) (a2 b2:Int) (a3 b3:Int) (a4 b4:Int) (a5 b5:Int):(Op.equalIn (d+2) 129 (.agg #[.int .i64 a0,.int .i64 a1,.int .i64 a2,.int .i64 a3,.int .i64 a4,.int .i64 a5]) (.agg #[.int .i64 b0,.int .i64 b1,.int .i64 b2,.int .i64 b3,.int .i64 b4,.int .i64 b5])).run prog w=.ok (jG [.int .i64 a0,.int .i64 a1,.int .i64 a2,.int .i64 a3,.int .i64 a4,.int .i64 a5] [.int .i64 b0,.int .i64 b1,.int .i64 b2,.int .i64 b3,.int .i64 b4,.int .i64 b5]) w:=by
 have h1:prog.underlying 129=some (.struct (prog.fieldsOf 129)):=by kernel_rfl
 have h2 : (prog.fieldsOf 129).toList = [{ name := "Day", type := 3, offset := 0, embedded := false, tag := "", pkgPath := "", byteOffset := 0 }, { name := "Kind", type := 3, offset := 1, embedded := false, tag := "", pkgPath := "", byteOffset := 8 }, { name := "Coin", type := 3, offset := 2, embedded := false, tag := "", pkgPath := "", byteOffset := 16 }, { name := "To", type := 3, offset := 3, embedded := false, tag := "", pkgPath := "", byteOffset := 24 }, { name := "Amount", type := 3, offset := 4, embedded := false, tag := "", pkgPath := "", byteOffset := 32 }, { name := "Got", type := 3, offset := 5, embedded := false, tag := "", pkgPath := "", byteOffset := 40 }] := by kernel_rfl
 rw [run_equalIn_agg w (d+1) 129 _ _ h1 (by kernel_rfl),h2]
 refine Eq.trans (b:=Result.ok (a0 == b0 && (a1 == b1 && (a2 == b2 && (a3 == b3 && (a4 == b4 && (a5 == b5 && true)))))) w) ?_ (congrArg (fun r=>Result.ok r w) (by simp [jG,veq]))
 exact zf (by simp) (qo (isAgg3) rfl) (qo (isAgg3) rfl) (run_equalIn_int w (d+0) 3 _ _ _ _ underlying3) (zf (by simp) (qo (isAgg3) rfl) (qo (isAgg3) rfl) (run_equalIn_int w (d+0) 3 _ _ _ _ underlying3) (zf (by simp) (qo (isAgg3) rfl) (qo (isAgg3) rfl) (run_equalIn_int w (d+0) 3 _ _ _ _ underlying3) (zf (by simp) (qo (isAgg3) rfl) (qo (isAgg3) rfl) (run_equalIn_int w (d+0) 3 _ _ _ _ underlying3) (zf (by simp) (qo (isAgg3) rfl) (qo (isAgg3) rfl) (run_equalIn_int w (d+0) 3 _ _ _ _ underlying3) (zf (by simp) (qo (isAgg3) rfl) (qo (isAgg3) rfl) (run_equalIn_int w (d+0) 3 _ _ _ _ underlying3) (ji))))))
def vR:TI:={ cells:=6,bytes:=48,td:=.struct [(0,1,3),(1,1,3),(2,1,3),(3,1,3),(4,1,3),(5,1,3)],zero:=[.v (.int .i64 0),.v (.int .i64 0),.v (.int .i64 0),.v (.int .i64 0),.v (.int .i64 0),.v (.int .i64 0)],eqk:=some [some .i64,some .i64,some .i64,some .i64,some .i64,some .i64] }
def tf129:TyFact prog 129 vR:=by
 refine ⟨⟨Tryz.t129,.agg #[.int .i64 0,.int .i64 0,.int .i64 0,.int .i64 0,.int .i64 0,.int .i64 0],by kernel_rfl,rfl,rfl,rfl,rfl,rfl,by simp [Value.cells,Value.oneCell']⟩,⟨_,underlying129,⟨_,rfl,rfl⟩⟩,fun fs h=>?_,fun ks h=>?_,fun q h=>?_⟩
 ·cases h
  simp only [ae,aO,or_false,forall_eq_or_imp,forall_eq];exact ⟨⟨Tryz.t3,by kernel_rfl,rfl⟩,⟨Tryz.t3,by kernel_rfl,rfl⟩,⟨Tryz.t3,by kernel_rfl,rfl⟩,⟨Tryz.t3,by kernel_rfl,rfl⟩,⟨Tryz.t3,by kernel_rfl,rfl⟩,⟨Tryz.t3,by kernel_rfl,rfl⟩⟩
 ·cases h
  refine ⟨by kernel_rfl,fun w xs ys hx hy=>?_⟩
  cases xs with
  |nil=>simp [qa] at hx
  |cons x0 xs1 =>
  cases xs1 with
  |nil=>simp [qa] at hx
  |cons x1 xs2 =>
  cases xs2 with
  |nil=>simp [qa] at hx
  |cons x2 xs3 =>
  cases xs3 with
  |nil=>simp [qa] at hx
  |cons x3 xs4 =>
  cases xs4 with
  |nil=>simp [qa] at hx
  |cons x4 xs5 =>
  cases xs5 with
  |nil=>simp [qa] at hx
  |cons x5 xs6 =>
  cases xs6 with
  |cons _ _=>simp [qa] at hx
  |nil =>
  cases ys with
  |nil=>simp [qa] at hy
  |cons y0 ys1 =>
  cases ys1 with
  |nil=>simp [qa] at hy
  |cons y1 ys2 =>
  cases ys2 with
  |nil=>simp [qa] at hy
  |cons y2 ys3 =>
  cases ys3 with
  |nil=>simp [qa] at hy
  |cons y3 ys4 =>
  cases ys4 with
  |nil=>simp [qa] at hy
  |cons y4 ys5 =>
  cases ys5 with
  |nil=>simp [qa] at hy
  |cons y5 ys6 =>
  cases ys6 with
  |cons _ _=>simp [qa] at hy
  |nil =>
  simp only [qa] at hx hy;obtain ⟨⟨nx0,rfl⟩,⟨nx1,rfl⟩,⟨nx2,rfl⟩,⟨nx3,rfl⟩,⟨nx4,rfl⟩,⟨nx5,rfl⟩,_⟩:=hx
  obtain ⟨⟨ny0,rfl⟩,⟨ny1,rfl⟩,⟨ny2,rfl⟩,⟨ny3,rfl⟩,⟨ny4,rfl⟩,⟨ny5,rfl⟩,_⟩:=hy;exact QkC 9998 w nx0 ny0 nx1 ny1 nx2 ny2 nx3 ny3 nx4 ny4 nx5 ny5
 ·cases h
def Qi2:TI:={ cells:=1,bytes:=8,td:=.ptr,zero:=[.v (.pointer none)],eqk:=none }
def tf137:TyFact prog 137 Qi2:=by
 refine ⟨⟨Tryz.t137,.pointer none,by kernel_rfl,rfl,rfl,rfl,rfl,rfl,by simp [Value.cells,Value.oneCell']⟩,⟨_,underlying137,⟨_,rfl⟩⟩,fun fs h=>?_,fun ks h=>?_,fun q h=>?_⟩
 ·cases h
 ·cases h
 ·cases h
def QjM:TI:={ cells:=1,bytes:=8,td:=.ptr,zero:=[.v (.pointer none)],eqk:=none }
def tf141:TyFact prog 141 QjM:=by
 refine ⟨⟨Tryz.t141,.pointer none,by kernel_rfl,rfl,rfl,rfl,rfl,rfl,by simp [Value.cells,Value.oneCell']⟩,⟨_,underlying141,⟨_,rfl⟩⟩,fun fs h=>?_,fun ks h=>?_,fun q h=>?_⟩
 ·cases h
 ·cases h
 ·cases h
def QjK:TI:={ cells:=1,bytes:=8,td:=.func,zero:=[.v (.nilFunc)],eqk:=none }
def tf146:TyFact prog 146 QjK:=by
 refine ⟨⟨Tryz.t146,.nilFunc,by kernel_rfl,rfl,rfl,rfl,rfl,rfl,by simp [Value.cells,Value.oneCell']⟩,⟨_,underlying146,⟨_,_,_,rfl⟩⟩,fun fs h=>?_,fun ks h=>?_,fun q h=>?_⟩
 ·cases h
 ·cases h
 ·cases h
def Qi7:TI:={ cells:=1,bytes:=8,td:=.func,zero:=[.v (.nilFunc)],eqk:=none }
def tf150:TyFact prog 150 Qi7:=by
 refine ⟨⟨Tryz.t150,.nilFunc,by kernel_rfl,rfl,rfl,rfl,rfl,rfl,by simp [Value.cells,Value.oneCell']⟩,⟨_,underlying150,⟨_,_,_,rfl⟩⟩,fun fs h=>?_,fun ks h=>?_,fun q h=>?_⟩
 ·cases h
 ·cases h
 ·cases h
def QjC:TI:={ cells:=3,bytes:=56,td:=.struct [(0,3,25)],zero:=[.nil,.v (.int .i64 0),.nil],eqk:=none }
def tf152:TyFact prog 152 QjC:=by
 refine ⟨⟨Tryz.t152,.agg #[.slice none 0 0,.int .i64 0,.slice none 0 0],by kernel_rfl,rfl,rfl,rfl,rfl,rfl,by simp [Value.cells,Value.oneCell']⟩,⟨_,underlying152,⟨_,rfl,rfl⟩⟩,fun fs h=>?_,fun ks h=>?_,fun q h=>?_⟩
 ·cases h
  simp only [ae,aO,or_false,forall_eq];exact ⟨Tryz.t25,by kernel_rfl,rfl⟩
 ·cases h
 ·cases h
def Qjq:TI:={ cells:=1,bytes:=8,td:=.func,zero:=[.v (.nilFunc)],eqk:=none }
def tf153:TyFact prog 153 Qjq:=by
 refine ⟨⟨Tryz.t153,.nilFunc,by kernel_rfl,rfl,rfl,rfl,rfl,rfl,by simp [Value.cells,Value.oneCell']⟩,⟨_,underlying153,⟨_,_,_,rfl⟩⟩,fun fs h=>?_,fun ks h=>?_,fun q h=>?_⟩
 ·cases h
 ·cases h
 ·cases h
def Qi3:TI:={ cells:=2,bytes:=32,td:=.struct [(0,1,65),(1,1,153)],zero:=[.nil,.v (.nilFunc)],eqk:=none }
def tf155:TyFact prog 155 Qi3:=by
 refine ⟨⟨Tryz.t155,.agg #[.slice none 0 0,.nilFunc],by kernel_rfl,rfl,rfl,rfl,rfl,rfl,by simp [Value.cells,Value.oneCell']⟩,⟨_,underlying155,⟨_,rfl,rfl⟩⟩,fun fs h=>?_,fun ks h=>?_,fun q h=>?_⟩
 ·cases h
  simp only [ae,aO,or_false,forall_eq_or_imp,forall_eq];exact ⟨⟨Tryz.t65,by kernel_rfl,rfl⟩,⟨Tryz.t153,by kernel_rfl,rfl⟩⟩
 ·cases h
 ·cases h
def Qkr (d:Nat) (w:World) (a0 b0:Int) (a1 b1:Int) (a2 b2:Int):(Op.equalIn (d+3) 159 (.agg #[.int .i64 a0,.int .i64 a1,.int .i64 a2]) (.agg #[.int .i64 b0,.int .i64 b1,.int .i64 b2])).run prog w=.ok (jG [.int .i64 a0,.int .i64 a1,.int .i64 a2] [.int .i64 b0,.int .i64 b1,.int .i64 b2]) w:=by
 have h1:prog.underlying 159=some (.struct (prog.fieldsOf 159)):=by kernel_rfl
 have h2 : (prog.fieldsOf 159).toList = [{ name := "at", type := 3, offset := 0, embedded := false, tag := "", pkgPath := "couchette/berth", byteOffset := 0 }, { name := "bunk", type := 76, offset := 1, embedded := false, tag := "", pkgPath := "couchette/berth", byteOffset := 8 }] := by kernel_rfl
 rw [run_equalIn_agg w (d+2) 159 _ _ h1 (by kernel_rfl),h2]
 refine Eq.trans (b:=Result.ok (a0 == b0 && (jG [.int .i64 a1,.int .i64 a2] [.int .i64 b1,.int .i64 b2] && true)) w) ?_ (congrArg (fun r=>Result.ok r w) (by simp [jG,veq]))
 exact zf (by simp) (qo (isAgg3) rfl) (qo (isAgg3) rfl) (run_equalIn_int w (d+1) 3 _ _ _ _ underlying3) (zf (by simp) (zG (isAgg76) (sizeOf76) rfl) (zG (isAgg76) (sizeOf76) rfl) (Qco (d+0) w a1 b1 a2 b2) (ji))
def Qks (w:World) (em:Bool) (a0:Int) (a1:Int) (a2:Int):(Instr.checkKey em 10000 159 (.agg #[.int .i64 a0,.int .i64 a1,.int .i64 a2])).run prog w=.ok () w:=by kernel_rfl
def Qjs:TI:={ cells:=1,bytes:=8,td:=.map 159 3,zero:=[.v (.map none)],eqk:=none,key:=some { kd:=.agg [some .i64,some .i64,some .i64],z:=.v (.int .i64 0),agg:=false } }
def tf157:TyFact prog 157 Qjs:=by
 refine ⟨⟨Tryz.t157,.map none,by kernel_rfl,rfl,rfl,rfl,rfl,rfl,by simp [Value.cells,Value.oneCell']⟩,⟨_,underlying157,rfl⟩,fun fs h=>?_,fun ks h=>?_,fun q h=>?_⟩
 ·cases h
 ·cases h
 ·cases h
  refine ⟨159,3,rfl,Qgc underlying159 (fun w xs ys hx hy=>?_) (fun w em xs hx=>?_),fun w=>⟨.int .i64 0,by simp [zeroValue,typeInfo,show prog.info? 3=some Tryz.t3 by kernel_rfl,Tryz.t3],fun w' ok ρ y=>?_⟩⟩
  ·skip
   cases xs with
   |nil=>simp [qa] at hx
   |cons x0 xs1 =>
   cases xs1 with
   |nil=>simp [qa] at hx
   |cons x1 xs2 =>
   cases xs2 with
   |nil=>simp [qa] at hx
   |cons x2 xs3 =>
   cases xs3 with
   |cons _ _=>simp [qa] at hx
   |nil =>
   cases ys with
   |nil=>simp [qa] at hy
   |cons y0 ys1 =>
   cases ys1 with
   |nil=>simp [qa] at hy
   |cons y1 ys2 =>
   cases ys2 with
   |nil=>simp [qa] at hy
   |cons y2 ys3 =>
   cases ys3 with
   |cons _ _=>simp [qa] at hy
   |nil =>
   simp only [qa] at hx;obtain ⟨⟨nx0,rfl⟩,⟨nx1,rfl⟩,⟨nx2,rfl⟩,_⟩:=hx
   simp only [qa] at hy;obtain ⟨⟨ny0,rfl⟩,⟨ny1,rfl⟩,⟨ny2,rfl⟩,_⟩:=hy
   exact Qkr 9997 w nx0 ny0 nx1 ny1 nx2 ny2
  ·skip
   cases xs with
   |nil=>simp [qa] at hx
   |cons x0 xs1 =>
   cases xs1 with
   |nil=>simp [qa] at hx
   |cons x1 xs2 =>
   cases xs2 with
   |nil=>simp [qa] at hx
   |cons x2 xs3 =>
   cases xs3 with
   |cons _ _=>simp [qa] at hx
   |nil =>
   simp only [qa] at hx;obtain ⟨⟨nx0,rfl⟩,⟨nx1,rfl⟩,⟨nx2,rfl⟩,_⟩:=hx
   exact Qks w em nx0 nx1 nx2
  ·exact .v rfl
def Qjp:TI:={ cells:=3,bytes:=24,td:=.struct [(0,1,3),(1,2,76)],zero:=[.v (.int .i64 0),.v (.int .i64 0),.v (.int .i64 0)],eqk:=none }
def tf159:TyFact prog 159 Qjp:=by
 refine ⟨⟨Tryz.t159,.agg #[.int .i64 0,.int .i64 0,.int .i64 0],by kernel_rfl,rfl,rfl,rfl,rfl,rfl,by simp [Value.cells,Value.oneCell']⟩,⟨_,underlying159,⟨_,rfl,rfl⟩⟩,fun fs h=>?_,fun ks h=>?_,fun q h=>?_⟩
 ·cases h
  simp only [ae,aO,or_false,forall_eq_or_imp,forall_eq];exact ⟨⟨Tryz.t3,by kernel_rfl,rfl⟩,⟨Tryz.t76,by kernel_rfl,rfl⟩⟩
 ·cases h
 ·cases h
def Qi6:TI:={ cells:=1,bytes:=8,td:=.func,zero:=[.v (.nilFunc)],eqk:=none }
def tf167:TyFact prog 167 Qi6:=by
 refine ⟨⟨Tryz.t167,.nilFunc,by kernel_rfl,rfl,rfl,rfl,rfl,rfl,by simp [Value.cells,Value.oneCell']⟩,⟨_,underlying167,⟨_,_,_,rfl⟩⟩,fun fs h=>?_,fun ks h=>?_,fun q h=>?_⟩
 ·cases h
 ·cases h
 ·cases h
def Qja:TI:={ cells:=1,bytes:=8,td:=.ptr,zero:=[.v (.pointer none)],eqk:=none }
def tf170:TyFact prog 170 Qja:=by
 refine ⟨⟨Tryz.t170,.pointer none,by kernel_rfl,rfl,rfl,rfl,rfl,rfl,by simp [Value.cells,Value.oneCell']⟩,⟨_,underlying170,⟨_,rfl⟩⟩,fun fs h=>?_,fun ks h=>?_,fun q h=>?_⟩
 ·cases h
 ·cases h
 ·cases h
def QjB:TI:={ cells:=2,bytes:=32,td:=.struct [(0,1,170),(1,1,99)],zero:=[.v (.pointer none),.nil],eqk:=none }
def tf172:TyFact prog 172 QjB:=by
 refine ⟨⟨Tryz.t172,.agg #[.pointer none,.slice none 0 0],by kernel_rfl,rfl,rfl,rfl,rfl,rfl,by simp [Value.cells,Value.oneCell']⟩,⟨_,underlying172,⟨_,rfl,rfl⟩⟩,fun fs h=>?_,fun ks h=>?_,fun q h=>?_⟩
 ·cases h
  simp only [ae,aO,or_false,forall_eq_or_imp,forall_eq];exact ⟨⟨Tryz.t170,by kernel_rfl,rfl⟩,⟨Tryz.t99,by kernel_rfl,rfl⟩⟩
 ·cases h
 ·cases h
def QjD:TI:={ cells:=1,bytes:=16,td:=.iface,zero:=[.v (.nilIface)],eqk:=none }
def tf175:TyFact prog 175 QjD:=by
 refine ⟨⟨Tryz.t175,.nilIface,by kernel_rfl,rfl,rfl,rfl,rfl,rfl,by simp [Value.cells,Value.oneCell']⟩,⟨_,underlying175,⟨_,rfl⟩⟩,fun fs h=>?_,fun ks h=>?_,fun q h=>?_⟩
 ·cases h
 ·cases h
 ·cases h
def Qjc:TI:={ cells:=0,bytes:=0,td:=.struct [],zero:=[],eqk:=none }
def tf182:TyFact prog 182 Qjc:=by
 refine ⟨⟨Tryz.t182,.agg #[],by kernel_rfl,rfl,rfl,rfl,rfl,rfl,by simp [Value.cells,Value.oneCell']⟩,⟨_,underlying182,⟨_,rfl,rfl⟩⟩,fun fs h=>?_,fun ks h=>?_,fun q h=>?_⟩
 ·cases h
  simp only [aO];exact fun _ h=>(h:False).elim
 ·cases h
 ·cases h
def QjJ:TI:={ cells:=1,bytes:=8,td:=.ptr,zero:=[.v (.pointer none)],eqk:=none }
def tf185:TyFact prog 185 QjJ:=by
 refine ⟨⟨Tryz.t185,.pointer none,by kernel_rfl,rfl,rfl,rfl,rfl,rfl,by simp [Value.cells,Value.oneCell']⟩,⟨_,underlying185,⟨_,rfl⟩⟩,fun fs h=>?_,fun ks h=>?_,fun q h=>?_⟩
 ·cases h
 ·cases h
 ·cases h
def QjN:TI:={ cells:=1,bytes:=8,td:=.ptr,zero:=[.v (.pointer none)],eqk:=none }
def tf188:TyFact prog 188 QjN:=by
 refine ⟨⟨Tryz.t188,.pointer none,by kernel_rfl,rfl,rfl,rfl,rfl,rfl,by simp [Value.cells,Value.oneCell']⟩,⟨_,underlying188,⟨_,rfl⟩⟩,fun fs h=>?_,fun ks h=>?_,fun q h=>?_⟩
 ·cases h
 ·cases h
 ·cases h
def Vj:TI:={ cells:=1,bytes:=24,td:=.slice 191,zero:=[.nil],eqk:=none }
def tf190:TyFact prog 190 Vj:=by
 refine ⟨⟨Tryz.t190,.slice none 0 0,by kernel_rfl,rfl,rfl,rfl,rfl,rfl,by simp [Value.cells,Value.oneCell']⟩,⟨_,underlying190,rfl⟩,fun fs h=>?_,fun ks h=>?_,fun q h=>?_⟩
 ·cases h
 ·cases h
 ·cases h
def QjZ (d:Nat) (w:World) (a0 b0:Int) (a1 b1:Int):(Op.equalIn (d+2) 191 (.agg #[.int .i64 a0,.int .i64 a1]) (.agg #[.int .i64 b0,.int .i64 b1])).run prog w=.ok (jG [.int .i64 a0,.int .i64 a1] [.int .i64 b0,.int .i64 b1]) w:=by
 have h1:prog.underlying 191=some (.struct (prog.fieldsOf 191)):=by kernel_rfl
 have h2 : (prog.fieldsOf 191).toList = [{ name := "Num", type := 3, offset := 0, embedded := false, tag := "", pkgPath := "", byteOffset := 0 }, { name := "Den", type := 3, offset := 1, embedded := false, tag := "", pkgPath := "", byteOffset := 8 }] := by kernel_rfl
 rw [run_equalIn_agg w (d+1) 191 _ _ h1 (by kernel_rfl),h2]
 refine Eq.trans (b:=Result.ok (a0 == b0 && (a1 == b1 && true)) w) ?_ (congrArg (fun r=>Result.ok r w) (by simp [jG,veq]))
 exact zf (by simp) (qo (isAgg3) rfl) (qo (isAgg3) rfl) (run_equalIn_int w (d+0) 3 _ _ _ _ underlying3) (zf (by simp) (qo (isAgg3) rfl) (qo (isAgg3) rfl) (run_equalIn_int w (d+0) 3 _ _ _ _ underlying3) (ji))
def vC:TI:={ cells:=2,bytes:=16,td:=.struct [(0,1,3),(1,1,3)],zero:=[.v (.int .i64 0),.v (.int .i64 0)],eqk:=some [some .i64,some .i64] }
def tf191:TyFact prog 191 vC:=by
 refine ⟨⟨Tryz.t191,.agg #[.int .i64 0,.int .i64 0],by kernel_rfl,rfl,rfl,rfl,rfl,rfl,by simp [Value.cells,Value.oneCell']⟩,⟨_,underlying191,⟨_,rfl,rfl⟩⟩,fun fs h=>?_,fun ks h=>?_,fun q h=>?_⟩
 ·cases h
  simp only [ae,aO,or_false,forall_eq_or_imp,forall_eq];exact ⟨⟨Tryz.t3,by kernel_rfl,rfl⟩,⟨Tryz.t3,by kernel_rfl,rfl⟩⟩
 ·cases h
  refine ⟨by kernel_rfl,fun w xs ys hx hy=>?_⟩
  cases xs with
  |nil=>simp [qa] at hx
  |cons x0 xs1 =>
  cases xs1 with
  |nil=>simp [qa] at hx
  |cons x1 xs2 =>
  cases xs2 with
  |cons _ _=>simp [qa] at hx
  |nil =>
  cases ys with
  |nil=>simp [qa] at hy
  |cons y0 ys1 =>
  cases ys1 with
  |nil=>simp [qa] at hy
  |cons y1 ys2 =>
  cases ys2 with
  |cons _ _=>simp [qa] at hy
  |nil =>
  simp only [qa] at hx hy;obtain ⟨⟨nx0,rfl⟩,⟨nx1,rfl⟩,_⟩:=hx
  obtain ⟨⟨ny0,rfl⟩,⟨ny1,rfl⟩,_⟩:=hy;exact QjZ 9998 w nx0 ny0 nx1 ny1
 ·cases h
def Jz:TI:={ cells:=5,bytes:=120,td:=.struct [(0,4,47),(4,1,26)],zero:=[.nil,.nil,.nil,.nil,.nil],eqk:=none }
def tf196:TyFact prog 196 Jz:=by
 refine ⟨⟨Tryz.t196,.agg #[.slice none 0 0,.slice none 0 0,.slice none 0 0,.slice none 0 0,.slice none 0 0],by kernel_rfl,rfl,rfl,rfl,rfl,rfl,by simp [Value.cells,Value.oneCell']⟩,⟨_,underlying196,⟨_,rfl,rfl⟩⟩,fun fs h=>?_,fun ks h=>?_,fun q h=>?_⟩
 ·cases h
  simp only [ae,aO,or_false,forall_eq_or_imp,forall_eq];exact ⟨⟨Tryz.t47,by kernel_rfl,rfl⟩,⟨Tryz.t26,by kernel_rfl,rfl⟩⟩
 ·cases h
 ·cases h
def Uj:TI:={ cells:=1,bytes:=8,td:=.func,zero:=[.v (.nilFunc)],eqk:=none }
def tf206:TyFact prog 206 Uj:=by
 refine ⟨⟨Tryz.t206,.nilFunc,by kernel_rfl,rfl,rfl,rfl,rfl,rfl,by simp [Value.cells,Value.oneCell']⟩,⟨_,underlying206,⟨_,_,_,rfl⟩⟩,fun fs h=>?_,fun ks h=>?_,fun q h=>?_⟩
 ·cases h
 ·cases h
 ·cases h
def Qai:TI:={ cells:=1,bytes:=8,td:=.func,zero:=[.v (.nilFunc)],eqk:=none }
def tf207:TyFact prog 207 Qai:=by
 refine ⟨⟨Tryz.t207,.nilFunc,by kernel_rfl,rfl,rfl,rfl,rfl,rfl,by simp [Value.cells,Value.oneCell']⟩,⟨_,underlying207,⟨_,_,_,rfl⟩⟩,fun fs h=>?_,fun ks h=>?_,fun q h=>?_⟩
 ·cases h
 ·cases h
 ·cases h
def YI:TI:={ cells:=0,bytes:=0,td:=.struct [],zero:=[],eqk:=none }
def tf217:TyFact prog 217 YI:=by
 refine ⟨⟨Tryz.t217,.agg #[],by kernel_rfl,rfl,rfl,rfl,rfl,rfl,by simp [Value.cells,Value.oneCell']⟩,⟨_,underlying217,⟨_,rfl,rfl⟩⟩,fun fs h=>?_,fun ks h=>?_,fun q h=>?_⟩
 ·cases h
  simp only [aO];exact fun _ h=>(h:False).elim
 ·cases h
 ·cases h
def Qi8:TI:={ cells:=1,bytes:=8,td:=.int .u64,zero:=[.v (.int .u64 0)],eqk:=none }
def tf224:TyFact prog 224 Qi8:=by
 refine ⟨⟨Tryz.t224,.int .u64 0,by kernel_rfl,rfl,rfl,rfl,rfl,rfl,by simp [Value.cells,Value.oneCell']⟩,⟨_,underlying224,rfl⟩,fun fs h=>?_,fun ks h=>?_,fun q h=>?_⟩
 ·cases h
 ·cases h
 ·cases h
def Qjr:TI:={ cells:=3,bytes:=24,td:=.array 3 224,zero:=[.v (.int .u64 0),.v (.int .u64 0),.v (.int .u64 0)],eqk:=none }
def tf226:TyFact prog 226 Qjr:=by
 refine ⟨⟨Tryz.t226,.agg #[.int .u64 0,.int .u64 0,.int .u64 0],by kernel_rfl,rfl,rfl,rfl,rfl,rfl,by simp [Value.cells,Value.oneCell']⟩,⟨_,underlying226,rfl⟩,fun fs h=>?_,fun ks h=>?_,fun q h=>?_⟩
 ·cases h
 ·cases h
 ·cases h
def Qjv:TI:={ cells:=1,bytes:=8,td:=.func,zero:=[.v (.nilFunc)],eqk:=none }
def tf231:TyFact prog 231 Qjv:=by
 refine ⟨⟨Tryz.t231,.nilFunc,by kernel_rfl,rfl,rfl,rfl,rfl,rfl,by simp [Value.cells,Value.oneCell']⟩,⟨_,underlying231,⟨_,_,_,rfl⟩⟩,fun fs h=>?_,fun ks h=>?_,fun q h=>?_⟩
 ·cases h
 ·cases h
 ·cases h
def Qjw:TI:={ cells:=1,bytes:=8,td:=.func,zero:=[.v (.nilFunc)],eqk:=none }
def tf233:TyFact prog 233 Qjw:=by
 refine ⟨⟨Tryz.t233,.nilFunc,by kernel_rfl,rfl,rfl,rfl,rfl,rfl,by simp [Value.cells,Value.oneCell']⟩,⟨_,underlying233,⟨_,_,_,rfl⟩⟩,fun fs h=>?_,fun ks h=>?_,fun q h=>?_⟩
 ·cases h
 ·cases h
 ·cases h
def Qi5:TI:={ cells:=1,bytes:=8,td:=.map 3 3,zero:=[.v (.map none)],eqk:=none,key:=some { kd:=.one (.int .i64),z:=.v (.int .i64 0),agg:=false } }
def tf234:TyFact prog 234 Qi5:=by
 refine ⟨⟨Tryz.t234,.map none,by kernel_rfl,rfl,rfl,rfl,rfl,rfl,by simp [Value.cells,Value.oneCell']⟩,⟨_,underlying234,rfl⟩,fun fs h=>?_,fun ks h=>?_,fun q h=>?_⟩
 ·cases h
 ·cases h
 ·cases h
  refine ⟨3,3,rfl,QbE underlying3,fun w=>⟨.int .i64 0,by simp [zeroValue,typeInfo,show prog.info? 3=some Tryz.t3 by kernel_rfl,Tryz.t3],fun w' ok ρ y=>?_⟩⟩
  exact .v rfl
def Qjx:TI:={ cells:=1,bytes:=8,td:=.func,zero:=[.v (.nilFunc)],eqk:=none }
def tf235:TyFact prog 235 Qjx:=by
 refine ⟨⟨Tryz.t235,.nilFunc,by kernel_rfl,rfl,rfl,rfl,rfl,rfl,by simp [Value.cells,Value.oneCell']⟩,⟨_,underlying235,⟨_,_,_,rfl⟩⟩,fun fs h=>?_,fun ks h=>?_,fun q h=>?_⟩
 ·cases h
 ·cases h
 ·cases h
def QjO:TI:={ cells:=1,bytes:=8,td:=.ptr,zero:=[.v (.pointer none)],eqk:=none }
def tf242:TyFact prog 242 QjO:=by
 refine ⟨⟨Tryz.t242,.pointer none,by kernel_rfl,rfl,rfl,rfl,rfl,rfl,by simp [Value.cells,Value.oneCell']⟩,⟨_,underlying242,⟨_,rfl⟩⟩,fun fs h=>?_,fun ks h=>?_,fun q h=>?_⟩
 ·cases h
 ·cases h
 ·cases h
def Qjd:TI:={ cells:=1,bytes:=8,td:=.func,zero:=[.v (.nilFunc)],eqk:=none }
def tf259:TyFact prog 259 Qjd:=by
 refine ⟨⟨Tryz.t259,.nilFunc,by kernel_rfl,rfl,rfl,rfl,rfl,rfl,by simp [Value.cells,Value.oneCell']⟩,⟨_,underlying259,⟨_,_,_,rfl⟩⟩,fun fs h=>?_,fun ks h=>?_,fun q h=>?_⟩
 ·cases h
 ·cases h
 ·cases h
def Qju:TI:={ cells:=24,bytes:=24,td:=.array 24 5,zero:=List.replicate 24 (.v (.int .u8 0)),eqk:=none }
def tf267:TyFact prog 267 Qju:=by
 refine ⟨⟨Tryz.t267,.agg #[.int .u8 0,.int .u8 0,.int .u8 0,.int .u8 0,.int .u8 0,.int .u8 0,.int .u8 0,.int .u8 0,.int .u8 0,.int .u8 0,.int .u8 0,.int .u8 0,.int .u8 0,.int .u8 0,.int .u8 0,.int .u8 0,.int .u8 0,.int .u8 0,.int .u8 0,.int .u8 0,.int .u8 0,.int .u8 0,.int .u8 0,.int .u8 0],by kernel_rfl,rfl,rfl,rfl,rfl,rfl,by simp [Value.cells,Value.oneCell']⟩,⟨_,underlying267,rfl⟩,fun fs h=>?_,fun ks h=>?_,fun q h=>?_⟩
 ·cases h
 ·cases h
 ·cases h
def Qjg:TI:={ cells:=1,bytes:=4,td:=.int .u32,zero:=[.v (.int .u32 0)],eqk:=none }
def tf280:TyFact prog 280 Qjg:=by
 refine ⟨⟨Tryz.t280,.int .u32 0,by kernel_rfl,rfl,rfl,rfl,rfl,rfl,by simp [Value.cells,Value.oneCell']⟩,⟨_,underlying280,rfl⟩,fun fs h=>?_,fun ks h=>?_,fun q h=>?_⟩
 ·cases h
 ·cases h
 ·cases h
def QjG:TI:={ cells:=20,bytes:=160,td:=.array 20 90,zero:=[.v (.int .u64 0),.v (.int .u64 0),.v (.int .u64 0),.v (.int .u64 0),.v (.int .u64 0),.v (.int .u64 0),.v (.int .u64 0),.v (.int .u64 0),.v (.int .u64 0),.v (.int .u64 0),.v (.int .u64 0),.v (.int .u64 0),.v (.int .u64 0),.v (.int .u64 0),.v (.int .u64 0),.v (.int .u64 0),.v (.int .u64 0),.v (.int .u64 0),.v (.int .u64 0),.v (.int .u64 0)],eqk:=none }
def tf293:TyFact prog 293 QjG:=by
 refine ⟨⟨Tryz.t293,.agg #[.int .u64 0,.int .u64 0,.int .u64 0,.int .u64 0,.int .u64 0,.int .u64 0,.int .u64 0,.int .u64 0,.int .u64 0,.int .u64 0,.int .u64 0,.int .u64 0,.int .u64 0,.int .u64 0,.int .u64 0,.int .u64 0,.int .u64 0,.int .u64 0,.int .u64 0,.int .u64 0],by kernel_rfl,rfl,rfl,rfl,rfl,rfl,by simp [Value.cells,Value.oneCell']⟩,⟨_,underlying293,rfl⟩,fun fs h=>?_,fun ks h=>?_,fun q h=>?_⟩
 ·cases h
 ·cases h
 ·cases h
def Qji:TI:={ cells:=1,bytes:=8,td:=.int .i64,zero:=[.v (.int .i64 0)],eqk:=none }
def tf302:TyFact prog 302 Qji:=by
 refine ⟨⟨Tryz.t302,.int .i64 0,by kernel_rfl,rfl,rfl,rfl,rfl,rfl,by simp [Value.cells,Value.oneCell']⟩,⟨_,underlying302,rfl⟩,fun fs h=>?_,fun ks h=>?_,fun q h=>?_⟩
 ·cases h
 ·cases h
 ·cases h
def QjE:TI:={ cells:=1,bytes:=8,td:=.ptr,zero:=[.v (.pointer none)],eqk:=none }
def tf305:TyFact prog 305 QjE:=by
 refine ⟨⟨Tryz.t305,.pointer none,by kernel_rfl,rfl,rfl,rfl,rfl,rfl,by simp [Value.cells,Value.oneCell']⟩,⟨_,underlying305,⟨_,rfl⟩⟩,fun fs h=>?_,fun ks h=>?_,fun q h=>?_⟩
 ·cases h
 ·cases h
 ·cases h
def Qjo:TI:={ cells:=32,bytes:=32,td:=.array 32 5,zero:=List.replicate 32 (.v (.int .u8 0)),eqk:=none }
def tf308:TyFact prog 308 Qjo:=by
 refine ⟨⟨Tryz.t308,.agg #[.int .u8 0,.int .u8 0,.int .u8 0,.int .u8 0,.int .u8 0,.int .u8 0,.int .u8 0,.int .u8 0,.int .u8 0,.int .u8 0,.int .u8 0,.int .u8 0,.int .u8 0,.int .u8 0,.int .u8 0,.int .u8 0,.int .u8 0,.int .u8 0,.int .u8 0,.int .u8 0,.int .u8 0,.int .u8 0,.int .u8 0,.int .u8 0,.int .u8 0,.int .u8 0,.int .u8 0,.int .u8 0,.int .u8 0,.int .u8 0,.int .u8 0,.int .u8 0],by kernel_rfl,rfl,rfl,rfl,rfl,rfl,by simp [Value.cells,Value.oneCell']⟩,⟨_,underlying308,rfl⟩,fun fs h=>?_,fun ks h=>?_,fun q h=>?_⟩
 ·cases h
 ·cases h
 ·cases h
def Qjy:TI:={ cells:=64,bytes:=64,td:=.array 64 5,zero:=List.replicate 64 (.v (.int .u8 0)),eqk:=none }
def tf309:TyFact prog 309 Qjy:=by
 refine ⟨⟨Tryz.t309,.agg #[.int .u8 0,.int .u8 0,.int .u8 0,.int .u8 0,.int .u8 0,.int .u8 0,.int .u8 0,.int .u8 0,.int .u8 0,.int .u8 0,.int .u8 0,.int .u8 0,.int .u8 0,.int .u8 0,.int .u8 0,.int .u8 0,.int .u8 0,.int .u8 0,.int .u8 0,.int .u8 0,.int .u8 0,.int .u8 0,.int .u8 0,.int .u8 0,.int .u8 0,.int .u8 0,.int .u8 0,.int .u8 0,.int .u8 0,.int .u8 0,.int .u8 0,.int .u8 0,.int .u8 0,.int .u8 0,.int .u8 0,.int .u8 0,.int .u8 0,.int .u8 0,.int .u8 0,.int .u8 0,.int .u8 0,.int .u8 0,.int .u8 0,.int .u8 0,.int .u8 0,.int .u8 0,.int .u8 0,.int .u8 0,.int .u8 0,.int .u8 0,.int .u8 0,.int .u8 0,.int .u8 0,.int .u8 0,.int .u8 0,.int .u8 0,.int .u8 0,.int .u8 0,.int .u8 0,.int .u8 0,.int .u8 0,.int .u8 0,.int .u8 0,.int .u8 0],by kernel_rfl,rfl,rfl,rfl,rfl,rfl,by simp [Value.cells,Value.oneCell']⟩,⟨_,underlying309,rfl⟩,fun fs h=>?_,fun ks h=>?_,fun q h=>?_⟩
 ·cases h
 ·cases h
 ·cases h
def Qi9:TI:={ cells:=2,bytes:=2,td:=.struct [(0,1,5),(1,1,5)],zero:=[.v (.int .u8 0),.v (.int .u8 0)],eqk:=none }
def tf312:TyFact prog 312 Qi9:=by
 refine ⟨⟨Tryz.t312,.agg #[.int .u8 0,.int .u8 0],by kernel_rfl,rfl,rfl,rfl,rfl,rfl,by simp [Value.cells,Value.oneCell']⟩,⟨_,underlying312,⟨_,rfl,rfl⟩⟩,fun fs h=>?_,fun ks h=>?_,fun q h=>?_⟩
 ·cases h
  simp only [ae,aO,or_false,forall_eq_or_imp,forall_eq];exact ⟨⟨Tryz.t5,by kernel_rfl,rfl⟩,⟨Tryz.t5,by kernel_rfl,rfl⟩⟩
 ·cases h
 ·cases h
def Qi1:TI:={ cells:=32,bytes:=32,td:=.array 16 312,zero:=List.replicate 32 (.v (.int .u8 0)),eqk:=none }
def tf313:TyFact prog 313 Qi1:=by
 refine ⟨⟨Tryz.t313,.agg #[.int .u8 0,.int .u8 0,.int .u8 0,.int .u8 0,.int .u8 0,.int .u8 0,.int .u8 0,.int .u8 0,.int .u8 0,.int .u8 0,.int .u8 0,.int .u8 0,.int .u8 0,.int .u8 0,.int .u8 0,.int .u8 0,.int .u8 0,.int .u8 0,.int .u8 0,.int .u8 0,.int .u8 0,.int .u8 0,.int .u8 0,.int .u8 0,.int .u8 0,.int .u8 0,.int .u8 0,.int .u8 0,.int .u8 0,.int .u8 0,.int .u8 0,.int .u8 0],by kernel_rfl,rfl,rfl,rfl,rfl,rfl,by simp [Value.cells,Value.oneCell']⟩,⟨_,underlying313,rfl⟩,fun fs h=>?_,fun ks h=>?_,fun q h=>?_⟩
 ·cases h
 ·cases h
 ·cases h
def Qjh:TI:={ cells:=3,bytes:=48,td:=.struct [(0,1,9),(1,1,9),(2,1,175)],zero:=[.v (.string ⟨#[]⟩),.v (.string ⟨#[]⟩),.v (.nilIface)],eqk:=none }
def tf319:TyFact prog 319 Qjh:=by
 refine ⟨⟨Tryz.t319,.agg #[.string ⟨#[]⟩,.string ⟨#[]⟩,.nilIface],by kernel_rfl,rfl,rfl,rfl,rfl,rfl,by simp [Value.cells,Value.oneCell']⟩,⟨_,underlying319,⟨_,rfl,rfl⟩⟩,fun fs h=>?_,fun ks h=>?_,fun q h=>?_⟩
 ·cases h
  simp only [ae,aO,or_false,forall_eq_or_imp,forall_eq];exact ⟨⟨Tryz.t9,by kernel_rfl,rfl⟩,⟨Tryz.t9,by kernel_rfl,rfl⟩,⟨Tryz.t175,by kernel_rfl,rfl⟩⟩
 ·cases h
 ·cases h
def Qjz:TI:={ cells:=1,bytes:=8,td:=.ptr,zero:=[.v (.pointer none)],eqk:=none }
def tf323:TyFact prog 323 Qjz:=by
 refine ⟨⟨Tryz.t323,.pointer none,by kernel_rfl,rfl,rfl,rfl,rfl,rfl,by simp [Value.cells,Value.oneCell']⟩,⟨_,underlying323,⟨_,rfl⟩⟩,fun fs h=>?_,fun ks h=>?_,fun q h=>?_⟩
 ·cases h
 ·cases h
 ·cases h
def Qi4:TI:={ cells:=1,bytes:=16,td:=.struct [(0,1,9)],zero:=[.v (.string ⟨#[]⟩)],eqk:=none }
def tf325:TyFact prog 325 Qi4:=by
 refine ⟨⟨Tryz.t325,.agg #[.string ⟨#[]⟩],by kernel_rfl,rfl,rfl,rfl,rfl,rfl,by simp [Value.cells,Value.oneCell']⟩,⟨_,underlying325,⟨_,rfl,rfl⟩⟩,fun fs h=>?_,fun ks h=>?_,fun q h=>?_⟩
 ·cases h
  simp only [ae,aO,or_false,forall_eq];exact ⟨Tryz.t9,by kernel_rfl,rfl⟩
 ·cases h
 ·cases h
def tyL:List (Nat × TI):=[(2,ti2),(3,ti3),(4,ti4),(5,ti5),(9,ti9),(20,ti20),(21,ti21),(22,ti22),(23,ti23),(25,ti25),(26,jr),(28,ti28),(30,ti30),(32,ti32),(33,VC),(34,Zy),(43,Qo),(44,WG),(45,JZ),(47,vO),(50,ti50),(59,ti59),(63,ti63),(65,ti65),(71,ti71),(76,ti76),(80,ti80),(81,ti81),(84,ti84),(88,ti88),(90,Qbr),(92,Qfk),(93,Qe4),(99,ti99),(108,vD),(110,xS),(112,LX),(129,vR),(137,Qi2),(141,QjM),(146,QjK),(150,Qi7),(152,QjC),(153,Qjq),(155,Qi3),(157,Qjs),(159,Qjp),(167,Qi6),(170,Qja),(172,QjB),(175,QjD),(182,Qjc),(185,QjJ),(188,QjN),(190,Vj),(191,vC),(196,Jz),(206,Uj),(207,Qai),(217,YI),(224,Qi8),(226,Qjr),(231,Qjv),(233,Qjw),(234,Qi5),(235,Qjx),(242,QjO),(259,Qjd),(267,Qju),(280,Qjg),(293,QjG),(302,Qji),(305,QjE),(308,Qjo),(309,Qjy),(312,Qi9),(313,Qi1),(319,Qjh),(323,Qjz),(325,Qi4)]
def tyOf:List (Nat × TI)->Tys
 |[],_=>none
 |p :: r,t=>if t=p.1 then some p.2 else tyOf r t
def tyB:Tys:=tyOf tyL
def ty3:tyB 3=some ti3:=rfl
def ty9:tyB 9=some ti9:=rfl
def jK:tyB 26=some jr:=rfl
def Ls:tyB 33=some VC:=rfl
def WU:tyB 34=some Zy:=rfl
def Zv:tyB 43=some Qo:=rfl
def Yj:tyB 44=some WG:=rfl
def Y9:tyB 45=some JZ:=rfl
def xI:tyB 47=some vO:=rfl
def ty90:tyB 90=some Qbr:=rfl
def ty92:tyB 92=some Qfk:=rfl
def ty93:tyB 93=some Qe4:=rfl
def xW:tyB 108=some vD:=rfl
def QL:tyB 110=some xS:=rfl
def Qjf:tyB 112=some LX:=rfl
def kD:tyB 129=some vR:=rfl
def QcQ:tyB 190=some Vj:=rfl
def xP:tyB 191=some vC:=rfl
def KI:tyB 196=some Jz:=rfl
def Qjt:tyB 206=some Uj:=rfl
def Qjl:tyB 207=some Qai:=rfl
def U9:tyB 217=some YI:=rfl
def Lp:∀ {L:List (Nat × TI)} {t:Nat} {i:TI},tyOf L t=some i->(t,i) ∈ L
 |p :: r,t,i,h=>by
  simp only [tyOf] at h;split at h
  ·rename_i ht;cases h;rw [ht];exact aV
  ·exact aQ _ (Lp h)
def Qfx:zW prog tyB:=fun t i h=>by
 have h:=Lp h;simp only [tyL,ae,aO,or_false,Prod.mk.injEq] at h
 rcases h with ⟨rfl,rfl⟩|⟨rfl,rfl⟩|⟨rfl,rfl⟩|⟨rfl,rfl⟩|⟨rfl,rfl⟩|⟨rfl,rfl⟩|⟨rfl,rfl⟩|⟨rfl,rfl⟩|⟨rfl,rfl⟩|⟨rfl,rfl⟩|⟨rfl,rfl⟩|⟨rfl,rfl⟩|⟨rfl,rfl⟩|⟨rfl,rfl⟩|⟨rfl,rfl⟩|⟨rfl,rfl⟩|⟨rfl,rfl⟩|⟨rfl,rfl⟩|⟨rfl,rfl⟩|⟨rfl,rfl⟩|⟨rfl,rfl⟩|⟨rfl,rfl⟩|⟨rfl,rfl⟩|⟨rfl,rfl⟩|⟨rfl,rfl⟩|⟨rfl,rfl⟩|⟨rfl,rfl⟩|⟨rfl,rfl⟩|⟨rfl,rfl⟩|⟨rfl,rfl⟩|⟨rfl,rfl⟩|⟨rfl,rfl⟩|⟨rfl,rfl⟩|⟨rfl,rfl⟩|⟨rfl,rfl⟩|⟨rfl,rfl⟩|⟨rfl,rfl⟩|⟨rfl,rfl⟩|⟨rfl,rfl⟩|⟨rfl,rfl⟩|⟨rfl,rfl⟩|⟨rfl,rfl⟩|⟨rfl,rfl⟩|⟨rfl,rfl⟩|⟨rfl,rfl⟩|⟨rfl,rfl⟩|⟨rfl,rfl⟩|⟨rfl,rfl⟩|⟨rfl,rfl⟩|⟨rfl,rfl⟩|⟨rfl,rfl⟩|⟨rfl,rfl⟩|⟨rfl,rfl⟩|⟨rfl,rfl⟩|⟨rfl,rfl⟩|⟨rfl,rfl⟩|⟨rfl,rfl⟩|⟨rfl,rfl⟩|⟨rfl,rfl⟩|⟨rfl,rfl⟩|⟨rfl,rfl⟩|⟨rfl,rfl⟩|⟨rfl,rfl⟩|⟨rfl,rfl⟩|⟨rfl,rfl⟩|⟨rfl,rfl⟩|⟨rfl,rfl⟩|⟨rfl,rfl⟩|⟨rfl,rfl⟩|⟨rfl,rfl⟩|⟨rfl,rfl⟩|⟨rfl,rfl⟩|⟨rfl,rfl⟩|⟨rfl,rfl⟩|⟨rfl,rfl⟩|⟨rfl,rfl⟩|⟨rfl,rfl⟩|⟨rfl,rfl⟩|⟨rfl,rfl⟩|⟨rfl,rfl⟩
 ·exact tf2
 ·exact tf3
 ·exact tf4
 ·exact tf5
 ·exact tf9
 ·exact tf20
 ·exact tf21
 ·exact tf22
 ·exact tf23
 ·exact tf25
 ·exact tf26
 ·exact tf28
 ·exact tf30
 ·exact tf32
 ·exact tf33
 ·exact tf34
 ·exact tf43
 ·exact tf44
 ·exact tf45
 ·exact tf47
 ·exact tf50
 ·exact tf59
 ·exact tf63
 ·exact tf65
 ·exact tf71
 ·exact tf76
 ·exact tf80
 ·exact tf81
 ·exact tf84
 ·exact tf88
 ·exact tf90
 ·exact tf92
 ·exact tf93
 ·exact tf99
 ·exact tf108
 ·exact tf110
 ·exact tf112
 ·exact tf129
 ·exact tf137
 ·exact tf141
 ·exact tf146
 ·exact tf150
 ·exact tf152
 ·exact tf153
 ·exact tf155
 ·exact tf157
 ·exact tf159
 ·exact tf167
 ·exact tf170
 ·exact tf172
 ·exact tf175
 ·exact tf182
 ·exact tf185
 ·exact tf188
 ·exact tf190
 ·exact tf191
 ·exact tf196
 ·exact tf206
 ·exact tf207
 ·exact tf217
 ·exact tf224
 ·exact tf226
 ·exact tf231
 ·exact tf233
 ·exact tf234
 ·exact tf235
 ·exact tf242
 ·exact tf259
 ·exact tf267
 ·exact tf280
 ·exact tf293
 ·exact tf302
 ·exact tf305
 ·exact tf308
 ·exact tf309
 ·exact tf312
 ·exact tf313
 ·exact tf319
 ·exact tf323
 ·exact tf325
end Go.Sym.B
namespace Go.Sym.C
def Sm (q:Rat):Prop:=q.num<=1099511627776/\-1099511627776<=q.num/\q.den<=1048576
def Bd (B:Nat) (q:Rat):Prop:=q.den ∣ 27720/\q.num<=B * q.den/\-(B * q.den:Int)<=q.num
def Bd.sm {B:Nat} {q:Rat} (h:Bd B q) (hB:B<=10000000):Sm q:=by
 obtain ⟨h1,h2,h3⟩:=h;have hd:q.den<=27720:=dm (by decide) h1
 have h4:B * q.den<=10000000 * 27720:=cT hB hd;generalize hx:B * q.den=x at h4
 have hx':(B:Int) * q.den=x:=by rw [<- hx];simp
 rw [hx'] at h2 h3;refine ⟨?_, ?_,by omega⟩ <;> omega
def Bd.mono {B C:Nat} {q:Rat} (h:Bd B q) (hB:B<=C):Bd C q:=by
 obtain ⟨h1,h2,h3⟩:=h;have h4:(B:Int) * q.den<=C * q.den:=by exact_mod_cast aG _ hB
 exact ⟨h1,by omega,by omega⟩
def wY (q:Rat):0 < (q.den:Int):=by have:=q.den_nz;omega
def Y8 (q:Rat):(q.den:Int) ≠ 0:=by have:=q.den_nz;omega
def Ug {a b:Int} (hb:0 < b):(mkRat a b.toNat).num=a.tdiv (Nat.gcd a.natAbs b.toNat):=by
 have h0:b.toNat ≠ 0:=by omega
 rw [Rat.num_mkRat,if_neg h0,du];have hd:((Nat.gcd a.natAbs b.toNat:Nat):Int) ∣ a:=by
  have:=dw a.natAbs b.toNat;exact Int.ofNat_dvd_left.2 this
 exact (Int.tdiv_eq_ediv_of_dvd hd).symm
def QbN {a b:Int} (hb:0 < b):((mkRat a b.toNat).den:Int)=b.tdiv (Nat.gcd a.natAbs b.toNat):=by
 have h0:b.toNat ≠ 0:=by omega
 rw [Rat.den_mkRat,if_neg h0,du,Int.natCast_ediv];rw [show ((b.toNat:Nat):Int)=b by omega]
 exact (dx (by omega)).symm
def ic (n:Nat):(((n:Nat):Int):Rat)=(n:Rat):=Rat.intCast_natCast n
def QeE {a b c:Rat} (h:0 < c):a * c<=b * c ↔ a<=b:=by rw [<- Rat.not_lt,<- Rat.not_lt,Rat.mul_lt_mul_right h]
def Qgm {a b:Int} (hb:0 < b):mkRat a b.toNat=(a:Rat) / (b:Rat):=by
 rw [Rat.mkRat_eq_div,<- ic,show ((b.toNat:Nat):Int)=b by omega]
def Xf (q:Rat):q * ((q.den:Int):Rat)=(q.num:Rat):=by
 have g:((q.den:Nat):Rat) ≠ 0:=by exact_mod_cast q.den_nz
 have:q=(q.num:Rat) / ((q.den:Nat):Rat):=by rw [<- Rat.mkRat_eq_div,Rat.mkRat_self]
 rw [ic];generalize ((q.den:Nat):Rat)=d at *
 generalize (q.num:Rat)=n at *
 grind
def WE {b:Int} (h:b ≠ 0):(b:Rat) ≠ 0:=by exact_mod_cast h
def Qko (q r:Rat):mkRat (q.num * r.den+r.num * q.den) ((q.den:Int) * r.den).toNat=q+r:=by
 have h1:=wY q;have h2:=wY r
 rw [Qgm (cE h1 h2)];have g1:=WE (Y8 q)
 have g2:=WE (Y8 r);have e1:=Xf q
 have e2:=Xf r;simp only [Rat.intCast_add,Rat.intCast_mul]
 generalize ((q.den:Int):Rat)=d at *;generalize ((r.den:Int):Rat)=c at *
 generalize (q.num:Rat)=n at *;generalize (r.num:Rat)=m at *
 grind
def Qgi (q:Rat) (n:Int):mkRat (q.num * n) ((q.den:Int)).toNat=q * n:=by
 rw [Qgm (wY q)];have g1:=WE (Y8 q)
 have e1:=Xf q;simp only [Rat.intCast_mul]
 generalize ((q.den:Int):Rat)=d at *;generalize (q.num:Rat)=n at *
 grind
def Qh6 {r:Rat} (h:0 < r.num):r ≠ 0:=fun e=>by rw [e] at h;exact absurd h (by decide)
def Qgo (q r:Rat) (h:0 < r.num):mkRat (q.num * r.den) ((q.den:Int) * r.num).toNat=q / r:=by
 rw [Qgm (cE (wY q) h)];have g1:=WE (Y8 q)
 have g2:=WE (Y8 r);have g3:=WE (show r.num ≠ 0 by omega)
 have e1:=Xf q;have e2:=Xf r
 have g4:=Qh6 h;simp only [Rat.intCast_mul]
 generalize ((q.den:Int):Rat)=d at *;generalize ((r.den:Int):Rat)=c at *
 generalize (q.num:Rat)=n at *;generalize (r.num:Rat)=m at *
 grind
def QeI {q:Rat} {n:Int} {d:Nat} (hd:d ≠ 0) (h:q * (d:Rat)=n):q.den ∣ d:=by
 have:q=mkRat n d:=by
  rw [Rat.mkRat_eq_div];have g:((d:Nat):Rat) ≠ 0:=by exact_mod_cast hd
  generalize ((d:Nat):Rat)=c at *
  grind
 rw [this,Rat.den_mkRat,if_neg hd];exact d5 (dw _ _)
def Vv {q:Rat} (h:q.den ∣ 27720):∃ n:Int,q * ((27720:Nat):Rat)=n:=by
 obtain ⟨k,hk⟩:=h;refine ⟨q.num * k, ?_⟩
 have e1:=Xf q;rw [hk,ic] at *
 simp only [Rat.natCast_mul,Rat.intCast_mul,ic]
 grind
def QcI {q r:Rat} (h:q.den ∣ 27720) (h':r.den ∣ 27720):(q+r).den ∣ 27720:=by
 obtain ⟨n,hn⟩:=Vv h;obtain ⟨m,hm⟩:=Vv h'
 refine QeI (n:=n+m) (by decide) ?_
 simp only [Rat.intCast_add];rw [<- hn,<- hm]
 generalize ((27720:Nat):Rat)=d
 grind
def Qis {q:Rat} (h:q.den ∣ 27720):(-q).den ∣ 27720:=by simpa using h
def QhR {q r:Rat} (h:q.den ∣ 27720) (h':r.den ∣ 27720):(q - r).den ∣ 27720:=by
 rw [Rat.sub_eq_add_neg];exact QcI h (Qis h')
def Qgf {q:Rat} (n:Int) (h:q.den ∣ 27720):(q * n).den ∣ 27720:=by
 obtain ⟨m,hm⟩:=Vv h;refine QeI (n:=m * n) (by decide) ?_
 simp only [Rat.intCast_mul];rw [<- hm]
 generalize ((27720:Nat):Rat)=d
 grind
def QbV {B:Nat} {q:Rat}:Bd B q ↔ q.den ∣ 27720/\q<=(B:Rat)/\-(B:Rat)<=q:=by
 have hp:(0:Rat) < ((q.den:Int):Rat):=by exact_mod_cast wY q
 have e:=Xf q;have k1:q<=(B:Rat) ↔ q.num<=B * q.den:=by
  rw [<- QeE hp,e];rw [show (B:Rat) * ((q.den:Int):Rat)=(((B:Int) * (q.den:Int):Int):Rat) by rw [Rat.intCast_mul,ic B]]
  exact Rat.intCast_le_intCast
 have k2:-(B:Rat)<=q ↔ -(B * q.den:Int)<=q.num:=by
  rw [<- QeE hp,e];rw [show -(B:Rat) * ((q.den:Int):Rat)=((-((B:Int) * (q.den:Int)):Int):Rat) by rw [Rat.intCast_neg,Rat.intCast_mul,ic B,Rat.neg_mul]]
  exact Rat.intCast_le_intCast
 unfold Bd;rw [k1,k2]
def Bd.add {B C:Nat} {q r:Rat} (h:Bd B q) (h':Bd C r):Bd (B+C) (q+r):=by
 rw [QbV] at *;refine ⟨QcI h.1 h'.1, ?_, ?_⟩ <;> simp only [Rat.natCast_add] <;> grind
def Bd.sub {B C:Nat} {q r:Rat} (h:Bd B q) (h':Bd C r):Bd (B+C) (q - r):=by
 rw [QbV] at *;refine ⟨QhR h.1 h'.1, ?_, ?_⟩ <;> simp only [Rat.natCast_add] <;> grind
def Bd.muli {B C:Nat} {q:Rat} {n:Int} (h:Bd B q) (h1:n<=C) (h2:-(C:Int)<=n):Bd (B * C) (q * n):=by
 rw [QbV] at *;have g1:(n:Rat)<=(C:Rat):=by have:((n:Int):Rat)<=((C:Int):Rat):=Rat.intCast_le_intCast.2 h1;rwa [ic] at this
 have g2:-(C:Rat)<=(n:Rat):=by have:((-(C:Int):Int):Rat)<=((n:Int):Rat):=Rat.intCast_le_intCast.2 h2;rwa [Rat.intCast_neg,ic] at this
 have g3:(0:Rat)<=(B:Rat):=by exact_mod_cast af B
 have g4:(0:Rat)<=(C:Rat):=by exact_mod_cast af C
 refine ⟨Qgf n h.1, ?_, ?_⟩ <;> simp only [Rat.natCast_mul]
 ·have a1:(0:Rat)<=(B - q) * (C+n):=Rat.mul_nonneg (by grind) (by grind)
  have a2:(0:Rat)<=(B+q) * (C - n):=Rat.mul_nonneg (by grind) (by grind)
  grind
 ·have a1:(0:Rat)<=(B - q) * (C - n):=Rat.mul_nonneg (by grind) (by grind)
  have a2:(0:Rat)<=(B+q) * (C+n):=Rat.mul_nonneg (by grind) (by grind)
  grind
def XQ {a b:Int} (hb:0 < b):(mkRat a b.toNat).num.natAbs<=a.natAbs:=by
 rw [Ug hb];exact dz _ _
def XZ {a b:Int} (hb:0 < b):((mkRat a b.toNat).den:Int)<=b:=by
 rw [QbN hb,dx (by omega)]
 exact dA _ (by omega)
def Qgn {q r:Rat} {B:Nat} (hq:Bd B q) (hB:B<=1000000) (h0:0 < r.num) (h1:r.num<=20) (h2:r.den<=12):Sm (q / r):=by
 rw [<- Qgo q r h0];have hd:=wY q
 have hp:0 < (q.den:Int) * r.num:=cE hd h0;have g1:=XQ (a:=q.num * r.den) hp
 have g2:=XZ (a:=q.num * r.den) hp;obtain ⟨k1,k2,k3⟩:=hq
 have k4:q.den<=27720:=dm (by decide) k1
 have k5:B * q.den<=1000000 * 27720:=cT hB k4;have k6:q.num.natAbs<=1000000 * 27720:=by
  have:((B * q.den:Nat):Int)<=((1000000 * 27720:Nat):Int):=cU.2 k5;rw [Int.natCast_mul] at this
  omega
 have k7:(q.num * r.den).natAbs<=1000000 * 27720 * 12:=by
  rw [Int.natAbs_mul];exact cT k6 (by simpa using h2)
 have k8:(q.den:Int) * r.num<=27720 * 20:=cF (by omega) h1 (by omega) (by omega)
 refine ⟨?_, ?_, ?_⟩ <;> omega
def QeO {q:Rat} (h:Sm q):Sm (q.floor:Rat):=by
 obtain ⟨h1,h2,h3⟩:=h;have hd:=wY q
 have e:q.floor=q.num / q.den:=Rat.floor_def q;have g1:q.num / (q.den:Int)<=1099511627776:=by
  have:=Int.ediv_le_ediv hd h1;have:=dA (q.den:Int) (show (0:Int)<=1099511627776 by decide)
  omega
 have g2:-1099511627776<=q.num / (q.den:Int):=by
  rw [Int.le_ediv_iff_mul_le hd];have:(1099511627776:Int) * 1<=1099511627776 * q.den:=dB (by omega) (by decide)
  omega
 refine ⟨by rw [Rat.num_intCast,e];exact g1,by rw [Rat.num_intCast,e];exact g2,by rw [Rat.den_intCast];decide⟩
def Qh5 (B:Nat):Bd B 0:=by
 refine ⟨?_, ?_, ?_⟩
 ·exact ⟨27720,rfl⟩
 ·show (0:Int)<=B * 1;omega
 ·show -((B:Int) * 1)<=0;omega
def xf (l:List Rat):Rat:=l.foldl (·+·) 0
def Yz (l:List Rat) (x:Rat):xf (l++[x])=xf l+x:=by simp [xf]
def U4 {B:Nat}:∀ (l:List Rat) (C:Nat) (a:Rat),Bd C a->(∀ q ∈ l,Bd B q)->Bd (C+l.length * B) (l.foldl (·+·) a)
 |[],C,a,ha,_=>by simpa using ha
 |x :: l,C,a,ha,h=>by
  have:=U4 l (C+B) (a+x) (ha.add (h x (by simp))) fun q hq=>h q (by simp [hq])
  rwa [show C+(x :: l).length * B=C+B+l.length * B by rw [bl,aE];omega]
def RD {B:Nat} (l:List Rat) (h:∀ q ∈ l,Bd B q):Bd (l.length * B) (xf l):=by
 have:=U4 l 0 0 (Qh5 0) h
 rwa [bE] at this
end Go.Sym.C
namespace Go.Sym.B
open Go Go.Sym Go.Proofs Go.Proofs.Tryz Go.Sym.C
structure Sh where
 num:Int
 den:Int
deriving DecidableEq,Inhabited
structure Ent where
 day:Int
 kind:Int
 coin:Int
 to:Int
 amount:Int
 got:Int
deriving DecidableEq,Inhabited
structure Led where
 coins:List (List Int)
 rates:List (List Sh)
 start:List Int
 entries:List Ent
deriving DecidableEq,Inhabited
def ql (n:Int):List DV:=[.v (.int .i64 n)]
def eSh (b:Sh):List DV:=[.v (.int .i64 b.num),.v (.int .i64 b.den)]
def wz (x:Ent):List DV:=[.v (.int .i64 x.day),.v (.int .i64 x.kind),.v (.int .i64 x.coin),.v (.int .i64 x.to),.v (.int .i64 x.amount),.v (.int .i64 x.got)]
def qG (l:List Int):List DV:=[.sl (l.map ql)]
def wM (l:List Sh):List DV:=[.sl (l.map eSh)]
def dI:DV->Int
 |.v (.int _ n)=>n
 |_=>0
def dL:DV->List (List DV)
 |.sl xs=>xs
 |_=>[]
def qE (r:List DV):Int:=dI (r.headD (.sl []))
def dSh:List DV->Sh
 |[a,b]=>⟨dI a,dI b⟩
 |_=>default
def xy:List DV->Ent
 |[a,b,c,d,e,f]=>⟨dI a,dI b,dI c,dI d,dI e,dI f⟩
 |_=>default
def qM:List DV->List Int
 |[a]=>(dL a).map qE
 |_=>[]
def xC:List DV->List Sh
 |[a]=>(dL a).map dSh
 |_=>[]
def QjX (n:Int):qE (ql n)=n:=rfl
def dSh_e (b:Sh):dSh (eSh b)=b:=rfl
def Qkk (b:Ent):xy (wz b)=b:=rfl
def kE (l:List Int):(l.map ql).map qE=l:=by simp [Function.comp_def,QjX]
def mSh (l:List Sh):(l.map eSh).map dSh=l:=by simp [Function.comp_def,dSh_e]
def W9 (l:List Ent):(l.map wz).map xy=l:=by simp [Function.comp_def,Qkk]
def QhN (l:List Int):qM (qG l)=l:=kE l
def Qki (l:List Sh):xC (wM l)=l:=mSh l
def xV (l:List (List Int)):(l.map qG).map qM=l:=by simp [Function.comp_def,QhN]
def Rn (l:List (List Sh)):(l.map wM).map xC=l:=by simp [Function.comp_def,Qki]
def ZG (l:List Int) (n:Nat):(l.map ql).getD n [.v (.int .i64 0)]=ql (l.getD n 0):=QH ql l n 0
def gSh (l:List Sh) (n:Nat):(l.map eSh).getD n [.v (.int .i64 0),.v (.int .i64 0)]=eSh (l.getD n default):=QH eSh l n default
def Qbs (l:List Ent) (n:Nat):(l.map wz).getD n [.v (.int .i64 0),.v (.int .i64 0),.v (.int .i64 0),.v (.int .i64 0),.v (.int .i64 0),.v (.int .i64 0)]=wz (l.getD n default):=QH wz l n default
def Xi (l:List (List Int)) (n:Nat):(l.map qG).getD n [.sl []]=qG (l.getD n []):=QH qG l n []
def gShs (l:List (List Sh)) (n:Nat):(l.map wM).getD n [.sl []]=wM (l.getD n []):=QH wM l n []
def JA (l:List Int):zu 1 (l.map ql)=True:=yX (f:=ql) (k:=1) (fun _=>rfl) l
def rSh (l:List Sh):zu 2 (l.map eSh)=True:=yX (f:=eSh) (k:=2) (fun _=>rfl) l
def YU (l:List Ent):zu 6 (l.map wz)=True:=yX (f:=wz) (k:=6) (fun _=>rfl) l
def kw (l:List (List Int)):zu 1 (l.map qG)=True:=yX (f:=qG) (k:=1) (fun _=>rfl) l
def YS (l:List (List Sh)):zu 1 (l.map wM)=True:=yX (f:=wM) (k:=1) (fun _=>rfl) l
def aI (n:Int):AV:=.v (.int .i64 n)
def aB (b:Bool):AV:=.v (.bool b)
def aSh (s:Sh):AV:=.agg [.v (.int .i64 s.num),.v (.int .i64 s.den)]
def Qt (x:Ent):AV:=.agg [.v (.int .i64 x.day),.v (.int .i64 x.kind),.v (.int .i64 x.coin),.v (.int .i64 x.to),.v (.int .i64 x.amount),.v (.int .i64 x.got)]
def qj (l:List Int):AV:=.sl (l.map ql)
def xB (l:List Sh):AV:=.sl (l.map eSh)
def qU (l:List (List Int)):AV:=.sl (l.map qG)
def qY (l:Led):List AV:=[.sl (l.coins.map qG),.sl (l.rates.map wM),.sl (l.start.map ql),.sl (l.entries.map wz)]
def zo (l:Led):AV:=.agg (qY l)
def shQ (q:Rat):Sh:=⟨q.num,q.den⟩
def Fn0 {fn:Func} {c:Code} {f:FuncId} (hf:prog.funcs[f]?=some fn) (hb:fn.body=some c) (he:∀ vs w,(callFunc f vs).run prog w=.ok (.enter f vs) w) (hd:kI fn.ntmps c=true):FnData prog tyB f fn c:=⟨Qfx,hf,hb,he,hd⟩
def qz {L:List (FuncId × Entry)} {A:Frm->Prop} (h:XI A prog L):Env A prog tyB (tab L):=⟨Qfx,Qj2 h,by kernel_rfl⟩
def z0 {a b:Int} (h:-9223372036854775808<=a+b/\a+b < 9223372036854775808):IntKind.wrap .i64 (a+b)=a+b:=wrap64 h.1 h.2
def inB (n a b:Int):Bool:=decide (a<=n) && decide (n<=b)
def s79:List AV->Prop × AV
 |[.v (.int .i64 n),.v (.int .i64 a),.v (.int .i64 b)]=>(True,aB (inB n a b))
 |_=>(False,.junk)
def Xt:=jw @ty3 @ti3.eq_1
def Y6:=jw @aI.eq_1 (jw @aB.eq_1 (jw @aSh.eq_1 (@shQ.eq_1)))
def in_fn (n a b:Int):FnV prog 122 [aI n,aI a,aI b] (aB (inB n a b)):=by
 have env:Env (fun _=>True) prog tyB (tab []):=qz trivial
 refine Fn.of (A:=fun _=>True) (n0:=0) (D:=noD) (Fn0 func122 rfl (fun vs w=>by kernel_rfl) (by kernel_rfl)) (by simp) (by simp [AV.ids,aI]) (fun i o h=>by cases h) (fun _ _ _ _=>trivial) zt ?_
 repeat' first|(apply nx;with_reducible constructor)|refine jq (by decide) ?_|((first|refine jz env fun Q hQ=>?_|refine jj fun Q hQ=>?_);simp only [vkt,seval,Xt,Y6];(try simp only [ite_and]);(repeat' (first|with_reducible assumption|refine ea ?_ ?_|intro hp));all_goals (first|(refine hQ _ ?_;clear hQ Q)|(refine hQ _ (fun h=>?_) (fun h=>?_) <;> clear hQ Q <;> (try simp only [vki,reduceCtorEq] at h))|omega|assumption|rfl|(refine jx ?_;kernel_rfl)|skip))
 all_goals (simp only [vrt,results122,vkt,seval,Y6];refine Fin.val rfl ?_;(try simp only [AV.le]))
 all_goals simp [inB, *]
def e79 {A:Frm->Prop}:qc A prog 122 (zD true s79):=qL fun vs _ h=>by
 unfold s79 at h ⊢;split at h
 ·exact ⟨trivial,fun _=>trivial,in_fn _ _ _⟩
 ·exact h.elim
def qR (n a b:Int):Int:=if n < a then 7 else if b < n then 6 else 0
def s78:List AV->Prop × AV
 |[.v (.int .i64 n),.v (.int .i64 a),.v (.int .i64 b)]=>(True,aI (qR n a b))
 |_=>(False,.junk)
def Jh:=jw @ty3 @ti3.eq_1
def QaT (n a b:Int):FnV prog 121 [aI n,aI a,aI b] (aI (qR n a b)):=by
 have env:Env (fun _=>True) prog tyB (tab []):=qz trivial
 refine Fn.of (A:=fun _=>True) (n0:=0) (D:=noD) (Fn0 func121 rfl (fun vs w=>by kernel_rfl) (by kernel_rfl)) (by simp) (by simp [AV.ids,aI]) (fun i o h=>by cases h) (fun _ _ _ _=>trivial) zt ?_
 repeat' first|(apply nx;with_reducible constructor)|refine jq (by decide) ?_|((first|refine jz env fun Q hQ=>?_|refine jj fun Q hQ=>?_);simp only [vkt,seval,Jh,Y6];(try simp only [ite_and]);(repeat' (first|with_reducible assumption|refine ea ?_ ?_|intro hp));all_goals (first|(refine hQ _ ?_;clear hQ Q)|(refine hQ _ (fun h=>?_) (fun h=>?_) <;> clear hQ Q <;> (try simp only [vki] at h))|omega|assumption|rfl|(refine jx ?_;kernel_rfl)|skip))
 all_goals (simp only [vrt,results121,vkt,seval,Y6];refine Fin.val rfl ?_;(try simp only [AV.le]))
 all_goals (unfold qR;simp [*])
 all_goals omega
def e78 {A:Frm->Prop}:qc A prog 121 (zD true s78):=qL fun vs _ h=>by
 unfold s78 at h ⊢;split at h
 ·exact ⟨trivial,fun _=>trivial,QaT _ _ _⟩
 ·exact h.elim
def QhG {a x:Int} (h:-9223372036854775807<=a) (h':a < 9223372036854775808):-9223372036854775807<=a.tdiv x:=by
 have h1:=dz a x;omega
def QiB {a x:Int} (h:-9223372036854775808 < a) (h':a < 9223372036854775808):a.tdiv x < 9223372036854775808:=by
 have h1:=dz a x;omega
def VW {a x:Int} (h:-9223372036854775808 < a) (h':a < 9223372036854775808):IntKind.wrap .i64 (a.tdiv x)=a.tdiv x:=by
 have h1:=dz a x;exact wrap64 (by omega) (by omega)
def Qfi {a x:Int} (hx:0 < x) (h:a.tmod x < 0):a.tdiv x - 1=a / x:=by
 have h1:=Int.mul_tdiv_add_tmod a x;have h2:=dn a x
 have h3:=cG a (show x ≠ 0 by omega)
 have h4:=cV a hx;have h5:-x < a.tmod x:=d6 a hx
 generalize a.tdiv x=p at *;generalize a / x=q at *
 have k1:x * (p - q) < x * 2:=by rw [cH];omega
 have k2:x * 0 < x * (p - q):=by rw [cH];omega
 have:=dC k1 (by omega)
 have:=dC k2 (by omega)
 omega
def QfR {a x:Int} (hx:0 < x) (h:¬ a.tmod x < 0):a.tdiv x=a / x:=by
 have h1:=Int.mul_tdiv_add_tmod a x;have h2:=dn a x
 have h3:=cG a (show x ≠ 0 by omega)
 have h4:=cV a hx;have h5:a.tmod x < x:=Int.tmod_lt_of_pos a hx
 generalize a.tdiv x=p at *;generalize a / x=q at *
 have k1:x * (p - q) < x * 1:=by rw [cH];omega
 have k2:x * (-1) < x * (p - q):=by rw [cH];omega
 have:=dC k1 (by omega)
 have:=dC k2 (by omega)
 omega
def Qcp {a d:Int} (h1:a<=1099511627776) (h2:-1099511627776<=a) (h3:d<=1048576) (h4:-1048576<=d):-1152921504606846976<=a * d/\a * d<=1152921504606846976:=by
 have h5:(a * d).natAbs<=1099511627776 * 1048576:=by rw [Int.natAbs_mul];exact cT (by omega) (by omega)
 omega
def VU {a d:Int} (h1:a<=1099511627776) (h2:-1099511627776<=a) (h3:0 < d) (h4:d<=1048576):-1152921504606846976<=a * d/\a * d<=1152921504606846976:=Qcp h1 h2 h4 (by omega)
def Qd2 (a b:Int):Prop:=-9223372036854775808 < a/\a < 9223372036854775808/\0 < b/\b < 9223372036854775808
def FlOk (q:Rat):Prop:=-9223372036854775807 < q.num/\q.num < 9223372036854775808/\(q.den:Int) < 9223372036854775808
def ofI (a b:Int):Type:={ p:Int × Int // 0<=p.1/\0<=p.2/\Nat.gcd p.1.toNat p.2.toNat=Nat.gcd a.natAbs b.toNat/\(0 < p.1\/0 < p.2) }
def ofS (a b x y:Int):St:={ t:=asg [(0,aI a),(1,aI b),(4,.ptr 0 0),(5,aI x),(6,aI y)],h:=qf [(0,.cells [.v (.int .i64 0),.v (.int .i64 0)])],n:=1 }
def Qs:=jw @ty3 (jw @xP (jw @ti3.eq_1 @vC.eq_1))
def Q4:=jw @aI.eq_1 (jw @aB.eq_1 (jw @aSh.eq_1 (jw @shQ.eq_1 (@ofS.eq_1))))
def of_fn (a b:Int) (hab:Qd2 a b):FnV prog 157 [aI a,aI b] (aSh (shQ (mkRat a b.toNat))):=by
 have env:Env (fun _=>True) prog tyB (tab []):=qz trivial
 refine Fn.of (A:=fun _=>True) (n0:=0) (D:=noD) (Fn0 func157 rfl (fun vs w=>by kernel_rfl) (by kernel_rfl)) (by simp) (by simp [AV.ids,aI]) (fun i o h=>by cases h) (fun _ _ _ _=>trivial) zt ?_
 obtain ⟨ha,ha',hb,hb'⟩:=hab;have hw:IntKind.wrap .i64 (0 - a)=-a:=by rw [wrap64 (by omega) (by omega)];omega
 repeat' first|(apply nx;with_reducible constructor)|refine jq (by decide) ?_|((first|refine jz env fun Q hQ=>?_|refine jj fun Q hQ=>?_);simp only [vkt,seval,Qs,Q4,hw];(try simp only [ite_and]);(repeat' (first|with_reducible assumption|refine ea ?_ ?_|intro hp));all_goals (first|(refine hQ _ ?_;clear hQ Q)|(refine hQ _ (fun h=>?_) (fun h=>?_) <;> clear hQ Q <;> (try simp only [vki,reduceCtorEq] at h))|omega|assumption|rfl|(refine jx ?_;kernel_rfl)|skip))
 refine qi (ι:=ofI a b) (fun p=>ofS a b p.1.1 p.1.2) (fun p=>p.1.2.toNat) ⟨(max a (-a),b),by omega,by omega,by congr 1;omega,.inr hb⟩ ?_ fun ⟨(x,y),h1,h2,h3,h4⟩=>?_
 ·(refine Le.ok some [] ?_;constructor;all_goals (try simp only [vle,vkt,seval,Q4]))
  all_goals simp
 ·dsimp only at h1 h2 h3 h4
  repeat' first|(apply nx;with_reducible constructor)|refine jq (by decide) ?_|((first|refine jz env fun Q hQ=>?_|refine jj fun Q hQ=>?_);simp only [vkt,seval,Qs,Q4];(try simp only [ite_and]);(repeat' (first|with_reducible assumption|refine ea ?_ ?_|intro hp));all_goals (first|(refine hQ _ ?_;clear hQ Q)|(refine hQ _ (fun h=>?_) (fun h=>?_) <;> clear hQ Q <;> (try simp only [vki] at h))|omega|assumption|rfl|(refine jx ?_;kernel_rfl)|skip))
  ·have hy:0 < y:=by simpa using h
   refine ⟨⟨(y,x.tmod y),by omega, ?_, ?_,.inl hy⟩, ?_, ?_⟩
   ·show 0<=x.tmod y
    rw [bX h1];exact cG _ (by omega)
   ·show Nat.gcd y.toNat (x.tmod y).toNat=_
    rw [<- h3,bX h1,Int.toNat_emod h1 h2,du y.toNat,<- Nat.gcd_rec,du]
   ·show (x.tmod y).toNat < y.toNat
    rw [bX h1];have:=cV x hy
    omega
   ·(refine Le.ok some [] ?_;constructor;all_goals (try simp only [vle,vkt,seval,Q4]))
    all_goals simp
  ·have hy:y=0:=by omega
   subst hy;have hg:x=((Nat.gcd a.natAbs b.toNat:Nat):Int):=by rw [<- h3];simp;omega
   have w1:=VW (x:=x) ha ha';have w2:=VW (x:=x) (show -9223372036854775808 < b by omega) hb'
   (simp only [vrt,results157,w1,w2,vkt,seval,Qs,Q4];refine Fin.val rfl ?_;(try simp only [AV.le,AV.leL]))
   rw [Ug hb,QbN hb,<- hg]
   simp
def QaK:List AV->Prop × AV
 |[.v (.int .i64 a),.v (.int .i64 b)]=>(Qd2 a b,aSh (shQ (mkRat a b.toNat)))
 |_=>(False,.junk)
def e139 {A:Frm->Prop}:qc A prog 157 (zD true QaK):=qL fun vs _ h=>by
 unfold QaK at h ⊢;split at h
 ·exact ⟨by simp [AV.plain,AV.plainL,aSh],fun _=>by simp [AV.flat,AV.flatL,aSh],of_fn _ _ h⟩
 ·exact h.elim
def QV:=jw @xP @vC.eq_1
def QgX (n:Int):FnV prog 111 [aI n] (aSh (shQ (n:Rat))):=by
 have env:=qz (A:=fun _=>True) kN
 refine kV (Fn0 func111 rfl (fun vs w=>by kernel_rfl) (by kernel_rfl)) (by simp) (by simp [AV.ids,aI]) ?_
 repeat' first|(apply nx;with_reducible constructor)|apply jq (by decide)|((first|apply jz env|apply jk);intro Q hQ;simp only [vkt,seval,QV,Q4,ite_and];(repeat' first|with_reducible assumption|apply jw|intro hp);all_goals first|(apply hQ;clear hQ Q)|omega|assumption|rfl|(apply jx;kernel_rfl)|skip)
 (simp only [vrt,results111,Rat.num_intCast,Rat.den_intCast,vkt,seval,QV,Q4];refine Fin.val rfl ?_;(try simp only [AV.le,AV.leL]))
 simp
def Ym:List AV->Prop × AV
 |[.v (.int .i64 a)]=>(True,aSh (shQ (a:Rat)))
 |_=>(False,.junk)
def Qe8 {A:Frm->Prop}:qc A prog 111 (zD true Ym):=qL fun vs _ h=>by
 unfold Ym at h ⊢;split at h
 ·exact ⟨by simp [AV.plain,AV.plainL,aSh],fun _=>by simp [AV.flat,AV.flatL,aSh],QgX _⟩
 ·exact h.elim
def isQ (a b:Int):Prop:=a=(mkRat a b.toNat).num/\b=((mkRat a b.toNat).den:Int)
def J9 (q:Rat):isQ q.num (q.den:Int)=True:=by simp [isQ,Rat.mkRat_self]
def ZW {a b:Int} (h:isQ a b):aSh (shQ (mkRat a b.toNat))=.agg [.v (.int .i64 a),.v (.int .i64 b)]:=by
 simp only [aSh,shQ];rw [<- h.1,<- h.2]
def qI (a b:Int):Rat:=mkRat a b.toNat
def Xr (q:Rat):qI q.num (q.den:Int)=q:=by simp [qI,Rat.mkRat_self]
def Xx:List AV->Prop × AV
 |[.agg [.v (.int .i64 a),.v (.int .i64 b)],.agg [.v (.int .i64 c),.v (.int .i64 d)]]=>(isQ a b/\isQ c d/\Sm (qI a b)/\Sm (qI c d),aSh (shQ (qI a b+qI c d)))
 |_=>(False,.junk)
def Xj:List AV->Prop × AV
 |[.agg [.v (.int .i64 a),.v (.int .i64 b)],.agg [.v (.int .i64 c),.v (.int .i64 d)]]=>(isQ a b/\isQ c d/\Sm (qI a b)/\Sm (qI c d),aSh (shQ (qI a b - qI c d)))
 |_=>(False,.junk)
def Tm (q:Rat) (n:Int):Prop:=Sm q/\n<=1048576/\-1048576<=n
def s99:List AV->Prop × AV
 |[.agg [.v (.int .i64 a),.v (.int .i64 b)],.v (.int .i64 n)]=>(isQ a b/\Tm (qI a b) n,aSh (shQ (qI a b * (n:Rat))))
 |_=>(False,.junk)
def Qeo:List AV->Prop × AV
 |[.agg [.v (.int .i64 a),.v (.int .i64 b)],.agg [.v (.int .i64 c),.v (.int .i64 d)]]=>(isQ a b/\isQ c d/\Sm (qI a b)/\Sm (qI c d)/\0 < (qI c d).num/\(qI c d).num<=1048576,aSh (shQ (qI a b / qI c d)))
 |_=>(False,.junk)
def s90:List AV->Prop × AV
 |[.agg [.v (.int .i64 a),.v (.int .i64 b)]]=>(isQ a b/\FlOk (qI a b),aI (qI a b).floor)
 |_=>(False,.junk)
def vP:=jw @ty3 (jw @xP (jw @ti3.eq_1 @vC.eq_1))
def vJ:=jw @aI.eq_1 (jw @aB.eq_1 (jw @aSh.eq_1 (jw @shQ.eq_1 (jw @QaK.eq_1 (jw @QaK.eq_2 (jw @Xx.eq_1 (jw @Xx.eq_2 (jw @Xj.eq_1 (jw @Xj.eq_2 (jw @s99.eq_1 (jw @s99.eq_2 (jw @Qeo.eq_1 (jw @Qeo.eq_2 (jw @J9 (@Xr)))))))))))))))
def Qh4 (q r:Rat) (hq:Sm q) (hr:Sm r):FnV prog 158 [aSh (shQ q),aSh (shQ r)] (aSh (shQ (q+r))):=by
 have env:=qz (A:=fun _=>True) (kC e139 kN)
 refine kV (Fn0 func158 rfl (fun vs w=>by kernel_rfl) (by kernel_rfl)) (by simp) (by simp [AV.ids,AV.idsL,aSh]) ?_
 have b1:=VU hq.1 hq.2.1 (wY r) (cU.2 hr.2.2);have b2:=VU hr.1 hr.2.1 (wY q) (cU.2 hq.2.2)
 have b3:=VU (a:=(q.den:Int)) (by have:=hq.2.2;omega) (by omega) (wY r) (cU.2 hr.2.2)
 have b4:=cE (wY q) (wY r);have w1:=wrap64 (n:=q.num * r.den) (by omega) (by omega)
 have w2:=wrap64 (n:=r.num * q.den) (by omega) (by omega)
 have w3:=wrap64 (n:=(q.den:Int) * r.den) (by omega) (by omega)
 have w4:=wrap64 (n:=q.num * r.den+r.num * q.den) (by omega) (by omega)
 have w5:Qd2 (q.num * r.den+r.num * q.den) ((q.den:Int) * r.den):=⟨by omega,by omega,by omega,by omega⟩
 repeat' first|(apply nx;with_reducible constructor)|apply jq (by decide)|((first|apply jz env|apply jk);intro Q hQ;simp only [vkt,seval,vP,vJ,w1,w2,w3,w4,Qko,ite_and];(repeat' first|with_reducible assumption|apply jw|intro hp);all_goals first|(apply hQ;clear hQ Q)|omega|assumption|rfl|(apply jx;kernel_rfl)|skip)
 (simp only [vrt,results158,vkt,seval,vP,vJ];refine Fin.val rfl ?_;(try simp only [AV.le,AV.leL]))
 simp
def e138 {A:Frm->Prop}:qc A prog 158 (zD true Xx):=qL fun vs _ h=>by
 unfold Xx at h ⊢;split at h
 ·refine ⟨by simp [AV.plain,AV.plainL,aSh],fun _=>by simp [AV.flat,AV.flatL,aSh], ?_⟩
  rw [<- ZW h.1,<- ZW h.2.1];exact Qh4 _ _ h.2.2.1 h.2.2.2
 ·exact h.elim
def QkO {q:Rat} (h:Sm q):Sm (-q):=by
 refine ⟨?_, ?_, ?_⟩
 ·rw [Rat.neg_num];have:=h.2.1;omega
 ·rw [Rat.neg_num];have:=h.1;omega
 ·rw [Rat.neg_den];exact h.2.2
def vF:=jw @ty3 (jw @xP (jw @ti3.eq_1 @vC.eq_1))
def Qha (q r:Rat) (hq:Sm q) (hr:Sm r):FnV prog 103 [aSh (shQ q),aSh (shQ r)] (aSh (shQ (q - r))):=by
 have env:=qz (A:=fun _=>True) (kC e138 kN)
 refine kV (Fn0 func103 rfl (fun vs w=>by kernel_rfl) (by kernel_rfl)) (by simp) (by simp [AV.ids,AV.idsL,aSh]) ?_
 have w1:IntKind.wrap .i64 (0 - r.num)=(-r).num:=by rw [wrap64 (by have:=hr.1;omega) (by have:=hr.2.1;omega),Rat.neg_num];omega
 have w2:(r.den:Int)=((-r).den:Int):=by rw [Rat.neg_den]
 have w3:=J9 (-r);have w4:=Xr (-r)
 rw [<- w2] at w3 w4;have w5:=QkO hr
 repeat' first|(apply nx;with_reducible constructor)|apply jq (by decide)|((first|apply jz env|apply jk);intro Q hQ;simp only [vkt,seval,vF,vJ,w1,w3,w4,ite_and];(repeat' first|with_reducible assumption|apply jw|intro hp);all_goals first|(apply hQ;clear hQ Q)|omega|assumption|rfl|(apply jx;kernel_rfl)|skip)
 (simp only [vrt,results103,Rat.sub_eq_add_neg,vkt,seval,vF,vJ];refine Fin.val rfl ?_;(try simp only [AV.le,AV.leL]))
 simp
def e100 {A:Frm->Prop}:qc A prog 103 (zD true Xj):=qL fun vs _ h=>by
 unfold Xj at h ⊢;split at h
 ·refine ⟨by simp [AV.plain,AV.plainL,aSh],fun _=>by simp [AV.flat,AV.flatL,aSh], ?_⟩
  rw [<- ZW h.1,<- ZW h.2.1];exact Qha _ _ h.2.2.1 h.2.2.2
 ·exact h.elim
def vL:=jw @ty3 (jw @xP (jw @ti3.eq_1 @vC.eq_1))
def QgA (q:Rat) (n:Int) (hq:Tm q n):FnV prog 102 [aSh (shQ q),aI n] (aSh (shQ (q * (n:Rat)))):=by
 have env:=qz (A:=fun _=>True) (kC e139 kN)
 refine kV (Fn0 func102 rfl (fun vs w=>by kernel_rfl) (by kernel_rfl)) (by simp) (by simp [AV.ids,AV.idsL,aSh,aI]) ?_
 obtain ⟨hq,hn,hn'⟩:=hq;have b1:-1152921504606846976<=q.num * n/\q.num * n<=1152921504606846976:=Qcp hq.1 hq.2.1 hn hn'
 have b2:=wY q;have b3:(q.den:Int)<=1048576:=cU.2 hq.2.2
 have w1:=wrap64 (n:=q.num * n) (by omega) (by omega)
 have w2:=Qgi q n;have w5:Qd2 (q.num * n) (q.den:Int):=⟨by omega,by omega,by omega,by omega⟩
 repeat' first|(apply nx;with_reducible constructor)|apply jq (by decide)|((first|apply jz env|apply jk);intro Q hQ;simp only [vkt,seval,vL,vJ,w1,ite_and];(repeat' first|with_reducible assumption|apply jw|intro hp);all_goals first|(apply hQ;clear hQ Q)|omega|assumption|rfl|(apply jx;kernel_rfl)|skip)
 (simp only [vrt,results102,<- Qgi,vkt,seval,vL,vJ];refine Fin.val rfl ?_;(try simp only [AV.le,AV.leL]))
 simp
def e99 {A:Frm->Prop}:qc A prog 102 (zD true s99):=qL fun vs _ h=>by
 unfold s99 at h ⊢;split at h
 ·refine ⟨by simp [AV.plain,AV.plainL,aSh],fun _=>by simp [AV.flat,AV.flatL,aSh], ?_⟩
  rw [<- ZW h.1];exact QgA _ _ h.2
 ·exact h.elim
def xU:=jw @ty3 (jw @xP (jw @ti3.eq_1 @vC.eq_1))
def by_fn (q r:Rat) (hq:Sm q) (hr:Sm r) (h0:0 < r.num) (h1:r.num<=1048576):FnV prog 160 [aSh (shQ q),aSh (shQ r)] (aSh (shQ (q / r))):=by
 have env:=qz (A:=fun _=>True) (kC e139 kN)
 refine kV (Fn0 func160 rfl (fun vs w=>by kernel_rfl) (by kernel_rfl)) (by simp) (by simp [AV.ids,AV.idsL,aSh]) ?_
 have b1:=VU hq.1 hq.2.1 (wY r) (cU.2 hr.2.2);have b3:=VU (a:=(q.den:Int)) (by have:=hq.2.2;omega) (by omega) h0 h1
 have b4:=cE (wY q) h0;have w1:=wrap64 (n:=q.num * r.den) (by omega) (by omega)
 have w3:=wrap64 (n:=(q.den:Int) * r.num) (by omega) (by omega)
 have w4:=Qgo q r h0;have w5:Qd2 (q.num * r.den) ((q.den:Int) * r.num):=⟨by omega,by omega,by omega,by omega⟩
 repeat' first|(apply nx;with_reducible constructor)|apply jq (by decide)|((first|apply jz env|apply jk);intro Q hQ;simp only [vkt,seval,xU,vJ,w1,w3,w4,ite_and];(repeat' first|with_reducible assumption|apply jw|intro hp);all_goals first|(apply hQ;clear hQ Q)|omega|assumption|rfl|(apply jx;kernel_rfl)|skip)
 (simp only [vrt,results160,vkt,seval,xU,vJ];refine Fin.val rfl ?_;(try simp only [AV.le,AV.leL]))
 simp
def e135 {A:Frm->Prop}:qc A prog 160 (zD true Qeo):=qL fun vs _ h=>by
 unfold Qeo at h ⊢;split at h
 ·refine ⟨by simp [AV.plain,AV.plainL,aSh],fun _=>by simp [AV.flat,AV.flatL,aSh], ?_⟩
  rw [<- ZW h.1,<- ZW h.2.1];exact by_fn _ _ h.2.2.1 h.2.2.2.1 h.2.2.2.2.1 h.2.2.2.2.2
 ·exact h.elim
def Zb:=jw @ty3 (jw @xP (jw @ti3.eq_1 @vC.eq_1))
def Qf1 (q:Rat) (hq:FlOk q):FnV prog 110 [aSh (shQ q)] (aI q.floor):=by
 have env:Env (fun _=>True) prog tyB (tab []):=qz trivial
 refine Fn.of (A:=fun _=>True) (n0:=0) (D:=noD) (Fn0 func110 rfl (fun vs w=>by kernel_rfl) (by kernel_rfl)) (by simp) (by simp [AV.ids,AV.idsL,aSh]) (fun i o h=>by cases h) (fun _ _ _ _=>trivial) zt ?_
 obtain ⟨h1,h2,h3⟩:=hq;have hd:=wY q
 have w1:IntKind.wrap .i64 (q.num.tdiv q.den)=q.num.tdiv q.den:=VW (by omega) h2
 have hd0:(q.den:Int) ≠ 0:=by omega
 repeat' first|(apply nx;with_reducible constructor)|refine jq (by decide) ?_|((first|refine jz env fun Q hQ=>?_|refine jj fun Q hQ=>?_);simp only [vkt,seval,Zb,vJ,w1];(try simp only [ite_and]);(repeat' (first|with_reducible assumption|refine ea ?_ ?_|intro hp));all_goals (first|(refine hQ _ ?_;clear hQ Q)|(refine hQ _ (fun h=>?_) (fun h=>?_) <;> clear hQ Q <;> (try simp only [vki] at h))|omega|assumption|rfl|(refine jx ?_;kernel_rfl)|skip))
 ·have e1:q.floor=q.num.tdiv q.den - 1:=by rw [Rat.floor_def];exact (Qfi hd h).symm
  have w2:IntKind.wrap .i64 (q.num.tdiv q.den - 1)=q.floor:=by rw [e1,wrap64 (by have:=QhG (x:=(q.den:Int)) (by omega) h2;omega) (by have:=QiB (x:=(q.den:Int)) (show -9223372036854775808 < q.num by omega) h2;omega)]
  (simp only [vrt,results110,w2,vkt,seval,vJ];refine Fin.val rfl ?_;(try simp only [AV.le]))
  all_goals simp
 ·have e1:q.floor=q.num.tdiv q.den:=by rw [Rat.floor_def];exact (QfR hd h).symm
  (simp only [vrt,results110,<- e1,vkt,seval,vJ];refine Fin.val rfl ?_;(try simp only [AV.le]))
  all_goals simp
def e90 {A:Frm->Prop}:qc A prog 110 (zD true s90):=qL fun vs _ h=>by
 unfold s90 at h ⊢;split at h
 ·refine ⟨by simp [AV.plain,aI],fun _=>by simp [AV.flat,aI], ?_⟩
  rw [<- ZW h.1];exact Qf1 _ h.2
 ·exact h.elim
def zS:List Int->Int
 |[]=>0
 |e :: r=>if e=0 then zS r else e
structure FI (E:List Int) where
 k:Nat
 le:k<=E.length
 eq:zS (E.drop k)=zS E
 all:∀ j,j < k->E.getD j 0=0
def KG {E:List Int} {k:Nat} (h:k < E.length):zS (E.drop k)=if E.getD k 0=0 then zS (E.drop (k+1)) else E.getD k 0:=by
 rw [dh h,zS]
 simp [ah,al h]
def Qeb {E:List Int} {k:Nat} (h:E.length<=k):zS (E.drop k)=0:=by rw [dR h];rfl
def errs (n:Nat) (f:Nat->Int):List Int:=(List.range n).map f
def jD (n:Nat) (f:Nat->Int):(errs n f).length=n:=by simp [errs]
def QF {n k:Nat} (f:Nat->Int) (h:k < n):(errs n f).getD k 0=f k:=by simp [errs,ah,h]
def FI.hit {n:Nat} {f:Nat->Int} (i:FI (errs n f)) (h:i.k < n) (h0:f i.k ≠ 0):zS (errs n f)=f i.k:=by
 rw [<- i.eq,KG (by rw [jD];exact h),QF f h,if_neg h0]
def FI.last {n:Nat} {f:Nat->Int} (i:FI (errs n f)) (h:n<=i.k):zS (errs n f)=0:=by
 rw [<- i.eq,Qeb (by rw [jD];exact h)]
def FI.zero (E:List Int):FI E:=⟨0,af _,by simp,fun j h=>absurd h (cR _)⟩
def FI.next {n:Nat} {f:Nat->Int} (i:FI (errs n f)) (h:i.k < n) (h0:f i.k=0):FI (errs n f):=⟨i.k+1,by rw [jD];exact h,by rw [<- i.eq,KG (k:=i.k) (by rw [jD];exact h),QF f h,if_pos h0],fun j hj=>by
 rcases bz (bY hj) with h1|h1
 ·exact i.all j h1
 ·rw [h1,QF f h,h0]⟩
structure EQ {α:Type} (a b:List α) where
 k:Nat
 le:k<=a.length
 len:a.length=b.length
 eq:a.take k=b.take k
def EQ.differ {α:Type} {a b:List α} (i:EQ a b) {d:α} (hn:a.getD i.k d ≠ b.getD i.k d):a ≠ b:=fun e=>hn (congrArg (fun l=>l.getD i.k d) e)
def EQ.next {α:Type} {a b:List α} (i:EQ a b) {d:α} (h:i.k < a.length) (he:a.getD i.k d=b.getD i.k d):EQ a b:=⟨i.k+1,h,i.len,by
 have h':i.k < b.length:=by rw [<- i.len];exact h
 rw [cS h,cS h',i.eq]
 simp [ah,al h,al h'] at he
 rw [he]⟩
def EQ.last {α:Type} {a b:List α} (i:EQ a b) (h:a.length<=i.k):a=b:=by
 have:=i.eq
 rwa [bb h,bb (by rw [<- i.len];exact h)] at this
def eqiS (a b:List Int) (k:Nat):St:={ t:=asg [(0,qj a),(1,qj b),(4,aB false),(5,aI k)],h:=qf [],n:=0 }
def xO:=jw @ty3 (jw @jK (jw @ti3.eq_1 @jr.eq_1))
def Ze:=jw @aI.eq_1 (jw @aB.eq_1 (jw @qj.eq_1 (jw @qU.eq_1 (jw @ZG (jw @Xi (jw @ql.eq_1 (jw @qG.eq_1 (@eqiS.eq_1))))))))
def Qda (a b:List Int) (hl:a.length<=maxLen):FnV prog 60 [qj a,qj b] (aB (decide (a=b))):=by
 have env:Env (fun _=>True) prog tyB (tab []):=qz trivial
 refine Fn.of (A:=fun _=>True) (n0:=0) (D:=noD) (Fn0 func60 rfl (fun vs w=>by kernel_rfl) (by kernel_rfl)) (by simp) (by simp [AV.ids,qj]) (fun i o h=>by cases h) (fun _ _ _ _=>trivial) zt ?_
 repeat' first|(apply nx;with_reducible constructor)|refine jq (by decide) ?_|((first|refine jz env fun Q hQ=>?_|refine jj fun Q hQ=>?_);simp only [vkt,seval,xO,Ze];(try simp only [ite_and]);(repeat' (first|with_reducible assumption|refine ea ?_ ?_|intro hp));all_goals (first|(refine hQ _ ?_;clear hQ Q)|(refine hQ _ (fun h=>?_) (fun h=>?_) <;> clear hQ Q <;> (try simp only [vki] at h))|omega|assumption|rfl|(refine jx ?_;kernel_rfl)|skip))
 ·(simp only [vrt,results60,vkt,seval,Ze];refine Fin.val rfl ?_;(try simp only [AV.le]))
  all_goals (simp;intro e;subst e;omega)
 ·have hab:a.length=b.length:=by omega
  refine qi (ι:=EQ a b) (fun i=>eqiS a b i.k) (fun i=>a.length - i.k) ⟨0,af _,hab,by simp⟩ ?_ fun i=>?_
  ·(refine Le.ok some [] ?_;constructor;all_goals (try simp only [vle,vkt,seval,Ze]))
   all_goals simp
  ·have hk:=i.le
   have hk2:=i.len
   repeat' first|(apply nx;with_reducible constructor)|refine jq (by decide) ?_|((first|refine jz env fun Q hQ=>?_|refine jj fun Q hQ=>?_);simp only [vkt,seval,xO,Ze];(try simp only [ite_and]);(repeat' (first|with_reducible assumption|refine ea ?_ ?_|intro hp));all_goals (first|(refine hQ _ ?_;clear hQ Q)|(refine hQ _ (fun h=>?_) (fun h=>?_) <;> clear hQ Q <;> (try simp only [vki] at h))|omega|assumption|rfl|(refine jx ?_;kernel_rfl)|skip))
   ·(simp only [vrt,results60,vkt,seval,Ze];refine Fin.val rfl ?_;(try simp only [AV.le]))
    all_goals (simp;exact i.differ (d:=0) (by simpa using ‹_›))
   ·have hlt:i.k < a.length:=by omega
    have he:a.getD i.k 0=b.getD i.k 0:=by simpa using ‹_›
    have e1:=qP hlt hl;refine ⟨i.next hlt he,by show a.length - (i.k+1) < _;omega, ?_⟩
    (refine Le.ok some [] ?_;constructor;all_goals (try simp only [vle,vkt,seval,Ze]))
    all_goals simp [EQ.next,e1]
   ·(simp only [vrt,results60,vkt,seval,Ze];refine Fin.val rfl ?_;(try simp only [AV.le]))
    all_goals (simp;exact i.last (by omega))
def slT {α β:Type} (f:α->β) (l:List α) (n:Nat):List.take n (List.map f l)=List.map f (List.take n l):=by rw [List.map_take]
def slD {α β:Type} (f:α->β) (l:List α) (n:Nat):List.drop n (List.map f l)=List.map f (List.drop n l):=by rw [bA]
def QjH {α:Type} (l:List α) (m k:Nat) (d:α):(l.drop m).getD k d=l.getD (m+k) d:=by simp [ah]
def jb {α:Type} {l:List α} {k:Nat} {d:α} (h:k < l.length):l.getD k d ∈ l:=by
 rw [ah,al h];exact bF h
def Vh:(20:Nat)<=maxLen:=by decide
def QgB:(1000:Nat)<=maxLen:=by decide
def s26:List AV->Prop × AV
 |[.sl xs,.sl ys]=>(xs=(xs.map qE).map ql/\ys=(ys.map qE).map ql/\xs.length<=maxLen,aB (decide (xs.map qE=ys.map qE)))
 |_=>(False,.junk)
def e26 {A:Frm->Prop}:qc A prog 60 (zD true s26):=qL fun vs hv h=>by
 clear hv;unfold s26 at h ⊢
 split at h
 ·rename_i xs ys
  refine ⟨trivial,fun _=>trivial, ?_⟩
  have:=Qda (xs.map qE) (ys.map qE) (by simpa using h.2.2)
  rwa [qj,<- h.1,qj,<- h.2.1] at this
 ·exact h.elim
def eqrS (a b:List (List Int)) (k:Nat):St:={ t:=asg [(0,qU a),(1,qU b),(4,aB false),(5,aI k)],h:=qf [],n:=0 }
def yG:=jw @ty3 (jw @jK (jw @Zv (jw @ti3.eq_1 (jw @jr.eq_1 @Qo.eq_1))))
def Qm:=jw @aI.eq_1 (jw @aB.eq_1 (jw @qj.eq_1 (jw @qU.eq_1 (jw @ZG (jw @Xi (jw @ql.eq_1 (jw @qG.eq_1 (jw @eqrS.eq_1 (jw @s26.eq_1 (jw @s26.eq_2 (@kE)))))))))))
def Qdi (a b:List (List Int)) (hl:a.length<=maxLen) (hm:∀ p ∈ a,p.length<=maxLen):FnV prog 61 [qU a,qU b] (aB (decide (a=b))):=by
 have env:Env (fun _=>True) prog tyB (tab [(60,zD true s26)]):=qz ⟨e26,trivial⟩
 refine Fn.of (A:=fun _=>True) (n0:=0) (D:=noD) (Fn0 func61 rfl (fun vs w=>by kernel_rfl) (by kernel_rfl)) (by simp) (by simp [AV.ids,qU]) (fun i o h=>by cases h) (fun _ _ _ _=>trivial) zt ?_
 repeat' first|(apply nx;with_reducible constructor)|refine jq (by decide) ?_|((first|refine jz env fun Q hQ=>?_|refine jj fun Q hQ=>?_);simp only [vkt,seval,yG,Qm];(try simp only [ite_and]);(repeat' (first|with_reducible assumption|refine ea ?_ ?_|intro hp));all_goals (first|(refine hQ _ ?_;clear hQ Q)|(refine hQ _ (fun h=>?_) (fun h=>?_) <;> clear hQ Q <;> (try simp only [vki] at h))|omega|assumption|rfl|(refine jx ?_;kernel_rfl)|skip))
 ·(simp only [vrt,results61,vkt,seval,Qm];refine Fin.val rfl ?_;(try simp only [AV.le]))
  all_goals (simp;intro e;subst e;omega)
 ·have hab:a.length=b.length:=by omega
  refine qi (ι:=EQ a b) (fun i=>eqrS a b i.k) (fun i=>a.length - i.k) ⟨0,af _,hab,by simp⟩ ?_ fun i=>?_
  ·(refine Le.ok some [] ?_;constructor;all_goals (try simp only [vle,vkt,seval,Qm]))
   all_goals simp
  ·have hk:=i.le
   have hk2:=i.len;have hp:i.k < a.length->(a.getD i.k []).length<=maxLen:=fun h=>hm _ (jb h)
   repeat' first|(apply nx;with_reducible constructor)|refine jq (by decide) ?_
   (refine jz env fun Q hQ=>?_;simp only [vkt,seval,yG,Qm];(try simp only [ite_and]);(repeat' (first|with_reducible assumption|refine ea ?_ ?_|intro hp));all_goals (first|(refine hQ _ ?_;clear hQ Q)|omega|assumption|rfl|(refine jx ?_;kernel_rfl)|skip))
   repeat' first|(apply nx;with_reducible constructor)|refine jq (by decide) ?_
   (refine zg (by simp only [vkt,seval];rfl) (fun h=>?_) (fun h=>?_) <;> (try simp only [vki] at h))
   ·have hlt:i.k < a.length:=by omega
    have hp:=hp hlt
    repeat' first|(apply nx;with_reducible constructor)|refine jq (by decide) ?_|((first|refine jz env fun Q hQ=>?_|refine jj fun Q hQ=>?_);simp only [vkt,seval,yG,Qm];(try simp only [ite_and]);(repeat' (first|with_reducible assumption|refine ea ?_ ?_|intro hp));all_goals (first|(refine hQ _ ?_;clear hQ Q)|(refine hQ _ (fun h=>?_) (fun h=>?_) <;> clear hQ Q <;> (try simp only [vki] at h))|omega|assumption|rfl|(refine jx ?_;kernel_rfl)|skip))
    ·(simp only [vrt,results61,vkt,seval,Qm];refine Fin.val rfl ?_;(try simp only [AV.le]))
     all_goals (simp;exact i.differ (d:=[]) (by simpa using ‹_›))
    ·have he:a.getD i.k []=b.getD i.k []:=by simpa using ‹_›
     have e1:=qP hlt hl;refine ⟨i.next hlt he,by show a.length - (i.k+1) < _;omega, ?_⟩
     (refine Le.ok some [] ?_;constructor;all_goals (try simp only [vle,vkt,seval,Qm]))
     all_goals simp [EQ.next,e1]
   ·repeat' first|(apply nx;with_reducible constructor)|refine jq (by decide) ?_|((first|refine jz env fun Q hQ=>?_|refine jj fun Q hQ=>?_);simp only [vkt,seval];(try simp only [ite_and]);(repeat' (first|with_reducible assumption|refine ea ?_ ?_|intro hp));all_goals (first|(refine hQ _ ?_;clear hQ Q)|(refine hQ _ (fun h=>?_) (fun h=>?_) <;> clear hQ Q <;> (try simp only [vki,reduceCtorEq] at h))|omega|assumption|rfl|(refine jx ?_;kernel_rfl)|skip))
    (simp only [vrt,results61,vkt,seval,Qm];refine Fin.val rfl ?_;(try simp only [AV.le]))
    all_goals (simp;exact i.last (by omega))
def Qw (p:List Int) (i:Nat):Int:=if 50 < p.getD (1+i) 0 then 1 else if p.getD (1+i) 0<=p.getD i 0 then 5 else 0
def Qi (p:List Int):Int:=if qR p.length 1 4 ≠ 0 then qR p.length 1 4 else if p.getD 0 0 ≠ 1 then 1 else zS (errs (p.length - 1) (Qw p))
def Qjm (p:List Int) (k:Nat):St:={ t:=asg [(0,qj p),(2,aI 0),(17,qj (p.drop 1)),(18,aI ((p.length - 1:Nat):Int)),(19,aI k)],h:=qf [],n:=0 }
def yo:=jw @ty3 (jw @jK (jw @WU (jw @ti3.eq_1 (jw @jr.eq_1 @Zy.eq_1))))
def xk:=jw @aI.eq_1 (jw @aB.eq_1 (jw @qj.eq_1 (jw @ZG (jw @ql.eq_1 (jw @s78.eq_1 (jw @s78.eq_2 (jw @Qjm.eq_1 (jw @slT (jw @slD (jw @QjH (@JA)))))))))))
def Qit (p:List Int) (hl:p.length<=maxLen):FnV prog 125 [qj p] (aI (Qi p)):=by
 have env:Env (fun _=>True) prog tyB (tab [(121,zD true s78)]):=qz ⟨e78,trivial⟩
 refine Fn.of (A:=fun _=>True) (n0:=0) (D:=noD) (Fn0 func125 rfl (fun vs w=>by kernel_rfl) (by kernel_rfl)) (by simp) (by simp [AV.ids,qj]) (fun i o h=>by cases h) (fun _ _ _ _=>trivial) zt ?_
 have hc:qR p.length 1 4=0->1<=p.length/\p.length<=4:=fun h=>by unfold qR at h;split at h <;> simp at h;omega
 by_cases h0:qR p.length 1 4=0
 ·have hc:=hc h0
  repeat' first|(apply nx;with_reducible constructor)|refine jq (by decide) ?_|((first|refine jz env fun Q hQ=>?_|refine jj fun Q hQ=>?_);simp only [vkt,seval,yo,xk,bx,be,h0];(try simp only [ite_and]);(repeat' (first|with_reducible assumption|refine ea ?_ ?_|intro hp));all_goals (first|(refine hQ _ ?_;clear hQ Q)|(refine hQ _ (fun h=>?_) (fun h=>?_) <;> clear hQ Q <;> (try simp only [vki,reduceCtorEq] at h))|omega|assumption|rfl|(refine jx ?_;kernel_rfl)|skip))
  ·(simp only [vrt,results125,vkt,seval,xk];refine Fin.val rfl ?_;(try simp only [AV.le]))
   all_goals (unfold Qi;simp [-List.getD_eq_getElem?_getD, *])
  ·have hp1:p.getD 0 0=1:=by assumption
   refine qi (ι:=FI (errs (p.length - 1) (Qw p))) (fun i=>Qjm p i.k) (fun i=>p.length - i.k) (FI.zero _) ?_ fun i=>?_
   ·(refine Le.ok some [] ?_;constructor;all_goals (try simp only [vle,vkt,seval,xk]))
    all_goals simp [FI.zero]
   ·have hk:=i.le
    rw [jD] at hk
    repeat' first|(apply nx;with_reducible constructor)|refine jq (by decide) ?_|((first|refine jz env fun Q hQ=>?_|refine jj fun Q hQ=>?_);simp only [vkt,seval,yo,xk,be];(try simp only [ite_and]);(repeat' (first|with_reducible assumption|refine ea ?_ ?_|intro hp));all_goals (first|(refine hQ _ ?_;clear hQ Q)|(refine hQ _ (fun h=>?_) (fun h=>?_) <;> clear hQ Q <;> (try simp only [vki] at h))|omega|assumption|rfl|(refine jx ?_;kernel_rfl)|skip))
    ·(simp only [vrt,results125,vkt,seval,xk];refine Fin.val rfl ?_;(try simp only [AV.le]))
     all_goals (unfold Qi;rw [i.hit (by omega) (by unfold Qw;simp [-List.getD_eq_getElem?_getD, *])];unfold Qw;simp [-List.getD_eq_getElem?_getD, *])
    ·(simp only [vrt,results125,vkt,seval,xk];refine Fin.val rfl ?_;(try simp only [AV.le]))
     all_goals (unfold Qi;rw [i.hit (by omega) (by unfold Qw;simp [-List.getD_eq_getElem?_getD, *])];unfold Qw;simp [-List.getD_eq_getElem?_getD, *])
    ·have hlt:i.k < p.length - 1:=by omega
     have e1:=qP hlt (show p.length - 1<=maxLen by omega)
     refine ⟨i.next hlt (by unfold Qw;simp [-List.getD_eq_getElem?_getD, *]),by show p.length - (i.k+1) < _;omega, ?_⟩
     (refine Le.ok some [] ?_;constructor;all_goals (try simp only [vle,vkt,seval,xk]))
     all_goals simp [FI.next,e1]
    ·(simp only [vrt,results125,vkt,seval,xk];refine Fin.val rfl ?_;(try simp only [AV.le]))
     all_goals (unfold Qi;rw [i.last (by omega)];simp [-List.getD_eq_getElem?_getD, *])
 ·repeat' first|(apply nx;with_reducible constructor)|refine jq (by decide) ?_|((first|refine jz env fun Q hQ=>?_|refine jj fun Q hQ=>?_);simp only [vkt,seval,yo,xk,h0];(try simp only [ite_and]);(repeat' (first|with_reducible assumption|refine ea ?_ ?_|intro hp));all_goals (first|(refine hQ _ ?_;clear hQ Q)|(refine hQ _ (fun h=>?_) (fun h=>?_) <;> clear hQ Q <;> (try simp only [reduceCtorEq] at h))|omega|assumption|rfl|(refine jx ?_;kernel_rfl)|skip))
  (simp only [vrt,results125,vkt,seval,xk];refine Fin.val rfl ?_;(try simp only [AV.le]))
  all_goals (unfold Qi;simp [-List.getD_eq_getElem?_getD,h0])
def s110:List AV->Prop × AV
 |[.sl xs]=>(xs=(xs.map qE).map ql/\xs.length<=maxLen,aI (Qi (xs.map qE)))
 |_=>(False,.junk)
def e110 {A:Frm->Prop}:qc A prog 125 (zD true s110):=qL fun vs hv h=>by
 clear hv;unfold s110 at h ⊢
 split at h
 ·rename_i xs
  refine ⟨trivial,fun _=>trivial, ?_⟩
  have:=Qit (xs.map qE) (by simpa using h.2)
  rwa [qj,<- h.1] at this
 ·exact h.elim
def shE (s:Sh):Int:=if !inB s.num 1 20 then 1 else if !inB s.den 1 12 then 1 else if s ≠ shQ (mkRat s.num s.den.toNat) then 8 else 0
def YE (r:List Sh) (i:Nat):Int:=shE (r.getD (1+i) default)
def yw (r:List Sh) (n:Int):Int:=if (r.length:Int) ≠ n then 2 else if r.getD 0 default ≠ ⟨1,1⟩ then 1 else zS (errs (r.length - 1) (YE r))
def Qes (r:List Sh) (n:Int) (k:Nat):St:={ t:=asg [(0,xB r),(1,aI n),(4,aI 0),(17,xB (r.drop 1)),(18,aI ((r.length - 1:Nat):Int)),(19,aI k)],h:=qf [],n:=0 }
def QeR (s:Sh) (a b:Int):(s=(⟨a,b⟩:Sh)) ↔ s.num=a/\s.den=b:=by cases s;simp
def wZ:=jw @ty3 (jw @xW (jw @QL (jw @xP (jw @ti3.eq_1 (jw @vD.eq_1 (jw @xS.eq_1 @vC.eq_1))))))
def yl:=jw @aI.eq_1 (jw @aB.eq_1 (jw @xB.eq_1 (jw @gSh (jw @eSh.eq_1 (jw @s79.eq_1 (jw @s79.eq_2 (jw @Ym.eq_1 (jw @Ym.eq_2 (jw @QaK.eq_1 (jw @QaK.eq_2 (jw @Qes.eq_1 (jw @slT (jw @slD (jw @QjH (jw @rSh (jw @aSh.eq_1 (@shQ.eq_1)))))))))))))))))
def Qfz (r:List Sh) (n:Int) (hl:r.length<=maxLen) (hn:1<=n):FnV prog 126 [xB r,aI n] (aI (yw r n)):=by
 have env:Env (fun _=>True) prog tyB (tab [(122,zD true s79),(111,zD true Ym),(157,zD true QaK)]):=qz ⟨e79,Qe8,e139,trivial⟩
 refine Fn.of (A:=fun _=>True) (n0:=0) (D:=noD) (Fn0 func126 rfl (fun vs w=>by kernel_rfl) (by kernel_rfl)) (by simp) (by simp [AV.ids,xB,aI]) (fun i o h=>by cases h) (fun _ _ _ _=>trivial) zt ?_
 have en1:((1:Int):Rat).num=1:=by decide
 have en2:((1:Int):Rat).den=1:=by decide
 have eqs:∀ s:Sh,(s=(⟨1,1⟩:Sh)) ↔ s.num=1/\s.den=1:=fun s=>QeR s 1 1
 repeat' first|(apply nx;with_reducible constructor)|refine jq (by decide) ?_|((first|refine jz env fun Q hQ=>?_|refine jj fun Q hQ=>?_);simp only [vkt,seval,wZ,yl,bx,be,en1,en2];(try simp only [ite_and]);(repeat' (first|with_reducible assumption|refine ea ?_ ?_|intro hp));all_goals (first|(refine hQ _ ?_;clear hQ Q)|(refine hQ _ (fun h=>?_) (fun h=>?_) <;> clear hQ Q <;> (try simp only [vki] at h))|omega|assumption|rfl|(refine jx ?_;kernel_rfl)|skip))
 ·(simp only [vrt,results126,vkt,seval,yl];refine Fin.val rfl ?_;(try simp only [AV.le]))
  all_goals (unfold yw;simp [-List.getD_eq_getElem?_getD, *])
 ·(simp only [vrt,results126,vkt,seval,yl];refine Fin.val rfl ?_;(try simp only [AV.le]))
  all_goals (unfold yw;rw [if_neg (by simp;omega),if_pos (by rw [ne_eq,eqs];simp at *;omega)])
 ·have hr1:r.getD 0 default=⟨1,1⟩:=by rw [eqs];simpa using ‹_/\_›
  have hlen:(r.length:Int)=n:=by assumption
  refine qi (ι:=FI (errs (r.length - 1) (YE r))) (fun i=>Qes r n i.k) (fun i=>r.length - i.k) (FI.zero _) ?_ fun i=>?_
  ·(refine Le.ok some [] ?_;constructor;all_goals (try simp only [vle,vkt,seval,yl]))
   all_goals simp [FI.zero]
  ·have hk:=i.le
   rw [jD] at hk;have out:∀ e,YE r i.k=e->e ≠ 0->i.k < r.length - 1->yw r n=e:=fun e he h0 hlt=>by
    unfold yw;rw [if_neg (by simp;omega),if_neg (by rw [hr1];simp),i.hit hlt (by rw [he];exact h0),he]
   have last:r.length - 1<=i.k->yw r n=0:=fun h=>by
    unfold yw;rw [if_neg (by simp;omega),if_neg (by rw [hr1];simp),i.last h]
   have hnext:(h1:YE r i.k=0)->(hlt:i.k < r.length - 1)->∃ i':FI (errs (r.length - 1) (YE r)),r.length - i'.k < r.length - i.k/\i'.k=i.k+1:=fun h1 hlt=>⟨i.next hlt h1,by show r.length - (i.k+1) < _;omega,rfl⟩
   have e1:i.k < r.length - 1->IntKind.wrap .i64 ((i.k:Int)+1)=((i.k+1:Nat):Int):=fun hlt=>qP hlt (by omega)
   unfold YE at out hnext;generalize hs:r.getD (1+i.k) default=s at *
   by_cases c1:inB s.num 1 20=true
   ·by_cases c2:inB s.den 1 12=true
    ·have hro:Qd2 s.num s.den:=by simp [inB] at c1 c2;exact ⟨by omega,by omega,by omega,by omega⟩
     repeat' first|(apply nx;with_reducible constructor)|refine jq (by decide) ?_|((first|refine jz env fun Q hQ=>?_|refine jj fun Q hQ=>?_);simp only [vkt,seval,wZ,yl,be,hs,c1,c2];(try simp only [ite_and]);(repeat' (first|with_reducible assumption|refine ea ?_ ?_|intro hp));all_goals (first|(refine hQ _ ?_;clear hQ Q)|(refine hQ _ (fun h=>?_) (fun h=>?_) <;> clear hQ Q <;> (try simp only [vki,reduceCtorEq] at h))|omega|assumption|rfl|(refine jx ?_;kernel_rfl)|skip))
     ·(simp only [vrt,results126,vkt,seval,yl];refine Fin.val rfl ?_;(try simp only [AV.le]))
      all_goals rw [out 8 (by unfold shE;rw [c1,c2,if_neg (by simp),if_neg (by simp),if_pos (by rw [ne_eq,QeR];show ¬(_=(mkRat _ _).num/\_=((mkRat _ _).den:Int));omega)]) (by decide) (by omega)]
     ·obtain ⟨i',g1,g2⟩:=hnext (by unfold shE;rw [c1,c2,if_neg (by simp),if_neg (by simp),if_neg (by rw [ne_eq,Decidable.not_not,QeR];show (_=(mkRat _ _).num/\_=((mkRat _ _).den:Int));omega)]) (by omega)
      have e1:=e1 (by omega)
      refine ⟨i',g1, ?_⟩
      rw [g2]
      (refine Le.ok some [] ?_;constructor;all_goals (try simp only [vle,vkt,seval,yl]))
      all_goals simp [e1]
     ·(simp only [vrt,results126,vkt,seval,yl];refine Fin.val rfl ?_;(try simp only [AV.le]))
      all_goals rw [last (by omega)]
    ·have c2:inB s.den 1 12=false:=by simpa using c2
     repeat' first|(apply nx;with_reducible constructor)|refine jq (by decide) ?_|((first|refine jz env fun Q hQ=>?_|refine jj fun Q hQ=>?_);simp only [vkt,seval,wZ,yl,be,hs,c1,c2];(try simp only [ite_and]);(repeat' (first|with_reducible assumption|refine ea ?_ ?_|intro hp));all_goals (first|(refine hQ _ ?_;clear hQ Q)|(refine hQ _ (fun h=>?_) (fun h=>?_) <;> clear hQ Q <;> (try simp only [vki,reduceCtorEq] at h))|omega|assumption|rfl|(refine jx ?_;kernel_rfl)|skip))
     ·(simp only [vrt,results126,vkt,seval,yl];refine Fin.val rfl ?_;(try simp only [AV.le]))
      all_goals rw [out 1 (by unfold shE;simp [c1,c2]) (by decide) (by omega)]
     ·(simp only [vrt,results126,vkt,seval,yl];refine Fin.val rfl ?_;(try simp only [AV.le]))
      all_goals rw [last (by omega)]
   ·have c1:inB s.num 1 20=false:=by simpa using c1
    repeat' first|(apply nx;with_reducible constructor)|refine jq (by decide) ?_|((first|refine jz env fun Q hQ=>?_|refine jj fun Q hQ=>?_);simp only [vkt,seval,wZ,yl,be,hs,c1];(try simp only [ite_and]);(repeat' (first|with_reducible assumption|refine ea ?_ ?_|intro hp));all_goals (first|(refine hQ _ ?_;clear hQ Q)|(refine hQ _ (fun h=>?_) (fun h=>?_) <;> clear hQ Q <;> (try simp only [vki,reduceCtorEq] at h))|omega|assumption|rfl|(refine jx ?_;kernel_rfl)|skip))
    ·(simp only [vrt,results126,vkt,seval,yl];refine Fin.val rfl ?_;(try simp only [AV.le]))
     all_goals rw [out 1 (by unfold shE;simp [c1]) (by decide) (by omega)]
    ·(simp only [vrt,results126,vkt,seval,yl];refine Fin.val rfl ?_;(try simp only [AV.le]))
     all_goals rw [last (by omega)]
def s111:List AV->Prop × AV
 |[.sl xs,.v (.int .i64 n)]=>(xs=(xs.map dSh).map eSh/\xs.length<=maxLen/\1<=n,aI (yw (xs.map dSh) n))
 |_=>(False,.junk)
def e111 {A:Frm->Prop}:qc A prog 126 (zD true s111):=qL fun vs hv h=>by
 clear hv;unfold s111 at h ⊢
 split at h
 ·rename_i xs n
  refine ⟨trivial,fun _=>trivial, ?_⟩
  have:=Qfz (xs.map dSh) n (by simpa using h.2.1) h.2.2
  rwa [xB,<- h.1] at this
 ·exact h.elim
def jN (l:Led) (x:Ent) (before:Int):Int :=
 if !inB x.day 0 ((l.rates.length:Int) - 1) then 3 else if x.day < before then 5 else if !inB x.kind 1 4 then 8 else if !inB x.coin 0 ((l.coins.length:Int) - 1) then 3
 else if x.kind=3/\inB x.to 0 ((l.coins.length:Int) - 1)=false then 3 else if x.kind=3/\x.to=x.coin then 4 else if x.kind=3/\inB x.got 0 999=false then 1
 else if x.kind ≠ 3/\(x.to ≠ 0\/x.got ≠ 0) then 1 else if !inB x.amount 0 999 then 1 else 0
def zh:=jw @ty3 (jw @jK (jw @Zv (jw @Yj (jw @xI (jw @xW (jw @kD (jw @ti3.eq_1 (jw @jr.eq_1 (jw @Qo.eq_1 (jw @WG.eq_1 (jw @vO.eq_1 (jw @vD.eq_1 @vR.eq_1))))))))))))
def yj:=jw @aI.eq_1 (jw @aB.eq_1 (jw @Qt.eq_1 (jw @zo.eq_1 (jw @qY.eq_1 (jw @s79.eq_1 (@s79.eq_2))))))
def QgS (l:Led) (x:Ent) (before:Int) (h1:l.rates.length<=1000) (h2:l.coins.length<=1000):FnV prog 164 [zo l,Qt x,aI before] (aI (jN l x before)):=by
 have env:Env (fun _=>True) prog tyB (tab [(122,zD true s79)]):=qz ⟨e79,trivial⟩
 refine Fn.of (A:=fun _=>True) (n0:=0) (D:=noD) (Fn0 func164 rfl (fun vs w=>by kernel_rfl) (by kernel_rfl)) (by simp) (by simp [AV.ids,AV.idsL,zo,qY,Qt,aI]) (fun i o h=>by cases h) (fun _ _ _ _=>trivial) zt ?_
 have w1:IntKind.wrap .i64 ((l.rates.length:Int) - 1)=(l.rates.length:Int) - 1:=wrap64 (by omega) (by omega)
 have w2:IntKind.wrap .i64 ((l.coins.length:Int) - 1)=(l.coins.length:Int) - 1:=wrap64 (by omega) (by omega)
 cases c1:inB x.day 0 ((l.rates.length:Int) - 1)
 ·repeat' first|(apply nx;with_reducible constructor)|refine jq (by decide) ?_|((first|refine jz env fun Q hQ=>?_|refine jj fun Q hQ=>?_);simp only [vkt,seval,zh,yj,w1,c1];(try simp only [ite_and]);(repeat' (first|with_reducible assumption|refine ea ?_ ?_|intro hp));all_goals (first|(refine hQ _ ?_;clear hQ Q)|(refine hQ _ (fun h=>?_) (fun h=>?_) <;> clear hQ Q <;> (try simp only [reduceCtorEq] at h))|omega|assumption|rfl|(refine jx ?_;kernel_rfl)|skip))
  (simp only [vrt,results164,vkt,seval,yj];refine Fin.val rfl ?_;(try simp only [AV.le]))
  all_goals simp [jN,c1]
 by_cases c2:x.day < before
 ·repeat' first|(apply nx;with_reducible constructor)|refine jq (by decide) ?_|((first|refine jz env fun Q hQ=>?_|refine jj fun Q hQ=>?_);simp only [vkt,seval,zh,yj,w1,c1,c2];(try simp only [ite_and]);(repeat' (first|with_reducible assumption|refine ea ?_ ?_|intro hp));all_goals (first|(refine hQ _ ?_;clear hQ Q)|(refine hQ _ (fun h=>?_) (fun h=>?_) <;> clear hQ Q <;> (try simp only [reduceCtorEq] at h))|omega|assumption|rfl|(refine jx ?_;kernel_rfl)|skip))
  (simp only [vrt,results164,vkt,seval,yj];refine Fin.val rfl ?_;(try simp only [AV.le]))
  all_goals simp [jN,c1,c2]
 cases c3:inB x.kind 1 4
 ·repeat' first|(apply nx;with_reducible constructor)|refine jq (by decide) ?_|((first|refine jz env fun Q hQ=>?_|refine jj fun Q hQ=>?_);simp only [vkt,seval,zh,yj,w1,c1,c2,c3];(try simp only [ite_and]);(repeat' (first|with_reducible assumption|refine ea ?_ ?_|intro hp));all_goals (first|(refine hQ _ ?_;clear hQ Q)|(refine hQ _ (fun h=>?_) (fun h=>?_) <;> clear hQ Q <;> (try simp only [reduceCtorEq] at h))|omega|assumption|rfl|(refine jx ?_;kernel_rfl)|skip))
  (simp only [vrt,results164,vkt,seval,yj];refine Fin.val rfl ?_;(try simp only [AV.le]))
  all_goals simp [jN,c1,c2,c3]
 cases c4:inB x.coin 0 ((l.coins.length:Int) - 1)
 ·repeat' first|(apply nx;with_reducible constructor)|refine jq (by decide) ?_|((first|refine jz env fun Q hQ=>?_|refine jj fun Q hQ=>?_);simp only [vkt,seval,zh,yj,w1,w2,c1,c2,c3,c4];(try simp only [ite_and]);(repeat' (first|with_reducible assumption|refine ea ?_ ?_|intro hp));all_goals (first|(refine hQ _ ?_;clear hQ Q)|(refine hQ _ (fun h=>?_) (fun h=>?_) <;> clear hQ Q <;> (try simp only [reduceCtorEq] at h))|omega|assumption|rfl|(refine jx ?_;kernel_rfl)|skip))
  (simp only [vrt,results164,vkt,seval,yj];refine Fin.val rfl ?_;(try simp only [AV.le]))
  all_goals simp [jN,c1,c2,c3,c4]
 by_cases c5:x.kind=3
 ·have c7:inB 3 1 4=true:=by decide
  cases c6:inB x.to 0 ((l.coins.length:Int) - 1)
  ·repeat' first|(apply nx;with_reducible constructor)|refine jq (by decide) ?_|((first|refine jz env fun Q hQ=>?_|refine jj fun Q hQ=>?_);simp only [vkt,seval,zh,yj,w1,w2,c1,c2,c7,c4,c5,c6];(try simp only [ite_and]);(repeat' (first|with_reducible assumption|refine ea ?_ ?_|intro hp));all_goals (first|(refine hQ _ ?_;clear hQ Q)|(refine hQ _ (fun h=>?_) (fun h=>?_) <;> clear hQ Q <;> (try simp only [reduceCtorEq] at h))|omega|assumption|rfl|(refine jx ?_;kernel_rfl)|skip))
   (simp only [vrt,results164,vkt,seval,yj];refine Fin.val rfl ?_;(try simp only [AV.le]))
   all_goals simp [jN,c1,c2,c7,c4,c5,c6]
  repeat' first|(apply nx;with_reducible constructor)|refine jq (by decide) ?_|((first|refine jz env fun Q hQ=>?_|refine jj fun Q hQ=>?_);simp only [vkt,seval,zh,yj,w1,w2,c1,c2,c7,c4,c5,c6];(try simp only [ite_and]);(repeat' (first|with_reducible assumption|refine ea ?_ ?_|intro hp));all_goals (first|(refine hQ _ ?_;clear hQ Q)|(refine hQ _ (fun h=>?_) (fun h=>?_) <;> clear hQ Q <;> (try simp only [vki,reduceCtorEq] at h))|omega|assumption|rfl|(refine jx ?_;kernel_rfl)|skip))
  all_goals (simp only [vrt,results164,vkt,seval,yj];refine Fin.val rfl ?_;(try simp only [AV.le]))
  all_goals simp [jN, *]
 ·repeat' first|(apply nx;with_reducible constructor)|refine jq (by decide) ?_|((first|refine jz env fun Q hQ=>?_|refine jj fun Q hQ=>?_);simp only [vkt,seval,zh,yj,w1,w2,c1,c2,c3,c4,c5];(try simp only [ite_and]);(repeat' (first|with_reducible assumption|refine ea ?_ ?_|intro hp));all_goals (first|(refine hQ _ ?_;clear hQ Q)|(refine hQ _ (fun h=>?_) (fun h=>?_) <;> clear hQ Q <;> (try simp only [vki,reduceCtorEq] at h))|omega|assumption|rfl|(refine jx ?_;kernel_rfl)|skip))
  all_goals (simp only [vrt,results164,vkt,seval,yj];refine Fin.val rfl ?_;(try simp only [AV.le]))
  all_goals simp [jN, *]
def Qf3:List AV->Prop × AV
 |[.agg [.sl cs,.sl rs,.sl ss,.sl es],.agg [.v (.int .i64 a),.v (.int .i64 b),.v (.int .i64 c),.v (.int .i64 d),.v (.int .i64 e),.v (.int .i64 f)],.v (.int .i64 n)] =>
  (cs=(cs.map qM).map qG/\rs=(rs.map xC).map wM/\ss=(ss.map qE).map ql/\es=(es.map xy).map wz/\rs.length<=1000/\cs.length<=1000,aI (jN ⟨cs.map qM,rs.map xC,ss.map qE,es.map xy⟩ ⟨a,b,c,d,e,f⟩ n))
 |_=>(False,.junk)
def e140 {A:Frm->Prop}:qc A prog 164 (zD true Qf3):=qL fun vs hv h=>by
 clear hv;unfold Qf3 at h ⊢
 split at h
 ·rename_i cs rs ss es a b c d e f n
  obtain ⟨h1,h2,h3,h4,h5,h6⟩:=h;refine ⟨trivial,fun _=>trivial, ?_⟩
  have:=QgS ⟨cs.map qM,rs.map xC,ss.map qE,es.map xy⟩ ⟨a,b,c,d,e,f⟩ n (by simpa using h5) (by simpa using h6)
  simp only [zo,qY,<- h1,<- h2,<- h3,<- h4] at this;exact this
 ·exact h.elim
def gI0 {l:List Int} {n:Nat} (h:n < l.length):(l.map ql).getD n []=ql (l.getD n 0):=by simp [ah,h]
def Rl (l:List Int) (n:Nat) (v:Int):(l.map ql).set n [.v (.int .i64 v)]=(l.set n v).map ql:=by rw [dD];rfl
def b47 {n:Nat} (h:n<=100000):n * 8<=140737488355328/\n * 24<=140737488355328/\n * 16<=140737488355328/\n<=maxLen:=by
 have:(100000:Nat)<=maxLen:=by decide
 omega
def QS:=jw @ty3 (jw @jK (jw @ti3.eq_1 @jr.eq_1))
def Qcm (xs:List (List DV)) (h1:zu 1 xs) (h2:xs.length<=100000):Fn noB prog 114 [.sl xs] noH (.row 0) (qf [(0,.row 3 1 xs)]) 0:=by
 have env:=qz (A:=fun _=>True) kN
 obtain ⟨b1,b2,b3,b4⟩:=b47 h2;refine kV (Fn0 func114 rfl (fun vs w=>by kernel_rfl) (by kernel_rfl)) (by simp) (by simp [AV.ids]) ?_
 repeat' first|(apply nx;with_reducible constructor)|apply jq (by decide)
 (apply jz env;intro Q hQ;simp only [vkt,seval,ite_and];(repeat' first|with_reducible assumption|apply jw|intro hp);all_goals first|(apply hQ;clear hQ Q)|omega|assumption|rfl|(apply jx;kernel_rfl)|skip)
 repeat' first|(apply nx;with_reducible constructor)|apply jq (by decide)
 refine YM (d1:=3) (d2:=4) (t:=26) (e:=3) (x:=.tmp 0) (xs:=xs) rfl rfl rfl rfl rfl rfl underlying26 rfl fun b hb=>?_
 repeat' first|(apply nx;with_reducible constructor)|apply jq (by decide)
 (refine zg (by simp only [vkt,seval];rfl) (fun h=>?_) (fun h=>?_) <;> (try simp only [vki,reduceCtorEq] at h))
 ·have hx:=hb h
  subst hx
  repeat' first|(apply nx;with_reducible constructor)|apply jq (by decide)|((first|apply jz env|apply jk);intro Q hQ;simp only [vkt,seval,ite_and];(repeat' first|with_reducible assumption|apply jw|intro hp);all_goals first|(apply hQ;clear hQ Q)|omega|assumption|rfl|(apply jx;kernel_rfl)|skip)
  (simp only [vrt,results114,vkt,seval];refine Fin.ok (fun _=>none) [] ?_ ?_ ?_ ?_ ?_ rfl;all_goals (try simp only [vle,vkt,seval]))
  all_goals simp
 ·repeat' first|(apply nx;with_reducible constructor)|apply jq (by decide)|((first|apply jz env|apply jk);intro Q hQ;simp only [vkt,seval,QS,ite_and];(repeat' first|with_reducible assumption|apply jw|intro hp);all_goals first|(apply hQ;clear hQ Q)|omega|assumption|rfl|(apply jx;kernel_rfl)|skip)
  (simp only [vrt,results114,vkt,seval];refine Fin.ok some [] ?_ ?_ ?_ ?_ ?_ rfl;all_goals (try simp only [vle,vkt,seval]))
  all_goals simp
def Qa:=jw @jK (jw @Zv (jw @jr.eq_1 @Qo.eq_1))
def Qcr (xs:List (List DV)) (h1:zu 1 xs) (h2:xs.length<=100000):Fn noB prog 120 [.sl xs] noH (.row 0) (qf [(0,.row 26 1 xs)]) 0:=by
 have env:=qz (A:=fun _=>True) kN
 obtain ⟨b1,b2,b3,b4⟩:=b47 h2;refine kV (Fn0 func120 rfl (fun vs w=>by kernel_rfl) (by kernel_rfl)) (by simp) (by simp [AV.ids]) ?_
 repeat' first|(apply nx;with_reducible constructor)|apply jq (by decide)
 (apply jz env;intro Q hQ;simp only [vkt,seval,ite_and];(repeat' first|with_reducible assumption|apply jw|intro hp);all_goals first|(apply hQ;clear hQ Q)|omega|assumption|rfl|(apply jx;kernel_rfl)|skip)
 repeat' first|(apply nx;with_reducible constructor)|apply jq (by decide)
 refine YM (d1:=3) (d2:=4) (t:=43) (e:=26) (x:=.tmp 0) (xs:=xs) rfl rfl rfl rfl rfl rfl underlying43 rfl fun b hb=>?_
 repeat' first|(apply nx;with_reducible constructor)|apply jq (by decide)
 (refine zg (by simp only [vkt,seval];rfl) (fun h=>?_) (fun h=>?_) <;> (try simp only [vki,reduceCtorEq] at h))
 ·have hx:=hb h
  subst hx
  repeat' first|(apply nx;with_reducible constructor)|apply jq (by decide)|((first|apply jz env|apply jk);intro Q hQ;simp only [vkt,seval,ite_and];(repeat' first|with_reducible assumption|apply jw|intro hp);all_goals first|(apply hQ;clear hQ Q)|omega|assumption|rfl|(apply jx;kernel_rfl)|skip)
  (simp only [vrt,results120,vkt,seval];refine Fin.ok (fun _=>none) [] ?_ ?_ ?_ ?_ ?_ rfl;all_goals (try simp only [vle,vkt,seval]))
  all_goals simp
 ·repeat' first|(apply nx;with_reducible constructor)|apply jq (by decide)|((first|apply jz env|apply jk);intro Q hQ;simp only [vkt,seval,Qa,ite_and];(repeat' first|with_reducible assumption|apply jw|intro hp);all_goals first|(apply hQ;clear hQ Q)|omega|assumption|rfl|(apply jx;kernel_rfl)|skip)
  (simp only [vrt,results120,vkt,seval];refine Fin.ok some [] ?_ ?_ ?_ ?_ ?_ rfl;all_goals (try simp only [vle,vkt,seval]))
  all_goals simp
def p88 (_:St):List AV->Option Pk
 |[.sl xs]=>some { pre:=zu 1 xs/\xs.length<=100000,ar:=[.sl xs],v:=.row 0,L1:=[some (.row 3 1 xs)] }
 |[.nil]=>some { ar:=[.sl []],v:=.row 0,L1:=[some (.row 3 1 [])] }
 |_=>none
def e88 {A:Frm->Prop}:qc A prog 114 (fnE p88):=wB fun S bs q h hp=>by
 unfold p88 at h;split at h <;> cases h
 ·exact Qcm _ hp.1 hp.2
 ·exact Qcm [] (by simp [zu]) (by simp)
def p95 (_:St):List AV->Option Pk
 |[.sl xs]=>some { pre:=zu 1 xs/\xs.length<=100000,ar:=[.sl xs],v:=.row 0,L1:=[some (.row 26 1 xs)] }
 |[.nil]=>some { ar:=[.sl []],v:=.row 0,L1:=[some (.row 26 1 [])] }
 |_=>none
def e95 {A:Frm->Prop}:qc A prog 120 (fnE p95):=wB fun S bs q h hp=>by
 unfold p95 at h;split at h <;> cases h
 ·exact Qcr _ hp.1 hp.2
 ·exact Qcr [] (by simp [zu]) (by simp)
def yD (l:Led) (r:Nat):AObj:=.cells (qY l++[.row r])
def Qb (has:List Int):AObj:=.row 3 1 (has.map ql)
def YR:=jw @ty3 (jw @jK (jw @xI (jw @KI (jw @ti3.eq_1 (jw @jr.eq_1 (jw @vO.eq_1 @Jz.eq_1))))))
def Qc5:=jw @zo.eq_1 (jw @qY.eq_1 (jw @p88.eq_1 (jw @p88.eq_2 (jw @p88.eq_3 (jw @JA (jw @yD.eq_1 (@Qb.eq_1)))))))
def QkR (l:Led) (h:l.start.length<=100000):Fn noB prog 100 [zo l] noH (.ptr 0 0) (qf [(0,yD l 1),(1,Qb l.start)]) 0:=by
 have env:=qz (A:=fun _=>True) (kC e88 kN)
 refine kV (Fn0 func100 rfl (fun vs w=>by kernel_rfl) (by kernel_rfl)) (by simp) (by simp [AV.ids,AV.idsL,zo,qY]) ?_
 repeat' first|(apply nx;with_reducible constructor)|apply jq (by decide)|((first|apply jz env|apply jk);intro Q hQ;simp only [vkt,seval,YR,Qc5,ite_and];(repeat' first|with_reducible assumption|apply jw|intro hp);all_goals first|(apply hQ;clear hQ Q)|omega|assumption|rfl|(apply jx;kernel_rfl)|skip)
 (simp only [vrt,results100,vkt,seval,Qc5];refine Fin.ok (fun j=>if j=0 then some 2 else if j=1 then some 1 else none) [] ?_ ?_ ?_ ?_ ?_ rfl;all_goals (try simp only [vle,vkt,seval]))
 all_goals simp
def p97 (_:St):List AV->Option Pk
 |[.agg [.sl cs,.sl rs,.sl ss,.sl es]]=>some { pre:=cs=(cs.map qM).map qG/\rs=(rs.map xC).map wM/\ss=(ss.map qE).map ql/\es=(es.map xy).map wz/\ss.length<=100000,ar:=[.agg [.sl cs,.sl rs,.sl ss,.sl es]],v:=.ptr 0 0,L1:=[some (.cells [.sl cs,.sl rs,.sl ss,.sl es,.row 1]),some (.row 3 1 ss)] }
 |_=>none
def e97 {A:Frm->Prop}:qc A prog 100 (fnE p97):=wB fun S bs q h hp=>by
 unfold p97 at h;split at h <;> cases h
 rename_i cs rs ss es;have:=QkR ⟨cs.map qM,rs.map xC,ss.map qE,es.map xy⟩ (by simpa using hp.2.2.2.2)
 simp only [zo,qY,yD,Qb,<- hp.1,<- hp.2.1,<- hp.2.2.1,<- hp.2.2.2.1] at this;exact this
def yN (has:List Int) (i d:Int):List Int:=has.set i.toNat (has.getD i.toNat 0+d)
def jF (has:List Int) (x:Ent):List Int :=
 if x.kind=1 then yN has x.coin x.amount else if x.kind=2 then yN has x.coin (-x.amount) else if x.kind=3 then yN (yN has x.coin (-x.amount)) x.to x.got
 else if x.kind=4 then has.set x.coin.toNat x.amount else has
structure EnOk (has:List Int) (x:Ent):Prop where
 c0:0<=x.coin
 c1:x.coin.toNat < has.length
 t:x.kind=3->0<=x.to/\x.to.toNat < has.length
 a:0<=x.amount/\x.amount<=999
 g:x.kind=3->0<=x.got/\x.got<=999
 b:∀ v ∈ has,-1000000<=v/\v<=1000000
def bGet {has:List Int} {n:Nat} (h:∀ v ∈ has,-1000000<=v/\v<=1000000):-1000000<=has.getD n 0/\has.getD n 0<=1000000:=by
 by_cases hn:n < has.length
 ·exact h _ (jb hn)
 ·rw [ah,cr (by omega)];simp
def zX:=jw @ty3 (jw @jK (jw @kD (jw @KI (jw @ti3.eq_1 (jw @jr.eq_1 (jw @vR.eq_1 @Jz.eq_1))))))
def xn:=jw @zo.eq_1 (jw @qY.eq_1 (jw @Qt.eq_1 (jw @yD.eq_1 (jw @Qb.eq_1 (@Rl)))))
def Qga (l:Led) (has:List Int) (x:Ent) (h:EnOk has x):Fn noB prog 104 [.ptr 0 0,Qt x] (qf [(0,yD l 1),(1,Qb has)]) (.tup []) (qf [(0,yD l 1),(1,Qb (jF has x))]) 0:=by
 have env:=qz (A:=fun _=>True) kN
 refine Fn.of (A:=fun _=>True) (n0:=2) (D:=noD) (Fn0 func104 rfl (fun vs w=>by kernel_rfl) (by kernel_rfl)) (by simp) (by simp [AV.ids,AV.idsL,Qt]) ?_ (fun _ _ _ _=>trivial) zt ?_
 ·intro i o hi
  rcases ae.1 (qB hi) with h|h
  ·cases h;simp [yD,qY,AObj.ids,AV.ids,AV.idsL]
  ·simp at h;obtain ⟨rfl,rfl⟩:=h;simp [Qb,AObj.ids]
 have c0:=h.c0;have c1:=h.c1
 have g1:=gI0 h.c1;have b1:=bGet (n:=x.coin.toNat) h.b
 have ha:=h.a
 by_cases k1:x.kind=1
 ·have w1:IntKind.wrap .i64 (has.getD x.coin.toNat 0+x.amount)=has.getD x.coin.toNat 0+x.amount:=wrap64 (by omega) (by omega)
  repeat' first|(apply nx;with_reducible constructor)|apply jq (by decide)|((first|apply jz env|apply jk);intro Q hQ;simp only [vkt,seval,zX,xn,k1,g1,w1,ql,ite_and];(repeat' first|with_reducible assumption|apply jw|intro hp);all_goals first|(apply hQ;clear hQ Q)|omega|assumption|rfl|(apply jx;kernel_rfl)|skip)
  (simp only [vrt,results104,vkt,seval,xn];refine Fin.ok some [] ?_ ?_ ?_ ?_ ?_ rfl;all_goals (try simp only [vle,vkt,seval]))
  all_goals simp [jF,k1,yN]
 by_cases k2:x.kind=2
 ·have w1:IntKind.wrap .i64 (has.getD x.coin.toNat 0 - x.amount)=has.getD x.coin.toNat 0+-x.amount:=by rw [wrap64 (by omega) (by omega)];omega
  repeat' first|(apply nx;with_reducible constructor)|apply jq (by decide)|((first|apply jz env|apply jk);intro Q hQ;simp only [vkt,seval,zX,xn,k2,g1,w1,ql,ite_and];(repeat' first|with_reducible assumption|apply jw|intro hp);all_goals first|(apply hQ;clear hQ Q)|omega|assumption|rfl|(apply jx;kernel_rfl)|skip)
  (simp only [vrt,results104,vkt,seval,xn];refine Fin.ok some [] ?_ ?_ ?_ ?_ ?_ rfl;all_goals (try simp only [vle,vkt,seval]))
  all_goals simp [jF,k2,yN]
 by_cases k3:x.kind=3
 ·have w1:IntKind.wrap .i64 (has.getD x.coin.toNat 0 - x.amount)=has.getD x.coin.toNat 0+-x.amount:=by rw [wrap64 (by omega) (by omega)];omega
  obtain ⟨t0,t1⟩:=h.t k3;have hg:=h.g k3
  have hb2:∀ v ∈ yN has x.coin (-x.amount),-1001000<=v/\v<=1001000:=fun v hv=>by
   rcases bV hv with h1|h1
   ·have:=h.b v h1;omega
   ·omega
  have t2:x.to.toNat < (yN has x.coin (-x.amount)).length:=by simp [yN];exact t1
  have g2:=gI0 t2;have b2:=hb2 _ (jb (d:=0) t2)
  have w2:IntKind.wrap .i64 ((yN has x.coin (-x.amount)).getD x.to.toNat 0+x.got)=(yN has x.coin (-x.amount)).getD x.to.toNat 0+x.got:=wrap64 (by omega) (by omega)
  have e2:has.set x.coin.toNat (has.getD x.coin.toNat 0+-x.amount)=yN has x.coin (-x.amount):=rfl
  repeat' first|(apply nx;with_reducible constructor)|apply jq (by decide)|((first|apply jz env|apply jk);intro Q hQ;simp only [vkt,seval,zX,xn,k3,g1,w1,e2,g2,w2,ql,ite_and];(repeat' first|with_reducible assumption|apply jw|intro hp);all_goals first|(apply hQ;clear hQ Q)|omega|assumption|rfl|(apply jx;kernel_rfl)|skip)
  (simp only [vrt,results104,vkt,seval,xn];refine Fin.ok some [] ?_ ?_ ?_ ?_ ?_ rfl;all_goals (try simp only [vle,vkt,seval]))
  all_goals (simp only [jF,k3];simp;conv=>rhs;rw [yN,dD])
  all_goals simp
 by_cases k4:x.kind=4
 ·repeat' first|(apply nx;with_reducible constructor)|apply jq (by decide)|((first|apply jz env|apply jk);intro Q hQ;simp only [vkt,seval,zX,xn,k4,g1,ql,ite_and];(repeat' first|with_reducible assumption|apply jw|intro hp);all_goals first|(apply hQ;clear hQ Q)|omega|assumption|rfl|(apply jx;kernel_rfl)|skip)
  (simp only [vrt,results104,vkt,seval,xn];refine Fin.ok some [] ?_ ?_ ?_ ?_ ?_ rfl;all_goals (try simp only [vle,vkt,seval]))
  all_goals simp [jF,k4]
 ·repeat' first|(apply nx;with_reducible constructor)|apply jq (by decide)|((first|apply jz env|apply jk);intro Q hQ;simp only [vkt,seval,zX,xn,k1,k2,k3,k4,ite_and];(repeat' first|with_reducible assumption|apply jw|intro hp);all_goals first|(apply hQ;clear hQ Q)|omega|assumption|rfl|(apply jx;kernel_rfl)|skip)
  (simp only [vrt,results104,vkt,seval,xn];refine Fin.ok some [] ?_ ?_ ?_ ?_ ?_ rfl;all_goals (try simp only [vle,vkt,seval]))
  all_goals simp [jF,k1,k2,k3,k4]
def RN (S:St):List AV->Option Pk
 |[.ptr t 0,.agg [.v (.int .i64 a),.v (.int .i64 b),.v (.int .i64 c),.v (.int .i64 d),.v (.int .i64 e),.v (.int .i64 f)]]=>match S.h t with
  |some (.cells [.sl cs,.sl rs,.sl ss,.sl es,.row r])=>match S.h r with
   |some (.row 3 1 hs)=>some { pre:=cs=(cs.map qM).map qG/\rs=(rs.map xC).map wM/\ss=(ss.map qE).map ql/\es=(es.map xy).map wz/\hs=(hs.map qE).map ql/\EnOk (hs.map qE) ⟨a,b,c,d,e,f⟩,hs:=[t,r],ar:=[.ptr 0 0,.agg [.v (.int .i64 a),.v (.int .i64 b),.v (.int .i64 c),.v (.int .i64 d),.v (.int .i64 e),.v (.int .i64 f)]],L0:=[.cells [.sl cs,.sl rs,.sl ss,.sl es,.row 1],.row 3 1 hs],v:=.tup [],L1:=[some (.cells [.sl cs,.sl rs,.sl ss,.sl es,.row 1]),some (.row 3 1 ((jF (hs.map qE) ⟨a,b,c,d,e,f⟩).map ql))] }
   |_=>none
  |_=>none
 |_=>none
def e101 {A:Frm->Prop}:qc A prog 104 (fnE RN):=wB fun S bs q h hp=>by
 unfold RN at h;split at h
 ·split at h
  ·split at h
   ·rename_i t a b c d e f _ cs rs ss es r _ _ hs _
    cases h;have:=Qga ⟨cs.map qM,rs.map xC,ss.map qE,es.map xy⟩ (hs.map qE) ⟨a,b,c,d,e,f⟩ hp.2.2.2.2.2
    simp only [yD,Qb,qY,<- hp.1,<- hp.2.1,<- hp.2.2.1,<- hp.2.2.2.1,<- hp.2.2.2.2.1] at this;exact this
   ·cases h
  ·cases h
 ·cases h
structure EntryOk (l:Led) (x:Ent) (before:Int):Prop where
 day:0<=x.day/\x.day<=(l.rates.length:Int) - 1
 ord:before<=x.day
 kind:1<=x.kind/\x.kind<=4
 coin:0<=x.coin/\x.coin<=(l.coins.length:Int) - 1
 to:x.kind=3->0<=x.to/\x.to<=(l.coins.length:Int) - 1
 ne:x.kind=3->x.to ≠ x.coin
 got:x.kind=3->0<=x.got/\x.got<=999
 no:x.kind ≠ 3->x.to=0/\x.got=0
 am:0<=x.amount/\x.amount<=999
def zy {n a b:Int}:inB n a b=true ↔ a<=n/\n<=b:=by simp [inB]
def QE {l:Led} {x:Ent} {b:Int} (h:jN l x b=0):EntryOk l x b:=by
 unfold jN at h;split at h
 ·exact absurd h (by decide)
 rename_i a1;split at h
 ·exact absurd h (by decide)
 rename_i a2;split at h
 ·exact absurd h (by decide)
 rename_i a3;split at h
 ·exact absurd h (by decide)
 rename_i a4;split at h
 ·exact absurd h (by decide)
 rename_i a5;split at h
 ·exact absurd h (by decide)
 rename_i a6;split at h
 ·exact absurd h (by decide)
 rename_i a7;split at h
 ·exact absurd h (by decide)
 rename_i a8;split at h
 ·exact absurd h (by decide)
 rename_i a9;have nf:∀ {p:Bool},¬ (!p)=true->p=true:=fun h=>by simpa using h
 have nn:∀ {p:Prop} {q:Bool},¬ (p/\q=false)->p->q=true:=fun h hp=>by simpa [hp] using h
 refine ⟨zy.1 (nf a1),by omega,zy.1 (nf a3),zy.1 (nf a4),fun h3=>zy.1 (nn a5 h3),fun h3 h4=>a6 ⟨h3,h4⟩,fun h3=>zy.1 (nn a7 h3),fun h3=>?_,zy.1 (nf a9)⟩
 constructor
 ·exact Classical.byContradiction fun hn=>a8 ⟨h3,.inl hn⟩
 ·exact Classical.byContradiction fun hn=>a8 ⟨h3,.inr hn⟩
def stK (l:Led) (k:Nat):Int × List Int:=(l.entries.take k).foldl (fun s x=>(x.day,jF s.2 x)) (0,l.start)
def J4 {l:Led} {k:Nat} (h:k < l.entries.length):stK l (k+1)=((l.entries.getD k default).day,jF (stK l k).2 (l.entries.getD k default)):=by
 unfold stK;rw [cS h,List.foldl_append,ah,al h]
 rfl
def eV (l:Led) (x:Ent) (b:Int) (has:List Int):Int:=if jN l x b ≠ 0 then jN l x b else if (x.kind=2\/x.kind=3)/\has.getD x.coin.toNat 0 < x.amount then 9 else 0
def eK (l:Led) (k:Nat):Int:=eV l (l.entries.getD k default) (stK l k).1 (stK l k).2
def U7 (l:Led) (k:Nat):eK l k=eV l (l.entries.getD k default) (stK l k).1 (stK l k).2:=rfl
def jX (l:Led):Int:=if qR l.entries.length 0 6 ≠ 0 then qR l.entries.length 0 6 else zS (errs l.entries.length (eK l))
def QbJ (has:List Int) (x:Ent):(jF has x).length=has.length:=by
 unfold jF yN
 repeat' split
 all_goals simp
structure HasOk (l:Led) (k:Nat) (has:List Int):Prop where
 len:has.length=l.coins.length
 b:∀ v ∈ has,0<=v/\v<=999 * (k+1)
def Qao {l:Led} (h1:l.start.length=l.coins.length) (h2:∀ v ∈ l.start,0<=v/\v<=999):HasOk l 0 (stK l 0).2:=⟨h1,fun v hv=>by have:=h2 v hv;simp;omega⟩
def QaD {l:Led} {k:Nat} {has:List Int} {x:Ent} {b:Int} (h:HasOk l k has) (hx:EntryOk l x b) (hp:¬ ((x.kind=2\/x.kind=3)/\has.getD x.coin.toNat 0 < x.amount)):HasOk l (k+1) (jF has x):=by
 refine ⟨(QbJ _ _).trans h.len,fun v hv=>?_⟩
 have hc:x.coin.toNat < has.length:=by have:=hx.coin;have:=h.len;omega
 have hb:=h.b _ (jb (d:=0) hc);have ha:=hx.am
 have set1:∀ {d:Int} {v:Int},v ∈ has.set x.coin.toNat d->(0<=d/\d<=999 * (k+1)+999)->0<=v/\v<=999 * (k+1)+999:=fun hv hd=>by
  rcases bV hv with h1|h1
  ·have:=h.b _ h1;omega
  ·omega
 have hp2:x.kind=2\/x.kind=3->¬ has.getD x.coin.toNat 0 < x.amount:=fun h hlt=>hp ⟨h,hlt⟩
 unfold jF at hv;have e:((k+1:Nat):Int)+1=(k:Int)+2:=by omega
 rw [e];split at hv
 ·have:=set1 hv (by omega);omega
 ·split at hv
  ·rename_i k2
   have:=set1 hv (by have:=hp2 (.inl k2);omega);omega
  ·split at hv
   ·rename_i k3
    have hp3:=hp2 (.inr k3);have hc0:=hx.coin
    have hg:=hx.got k3;have ht:=hx.to k3
    have hne:=hx.ne k3
    rcases bV hv with h1|h1
    ·have:=set1 h1 (by omega);omega
    ·have ht':x.to.toNat < (yN has x.coin (-x.amount)).length:=by simp [yN];have:=h.len;omega
     have hm:(yN has x.coin (-x.amount)).getD x.to.toNat 0=has.getD x.to.toNat 0:=by
      simp [yN,ah,cO]
      rw [if_neg (by omega)]
     have:=h.b _ (jb (l:=has) (k:=x.to.toNat) (d:=0) (by have:=h.len;omega))
     rw [hm] at h1;omega
   ·split at hv
    ·have:=set1 hv (by omega);omega
    ·have:=h.b v hv;omega
def Yd {l:Led} (h1:l.start.length=l.coins.length) (h2:∀ v ∈ l.start,0<=v/\v<=999):∀ k,k<=l.entries.length->(∀ j,j < k->eK l j=0)->HasOk l k (stK l k).2
 |0,_,_=>Qao h1 h2
 |k+1,hk,h=>by
  have ih:=Yd h1 h2 k (by omega) fun j hj=>h j (by omega)
  have h0:=h k (by omega)
  rw [J4 (by omega)]
  unfold eK eV at h0;split at h0
  ·rename_i hn;exact absurd h0 hn
  ·rename_i hn
   have hn:=Decidable.not_not.1 hn;split at h0
   ·exact absurd h0 (by decide)
   ·rename_i hp
    exact QaD ih (QE hn) hp
def RX {l:Led} {k:Nat} {has:List Int} {x:Ent} {b:Int} (h:HasOk l k has) (hk:k<=100) (hx:EntryOk l x b):EnOk has x:=by
 refine ⟨hx.coin.1, ?_,fun h3=>⟨(hx.to h3).1, ?_⟩,hx.am,hx.got,fun v hv=>?_⟩
 ·have:=hx.coin;have:=h.len;omega
 ·have:=hx.to h3;have:=h.len;omega
 ·have:=h.b v hv;omega
def enS (l:Led) (k:Nat):St:={ t:=asg [(1,.ptr 0 0),(2,aI 0),(4,.ptr 1 0),(5,aI (stK l k).1),(19,.sl (l.entries.map wz)),(20,aI l.entries.length),(21,aI k)],h:=qf [(0,.cells (qY l)),(1,yD l 2),(2,Qb (stK l k).2)],n:=3 }
structure EsOk (l:Led):Prop where
 c:l.coins.length<=1000
 r:l.rates.length<=1000
 e:l.entries.length<=1000
 s:l.start.length=l.coins.length
 v:∀ v ∈ l.start,0<=v/\v<=999
def zO:=jw @ty3 (jw @jK (jw @WU (jw @Y9 (jw @xI (jw @kD (jw @KI (jw @ti3.eq_1 (jw @jr.eq_1 (jw @Zy.eq_1 (jw @JZ.eq_1 (jw @vO.eq_1 (jw @vR.eq_1 @Jz.eq_1))))))))))))
def vG:=jw @aI.eq_1 (jw @zo.eq_1 (jw @qY.eq_1 (jw @Qt.eq_1 (jw @yD.eq_1 (jw @Qb.eq_1 (jw @enS.eq_1 (jw @s78.eq_1 (jw @s78.eq_2 (jw @Qf3.eq_1 (jw @Qf3.eq_2 (jw @p97.eq_1 (jw @p97.eq_2 (jw @RN.eq_1 (jw @RN.eq_2 (jw @kE (jw @xV (jw @Rn (jw @W9 (jw @wz.eq_1 (@Qbs))))))))))))))))))))
def QbM (l:Led) (hl:EsOk l):FnV prog 127 [zo l] (aI (jX l)):=by
 have env:Env (fun _=>True) prog tyB (tab [(121,zD true s78),(100,fnE p97),(104,fnE RN),(164,zD true Qf3)]):=qz ⟨e78,e97,e101,e140,trivial⟩
 refine Fn.of (A:=fun _=>True) (n0:=0) (D:=noD) (Fn0 func127 rfl (fun vs w=>by kernel_rfl) (by kernel_rfl)) (by simp) (by simp [AV.ids,AV.idsL,zo,qY]) (fun i o h=>by cases h) (fun _ _ _ _=>trivial) zt ?_
 have q1:=hl.c;have q2:=hl.r
 have q3:=hl.e;have q4:l.start.length<=100000:=by have:=hl.s;omega
 by_cases h0:qR l.entries.length 0 6=0
 ·have q6:l.entries.length<=6:=by
   unfold qR at h0;split at h0
   ·omega
   ·split at h0
    ·exact absurd h0 (by decide)
    ·omega
  repeat' first|(apply nx;with_reducible constructor)|refine jq (by decide) ?_|((first|refine jz env fun Q hQ=>?_|refine jj fun Q hQ=>?_);simp only [vkt,seval,zO,vG,h0];(try simp only [ite_and]);(repeat' (first|with_reducible assumption|refine ea ?_ ?_|intro hp));all_goals (first|(refine hQ _ ?_;clear hQ Q)|(refine hQ _ (fun h=>?_) (fun h=>?_) <;> clear hQ Q <;> (try simp only [reduceCtorEq] at h))|omega|assumption|rfl|(refine jx ?_;kernel_rfl)|skip))
  refine qi (ι:=FI (errs l.entries.length (eK l))) (fun i=>enS l i.k) (fun i=>l.entries.length - i.k) (FI.zero _) ?_ fun i=>?_
  ·(refine Le.ok some [] ?_;constructor;all_goals (try simp only [vle,vkt,seval,vG]))
   all_goals simp [FI.zero,stK]
  ·have hk:=i.le
   rw [jD] at hk;have hall:∀ j,j < i.k->eK l j=0:=fun j hj=>by rw [<- QF (eK l) (show j < l.entries.length by omega)];exact i.all j hj
   have hok:=Yd hl.s hl.v i.k hk hall
   repeat' first|(apply nx;with_reducible constructor)|refine jq (by decide) ?_
   (refine jz env fun Q hQ=>?_;simp only [vkt,seval,zO,vG];(try simp only [ite_and]);(repeat' (first|with_reducible assumption|refine ea ?_ ?_|intro hp));all_goals (first|(refine hQ _ ?_;clear hQ Q)|omega|assumption|rfl|(refine jx ?_;kernel_rfl)|skip))
   repeat' first|(apply nx;with_reducible constructor)|refine jq (by decide) ?_
   (refine zg (by simp only [vkt,seval];rfl) (fun h=>?_) (fun h=>?_) <;> (try simp only [vki] at h))
   ·have hlt:i.k < l.entries.length:=by omega
    have hS:=J4 hlt;have hE:=U7 l i.k
    have out:∀ e,eK l i.k=e->e ≠ 0->jX l=e:=fun e he h1=>by
     unfold jX;rw [if_neg (by rw [h0];simp),i.hit hlt (by rw [he];exact h1),he]
    have hN:eK l i.k=0->∃ i':FI (errs l.entries.length (eK l)),l.entries.length - i'.k < l.entries.length - i.k/\i'.k=i.k+1:=fun h1=>⟨i.next hlt h1,by show l.entries.length - (i.k+1) < _;omega,rfl⟩
    have e9:=qP hlt (show l.entries.length<=maxLen by have:=QgB;omega)
    generalize hx:l.entries.getD i.k default=x at *;generalize hst:stK l i.k=st at *
    obtain ⟨b,has⟩:=st;dsimp only at hE hok hS
    by_cases c1:jN l x b=0
    ·have ho:=QE c1
     have hen:=RX hok (by omega) ho
     have hlast:=hen.c1;have hc0:=hen.c0
     have e1:jN ⟨l.coins,l.rates,l.start,l.entries⟩ ⟨x.day,x.kind,x.coin,x.to,x.amount,x.got⟩ b=0:=c1;have g0:=gI0 hlast
     have hen':EnOk has ⟨x.day,x.kind,x.coin,x.to,x.amount,x.got⟩:=hen;have h9:((x.kind=2\/x.kind=3)/\has.getD x.coin.toNat 0 < x.amount)->jX l=9:=fun hh=>out 9 (by rw [hE];unfold eV;rw [if_neg (by rw [c1];simp),if_pos hh]) (by decide)
     have h10:¬ ((x.kind=2\/x.kind=3)/\has.getD x.coin.toNat 0 < x.amount)->∃ i':FI (errs l.entries.length (eK l)),l.entries.length - i'.k < l.entries.length - i.k/\i'.k=i.k+1:=fun hh=>hN (by rw [hE];unfold eV;rw [if_neg (by rw [c1];simp),if_neg hh])
     repeat' first|(apply nx;with_reducible constructor)|refine jq (by decide) ?_|((first|refine jz env fun Q hQ=>?_|refine jj fun Q hQ=>?_);simp only [vkt,seval,zO,vG,hx,e1,g0,ql];(try simp only [ite_and]);(repeat' (first|with_reducible assumption|refine ea ?_ ?_|intro hp));all_goals (first|(refine hQ _ ?_;clear hQ Q)|(refine hQ _ (fun h=>?_) (fun h=>?_) <;> clear hQ Q <;> (try simp only [vki,reduceCtorEq] at h))|omega|assumption|rfl|(refine jx ?_;kernel_rfl)|skip))
     all_goals first
      |((simp only [vrt,results127,vkt,seval,vG];refine Fin.val rfl ?_;(try simp only [AV.le]));all_goals rw [h9 (by omega)])
      |(obtain ⟨i',g1,g2⟩:=h10 (by omega);refine ⟨i',g1, ?_⟩;rw [g2];(refine Le.ok some [] ?_;constructor;all_goals (try simp only [vle,vkt,seval,vG]));all_goals simp [hS,e9])
    ·have e1:¬ jN ⟨l.coins,l.rates,l.start,l.entries⟩ ⟨x.day,x.kind,x.coin,x.to,x.amount,x.got⟩ b=0:=c1
     repeat' first|(apply nx;with_reducible constructor)|refine jq (by decide) ?_|((first|refine jz env fun Q hQ=>?_|refine jj fun Q hQ=>?_);simp only [vkt,seval,zO,vG,hx,e1];(try simp only [ite_and]);(repeat' (first|with_reducible assumption|refine ea ?_ ?_|intro hp));all_goals (first|(refine hQ _ ?_;clear hQ Q)|(refine hQ _ (fun h=>?_) (fun h=>?_) <;> clear hQ Q <;> (try simp only [reduceCtorEq] at h))|omega|assumption|rfl|(refine jx ?_;kernel_rfl)|skip))
     (simp only [vrt,results127,vkt,seval,vG];refine Fin.val rfl ?_;(try simp only [AV.le]))
     all_goals rw [out _ hE (by unfold eV;rw [if_pos c1];exact c1)]
     all_goals (unfold eV;rw [if_pos c1])
   ·repeat' first|(apply nx;with_reducible constructor)|refine jq (by decide) ?_|((first|refine jz env fun Q hQ=>?_|refine jj fun Q hQ=>?_);simp only [vkt,seval];(try simp only [ite_and]);(repeat' (first|with_reducible assumption|refine ea ?_ ?_|intro hp));all_goals (first|(refine hQ _ ?_;clear hQ Q)|(refine hQ _ (fun h=>?_) (fun h=>?_) <;> clear hQ Q <;> (try simp only [vki,reduceCtorEq] at h))|omega|assumption|rfl|(refine jx ?_;kernel_rfl)|skip))
    (simp only [vrt,results127,vkt,seval,vG];refine Fin.val rfl ?_;(try simp only [AV.le]))
    all_goals (unfold jX;rw [if_neg (by rw [h0];simp),i.last (by omega)])
 ·repeat' first|(apply nx;with_reducible constructor)|refine jq (by decide) ?_|((first|refine jz env fun Q hQ=>?_|refine jj fun Q hQ=>?_);simp only [vkt,seval,zO,vG,h0];(try simp only [ite_and]);(repeat' (first|with_reducible assumption|refine ea ?_ ?_|intro hp));all_goals (first|(refine hQ _ ?_;clear hQ Q)|(refine hQ _ (fun h=>?_) (fun h=>?_) <;> clear hQ Q <;> (try simp only [reduceCtorEq] at h))|omega|assumption|rfl|(refine jx ?_;kernel_rfl)|skip))
  (simp only [vrt,results127,vkt,seval,vG];refine Fin.val rfl ?_;(try simp only [AV.le]))
  all_goals simp [jX,h0]
def s112:List AV->Prop × AV
 |[.agg [.sl cs,.sl rs,.sl ss,.sl es]]=>(cs=(cs.map qM).map qG/\rs=(rs.map xC).map wM/\ss=(ss.map qE).map ql/\es=(es.map xy).map wz/\EsOk ⟨cs.map qM,rs.map xC,ss.map qE,es.map xy⟩,aI (jX ⟨cs.map qM,rs.map xC,ss.map qE,es.map xy⟩))
 |_=>(False,.junk)
def e112 {A:Frm->Prop}:qc A prog 127 (zD true s112):=qL fun vs hv h=>by
 clear hv;unfold s112 at h ⊢
 split at h
 ·rename_i cs rs ss es
  obtain ⟨h1,h2,h3,h4,h5⟩:=h;refine ⟨trivial,fun _=>trivial, ?_⟩
  have:=QbM ⟨cs.map qM,rs.map xC,ss.map qE,es.map xy⟩ h5;simp only [zo,qY,<- h1,<- h2,<- h3,<- h4] at this
  exact this
 ·exact h.elim
structure Fit (l:Led):Prop where
 c:l.coins.length<=20
 cs:∀ p ∈ l.coins,p.length<=20
 r:l.rates.length<=20
 rs:∀ p ∈ l.rates,p.length<=20
 s:l.start.length<=20
 e:l.entries.length<=20
structure FitW (l:Led):Prop where
 c:l.coins.length<=1000
 cs:∀ p ∈ l.coins,p.length<=1000
 r:l.rates.length<=1000
 rs:∀ p ∈ l.rates,p.length<=1000
 s:l.start.length<=1000
 e:l.entries.length<=1000
def Fit.w {l:Led} (h:Fit l):FitW l:=⟨by have:=h.c;omega,fun p hp=>by have:=h.cs p hp;omega,by have:=h.r;omega,fun p hp=>by have:=h.rs p hp;omega,by have:=h.s;omega,by have:=h.e;omega⟩
def kW (l:Led) (k:Nat):Int:=if !inB (l.start.getD k 0) 0 999 then 1 else 0
def Rk (l:Led) (k:Nat):Int:=Qi (l.coins.getD k [])
def Ue (l:Led) (k:Nat):Int:=yw (l.rates.getD k []) l.coins.length
def qO (l:Led):Int :=
 if qR l.coins.length 1 4 ≠ 0 then qR l.coins.length 1 4 else if zS (errs l.coins.length (Rk l)) ≠ 0 then zS (errs l.coins.length (Rk l))
 else if qR l.rates.length 1 4 ≠ 0 then qR l.rates.length 1 4 else if zS (errs l.rates.length (Ue l)) ≠ 0 then zS (errs l.rates.length (Ue l))
 else if l.start.length ≠ l.coins.length then 2 else if zS (errs l.start.length (kW l)) ≠ 0 then zS (errs l.start.length (kW l)) else jX l
def ck1 (l:Led) (k:Nat):St:={ t:=asg [(1,.ptr 0 0),(2,aI 0),(21,.sl (l.coins.map qG)),(22,aI l.coins.length),(23,aI k)],h:=qf [(0,.cells (qY l))],n:=1 }
def ck2 (l:Led) (k:Nat):St:={ t:=asg [(1,.ptr 0 0),(2,aI 0),(41,.sl (l.rates.map wM)),(42,aI l.rates.length),(43,aI k)],h:=qf [(0,.cells (qY l))],n:=1 }
def ck3 (l:Led) (k:Nat):St:={ t:=asg [(1,.ptr 0 0),(2,aI 0),(64,.sl (l.start.map ql)),(65,aI l.start.length),(66,aI k)],h:=qf [(0,.cells (qY l))],n:=1 }
def qC:=jw @ty3 (jw @jK (jw @WU (jw @Zv (jw @Yj (jw @xI (jw @xW (jw @QL (jw @ti3.eq_1 (jw @jr.eq_1 (jw @Zy.eq_1 (jw @Qo.eq_1 (jw @WG.eq_1 (jw @vO.eq_1 (jw @vD.eq_1 @xS.eq_1))))))))))))))
def zC:=jw @aI.eq_1 (jw @aB.eq_1 (jw @zo.eq_1 (jw @qY.eq_1 (jw @ck1.eq_1 (jw @ck2.eq_1 (jw @ck3.eq_1 (jw @ZG (jw @ql.eq_1 (jw @s78.eq_1 (jw @s78.eq_2 (jw @s79.eq_1 (jw @s79.eq_2 (jw @s110.eq_1 (jw @s110.eq_2 (jw @s111.eq_1 (jw @s111.eq_2 (jw @s112.eq_1 (jw @s112.eq_2 (jw @kE (jw @xV (jw @Rn (jw @mSh (jw @W9 (jw @Xi (jw @gShs (jw @qG.eq_1 (@wM.eq_1)))))))))))))))))))))))))))
def XW (l:Led) (hl:FitW l):FnV prog 64 [zo l] (aI (qO l)):=by
 have env:=qz (A:=fun _=>True) (kC e78 (kC e79 (kC e110 (kC e111 (kC e112 kN)))))
 refine kV (Fn0 func64 rfl (fun vs w=>by kernel_rfl) (by kernel_rfl)) (by simp) (by simp [AV.ids,AV.idsL,zo,qY]) ?_
 have q1:=hl.c;have q2:=hl.r
 have q3:=hl.e;have q4:=hl.s
 have q5:=QgB
 by_cases h0:qR l.coins.length 1 4=0
 ·repeat' first|(apply nx;with_reducible constructor)|apply jq (by decide)|((first|apply jz env|apply jk);intro Q hQ;simp only [vkt,seval,qC,zC,h0,ite_and];(repeat' first|with_reducible assumption|apply jw|intro hp);all_goals first|(apply hQ;clear hQ Q)|omega|assumption|rfl|(apply jx;kernel_rfl)|skip)
  refine qi (ι:=FI (errs l.coins.length (Rk l))) (fun i=>ck1 l i.k) (fun i=>l.coins.length - i.k) (FI.zero _) ?_ fun i=>?_
  ·(refine Le.ok some [] ?_;constructor;all_goals (try simp only [vle,vkt,seval,zC]))
   all_goals simp [FI.zero]
  ·have hk:=i.le
   rw [jD] at hk
   repeat' first|(apply nx;with_reducible constructor)|apply jq (by decide)
   (apply jz env;intro Q hQ;simp only [vkt,seval,qC,zC,ite_and];(repeat' first|with_reducible assumption|apply jw|intro hp);all_goals first|(apply hQ;clear hQ Q)|omega|assumption|rfl|(apply jx;kernel_rfl)|skip)
   repeat' first|(apply nx;with_reducible constructor)|apply jq (by decide)
   (refine zg (by simp only [vkt,seval];rfl) (fun h=>?_) (fun h=>?_) <;> (try simp only [vki] at h))
   ·have hlt:i.k < l.coins.length:=by omega
    have hp:(l.coins.getD i.k []).length<=maxLen:=by have:=hl.cs _ (jb (d:=[]) hlt);omega
    have e9:=qP hlt (show l.coins.length<=maxLen by omega)
    by_cases c1:Qi (l.coins.getD i.k [])=0
    ·repeat' first|(apply nx;with_reducible constructor)|apply jq (by decide)|((first|apply jz env|apply jk);intro Q hQ;simp only [vkt,seval,qC,zC,c1,ite_and];(repeat' first|with_reducible assumption|apply jw|intro hp);all_goals first|(apply hQ;clear hQ Q)|omega|assumption|rfl|(apply jx;kernel_rfl)|skip)
     refine ⟨i.next hlt c1,by show l.coins.length - (i.k+1) < _;omega, ?_⟩
     (refine Le.ok some [] ?_;constructor;all_goals (try simp only [vle,vkt,seval,zC]))
     all_goals simp [FI.next,e9]
    ·repeat' first|(apply nx;with_reducible constructor)|apply jq (by decide)|((first|apply jz env|apply jk);intro Q hQ;simp only [vkt,seval,qC,zC,c1,ite_and];(repeat' first|with_reducible assumption|apply jw|intro hp);all_goals first|(apply hQ;clear hQ Q)|omega|assumption|rfl|(apply jx;kernel_rfl)|skip)
     (simp only [vrt,results64,vkt,seval,zC];refine Fin.val rfl ?_;(try simp only [AV.le]))
     have:=i.hit hlt c1
     all_goals (unfold qO;rw [if_neg (by rw [h0];simp),if_pos (by rw [this];exact c1),this];rfl)
   ·have hf1:=i.last (by omega)
    by_cases h2:qR l.rates.length 1 4=0
    ·repeat' first|(apply nx;with_reducible constructor)|apply jq (by decide)|((first|apply jz env|apply jk);intro Q hQ;simp only [vkt,seval,qC,zC,h2,ite_and];(repeat' first|with_reducible assumption|apply jw|intro hp);all_goals first|(apply hQ;clear hQ Q)|omega|assumption|rfl|(apply jx;kernel_rfl)|skip)
     refine qi (ι:=FI (errs l.rates.length (Ue l))) (fun i=>ck2 l i.k) (fun i=>l.rates.length - i.k) (FI.zero _) ?_ fun i=>?_
     ·(refine Le.ok some [] ?_;constructor;all_goals (try simp only [vle,vkt,seval,zC]))
      all_goals simp [FI.zero]
     ·have hk:=i.le
      rw [jD] at hk;have hco:1<=l.coins.length:=by unfold qR at h0;split at h0 <;> simp at h0;omega
      repeat' first|(apply nx;with_reducible constructor)|apply jq (by decide)
      (apply jz env;intro Q hQ;simp only [vkt,seval,qC,zC,ite_and];(repeat' first|with_reducible assumption|apply jw|intro hp);all_goals first|(apply hQ;clear hQ Q)|omega|assumption|rfl|(apply jx;kernel_rfl)|skip)
      repeat' first|(apply nx;with_reducible constructor)|apply jq (by decide)
      (refine zg (by simp only [vkt,seval];rfl) (fun h=>?_) (fun h=>?_) <;> (try simp only [vki] at h))
      ·have hlt:i.k < l.rates.length:=by omega
       have hp:(l.rates.getD i.k []).length<=maxLen:=by have:=hl.rs _ (jb (d:=[]) hlt);omega
       have e9:=qP hlt (show l.rates.length<=maxLen by omega)
       by_cases c1:yw (l.rates.getD i.k []) l.coins.length=0
       ·repeat' first|(apply nx;with_reducible constructor)|apply jq (by decide)|((first|apply jz env|apply jk);intro Q hQ;simp only [vkt,seval,qC,zC,c1,ite_and];(repeat' first|with_reducible assumption|apply jw|intro hp);all_goals first|(apply hQ;clear hQ Q)|omega|assumption|rfl|(apply jx;kernel_rfl)|skip)
        refine ⟨i.next hlt c1,by show l.rates.length - (i.k+1) < _;omega, ?_⟩
        (refine Le.ok some [] ?_;constructor;all_goals (try simp only [vle,vkt,seval,zC]))
        all_goals simp [FI.next,e9]
       ·repeat' first|(apply nx;with_reducible constructor)|apply jq (by decide)|((first|apply jz env|apply jk);intro Q hQ;simp only [vkt,seval,qC,zC,c1,ite_and];(repeat' first|with_reducible assumption|apply jw|intro hp);all_goals first|(apply hQ;clear hQ Q)|omega|assumption|rfl|(apply jx;kernel_rfl)|skip)
        (simp only [vrt,results64,vkt,seval,zC];refine Fin.val rfl ?_;(try simp only [AV.le]))
        have:=i.hit hlt c1
        all_goals (unfold qO;rw [if_neg (by rw [h0];simp),if_neg (by rw [hf1];simp),if_neg (by rw [h2];simp),if_pos (by rw [this];exact c1),this];rfl)
      ·have hf2:=i.last (by omega)
       by_cases h3:l.start.length=l.coins.length
       ·have h3':(l.start.length:Int)=l.coins.length:=by omega
        repeat' first|(apply nx;with_reducible constructor)|apply jq (by decide)|((first|apply jz env|apply jk);intro Q hQ;simp only [vkt,seval,qC,h3',ite_and];(repeat' first|with_reducible assumption|apply jw|intro hp);all_goals first|(apply hQ;clear hQ Q)|omega|assumption|rfl|(apply jx;kernel_rfl)|skip)
        refine qi (ι:=FI (errs l.start.length (kW l))) (fun i=>ck3 l i.k) (fun i=>l.start.length - i.k) (FI.zero _) ?_ fun i=>?_
        ·(refine Le.ok some [] ?_;constructor;all_goals (try simp only [vle,vkt,seval,zC]))
         all_goals simp [FI.zero,h3]
        ·have hk:=i.le
         rw [jD] at hk
         repeat' first|(apply nx;with_reducible constructor)|apply jq (by decide)
         (apply jz env;intro Q hQ;simp only [vkt,seval,qC,zC,ite_and];(repeat' first|with_reducible assumption|apply jw|intro hp);all_goals first|(apply hQ;clear hQ Q)|omega|assumption|rfl|(apply jx;kernel_rfl)|skip)
         repeat' first|(apply nx;with_reducible constructor)|apply jq (by decide)
         (refine zg (by simp only [vkt,seval];rfl) (fun h=>?_) (fun h=>?_) <;> (try simp only [vki] at h))
         ·have hlt:i.k < l.start.length:=by omega
          have e9:=qP hlt (show l.start.length<=maxLen by omega)
          by_cases c1:inB (l.start.getD i.k 0) 0 999=true
          ·repeat' first|(apply nx;with_reducible constructor)|apply jq (by decide)|((first|apply jz env|apply jk);intro Q hQ;simp only [vkt,seval,qC,zC,c1,ite_and];(repeat' first|with_reducible assumption|apply jw|intro hp);all_goals first|(apply hQ;clear hQ Q)|omega|assumption|rfl|(apply jx;kernel_rfl)|skip)
           refine ⟨i.next hlt (by unfold kW;rw [c1];rfl),by show l.start.length - (i.k+1) < _;omega, ?_⟩
           (refine Le.ok some [] ?_;constructor;all_goals (try simp only [vle,vkt,seval,zC]))
           all_goals simp [FI.next,e9]
          ·have c1:inB (l.start.getD i.k 0) 0 999=false:=by simpa using c1
           repeat' first|(apply nx;with_reducible constructor)|apply jq (by decide)|((first|apply jz env|apply jk);intro Q hQ;simp only [vkt,seval,qC,zC,c1,ite_and];(repeat' first|with_reducible assumption|apply jw|intro hp);all_goals first|(apply hQ;clear hQ Q)|omega|assumption|rfl|(apply jx;kernel_rfl)|skip)
           (simp only [vrt,results64,vkt,seval,zC];refine Fin.val rfl ?_;(try simp only [AV.le]))
           have:=i.hit hlt (by unfold kW;rw [c1];simp)
           have h1:kW l i.k=1:=by unfold kW;rw [c1];rfl
           all_goals (unfold qO;rw [if_neg (by rw [h0];simp),if_neg (by rw [hf1];simp),if_neg (by rw [h2];simp),if_neg (by rw [hf2];simp),if_neg (by rw [h3];simp),if_pos (by rw [this,h1];simp),this,h1])
         ·have hf3:=i.last (by omega)
          have hes:EsOk ⟨l.coins,l.rates,l.start,l.entries⟩:=⟨q1,q2,q3,h3,fun v hv=>by
           have hv:v ∈ l.start:=hv;obtain ⟨j,hj,rfl⟩:=bB hv
           have:=i.all j (by omega)
           rw [QF _ hj] at this;unfold kW at this
           cases hb:inB (l.start.getD j 0) 0 999 with
           |true=>rw [zy] at hb;simpa [ah,hj] using hb
           |false=>rw [hb] at this;simp at this⟩
          repeat' first|(apply nx;with_reducible constructor)|apply jq (by decide)|((first|apply jz env|apply jk);intro Q hQ;simp only [vkt,seval,qC,zC,ite_and];(repeat' first|with_reducible assumption|apply jw|intro hp);all_goals first|(apply hQ;clear hQ Q)|omega|assumption|rfl|(apply jx;kernel_rfl)|skip)
          (simp only [vrt,results64,vkt,seval,zC];refine Fin.val rfl ?_;(try simp only [AV.le]))
          all_goals (unfold qO;rw [if_neg (by rw [h0];simp),if_neg (by rw [hf1];simp),if_neg (by rw [h2];simp),if_neg (by rw [hf2];simp),if_neg (by rw [h3];simp),if_neg (by rw [hf3];simp)])
       ·have h3':¬ (l.start.length:Int)=l.coins.length:=by omega
        repeat' first|(apply nx;with_reducible constructor)|apply jq (by decide)|((first|apply jz env|apply jk);intro Q hQ;simp only [vkt,seval,qC,h3',ite_and];(repeat' first|with_reducible assumption|apply jw|intro hp);all_goals first|(apply hQ;clear hQ Q)|omega|assumption|rfl|(apply jx;kernel_rfl)|skip)
        (simp only [vrt,results64,vkt,seval,zC];refine Fin.val rfl ?_;(try simp only [AV.le]))
        all_goals (unfold qO;rw [if_neg (by rw [h0];simp),if_neg (by rw [hf1];simp),if_neg (by rw [h2];simp),if_neg (by rw [hf2];simp),if_pos h3])
    ·repeat' first|(apply nx;with_reducible constructor)|apply jq (by decide)|((first|apply jz env|apply jk);intro Q hQ;simp only [vkt,seval,qC,zC,h2,ite_and];(repeat' first|with_reducible assumption|apply jw|intro hp);all_goals first|(apply hQ;clear hQ Q)|omega|assumption|rfl|(apply jx;kernel_rfl)|skip)
     (simp only [vrt,results64,vkt,seval,zC];refine Fin.val rfl ?_;(try simp only [AV.le]))
     all_goals (unfold qO;rw [if_neg (by rw [h0];simp),if_neg (by rw [hf1];simp),if_pos h2])
 ·repeat' first|(apply nx;with_reducible constructor)|apply jq (by decide)|((first|apply jz env|apply jk);intro Q hQ;simp only [vkt,seval,qC,zC,h0,ite_and];(repeat' first|with_reducible assumption|apply jw|intro hp);all_goals first|(apply hQ;clear hQ Q)|omega|assumption|rfl|(apply jx;kernel_rfl)|skip)
  (simp only [vrt,results64,vkt,seval,zC];refine Fin.val rfl ?_;(try simp only [AV.le]))
  all_goals simp [qO,h0]
def Us (l:Led) (hl:Fit l):FnV prog 64 [zo l] (aI (qO l)):=XW l hl.w
def s50:List AV->Prop × AV
 |[.agg [.sl cs,.sl rs,.sl ss,.sl es]]=>(cs=(cs.map qM).map qG/\rs=(rs.map xC).map wM/\ss=(ss.map qE).map ql/\es=(es.map xy).map wz/\Fit ⟨cs.map qM,rs.map xC,ss.map qE,es.map xy⟩,aI (qO ⟨cs.map qM,rs.map xC,ss.map qE,es.map xy⟩))
 |_=>(False,.junk)
def e50 {A:Frm->Prop}:qc A prog 64 (zD true s50):=qL fun vs hv h=>by
 clear hv;unfold s50 at h ⊢
 split at h
 ·rename_i cs rs ss es
  obtain ⟨h1,h2,h3,h4,h5⟩:=h;refine ⟨trivial,fun _=>trivial, ?_⟩
  have:=Us ⟨cs.map qM,rs.map xC,ss.map qE,es.map xy⟩ h5;simp only [zo,qY,<- h1,<- h2,<- h3,<- h4] at this
  exact this
 ·exact h.elim
def s50w:List AV->Prop × AV
 |[.agg [.sl cs,.sl rs,.sl ss,.sl es]]=>(cs=(cs.map qM).map qG/\rs=(rs.map xC).map wM/\ss=(ss.map qE).map ql/\es=(es.map xy).map wz/\FitW ⟨cs.map qM,rs.map xC,ss.map qE,es.map xy⟩,aI (qO ⟨cs.map qM,rs.map xC,ss.map qE,es.map xy⟩))
 |_=>(False,.junk)
def e50w {A:Frm->Prop}:qc A prog 64 (zD true s50w):=qL fun vs hv h=>by
 clear hv;unfold s50w at h ⊢
 split at h
 ·rename_i cs rs ss es
  obtain ⟨h1,h2,h3,h4,h5⟩:=h;refine ⟨trivial,fun _=>trivial, ?_⟩
  have:=XW ⟨cs.map qM,rs.map xC,ss.map qE,es.map xy⟩ h5;simp only [zo,qY,<- h1,<- h2,<- h3,<- h4] at this
  exact this
 ·exact h.elim
def isL (cs rs ss es:List (List DV)):Prop:=cs=(cs.map qM).map qG/\rs=(rs.map xC).map wM/\ss=(ss.map qE).map ql/\es=(es.map xy).map wz
def wJ (cs rs ss es:List (List DV)):Led:=⟨cs.map qM,rs.map xC,ss.map qE,es.map xy⟩
def xR (l:Led):isL (l.coins.map qG) (l.rates.map wM) (l.start.map ql) (l.entries.map wz)=True:=by simp only [isL,xV,Rn,kE,W9,and_self]
def yF (l:Led):wJ (l.coins.map qG) (l.rates.map wM) (l.start.map ql) (l.entries.map wz)=l:=by simp only [wJ,xV,Rn,kE,W9]
def yC {cs rs ss es:List (List DV)} (h:isL cs rs ss es):zo (wJ cs rs ss es)=.agg [.sl cs,.sl rs,.sl ss,.sl es]:=by
 simp only [zo,qY,wJ,<- h.1,<- h.2.1,<- h.2.2.1,<- h.2.2.2]
def c50:List AV->Prop × AV
 |[.agg [.sl cs,.sl rs,.sl ss,.sl es]]=>(isL cs rs ss es/\Fit (wJ cs rs ss es),aI (qO (wJ cs rs ss es)))
 |_=>(False,.junk)
def d50 {A:Frm->Prop}:qc A prog 64 (zD true c50):=qL fun vs hv h=>by
 clear hv;unfold c50 at h ⊢
 split at h
 ·refine ⟨trivial,fun _=>trivial, ?_⟩
  rw [<- yC h.1];exact Us _ h.2
 ·exact h.elim
def xq:∀ {E:List Int},zS E=0->∀ e ∈ E,e=0
 |e :: r,h,x,hx=>by
  unfold zS at h;split at h
  ·rename_i he
   rcases ae.1 hx with rfl|hx
   ·exact he
   ·exact xq h x hx
  ·exact absurd h ‹_›
def ku {n:Nat} {f:Nat->Int} (h:zS (errs n f)=0) {k:Nat} (hk:k < n):f k=0 :=
 xq h _ (aj.2 ⟨k,aF.2 hk,rfl⟩)
def Zc {n a b:Int} (h:qR n a b=0):a<=n/\n<=b:=by
 unfold qR at h;split at h
 ·exact absurd h (by decide)
 ·split at h
  ·exact absurd h (by decide)
  ·omega
structure Val (l:Led):Prop where
 c:1<=l.coins.length/\l.coins.length<=4
 cs:∀ k,k < l.coins.length->Qi (l.coins.getD k [])=0
 r:1<=l.rates.length/\l.rates.length<=4
 rs:∀ k,k < l.rates.length->yw (l.rates.getD k []) l.coins.length=0
 sl:l.start.length=l.coins.length
 s:∀ v ∈ l.start,0<=v/\v<=999
 e:l.entries.length<=6
 es:∀ k,k < l.entries.length->eK l k=0
def Qv {l:Led} (h:qO l=0):Val l:=by
 unfold qO at h;split at h
 ·exact absurd h ‹_›
 rename_i a1;split at h
 ·exact absurd h ‹_›
 rename_i a2;split at h
 ·exact absurd h ‹_›
 rename_i a3;split at h
 ·exact absurd h ‹_›
 rename_i a4;split at h
 ·exact absurd h (by decide)
 rename_i a5;split at h
 ·exact absurd h ‹_›
 rename_i a6;unfold jX at h
 split at h
 ·exact absurd h ‹_›
 rename_i a7;have a1:=Zc (Decidable.not_not.1 a1)
 have a2:=Decidable.not_not.1 a2;have a3:=Zc (Decidable.not_not.1 a3)
 have a4:=Decidable.not_not.1 a4;have a5:=Decidable.not_not.1 a5
 have a6:=Decidable.not_not.1 a6;have a7:=Zc (Decidable.not_not.1 a7)
 refine ⟨by omega,fun k hk=>ku a2 hk,by omega,fun k hk=>ku a4 hk,a5,fun v hv=>?_,by omega,fun k hk=>ku h hk⟩
 obtain ⟨j,hj,rfl⟩:=bB hv;have:=ku a6 hj
 unfold kW at this;cases hb:inB (l.start.getD j 0) 0 999 with
 |true=>rw [zy] at hb;simpa [ah,hj] using hb
 |false=>rw [hb] at this;simp at this
def rsh (l:Led) (d c:Int):Sh:=(l.rates.getD d.toNat []).getD c.toNat default
def rq (l:Led) (d c:Int):Rat:=qI (rsh l d c).num (rsh l d c).den
structure Rt (l:Led) (d c:Int):Prop where
 d0:0<=d
 d1:d.toNat < l.rates.length
 c0:0<=c
 c1:c.toNat < (l.rates.getD d.toNat []).length
 q:rsh l d c=shQ (rq l d c)
 n0:1<=(rq l d c).num
 n1:(rq l d c).num<=20
 e1:(rq l d c).den<=12
def xe {l:Led} (h:Val l) {d c:Int} (hd:0<=d) (hd':d<=(l.rates.length:Int) - 1) (hc:0<=c) (hc':c<=(l.coins.length:Int) - 1):Rt l d c:=by
 have h1:=h.rs d.toNat (by omega)
 unfold yw at h1;split at h1
 ·exact absurd h1 (by decide)
 rename_i a1;split at h1
 ·exact absurd h1 (by decide)
 rename_i a2;have a1:=Decidable.not_not.1 a1
 have a2:=Decidable.not_not.1 a2;have key:rsh l d c=shQ (rq l d c)/\1<=(rsh l d c).num/\(rsh l d c).num<=20/\(rsh l d c).den<=12:=by
  by_cases hc0:c.toNat=0
  ·have:rsh l d c=⟨1,1⟩:=by unfold rsh;rw [hc0];exact a2
   unfold rq;rw [this]
   exact ⟨by decide,by decide,by decide,by decide⟩
  ·have h2:=ku h1 (k:=c.toNat - 1) (by omega)
   unfold YE at h2;rw [show 1+(c.toNat - 1)=c.toNat by omega] at h2
   change shE (rsh l d c)=0 at h2;generalize hs:rsh l d c=s at *
   unfold shE at h2;split at h2
   ·exact absurd h2 (by decide)
   rename_i b1;split at h2
   ·exact absurd h2 (by decide)
   rename_i b2;split at h2
   ·exact absurd h2 (by decide)
   rename_i b3;have b1:1<=s.num/\s.num<=20:=by simpa [inB] using b1
   have b2:1<=s.den/\s.den<=12:=by simpa [inB] using b2
   refine ⟨?_,b1.1,b1.2,b2.2⟩
   unfold rq;rw [hs];exact Decidable.not_not.1 b3
 have k1:=congrArg Sh.num key.1;have k2:=congrArg Sh.den key.1
 refine ⟨hd,by omega,hc,by omega,key.1, ?_, ?_, ?_⟩
 ·have:(rsh l d c).num=(rq l d c).num:=k1;omega
 ·have:(rsh l d c).num=(rq l d c).num:=k1;omega
 ·have:(rsh l d c).den=((rq l d c).den:Int):=k2;omega
def kP {l:Led} {d c:Int} (h:Rt l d c):Bd 20 (rq l d c):=by
 have h1:=h.n0;have h2:=h.n1
 have h3:=h.e1;have h4:=wY (rq l d c)
 refine ⟨?_,by omega,by omega⟩
 generalize (rq l d c).den=n at *;have:n=1\/n=2\/n=3\/n=4\/n=5\/n=6\/n=7\/n=8\/n=9\/n=10\/n=11\/n=12:=by omega
 rcases this with rfl|rfl|rfl|rfl|rfl|rfl|rfl|rfl|rfl|rfl|rfl|rfl <;> decide
def Qk0 {q:Rat} {n:Int} (hq:Bd 20 q) (h0:-300000<=n) (h1:n<=300000):Tm q n:=⟨hq.sm (by decide),by omega,by omega⟩
def Qc1 {q:Rat} {n:Int} (hq:Bd 20 q) (h0:-100000<=n) (h1:n<=100000):Tm q n:=⟨hq.sm (by decide),by omega,by omega⟩
def Qx:=jw @Yj (jw @xI (jw @xW (jw @QL (jw @xP (jw @WG.eq_1 (jw @vO.eq_1 (jw @vD.eq_1 (jw @xS.eq_1 @vC.eq_1))))))))
def Qax:=jw @aI.eq_1 (jw @aB.eq_1 (jw @zo.eq_1 (jw @qY.eq_1 (jw @aSh.eq_1 (jw @gShs (jw @gSh (jw @wM.eq_1 (@eSh.eq_1))))))))
def Qhh (l:Led) (d c:Int) (h:Rt l d c):FnV prog 101 [zo l,aI d,aI c] (aSh (shQ (rq l d c))):=by
 have env:=qz (A:=fun _=>True) kN
 refine kV (Fn0 func101 rfl (fun vs w=>by kernel_rfl) (by kernel_rfl)) (by simp) (by simp [AV.ids,AV.idsL,zo,qY,aI]) ?_
 have q1:=h.d0;have q2:=h.d1
 have q3:=h.c0;have q4:=h.c1
 repeat' first|(apply nx;with_reducible constructor)|apply jq (by decide)|((first|apply jz env|apply jk);intro Q hQ;simp only [vkt,seval,Qx,Qax,ite_and];(repeat' first|with_reducible assumption|apply jw|intro hp);all_goals first|(apply hQ;clear hQ Q)|omega|assumption|rfl|(apply jx;kernel_rfl)|skip)
 (simp only [vrt,results101,vkt,seval,Qx,Qax];refine Fin.val rfl ?_;(try simp only [AV.le,AV.leL]))
 all_goals (rw [<- h.q];exact ⟨rfl,rfl,trivial⟩)
def c98:List AV->Prop × AV
 |[.agg [.sl cs,.sl rs,.sl ss,.sl es],.v (.int .i64 d),.v (.int .i64 c)]=>(isL cs rs ss es/\Rt (wJ cs rs ss es) d c,aSh (shQ (rq (wJ cs rs ss es) d c)))
 |_=>(False,.junk)
def d98 {A:Frm->Prop}:qc A prog 101 (zD true c98):=qL fun vs hv h=>by
 clear hv;unfold c98 at h ⊢
 split at h
 ·refine ⟨by simp [AV.plain,AV.plainL,aSh],fun _=>by simp [AV.flat,AV.flatL,aSh], ?_⟩
  rw [<- yC h.1];exact Qhh _ _ _ h.2
 ·exact h.elim
def Qas (p:List Int) (k:Nat):Int:=if !inB (p.getD k 0) 0 4 then 1 else 0
def VT (n:Nat) (p:List Int):Int:=if p.length ≠ n then 2 else zS (errs p.length (Qas p))
def vK (l:Led) (c:Int) (ps:List (List Int)) (k:Nat):Int:=VT (l.coins.getD c.toNat []).length (ps.getD k [])
def xg (l:Led) (c n:Int) (ps:List (List Int)):Int:=if qO l ≠ 0 then qO l else if !inB c 0 ((l.coins.length:Int) - 1) then 3 else if zS (errs ps.length (vK l c ps)) ≠ 0 then zS (errs ps.length (vK l c ps)) else if !inB n 0 999 then 1 else 0
def moS1 (l:Led) (c n:Int) (ps:List (List Int)) (k:Nat):St:={ t:=asg [(1,aI c),(2,aI n),(4,.ptr 0 0),(8,aI 0),(26,qU ps),(27,aI ps.length),(28,aI k)],h:=qf [(0,.cells (qY l))],n:=1 }
def moS2 (l:Led) (c n:Int) (ps:List (List Int)) (k:Nat) (p:List Int) (i:Nat):St:={ t:=asg [(1,aI c),(2,aI n),(4,.ptr 0 0),(8,aI 0),(26,qU ps),(27,aI ps.length),(28,aI k),(41,qj p),(42,aI p.length),(43,aI i)],h:=qf [(0,.cells (qY l))],n:=1 }
def qF:=jw @ty3 (jw @jK (jw @WU (jw @Zv (jw @xI (jw @ti3.eq_1 (jw @jr.eq_1 (jw @Zy.eq_1 (jw @Qo.eq_1 @vO.eq_1))))))))
def zH:=jw @aI.eq_1 (jw @aB.eq_1 (jw @zo.eq_1 (jw @qY.eq_1 (jw @qj.eq_1 (jw @qU.eq_1 (jw @moS1.eq_1 (jw @moS2.eq_1 (jw @c50.eq_1 (jw @c50.eq_2 (jw @s79.eq_1 (jw @s79.eq_2 (jw @xR (jw @yF (jw @ql.eq_1 (jw @ZG (jw @qG.eq_1 (@Xi)))))))))))))))))
def QfF (l:Led) (c n:Int) (ps:List (List Int)) (hl:Fit l) (hm:ps.length<=maxLen) (hp:∀ p ∈ ps,p.length<=maxLen):FnV prog 112 [zo l,aI c,aI n,qU ps] (aI (xg l c n ps)):=by
 have env:=qz (A:=fun _=>True) (kC d50 (kC e79 kN))
 refine kV (Fn0 func112 rfl (fun vs w=>by kernel_rfl) (by kernel_rfl)) (by simp) (by simp [AV.ids,AV.idsL,aI,zo,qY,qU]) ?_
 have q5:=Vh;have q6:=hl.c
 have w1:IntKind.wrap .i64 ((l.coins.length:Int) - 1)=(l.coins.length:Int) - 1:=wrap64 (by omega) (by omega)
 by_cases h0:qO l=0
 ·have hV:=Qv h0
  have v1:=hV.c
  by_cases h1:inB c 0 ((l.coins.length:Int) - 1)=true
  ·have b1:=zy.1 h1
   have g1:0<=c:=b1.1;have g2:c.toNat < l.coins.length:=by omega
   have hlp:=hl.cs _ (jb (d:=[]) g2)
   repeat' first|(apply nx;with_reducible constructor)|apply jq (by decide)|((first|apply jz env|apply jk);intro Q hQ;simp only [vkt,seval,qF,zH,h0,w1,h1,ite_and];(repeat' first|with_reducible assumption|apply jw|intro hp);all_goals first|(apply hQ;clear hQ Q)|omega|assumption|rfl|(apply jx;kernel_rfl)|skip)
   refine qi (ι:=FI (errs ps.length (vK l c ps))) (fun i=>moS1 l c n ps i.k) (fun i=>ps.length - i.k) (FI.zero _) ?_ fun i=>?_
   ·(refine Le.ok some [] ?_;constructor;all_goals (try simp only [vle,vkt,seval,zH]))
    all_goals simp [FI.zero]
   ·have hk:=i.le
    rw [jD] at hk
    repeat' first|(apply nx;with_reducible constructor)|apply jq (by decide)
    (apply jz env;intro Q hQ;simp only [vkt,seval,qF,zH,ite_and];(repeat' first|with_reducible assumption|apply jw|intro hp);all_goals first|(apply hQ;clear hQ Q)|omega|assumption|rfl|(apply jx;kernel_rfl)|skip)
    repeat' first|(apply nx;with_reducible constructor)|apply jq (by decide)
    (refine zg (by simp only [vkt,seval];rfl) (fun h=>?_) (fun h=>?_) <;> (try simp only [vki] at h))
    ·have hlt:i.k < ps.length:=by omega
     have hpm:=hp _ (jb (d:=[]) hlt);have e9:=qP hlt hm
     generalize hpp:ps.getD i.k []=p at *
     by_cases h2:p.length=(l.coins.getD c.toNat []).length
     ·have h2':(p.length:Int)=(l.coins.getD c.toNat []).length:=by omega
      repeat' first|(apply nx;with_reducible constructor)|apply jq (by decide)|((first|apply jz env|apply jk);intro Q hQ;simp only [vkt,seval,qF,zH,hpp,h2',ite_and];(repeat' first|with_reducible assumption|apply jw|intro hp);all_goals first|(apply hQ;clear hQ Q)|omega|assumption|rfl|(apply jx;kernel_rfl)|skip)
      refine qi (ι:=FI (errs p.length (Qas p))) (fun j=>moS2 l c n ps i.k p j.k) (fun j=>p.length - j.k) (FI.zero _) ?_ fun j=>?_
      ·(refine Le.ok some [] ?_;constructor;all_goals (try simp only [vle,vkt,seval,zH]))
       all_goals first|(simp [FI.zero];done)|(simp [FI.zero,h2];done)
      ·have hj:=j.le
       rw [jD] at hj
       repeat' first|(apply nx;with_reducible constructor)|apply jq (by decide)
       (apply jz env;intro Q hQ;simp only [vkt,seval,qF,zH,ite_and];(repeat' first|with_reducible assumption|apply jw|intro hp);all_goals first|(apply hQ;clear hQ Q)|omega|assumption|rfl|(apply jx;kernel_rfl)|skip)
       repeat' first|(apply nx;with_reducible constructor)|apply jq (by decide)
       (refine zg (by simp only [vkt,seval];rfl) (fun h=>?_) (fun h=>?_) <;> (try simp only [vki] at h))
       ·have hjl:j.k < p.length:=by omega
        have e8:=qP hjl hpm
        by_cases c1:inB (p.getD j.k 0) 0 4=true
        ·repeat' first|(apply nx;with_reducible constructor)|apply jq (by decide)|((first|apply jz env|apply jk);intro Q hQ;simp only [vkt,seval,qF,zH,c1,ite_and];(repeat' first|with_reducible assumption|apply jw|intro hp);all_goals first|(apply hQ;clear hQ Q)|omega|assumption|rfl|(apply jx;kernel_rfl)|skip)
         refine ⟨j.next hjl (by unfold Qas;rw [c1];rfl),by show p.length - (j.k+1) < _;omega, ?_⟩
         (refine Le.ok some [] ?_;constructor;all_goals (try simp only [vle,vkt,seval,zH]))
         all_goals simp [FI.next,e8]
        ·have c1:inB (p.getD j.k 0) 0 4=false:=by simpa using c1
         have hj1:=j.hit hjl (by unfold Qas;rw [c1];simp)
         have hj2:Qas p j.k=1:=by unfold Qas;rw [c1];rfl
         have hi1:vK l c ps i.k=1:=by unfold vK VT;rw [hpp,if_neg (by simpa using h2),hj1,hj2]
         have hi2:=i.hit hlt (by rw [hi1];decide)
         repeat' first|(apply nx;with_reducible constructor)|apply jq (by decide)|((first|apply jz env|apply jk);intro Q hQ;simp only [vkt,seval,qF,zH,c1,ite_and];(repeat' first|with_reducible assumption|apply jw|intro hp);all_goals first|(apply hQ;clear hQ Q)|omega|assumption|rfl|(apply jx;kernel_rfl)|skip)
         (simp only [vrt,results112,vkt,seval,zH];refine Fin.val rfl ?_;(try simp only [AV.le]))
         all_goals (unfold xg;rw [if_neg (by rw [h0];simp),if_neg (by rw [h1];simp),if_pos (by rw [hi2,hi1];decide),hi2,hi1])
       ·have hj1:=j.last (by omega)
        have hi1:vK l c ps i.k=0:=by unfold vK VT;rw [hpp,if_neg (by simpa using h2),hj1]
        repeat' first|(apply nx;with_reducible constructor)|apply jq (by decide)|((first|apply jz env|apply jk);intro Q hQ;simp only [vkt,seval,qF,e9,ite_and];(repeat' first|with_reducible assumption|apply jw|intro hp);all_goals first|(apply hQ;clear hQ Q)|omega|assumption|rfl|(apply jx;kernel_rfl)|skip)
        refine ⟨i.next hlt hi1,by show ps.length - (i.k+1) < _;omega, ?_⟩
        (refine Le.ok some [] ?_;constructor;all_goals (try simp only [vle,vkt,seval,zH]))
        all_goals simp [FI.next]
     ·have h2':¬ (p.length:Int)=(l.coins.getD c.toNat []).length:=by omega
      have hi1:vK l c ps i.k=2:=by unfold vK VT;rw [hpp,if_pos h2]
      have hi2:=i.hit hlt (by rw [hi1];decide)
      repeat' first|(apply nx;with_reducible constructor)|apply jq (by decide)|((first|apply jz env|apply jk);intro Q hQ;simp only [vkt,seval,qF,zH,hpp,h2',ite_and];(repeat' first|with_reducible assumption|apply jw|intro hp);all_goals first|(apply hQ;clear hQ Q)|omega|assumption|rfl|(apply jx;kernel_rfl)|skip)
      (simp only [vrt,results112,vkt,seval,zH];refine Fin.val rfl ?_;(try simp only [AV.le]))
      all_goals (unfold xg;rw [if_neg (by rw [h0];simp),if_neg (by rw [h1];simp),if_pos (by rw [hi2,hi1];decide),hi2,hi1])
    ·have hf:=i.last (by omega)
     by_cases h3:inB n 0 999=true
     ·repeat' first|(apply nx;with_reducible constructor)|apply jq (by decide)|((first|apply jz env|apply jk);intro Q hQ;simp only [vkt,seval,zH,h3,ite_and];(repeat' first|with_reducible assumption|apply jw|intro hp);all_goals first|(apply hQ;clear hQ Q)|omega|assumption|rfl|(apply jx;kernel_rfl)|skip)
      (simp only [vrt,results112,vkt,seval,zH];refine Fin.val rfl ?_;(try simp only [AV.le]))
      all_goals (unfold xg;rw [if_neg (by rw [h0];simp),if_neg (by rw [h1];simp),if_neg (by rw [hf];simp),if_neg (by rw [h3];simp)])
     ·have h3:inB n 0 999=false:=by simpa using h3
      repeat' first|(apply nx;with_reducible constructor)|apply jq (by decide)|((first|apply jz env|apply jk);intro Q hQ;simp only [vkt,seval,zH,h3,ite_and];(repeat' first|with_reducible assumption|apply jw|intro hp);all_goals first|(apply hQ;clear hQ Q)|omega|assumption|rfl|(apply jx;kernel_rfl)|skip)
      (simp only [vrt,results112,vkt,seval,zH];refine Fin.val rfl ?_;(try simp only [AV.le]))
      all_goals (unfold xg;rw [if_neg (by rw [h0];simp),if_neg (by rw [h1];simp),if_neg (by rw [hf];simp),if_pos (by rw [h3];rfl)])
  ·have h1:inB c 0 ((l.coins.length:Int) - 1)=false:=by simpa using h1
   repeat' first|(apply nx;with_reducible constructor)|apply jq (by decide)|((first|apply jz env|apply jk);intro Q hQ;simp only [vkt,seval,qF,zH,h0,w1,h1,ite_and];(repeat' first|with_reducible assumption|apply jw|intro hp);all_goals first|(apply hQ;clear hQ Q)|omega|assumption|rfl|(apply jx;kernel_rfl)|skip)
   (simp only [vrt,results112,vkt,seval,zH];refine Fin.val rfl ?_;(try simp only [AV.le]))
   all_goals (unfold xg;rw [if_neg (by rw [h0];simp),if_pos (by rw [h1];rfl)])
 ·repeat' first|(apply nx;with_reducible constructor)|apply jq (by decide)|((first|apply jz env|apply jk);intro Q hQ;simp only [vkt,seval,qF,zH,h0,ite_and];(repeat' first|with_reducible assumption|apply jw|intro hp);all_goals first|(apply hQ;clear hQ Q)|omega|assumption|rfl|(apply jx;kernel_rfl)|skip)
  (simp only [vrt,results112,vkt,seval,zH];refine Fin.val rfl ?_;(try simp only [AV.le]))
  all_goals (unfold xg;rw [if_pos h0])
def c86:List AV->Prop × AV
 |[.agg [.sl cs,.sl rs,.sl ss,.sl es],.v (.int .i64 c),.v (.int .i64 n),.sl ps]=>(isL cs rs ss es/\Fit (wJ cs rs ss es)/\ps=(ps.map qM).map qG/\ps.length<=maxLen/\(∀ p ∈ ps.map qM,p.length<=maxLen),aI (xg (wJ cs rs ss es) c n (ps.map qM)))
 |_=>(False,.junk)
def d86 {A:Frm->Prop}:qc A prog 112 (zD true c86):=qL fun vs hv h=>by
 clear hv;unfold c86 at h ⊢
 split at h
 ·rename_i c n ps
  refine ⟨trivial,fun _=>trivial, ?_⟩
  have:=QfF _ c n _ h.2.1 (show (List.map qM _).length<=maxLen by rw [ab];exact h.2.2.2.1) h.2.2.2.2
  rw [<- yC h.1];simp only [qU,<- h.2.2.1] at this
  exact this
 ·exact h.elim
def Qe3 {l:Led} {c n:Int} {ps:List (List Int)} (h:xg l c n ps=0):Val l/\(0<=c/\c.toNat < l.coins.length)/\(∀ p ∈ ps,p.length=(l.coins.getD c.toNat []).length/\∀ v ∈ p,0<=v/\v<=4)/\0<=n/\n<=999:=by
 unfold xg at h;split at h
 ·exact absurd h ‹_›
 ·rename_i h0
  split at h
  ·exact absurd h (by decide)
  ·rename_i h1
   split at h
   ·exact absurd h ‹_›
   ·rename_i h2
    split at h
    ·exact absurd h (by decide)
    ·rename_i h3
     have b1:=zy.1 (by simpa using h1)
     have b3:=zy.1 (by simpa using h3)
     refine ⟨Qv (by simpa using h0),by omega,fun p hp=>?_,by omega⟩
     obtain ⟨k,hk,rfl⟩:=bB hp;have e1:=xq (Decidable.not_not.1 h2) (vK l c ps k) (aj.2 ⟨k,aF.2 hk,rfl⟩)
     unfold vK VT at e1;rw [show ps.getD k []=ps[k] by simp [ah,hk]] at e1
     split at e1
     ·exact absurd e1 (by decide)
     ·rename_i h4
      refine ⟨by simpa using h4,fun v hv=>?_⟩
      obtain ⟨j,hj,rfl⟩:=bB hv;have e2:=xq e1 (Qas ps[k] j) (aj.2 ⟨j,aF.2 hj,rfl⟩)
      unfold Qas at e2;rw [show ps[k].getD j 0=ps[k][j] by simp [ah,hj]] at e2
      split at e2
      ·exact absurd e2 (by decide)
      ·rename_i h5
       exact zy.1 (by simpa using h5)
def KR (x y:Int):Int:=if 0<=x/\(y < 0\/x+1 < y) then x+1 else y
def goN (p:Nat) (f:Nat->Int):Nat->Nat->Int
 |0,a=>f a
 |k+1,a=>if p<=a then KR (goN p f k (a - p)) (f a) else f a
def Vl {p:Nat} {f:Nat->Int} (hp:1<=p):∀ (k j a:Nat),a<=k->a<=j->goN p f k a=goN p f j a
 |0,j,a,hk,hj=>by
  obtain rfl:a=0:=by omega
  cases j with
  |zero=>rfl
  |succ j=>rw [goN,goN,if_neg (by omega)]
 |k+1,0,a,hk,hj=>by
  obtain rfl:a=0:=by omega
  rw [goN,goN,if_neg (by omega)]
 |k+1,j+1,a,hk,hj=>by
  rw [goN,goN]
  by_cases h:p<=a
  ·rw [if_pos h,if_pos h,Vl hp k j (a - p) (by omega) (by omega)]
  ·rw [if_neg h,if_neg h]
def gN (p:Nat) (f:Nat->Int) (a:Nat):Int:=goN p f a a
def Vp {p:Nat} {f:Nat->Int} {a:Nat} (h:a < p):gN p f a=f a:=by
 unfold gN;cases a with
 |zero=>rfl
 |succ a=>rw [goN,if_neg (by omega)]
def YK {p:Nat} {f:Nat->Int} (hp:1<=p) {a:Nat} (h:p<=a):gN p f a=KR (gN p f (a - p)) (f a):=by
 unfold gN;obtain ⟨b,rfl⟩:∃ b,a=b+1:=⟨a - 1,by omega⟩
 rw [goN,if_pos h,Vl hp b (b+1 - p) (b+1 - p) (by omega) (by omega)]
def wu:List Int->Nat->Int
 |[],a=>if a=0 then 0 else -1
 |p :: ps,a=>gN p.toNat (wu ps) a
def Qig {x y:Int} (hx:-1<=x) (hy:-1<=y):-1<=KR x y:=by unfold KR;split <;> omega
def Qg6 {p:Nat} {f:Nat->Int} (hp:1<=p) (h:∀ a,-1<=f a) (a:Nat):-1<=gN p f a:=by
 induction a using Nat.strongRecOn with
 |_ a ih =>
  by_cases hc:p<=a
  ·rw [YK hp hc];exact Qig (ih _ (by omega)) (h a)
  ·rw [Vp (by omega)];exact h a
def Qje {p:Nat} {f:Nat->Int} (hp:1<=p) (h:∀ a:Nat,f a<=a) (a:Nat):gN p f a<=a:=by
 induction a using Nat.strongRecOn with
 |_ a ih =>
  by_cases hc:p<=a
  ·rw [YK hp hc]
   have h1:=ih (a - p) (by omega)
   have h2:=h a;unfold KR
   split <;> omega
  ·rw [Vp (by omega)];exact h a
def Vw:∀ {ps:List Int},(∀ p ∈ ps,1<=p)->∀ a:Nat,-1<=wu ps a/\wu ps a<=a
 |[],_,a=>by unfold wu;split <;> omega
 |p :: ps,h,a=>by
  have h1:=h p aV;have h2:=fun a=>Vw (ps:=ps) (fun q hq=>h q (aQ _ hq)) a
  exact ⟨Qg6 (by omega) (fun a=>(h2 a).1) a,Qje (by omega) (fun a=>(h2 a).2) a⟩
def Q5 (p:Nat) (f:Nat->Int) (a:Nat) (m:Nat):Bool:=decide (m * p<=a) && decide (0<=f (a - m * p)) && decide (f (a - m * p)+m=gN p f a)
def Qc9 {p:Nat} {f:Nat->Int} (hp:1<=p) (a:Nat) (h:0<=gN p f a):∃ m,Q5 p f a m=true:=by
 induction a using Nat.strongRecOn with
 |_ a ih =>
  by_cases hc:p<=a
  ·rw [YK hp hc] at h
   by_cases hu:0<=gN p f (a - p)/\(f a < 0\/gN p f (a - p)+1 < f a)
   ·obtain ⟨m,hm⟩:=ih (a - p) (by omega) hu.1
    refine ⟨m+1, ?_⟩
    unfold Q5 at hm ⊢;simp only [aZ,decide_eq_true_eq] at hm ⊢
    have e1:(m+1) * p=m * p+p:=cA m p;have e2:a - (m+1) * p=a - p - m * p:=by omega
    have e3:gN p f a=gN p f (a - p)+1:=by rw [YK hp hc];unfold KR;rw [if_pos hu]
    rw [e2,e3];refine ⟨⟨by omega,hm.1.2⟩, ?_⟩
    have:=hm.2;omega
   ·refine ⟨0, ?_⟩
    unfold Q5;simp only [aZ,decide_eq_true_eq]
    have e3:gN p f a=f a:=by rw [YK hp hc];unfold KR;rw [if_neg hu]
    rw [<- YK hp hc,e3] at h;rw [e3]
    simp;exact h
  ·refine ⟨0, ?_⟩
   rw [Vp (by omega)] at h
   unfold Q5;simp only [aZ,decide_eq_true_eq]
   rw [Vp (by omega)]
   simp;exact h
def Qcz {p:Nat} {f:Nat->Int} (hp:1<=p) {a m:Nat} (h:Q5 p f a m=true):m<=a:=by
 unfold Q5 at h;simp only [aZ,decide_eq_true_eq] at h
 have:=Nat.le_mul_of_pos_right m hp;omega
def yH (p:Nat) (f:Nat->Int) (a:Nat):Nat:=((List.range (a+1)).find? (Q5 p f a)).getD 0
def Qbu {p:Nat} {f:Nat->Int} (hp:1<=p) {a m:Nat} (h:Q5 p f a m=true) (hb:∀ j,j < m->Q5 p f a j=false):yH p f a=m:=by
 have hm:=Qcz hp h;unfold yH
 have:(List.range (a+1)).find? (Q5 p f a)=some m:=by
  rw [dF];exact ⟨h,aF.2 (by omega),fun j hj=>by simpa using hb j hj⟩
 rw [this];rfl
def Z5 {p:Nat} {f:Nat->Int} (hp:1<=p) {a:Nat} (h:0<=gN p f a):Q5 p f a (yH p f a)=true:=by
 obtain ⟨m,hm⟩:=Qc9 hp a h;have hle:=Qcz hp hm
 unfold yH;cases hq:(List.range (a+1)).find? (Q5 p f a) with
 |some i=>exact List.find?_some hq
 |none=>exact absurd hm (dG.1 hq m (aF.2 (by omega)))
def pcA (ps:List Int) (A:Nat):Nat->Nat
 |0=>A
 |i+1=>pcA ps A i - yH (ps.getD i 0).toNat (wu (ps.drop (i+1))) (pcA ps A i) * (ps.getD i 0).toNat
def pcM (ps:List Int) (A:Nat) (i:Nat):Nat:=yH (ps.getD i 0).toNat (wu (ps.drop (i+1))) (pcA ps A i)
def pcL (ps:List Int) (A:Nat) (k:Nat):List Int:=(List.range k).map fun i=>(pcM ps A i:Int)
def QgJ (ps:List Int) (A k:Nat):pcL ps A (k+1)=pcL ps A k++[(pcM ps A k:Int)]:=by unfold pcL;rw [bL,ai];rfl
def Qiu (ps:List Int) (A k:Nat):(pcL ps A k).length=k:=by simp [pcL]
def Yh {ps:List Int} {i:Nat} (h:i < ps.length) (a:Nat):wu (ps.drop i) a=gN (ps.getD i 0).toNat (wu (ps.drop (i+1))) a:=by
 rw [dh h,wu];simp [ah,h]
def Qfa {ps:List Int} (hp:∀ p ∈ ps,1<=p) {A:Nat} (h0:0<=wu ps A):∀ i,i<=ps.length->0<=wu (ps.drop i) (pcA ps A i)/\pcA ps A i<=A
 |0,_=>by rw [List.drop_zero];exact ⟨h0,ag _⟩
 |i+1,hi=>by
  obtain ⟨h1,h2⟩:=Qfa hp h0 i (by omega)
  have h3:=hp _ (jb (d:=0) (show i < ps.length by omega))
  rw [Yh (by omega)] at h1
  have h4:=Z5 (by omega) h1
  unfold Q5 at h4;simp only [aZ,decide_eq_true_eq] at h4
  rw [pcA];exact ⟨h4.1.2,by omega⟩
def QeM {ps:List Int} (hp:∀ p ∈ ps,1<=p) (h1:ps.getD 0 0=1) (hl:1<=ps.length) (a:Nat):0<=wu ps a:=by
 obtain ⟨p,r,rfl⟩:∃ p r,ps=p :: r:=by cases ps with|nil=>simp at hl|cons p r=>exact ⟨p,r,rfl⟩
 obtain rfl:p=1:=by simpa using h1
 have hr:∀ a,-1<=wu r a:=fun a=>(Vw (fun q hq=>hp q (aQ _ hq)) a).1
 have h00:∀ {r:List Int},(∀ p ∈ r,1<=p)->wu r 0=0:=by
  intro r
  induction r with
  |nil=>intro _;rfl
  |cons q r ih =>
   intro h;have:=h q aV
   rw [wu,Vp (by omega)]
   exact ih fun x hx=>h x (aQ _ hx)
 rw [wu];show 0<=gN 1 (wu r) a
 induction a with
 |zero=>rw [Vp (by omega),h00 fun q hq=>hp q (aQ _ hq)];decide
 |succ a ih =>
  rw [YK (ag _) (by omega),show a+1 - 1=a by omega]
  unfold KR;have:=hr (a+1)
  split <;> omega
structure PsOk (ps:List Int):Prop where
 l:1<=ps.length/\ps.length<=4
 one:ps.getD 0 0=1
 b:∀ p ∈ ps,1<=p/\p<=50
 inc:∀ i,i+1 < ps.length->ps.getD i 0 < ps.getD (i+1) 0
def Qcx {p:List Int} (h:Qi p=0):PsOk p:=by
 unfold Qi at h;split at h
 ·exact absurd h ‹_›
 ·rename_i h0
  split at h
  ·exact absurd h (by decide)
  ·rename_i h1
   have hl:1<=p.length/\p.length<=4:=by unfold qR at h0;split at h0 <;> simp at h0;omega
   have hs:∀ i,i+1 < p.length->p.getD (i+1) 0<=50/\p.getD i 0 < p.getD (i+1) 0:=fun i hi=>by
    have:=xq h (Qw p i) (aj.2 ⟨i,aF.2 (by omega),rfl⟩)
    unfold Qw at this;rw [bR 1 i] at this
    split at this
    ·exact absurd this (by decide)
    ·split at this
     ·exact absurd this (by decide)
     ·omega
   have hb:∀ i,i < p.length->1<=p.getD i 0/\p.getD i 0<=50:=fun i=>by
    induction i with
    |zero=>intro _;omega
    |succ i ih=>intro hi;have:=ih (by omega);have:=hs i hi;omega
   refine ⟨hl,by omega,fun q hq=>?_,fun i hi=>(hs i hi).2⟩
   obtain ⟨j,hj,rfl⟩:=bB hq;have:=hb j hj
   simpa [ah,hj] using this
def jM (f:Nat->Int) (A:Nat):List Int:=(List.range (A+1)).map f
def JY (f:Nat->Int) (A:Nat):(jM f A).length=A+1:=by simp [jM]
def JS {f:Nat->Int} {A j:Nat} (h:j<=A):(jM f A).getD j 0=f j:=by simp [jM,ah,show j < A+1 by omega]
def Un {f:Nat->Int} {A j:Nat} {v:Int}:(jM f A).set j v=jM (fun i=>if i=j then v else f i) A:=by
 apply bS
 intro i;simp only [jM,cO,aC,ab,d7]
 by_cases hi:j=i
 ·subst hi
  by_cases h:j < A+1
  ·simp [h]
  ·simp [h]
 ·rw [if_neg hi]
  by_cases h:i < A+1
  ·simp [h];exact fun h'=>absurd h'.symm hi
  ·simp [h]
def kU {f g:Nat->Int} {A:Nat} (h:∀ j,j<=A->f j=g j):jM f A=jM g A:=by
 unfold jM;exact bP fun j hj=>h j (by have:=aF.1 hj;omega)
def Qq (p:Nat) (f:Nat->Int) (n:Nat):Nat->Int:=fun j=>if j < n then gN p f j else f j
def Qeg {p:Nat} {f:Nat->Int} {A:Nat}:jM (Qq p f p) A=jM f A:=kU fun j _=>by
 unfold Qq;split
 ·exact Vp ‹_›
 ·rfl
def QhF {p:Nat} {f:Nat->Int} {A n:Nat} (h:A < n):jM (Qq p f n) A=jM (gN p f) A:=kU fun j hj=>by
 unfold Qq;rw [if_pos (by omega)]
def QiF {p:Nat} {f:Nat->Int} {A n:Nat} {v:Int} (hv:gN p f n=v):(jM (Qq p f n) A).set n v=jM (Qq p f (n+1)) A:=by
 rw [Un];refine kU fun j _=>?_
 unfold Qq
 by_cases h:j=n
 ·subst h;rw [if_pos rfl,if_pos (by omega),hv]
 ·rw [if_neg h]
  by_cases h1:j < n
  ·rw [if_pos h1,if_pos (by omega)]
  ·rw [if_neg h1,if_neg (by omega)]
def Qfs {p:Nat} {f:Nat->Int} {A n:Nat} (hv:gN p f n=f n):jM (Qq p f n) A=jM (Qq p f (n+1)) A:=kU fun j _=>by
 unfold Qq
 by_cases h:j=n
 ·subst h;rw [if_neg (by omega),if_pos (by omega),hv]
 ·by_cases h1:j < n
  ·rw [if_pos h1,if_pos (by omega)]
  ·rw [if_neg h1,if_neg (by omega)]
def jJ (g:Nat->AV) (n:Nat):List AV:=(List.range n).map g
def Qeu (g:Nat->AV) (n:Nat):(jJ g n).length=n:=by simp [jJ]
def Qeh {g:Nat->AV} {n k:Nat} (h:k < n):((jJ g n).drop k).take 1=[g k]:=by
 apply bS
 intro i;rw [aP]
 by_cases hi:i < 1
 ·obtain rfl:i=0:=by omega
  simp [jJ,h]
 ·rw [if_neg hi]
  simp;omega
def QaH {g:Nat->AV} {n k:Nat} {v:AV} (h:k < n):(jJ g n).take k++v :: (jJ g n).drop (k+1)=jJ (fun j=>if j=k then v else g j) n:=by
 apply bS
 intro i;rw [List.getElem?_append]
 simp only [jJ,bi,ab,d7];rw [show min k n=k by omega]
 by_cases h1:i < k
 ·rw [if_pos h1,aP,if_pos h1]
  simp [show i < n by omega,show i ≠ k by omega]
 ·rw [if_neg h1]
  by_cases h2:i=k
  ·subst h2
   simp [h]
  ·rw [show i - k=(i - k - 1)+1 by omega,bt,bM,show k+1+(i - k - 1)=i by omega]
   by_cases h3:i < n
   ·simp [h3,h2]
   ·simp [h3]
def Qf6 (n:Nat):List.replicate n AV.nil=jJ (fun _=>.nil) n:=by
 apply bS
 intro i;simp only [jJ,da,aC]
 by_cases h:i < n <;> simp [h]
def Y7 {h:Nat->Option AObj} {Z:Nat->Option Nat} {g g':Nat->AV} {n:Nat} (hg:∀ j,j < n->AV.le h Z (g j) (g' j)):AV.leL h Z (jJ g n) (jJ g' n):=by
 have key:∀ (l:List Nat),(∀ j ∈ l,AV.le h Z (g j) (g' j))->AV.leL h Z (l.map g) (l.map g'):=by
  intro l
  induction l with
  |nil=>intro _;exact trivial
  |cons a l ih=>intro hh;exact ⟨hh a aV,ih fun j hj=>hh j (aQ _ hj)⟩
 exact key _ fun j hj=>hg j (aF.1 hj)
def Qaa {g:Nat->AV} {n N:Nat} (hg:∀ j,j < n->∀ id ∈ (g j).ids,id < N):∀ id ∈ AV.idsL (jJ g n),id < N:=fun id hid=>by
 obtain ⟨c,hc,hi⟩:=AV.mem_idsL.1 hid;obtain ⟨j,hj,rfl⟩:=aj.1 hc
 exact hg j (aF.1 hj) id hi
end Go.Sym.B
namespace Go.Proofs
open Go Go.Shelf Go.Proofs.Tryz
def Tryz.lays156_ren:Go.Shelf.Ren:=⟨fun|156=>45|165=>91|166=>92|169=>93|240=>150|241=>151|276=>190|277=>191|n=>n,fun|31=>33|9=>9|3=>3|4=>4|0=>0|20=>20|72=>172|76=>176|70=>170|37=>99|75=>175|127=>242|164=>272|5=>5|80=>178|n=>n,fun|n=>n⟩
def Tryz.lays156:Go.Proofs.Lays.n156 prog Tryz.lays156_ren:={
 mixed:=by kernel_rfl
 f156:=func45.trans (congrArg some (by kernel_rfl))
 f165:=func91.trans (congrArg some (by kernel_rfl))
 f166:=func92.trans (congrArg some (by kernel_rfl))
 f169:=func93.trans (congrArg some (by kernel_rfl))
 f240:=func150.trans (congrArg some (by kernel_rfl))
 f241:=func151.trans (congrArg some (by kernel_rfl))
 f276:=func190.trans (congrArg some (by kernel_rfl))
 f277:=func191.trans (congrArg some (by kernel_rfl))
 t0:=underlying0
 a0:=isAgg0
 z0:=sizeOf0
 v0:=zeroValue0
 t3:=underlying3
 a3:=isAgg3
 z3:=sizeOf3
 v3:=zeroValue3
 t4:=underlying4
 a4:=isAgg4
 z4:=sizeOf4
 v4:=zeroValue4
 t9:=underlying9
 a9:=isAgg9
 z9:=sizeOf9
 v9:=zeroValue9
 t20:=underlying20
 a20:=isAgg20
 z20:=sizeOf20
 v20:=zeroValue20
 t31:=underlying33
 a31:=isAgg33
 z31:=sizeOf33
 v31:=zeroValue33
 t37:=underlying99
 a37:=isAgg99
 z37:=sizeOf99
 v37:=zeroValue99
 t70:=underlying170
 a70:=isAgg170
 z70:=sizeOf170
 v70:=zeroValue170
 t72:=underlying172
 a72:=isAgg172
 z72:=sizeOf172
 v72:=zeroValue172
 t75:=underlying175
 a75:=isAgg175
 z75:=sizeOf175
 v75:=zeroValue175
 t76:=underlying176
 a76:=isAgg176
 z76:=sizeOf176
 v76:=zeroValue176
 t127:=underlying242
 a127:=isAgg242
 z127:=sizeOf242
 v127:=zeroValue242
 t164:=underlying272
 a164:=isAgg272
 z164:=sizeOf272
 v164:=zeroValue272 }
def Tryz.Builder_Extra_156:Builder.Extra prog Tryz.lays156_ren:={
 sizeBuilder:=by kernel_rfl
 liesBuilder:=by kernel_rfl
 t5:=underlying5
 a5:=isAgg5
 z5:=sizeOf5
 v5:=zeroValue5
 infoByte:=by kernel_rfl
 cellsByte:=by kernel_rfl
 sizeByte:=by kernel_rfl
 neB5:=by decide }
open Go.RowKit in
def Tryz.strings_Join_none (a:Option Addr) (c:Nat) (sep:ByteArray) (w:World) :
  Calls prog 45 #[.slice a 0 c,.string sep] w fun e w'=>e=.returned (.string ⟨#[]⟩)/\w'=w:=Any.strings_Join_none Tryz.lays156 Tryz.Builder_Extra_156 a c sep w
open Go.RowKit in
def Tryz.strings_Join (bk o c:Nat) (xs:List ByteArray) (sep:ByteArray) (w:World) (hcells:∀ (j:Nat) x,xs[j]?=some x->w.cell? ⟨bk,o+j,none⟩=some (.string x)) (hbk:bk < w.heap.size) (hN:xs.length<=140737488355328) (hcap:xs.length<=c) (hlen:(Lib.join (xs.map (·.data.toList)) sep.data.toList).length<=140737488355328) :
  Calls prog 45 #[.slice (some ⟨bk,o,none⟩) xs.length c,.string sep] w fun e w'=>e=.returned (.string ⟨(Lib.join (xs.map (·.data.toList)) sep.data.toList).toArray⟩)/\Below w.heap.size w w':=Any.strings_Join Tryz.lays156 Tryz.Builder_Extra_156 bk o c xs sep w hcells hbk hN hcap hlen
def Tryz.laysM171_ren:Go.Shelf.Ren:=⟨fun|171=>43|243=>90|246=>149|283=>186|284=>187|285=>188|286=>189|129=>212|317=>211|318=>213|319=>214|320=>215|337=>225|338=>226|n=>n,fun|3=>3|9=>9|2=>2|4=>4|171=>267|0=>0|53=>90|37=>99|5=>5|173=>270|212=>293|51=>280|20=>20|213=>294|46=>93|232=>308|233=>309|n=>n,fun|17=>0|18=>2|19=>3|n=>n⟩
def Tryz.laysM171:Go.Proofs.LaysM.n171 prog Tryz.laysM171_ren:={
 mixed:=by kernel_rfl
 f129:=func212.trans (congrArg some (by kernel_rfl))
 f171:=func43.trans (congrArg some (by kernel_rfl))
 f243:=func90.trans (congrArg some (by kernel_rfl))
 f246:=func149.trans (congrArg some (by kernel_rfl))
 f283:=func186.trans (congrArg some (by kernel_rfl))
 f284:=func187.trans (congrArg some (by kernel_rfl))
 f285:=func188.trans (congrArg some (by kernel_rfl))
 f286:=func189.trans (congrArg some (by kernel_rfl))
 f317:=func211.trans (congrArg some (by kernel_rfl))
 f318:=func213.trans (congrArg some (by kernel_rfl))
 f319:=func214.trans (congrArg some (by kernel_rfl))
 f320:=func215.trans (congrArg some (by kernel_rfl))
 f337:=func225.trans (congrArg some (by kernel_rfl))
 f338:=func226.trans (congrArg some (by kernel_rfl))
 t0:=underlying0
 a0:=isAgg0
 z0:=sizeOf0
 v0:=zeroValue0
 t2:=underlying2
 a2:=isAgg2
 z2:=sizeOf2
 v2:=zeroValue2
 t3:=underlying3
 a3:=isAgg3
 z3:=sizeOf3
 v3:=zeroValue3
 t4:=underlying4
 a4:=isAgg4
 z4:=sizeOf4
 v4:=zeroValue4
 t5:=underlying5
 a5:=isAgg5
 z5:=sizeOf5
 v5:=zeroValue5
 t9:=underlying9
 a9:=isAgg9
 z9:=sizeOf9
 v9:=zeroValue9
 t20:=underlying20
 a20:=isAgg20
 z20:=sizeOf20
 v20:=zeroValue20
 t37:=underlying99
 a37:=isAgg99
 z37:=sizeOf99
 v37:=zeroValue99
 t46:=underlying93
 a46:=isAgg93
 z46:=sizeOf93
 v46:=zeroValue93
 t51:=underlying280
 a51:=isAgg280
 z51:=sizeOf280
 v51:=zeroValue280
 t53:=underlying90
 a53:=isAgg90
 z53:=sizeOf90
 v53:=zeroValue90
 t171:=underlying267
 a171:=isAgg267
 z171:=sizeOf267
 v171:=zeroValue267
 t173:=underlying270
 a173:=isAgg270
 z173:=sizeOf270
 v173:=zeroValue270
 t212:=underlying293
 a212:=isAgg293
 z212:=sizeOf293
 v212:=zeroValue293
 t213:=underlying294
 a213:=isAgg294
 z213:=sizeOf294
 t232:=underlying308
 a232:=isAgg308
 z232:=sizeOf308
 v232:=zeroValue308
 t233:=underlying309
 a233:=isAgg309
 z233:=sizeOf309
 v233:=zeroValue309
 g17:=by kernel_rfl
 g18:=by kernel_rfl
 g19:=by kernel_rfl
 i0:=by kernel_rfl
 i2:=by kernel_rfl
 i3:=by kernel_rfl
 i4:=by kernel_rfl
 i5:=by kernel_rfl
 i9:=by kernel_rfl
 i20:=by kernel_rfl
 i37:=by kernel_rfl
 i46:=by kernel_rfl
 i51:=by kernel_rfl
 i53:=by kernel_rfl
 i171:=by kernel_rfl
 i173:=by kernel_rfl
 i212:=by kernel_rfl
 i232:=by kernel_rfl
 i233:=by kernel_rfl
 m17:=by kernel_rfl
 m18:=by kernel_rfl
 m19:=by kernel_rfl }
open Go.RowKit Go.Sort Go.Lib in
def Tryz.strconv_Itoa (n : Int) (h0 : -9223372036854775808 <= n) (h1 : n <= 9223372036854775807) (w : World) (htab : Lib.TabIs prog w "internal/strconv.uint64pow10" .u64 Lib.pow10Tab) :
  Calls prog 43 #[.int .i64 n] w fun e w'=>e=.returned (.string ⟨(Lib.itoa n).toArray⟩)/\∃ k os,w'=grow (w.drewN k) os:=Any.strconv_Itoa Tryz.laysM171 n h0 h1 w htab
open Go.RowKit Go.Sort Go.Lib in
def Tryz.laysC172_ren:Go.Shelf.Ren:=⟨fun|172=>199|244=>220|245=>221|247=>232|279=>233|280=>234|281=>235|282=>236|287=>240|316=>241|171=>43|205=>242|321=>243|322=>244|243=>90|246=>149|283=>186|284=>187|285=>188|286=>189|129=>212|317=>211|318=>213|319=>214|320=>215|337=>225|338=>226|n=>n,fun|9=>9|3=>3|75=>175|76=>176|4=>4|5=>5|167=>302|37=>99|0=>0|85=>303|2=>2|168=>305|53=>90|175=>315|46=>93|210=>319|127=>242|145=>325|143=>323|21=>21|171=>267|173=>270|212=>293|51=>280|20=>20|213=>294|232=>308|233=>309|80=>178|n=>n,fun|15=>6|16=>7|17=>0|18=>2|19=>3|n=>n⟩
def Tryz.laysC172:Go.Proofs.LaysC.n172 prog Tryz.laysC172_ren:={
 mixed:=by kernel_rfl
 f129:=func212.trans (congrArg some (by kernel_rfl))
 f171:=func43.trans (congrArg some (by kernel_rfl))
 f172:=func199.trans (congrArg some (by kernel_rfl))
 f205:=func242.trans (congrArg some (by kernel_rfl))
 f243:=func90.trans (congrArg some (by kernel_rfl))
 f244:=func220.trans (congrArg some (by kernel_rfl))
 f245:=func221.trans (congrArg some (by kernel_rfl))
 f246:=func149.trans (congrArg some (by kernel_rfl))
 f247:=func232.trans (congrArg some (by kernel_rfl))
 f279:=func233.trans (congrArg some (by kernel_rfl))
 f280:=func234.trans (congrArg some (by kernel_rfl))
 f281:=func235.trans (congrArg some (by kernel_rfl))
 f282:=func236.trans (congrArg some (by kernel_rfl))
 f283:=func186.trans (congrArg some (by kernel_rfl))
 f284:=func187.trans (congrArg some (by kernel_rfl))
 f285:=func188.trans (congrArg some (by kernel_rfl))
 f286:=func189.trans (congrArg some (by kernel_rfl))
 f287:=func240.trans (congrArg some (by kernel_rfl))
 f316:=func241.trans (congrArg some (by kernel_rfl))
 f317:=func211.trans (congrArg some (by kernel_rfl))
 f318:=func213.trans (congrArg some (by kernel_rfl))
 f319:=func214.trans (congrArg some (by kernel_rfl))
 f320:=func215.trans (congrArg some (by kernel_rfl))
 f321:=func243.trans (congrArg some (by kernel_rfl))
 f322:=func244.trans (congrArg some (by kernel_rfl))
 f337:=func225.trans (congrArg some (by kernel_rfl))
 f338:=func226.trans (congrArg some (by kernel_rfl))
 t0:=underlying0
 a0:=isAgg0
 z0:=sizeOf0
 v0:=zeroValue0
 t2:=underlying2
 a2:=isAgg2
 z2:=sizeOf2
 v2:=zeroValue2
 t3:=underlying3
 a3:=isAgg3
 z3:=sizeOf3
 v3:=zeroValue3
 t4:=underlying4
 a4:=isAgg4
 z4:=sizeOf4
 v4:=zeroValue4
 t5:=underlying5
 a5:=isAgg5
 z5:=sizeOf5
 v5:=zeroValue5
 t9:=underlying9
 a9:=isAgg9
 z9:=sizeOf9
 v9:=zeroValue9
 t20:=underlying20
 a20:=isAgg20
 z20:=sizeOf20
 v20:=zeroValue20
 t21:=underlying21
 a21:=isAgg21
 z21:=sizeOf21
 v21:=zeroValue21
 t37:=underlying99
 a37:=isAgg99
 z37:=sizeOf99
 v37:=zeroValue99
 t46:=underlying93
 a46:=isAgg93
 z46:=sizeOf93
 v46:=zeroValue93
 t51:=underlying280
 a51:=isAgg280
 z51:=sizeOf280
 v51:=zeroValue280
 t53:=underlying90
 a53:=isAgg90
 z53:=sizeOf90
 v53:=zeroValue90
 t75:=underlying175
 a75:=isAgg175
 z75:=sizeOf175
 v75:=zeroValue175
 t76:=underlying176
 a76:=isAgg176
 z76:=sizeOf176
 v76:=zeroValue176
 t85:=underlying303
 a85:=isAgg303
 z85:=sizeOf303
 v85:=zeroValue303
 t127:=underlying242
 a127:=isAgg242
 z127:=sizeOf242
 v127:=zeroValue242
 t143:=underlying323
 a143:=isAgg323
 z143:=sizeOf323
 v143:=zeroValue323
 t145:=underlying325
 a145:=isAgg325
 z145:=sizeOf325
 v145:=zeroValue325
 t167:=underlying302
 a167:=isAgg302
 z167:=sizeOf302
 v167:=zeroValue302
 t168:=underlying305
 a168:=isAgg305
 z168:=sizeOf305
 v168:=zeroValue305
 t171:=underlying267
 a171:=isAgg267
 z171:=sizeOf267
 v171:=zeroValue267
 t173:=underlying270
 a173:=isAgg270
 z173:=sizeOf270
 v173:=zeroValue270
 t175:=underlying315
 a175:=isAgg315
 z175:=sizeOf315
 v175:=zeroValue315
 t210:=underlying319
 a210:=isAgg319
 z210:=sizeOf319
 v210:=zeroValue319
 t212:=underlying293
 a212:=isAgg293
 z212:=sizeOf293
 v212:=zeroValue293
 t213:=underlying294
 a213:=isAgg294
 z213:=sizeOf294
 t232:=underlying308
 a232:=isAgg308
 z232:=sizeOf308
 v232:=zeroValue308
 t233:=underlying309
 a233:=isAgg309
 z233:=sizeOf309
 v233:=zeroValue309
 g15:=by kernel_rfl
 g16:=by kernel_rfl
 g17:=by kernel_rfl
 g18:=by kernel_rfl
 g19:=by kernel_rfl
 t80:=underlying178
 a80:=isAgg178
 z80:=sizeOf178
 v80:=zeroValue178
 i0:=by kernel_rfl
 i2:=by kernel_rfl
 i3:=by kernel_rfl
 i4:=by kernel_rfl
 i5:=by kernel_rfl
 i9:=by kernel_rfl
 i20:=by kernel_rfl
 i21:=by kernel_rfl
 i37:=by kernel_rfl
 i46:=by kernel_rfl
 i51:=by kernel_rfl
 i53:=by kernel_rfl
 i75:=by kernel_rfl
 i76:=by kernel_rfl
 i80:=by kernel_rfl
 i85:=by kernel_rfl
 i127:=by kernel_rfl
 i143:=by kernel_rfl
 i145:=by kernel_rfl
 i167:=by kernel_rfl
 i168:=by kernel_rfl
 i171:=by kernel_rfl
 i173:=by kernel_rfl
 i175:=by kernel_rfl
 i210:=by kernel_rfl
 i212:=by kernel_rfl
 i232:=by kernel_rfl
 i233:=by kernel_rfl
 m15:=by kernel_rfl
 m16:=by kernel_rfl
 m17:=by kernel_rfl
 m18:=by kernel_rfl
 m19:=by kernel_rfl
 c0:=by kernel_rfl
 c2:=by kernel_rfl
 c3:=by kernel_rfl
 c4:=by kernel_rfl
 c5:=by kernel_rfl
 c9:=by kernel_rfl
 c20:=by kernel_rfl
 c21:=by kernel_rfl
 c37:=by kernel_rfl
 c46:=by kernel_rfl
 c51:=by kernel_rfl
 c53:=by kernel_rfl
 c75:=by kernel_rfl
 c76:=by kernel_rfl
 c80:=by kernel_rfl
 c85:=by kernel_rfl
 c127:=by kernel_rfl
 c143:=by kernel_rfl
 c145:=by kernel_rfl
 c167:=by kernel_rfl
 c168:=by kernel_rfl
 c171:=by kernel_rfl
 c173:=by kernel_rfl
 c175:=by kernel_rfl
 c210:=by kernel_rfl
 c212:=by kernel_rfl
 c213:=by kernel_rfl
 c232:=by kernel_rfl
 c233:=by kernel_rfl }
open Go.RowKit in
def Tryz.strconv_Atoi_ok (s:ByteArray) (hmax:s.size<=9223372036854775806) (v:Int) (h:Lib.atoiAll s.data.toList=.ok v) (w:World) :
  Calls prog 199 #[.string s] w fun e w'=>e=.returned (.tuple #[.int .i64 v,.nilIface])/\(w'=w\/∃ t,w'=Lib.bytesWorld w 5 t):=Any.strconv_Atoi_ok Tryz.laysC172 s hmax v h w
open Go.RowKit in
def Tryz.strconv_Atoi_syntax (s:ByteArray) (hlim:s.size<=281474976710656) (h:Lib.atoiAll s.data.toList=Lib.atoiAll []) (ev:Value) (w:World) (hv:w.cell? ⟨6,0,none⟩=some ev) (hev:ev=.nilIface\/∃ te pe,ev=.iface te pe) :
  Calls prog 199 #[.string s] w fun e w'=>∃ N,e=.returned (.tuple #[.int .i64 (0),.iface 305 (.pointer (some ⟨N,0,none⟩))])/\w.heap.size<=N/\w'.heap[N]?=some (.cells #[.string ⟨#[65,116,111,105]⟩,.string s,ev] 319 (0,0))/\Below w.heap.size w w':=Any.strconv_Atoi_syntax Tryz.laysC172 s hlim h ev w hv hev
open Go.RowKit in
def Tryz.strconv_Atoi_range (s:ByteArray) (hlim:s.size<=281474976710656) (h:Lib.atoiAll s.data.toList=.range) (ev:Value) (w:World) (hv:w.cell? ⟨7,0,none⟩=some ev) (hev:ev=.nilIface\/∃ te pe,ev=.iface te pe) :
  Calls prog 199 #[.string s] w fun e w'=>∃ N,e=.returned (.tuple #[.int .i64 (Lib.atoiSat s.data.toList),.iface 305 (.pointer (some ⟨N,0,none⟩))])/\w.heap.size<=N/\w'.heap[N]?=some (.cells #[.string ⟨#[65,116,111,105]⟩,.string s,ev] 319 (0,0))/\Below w.heap.size w w':=Any.strconv_Atoi_range Tryz.laysC172 s hlim h ev w hv hev
def Tryz.lays145_ren:Go.Shelf.Ren:=⟨fun|145=>207|220=>223|219=>219|217=>228|225=>229|224=>230|267=>231|266=>238|314=>239|n=>n,fun|9=>9|4=>4|59=>287|3=>3|5=>5|46=>93|146=>281|51=>280|n=>n,fun|1=>1|n=>n⟩
def Tryz.lays145:Go.Proofs.Lays.n145 prog Tryz.lays145_ren:={
 mixed:=by kernel_rfl
 f145:=func207.trans (congrArg some (by kernel_rfl))
 f217:=func228.trans (congrArg some (by kernel_rfl))
 f219:=func219.trans (congrArg some (by kernel_rfl))
 f220:=func223.trans (congrArg some (by kernel_rfl))
 f224:=func230.trans (congrArg some (by kernel_rfl))
 f225:=func229.trans (congrArg some (by kernel_rfl))
 f266:=func238.trans (congrArg some (by kernel_rfl))
 f267:=func231.trans (congrArg some (by kernel_rfl))
 f314:=func239.trans (congrArg some (by kernel_rfl))
 t3:=underlying3
 a3:=isAgg3
 z3:=sizeOf3
 v3:=zeroValue3
 t4:=underlying4
 a4:=isAgg4
 z4:=sizeOf4
 v4:=zeroValue4
 t5:=underlying5
 a5:=isAgg5
 z5:=sizeOf5
 v5:=zeroValue5
 t9:=underlying9
 a9:=isAgg9
 z9:=sizeOf9
 v9:=zeroValue9
 t46:=underlying93
 a46:=isAgg93
 z46:=sizeOf93
 v46:=zeroValue93
 t51:=underlying280
 a51:=isAgg280
 z51:=sizeOf280
 v51:=zeroValue280
 t59:=underlying287
 a59:=isAgg287
 z59:=sizeOf287
 v59:=zeroValue287
 t146:=underlying281
 a146:=isAgg281
 z146:=sizeOf281
 v146:=zeroValue281
 g1:=by kernel_rfl }
open Go.RowKit Go.Lib in
def Tryz.strings_Cut (s sep:ByteArray) (m:Int) (w:World) (hs:s.size < 4294967281) (hm:w.cell? ⟨1,0,none⟩=some (.int .i64 m)) :
  Calls prog 207 #[.string s,.string sep] w fun e w'=>e=.returned (.tuple #[.string ⟨(Lib.cut s.data.toList sep.data.toList).1.toArray⟩,.string ⟨(Lib.cut s.data.toList sep.data.toList).2.1.toArray⟩,.bool (Lib.cut s.data.toList sep.data.toList).2.2])/\∃ n,w'=w.drewN n:=Any.strings_Cut Tryz.lays145 s sep m w hs hm
def Tryz.lays146_ren:Go.Shelf.Ren:=⟨fun|146=>96|221=>154|268=>196|138=>197|143=>198|195=>216|197=>217|218=>218|219=>219|260=>227|217=>228|225=>229|224=>230|267=>231|266=>238|314=>239|n=>n,fun|9=>9|31=>33|3=>3|4=>4|0=>0|105=>297|21=>21|5=>5|46=>93|119=>310|139=>313|138=>312|146=>281|51=>280|n=>n,fun|1=>1|3=>4|4=>5|n=>n⟩
def Tryz.lays146:Go.Proofs.Lays.n146 prog Tryz.lays146_ren:={
 mixed:=by kernel_rfl
 f138:=func197.trans (congrArg some (by kernel_rfl))
 f143:=func198.trans (congrArg some (by kernel_rfl))
 f146:=func96.trans (congrArg some (by kernel_rfl))
 f195:=func216.trans (congrArg some (by kernel_rfl))
 f197:=func217.trans (congrArg some (by kernel_rfl))
 f217:=func228.trans (congrArg some (by kernel_rfl))
 f218:=func218.trans (congrArg some (by kernel_rfl))
 f219:=func219.trans (congrArg some (by kernel_rfl))
 f221:=func154.trans (congrArg some (by kernel_rfl))
 f224:=func230.trans (congrArg some (by kernel_rfl))
 f225:=func229.trans (congrArg some (by kernel_rfl))
 f260:=func227.trans (congrArg some (by kernel_rfl))
 f266:=func238.trans (congrArg some (by kernel_rfl))
 f267:=func231.trans (congrArg some (by kernel_rfl))
 f268:=func196.trans (congrArg some (by kernel_rfl))
 f314:=func239.trans (congrArg some (by kernel_rfl))
 t0:=underlying0
 a0:=isAgg0
 z0:=sizeOf0
 v0:=zeroValue0
 t3:=underlying3
 a3:=isAgg3
 z3:=sizeOf3
 v3:=zeroValue3
 t4:=underlying4
 a4:=isAgg4
 z4:=sizeOf4
 v4:=zeroValue4
 t5:=underlying5
 a5:=isAgg5
 z5:=sizeOf5
 v5:=zeroValue5
 t9:=underlying9
 a9:=isAgg9
 z9:=sizeOf9
 v9:=zeroValue9
 t21:=underlying21
 a21:=isAgg21
 z21:=sizeOf21
 v21:=zeroValue21
 t31:=underlying33
 a31:=isAgg33
 z31:=sizeOf33
 v31:=zeroValue33
 t46:=underlying93
 a46:=isAgg93
 z46:=sizeOf93
 v46:=zeroValue93
 t51:=underlying280
 a51:=isAgg280
 z51:=sizeOf280
 v51:=zeroValue280
 t105:=underlying297
 a105:=isAgg297
 z105:=sizeOf297
 v105:=zeroValue297
 t119:=underlying310
 a119:=isAgg310
 z119:=sizeOf310
 t138:=underlying312
 a138:=isAgg312
 z138:=sizeOf312
 v138:=zeroValue312
 t139:=underlying313
 a139:=isAgg313
 z139:=sizeOf313
 v139:=zeroValue313
 t146:=underlying281
 a146:=isAgg281
 z146:=sizeOf281
 v146:=zeroValue281
 g1:=by kernel_rfl
 g3:=by kernel_rfl
 g4:=by kernel_rfl }
open Go.RowKit Go.Lib in
def Tryz.strings_Split (s sep:ByteArray) (m:Int) (w:World) (hs:s.size < 4294967281) (hm:w.cell? ⟨1,0,none⟩=some (.int .i64 m)) (h1:1<=sep.size) :
  Calls prog 96 #[.string s,.string sep] w fun e w' =>
   e=.returned (.slice (some ⟨w.heap.size,0,none⟩) (Lib.countB s sep+1) (Lib.countB s sep+1))/\w'=w.alloc (.cells ((Lib.splitB sep 0 (Lib.countB s sep) s).map Value.string).toArray 9):=Any.strings_Split Tryz.lays146 (by kernel_rfl) s sep m w hs hm h1
end Go.Proofs
namespace Go.Sym.B
open Go Go.Sym Go.Proofs Go.Proofs.Tryz Go.Sym.C
def eQ (q:Rat):List DV:=eSh (shQ q)
def dQ (r:List DV):Rat:=qI (dSh r).num (dSh r).den
def dQ_e (q:Rat):dQ (eQ q)=q:=Xr q
def mQ (l:List Rat):(l.map eQ).map dQ=l:=by simp [Function.comp_def,dQ_e]
def rQ (l:List Rat):zu 2 (l.map eQ)=True:=yX (f:=eQ) (k:=2) (fun _=>rfl) l
def gQ {l:List Rat} {n:Nat} {z:List DV} (h:n < l.length):(l.map eQ).getD n z=eQ (l.getD n 0):=by simp [ah,h]
def sumS (l:List Rat) (k:Nat):St:={ t:=asg [(0,.sl (l.map eQ)),(2,.ptr 0 0),(3,.clo 158 []),(4,.ptr 1 0),(8,.sl (l.map eQ)),(9,aI l.length),(10,aI k)],h:=qf [(0,.cells [.v (.int .i64 0),.v (.int .i64 0)]),(1,.cells [.v (.int .i64 (xf (l.take k)).num),.v (.int .i64 (xf (l.take k)).den)])],n:=2 }
structure SumOk (l:List Rat):Prop where
 len:l.length<=10
 bd:∀ q ∈ l,Bd 1000000 q
def SumOk.part {l:List Rat} (h:SumOk l) (k:Nat):Sm (xf (l.take k)):=by
 have h1:=RD (l.take k) (B:=1000000) fun q hq=>h.bd q (aY hq)
 refine (h1.mono (C:=10000000) ?_).sm (by decide)
 have:(l.take k).length<=10:=by have:=h.len;simp;omega
 calc (l.take k).length * 1000000<=10 * 1000000:=aG _ this
  _=10000000:=rfl
def Qd7 {l:List Rat} {k:Nat} (h:k < l.length):xf (l.take (k+1))=xf (l.take k)+l.getD k 0:=by
 rw [cS h,Yz];simp [ah,h]
def jY:=jw @ty3 (jw @QcQ (jw @xP (jw @ti3.eq_1 (jw @Vj.eq_1 @vC.eq_1))))
def QG:=jw @aI.eq_1 (jw @aB.eq_1 (jw @aSh.eq_1 (jw @shQ.eq_1 (jw @eSh.eq_1 (jw @eQ.eq_1 (jw @Ym.eq_1 (jw @Ym.eq_2 (jw @Xx.eq_1 (jw @Xx.eq_2 (jw @sumS.eq_1 (jw @J9 (jw @Xr (@rQ)))))))))))))
def Qkg (l:List Rat) (hS:SumOk l):FnV prog 105 [.sl (l.map eQ)] (aSh (shQ (xf l))):=by
 have env:=qz (A:=fun _=>True) (kC Qe8 (kC e138 kN))
 refine kV (Fn0 func105 rfl (fun vs w=>by kernel_rfl) (by kernel_rfl)) (by simp) (by simp [AV.ids]) ?_
 have hl:=hS.len;have hm:l.length<=maxLen:=by
   have:=Vh;have:(100:Nat)<=maxLen:=by decide
   omega
 repeat' first|(apply nx;with_reducible constructor)|apply jq (by decide)|((first|apply jz env|apply jk);intro Q hQ;simp only [vkt,seval,jY,QG,ite_and];(repeat' first|with_reducible assumption|apply jw|intro hp);all_goals first|(apply hQ;clear hQ Q)|omega|assumption|rfl|(apply jx;kernel_rfl)|skip)
 refine qi (fun k=>sumS l k) (fun k=>l.length - k) 0 ?_ fun k=>?_
 ·(refine Le.ok some [] ?_;constructor;all_goals (try simp only [vle,vkt,seval,QG]))
  all_goals simp [xf]
 ·have h1:=hS.part k
  repeat' first|(apply nx;with_reducible constructor)|apply jq (by decide)
  (apply jz env;intro Q hQ;simp only [vkt,seval,jY,QG,ite_and];(repeat' first|with_reducible assumption|apply jw|intro hp);all_goals first|(apply hQ;clear hQ Q)|omega|assumption|rfl|(apply jx;kernel_rfl)|skip)
  repeat' first|(apply nx;with_reducible constructor)|apply jq (by decide)
  (refine zg (by simp only [vkt,seval];rfl) (fun h=>?_) (fun h=>?_) <;> (try simp only [vki] at h))
  ·have hlt:k < l.length:=by omega
   have h2:=(hS.bd _ (jb (d:=0) hlt)).sm (by decide)
   have g1:=gQ (z:=[.v (.int .i64 0),.v (.int .i64 0)]) hlt;have e9:=qP hlt hm
   repeat' first|(apply nx;with_reducible constructor)|apply jq (by decide)|((first|apply jz env|apply jk);intro Q hQ;simp only [vkt,seval,jY,QG,g1,ite_and];(repeat' first|with_reducible assumption|apply jw|intro hp);all_goals first|(apply hQ;clear hQ Q)|omega|assumption|rfl|(apply jx;kernel_rfl)|skip)
   refine ⟨k+1,by omega, ?_⟩
   (refine Le.ok some [] ?_;constructor;all_goals (try simp only [vle,vkt,seval,QG]))
   all_goals simp [Qd7 hlt,e9]
  ·have hk:l.take k=l:=bb (by omega)
   repeat' first|(apply nx;with_reducible constructor)|apply jq (by decide)|((first|apply jz env|apply jk);intro Q hQ;simp only [vkt,seval,jY,hk,ite_and];(repeat' first|with_reducible assumption|apply jw|intro hp);all_goals first|(apply hQ;clear hQ Q)|omega|assumption|rfl|(apply jx;kernel_rfl)|skip)
   (simp only [vrt,results105,vkt,seval,jY,QG];refine Fin.val rfl ?_;(try simp only [AV.le,AV.leL]))
   all_goals simp
def QfV:List AV->Prop × AV
 |[.sl xs]=>(xs=(xs.map dQ).map eQ/\SumOk (xs.map dQ),aSh (shQ (xf (xs.map dQ))))
 |[.nil]=>(True,aSh (shQ (xf [])))
 |_=>(False,.junk)
def d102 {A:Frm->Prop}:qc A prog 105 (zD true QfV):=qL fun vs hv h=>by
 unfold QfV at h ⊢;split at h
 ·refine ⟨by simp [AV.plain,AV.plainL,aSh],fun _=>by simp [AV.flat,AV.flatL,aSh], ?_⟩
  have:=Qkg _ h.2
  rwa [<- h.1] at this
 ·simp [AV.plainL,AV.plain] at hv
 ·exact h.elim
def xK (l:Led) (d:Int) (has:List Int) (k:Nat):Rat:=xf ((List.range k).map fun c:Nat=>rq l d c * (has.getD c 0:Int))
def UF (l:Led) (d:Int) (has:List Int) (k:Nat):xK l d has (k+1)=xK l d has k+rq l d (k:Int) * (has.getD k 0:Int):=by
 unfold xK;rw [bL,ai,aw,aX,Yz]
def wS (l:Led) (d:Int) (has:List Int) (k:Nat):St:={ t:=asg [(0,.ptr 0 0),(1,aI d),(4,.ptr 2 0),(5,.ptr 3 0),(12,.row 1),(13,aI has.length),(14,aI k)],h:=qf [(0,yD l 1),(1,Qb has),(2,.cells [.v (.int .i64 0),.v (.int .i64 0)]),(3,.cells [.v (.int .i64 (xK l d has k).num),.v (.int .i64 (xK l d has k).den)])],n:=4,m:=2 }
structure WOk (l:Led) (d:Int) (has:List Int):Prop where
 len:has.length<=4
 rt:∀ c:Nat,c < has.length->Rt l d c
 b:∀ v ∈ has,-10000<=v/\v<=10000
def WOk.part {l:Led} {d:Int} {has:List Int} (h:WOk l d has) (k:Nat) (hk:k<=has.length):Bd (k * (20 * 10000)) (xK l d has k):=by
 unfold xK;have:=RD ((List.range k).map fun c:Nat=>rq l d c * (has.getD c 0:Int)) (B:=20 * 10000) fun q hq=>by
  obtain ⟨c,hc,rfl⟩:=aj.1 hq;have hc:=aF.1 hc
  have:=h.b _ (jb (d:=0) (show c < has.length by omega))
  exact (kP (h.rt c (by omega))).muli (by omega) (by omega)
 simpa using this
def zU:=jw @ty3 (jw @jK (jw @xI (jw @xP (jw @KI (jw @ti3.eq_1 (jw @jr.eq_1 (jw @vO.eq_1 (jw @vC.eq_1 @Jz.eq_1))))))))
def QO:=jw @aI.eq_1 (jw @aB.eq_1 (jw @zo.eq_1 (jw @qY.eq_1 (jw @aSh.eq_1 (jw @shQ.eq_1 (jw @ql.eq_1 (jw @ZG (jw @yD.eq_1 (jw @Qb.eq_1 (jw @Ym.eq_1 (jw @Ym.eq_2 (jw @Xx.eq_1 (jw @Xx.eq_2 (jw @c98.eq_1 (jw @c98.eq_2 (jw @s99.eq_1 (jw @s99.eq_2 (jw @wS.eq_1 (jw @xR (jw @yF (jw @J9 (@Xr))))))))))))))))))))))
def Qf8 (l:Led) (d:Int) (has:List Int) (hW:WOk l d has):Fn noB prog 107 [.ptr 0 0,aI d] (qf [(0,yD l 1),(1,Qb has)]) (aSh (shQ (xK l d has has.length))) (qf [(0,yD l 1),(1,Qb has)]) 0:=by
 have env:=qz (A:=fun _=>True) (kC d98 (kC e99 (kC Qe8 (kC e138 kN))))
 refine Fn.of (A:=fun _=>True) (n0:=2) (D:=noD) (Fn0 func107 rfl (fun vs w=>by kernel_rfl) (by kernel_rfl)) (by simp) (by simp [AV.ids,aI]) ?_ (fun _ _ _ _=>trivial) zt ?_
 ·intro i o hi
  rcases ae.1 (qB hi) with h|h
  ·cases h;simp [yD,qY,AObj.ids,AV.ids,AV.idsL]
  ·simp at h;obtain ⟨rfl,rfl⟩:=h;simp [Qb,AObj.ids]
 have hl:=hW.len;have hm:has.length<=maxLen:=by have:=Vh;omega
 repeat' first|(apply nx;with_reducible constructor)|apply jq (by decide)|((first|apply jz env|apply jk);intro Q hQ;simp only [vkt,seval,zU,QO,ite_and];(repeat' first|with_reducible assumption|apply jw|intro hp);all_goals first|(apply hQ;clear hQ Q)|omega|assumption|rfl|(apply jx;kernel_rfl)|skip)
 refine qi (fun k:{ k:Nat // k<=has.length }=>wS l d has k.1) (fun k=>has.length - k.1) ⟨0,af _⟩ ?_ fun ⟨k,hk⟩=>?_
 ·(refine Le.ok some [] ?_;constructor;all_goals (try simp only [vle,vkt,seval,QO]))
  all_goals simp [xK,xf]
 ·have h1:=((hW.part k hk).mono (C:=4 * (20 * 10000)) (aG _ (by omega))).sm (by decide)
  repeat' first|(apply nx;with_reducible constructor)|apply jq (by decide)
  (apply jz env;intro Q hQ;simp only [vkt,seval,zU,QO,ite_and];(repeat' first|with_reducible assumption|apply jw|intro hp);all_goals first|(apply hQ;clear hQ Q)|omega|assumption|rfl|(apply jx;kernel_rfl)|skip)
  repeat' first|(apply nx;with_reducible constructor)|apply jq (by decide)
  (refine zg (by simp only [vkt,seval];rfl) (fun h=>?_) (fun h=>?_) <;> (try simp only [vki] at h))
  ·have hlt:k < has.length:=by omega
   have h2:=hW.rt k hlt;have h3:=hW.b _ (jb (d:=0) hlt)
   have h4:=Qc1 (kP h2) (show -100000<=has.getD k 0 by omega) (by omega)
   have h5:=((kP h2).muli (C:=10000) (n:=has.getD k 0) (by omega) (by omega)).sm (by decide)
   have e9:=qP hlt hm;have g0:=gI0 hlt
   repeat' first|(apply nx;with_reducible constructor)|apply jq (by decide)|((first|apply jz env|apply jk);intro Q hQ;simp only [vkt,seval,zU,QO,g0,ite_and];(repeat' first|with_reducible assumption|apply jw|intro hp);all_goals first|(apply hQ;clear hQ Q)|omega|assumption|rfl|(apply jx;kernel_rfl)|skip)
   refine ⟨⟨k+1,hlt⟩,by show has.length - (k+1) < has.length - k;omega, ?_⟩
   (refine Le.ok some [] ?_;constructor;all_goals (try simp only [vle,vkt,seval,QO]))
   all_goals simp [UF,e9]
  ·have hk:k=has.length:=by omega
   subst hk
   repeat' first|(apply nx;with_reducible constructor)|apply jq (by decide)|((first|apply jz env|apply jk);intro Q hQ;simp only [vkt,seval,zU,ite_and];(repeat' first|with_reducible assumption|apply jw|intro hp);all_goals first|(apply hQ;clear hQ Q)|omega|assumption|rfl|(apply jx;kernel_rfl)|skip)
   (simp only [vrt,results107,vkt,seval,zU,QO];refine Fin.ok some [] ?_ ?_ ?_ ?_ ?_ rfl;all_goals (try simp only [vle,vkt,seval]))
   all_goals simp
def p103 (S:St):List AV->Option Pk
 |[.ptr t 0,.v (.int .i64 d)]=>match S.h t with
  |some (.cells [.sl cs,.sl rs,.sl ss,.sl es,.row r])=>match S.h r with
   |some (.row 3 1 hs)=>some { pre:=isL cs rs ss es/\hs=(hs.map qE).map ql/\WOk (wJ cs rs ss es) d (hs.map qE),hs:=[t,r],ar:=[.ptr 0 0,.v (.int .i64 d)],L0:=[.cells [.sl cs,.sl rs,.sl ss,.sl es,.row 1],.row 3 1 hs],v:=aSh (shQ (xK (wJ cs rs ss es) d (hs.map qE) (hs.map qE).length)),L1:=[some (.cells [.sl cs,.sl rs,.sl ss,.sl es,.row 1]),some (.row 3 1 hs)] }
   |_=>none
  |_=>none
 |_=>none
def QiD {cs rs ss es:List (List DV)} (h:isL cs rs ss es):qY (wJ cs rs ss es)=[.sl cs,.sl rs,.sl ss,.sl es]:=by
 simp only [qY,wJ,<- h.1,<- h.2.1,<- h.2.2.1,<- h.2.2.2]
def e103 {A:Frm->Prop}:qc A prog 107 (fnE p103):=wB fun S bs q h hp=>by
 unfold p103 at h;split at h
 ·split at h
  ·split at h
   ·rename_i t d _ cs rs ss es r _ _ hs _
    cases h;have:=Qf8 (wJ cs rs ss es) d (hs.map qE) hp.2.2
    simp only [yD,Qb,QiD hp.1,<- hp.2.1] at this;exact this
   ·cases h
  ·cases h
 ·cases h
def Qe6 {y:Int} (h0:0<=y) (h1:y < 4294967296):IntKind.wrap .u64 (((BitVec.ofInt 64 y &&& BitVec.ofInt 64 4294967295).toNat:Nat):Int)=y:=by
 have e:(BitVec.ofInt 64 y &&& BitVec.ofInt 64 4294967295).toNat=y.toNat:=by
  rw [BitVec.toNat_and,BitVec.toNat_ofInt,BitVec.toNat_ofInt];have:(4294967295 % (2 ^ 64:Int)).toNat=2 ^ 32 - 1:=by decide
  rw [show ((2 ^ 64:Nat):Int)=2 ^ 64 by rfl,this,Nat.and_two_pow_sub_one_eq_mod]
  rw [Int.emod_eq_of_lt h0 (by omega),cv (by omega)]
 rw [e]
 simp [IntKind.wrap,IntKind.bits,IntKind.signed]
 omega
def QfA {y:Int} (h0:0<=y) (h1:y < 4294967296):Int.fdiv y 4294967296=0:=by
 rw [Int.fdiv_eq_ediv_of_nonneg _ (by decide)];exact Int.ediv_eq_zero_of_lt h0 h1
def Qjk {y:Int} (h0:0<=y) (h1:y < 18446744073709551616):IntKind.wrap .u64 y=y:=by
 simp [IntKind.wrap,IntKind.bits,IntKind.signed];omega
def aU (n:Int):AV:=.v (.int .u64 n)
def aUi (n:Int):AV:=.v (.int .u64 n)
def J8:=jw @ty90 @Qbr.eq_1
def UO:=jw @aU.eq_1 (jw @aUi.eq_1 (jw @aI.eq_1 (@aB.eq_1)))
def QgQ (y:Int) (h0:0<=y) (h1:y < 1000000):FnV prog 202 [aUi 1,aUi y] (.tup [aUi 0,aUi y]):=by
 have env:=qz (A:=fun _=>True) kN
 refine kV (Fn0 func202 rfl (fun vs w=>by kernel_rfl) (by kernel_rfl)) (by simp) (by simp [AV.ids,aUi]) ?_
 have a0:IntKind.wrap .u64 (((BitVec.ofInt (IntKind.bits .u64) 0 &&& BitVec.ofInt (IntKind.bits .u64) 4294967295).toNat:Nat):Int)=0:=Qe6 (y:=0) (by decide) (by decide)
 have a1:IntKind.wrap .u64 (((BitVec.ofInt (IntKind.bits .u64) 1 &&& BitVec.ofInt (IntKind.bits .u64) 4294967295).toNat:Nat):Int)=1:=Qe6 (y:=1) (by decide) (by decide)
 have a2:IntKind.wrap .u64 (((BitVec.ofInt (IntKind.bits .u64) y &&& BitVec.ofInt (IntKind.bits .u64) 4294967295).toNat:Nat):Int)=y:=Qe6 h0 (by omega)
 have s0:Int.fdiv 0 (2 ^ min 32 (IntKind.bits .u64))=0:=QfA (y:=0) (by decide) (by decide)
 have s1:Int.fdiv 1 (2 ^ min 32 (IntKind.bits .u64))=0:=QfA (y:=1) (by decide) (by decide)
 have s2:Int.fdiv y (2 ^ min 32 (IntKind.bits .u64))=0:=QfA h0 (by omega)
 have w0:IntKind.wrap .u64 0=0:=by decide
 have w1:IntKind.wrap .u64 1=1:=by decide
 have w2:=Qjk h0 (by omega)
 repeat' first|(apply nx;with_reducible constructor)|apply jq (by decide)|((first|apply jz env|apply jk);intro Q hQ;simp only [vkt,seval,J8,UO,a0,a1,a2,s0,s1,s2,w0,w2,Int.one_mul,Int.zero_mul,Int.mul_zero,Int.add_zero,ite_and];(repeat' first|with_reducible assumption|apply jw|intro hp);all_goals first|(apply hQ;clear hQ Q)|omega|assumption|rfl|(apply jx;kernel_rfl)|skip)
 (simp only [vrt,results202,vkt,seval,UO];refine Fin.val rfl ?_;(try simp only [AV.le,AV.leL]))
 all_goals simp
def Xl:List AV->Prop × AV
 |[.v (.int .u64 x),.v (.int .u64 y)]=>(x=1/\0<=y/\y < 1000000,.tup [.v (.int .u64 0),.v (.int .u64 y)])
 |_=>(False,.junk)
def e150 {A:Frm->Prop}:qc A prog 202 (zD true Xl):=qL fun vs hv h=>by
 clear hv;unfold Xl at h ⊢
 split at h
 ·obtain ⟨rfl,h1,h2⟩:=h
  exact ⟨by simp [AV.plain,AV.plainL],fun _=>by simp [AV.flat,AV.flatL],QgQ _ h1 h2⟩
 ·exact h.elim
def Qab:=jw @aU.eq_1 (jw @aUi.eq_1 (jw @aI.eq_1 (jw @aB.eq_1 (jw @Xl.eq_1 (@Xl.eq_2)))))
def QkB (y:Int) (h0:0<=y) (h1:y < 1000000):FnV prog 161 [aUi 1,aUi y] (.tup [aUi 0,aUi y]):=by
 have env:=qz (A:=fun _=>True) (kC e150 kN)
 refine kV (Fn0 func161 rfl (fun vs w=>by kernel_rfl) (by kernel_rfl)) (by simp) (by simp [AV.ids,aUi]) ?_
 repeat' first|(apply nx;with_reducible constructor)|apply jq (by decide)|((first|apply jz env|apply jk);intro Q hQ;simp only [vkt,seval,Qab,ite_and];(repeat' first|with_reducible assumption|apply jw|intro hp);all_goals first|(apply hQ;clear hQ Q)|omega|assumption|rfl|(apply jx;kernel_rfl)|skip)
 (simp only [vrt,results161,vkt,seval,Qab];refine Fin.val rfl ?_;(try simp only [AV.le,AV.leL]))
 all_goals simp
def e134 {A:Frm->Prop}:qc A prog 161 (zD true Xl):=qL fun vs hv h=>by
 clear hv;unfold Xl at h ⊢
 split at h
 ·obtain ⟨rfl,h1,h2⟩:=h
  exact ⟨by simp [AV.plain,AV.plainL],fun _=>by simp [AV.flat,AV.flatL],QkB _ h1 h2⟩
 ·exact h.elim
def Qp (r z:List DV) (m n:Nat):List (List DV):=List.replicate m r++List.replicate (n - m) z
def LM {r z:List DV} {m n:Nat} (h:m<=n):(Qp r z m n).length=n:=by simp [Qp];omega
def QI {r z:List DV} {m n:Nat}:(Qp r z m n).take m=List.replicate m r:=by simp [Qp]
def XJ {r z:List DV} {m n c:Nat} (hm:m<=n) (hc:c=min m (n - m)):(Qp r z m n).take m++(List.replicate m r).take c++(Qp r z m n).drop (m+c)=Qp r z (m+c) n:=by
 rw [QI];simp only [Qp,List.take_replicate,List.drop_append,List.drop_replicate,bJ]
 rw [show min c m=c by omega,show m - (m+c)=0 by omega,show m+c - m=c by omega]
 simp only [List.replicate_zero,bc,List.replicate_append_replicate];rw [show n - m - c=n - (m+c) by omega]
def VI {r z:List DV} {n:Nat} (h:1<=n):(List.replicate n z).take 0++[r].take (min 1 n)++(List.replicate n z).drop (0+min 1 n)=Qp r z 1 n:=by
 rw [show min 1 n=1 by omega];simp [Qp]
def QcO {k m:Nat} {r:List DV} (h:r.length=k):zu k (List.replicate m r)=True:=eq_true fun x hx=>by rw [c8 hx,h]
def Qg4 {n:Int} (h0:0<=n) (h1:n < 1000000):IntKind.wrap .u64 n=n/\IntKind.wrap .i64 n=n:=⟨Qjk h0 (by omega),wrap64 (by omega) (by omega)⟩
def repS (e k:Nat) (r z:List DV) (n m:Nat) (x:AV):St:={ t:=asg [(0,x),(1,aI n),(4,.nil),(7,.row 0),(8,aI m)],h:=qf [(0,.row e k (Qp r z m n))],n:=1 }
def jd:=jw @ty3 (jw @ty9 (jw @jK (jw @ty93 (jw @ti3.eq_1 (jw @ti9.eq_1 (jw @jr.eq_1 @Qe4.eq_1))))))
def JC:=jw @aU.eq_1 (jw @aUi.eq_1 (jw @aI.eq_1 (jw @aB.eq_1 (jw @Xl.eq_1 (jw @Xl.eq_2 (@repS.eq_1))))))
def rep87 (r:List DV) (n:Nat) (hr:r.length=1) (h1:1<=n) (h2:n<=2000):Fn noB prog 113 [.sl [r],aI n] noH (.row 0) (qf [(0,.row 3 1 (List.replicate n r))]) 0:=by
 have env:=qz (A:=fun _=>True) (kC e134 kN)
 refine kV (Fn0 func113 rfl (fun vs w=>by kernel_rfl) (by kernel_rfl)) (by simp) (by simp [AV.ids,aI]) ?_
 obtain ⟨w1,w2⟩:=Qg4 (n:=(n:Int)) (by omega) (by omega)
 have w3:IntKind.wrap .u64 1=1:=by decide
 have c1:¬ ((n:Int) < 0):=by omega
 have c2:¬ ((9223372036854775807:Int) < n):=by omega
 have b1:((8:Nat):Int) * n<=140737488355328:=by omega
 have b2:(n:Int)<=maxLen:=by
   have:(2000:Nat)<=maxLen:=by decide
   omega
 repeat' first|(apply nx;with_reducible constructor)|apply jq (by decide)|((first|apply jz env|apply jk);intro Q hQ;simp only [vkt,seval,jd,JC,bJ,Option.getD_none,w1,w2,w3,c1,c2,hr,ite_and];(repeat' first|with_reducible assumption|apply jw|intro hp);all_goals first|(apply hQ;clear hQ Q)|omega|assumption|rfl|(apply jx;kernel_rfl)|skip)
 refine qi (fun m:{ m:Nat // 1<=m/\m<=n }=>repS 3 1 r [.v (.int .i64 0)] n m.1 (.sl [r])) (fun m=>n - m.1) ⟨1,ag _,h1⟩ ?_ fun ⟨m,hm1,hm2⟩=>?_
 ·(refine Le.ok some [] ?_;constructor;all_goals (try simp only [vle,vkt,seval,JC]))
  all_goals (first|(simp;omega)|(have:=VI (r:=r) (z:=[.v (.int .i64 0)]) h1;simp at this ⊢;first|exact this|(rw [<- this];simp)|omega))
 ·have f1:(Qp r [.v (.int .i64 0)] m n).length=n:=LM hm2
  have f2:List.take m (Qp r [.v (.int .i64 0)] m n)=List.replicate m r:=QI;have f3:zu 1 (List.replicate m r)=True:=QcO hr
  have f4:=XJ (r:=r) (z:=[.v (.int .i64 0)]) hm2 (c:=min m (n - m)) rfl;have f5:List.take m (List.drop 0 (Qp r [.v (.int .i64 0)] m n))=List.replicate m r:=QI
  rw [f2] at f4
  repeat' first|(apply nx;with_reducible constructor)|apply jq (by decide)
  (apply jz env;intro Q hQ;simp only [vkt,seval,jd,JC,f1,ite_and];(repeat' first|with_reducible assumption|apply jw|intro hp);all_goals first|(apply hQ;clear hQ Q)|omega|assumption|rfl|(apply jx;kernel_rfl)|skip)
  repeat' first|(apply nx;with_reducible constructor)|apply jq (by decide)
  (refine zg (by simp only [vkt,seval];rfl) (fun h=>?_) (fun h=>?_) <;> (try simp only [vki] at h))
  ·have hlt:m < n:=by omega
   have hmi:(m:Int) < (n:Int):=by omega
   have e9:IntKind.wrap .i64 ((m:Int)+((min m (n - m):Nat):Int))=((m+min m (n - m):Nat):Int):=by rw [wrap64 (by omega) (by omega)];omega
   repeat' first|(apply nx;with_reducible constructor)|apply jq (by decide)|((first|apply jz env|apply jk);intro Q hQ;simp only [vkt,seval,jd,bJ,bw,f1,f2,f3,hmi,ite_and];(repeat' first|with_reducible assumption|apply jw|intro hp);all_goals first|(apply hQ;clear hQ Q)|omega|assumption|rfl|(apply jx;kernel_rfl)|skip)
   refine ⟨⟨m+min m (n - m),by omega,by omega⟩,by show n - (m+min m (n - m)) < n - m;omega, ?_⟩
   (refine Le.ok some [] ?_;constructor;all_goals (try simp only [vle,vkt,seval,JC]))
   all_goals (first|(simp [e9];done)|(simp only [f4];done)|(rw [<- f4];simp))
  ·have hmn:m=n:=by omega
   subst hmn;have f6:Qp r [.v (.int .i64 0)] m m=List.replicate m r:=by simp [Qp]
   repeat' first|(apply nx;with_reducible constructor)|apply jq (by decide)|((first|apply jz env|apply jk);intro Q hQ;simp only [vkt,seval,ite_and];(repeat' first|with_reducible assumption|apply jw|intro hp);all_goals first|(apply hQ;clear hQ Q)|omega|assumption|rfl|(apply jx;kernel_rfl)|skip)
   (simp only [vrt,results113,vkt,seval];refine Fin.ok some [] ?_ ?_ ?_ ?_ ?_ rfl;all_goals (try simp only [vle,vkt,seval]))
   all_goals simp [f6]
def wL:=jw @ty3 (jw @ty9 (jw @ty93 (jw @QcQ (jw @xP (jw @ti3.eq_1 (jw @ti9.eq_1 (jw @Qe4.eq_1 (jw @Vj.eq_1 @vC.eq_1))))))))
def JE:=jw @aU.eq_1 (jw @aUi.eq_1 (jw @aI.eq_1 (jw @aB.eq_1 (jw @Xl.eq_1 (jw @Xl.eq_2 (@repS.eq_1))))))
end Go.Sym.B
