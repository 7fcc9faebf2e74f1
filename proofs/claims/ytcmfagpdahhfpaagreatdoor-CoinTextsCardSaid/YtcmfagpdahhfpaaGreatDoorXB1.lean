/- Walks and what they compute, joined: part 1. -/
import Derived.Test.YtcmfagpdahhfpaaGreatDoorXS3
import Derived.Test.YtcmfagpdahhfpaaGreatDoorProg
import Derived.KernelRfl
import Derived.Shelf.Strings.OnBuilder
import Derived.Shelf.Strconv.Itoa3
import Derived.Shelf.Strconv.AtoiAll
import Derived.Shelf.Strings.Split
import Derived.Shelf.Strings.Cut
set_option linter.all false
set_option maxRecDepth 100000
set_option maxHeartbeats 40000000
namespace Go.Sym.B
open Go Go.Sym Go.Proofs Go.Proofs.Tryz
def _root_.Go.Sym.jw {a b:Prop} (x:a) (y:b):a/\b:=⟨x,y⟩
def _root_.Go.Sym.jq:=@VD
def _root_.Go.Sym.jx:=@QaA
def _root_.Go.Sym.jz:=@Qdy
def _root_.Go.Sym.jj:=@Qch
def _root_.Go.Sym.jk:=@Qgd
def ti2:TI:={ cells:=1,bytes:=8,td:=.int .i64,zero:=[.v (.int .i64 0)],eqk:=none }
def tf2:TyFact prog 2 ti2:=by
 refine ⟨⟨Tryz.t2,.int .i64 0,by kernel_rfl,rfl,rfl,rfl,rfl,rfl,by simp [Value.cells,Value.oneCell']⟩,⟨_,underlying2,rfl⟩,fun fs h=>?_,fun ks h=>?_,fun q h=>?_⟩
 ·cases h
 ·cases h
 ·cases h
def ti3:TI:={ cells:=1,bytes:=8,td:=.int .i64,zero:=[.v (.int .i64 0)],eqk:=none }
def tf3:TyFact prog 3 ti3:=by
 refine ⟨⟨Tryz.t3,.int .i64 0,by kernel_rfl,rfl,rfl,rfl,rfl,rfl,by simp [Value.cells,Value.oneCell']⟩,⟨_,underlying3,rfl⟩,fun fs h=>?_,fun ks h=>?_,fun q h=>?_⟩
 ·cases h
 ·cases h
 ·cases h
def ti4:TI:={ cells:=1,bytes:=1,td:=.bool,zero:=[.v (.bool false)],eqk:=none }
def tf4:TyFact prog 4 ti4:=by
 refine ⟨⟨Tryz.t4,.bool false,by kernel_rfl,rfl,rfl,rfl,rfl,rfl,by simp [Value.cells,Value.oneCell']⟩,⟨_,underlying4,rfl⟩,fun fs h=>?_,fun ks h=>?_,fun q h=>?_⟩
 ·cases h
 ·cases h
 ·cases h
def ti5:TI:={ cells:=1,bytes:=1,td:=.int .u8,zero:=[.v (.int .u8 0)],eqk:=none }
def tf5:TyFact prog 5 ti5:=by
 refine ⟨⟨Tryz.t5,.int .u8 0,by kernel_rfl,rfl,rfl,rfl,rfl,rfl,by simp [Value.cells,Value.oneCell']⟩,⟨_,underlying5,rfl⟩,fun fs h=>?_,fun ks h=>?_,fun q h=>?_⟩
 ·cases h
 ·cases h
 ·cases h
def ti9:TI:={ cells:=1,bytes:=16,td:=.string,zero:=[.v (.string ⟨#[]⟩)],eqk:=none }
def tf9:TyFact prog 9 ti9:=by
 refine ⟨⟨Tryz.t9,.string ⟨#[]⟩,by kernel_rfl,rfl,rfl,rfl,rfl,rfl,by simp [Value.cells,Value.oneCell']⟩,⟨_,underlying9,rfl⟩,fun fs h=>?_,fun ks h=>?_,fun q h=>?_⟩
 ·cases h
 ·cases h
 ·cases h
def ti20:TI:={ cells:=1,bytes:=16,td:=.iface,zero:=[.v (.nilIface)],eqk:=none }
def tf20:TyFact prog 20 ti20:=by
 refine ⟨⟨Tryz.t20,.nilIface,by kernel_rfl,rfl,rfl,rfl,rfl,rfl,by simp [Value.cells,Value.oneCell']⟩,⟨_,underlying20,⟨_,rfl⟩⟩,fun fs h=>?_,fun ks h=>?_,fun q h=>?_⟩
 ·cases h
 ·cases h
 ·cases h
def ti21:TI:={ cells:=1,bytes:=4,td:=.int .i32,zero:=[.v (.int .i32 0)],eqk:=none }
def tf21:TyFact prog 21 ti21:=by
 refine ⟨⟨Tryz.t21,.int .i32 0,by kernel_rfl,rfl,rfl,rfl,rfl,rfl,by simp [Value.cells,Value.oneCell']⟩,⟨_,underlying21,rfl⟩,fun fs h=>?_,fun ks h=>?_,fun q h=>?_⟩
 ·cases h
 ·cases h
 ·cases h
def ti22:TI:={ cells:=1,bytes:=24,td:=.slice 84,zero:=[.nil],eqk:=none }
def tf22:TyFact prog 22 ti22:=by
 refine ⟨⟨Tryz.t22,.slice none 0 0,by kernel_rfl,rfl,rfl,rfl,rfl,rfl,by simp [Value.cells,Value.oneCell']⟩,⟨_,underlying22,rfl⟩,fun fs h=>?_,fun ks h=>?_,fun q h=>?_⟩
 ·cases h
 ·cases h
 ·cases h
def ti23:TI:={ cells:=1,bytes:=24,td:=.slice 88,zero:=[.nil],eqk:=none }
def tf23:TyFact prog 23 ti23:=by
 refine ⟨⟨Tryz.t23,.slice none 0 0,by kernel_rfl,rfl,rfl,rfl,rfl,rfl,by simp [Value.cells,Value.oneCell']⟩,⟨_,underlying23,rfl⟩,fun fs h=>?_,fun ks h=>?_,fun q h=>?_⟩
 ·cases h
 ·cases h
 ·cases h
def ti25:TI:={ cells:=3,bytes:=56,td:=.struct [(0,1,22),(1,1,3),(2,1,23)],zero:=[.nil,.v (.int .i64 0),.nil],eqk:=none }
def tf25:TyFact prog 25 ti25:=by
 refine ⟨⟨Tryz.t25,.agg #[.slice none 0 0,.int .i64 0,.slice none 0 0],by kernel_rfl,rfl,rfl,rfl,rfl,rfl,by simp [Value.cells,Value.oneCell']⟩,⟨_,underlying25,⟨_,rfl,rfl⟩⟩,fun fs h=>?_,fun ks h=>?_,fun q h=>?_⟩
 ·cases h
  simp only [ai,aV,or_false,forall_eq_or_imp,forall_eq];exact ⟨⟨Tryz.t22,by kernel_rfl,rfl⟩,⟨Tryz.t3,by kernel_rfl,rfl⟩,⟨Tryz.t23,by kernel_rfl,rfl⟩⟩
 ·cases h
 ·cases h
def jc:TI:={ cells:=1,bytes:=24,td:=.slice 3,zero:=[.nil],eqk:=none }
def tf26:TyFact prog 26 jc:=by
 refine ⟨⟨Tryz.t26,.slice none 0 0,by kernel_rfl,rfl,rfl,rfl,rfl,rfl,by simp [Value.cells,Value.oneCell']⟩,⟨_,underlying26,rfl⟩,fun fs h=>?_,fun ks h=>?_,fun q h=>?_⟩
 ·cases h
 ·cases h
 ·cases h
def ti28:TI:={ cells:=1,bytes:=8,td:=.func,zero:=[.v (.nilFunc)],eqk:=none }
def tf28:TyFact prog 28 ti28:=by
 refine ⟨⟨Tryz.t28,.nilFunc,by kernel_rfl,rfl,rfl,rfl,rfl,rfl,by simp [Value.cells,Value.oneCell']⟩,⟨_,underlying28,⟨_,_,_,rfl⟩⟩,fun fs h=>?_,fun ks h=>?_,fun q h=>?_⟩
 ·cases h
 ·cases h
 ·cases h
def ti30:TI:={ cells:=1,bytes:=8,td:=.ptr,zero:=[.v (.pointer none)],eqk:=none }
def tf30:TyFact prog 30 ti30:=by
 refine ⟨⟨Tryz.t30,.pointer none,by kernel_rfl,rfl,rfl,rfl,rfl,rfl,by simp [Value.cells,Value.oneCell']⟩,⟨_,underlying30,⟨_,rfl⟩⟩,fun fs h=>?_,fun ks h=>?_,fun q h=>?_⟩
 ·cases h
 ·cases h
 ·cases h
def ti32:TI:={ cells:=1,bytes:=24,td:=.slice 25,zero:=[.nil],eqk:=none }
def tf32:TyFact prog 32 ti32:=by
 refine ⟨⟨Tryz.t32,.slice none 0 0,by kernel_rfl,rfl,rfl,rfl,rfl,rfl,by simp [Value.cells,Value.oneCell']⟩,⟨_,underlying32,rfl⟩,fun fs h=>?_,fun ks h=>?_,fun q h=>?_⟩
 ·cases h
 ·cases h
 ·cases h
def Wj:TI:={ cells:=1,bytes:=24,td:=.slice 9,zero:=[.nil],eqk:=none }
def tf33:TyFact prog 33 Wj:=by
 refine ⟨⟨Tryz.t33,.slice none 0 0,by kernel_rfl,rfl,rfl,rfl,rfl,rfl,by simp [Value.cells,Value.oneCell']⟩,⟨_,underlying33,rfl⟩,fun fs h=>?_,fun ks h=>?_,fun q h=>?_⟩
 ·cases h
 ·cases h
 ·cases h
def Zn:TI:={ cells:=1,bytes:=8,td:=.int .i64,zero:=[.v (.int .i64 0)],eqk:=none }
def tf34:TyFact prog 34 Zn:=by
 refine ⟨⟨Tryz.t34,.int .i64 0,by kernel_rfl,rfl,rfl,rfl,rfl,rfl,by simp [Value.cells,Value.oneCell']⟩,⟨_,underlying34,rfl⟩,fun fs h=>?_,fun ks h=>?_,fun q h=>?_⟩
 ·cases h
 ·cases h
 ·cases h
def kI:TI:={ cells:=1,bytes:=24,td:=.slice 26,zero:=[.nil],eqk:=none }
def tf43:TyFact prog 43 kI:=by
 refine ⟨⟨Tryz.t43,.slice none 0 0,by kernel_rfl,rfl,rfl,rfl,rfl,rfl,by simp [Value.cells,Value.oneCell']⟩,⟨_,underlying43,rfl⟩,fun fs h=>?_,fun ks h=>?_,fun q h=>?_⟩
 ·cases h
 ·cases h
 ·cases h
def Zp:TI:={ cells:=1,bytes:=24,td:=.slice 108,zero:=[.nil],eqk:=none }
def tf44:TyFact prog 44 Zp:=by
 refine ⟨⟨Tryz.t44,.slice none 0 0,by kernel_rfl,rfl,rfl,rfl,rfl,rfl,by simp [Value.cells,Value.oneCell']⟩,⟨_,underlying44,rfl⟩,fun fs h=>?_,fun ks h=>?_,fun q h=>?_⟩
 ·cases h
 ·cases h
 ·cases h
def WO:TI:={ cells:=1,bytes:=24,td:=.slice 129,zero:=[.nil],eqk:=none }
def tf45:TyFact prog 45 WO:=by
 refine ⟨⟨Tryz.t45,.slice none 0 0,by kernel_rfl,rfl,rfl,rfl,rfl,rfl,by simp [Value.cells,Value.oneCell']⟩,⟨_,underlying45,rfl⟩,fun fs h=>?_,fun ks h=>?_,fun q h=>?_⟩
 ·cases h
 ·cases h
 ·cases h
def vD:TI:={ cells:=4,bytes:=96,td:=.struct [(0,1,43),(1,1,44),(2,1,26),(3,1,45)],zero:=[.nil,.nil,.nil,.nil],eqk:=none }
def tf47:TyFact prog 47 vD:=by
 refine ⟨⟨Tryz.t47,.agg #[.slice none 0 0,.slice none 0 0,.slice none 0 0,.slice none 0 0],by kernel_rfl,rfl,rfl,rfl,rfl,rfl,by simp [Value.cells,Value.oneCell']⟩,⟨_,underlying47,⟨_,rfl,rfl⟩⟩,fun fs h=>?_,fun ks h=>?_,fun q h=>?_⟩
 ·cases h
  simp only [ai,aV,or_false,forall_eq_or_imp,forall_eq];exact ⟨⟨Tryz.t43,by kernel_rfl,rfl⟩,⟨Tryz.t44,by kernel_rfl,rfl⟩,⟨Tryz.t26,by kernel_rfl,rfl⟩,⟨Tryz.t45,by kernel_rfl,rfl⟩⟩
 ·cases h
 ·cases h
def ti50:TI:={ cells:=1,bytes:=24,td:=.slice 47,zero:=[.nil],eqk:=none }
def tf50:TyFact prog 50 ti50:=by
 refine ⟨⟨Tryz.t50,.slice none 0 0,by kernel_rfl,rfl,rfl,rfl,rfl,rfl,by simp [Value.cells,Value.oneCell']⟩,⟨_,underlying50,rfl⟩,fun fs h=>?_,fun ks h=>?_,fun q h=>?_⟩
 ·cases h
 ·cases h
 ·cases h
def ti59:TI:={ cells:=1,bytes:=24,td:=.slice 65,zero:=[.nil],eqk:=none }
def tf59:TyFact prog 59 ti59:=by
 refine ⟨⟨Tryz.t59,.slice none 0 0,by kernel_rfl,rfl,rfl,rfl,rfl,rfl,by simp [Value.cells,Value.oneCell']⟩,⟨_,underlying59,rfl⟩,fun fs h=>?_,fun ks h=>?_,fun q h=>?_⟩
 ·cases h
 ·cases h
 ·cases h
def ti63:TI:={ cells:=5,bytes:=56,td:=.struct [(0,1,3),(1,1,3),(2,1,3),(3,1,26),(4,1,4)],zero:=[.v (.int .i64 0),.v (.int .i64 0),.v (.int .i64 0),.nil,.v (.bool false)],eqk:=none }
def tf63:TyFact prog 63 ti63:=by
 refine ⟨⟨Tryz.t63,.agg #[.int .i64 0,.int .i64 0,.int .i64 0,.slice none 0 0,.bool false],by kernel_rfl,rfl,rfl,rfl,rfl,rfl,by simp [Value.cells,Value.oneCell']⟩,⟨_,underlying63,⟨_,rfl,rfl⟩⟩,fun fs h=>?_,fun ks h=>?_,fun q h=>?_⟩
 ·cases h
  simp only [ai,aV,or_false,forall_eq_or_imp,forall_eq];exact ⟨⟨Tryz.t3,by kernel_rfl,rfl⟩,⟨Tryz.t3,by kernel_rfl,rfl⟩,⟨Tryz.t3,by kernel_rfl,rfl⟩,⟨Tryz.t26,by kernel_rfl,rfl⟩,⟨Tryz.t4,by kernel_rfl,rfl⟩⟩
 ·cases h
 ·cases h
def ti65:TI:={ cells:=1,bytes:=24,td:=.slice 76,zero:=[.nil],eqk:=none }
def tf65:TyFact prog 65 ti65:=by
 refine ⟨⟨Tryz.t65,.slice none 0 0,by kernel_rfl,rfl,rfl,rfl,rfl,rfl,by simp [Value.cells,Value.oneCell']⟩,⟨_,underlying65,rfl⟩,fun fs h=>?_,fun ks h=>?_,fun q h=>?_⟩
 ·cases h
 ·cases h
 ·cases h
def ti71:TI:={ cells:=1,bytes:=24,td:=.slice 80,zero:=[.nil],eqk:=none }
def tf71:TyFact prog 71 ti71:=by
 refine ⟨⟨Tryz.t71,.slice none 0 0,by kernel_rfl,rfl,rfl,rfl,rfl,rfl,by simp [Value.cells,Value.oneCell']⟩,⟨_,underlying71,rfl⟩,fun fs h=>?_,fun ks h=>?_,fun q h=>?_⟩
 ·cases h
 ·cases h
 ·cases h
def QdK (d:Nat) (w:World) (a0 b0:Int) (a1 b1:Int):(Op.equalIn (d+2) 76 (.agg #[.int .i64 a0,.int .i64 a1]) (.agg #[.int .i64 b0,.int .i64 b1])).run prog w=.ok (yz [.int .i64 a0,.int .i64 a1] [.int .i64 b0,.int .i64 b1]) w:=by
 have h1:prog.underlying 76=some (.struct (prog.fieldsOf 76)):=by kernel_rfl
 have h2 : (prog.fieldsOf 76).toList = [{ name := "Cabin", type := 3, offset := 0, embedded := false, tag := "", pkgPath := "", byteOffset := 0 }, { name := "Bed", type := 3, offset := 1, embedded := false, tag := "", pkgPath := "", byteOffset := 8 }] := by kernel_rfl
 rw [run_equalIn_agg w (d+1) 76 _ _ h1 (by kernel_rfl),h2]
 refine Eq.trans (b:=Result.ok (a0 == b0 && (a1 == b1 && true)) w) ?_ (congrArg (fun r=>Result.ok r w) (by simp [yz,veq]))
 exact zD (by simp) (qB (isAgg3) rfl) (qB (isAgg3) rfl) (run_equalIn_int w (d+0) 3 _ _ _ _ underlying3) (zD (by simp) (qB (isAgg3) rfl) (qB (isAgg3) rfl) (run_equalIn_int w (d+0) 3 _ _ _ _ underlying3) (yj))
def ti76:TI:={ cells:=2,bytes:=16,td:=.struct [(0,1,3),(1,1,3)],zero:=[.v (.int .i64 0),.v (.int .i64 0)],eqk:=some [some .i64,some .i64] }
def tf76:TyFact prog 76 ti76:=by
 refine ⟨⟨Tryz.t76,.agg #[.int .i64 0,.int .i64 0],by kernel_rfl,rfl,rfl,rfl,rfl,rfl,by simp [Value.cells,Value.oneCell']⟩,⟨_,underlying76,⟨_,rfl,rfl⟩⟩,fun fs h=>?_,fun ks h=>?_,fun q h=>?_⟩
 ·cases h
  simp only [ai,aV,or_false,forall_eq_or_imp,forall_eq];exact ⟨⟨Tryz.t3,by kernel_rfl,rfl⟩,⟨Tryz.t3,by kernel_rfl,rfl⟩⟩
 ·cases h
  refine ⟨by kernel_rfl,fun w xs ys hx hy=>?_⟩
  cases xs with
  |nil=>simp [qd] at hx
  |cons x0 xs1 =>
  cases xs1 with
  |nil=>simp [qd] at hx
  |cons x1 xs2 =>
  cases xs2 with
  |cons _ _=>simp [qd] at hx
  |nil =>
  cases ys with
  |nil=>simp [qd] at hy
  |cons y0 ys1 =>
  cases ys1 with
  |nil=>simp [qd] at hy
  |cons y1 ys2 =>
  cases ys2 with
  |cons _ _=>simp [qd] at hy
  |nil =>
  simp only [qd] at hx hy;obtain ⟨⟨nx0,rfl⟩,⟨nx1,rfl⟩,_⟩:=hx
  obtain ⟨⟨ny0,rfl⟩,⟨ny1,rfl⟩,_⟩:=hy;exact QdK 9998 w nx0 ny0 nx1 ny1
 ·cases h
def eqd80 (d:Nat) (w:World) (a0 b0:Int) (a1 b1:Int) (a2 b2:Int):(Op.equalIn (d+3) 80 (.agg #[.int .i64 a0,.int .i64 a1,.int .i64 a2]) (.agg #[.int .i64 b0,.int .i64 b1,.int .i64 b2])).run prog w=.ok (yz [.int .i64 a0,.int .i64 a1,.int .i64 a2] [.int .i64 b0,.int .i64 b1,.int .i64 b2]) w:=by
 have h1:prog.underlying 80=some (.struct (prog.fieldsOf 80)):=by kernel_rfl
 have h2 : (prog.fieldsOf 80).toList = [{ name := "Ticket", type := 3, offset := 0, embedded := false, tag := "", pkgPath := "", byteOffset := 0 }, { name := "Bunk", type := 76, offset := 1, embedded := true, tag := "", pkgPath := "", byteOffset := 8 }] := by kernel_rfl
 rw [run_equalIn_agg w (d+2) 80 _ _ h1 (by kernel_rfl),h2]
 refine Eq.trans (b:=Result.ok (a0 == b0 && (yz [.int .i64 a1,.int .i64 a2] [.int .i64 b1,.int .i64 b2] && true)) w) ?_ (congrArg (fun r=>Result.ok r w) (by simp [yz,veq]))
 exact zD (by simp) (qB (isAgg3) rfl) (qB (isAgg3) rfl) (run_equalIn_int w (d+1) 3 _ _ _ _ underlying3) (zD (by simp) (zX (isAgg76) (sizeOf76) rfl) (zX (isAgg76) (sizeOf76) rfl) (QdK (d+0) w a1 b1 a2 b2) (yj))
def ti80:TI:={ cells:=3,bytes:=24,td:=.struct [(0,1,3),(1,2,76)],zero:=[.v (.int .i64 0),.v (.int .i64 0),.v (.int .i64 0)],eqk:=some [some .i64,some .i64,some .i64] }
def tf80:TyFact prog 80 ti80:=by
 refine ⟨⟨Tryz.t80,.agg #[.int .i64 0,.int .i64 0,.int .i64 0],by kernel_rfl,rfl,rfl,rfl,rfl,rfl,by simp [Value.cells,Value.oneCell']⟩,⟨_,underlying80,⟨_,rfl,rfl⟩⟩,fun fs h=>?_,fun ks h=>?_,fun q h=>?_⟩
 ·cases h
  simp only [ai,aV,or_false,forall_eq_or_imp,forall_eq];exact ⟨⟨Tryz.t3,by kernel_rfl,rfl⟩,⟨Tryz.t76,by kernel_rfl,rfl⟩⟩
 ·cases h
  refine ⟨by kernel_rfl,fun w xs ys hx hy=>?_⟩
  cases xs with
  |nil=>simp [qd] at hx
  |cons x0 xs1 =>
  cases xs1 with
  |nil=>simp [qd] at hx
  |cons x1 xs2 =>
  cases xs2 with
  |nil=>simp [qd] at hx
  |cons x2 xs3 =>
  cases xs3 with
  |cons _ _=>simp [qd] at hx
  |nil =>
  cases ys with
  |nil=>simp [qd] at hy
  |cons y0 ys1 =>
  cases ys1 with
  |nil=>simp [qd] at hy
  |cons y1 ys2 =>
  cases ys2 with
  |nil=>simp [qd] at hy
  |cons y2 ys3 =>
  cases ys3 with
  |cons _ _=>simp [qd] at hy
  |nil =>
  simp only [qd] at hx hy;obtain ⟨⟨nx0,rfl⟩,⟨nx1,rfl⟩,⟨nx2,rfl⟩,_⟩:=hx
  obtain ⟨⟨ny0,rfl⟩,⟨ny1,rfl⟩,⟨ny2,rfl⟩,_⟩:=hy;exact eqd80 9997 w nx0 ny0 nx1 ny1 nx2 ny2
 ·cases h
def ti81:TI:={ cells:=1,bytes:=8,td:=.func,zero:=[.v (.nilFunc)],eqk:=none }
def tf81:TyFact prog 81 ti81:=by
 refine ⟨⟨Tryz.t81,.nilFunc,by kernel_rfl,rfl,rfl,rfl,rfl,rfl,by simp [Value.cells,Value.oneCell']⟩,⟨_,underlying81,⟨_,_,_,rfl⟩⟩,fun fs h=>?_,fun ks h=>?_,fun q h=>?_⟩
 ·cases h
 ·cases h
 ·cases h
def eqd84 (d:Nat) (w:World) (a0 b0:Int) (a1 b1:Bool):(Op.equalIn (d+2) 84 (.agg #[.int .i64 a0,.bool a1]) (.agg #[.int .i64 b0,.bool b1])).run prog w=.ok (yz [.int .i64 a0,.bool a1] [.int .i64 b0,.bool b1]) w:=by
 have h1:prog.underlying 84=some (.struct (prog.fieldsOf 84)):=by kernel_rfl
 have h2 : (prog.fieldsOf 84).toList = [{ name := "Beds", type := 3, offset := 0, embedded := false, tag := "", pkgPath := "", byteOffset := 0 }, { name := "Door", type := 4, offset := 1, embedded := false, tag := "", pkgPath := "", byteOffset := 8 }] := by kernel_rfl
 rw [run_equalIn_agg w (d+1) 84 _ _ h1 (by kernel_rfl),h2]
 refine Eq.trans (b:=Result.ok (a0 == b0 && (a1 == b1 && true)) w) ?_ (congrArg (fun r=>Result.ok r w) (by simp [yz,veq]))
 exact zD (by simp) (qB (isAgg3) rfl) (qB (isAgg3) rfl) (run_equalIn_int w (d+0) 3 _ _ _ _ underlying3) (zD (by simp) (qB (isAgg4) rfl) (qB (isAgg4) rfl) (run_equalIn_bool' w (d+0) 4 _ _ underlying4) (yj))
def ti84:TI:={ cells:=2,bytes:=16,td:=.struct [(0,1,3),(1,1,4)],zero:=[.v (.int .i64 0),.v (.bool false)],eqk:=some [some .i64,none] }
def tf84:TyFact prog 84 ti84:=by
 refine ⟨⟨Tryz.t84,.agg #[.int .i64 0,.bool false],by kernel_rfl,rfl,rfl,rfl,rfl,rfl,by simp [Value.cells,Value.oneCell']⟩,⟨_,underlying84,⟨_,rfl,rfl⟩⟩,fun fs h=>?_,fun ks h=>?_,fun q h=>?_⟩
 ·cases h
  simp only [ai,aV,or_false,forall_eq_or_imp,forall_eq];exact ⟨⟨Tryz.t3,by kernel_rfl,rfl⟩,⟨Tryz.t4,by kernel_rfl,rfl⟩⟩
 ·cases h
  refine ⟨by kernel_rfl,fun w xs ys hx hy=>?_⟩
  cases xs with
  |nil=>simp [qd] at hx
  |cons x0 xs1 =>
  cases xs1 with
  |nil=>simp [qd] at hx
  |cons x1 xs2 =>
  cases xs2 with
  |cons _ _=>simp [qd] at hx
  |nil =>
  cases ys with
  |nil=>simp [qd] at hy
  |cons y0 ys1 =>
  cases ys1 with
  |nil=>simp [qd] at hy
  |cons y1 ys2 =>
  cases ys2 with
  |cons _ _=>simp [qd] at hy
  |nil =>
  simp only [qd] at hx hy;obtain ⟨⟨nx0,rfl⟩,⟨nx1,rfl⟩,_⟩:=hx
  obtain ⟨⟨ny0,rfl⟩,⟨ny1,rfl⟩,_⟩:=hy;exact eqd84 9998 w nx0 ny0 nx1 ny1
 ·cases h
def eqd88 (d:Nat) (w:World) (a0 b0:Int) (a1 b1:Int) (a2 b2:Int) (a3 b3:Int) (a4 b4:Int) (a5 b5:Int) (a6 b6:Bool):(Op.equalIn (d+3) 88 (.agg #[.int .i64 a0,.int .i64 a1,.int .i64 a2,.int .i64 a3,.int .i64 a4,.int .i64 a5,.bool a6]) (.agg #[.int .i64 b0,.int .i64 b1,.int .i64 b2,.int .i64 b3,.int .i64 b4,.int .i64 b5,.bool b6])).run prog w=.ok (yz [.int .i64 a0,.int .i64 a1,.int .i64 a2,.int .i64 a3,.int .i64 a4,.int .i64 a5,.bool a6] [.int .i64 b0,.int .i64 b1,.int .i64 b2,.int .i64 b3,.int .i64 b4,.int .i64 b5,.bool b6]) w:=by
 have h1:prog.underlying 88=some (.struct (prog.fieldsOf 88)):=by kernel_rfl
 have h2 : (prog.fieldsOf 88).toList = [{ name := "Party", type := 3, offset := 0, embedded := false, tag := "", pkgPath := "", byteOffset := 0 }, { name := "Sex", type := 3, offset := 1, embedded := false, tag := "", pkgPath := "", byteOffset := 8 }, { name := "Bunk", type := 76, offset := 2, embedded := true, tag := "", pkgPath := "", byteOffset := 16 }, { name := "From", type := 3, offset := 4, embedded := false, tag := "", pkgPath := "", byteOffset := 32 }, { name := "To", type := 3, offset := 5, embedded := false, tag := "", pkgPath := "", byteOffset := 40 }, { name := "Dog", type := 4, offset := 6, embedded := false, tag := "", pkgPath := "", byteOffset := 48 }] := by kernel_rfl
 rw [run_equalIn_agg w (d+2) 88 _ _ h1 (by kernel_rfl),h2]
 refine Eq.trans (b:=Result.ok (a0 == b0 && (a1 == b1 && (yz [.int .i64 a2,.int .i64 a3] [.int .i64 b2,.int .i64 b3] && (a4 == b4 && (a5 == b5 && (a6 == b6 && true)))))) w) ?_ (congrArg (fun r=>Result.ok r w) (by simp [yz,veq,Bool.and_assoc]))
 exact zD (by simp) (qB (isAgg3) rfl) (qB (isAgg3) rfl) (run_equalIn_int w (d+1) 3 _ _ _ _ underlying3) (zD (by simp) (qB (isAgg3) rfl) (qB (isAgg3) rfl) (run_equalIn_int w (d+1) 3 _ _ _ _ underlying3) (zD (by simp) (zX (isAgg76) (sizeOf76) rfl) (zX (isAgg76) (sizeOf76) rfl) (QdK (d+0) w a2 b2 a3 b3) (zD (by simp) (qB (isAgg3) rfl) (qB (isAgg3) rfl) (run_equalIn_int w (d+1) 3 _ _ _ _ underlying3) (zD (by simp) (qB (isAgg3) rfl) (qB (isAgg3) rfl) (run_equalIn_int w (d+1) 3 _ _ _ _ underlying3) (zD (by simp) (qB (isAgg4) rfl) (qB (isAgg4) rfl) (run_equalIn_bool' w (d+1) 4 _ _ underlying4) (yj))))))
def ti88:TI:={ cells:=7,bytes:=56,td:=.struct [(0,1,3),(1,1,3),(2,2,76),(4,1,3),(5,1,3),(6,1,4)],zero:=[.v (.int .i64 0),.v (.int .i64 0),.v (.int .i64 0),.v (.int .i64 0),.v (.int .i64 0),.v (.int .i64 0),.v (.bool false)],eqk:=some [some .i64,some .i64,some .i64,some .i64,some .i64,some .i64,none] }
def tf88:TyFact prog 88 ti88:=by
 refine ⟨⟨Tryz.t88,.agg #[.int .i64 0,.int .i64 0,.int .i64 0,.int .i64 0,.int .i64 0,.int .i64 0,.bool false],by kernel_rfl,rfl,rfl,rfl,rfl,rfl,by simp [Value.cells,Value.oneCell']⟩,⟨_,underlying88,⟨_,rfl,rfl⟩⟩,fun fs h=>?_,fun ks h=>?_,fun q h=>?_⟩
 ·cases h
  simp only [ai,aV,or_false,forall_eq_or_imp,forall_eq];exact ⟨⟨Tryz.t3,by kernel_rfl,rfl⟩,⟨Tryz.t3,by kernel_rfl,rfl⟩,⟨Tryz.t76,by kernel_rfl,rfl⟩,⟨Tryz.t3,by kernel_rfl,rfl⟩,⟨Tryz.t3,by kernel_rfl,rfl⟩,⟨Tryz.t4,by kernel_rfl,rfl⟩⟩
 ·cases h
  refine ⟨by kernel_rfl,fun w xs ys hx hy=>?_⟩
  cases xs with
  |nil=>simp [qd] at hx
  |cons x0 xs1 =>
  cases xs1 with
  |nil=>simp [qd] at hx
  |cons x1 xs2 =>
  cases xs2 with
  |nil=>simp [qd] at hx
  |cons x2 xs3 =>
  cases xs3 with
  |nil=>simp [qd] at hx
  |cons x3 xs4 =>
  cases xs4 with
  |nil=>simp [qd] at hx
  |cons x4 xs5 =>
  cases xs5 with
  |nil=>simp [qd] at hx
  |cons x5 xs6 =>
  cases xs6 with
  |nil=>simp [qd] at hx
  |cons x6 xs7 =>
  cases xs7 with
  |cons _ _=>simp [qd] at hx
  |nil =>
  cases ys with
  |nil=>simp [qd] at hy
  |cons y0 ys1 =>
  cases ys1 with
  |nil=>simp [qd] at hy
  |cons y1 ys2 =>
  cases ys2 with
  |nil=>simp [qd] at hy
  |cons y2 ys3 =>
  cases ys3 with
  |nil=>simp [qd] at hy
  |cons y3 ys4 =>
  cases ys4 with
  |nil=>simp [qd] at hy
  |cons y4 ys5 =>
  cases ys5 with
  |nil=>simp [qd] at hy
  |cons y5 ys6 =>
  cases ys6 with
  |nil=>simp [qd] at hy
  |cons y6 ys7 =>
  cases ys7 with
  |cons _ _=>simp [qd] at hy
  |nil =>
  simp only [qd] at hx hy;obtain ⟨⟨nx0,rfl⟩,⟨nx1,rfl⟩,⟨nx2,rfl⟩,⟨nx3,rfl⟩,⟨nx4,rfl⟩,⟨nx5,rfl⟩,⟨nx6,rfl⟩,_⟩:=hx
  obtain ⟨⟨ny0,rfl⟩,⟨ny1,rfl⟩,⟨ny2,rfl⟩,⟨ny3,rfl⟩,⟨ny4,rfl⟩,⟨ny5,rfl⟩,⟨ny6,rfl⟩,_⟩:=hy;exact eqd88 9997 w nx0 ny0 nx1 ny1 nx2 ny2 nx3 ny3 nx4 ny4 nx5 ny5 nx6 ny6
 ·cases h
def QbJ:TI:={ cells:=1,bytes:=8,td:=.int .u64,zero:=[.v (.int .u64 0)],eqk:=none }
def tf90:TyFact prog 90 QbJ:=by
 refine ⟨⟨Tryz.t90,.int .u64 0,by kernel_rfl,rfl,rfl,rfl,rfl,rfl,by simp [Value.cells,Value.oneCell']⟩,⟨_,underlying90,rfl⟩,fun fs h=>?_,fun ks h=>?_,fun q h=>?_⟩
 ·cases h
 ·cases h
 ·cases h
def QgR:TI:={ cells:=1,bytes:=8,td:=.struct [(0,1,90)],zero:=[.v (.int .u64 0)],eqk:=none }
def tf92:TyFact prog 92 QgR:=by
 refine ⟨⟨Tryz.t92,.agg #[.int .u64 0],by kernel_rfl,rfl,rfl,rfl,rfl,rfl,by simp [Value.cells,Value.oneCell']⟩,⟨_,underlying92,⟨_,rfl,rfl⟩⟩,fun fs h=>?_,fun ks h=>?_,fun q h=>?_⟩
 ·cases h
  simp only [ai,aV,or_false,forall_eq];exact ⟨Tryz.t90,by kernel_rfl,rfl⟩
 ·cases h
 ·cases h
def Qhn:TI:={ cells:=1,bytes:=8,td:=.int .u64,zero:=[.v (.int .u64 0)],eqk:=none }
def tf93:TyFact prog 93 Qhn:=by
 refine ⟨⟨Tryz.t93,.int .u64 0,by kernel_rfl,rfl,rfl,rfl,rfl,rfl,by simp [Value.cells,Value.oneCell']⟩,⟨_,underlying93,rfl⟩,fun fs h=>?_,fun ks h=>?_,fun q h=>?_⟩
 ·cases h
 ·cases h
 ·cases h
def ti99:TI:={ cells:=1,bytes:=24,td:=.slice 5,zero:=[.nil],eqk:=none }
def tf99:TyFact prog 99 ti99:=by
 refine ⟨⟨Tryz.t99,.slice none 0 0,by kernel_rfl,rfl,rfl,rfl,rfl,rfl,by simp [Value.cells,Value.oneCell']⟩,⟨_,underlying99,rfl⟩,fun fs h=>?_,fun ks h=>?_,fun q h=>?_⟩
 ·cases h
 ·cases h
 ·cases h
def yP:TI:={ cells:=1,bytes:=24,td:=.slice 110,zero:=[.nil],eqk:=none }
def tf108:TyFact prog 108 yP:=by
 refine ⟨⟨Tryz.t108,.slice none 0 0,by kernel_rfl,rfl,rfl,rfl,rfl,rfl,by simp [Value.cells,Value.oneCell']⟩,⟨_,underlying108,rfl⟩,fun fs h=>?_,fun ks h=>?_,fun q h=>?_⟩
 ·cases h
 ·cases h
 ·cases h
def Yk (d:Nat) (w:World) (a0 b0:Int) (a1 b1:Int):(Op.equalIn (d+2) 110 (.agg #[.int .i64 a0,.int .i64 a1]) (.agg #[.int .i64 b0,.int .i64 b1])).run prog w=.ok (yz [.int .i64 a0,.int .i64 a1] [.int .i64 b0,.int .i64 b1]) w:=by
 have h1:prog.underlying 110=some (.struct (prog.fieldsOf 110)):=by kernel_rfl
 have h2 : (prog.fieldsOf 110).toList = [{ name := "Num", type := 3, offset := 0, embedded := false, tag := "", pkgPath := "", byteOffset := 0 }, { name := "Den", type := 3, offset := 1, embedded := false, tag := "", pkgPath := "", byteOffset := 8 }] := by kernel_rfl
 rw [run_equalIn_agg w (d+1) 110 _ _ h1 (by kernel_rfl),h2]
 refine Eq.trans (b:=Result.ok (a0 == b0 && (a1 == b1 && true)) w) ?_ (congrArg (fun r=>Result.ok r w) (by simp [yz,veq]))
 exact zD (by simp) (qB (isAgg3) rfl) (qB (isAgg3) rfl) (run_equalIn_int w (d+0) 3 _ _ _ _ underlying3) (zD (by simp) (qB (isAgg3) rfl) (qB (isAgg3) rfl) (run_equalIn_int w (d+0) 3 _ _ _ _ underlying3) (yj))
def xD:TI:={ cells:=2,bytes:=16,td:=.struct [(0,1,3),(1,1,3)],zero:=[.v (.int .i64 0),.v (.int .i64 0)],eqk:=some [some .i64,some .i64] }
def tf110:TyFact prog 110 xD:=by
 refine ⟨⟨Tryz.t110,.agg #[.int .i64 0,.int .i64 0],by kernel_rfl,rfl,rfl,rfl,rfl,rfl,by simp [Value.cells,Value.oneCell']⟩,⟨_,underlying110,⟨_,rfl,rfl⟩⟩,fun fs h=>?_,fun ks h=>?_,fun q h=>?_⟩
 ·cases h
  simp only [ai,aV,or_false,forall_eq_or_imp,forall_eq];exact ⟨⟨Tryz.t3,by kernel_rfl,rfl⟩,⟨Tryz.t3,by kernel_rfl,rfl⟩⟩
 ·cases h
  refine ⟨by kernel_rfl,fun w xs ys hx hy=>?_⟩
  cases xs with
  |nil=>simp [qd] at hx
  |cons x0 xs1 =>
  cases xs1 with
  |nil=>simp [qd] at hx
  |cons x1 xs2 =>
  cases xs2 with
  |cons _ _=>simp [qd] at hx
  |nil =>
  cases ys with
  |nil=>simp [qd] at hy
  |cons y0 ys1 =>
  cases ys1 with
  |nil=>simp [qd] at hy
  |cons y1 ys2 =>
  cases ys2 with
  |cons _ _=>simp [qd] at hy
  |nil =>
  simp only [qd] at hx hy;obtain ⟨⟨nx0,rfl⟩,⟨nx1,rfl⟩,_⟩:=hx
  obtain ⟨⟨ny0,rfl⟩,⟨ny1,rfl⟩,_⟩:=hy;exact Yk 9998 w nx0 ny0 nx1 ny1
 ·cases h
def QlO (d:Nat) (w:World) (a0 b0:Int) (a1 b1:Int) (a2 b2:Int) (a3 b3:Int) (a4 b4:Int) (a5 b5:Int) (a6 b6:Int) (a7 b7:Int) (a8 b8:Int) (a9 b9:Int) (a10 b10:Int) (a11 b11:Int):(Op.equalIn (d+3) 112 (.agg #[.int .i64 a0,.int .i64 a1,.int .i64 a2,.int .i64 a3,.int .i64 a4,.int .i64 a5,.int .i64 a6,.int .i64 a7,.int .i64 a8,.int .i64 a9,.int .i64 a10,.int .i64 a11]) (.agg #[.int .i64 b0,.int .i64 b1,.int .i64 b2,.int .i64 b3,.int .i64 b4,.int .i64 b5,.int .i64 b6,.int .i64 b7,.int .i64 b8,.int .i64 b9,.int .i64 b10,.int .i64 b11])).run prog w=.ok (yz [.int .i64 a0,.int .i64 a1,.int .i64 a2,.int .i64 a3,.int .i64 a4,.int .i64 a5,.int .i64 a6,.int .i64 a7,.int .i64 a8,.int .i64 a9,.int .i64 a10,.int .i64 a11] [.int .i64 b0,.int .i64 b1,.int .i64 b2,.int .i64 b3,.int .i64 b4,.int .i64 b5,.int .i64 b6,.int .i64 b7,.int .i64 b8,.int .i64 b9,.int .i64 b10,.int .i64 b11]) w:=by
 have h1:prog.underlying 112=some (.struct (prog.fieldsOf 112)):=by kernel_rfl
 have h2 : (prog.fieldsOf 112).toList = [{ name := "Taken", type := 110, offset := 0, embedded := false, tag := "", pkgPath := "", byteOffset := 0 }, { name := "Paid", type := 110, offset := 2, embedded := false, tag := "", pkgPath := "", byteOffset := 16 }, { name := "Gained", type := 110, offset := 4, embedded := false, tag := "", pkgPath := "", byteOffset := 32 }, { name := "Lost", type := 110, offset := 6, embedded := false, tag := "", pkgPath := "", byteOffset := 48 }, { name := "Found", type := 110, offset := 8, embedded := false, tag := "", pkgPath := "", byteOffset := 64 }, { name := "Worth", type := 110, offset := 10, embedded := false, tag := "", pkgPath := "", byteOffset := 80 }] := by kernel_rfl
 rw [run_equalIn_agg w (d+2) 112 _ _ h1 (by kernel_rfl),h2]
 refine Eq.trans (b:=Result.ok (yz [.int .i64 a0,.int .i64 a1] [.int .i64 b0,.int .i64 b1] && (yz [.int .i64 a2,.int .i64 a3] [.int .i64 b2,.int .i64 b3] && (yz [.int .i64 a4,.int .i64 a5] [.int .i64 b4,.int .i64 b5] && (yz [.int .i64 a6,.int .i64 a7] [.int .i64 b6,.int .i64 b7] && (yz [.int .i64 a8,.int .i64 a9] [.int .i64 b8,.int .i64 b9] && (yz [.int .i64 a10,.int .i64 a11] [.int .i64 b10,.int .i64 b11] && true)))))) w) ?_ (congrArg (fun r=>Result.ok r w) (by simp [yz,veq,Bool.and_assoc]))
 exact zD (by simp) (zX (isAgg110) (sizeOf110) rfl) (zX (isAgg110) (sizeOf110) rfl) (Yk (d+0) w a0 b0 a1 b1) (zD (by simp) (zX (isAgg110) (sizeOf110) rfl) (zX (isAgg110) (sizeOf110) rfl) (Yk (d+0) w a2 b2 a3 b3) (zD (by simp) (zX (isAgg110) (sizeOf110) rfl) (zX (isAgg110) (sizeOf110) rfl) (Yk (d+0) w a4 b4 a5 b5) (zD (by simp) (zX (isAgg110) (sizeOf110) rfl) (zX (isAgg110) (sizeOf110) rfl) (Yk (d+0) w a6 b6 a7 b7) (zD (by simp) (zX (isAgg110) (sizeOf110) rfl) (zX (isAgg110) (sizeOf110) rfl) (Yk (d+0) w a8 b8 a9 b9) (zD (by simp) (zX (isAgg110) (sizeOf110) rfl) (zX (isAgg110) (sizeOf110) rfl) (Yk (d+0) w a10 b10 a11 b11) (yj))))))
def LH:TI:={ cells:=12,bytes:=96,td:=.struct [(0,2,110),(2,2,110),(4,2,110),(6,2,110),(8,2,110),(10,2,110)],zero:=[.v (.int .i64 0),.v (.int .i64 0),.v (.int .i64 0),.v (.int .i64 0),.v (.int .i64 0),.v (.int .i64 0),.v (.int .i64 0),.v (.int .i64 0),.v (.int .i64 0),.v (.int .i64 0),.v (.int .i64 0),.v (.int .i64 0)],eqk:=some [some .i64,some .i64,some .i64,some .i64,some .i64,some .i64,some .i64,some .i64,some .i64,some .i64,some .i64,some .i64] }
def tf112:TyFact prog 112 LH:=by
 refine ⟨⟨Tryz.t112,.agg #[.int .i64 0,.int .i64 0,.int .i64 0,.int .i64 0,.int .i64 0,.int .i64 0,.int .i64 0,.int .i64 0,.int .i64 0,.int .i64 0,.int .i64 0,.int .i64 0],by kernel_rfl,rfl,rfl,rfl,rfl,rfl,by simp [Value.cells,Value.oneCell']⟩,⟨_,underlying112,⟨_,rfl,rfl⟩⟩,fun fs h=>?_,fun ks h=>?_,fun q h=>?_⟩
 ·cases h
  simp only [ai,aV,or_false,forall_eq_or_imp,forall_eq];exact ⟨⟨Tryz.t110,by kernel_rfl,rfl⟩,⟨Tryz.t110,by kernel_rfl,rfl⟩,⟨Tryz.t110,by kernel_rfl,rfl⟩,⟨Tryz.t110,by kernel_rfl,rfl⟩,⟨Tryz.t110,by kernel_rfl,rfl⟩,⟨Tryz.t110,by kernel_rfl,rfl⟩⟩
 ·cases h
  refine ⟨by kernel_rfl,fun w xs ys hx hy=>?_⟩
  cases xs with
  |nil=>simp [qd] at hx
  |cons x0 xs1 =>
  cases xs1 with
  |nil=>simp [qd] at hx
  |cons x1 xs2 =>
  cases xs2 with
  |nil=>simp [qd] at hx
  |cons x2 xs3 =>
  cases xs3 with
  |nil=>simp [qd] at hx
  |cons x3 xs4 =>
  cases xs4 with
  |nil=>simp [qd] at hx
  |cons x4 xs5 =>
  cases xs5 with
  |nil=>simp [qd] at hx
  |cons x5 xs6 =>
  cases xs6 with
  |nil=>simp [qd] at hx
  |cons x6 xs7 =>
  cases xs7 with
  |nil=>simp [qd] at hx
  |cons x7 xs8 =>
  cases xs8 with
  |nil=>simp [qd] at hx
  |cons x8 xs9 =>
  cases xs9 with
  |nil=>simp [qd] at hx
  |cons x9 xs10 =>
  cases xs10 with
  |nil=>simp [qd] at hx
  |cons x10 xs11 =>
  cases xs11 with
  |nil=>simp [qd] at hx
  |cons x11 xs12 =>
  cases xs12 with
  |cons _ _=>simp [qd] at hx
  |nil =>
  cases ys with
  |nil=>simp [qd] at hy
  |cons y0 ys1 =>
  cases ys1 with
  |nil=>simp [qd] at hy
  |cons y1 ys2 =>
  cases ys2 with
  |nil=>simp [qd] at hy
  |cons y2 ys3 =>
  cases ys3 with
  |nil=>simp [qd] at hy
  |cons y3 ys4 =>
  cases ys4 with
  |nil=>simp [qd] at hy
  |cons y4 ys5 =>
  cases ys5 with
  |nil=>simp [qd] at hy
  |cons y5 ys6 =>
  cases ys6 with
  |nil=>simp [qd] at hy
  |cons y6 ys7 =>
  cases ys7 with
  |nil=>simp [qd] at hy
  |cons y7 ys8 =>
  cases ys8 with
  |nil=>simp [qd] at hy
  |cons y8 ys9 =>
  cases ys9 with
  |nil=>simp [qd] at hy
  |cons y9 ys10 =>
  cases ys10 with
  |nil=>simp [qd] at hy
  |cons y10 ys11 =>
  cases ys11 with
  |nil=>simp [qd] at hy
  |cons y11 ys12 =>
  cases ys12 with
  |cons _ _=>simp [qd] at hy
  |nil =>
  simp only [qd] at hx hy;obtain ⟨⟨nx0,rfl⟩,⟨nx1,rfl⟩,⟨nx2,rfl⟩,⟨nx3,rfl⟩,⟨nx4,rfl⟩,⟨nx5,rfl⟩,⟨nx6,rfl⟩,⟨nx7,rfl⟩,⟨nx8,rfl⟩,⟨nx9,rfl⟩,⟨nx10,rfl⟩,⟨nx11,rfl⟩,_⟩:=hx
  obtain ⟨⟨ny0,rfl⟩,⟨ny1,rfl⟩,⟨ny2,rfl⟩,⟨ny3,rfl⟩,⟨ny4,rfl⟩,⟨ny5,rfl⟩,⟨ny6,rfl⟩,⟨ny7,rfl⟩,⟨ny8,rfl⟩,⟨ny9,rfl⟩,⟨ny10,rfl⟩,⟨ny11,rfl⟩,_⟩:=hy;exact QlO 9997 w nx0 ny0 nx1 ny1 nx2 ny2 nx3 ny3 nx4 ny4 nx5 ny5 nx6 ny6 nx7 ny7 nx8 ny8 nx9 ny9 nx10 ny10 nx11 ny11
 ·cases h
def Qk1 (d:Nat) (w:World) (a0 b0:Int) (a1 b1:Int) (a2 b2:Int) (a3 b3:Int) (a4 b4:Int) (a5 b5:Int):(Op.equalIn (d+2) 129 (.agg #[.int .i64 a0,.int .i64 a1,.int .i64 a2,.int .i64 a3,.int .i64 a4,.int .i64 a5]) (.agg #[.int .i64 b0,.int .i64 b1,.int .i64 b2,.int .i64 b3,.int .i64 b4,.int .i64 b5])).run prog w=.ok (yz [.int .i64 a0,.int .i64 a1,.int .i64 a2,.int .i64 a3,.int .i64 a4,.int .i64 a5] [.int .i64 b0,.int .i64 b1,.int .i64 b2,.int .i64 b3,.int .i64 b4,.int .i64 b5]) w:=by
 have h1:prog.underlying 129=some (.struct (prog.fieldsOf 129)):=by kernel_rfl
 have h2 : (prog.fieldsOf 129).toList = [{ name := "Day", type := 3, offset := 0, embedded := false, tag := "", pkgPath := "", byteOffset := 0 }, { name := "Kind", type := 3, offset := 1, embedded := false, tag := "", pkgPath := "", byteOffset := 8 }, { name := "Coin", type := 3, offset := 2, embedded := false, tag := "", pkgPath := "", byteOffset := 16 }, { name := "To", type := 3, offset := 3, embedded := false, tag := "", pkgPath := "", byteOffset := 24 }, { name := "Amount", type := 3, offset := 4, embedded := false, tag := "", pkgPath := "", byteOffset := 32 }, { name := "Got", type := 3, offset := 5, embedded := false, tag := "", pkgPath := "", byteOffset := 40 }] := by kernel_rfl
 rw [run_equalIn_agg w (d+1) 129 _ _ h1 (by kernel_rfl),h2]
 refine Eq.trans (b:=Result.ok (a0 == b0 && (a1 == b1 && (a2 == b2 && (a3 == b3 && (a4 == b4 && (a5 == b5 && true)))))) w) ?_ (congrArg (fun r=>Result.ok r w) (by simp [yz,veq]))
 exact zD (by simp) (qB (isAgg3) rfl) (qB (isAgg3) rfl) (run_equalIn_int w (d+0) 3 _ _ _ _ underlying3) (zD (by simp) (qB (isAgg3) rfl) (qB (isAgg3) rfl) (run_equalIn_int w (d+0) 3 _ _ _ _ underlying3) (zD (by simp) (qB (isAgg3) rfl) (qB (isAgg3) rfl) (run_equalIn_int w (d+0) 3 _ _ _ _ underlying3) (zD (by simp) (qB (isAgg3) rfl) (qB (isAgg3) rfl) (run_equalIn_int w (d+0) 3 _ _ _ _ underlying3) (zD (by simp) (qB (isAgg3) rfl) (qB (isAgg3) rfl) (run_equalIn_int w (d+0) 3 _ _ _ _ underlying3) (zD (by simp) (qB (isAgg3) rfl) (qB (isAgg3) rfl) (run_equalIn_int w (d+0) 3 _ _ _ _ underlying3) (yj))))))
def yS:TI:={ cells:=6,bytes:=48,td:=.struct [(0,1,3),(1,1,3),(2,1,3),(3,1,3),(4,1,3),(5,1,3)],zero:=[.v (.int .i64 0),.v (.int .i64 0),.v (.int .i64 0),.v (.int .i64 0),.v (.int .i64 0),.v (.int .i64 0)],eqk:=some [some .i64,some .i64,some .i64,some .i64,some .i64,some .i64] }
def tf129:TyFact prog 129 yS:=by
 refine ⟨⟨Tryz.t129,.agg #[.int .i64 0,.int .i64 0,.int .i64 0,.int .i64 0,.int .i64 0,.int .i64 0],by kernel_rfl,rfl,rfl,rfl,rfl,rfl,by simp [Value.cells,Value.oneCell']⟩,⟨_,underlying129,⟨_,rfl,rfl⟩⟩,fun fs h=>?_,fun ks h=>?_,fun q h=>?_⟩
 ·cases h
  simp only [ai,aV,or_false,forall_eq_or_imp,forall_eq];exact ⟨⟨Tryz.t3,by kernel_rfl,rfl⟩,⟨Tryz.t3,by kernel_rfl,rfl⟩,⟨Tryz.t3,by kernel_rfl,rfl⟩,⟨Tryz.t3,by kernel_rfl,rfl⟩,⟨Tryz.t3,by kernel_rfl,rfl⟩,⟨Tryz.t3,by kernel_rfl,rfl⟩⟩
 ·cases h
  refine ⟨by kernel_rfl,fun w xs ys hx hy=>?_⟩
  cases xs with
  |nil=>simp [qd] at hx
  |cons x0 xs1 =>
  cases xs1 with
  |nil=>simp [qd] at hx
  |cons x1 xs2 =>
  cases xs2 with
  |nil=>simp [qd] at hx
  |cons x2 xs3 =>
  cases xs3 with
  |nil=>simp [qd] at hx
  |cons x3 xs4 =>
  cases xs4 with
  |nil=>simp [qd] at hx
  |cons x4 xs5 =>
  cases xs5 with
  |nil=>simp [qd] at hx
  |cons x5 xs6 =>
  cases xs6 with
  |cons _ _=>simp [qd] at hx
  |nil =>
  cases ys with
  |nil=>simp [qd] at hy
  |cons y0 ys1 =>
  cases ys1 with
  |nil=>simp [qd] at hy
  |cons y1 ys2 =>
  cases ys2 with
  |nil=>simp [qd] at hy
  |cons y2 ys3 =>
  cases ys3 with
  |nil=>simp [qd] at hy
  |cons y3 ys4 =>
  cases ys4 with
  |nil=>simp [qd] at hy
  |cons y4 ys5 =>
  cases ys5 with
  |nil=>simp [qd] at hy
  |cons y5 ys6 =>
  cases ys6 with
  |cons _ _=>simp [qd] at hy
  |nil =>
  simp only [qd] at hx hy;obtain ⟨⟨nx0,rfl⟩,⟨nx1,rfl⟩,⟨nx2,rfl⟩,⟨nx3,rfl⟩,⟨nx4,rfl⟩,⟨nx5,rfl⟩,_⟩:=hx
  obtain ⟨⟨ny0,rfl⟩,⟨ny1,rfl⟩,⟨ny2,rfl⟩,⟨ny3,rfl⟩,⟨ny4,rfl⟩,⟨ny5,rfl⟩,_⟩:=hy;exact Qk1 9998 w nx0 ny0 nx1 ny1 nx2 ny2 nx3 ny3 nx4 ny4 nx5 ny5
 ·cases h
def QkM:TI:={ cells:=1,bytes:=8,td:=.ptr,zero:=[.v (.pointer none)],eqk:=none }
def tf137:TyFact prog 137 QkM:=by
 refine ⟨⟨Tryz.t137,.pointer none,by kernel_rfl,rfl,rfl,rfl,rfl,rfl,by simp [Value.cells,Value.oneCell']⟩,⟨_,underlying137,⟨_,rfl⟩⟩,fun fs h=>?_,fun ks h=>?_,fun q h=>?_⟩
 ·cases h
 ·cases h
 ·cases h
def QkF:TI:={ cells:=1,bytes:=8,td:=.ptr,zero:=[.v (.pointer none)],eqk:=none }
def tf141:TyFact prog 141 QkF:=by
 refine ⟨⟨Tryz.t141,.pointer none,by kernel_rfl,rfl,rfl,rfl,rfl,rfl,by simp [Value.cells,Value.oneCell']⟩,⟨_,underlying141,⟨_,rfl⟩⟩,fun fs h=>?_,fun ks h=>?_,fun q h=>?_⟩
 ·cases h
 ·cases h
 ·cases h
def Qkb:TI:={ cells:=1,bytes:=8,td:=.func,zero:=[.v (.nilFunc)],eqk:=none }
def tf146:TyFact prog 146 Qkb:=by
 refine ⟨⟨Tryz.t146,.nilFunc,by kernel_rfl,rfl,rfl,rfl,rfl,rfl,by simp [Value.cells,Value.oneCell']⟩,⟨_,underlying146,⟨_,_,_,rfl⟩⟩,fun fs h=>?_,fun ks h=>?_,fun q h=>?_⟩
 ·cases h
 ·cases h
 ·cases h
def Qkn:TI:={ cells:=1,bytes:=8,td:=.func,zero:=[.v (.nilFunc)],eqk:=none }
def tf150:TyFact prog 150 Qkn:=by
 refine ⟨⟨Tryz.t150,.nilFunc,by kernel_rfl,rfl,rfl,rfl,rfl,rfl,by simp [Value.cells,Value.oneCell']⟩,⟨_,underlying150,⟨_,_,_,rfl⟩⟩,fun fs h=>?_,fun ks h=>?_,fun q h=>?_⟩
 ·cases h
 ·cases h
 ·cases h
def Qkq:TI:={ cells:=3,bytes:=56,td:=.struct [(0,3,25)],zero:=[.nil,.v (.int .i64 0),.nil],eqk:=none }
def tf152:TyFact prog 152 Qkq:=by
 refine ⟨⟨Tryz.t152,.agg #[.slice none 0 0,.int .i64 0,.slice none 0 0],by kernel_rfl,rfl,rfl,rfl,rfl,rfl,by simp [Value.cells,Value.oneCell']⟩,⟨_,underlying152,⟨_,rfl,rfl⟩⟩,fun fs h=>?_,fun ks h=>?_,fun q h=>?_⟩
 ·cases h
  simp only [ai,aV,or_false,forall_eq];exact ⟨Tryz.t25,by kernel_rfl,rfl⟩
 ·cases h
 ·cases h
def Qkz:TI:={ cells:=1,bytes:=8,td:=.func,zero:=[.v (.nilFunc)],eqk:=none }
def tf153:TyFact prog 153 Qkz:=by
 refine ⟨⟨Tryz.t153,.nilFunc,by kernel_rfl,rfl,rfl,rfl,rfl,rfl,by simp [Value.cells,Value.oneCell']⟩,⟨_,underlying153,⟨_,_,_,rfl⟩⟩,fun fs h=>?_,fun ks h=>?_,fun q h=>?_⟩
 ·cases h
 ·cases h
 ·cases h
def Qkv:TI:={ cells:=2,bytes:=32,td:=.struct [(0,1,65),(1,1,153)],zero:=[.nil,.v (.nilFunc)],eqk:=none }
def tf155:TyFact prog 155 Qkv:=by
 refine ⟨⟨Tryz.t155,.agg #[.slice none 0 0,.nilFunc],by kernel_rfl,rfl,rfl,rfl,rfl,rfl,by simp [Value.cells,Value.oneCell']⟩,⟨_,underlying155,⟨_,rfl,rfl⟩⟩,fun fs h=>?_,fun ks h=>?_,fun q h=>?_⟩
 ·cases h
  simp only [ai,aV,or_false,forall_eq_or_imp,forall_eq];exact ⟨⟨Tryz.t65,by kernel_rfl,rfl⟩,⟨Tryz.t153,by kernel_rfl,rfl⟩⟩
 ·cases h
 ·cases h
def QlD (d:Nat) (w:World) (a0 b0:Int) (a1 b1:Int) (a2 b2:Int):(Op.equalIn (d+3) 159 (.agg #[.int .i64 a0,.int .i64 a1,.int .i64 a2]) (.agg #[.int .i64 b0,.int .i64 b1,.int .i64 b2])).run prog w=.ok (yz [.int .i64 a0,.int .i64 a1,.int .i64 a2] [.int .i64 b0,.int .i64 b1,.int .i64 b2]) w:=by
 have h1:prog.underlying 159=some (.struct (prog.fieldsOf 159)):=by kernel_rfl
 have h2 : (prog.fieldsOf 159).toList = [{ name := "at", type := 3, offset := 0, embedded := false, tag := "", pkgPath := "couchette/berth", byteOffset := 0 }, { name := "bunk", type := 76, offset := 1, embedded := false, tag := "", pkgPath := "couchette/berth", byteOffset := 8 }] := by kernel_rfl
 rw [run_equalIn_agg w (d+2) 159 _ _ h1 (by kernel_rfl),h2]
 refine Eq.trans (b:=Result.ok (a0 == b0 && (yz [.int .i64 a1,.int .i64 a2] [.int .i64 b1,.int .i64 b2] && true)) w) ?_ (congrArg (fun r=>Result.ok r w) (by simp [yz,veq]))
 exact zD (by simp) (qB (isAgg3) rfl) (qB (isAgg3) rfl) (run_equalIn_int w (d+1) 3 _ _ _ _ underlying3) (zD (by simp) (zX (isAgg76) (sizeOf76) rfl) (zX (isAgg76) (sizeOf76) rfl) (QdK (d+0) w a1 b1 a2 b2) (yj))
def QkT (w:World) (em:Bool) (a0:Int) (a1:Int) (a2:Int):(Instr.checkKey em 10000 159 (.agg #[.int .i64 a0,.int .i64 a1,.int .i64 a2])).run prog w=.ok () w:=by kernel_rfl
def Qj3:TI:={ cells:=1,bytes:=8,td:=.map 159 3,zero:=[.v (.map none)],eqk:=none,key:=some { kd:=.agg [some .i64,some .i64,some .i64],z:=.v (.int .i64 0),agg:=false } }
def tf157:TyFact prog 157 Qj3:=by
 refine ⟨⟨Tryz.t157,.map none,by kernel_rfl,rfl,rfl,rfl,rfl,rfl,by simp [Value.cells,Value.oneCell']⟩,⟨_,underlying157,rfl⟩,fun fs h=>?_,fun ks h=>?_,fun q h=>?_⟩
 ·cases h
 ·cases h
 ·cases h
  refine ⟨159,3,rfl,Qha underlying159 (fun w xs ys hx hy=>?_) (fun w em xs hx=>?_),fun w=>⟨.int .i64 0,by simp [zeroValue,typeInfo,show prog.info? 3=some Tryz.t3 by kernel_rfl,Tryz.t3],fun w' ok ρ y=>?_⟩⟩
  ·skip
   cases xs with
   |nil=>simp [qd] at hx
   |cons x0 xs1 =>
   cases xs1 with
   |nil=>simp [qd] at hx
   |cons x1 xs2 =>
   cases xs2 with
   |nil=>simp [qd] at hx
   |cons x2 xs3 =>
   cases xs3 with
   |cons _ _=>simp [qd] at hx
   |nil =>
   cases ys with
   |nil=>simp [qd] at hy
   |cons y0 ys1 =>
   cases ys1 with
   |nil=>simp [qd] at hy
   |cons y1 ys2 =>
   cases ys2 with
   |nil=>simp [qd] at hy
   |cons y2 ys3 =>
   cases ys3 with
   |cons _ _=>simp [qd] at hy
   |nil =>
   simp only [qd] at hx;obtain ⟨⟨nx0,rfl⟩,⟨nx1,rfl⟩,⟨nx2,rfl⟩,_⟩:=hx
   simp only [qd] at hy;obtain ⟨⟨ny0,rfl⟩,⟨ny1,rfl⟩,⟨ny2,rfl⟩,_⟩:=hy
   exact QlD 9997 w nx0 ny0 nx1 ny1 nx2 ny2
  ·skip
   cases xs with
   |nil=>simp [qd] at hx
   |cons x0 xs1 =>
   cases xs1 with
   |nil=>simp [qd] at hx
   |cons x1 xs2 =>
   cases xs2 with
   |nil=>simp [qd] at hx
   |cons x2 xs3 =>
   cases xs3 with
   |cons _ _=>simp [qd] at hx
   |nil =>
   simp only [qd] at hx;obtain ⟨⟨nx0,rfl⟩,⟨nx1,rfl⟩,⟨nx2,rfl⟩,_⟩:=hx
   exact QkT w em nx0 nx1 nx2
  ·exact .v rfl
def Qkd:TI:={ cells:=3,bytes:=24,td:=.struct [(0,1,3),(1,2,76)],zero:=[.v (.int .i64 0),.v (.int .i64 0),.v (.int .i64 0)],eqk:=none }
def tf159:TyFact prog 159 Qkd:=by
 refine ⟨⟨Tryz.t159,.agg #[.int .i64 0,.int .i64 0,.int .i64 0],by kernel_rfl,rfl,rfl,rfl,rfl,rfl,by simp [Value.cells,Value.oneCell']⟩,⟨_,underlying159,⟨_,rfl,rfl⟩⟩,fun fs h=>?_,fun ks h=>?_,fun q h=>?_⟩
 ·cases h
  simp only [ai,aV,or_false,forall_eq_or_imp,forall_eq];exact ⟨⟨Tryz.t3,by kernel_rfl,rfl⟩,⟨Tryz.t76,by kernel_rfl,rfl⟩⟩
 ·cases h
 ·cases h
def Qkg:TI:={ cells:=1,bytes:=8,td:=.func,zero:=[.v (.nilFunc)],eqk:=none }
def tf167:TyFact prog 167 Qkg:=by
 refine ⟨⟨Tryz.t167,.nilFunc,by kernel_rfl,rfl,rfl,rfl,rfl,rfl,by simp [Value.cells,Value.oneCell']⟩,⟨_,underlying167,⟨_,_,_,rfl⟩⟩,fun fs h=>?_,fun ks h=>?_,fun q h=>?_⟩
 ·cases h
 ·cases h
 ·cases h
def Qj4:TI:={ cells:=1,bytes:=8,td:=.ptr,zero:=[.v (.pointer none)],eqk:=none }
def tf170:TyFact prog 170 Qj4:=by
 refine ⟨⟨Tryz.t170,.pointer none,by kernel_rfl,rfl,rfl,rfl,rfl,rfl,by simp [Value.cells,Value.oneCell']⟩,⟨_,underlying170,⟨_,rfl⟩⟩,fun fs h=>?_,fun ks h=>?_,fun q h=>?_⟩
 ·cases h
 ·cases h
 ·cases h
def QkI:TI:={ cells:=2,bytes:=32,td:=.struct [(0,1,170),(1,1,99)],zero:=[.v (.pointer none),.nil],eqk:=none }
def tf172:TyFact prog 172 QkI:=by
 refine ⟨⟨Tryz.t172,.agg #[.pointer none,.slice none 0 0],by kernel_rfl,rfl,rfl,rfl,rfl,rfl,by simp [Value.cells,Value.oneCell']⟩,⟨_,underlying172,⟨_,rfl,rfl⟩⟩,fun fs h=>?_,fun ks h=>?_,fun q h=>?_⟩
 ·cases h
  simp only [ai,aV,or_false,forall_eq_or_imp,forall_eq];exact ⟨⟨Tryz.t170,by kernel_rfl,rfl⟩,⟨Tryz.t99,by kernel_rfl,rfl⟩⟩
 ·cases h
 ·cases h
def QkC:TI:={ cells:=1,bytes:=16,td:=.iface,zero:=[.v (.nilIface)],eqk:=none }
def tf175:TyFact prog 175 QkC:=by
 refine ⟨⟨Tryz.t175,.nilIface,by kernel_rfl,rfl,rfl,rfl,rfl,rfl,by simp [Value.cells,Value.oneCell']⟩,⟨_,underlying175,⟨_,rfl⟩⟩,fun fs h=>?_,fun ks h=>?_,fun q h=>?_⟩
 ·cases h
 ·cases h
 ·cases h
def Qj6:TI:={ cells:=0,bytes:=0,td:=.struct [],zero:=[],eqk:=none }
def tf182:TyFact prog 182 Qj6:=by
 refine ⟨⟨Tryz.t182,.agg #[],by kernel_rfl,rfl,rfl,rfl,rfl,rfl,by simp [Value.cells,Value.oneCell']⟩,⟨_,underlying182,⟨_,rfl,rfl⟩⟩,fun fs h=>?_,fun ks h=>?_,fun q h=>?_⟩
 ·cases h
  simp only [aV];exact fun _ h=>(h:False).elim
 ·cases h
 ·cases h
def QkJ:TI:={ cells:=1,bytes:=8,td:=.ptr,zero:=[.v (.pointer none)],eqk:=none }
def tf185:TyFact prog 185 QkJ:=by
 refine ⟨⟨Tryz.t185,.pointer none,by kernel_rfl,rfl,rfl,rfl,rfl,rfl,by simp [Value.cells,Value.oneCell']⟩,⟨_,underlying185,⟨_,rfl⟩⟩,fun fs h=>?_,fun ks h=>?_,fun q h=>?_⟩
 ·cases h
 ·cases h
 ·cases h
def QkG:TI:={ cells:=1,bytes:=8,td:=.ptr,zero:=[.v (.pointer none)],eqk:=none }
def tf188:TyFact prog 188 QkG:=by
 refine ⟨⟨Tryz.t188,.pointer none,by kernel_rfl,rfl,rfl,rfl,rfl,rfl,by simp [Value.cells,Value.oneCell']⟩,⟨_,underlying188,⟨_,rfl⟩⟩,fun fs h=>?_,fun ks h=>?_,fun q h=>?_⟩
 ·cases h
 ·cases h
 ·cases h
def Xc:TI:={ cells:=1,bytes:=24,td:=.slice 191,zero:=[.nil],eqk:=none }
def tf190:TyFact prog 190 Xc:=by
 refine ⟨⟨Tryz.t190,.slice none 0 0,by kernel_rfl,rfl,rfl,rfl,rfl,rfl,by simp [Value.cells,Value.oneCell']⟩,⟨_,underlying190,rfl⟩,fun fs h=>?_,fun ks h=>?_,fun q h=>?_⟩
 ·cases h
 ·cases h
 ·cases h
def Qlp (d:Nat) (w:World) (a0 b0:Int) (a1 b1:Int):(Op.equalIn (d+2) 191 (.agg #[.int .i64 a0,.int .i64 a1]) (.agg #[.int .i64 b0,.int .i64 b1])).run prog w=.ok (yz [.int .i64 a0,.int .i64 a1] [.int .i64 b0,.int .i64 b1]) w:=by
 have h1:prog.underlying 191=some (.struct (prog.fieldsOf 191)):=by kernel_rfl
 have h2 : (prog.fieldsOf 191).toList = [{ name := "Num", type := 3, offset := 0, embedded := false, tag := "", pkgPath := "", byteOffset := 0 }, { name := "Den", type := 3, offset := 1, embedded := false, tag := "", pkgPath := "", byteOffset := 8 }] := by kernel_rfl
 rw [run_equalIn_agg w (d+1) 191 _ _ h1 (by kernel_rfl),h2]
 refine Eq.trans (b:=Result.ok (a0 == b0 && (a1 == b1 && true)) w) ?_ (congrArg (fun r=>Result.ok r w) (by simp [yz,veq]))
 exact zD (by simp) (qB (isAgg3) rfl) (qB (isAgg3) rfl) (run_equalIn_int w (d+0) 3 _ _ _ _ underlying3) (zD (by simp) (qB (isAgg3) rfl) (qB (isAgg3) rfl) (run_equalIn_int w (d+0) 3 _ _ _ _ underlying3) (yj))
def xU:TI:={ cells:=2,bytes:=16,td:=.struct [(0,1,3),(1,1,3)],zero:=[.v (.int .i64 0),.v (.int .i64 0)],eqk:=some [some .i64,some .i64] }
def tf191:TyFact prog 191 xU:=by
 refine ⟨⟨Tryz.t191,.agg #[.int .i64 0,.int .i64 0],by kernel_rfl,rfl,rfl,rfl,rfl,rfl,by simp [Value.cells,Value.oneCell']⟩,⟨_,underlying191,⟨_,rfl,rfl⟩⟩,fun fs h=>?_,fun ks h=>?_,fun q h=>?_⟩
 ·cases h
  simp only [ai,aV,or_false,forall_eq_or_imp,forall_eq];exact ⟨⟨Tryz.t3,by kernel_rfl,rfl⟩,⟨Tryz.t3,by kernel_rfl,rfl⟩⟩
 ·cases h
  refine ⟨by kernel_rfl,fun w xs ys hx hy=>?_⟩
  cases xs with
  |nil=>simp [qd] at hx
  |cons x0 xs1 =>
  cases xs1 with
  |nil=>simp [qd] at hx
  |cons x1 xs2 =>
  cases xs2 with
  |cons _ _=>simp [qd] at hx
  |nil =>
  cases ys with
  |nil=>simp [qd] at hy
  |cons y0 ys1 =>
  cases ys1 with
  |nil=>simp [qd] at hy
  |cons y1 ys2 =>
  cases ys2 with
  |cons _ _=>simp [qd] at hy
  |nil =>
  simp only [qd] at hx hy;obtain ⟨⟨nx0,rfl⟩,⟨nx1,rfl⟩,_⟩:=hx
  obtain ⟨⟨ny0,rfl⟩,⟨ny1,rfl⟩,_⟩:=hy;exact Qlp 9998 w nx0 ny0 nx1 ny1
 ·cases h
def YR:TI:={ cells:=5,bytes:=120,td:=.struct [(0,4,47),(4,1,26)],zero:=[.nil,.nil,.nil,.nil,.nil],eqk:=none }
def tf196:TyFact prog 196 YR:=by
 refine ⟨⟨Tryz.t196,.agg #[.slice none 0 0,.slice none 0 0,.slice none 0 0,.slice none 0 0,.slice none 0 0],by kernel_rfl,rfl,rfl,rfl,rfl,rfl,by simp [Value.cells,Value.oneCell']⟩,⟨_,underlying196,⟨_,rfl,rfl⟩⟩,fun fs h=>?_,fun ks h=>?_,fun q h=>?_⟩
 ·cases h
  simp only [ai,aV,or_false,forall_eq_or_imp,forall_eq];exact ⟨⟨Tryz.t47,by kernel_rfl,rfl⟩,⟨Tryz.t26,by kernel_rfl,rfl⟩⟩
 ·cases h
 ·cases h
def Qbg:TI:={ cells:=1,bytes:=8,td:=.func,zero:=[.v (.nilFunc)],eqk:=none }
def tf206:TyFact prog 206 Qbg:=by
 refine ⟨⟨Tryz.t206,.nilFunc,by kernel_rfl,rfl,rfl,rfl,rfl,rfl,by simp [Value.cells,Value.oneCell']⟩,⟨_,underlying206,⟨_,_,_,rfl⟩⟩,fun fs h=>?_,fun ks h=>?_,fun q h=>?_⟩
 ·cases h
 ·cases h
 ·cases h
def Qac:TI:={ cells:=1,bytes:=8,td:=.func,zero:=[.v (.nilFunc)],eqk:=none }
def tf207:TyFact prog 207 Qac:=by
 refine ⟨⟨Tryz.t207,.nilFunc,by kernel_rfl,rfl,rfl,rfl,rfl,rfl,by simp [Value.cells,Value.oneCell']⟩,⟨_,underlying207,⟨_,_,_,rfl⟩⟩,fun fs h=>?_,fun ks h=>?_,fun q h=>?_⟩
 ·cases h
 ·cases h
 ·cases h
def Vy:TI:={ cells:=0,bytes:=0,td:=.struct [],zero:=[],eqk:=none }
def tf217:TyFact prog 217 Vy:=by
 refine ⟨⟨Tryz.t217,.agg #[],by kernel_rfl,rfl,rfl,rfl,rfl,rfl,by simp [Value.cells,Value.oneCell']⟩,⟨_,underlying217,⟨_,rfl,rfl⟩⟩,fun fs h=>?_,fun ks h=>?_,fun q h=>?_⟩
 ·cases h
  simp only [aV];exact fun _ h=>(h:False).elim
 ·cases h
 ·cases h
def QkB:TI:={ cells:=1,bytes:=8,td:=.int .u64,zero:=[.v (.int .u64 0)],eqk:=none }
def tf224:TyFact prog 224 QkB:=by
 refine ⟨⟨Tryz.t224,.int .u64 0,by kernel_rfl,rfl,rfl,rfl,rfl,rfl,by simp [Value.cells,Value.oneCell']⟩,⟨_,underlying224,rfl⟩,fun fs h=>?_,fun ks h=>?_,fun q h=>?_⟩
 ·cases h
 ·cases h
 ·cases h
def Qj5:TI:={ cells:=3,bytes:=24,td:=.array 3 224,zero:=[.v (.int .u64 0),.v (.int .u64 0),.v (.int .u64 0)],eqk:=none }
def tf226:TyFact prog 226 Qj5:=by
 refine ⟨⟨Tryz.t226,.agg #[.int .u64 0,.int .u64 0,.int .u64 0],by kernel_rfl,rfl,rfl,rfl,rfl,rfl,by simp [Value.cells,Value.oneCell']⟩,⟨_,underlying226,rfl⟩,fun fs h=>?_,fun ks h=>?_,fun q h=>?_⟩
 ·cases h
 ·cases h
 ·cases h
def Qke:TI:={ cells:=1,bytes:=8,td:=.func,zero:=[.v (.nilFunc)],eqk:=none }
def tf231:TyFact prog 231 Qke:=by
 refine ⟨⟨Tryz.t231,.nilFunc,by kernel_rfl,rfl,rfl,rfl,rfl,rfl,by simp [Value.cells,Value.oneCell']⟩,⟨_,underlying231,⟨_,_,_,rfl⟩⟩,fun fs h=>?_,fun ks h=>?_,fun q h=>?_⟩
 ·cases h
 ·cases h
 ·cases h
def Qkh:TI:={ cells:=1,bytes:=8,td:=.func,zero:=[.v (.nilFunc)],eqk:=none }
def tf233:TyFact prog 233 Qkh:=by
 refine ⟨⟨Tryz.t233,.nilFunc,by kernel_rfl,rfl,rfl,rfl,rfl,rfl,by simp [Value.cells,Value.oneCell']⟩,⟨_,underlying233,⟨_,_,_,rfl⟩⟩,fun fs h=>?_,fun ks h=>?_,fun q h=>?_⟩
 ·cases h
 ·cases h
 ·cases h
def Qkx:TI:={ cells:=1,bytes:=8,td:=.map 3 3,zero:=[.v (.map none)],eqk:=none,key:=some { kd:=.one (.int .i64),z:=.v (.int .i64 0),agg:=false } }
def tf234:TyFact prog 234 Qkx:=by
 refine ⟨⟨Tryz.t234,.map none,by kernel_rfl,rfl,rfl,rfl,rfl,rfl,by simp [Value.cells,Value.oneCell']⟩,⟨_,underlying234,rfl⟩,fun fs h=>?_,fun ks h=>?_,fun q h=>?_⟩
 ·cases h
 ·cases h
 ·cases h
  refine ⟨3,3,rfl,QcU underlying3,fun w=>⟨.int .i64 0,by simp [zeroValue,typeInfo,show prog.info? 3=some Tryz.t3 by kernel_rfl,Tryz.t3],fun w' ok ρ y=>?_⟩⟩
  exact .v rfl
def Qj7:TI:={ cells:=1,bytes:=8,td:=.func,zero:=[.v (.nilFunc)],eqk:=none }
def tf235:TyFact prog 235 Qj7:=by
 refine ⟨⟨Tryz.t235,.nilFunc,by kernel_rfl,rfl,rfl,rfl,rfl,rfl,by simp [Value.cells,Value.oneCell']⟩,⟨_,underlying235,⟨_,_,_,rfl⟩⟩,fun fs h=>?_,fun ks h=>?_,fun q h=>?_⟩
 ·cases h
 ·cases h
 ·cases h
def Qkp:TI:={ cells:=1,bytes:=8,td:=.ptr,zero:=[.v (.pointer none)],eqk:=none }
def tf242:TyFact prog 242 Qkp:=by
 refine ⟨⟨Tryz.t242,.pointer none,by kernel_rfl,rfl,rfl,rfl,rfl,rfl,by simp [Value.cells,Value.oneCell']⟩,⟨_,underlying242,⟨_,rfl⟩⟩,fun fs h=>?_,fun ks h=>?_,fun q h=>?_⟩
 ·cases h
 ·cases h
 ·cases h
def Qj8:TI:={ cells:=1,bytes:=8,td:=.func,zero:=[.v (.nilFunc)],eqk:=none }
def tf259:TyFact prog 259 Qj8:=by
 refine ⟨⟨Tryz.t259,.nilFunc,by kernel_rfl,rfl,rfl,rfl,rfl,rfl,by simp [Value.cells,Value.oneCell']⟩,⟨_,underlying259,⟨_,_,_,rfl⟩⟩,fun fs h=>?_,fun ks h=>?_,fun q h=>?_⟩
 ·cases h
 ·cases h
 ·cases h
def QkN:TI:={ cells:=24,bytes:=24,td:=.array 24 5,zero:=List.replicate 24 (.v (.int .u8 0)),eqk:=none }
def tf267:TyFact prog 267 QkN:=by
 refine ⟨⟨Tryz.t267,.agg #[.int .u8 0,.int .u8 0,.int .u8 0,.int .u8 0,.int .u8 0,.int .u8 0,.int .u8 0,.int .u8 0,.int .u8 0,.int .u8 0,.int .u8 0,.int .u8 0,.int .u8 0,.int .u8 0,.int .u8 0,.int .u8 0,.int .u8 0,.int .u8 0,.int .u8 0,.int .u8 0,.int .u8 0,.int .u8 0,.int .u8 0,.int .u8 0],by kernel_rfl,rfl,rfl,rfl,rfl,rfl,by simp [Value.cells,Value.oneCell']⟩,⟨_,underlying267,rfl⟩,fun fs h=>?_,fun ks h=>?_,fun q h=>?_⟩
 ·cases h
 ·cases h
 ·cases h
def Qku:TI:={ cells:=1,bytes:=4,td:=.int .u32,zero:=[.v (.int .u32 0)],eqk:=none }
def tf280:TyFact prog 280 Qku:=by
 refine ⟨⟨Tryz.t280,.int .u32 0,by kernel_rfl,rfl,rfl,rfl,rfl,rfl,by simp [Value.cells,Value.oneCell']⟩,⟨_,underlying280,rfl⟩,fun fs h=>?_,fun ks h=>?_,fun q h=>?_⟩
 ·cases h
 ·cases h
 ·cases h
def Qkc:TI:={ cells:=20,bytes:=160,td:=.array 20 90,zero:=[.v (.int .u64 0),.v (.int .u64 0),.v (.int .u64 0),.v (.int .u64 0),.v (.int .u64 0),.v (.int .u64 0),.v (.int .u64 0),.v (.int .u64 0),.v (.int .u64 0),.v (.int .u64 0),.v (.int .u64 0),.v (.int .u64 0),.v (.int .u64 0),.v (.int .u64 0),.v (.int .u64 0),.v (.int .u64 0),.v (.int .u64 0),.v (.int .u64 0),.v (.int .u64 0),.v (.int .u64 0)],eqk:=none }
def tf293:TyFact prog 293 Qkc:=by
 refine ⟨⟨Tryz.t293,.agg #[.int .u64 0,.int .u64 0,.int .u64 0,.int .u64 0,.int .u64 0,.int .u64 0,.int .u64 0,.int .u64 0,.int .u64 0,.int .u64 0,.int .u64 0,.int .u64 0,.int .u64 0,.int .u64 0,.int .u64 0,.int .u64 0,.int .u64 0,.int .u64 0,.int .u64 0,.int .u64 0],by kernel_rfl,rfl,rfl,rfl,rfl,rfl,by simp [Value.cells,Value.oneCell']⟩,⟨_,underlying293,rfl⟩,fun fs h=>?_,fun ks h=>?_,fun q h=>?_⟩
 ·cases h
 ·cases h
 ·cases h
def Qkt:TI:={ cells:=1,bytes:=8,td:=.int .i64,zero:=[.v (.int .i64 0)],eqk:=none }
def tf302:TyFact prog 302 Qkt:=by
 refine ⟨⟨Tryz.t302,.int .i64 0,by kernel_rfl,rfl,rfl,rfl,rfl,rfl,by simp [Value.cells,Value.oneCell']⟩,⟨_,underlying302,rfl⟩,fun fs h=>?_,fun ks h=>?_,fun q h=>?_⟩
 ·cases h
 ·cases h
 ·cases h
def Qj2:TI:={ cells:=1,bytes:=8,td:=.ptr,zero:=[.v (.pointer none)],eqk:=none }
def tf305:TyFact prog 305 Qj2:=by
 refine ⟨⟨Tryz.t305,.pointer none,by kernel_rfl,rfl,rfl,rfl,rfl,rfl,by simp [Value.cells,Value.oneCell']⟩,⟨_,underlying305,⟨_,rfl⟩⟩,fun fs h=>?_,fun ks h=>?_,fun q h=>?_⟩
 ·cases h
 ·cases h
 ·cases h
def Qks:TI:={ cells:=32,bytes:=32,td:=.array 32 5,zero:=List.replicate 32 (.v (.int .u8 0)),eqk:=none }
def tf308:TyFact prog 308 Qks:=by
 refine ⟨⟨Tryz.t308,.agg #[.int .u8 0,.int .u8 0,.int .u8 0,.int .u8 0,.int .u8 0,.int .u8 0,.int .u8 0,.int .u8 0,.int .u8 0,.int .u8 0,.int .u8 0,.int .u8 0,.int .u8 0,.int .u8 0,.int .u8 0,.int .u8 0,.int .u8 0,.int .u8 0,.int .u8 0,.int .u8 0,.int .u8 0,.int .u8 0,.int .u8 0,.int .u8 0,.int .u8 0,.int .u8 0,.int .u8 0,.int .u8 0,.int .u8 0,.int .u8 0,.int .u8 0,.int .u8 0],by kernel_rfl,rfl,rfl,rfl,rfl,rfl,by simp [Value.cells,Value.oneCell']⟩,⟨_,underlying308,rfl⟩,fun fs h=>?_,fun ks h=>?_,fun q h=>?_⟩
 ·cases h
 ·cases h
 ·cases h
def Qkf:TI:={ cells:=64,bytes:=64,td:=.array 64 5,zero:=List.replicate 64 (.v (.int .u8 0)),eqk:=none }
def tf309:TyFact prog 309 Qkf:=by
 refine ⟨⟨Tryz.t309,.agg #[.int .u8 0,.int .u8 0,.int .u8 0,.int .u8 0,.int .u8 0,.int .u8 0,.int .u8 0,.int .u8 0,.int .u8 0,.int .u8 0,.int .u8 0,.int .u8 0,.int .u8 0,.int .u8 0,.int .u8 0,.int .u8 0,.int .u8 0,.int .u8 0,.int .u8 0,.int .u8 0,.int .u8 0,.int .u8 0,.int .u8 0,.int .u8 0,.int .u8 0,.int .u8 0,.int .u8 0,.int .u8 0,.int .u8 0,.int .u8 0,.int .u8 0,.int .u8 0,.int .u8 0,.int .u8 0,.int .u8 0,.int .u8 0,.int .u8 0,.int .u8 0,.int .u8 0,.int .u8 0,.int .u8 0,.int .u8 0,.int .u8 0,.int .u8 0,.int .u8 0,.int .u8 0,.int .u8 0,.int .u8 0,.int .u8 0,.int .u8 0,.int .u8 0,.int .u8 0,.int .u8 0,.int .u8 0,.int .u8 0,.int .u8 0,.int .u8 0,.int .u8 0,.int .u8 0,.int .u8 0,.int .u8 0,.int .u8 0,.int .u8 0,.int .u8 0],by kernel_rfl,rfl,rfl,rfl,rfl,rfl,by simp [Value.cells,Value.oneCell']⟩,⟨_,underlying309,rfl⟩,fun fs h=>?_,fun ks h=>?_,fun q h=>?_⟩
 ·cases h
 ·cases h
 ·cases h
def QkD:TI:={ cells:=2,bytes:=2,td:=.struct [(0,1,5),(1,1,5)],zero:=[.v (.int .u8 0),.v (.int .u8 0)],eqk:=none }
def tf312:TyFact prog 312 QkD:=by
 refine ⟨⟨Tryz.t312,.agg #[.int .u8 0,.int .u8 0],by kernel_rfl,rfl,rfl,rfl,rfl,rfl,by simp [Value.cells,Value.oneCell']⟩,⟨_,underlying312,⟨_,rfl,rfl⟩⟩,fun fs h=>?_,fun ks h=>?_,fun q h=>?_⟩
 ·cases h
  simp only [ai,aV,or_false,forall_eq_or_imp,forall_eq];exact ⟨⟨Tryz.t5,by kernel_rfl,rfl⟩,⟨Tryz.t5,by kernel_rfl,rfl⟩⟩
 ·cases h
 ·cases h
def QkE:TI:={ cells:=32,bytes:=32,td:=.array 16 312,zero:=List.replicate 32 (.v (.int .u8 0)),eqk:=none }
def tf313:TyFact prog 313 QkE:=by
 refine ⟨⟨Tryz.t313,.agg #[.int .u8 0,.int .u8 0,.int .u8 0,.int .u8 0,.int .u8 0,.int .u8 0,.int .u8 0,.int .u8 0,.int .u8 0,.int .u8 0,.int .u8 0,.int .u8 0,.int .u8 0,.int .u8 0,.int .u8 0,.int .u8 0,.int .u8 0,.int .u8 0,.int .u8 0,.int .u8 0,.int .u8 0,.int .u8 0,.int .u8 0,.int .u8 0,.int .u8 0,.int .u8 0,.int .u8 0,.int .u8 0,.int .u8 0,.int .u8 0,.int .u8 0,.int .u8 0],by kernel_rfl,rfl,rfl,rfl,rfl,rfl,by simp [Value.cells,Value.oneCell']⟩,⟨_,underlying313,rfl⟩,fun fs h=>?_,fun ks h=>?_,fun q h=>?_⟩
 ·cases h
 ·cases h
 ·cases h
def Qki:TI:={ cells:=3,bytes:=48,td:=.struct [(0,1,9),(1,1,9),(2,1,175)],zero:=[.v (.string ⟨#[]⟩),.v (.string ⟨#[]⟩),.v (.nilIface)],eqk:=none }
def tf319:TyFact prog 319 Qki:=by
 refine ⟨⟨Tryz.t319,.agg #[.string ⟨#[]⟩,.string ⟨#[]⟩,.nilIface],by kernel_rfl,rfl,rfl,rfl,rfl,rfl,by simp [Value.cells,Value.oneCell']⟩,⟨_,underlying319,⟨_,rfl,rfl⟩⟩,fun fs h=>?_,fun ks h=>?_,fun q h=>?_⟩
 ·cases h
  simp only [ai,aV,or_false,forall_eq_or_imp,forall_eq];exact ⟨⟨Tryz.t9,by kernel_rfl,rfl⟩,⟨Tryz.t9,by kernel_rfl,rfl⟩,⟨Tryz.t175,by kernel_rfl,rfl⟩⟩
 ·cases h
 ·cases h
def Qkk:TI:={ cells:=1,bytes:=8,td:=.ptr,zero:=[.v (.pointer none)],eqk:=none }
def tf323:TyFact prog 323 Qkk:=by
 refine ⟨⟨Tryz.t323,.pointer none,by kernel_rfl,rfl,rfl,rfl,rfl,rfl,by simp [Value.cells,Value.oneCell']⟩,⟨_,underlying323,⟨_,rfl⟩⟩,fun fs h=>?_,fun ks h=>?_,fun q h=>?_⟩
 ·cases h
 ·cases h
 ·cases h
def Qkl:TI:={ cells:=1,bytes:=16,td:=.struct [(0,1,9)],zero:=[.v (.string ⟨#[]⟩)],eqk:=none }
def tf325:TyFact prog 325 Qkl:=by
 refine ⟨⟨Tryz.t325,.agg #[.string ⟨#[]⟩],by kernel_rfl,rfl,rfl,rfl,rfl,rfl,by simp [Value.cells,Value.oneCell']⟩,⟨_,underlying325,⟨_,rfl,rfl⟩⟩,fun fs h=>?_,fun ks h=>?_,fun q h=>?_⟩
 ·cases h
  simp only [ai,aV,or_false,forall_eq];exact ⟨Tryz.t9,by kernel_rfl,rfl⟩
 ·cases h
 ·cases h
def tyL:List (Nat × TI):=[(2,ti2),(3,ti3),(4,ti4),(5,ti5),(9,ti9),(20,ti20),(21,ti21),(22,ti22),(23,ti23),(25,ti25),(26,jc),(28,ti28),(30,ti30),(32,ti32),(33,Wj),(34,Zn),(43,kI),(44,Zp),(45,WO),(47,vD),(50,ti50),(59,ti59),(63,ti63),(65,ti65),(71,ti71),(76,ti76),(80,ti80),(81,ti81),(84,ti84),(88,ti88),(90,QbJ),(92,QgR),(93,Qhn),(99,ti99),(108,yP),(110,xD),(112,LH),(129,yS),(137,QkM),(141,QkF),(146,Qkb),(150,Qkn),(152,Qkq),(153,Qkz),(155,Qkv),(157,Qj3),(159,Qkd),(167,Qkg),(170,Qj4),(172,QkI),(175,QkC),(182,Qj6),(185,QkJ),(188,QkG),(190,Xc),(191,xU),(196,YR),(206,Qbg),(207,Qac),(217,Vy),(224,QkB),(226,Qj5),(231,Qke),(233,Qkh),(234,Qkx),(235,Qj7),(242,Qkp),(259,Qj8),(267,QkN),(280,Qku),(293,Qkc),(302,Qkt),(305,Qj2),(308,Qks),(309,Qkf),(312,QkD),(313,QkE),(319,Qki),(323,Qkk),(325,Qkl)]
def tyOf:List (Nat × TI)->Tys
 |[],_=>none
 |p :: r,t=>if t=p.1 then some p.2 else tyOf r t
def tyB:Tys:=tyOf tyL
def ty3:tyB 3=some ti3:=rfl
def ty5:tyB 5=some ti5:=rfl
def ty9:tyB 9=some ti9:=rfl
def jh:tyB 26=some jc:=rfl
def JR:tyB 33=some Wj:=rfl
def WP:tyB 34=some Zn:=rfl
def QD:tyB 43=some kI:=rfl
def WK:tyB 44=some Zp:=rfl
def Yt:tyB 45=some WO:=rfl
def vU:tyB 47=some vD:=rfl
def ty50:tyB 50=some ti50:=rfl
def ty90:tyB 90=some QbJ:=rfl
def ty92:tyB 92=some QgR:=rfl
def ty93:tyB 93=some Qhn:=rfl
def ty99:tyB 99=some ti99:=rfl
def vQ:tyB 108=some yP:=rfl
def Qg:tyB 110=some xD:=rfl
def QkK:tyB 112=some LH:=rfl
def vR:tyB 129=some yS:=rfl
def Qdq:tyB 190=some Xc:=rfl
def Qy:tyB 191=some xU:=rfl
def Rj:tyB 196=some YR:=rfl
def Qkw:tyB 206=some Qbg:=rfl
def Qkm:tyB 207=some Qac:=rfl
def Lm:tyB 217=some Vy:=rfl
def LQ:∀ {L:List (Nat × TI)} {t:Nat} {i:TI},tyOf L t=some i->(t,i) ∈ L
 |p :: r,t,i,h=>by
  simp only [tyOf] at h;split at h
  ·rename_i ht;cases h;rw [ht];exact bb
  ·exact aX _ (LQ h)
def QhQ:wW prog tyB:=fun t i h=>by
 have h:=LQ h;simp only [tyL,ai,aV,or_false,Prod.mk.injEq] at h
 rcases h with ⟨rfl,rfl⟩|⟨rfl,rfl⟩|⟨rfl,rfl⟩|⟨rfl,rfl⟩|⟨rfl,rfl⟩|⟨rfl,rfl⟩|⟨rfl,rfl⟩|⟨rfl,rfl⟩|⟨rfl,rfl⟩|⟨rfl,rfl⟩|⟨rfl,rfl⟩|⟨rfl,rfl⟩|⟨rfl,rfl⟩|⟨rfl,rfl⟩|⟨rfl,rfl⟩|⟨rfl,rfl⟩|⟨rfl,rfl⟩|⟨rfl,rfl⟩|⟨rfl,rfl⟩|⟨rfl,rfl⟩|⟨rfl,rfl⟩|⟨rfl,rfl⟩|⟨rfl,rfl⟩|⟨rfl,rfl⟩|⟨rfl,rfl⟩|⟨rfl,rfl⟩|⟨rfl,rfl⟩|⟨rfl,rfl⟩|⟨rfl,rfl⟩|⟨rfl,rfl⟩|⟨rfl,rfl⟩|⟨rfl,rfl⟩|⟨rfl,rfl⟩|⟨rfl,rfl⟩|⟨rfl,rfl⟩|⟨rfl,rfl⟩|⟨rfl,rfl⟩|⟨rfl,rfl⟩|⟨rfl,rfl⟩|⟨rfl,rfl⟩|⟨rfl,rfl⟩|⟨rfl,rfl⟩|⟨rfl,rfl⟩|⟨rfl,rfl⟩|⟨rfl,rfl⟩|⟨rfl,rfl⟩|⟨rfl,rfl⟩|⟨rfl,rfl⟩|⟨rfl,rfl⟩|⟨rfl,rfl⟩|⟨rfl,rfl⟩|⟨rfl,rfl⟩|⟨rfl,rfl⟩|⟨rfl,rfl⟩|⟨rfl,rfl⟩|⟨rfl,rfl⟩|⟨rfl,rfl⟩|⟨rfl,rfl⟩|⟨rfl,rfl⟩|⟨rfl,rfl⟩|⟨rfl,rfl⟩|⟨rfl,rfl⟩|⟨rfl,rfl⟩|⟨rfl,rfl⟩|⟨rfl,rfl⟩|⟨rfl,rfl⟩|⟨rfl,rfl⟩|⟨rfl,rfl⟩|⟨rfl,rfl⟩|⟨rfl,rfl⟩|⟨rfl,rfl⟩|⟨rfl,rfl⟩|⟨rfl,rfl⟩|⟨rfl,rfl⟩|⟨rfl,rfl⟩|⟨rfl,rfl⟩|⟨rfl,rfl⟩|⟨rfl,rfl⟩|⟨rfl,rfl⟩|⟨rfl,rfl⟩
 ·exact tf2
 ·exact tf3
 ·exact tf4
 ·exact tf5
 ·exact tf9
 ·exact tf20
 ·exact tf21
 ·exact tf22
 ·exact tf23
 ·exact tf25
 ·exact tf26
 ·exact tf28
 ·exact tf30
 ·exact tf32
 ·exact tf33
 ·exact tf34
 ·exact tf43
 ·exact tf44
 ·exact tf45
 ·exact tf47
 ·exact tf50
 ·exact tf59
 ·exact tf63
 ·exact tf65
 ·exact tf71
 ·exact tf76
 ·exact tf80
 ·exact tf81
 ·exact tf84
 ·exact tf88
 ·exact tf90
 ·exact tf92
 ·exact tf93
 ·exact tf99
 ·exact tf108
 ·exact tf110
 ·exact tf112
 ·exact tf129
 ·exact tf137
 ·exact tf141
 ·exact tf146
 ·exact tf150
 ·exact tf152
 ·exact tf153
 ·exact tf155
 ·exact tf157
 ·exact tf159
 ·exact tf167
 ·exact tf170
 ·exact tf172
 ·exact tf175
 ·exact tf182
 ·exact tf185
 ·exact tf188
 ·exact tf190
 ·exact tf191
 ·exact tf196
 ·exact tf206
 ·exact tf207
 ·exact tf217
 ·exact tf224
 ·exact tf226
 ·exact tf231
 ·exact tf233
 ·exact tf234
 ·exact tf235
 ·exact tf242
 ·exact tf259
 ·exact tf267
 ·exact tf280
 ·exact tf293
 ·exact tf302
 ·exact tf305
 ·exact tf308
 ·exact tf309
 ·exact tf312
 ·exact tf313
 ·exact tf319
 ·exact tf323
 ·exact tf325
end Go.Sym.B
namespace Go.Sym.C
def Sm (q:Rat):Prop:=q.num<=1099511627776/\-1099511627776<=q.num/\q.den<=1048576
def Bd (B:Nat) (q:Rat):Prop:=q.den ∣ 27720/\q.num<=B * q.den/\-(B * q.den:Int)<=q.num
def Bd.sm {B:Nat} {q:Rat} (h:Bd B q) (hB:B<=10000000):Sm q:=by
 obtain ⟨h1,h2,h3⟩:=h;have hd:q.den<=27720:=dk (by decide) h1
 have h4:B * q.den<=10000000 * 27720:=cT hB hd;generalize hx:B * q.den=x at h4
 have hx':(B:Int) * q.den=x:=by rw [<- hx];simp
 rw [hx'] at h2 h3;refine ⟨?_, ?_,by omega⟩ <;> omega
def Bd.mono {B C:Nat} {q:Rat} (h:Bd B q) (hB:B<=C):Bd C q:=by
 obtain ⟨h1,h2,h3⟩:=h;have h4:(B:Int) * q.den<=C * q.den:=by exact_mod_cast aG _ hB
 exact ⟨h1,by omega,by omega⟩
def jP (q:Rat):0 < (q.den:Int):=by have:=q.den_nz;omega
def Xn (q:Rat):(q.den:Int) ≠ 0:=by have:=q.den_nz;omega
def XU {a b:Int} (hb:0 < b):(mkRat a b.toNat).num=a.tdiv (Nat.gcd a.natAbs b.toNat):=by
 have h0:b.toNat ≠ 0:=by omega
 rw [Rat.num_mkRat,if_neg h0,bI];have hd:((Nat.gcd a.natAbs b.toNat:Nat):Int) ∣ a:=by
  have:=dm a.natAbs b.toNat;exact Int.ofNat_dvd_left.2 this
 exact (Int.tdiv_eq_ediv_of_dvd hd).symm
def Ud {a b:Int} (hb:0 < b):((mkRat a b.toNat).den:Int)=b.tdiv (Nat.gcd a.natAbs b.toNat):=by
 have h0:b.toNat ≠ 0:=by omega
 rw [Rat.den_mkRat,if_neg h0,bI,Int.natCast_ediv];rw [show ((b.toNat:Nat):Int)=b by omega]
 exact (dC (by omega)).symm
def ic (n:Nat):(((n:Nat):Int):Rat)=(n:Rat):=Rat.intCast_natCast n
def Qgl {a b c:Rat} (h:0 < c):a * c<=b * c ↔ a<=b:=by rw [<- Rat.not_lt,<- Rat.not_lt,Rat.mul_lt_mul_right h]
def Qfw {a b:Int} (hb:0 < b):mkRat a b.toNat=(a:Rat) / (b:Rat):=by
 rw [Rat.mkRat_eq_div,<- ic,show ((b.toNat:Nat):Int)=b by omega]
def XG (q:Rat):q * ((q.den:Int):Rat)=(q.num:Rat):=by
 have g:((q.den:Nat):Rat) ≠ 0:=by exact_mod_cast q.den_nz
 have:q=(q.num:Rat) / ((q.den:Nat):Rat):=by rw [<- Rat.mkRat_eq_div,Rat.mkRat_self]
 rw [ic];generalize ((q.den:Nat):Rat)=d at *
 generalize (q.num:Rat)=n at *
 grind
def JB {b:Int} (h:b ≠ 0):(b:Rat) ≠ 0:=by exact_mod_cast h
def Ql6 (q r:Rat):mkRat (q.num * r.den+r.num * q.den) ((q.den:Int) * r.den).toNat=q+r:=by
 have h1:=jP q;have h2:=jP r
 rw [Qfw (cG h1 h2)];have g1:=JB (Xn q)
 have g2:=JB (Xn r);have e1:=XG q
 have e2:=XG r;simp only [Rat.intCast_add,Rat.intCast_mul]
 generalize ((q.den:Int):Rat)=d at *;generalize ((r.den:Int):Rat)=c at *
 generalize (q.num:Rat)=n at *;generalize (r.num:Rat)=m at *
 grind
def QfG (q:Rat) (n:Int):mkRat (q.num * n) ((q.den:Int)).toNat=q * n:=by
 rw [Qfw (jP q)];have g1:=JB (Xn q)
 have e1:=XG q;simp only [Rat.intCast_mul]
 generalize ((q.den:Int):Rat)=d at *;generalize (q.num:Rat)=n at *
 grind
def QjK {r:Rat} (h:0 < r.num):r ≠ 0:=fun e=>by rw [e] at h;exact absurd h (by decide)
def Qgr (q r:Rat) (h:0 < r.num):mkRat (q.num * r.den) ((q.den:Int) * r.num).toNat=q / r:=by
 rw [Qfw (cG (jP q) h)];have g1:=JB (Xn q)
 have g2:=JB (Xn r);have g3:=JB (show r.num ≠ 0 by omega)
 have e1:=XG q;have e2:=XG r
 have g4:=QjK h;simp only [Rat.intCast_mul]
 generalize ((q.den:Int):Rat)=d at *;generalize ((r.den:Int):Rat)=c at *
 generalize (q.num:Rat)=n at *;generalize (r.num:Rat)=m at *
 grind
def Qh1 {q:Rat} {n:Int} {d:Nat} (hd:d ≠ 0) (h:q * (d:Rat)=n):q.den ∣ d:=by
 have:q=mkRat n d:=by
  rw [Rat.mkRat_eq_div];have g:((d:Nat):Rat) ≠ 0:=by exact_mod_cast hd
  generalize ((d:Nat):Rat)=c at *
  grind
 rw [this,Rat.den_mkRat,if_neg hd];exact d6 (dm _ _)
def Xd {q:Rat} (h:q.den ∣ 27720):∃ n:Int,q * ((27720:Nat):Rat)=n:=by
 obtain ⟨k,hk⟩:=h;refine ⟨q.num * k, ?_⟩
 have e1:=XG q;rw [hk,ic] at *
 simp only [Rat.natCast_mul,Rat.intCast_mul,ic]
 grind
def Qc5 {q r:Rat} (h:q.den ∣ 27720) (h':r.den ∣ 27720):(q+r).den ∣ 27720:=by
 obtain ⟨n,hn⟩:=Xd h;obtain ⟨m,hm⟩:=Xd h'
 refine Qh1 (n:=n+m) (by decide) ?_
 simp only [Rat.intCast_add];rw [<- hn,<- hm]
 generalize ((27720:Nat):Rat)=d
 grind
def Qjx {q:Rat} (h:q.den ∣ 27720):(-q).den ∣ 27720:=by simpa using h
def QjG {q r:Rat} (h:q.den ∣ 27720) (h':r.den ∣ 27720):(q - r).den ∣ 27720:=by
 rw [Rat.sub_eq_add_neg];exact Qc5 h (Qjx h')
def Qgs {q:Rat} (n:Int) (h:q.den ∣ 27720):(q * n).den ∣ 27720:=by
 obtain ⟨m,hm⟩:=Xd h;refine Qh1 (n:=m * n) (by decide) ?_
 simp only [Rat.intCast_mul];rw [<- hm]
 generalize ((27720:Nat):Rat)=d
 grind
def QcG {B:Nat} {q:Rat}:Bd B q ↔ q.den ∣ 27720/\q<=(B:Rat)/\-(B:Rat)<=q:=by
 have hp:(0:Rat) < ((q.den:Int):Rat):=by exact_mod_cast jP q
 have e:=XG q;have k1:q<=(B:Rat) ↔ q.num<=B * q.den:=by
  rw [<- Qgl hp,e];rw [show (B:Rat) * ((q.den:Int):Rat)=(((B:Int) * (q.den:Int):Int):Rat) by rw [Rat.intCast_mul,ic B]]
  exact Rat.intCast_le_intCast
 have k2:-(B:Rat)<=q ↔ -(B * q.den:Int)<=q.num:=by
  rw [<- Qgl hp,e];rw [show -(B:Rat) * ((q.den:Int):Rat)=((-((B:Int) * (q.den:Int)):Int):Rat) by rw [Rat.intCast_neg,Rat.intCast_mul,ic B,Rat.neg_mul]]
  exact Rat.intCast_le_intCast
 unfold Bd;rw [k1,k2]
def Bd.add {B C:Nat} {q r:Rat} (h:Bd B q) (h':Bd C r):Bd (B+C) (q+r):=by
 rw [QcG] at *;refine ⟨Qc5 h.1 h'.1, ?_, ?_⟩ <;> simp only [Rat.natCast_add] <;> grind
def Bd.sub {B C:Nat} {q r:Rat} (h:Bd B q) (h':Bd C r):Bd (B+C) (q - r):=by
 rw [QcG] at *;refine ⟨QjG h.1 h'.1, ?_, ?_⟩ <;> simp only [Rat.natCast_add] <;> grind
def Bd.muli {B C:Nat} {q:Rat} {n:Int} (h:Bd B q) (h1:n<=C) (h2:-(C:Int)<=n):Bd (B * C) (q * n):=by
 rw [QcG] at *;have g1:(n:Rat)<=(C:Rat):=by have:((n:Int):Rat)<=((C:Int):Rat):=Rat.intCast_le_intCast.2 h1;rwa [ic] at this
 have g2:-(C:Rat)<=(n:Rat):=by have:((-(C:Int):Int):Rat)<=((n:Int):Rat):=Rat.intCast_le_intCast.2 h2;rwa [Rat.intCast_neg,ic] at this
 have g3:(0:Rat)<=(B:Rat):=by exact_mod_cast af B
 have g4:(0:Rat)<=(C:Rat):=by exact_mod_cast af C
 refine ⟨Qgs n h.1, ?_, ?_⟩ <;> simp only [Rat.natCast_mul]
 ·have a1:(0:Rat)<=(B - q) * (C+n):=Rat.mul_nonneg (by grind) (by grind)
  have a2:(0:Rat)<=(B+q) * (C - n):=Rat.mul_nonneg (by grind) (by grind)
  grind
 ·have a1:(0:Rat)<=(B - q) * (C - n):=Rat.mul_nonneg (by grind) (by grind)
  have a2:(0:Rat)<=(B+q) * (C+n):=Rat.mul_nonneg (by grind) (by grind)
  grind
def RS {a b:Int} (hb:0 < b):(mkRat a b.toNat).num.natAbs<=a.natAbs:=by
 rw [XU hb];exact dD _ _
def RA {a b:Int} (hb:0 < b):((mkRat a b.toNat).den:Int)<=b:=by
 rw [Ud hb,dC (by omega)]
 exact dF _ (by omega)
def QfA {q r:Rat} {B:Nat} (hq:Bd B q) (hB:B<=1000000) (h0:0 < r.num) (h1:r.num<=20) (h2:r.den<=12):Sm (q / r):=by
 rw [<- Qgr q r h0];have hd:=jP q
 have hp:0 < (q.den:Int) * r.num:=cG hd h0;have g1:=RS (a:=q.num * r.den) hp
 have g2:=RA (a:=q.num * r.den) hp;obtain ⟨k1,k2,k3⟩:=hq
 have k4:q.den<=27720:=dk (by decide) k1
 have k5:B * q.den<=1000000 * 27720:=cT hB k4;have k6:q.num.natAbs<=1000000 * 27720:=by
  have:((B * q.den:Nat):Int)<=((1000000 * 27720:Nat):Int):=cU.2 k5;rw [dG] at this
  omega
 have k7:(q.num * r.den).natAbs<=1000000 * 27720 * 12:=by
  rw [Int.natAbs_mul];exact cT k6 (by simpa using h2)
 have k8:(q.den:Int) * r.num<=27720 * 20:=cH (by omega) h1 (by omega) (by omega)
 refine ⟨?_, ?_, ?_⟩ <;> omega
def QgZ {q:Rat} (h:Sm q):Sm (q.floor:Rat):=by
 obtain ⟨h1,h2,h3⟩:=h;have hd:=jP q
 have e:q.floor=q.num / q.den:=Rat.floor_def q;have g1:q.num / (q.den:Int)<=1099511627776:=by
  have:=Int.ediv_le_ediv hd h1;have:=dF (q.den:Int) (show (0:Int)<=1099511627776 by decide)
  omega
 have g2:-1099511627776<=q.num / (q.den:Int):=by
  rw [Int.le_ediv_iff_mul_le hd];have:(1099511627776:Int) * 1<=1099511627776 * q.den:=Int.mul_le_mul_of_nonneg_left (by omega) (by decide)
  omega
 refine ⟨by rw [Rat.num_intCast,e];exact g1,by rw [Rat.num_intCast,e];exact g2,by rw [Rat.den_intCast];decide⟩
def QiQ (B:Nat):Bd B 0:=by
 refine ⟨?_, ?_, ?_⟩
 ·exact ⟨27720,rfl⟩
 ·show (0:Int)<=B * 1;omega
 ·show -((B:Int) * 1)<=0;omega
def kK (l:List Rat):Rat:=l.foldl (·+·) 0
def Vm (l:List Rat) (x:Rat):kK (l++[x])=kK l+x:=by simp [kK]
def LC {B:Nat}:∀ (l:List Rat) (C:Nat) (a:Rat),Bd C a->(∀ q ∈ l,Bd B q)->Bd (C+l.length * B) (l.foldl (·+·) a)
 |[],C,a,ha,_=>by simpa using ha
 |x :: l,C,a,ha,h=>by
  have:=LC l (C+B) (a+x) (ha.add (h x (by simp))) fun q hq=>h q (by simp [hq])
  rwa [show C+(x :: l).length * B=C+B+l.length * B by rw [bj,aF];omega]
def UT {B:Nat} (l:List Rat) (h:∀ q ∈ l,Bd B q):Bd (l.length * B) (kK l):=by
 have:=LC l 0 0 (QiQ 0) h
 rwa [bD] at this
end Go.Sym.C
namespace Go.Sym.B
open Go Go.Sym Go.Proofs Go.Proofs.Tryz Go.Sym.C
structure Sh where
 num:Int
 den:Int
deriving DecidableEq,Inhabited
structure Ent where
 day:Int
 kind:Int
 coin:Int
 to:Int
 amount:Int
 got:Int
deriving DecidableEq,Inhabited
structure Led where
 coins:List (List Int)
 rates:List (List Sh)
 start:List Int
 entries:List Ent
deriving DecidableEq,Inhabited
def qj (n:Int):List DV:=[.v (.int .i64 n)]
def eSh (b:Sh):List DV:=[.v (.int .i64 b.num),.v (.int .i64 b.den)]
def zC (x:Ent):List DV:=[.v (.int .i64 x.day),.v (.int .i64 x.kind),.v (.int .i64 x.coin),.v (.int .i64 x.to),.v (.int .i64 x.amount),.v (.int .i64 x.got)]
def qC (l:List Int):List DV:=[.sl (l.map qj)]
def zM (l:List Sh):List DV:=[.sl (l.map eSh)]
def dI:DV->Int
 |.v (.int _ n)=>n
 |_=>0
def dL:DV->List (List DV)
 |.sl xs=>xs
 |_=>[]
def qL (r:List DV):Int:=dI (r.headD (.sl []))
def dSh:List DV->Sh
 |[a,b]=>⟨dI a,dI b⟩
 |_=>default
def kW:List DV->Ent
 |[a,b,c,d,e,f]=>⟨dI a,dI b,dI c,dI d,dI e,dI f⟩
 |_=>default
def q8:List DV->List Int
 |[a]=>(dL a).map qL
 |_=>[]
def kE:List DV->List Sh
 |[a]=>(dL a).map dSh
 |_=>[]
def QlY (n:Int):qL (qj n)=n:=rfl
def dSh_e (b:Sh):dSh (eSh b)=b:=rfl
def QlC (b:Ent):kW (zC b)=b:=rfl
def Qo (l:List Int):(l.map qj).map qL=l:=by simp [Function.comp_def,QlY]
def mSh (l:List Sh):(l.map eSh).map dSh=l:=by simp [Function.comp_def,dSh_e]
def Jj (l:List Ent):(l.map zC).map kW=l:=by simp [Function.comp_def,QlC]
def QiP (l:List Int):q8 (qC l)=l:=Qo l
def QkV (l:List Sh):kE (zM l)=l:=mSh l
def kg (l:List (List Int)):(l.map qC).map q8=l:=by simp [Function.comp_def,QiP]
def XI (l:List (List Sh)):(l.map zM).map kE=l:=by simp [Function.comp_def,QkV]
def Q5 (l:List Int) (n:Nat):(l.map qj).getD n [.v (.int .i64 0)]=qj (l.getD n 0):=ZU qj l n 0
def gSh (l:List Sh) (n:Nat):(l.map eSh).getD n [.v (.int .i64 0),.v (.int .i64 0)]=eSh (l.getD n default):=ZU eSh l n default
def R8 (l:List Ent) (n:Nat):(l.map zC).getD n [.v (.int .i64 0),.v (.int .i64 0),.v (.int .i64 0),.v (.int .i64 0),.v (.int .i64 0),.v (.int .i64 0)]=zC (l.getD n default):=ZU zC l n default
def J7 (l:List (List Int)) (n:Nat):(l.map qC).getD n [.sl []]=qC (l.getD n []):=ZU qC l n []
def QcA (l:List (List Sh)) (n:Nat):(l.map zM).getD n [.sl []]=zM (l.getD n []):=ZU zM l n []
def ZJ (l:List Int):zK 1 (l.map qj)=True:=xu (f:=qj) (k:=1) (fun _=>rfl) l
def rSh (l:List Sh):zK 2 (l.map eSh)=True:=xu (f:=eSh) (k:=2) (fun _=>rfl) l
def QL (l:List Ent):zK 6 (l.map zC)=True:=xu (f:=zC) (k:=6) (fun _=>rfl) l
def yI (l:List (List Int)):zK 1 (l.map qC)=True:=xu (f:=qC) (k:=1) (fun _=>rfl) l
def QK (l:List (List Sh)):zK 1 (l.map zM)=True:=xu (f:=zM) (k:=1) (fun _=>rfl) l
def aI (n:Int):AV:=.v (.int .i64 n)
def aB (b:Bool):AV:=.v (.bool b)
def aSh (s:Sh):AV:=.agg [.v (.int .i64 s.num),.v (.int .i64 s.den)]
def yE (x:Ent):AV:=.agg [.v (.int .i64 x.day),.v (.int .i64 x.kind),.v (.int .i64 x.coin),.v (.int .i64 x.to),.v (.int .i64 x.amount),.v (.int .i64 x.got)]
def qi (l:List Int):AV:=.sl (l.map qj)
def yx (l:List Sh):AV:=.sl (l.map eSh)
def zm (l:List (List Int)):AV:=.sl (l.map qC)
def qU (l:Led):List AV:=[.sl (l.coins.map qC),.sl (l.rates.map zM),.sl (l.start.map qj),.sl (l.entries.map zC)]
def q9 (l:Led):AV:=.agg (qU l)
def shQ (q:Rat):Sh:=⟨q.num,q.den⟩
def Fn0 {fn:Func} {c:Code} {f:FuncId} (hf:prog.funcs[f]?=some fn) (hb:fn.body=some c) (he:∀ vs w,(callFunc f vs).run prog w=.ok (.enter f vs) w) (hd:QX fn.ntmps c=true):FnData prog tyB f fn c:=⟨QhQ,hf,hb,he,hd⟩
def qx {L:List (FuncId × Entry)} {A:Frm->Prop} (h:K6 A prog L):Env A prog tyB (tab L):=⟨QhQ,Qk5 h,by kernel_rfl⟩
def z0 {a b:Int} (h:-9223372036854775808<=a+b/\a+b < 9223372036854775808):IntKind.wrap .i64 (a+b)=a+b:=wrap64 h.1 h.2
def inB (n a b:Int):Bool:=decide (a<=n) && decide (n<=b)
def s79:List AV->Prop × AV
 |[.v (.int .i64 n),.v (.int .i64 a),.v (.int .i64 b)]=>(True,aB (inB n a b))
 |_=>(False,.junk)
def KJ:=jw @ty3 @ti3.eq_1
def JG:=jw @aI.eq_1 (jw @aB.eq_1 (jw @aSh.eq_1 (@shQ.eq_1)))
def in_fn (n a b:Int):FnV prog 122 [aI n,aI a,aI b] (aB (inB n a b)):=by
 have env:Env (fun _=>True) prog tyB (tab []):=qx trivial
 refine Fn.of (A:=fun _=>True) (n0:=0) (D:=noD) (Fn0 func122 rfl (fun vs w=>by kernel_rfl) (by kernel_rfl)) (by simp) (by simp [AV.ids,aI]) (fun i o h=>by cases h) (fun _ _ _ _=>trivial) zb ?_
 repeat' first|(apply nx;with_reducible constructor)|refine jq (by decide) ?_|((first|refine jz env fun Q hQ=>?_|refine jj fun Q hQ=>?_);simp only [vkt,seval,KJ,JG];(try simp only [ite_and]);(repeat' (first|with_reducible assumption|refine eg ?_ ?_|intro hp));all_goals (first|(refine hQ _ ?_;clear hQ Q)|(refine hQ _ (fun h=>?_) (fun h=>?_) <;> clear hQ Q <;> (try simp only [vki,reduceCtorEq] at h))|omega|assumption|rfl|(refine jx ?_;kernel_rfl)|skip))
 all_goals (simp only [vrt,results122,vkt,seval,JG];refine Fin.val rfl ?_;(try simp only [AV.le]))
 all_goals simp [inB, *]
def e79 {A:Frm->Prop}:qf A prog 122 (zq true s79):=qD fun vs _ h=>by
 unfold s79 at h ⊢;split at h
 ·exact ⟨trivial,fun _=>trivial,in_fn _ _ _⟩
 ·exact h.elim
def YY:=jw @ty3 @ti3.eq_1
def QiB (n a b:Int):FnV prog 166 [aI n,aI a,aI b] (aB (inB n a b)):=by
 have env:Env (fun _=>True) prog tyB (tab []):=qx trivial
 refine Fn.of (A:=fun _=>True) (n0:=0) (D:=noD) (Fn0 func166 rfl (fun vs w=>by kernel_rfl) (by kernel_rfl)) (by simp) (by simp [AV.ids,aI]) (fun i o h=>by cases h) (fun _ _ _ _=>trivial) zb ?_
 repeat' first|(apply nx;with_reducible constructor)|refine jq (by decide) ?_|((first|refine jz env fun Q hQ=>?_|refine jj fun Q hQ=>?_);simp only [vkt,seval,YY,JG];(try simp only [ite_and]);(repeat' (first|with_reducible assumption|refine eg ?_ ?_|intro hp));all_goals (first|(refine hQ _ ?_;clear hQ Q)|(refine hQ _ (fun h=>?_) (fun h=>?_) <;> clear hQ Q <;> (try simp only [vki,reduceCtorEq] at h))|omega|assumption|rfl|(refine jx ?_;kernel_rfl)|skip))
 all_goals (simp only [vrt,results166,vkt,seval,JG];refine Fin.val rfl ?_;(try simp only [AV.le]))
 all_goals simp [inB, *]
def e82 {A:Frm->Prop}:qf A prog 166 (zq true s79):=qD fun vs _ h=>by
 unfold s79 at h ⊢;split at h
 ·exact ⟨trivial,fun _=>trivial,QiB _ _ _⟩
 ·exact h.elim
def qy (n a b:Int):Int:=if n < a then 7 else if b < n then 6 else 0
def s78:List AV->Prop × AV
 |[.v (.int .i64 n),.v (.int .i64 a),.v (.int .i64 b)]=>(True,aI (qy n a b))
 |_=>(False,.junk)
def Yr:=jw @ty3 @ti3.eq_1
def QcH (n a b:Int):FnV prog 121 [aI n,aI a,aI b] (aI (qy n a b)):=by
 have env:Env (fun _=>True) prog tyB (tab []):=qx trivial
 refine Fn.of (A:=fun _=>True) (n0:=0) (D:=noD) (Fn0 func121 rfl (fun vs w=>by kernel_rfl) (by kernel_rfl)) (by simp) (by simp [AV.ids,aI]) (fun i o h=>by cases h) (fun _ _ _ _=>trivial) zb ?_
 repeat' first|(apply nx;with_reducible constructor)|refine jq (by decide) ?_|((first|refine jz env fun Q hQ=>?_|refine jj fun Q hQ=>?_);simp only [vkt,seval,Yr,JG];(try simp only [ite_and]);(repeat' (first|with_reducible assumption|refine eg ?_ ?_|intro hp));all_goals (first|(refine hQ _ ?_;clear hQ Q)|(refine hQ _ (fun h=>?_) (fun h=>?_) <;> clear hQ Q <;> (try simp only [vki] at h))|omega|assumption|rfl|(refine jx ?_;kernel_rfl)|skip))
 all_goals (simp only [vrt,results121,vkt,seval,JG];refine Fin.val rfl ?_;(try simp only [AV.le]))
 all_goals (unfold qy;simp [*])
 all_goals omega
def e78 {A:Frm->Prop}:qf A prog 121 (zq true s78):=qD fun vs _ h=>by
 unfold s78 at h ⊢;split at h
 ·exact ⟨trivial,fun _=>trivial,QcH _ _ _⟩
 ·exact h.elim
def Qif {a x:Int} (h:-9223372036854775807<=a) (h':a < 9223372036854775808):-9223372036854775807<=a.tdiv x:=by
 have h1:=dD a x;omega
def QjC {a x:Int} (h:-9223372036854775808 < a) (h':a < 9223372036854775808):a.tdiv x < 9223372036854775808:=by
 have h1:=dD a x;omega
def XW {a x:Int} (h:-9223372036854775808 < a) (h':a < 9223372036854775808):IntKind.wrap .i64 (a.tdiv x)=a.tdiv x:=by
 have h1:=dD a x;exact wrap64 (by omega) (by omega)
def Qfr {a x:Int} (hx:0 < x) (h:a.tmod x < 0):a.tdiv x - 1=a / x:=by
 have h1:=Int.mul_tdiv_add_tmod a x;have h2:=d7 a x
 have h3:=bZ a (show x ≠ 0 by omega)
 have h4:=ca a hx;have h5:-x < a.tmod x:=d8 a hx
 generalize a.tdiv x=p at *;generalize a / x=q at *
 have k1:x * (p - q) < x * 2:=by rw [cV];omega
 have k2:x * 0 < x * (p - q):=by rw [cV];omega
 have:=dH k1 (by omega)
 have:=dH k2 (by omega)
 omega
def QhW {a x:Int} (hx:0 < x) (h:¬ a.tmod x < 0):a.tdiv x=a / x:=by
 have h1:=Int.mul_tdiv_add_tmod a x;have h2:=d7 a x
 have h3:=bZ a (show x ≠ 0 by omega)
 have h4:=ca a hx;have h5:a.tmod x < x:=dn a hx
 generalize a.tdiv x=p at *;generalize a / x=q at *
 have k1:x * (p - q) < x * 1:=by rw [cV];omega
 have k2:x * (-1) < x * (p - q):=by rw [cV];omega
 have:=dH k1 (by omega)
 have:=dH k2 (by omega)
 omega
def QdA {a d:Int} (h1:a<=1099511627776) (h2:-1099511627776<=a) (h3:d<=1048576) (h4:-1048576<=d):-1152921504606846976<=a * d/\a * d<=1152921504606846976:=by
 have h5:(a * d).natAbs<=1099511627776 * 1048576:=by rw [Int.natAbs_mul];exact cT (by omega) (by omega)
 omega
def Xx {a d:Int} (h1:a<=1099511627776) (h2:-1099511627776<=a) (h3:0 < d) (h4:d<=1048576):-1152921504606846976<=a * d/\a * d<=1152921504606846976:=QdA h1 h2 h4 (by omega)
def U6 (a b:Int):Prop:=-9223372036854775808 < a/\a < 9223372036854775808/\0 < b/\b < 9223372036854775808
def FlOk (q:Rat):Prop:=-9223372036854775807 < q.num/\q.num < 9223372036854775808/\(q.den:Int) < 9223372036854775808
def ofI (a b:Int):Type:={ p:Int × Int // 0<=p.1/\0<=p.2/\Nat.gcd p.1.toNat p.2.toNat=Nat.gcd a.natAbs b.toNat/\(0 < p.1\/0 < p.2) }
def ofS (a b x y:Int):St:={ t:=asg [(0,aI a),(1,aI b),(4,.ptr 0 0),(5,aI x),(6,aI y)],h:=qg [(0,.cells [.v (.int .i64 0),.v (.int .i64 0)])],n:=1 }
def Zq:=jw @ty3 (jw @Qy (jw @ti3.eq_1 @xU.eq_1))
def Z7:=jw @aI.eq_1 (jw @aB.eq_1 (jw @aSh.eq_1 (jw @shQ.eq_1 (@ofS.eq_1))))
def of_fn (a b:Int) (hab:U6 a b):FnV prog 157 [aI a,aI b] (aSh (shQ (mkRat a b.toNat))):=by
 have env:Env (fun _=>True) prog tyB (tab []):=qx trivial
 refine Fn.of (A:=fun _=>True) (n0:=0) (D:=noD) (Fn0 func157 rfl (fun vs w=>by kernel_rfl) (by kernel_rfl)) (by simp) (by simp [AV.ids,aI]) (fun i o h=>by cases h) (fun _ _ _ _=>trivial) zb ?_
 obtain ⟨ha,ha',hb,hb'⟩:=hab;have hw:IntKind.wrap .i64 (0 - a)=-a:=by rw [wrap64 (by omega) (by omega)];omega
 repeat' first|(apply nx;with_reducible constructor)|refine jq (by decide) ?_|((first|refine jz env fun Q hQ=>?_|refine jj fun Q hQ=>?_);simp only [vkt,seval,Zq,Z7,hw];(try simp only [ite_and]);(repeat' (first|with_reducible assumption|refine eg ?_ ?_|intro hp));all_goals (first|(refine hQ _ ?_;clear hQ Q)|(refine hQ _ (fun h=>?_) (fun h=>?_) <;> clear hQ Q <;> (try simp only [vki,reduceCtorEq] at h))|omega|assumption|rfl|(refine jx ?_;kernel_rfl)|skip))
 refine qh (ι:=ofI a b) (fun p=>ofS a b p.1.1 p.1.2) (fun p=>p.1.2.toNat) ⟨(max a (-a),b),by omega,by omega,by congr 1;omega,.inr hb⟩ ?_ fun ⟨(x,y),h1,h2,h3,h4⟩=>?_
 ·(refine Le.ok some [] ?_;constructor;all_goals (try simp only [vle,vkt,seval,Z7]))
  all_goals simp
 ·dsimp only at h1 h2 h3 h4
  repeat' first|(apply nx;with_reducible constructor)|refine jq (by decide) ?_|((first|refine jz env fun Q hQ=>?_|refine jj fun Q hQ=>?_);simp only [vkt,seval,Zq,Z7];(try simp only [ite_and]);(repeat' (first|with_reducible assumption|refine eg ?_ ?_|intro hp));all_goals (first|(refine hQ _ ?_;clear hQ Q)|(refine hQ _ (fun h=>?_) (fun h=>?_) <;> clear hQ Q <;> (try simp only [vki] at h))|omega|assumption|rfl|(refine jx ?_;kernel_rfl)|skip))
  ·have hy:0 < y:=by simpa using h
   refine ⟨⟨(y,x.tmod y),by omega, ?_, ?_,.inl hy⟩, ?_, ?_⟩
   ·show 0<=x.tmod y
    rw [bR h1];exact bZ _ (by omega)
   ·show Nat.gcd y.toNat (x.tmod y).toNat=_
    rw [<- h3,bR h1,Int.toNat_emod h1 h2,bI y.toNat,<- Nat.gcd_rec,bI]
   ·show (x.tmod y).toNat < y.toNat
    rw [bR h1];have:=ca x hy
    omega
   ·(refine Le.ok some [] ?_;constructor;all_goals (try simp only [vle,vkt,seval,Z7]))
    all_goals simp
  ·have hy:y=0:=by omega
   subst hy;have hg:x=((Nat.gcd a.natAbs b.toNat:Nat):Int):=by rw [<- h3];simp;omega
   have w1:=XW (x:=x) ha ha';have w2:=XW (x:=x) (show -9223372036854775808 < b by omega) hb'
   (simp only [vrt,results157,w1,w2,vkt,seval,Zq,Z7];refine Fin.val rfl ?_;(try simp only [AV.le,AV.leL]))
   rw [XU hb,Ud hb,<- hg]
   simp
def Qby:List AV->Prop × AV
 |[.v (.int .i64 a),.v (.int .i64 b)]=>(U6 a b,aSh (shQ (mkRat a b.toNat)))
 |_=>(False,.junk)
def e139 {A:Frm->Prop}:qf A prog 157 (zq true Qby):=qD fun vs _ h=>by
 unfold Qby at h ⊢;split at h
 ·exact ⟨by simp [AV.plain,AV.plainL,aSh],fun _=>by simp [AV.flat,AV.flatL,aSh],of_fn _ _ h⟩
 ·exact h.elim
def Zz:=jw @Qy @xU.eq_1
def Qg2 (n:Int):FnV prog 111 [aI n] (aSh (shQ (n:Rat))):=by
 have env:=qx (A:=fun _=>True) kN
 refine kV (Fn0 func111 rfl (fun vs w=>by kernel_rfl) (by kernel_rfl)) (by simp) (by simp [AV.ids,aI]) ?_
 repeat' first|(apply nx;with_reducible constructor)|apply jq (by decide)|((first|apply jz env|apply jk);intro Q hQ;simp only [vkt,seval,Zz,Z7,ite_and];(repeat' first|with_reducible assumption|apply jw|intro hp);all_goals first|(apply hQ;clear hQ Q)|omega|assumption|rfl|(apply jx;kernel_rfl)|skip)
 (simp only [vrt,results111,Rat.num_intCast,Rat.den_intCast,vkt,seval,Zz,Z7];refine Fin.val rfl ?_;(try simp only [AV.le,AV.leL]))
 simp
def Vt:List AV->Prop × AV
 |[.v (.int .i64 a)]=>(True,aSh (shQ (a:Rat)))
 |_=>(False,.junk)
def Qf1 {A:Frm->Prop}:qf A prog 111 (zq true Vt):=qD fun vs _ h=>by
 unfold Vt at h ⊢;split at h
 ·exact ⟨by simp [AV.plain,AV.plainL,aSh],fun _=>by simp [AV.flat,AV.flatL,aSh],Qg2 _⟩
 ·exact h.elim
def isQ (a b:Int):Prop:=a=(mkRat a b.toNat).num/\b=((mkRat a b.toNat).den:Int)
def YD (q:Rat):isQ q.num (q.den:Int)=True:=by simp [isQ,Rat.mkRat_self]
def Jb {a b:Int} (h:isQ a b):aSh (shQ (mkRat a b.toNat))=.agg [.v (.int .i64 a),.v (.int .i64 b)]:=by
 simp only [aSh,shQ];rw [<- h.1,<- h.2]
def qI (a b:Int):Rat:=mkRat a b.toNat
def KN (q:Rat):qI q.num (q.den:Int)=q:=by simp [qI,Rat.mkRat_self]
def Kw:List AV->Prop × AV
 |[.agg [.v (.int .i64 a),.v (.int .i64 b)],.agg [.v (.int .i64 c),.v (.int .i64 d)]]=>(isQ a b/\isQ c d/\Sm (qI a b)/\Sm (qI c d),aSh (shQ (qI a b+qI c d)))
 |_=>(False,.junk)
def KE:List AV->Prop × AV
 |[.agg [.v (.int .i64 a),.v (.int .i64 b)],.agg [.v (.int .i64 c),.v (.int .i64 d)]]=>(isQ a b/\isQ c d/\Sm (qI a b)/\Sm (qI c d),aSh (shQ (qI a b - qI c d)))
 |_=>(False,.junk)
def Tm (q:Rat) (n:Int):Prop:=Sm q/\n<=1048576/\-1048576<=n
def s99:List AV->Prop × AV
 |[.agg [.v (.int .i64 a),.v (.int .i64 b)],.v (.int .i64 n)]=>(isQ a b/\Tm (qI a b) n,aSh (shQ (qI a b * (n:Rat))))
 |_=>(False,.junk)
def Qec:List AV->Prop × AV
 |[.agg [.v (.int .i64 a),.v (.int .i64 b)],.agg [.v (.int .i64 c),.v (.int .i64 d)]]=>(isQ a b/\isQ c d/\Sm (qI a b)/\Sm (qI c d)/\0 < (qI c d).num/\(qI c d).num<=1048576,aSh (shQ (qI a b / qI c d)))
 |_=>(False,.junk)
def s90:List AV->Prop × AV
 |[.agg [.v (.int .i64 a),.v (.int .i64 b)]]=>(isQ a b/\FlOk (qI a b),aI (qI a b).floor)
 |_=>(False,.junk)
def ko:=jw @ty3 (jw @Qy (jw @ti3.eq_1 @xU.eq_1))
def xO:=jw @aI.eq_1 (jw @aB.eq_1 (jw @aSh.eq_1 (jw @shQ.eq_1 (jw @Qby.eq_1 (jw @Qby.eq_2 (jw @Kw.eq_1 (jw @Kw.eq_2 (jw @KE.eq_1 (jw @KE.eq_2 (jw @s99.eq_1 (jw @s99.eq_2 (jw @Qec.eq_1 (jw @Qec.eq_2 (jw @YD (@KN)))))))))))))))
def Qik (q r:Rat) (hq:Sm q) (hr:Sm r):FnV prog 158 [aSh (shQ q),aSh (shQ r)] (aSh (shQ (q+r))):=by
 have env:=qx (A:=fun _=>True) (kC e139 kN)
 refine kV (Fn0 func158 rfl (fun vs w=>by kernel_rfl) (by kernel_rfl)) (by simp) (by simp [AV.ids,AV.idsL,aSh]) ?_
 have b1:=Xx hq.1 hq.2.1 (jP r) (cU.2 hr.2.2);have b2:=Xx hr.1 hr.2.1 (jP q) (cU.2 hq.2.2)
 have b3:=Xx (a:=(q.den:Int)) (by have:=hq.2.2;omega) (by omega) (jP r) (cU.2 hr.2.2)
 have b4:=cG (jP q) (jP r);have w1:=wrap64 (n:=q.num * r.den) (by omega) (by omega)
 have w2:=wrap64 (n:=r.num * q.den) (by omega) (by omega)
 have w3:=wrap64 (n:=(q.den:Int) * r.den) (by omega) (by omega)
 have w4:=wrap64 (n:=q.num * r.den+r.num * q.den) (by omega) (by omega)
 have w5:U6 (q.num * r.den+r.num * q.den) ((q.den:Int) * r.den):=⟨by omega,by omega,by omega,by omega⟩
 repeat' first|(apply nx;with_reducible constructor)|apply jq (by decide)|((first|apply jz env|apply jk);intro Q hQ;simp only [vkt,seval,ko,xO,w1,w2,w3,w4,Ql6,ite_and];(repeat' first|with_reducible assumption|apply jw|intro hp);all_goals first|(apply hQ;clear hQ Q)|omega|assumption|rfl|(apply jx;kernel_rfl)|skip)
 (simp only [vrt,results158,vkt,seval,ko,xO];refine Fin.val rfl ?_;(try simp only [AV.le,AV.leL]))
 simp
def e138 {A:Frm->Prop}:qf A prog 158 (zq true Kw):=qD fun vs _ h=>by
 unfold Kw at h ⊢;split at h
 ·refine ⟨by simp [AV.plain,AV.plainL,aSh],fun _=>by simp [AV.flat,AV.flatL,aSh], ?_⟩
  rw [<- Jb h.1,<- Jb h.2.1];exact Qik _ _ h.2.2.1 h.2.2.2
 ·exact h.elim
def QlM {q:Rat} (h:Sm q):Sm (-q):=by
 refine ⟨?_, ?_, ?_⟩
 ·rw [Rat.neg_num];have:=h.2.1;omega
 ·rw [Rat.neg_num];have:=h.1;omega
 ·rw [Rat.neg_den];exact h.2.2
def xX:=jw @ty3 (jw @Qy (jw @ti3.eq_1 @xU.eq_1))
def QhJ (q r:Rat) (hq:Sm q) (hr:Sm r):FnV prog 103 [aSh (shQ q),aSh (shQ r)] (aSh (shQ (q - r))):=by
 have env:=qx (A:=fun _=>True) (kC e138 kN)
 refine kV (Fn0 func103 rfl (fun vs w=>by kernel_rfl) (by kernel_rfl)) (by simp) (by simp [AV.ids,AV.idsL,aSh]) ?_
 have w1:IntKind.wrap .i64 (0 - r.num)=(-r).num:=by rw [wrap64 (by have:=hr.1;omega) (by have:=hr.2.1;omega),Rat.neg_num];omega
 have w2:(r.den:Int)=((-r).den:Int):=by rw [Rat.neg_den]
 have w3:=YD (-r);have w4:=KN (-r)
 rw [<- w2] at w3 w4;have w5:=QlM hr
 repeat' first|(apply nx;with_reducible constructor)|apply jq (by decide)|((first|apply jz env|apply jk);intro Q hQ;simp only [vkt,seval,xX,xO,w1,w3,w4,ite_and];(repeat' first|with_reducible assumption|apply jw|intro hp);all_goals first|(apply hQ;clear hQ Q)|omega|assumption|rfl|(apply jx;kernel_rfl)|skip)
 (simp only [vrt,results103,Rat.sub_eq_add_neg,vkt,seval,xX,xO];refine Fin.val rfl ?_;(try simp only [AV.le,AV.leL]))
 simp
def e100 {A:Frm->Prop}:qf A prog 103 (zq true KE):=qD fun vs _ h=>by
 unfold KE at h ⊢;split at h
 ·refine ⟨by simp [AV.plain,AV.plainL,aSh],fun _=>by simp [AV.flat,AV.flatL,aSh], ?_⟩
  rw [<- Jb h.1,<- Jb h.2.1];exact QhJ _ _ h.2.2.1 h.2.2.2
 ·exact h.elim
def xM:=jw @ty3 (jw @Qy (jw @ti3.eq_1 @xU.eq_1))
def QhH (q:Rat) (n:Int) (hq:Tm q n):FnV prog 102 [aSh (shQ q),aI n] (aSh (shQ (q * (n:Rat)))):=by
 have env:=qx (A:=fun _=>True) (kC e139 kN)
 refine kV (Fn0 func102 rfl (fun vs w=>by kernel_rfl) (by kernel_rfl)) (by simp) (by simp [AV.ids,AV.idsL,aSh,aI]) ?_
 obtain ⟨hq,hn,hn'⟩:=hq;have b1:-1152921504606846976<=q.num * n/\q.num * n<=1152921504606846976:=QdA hq.1 hq.2.1 hn hn'
 have b2:=jP q;have b3:(q.den:Int)<=1048576:=cU.2 hq.2.2
 have w1:=wrap64 (n:=q.num * n) (by omega) (by omega)
 have w2:=QfG q n;have w5:U6 (q.num * n) (q.den:Int):=⟨by omega,by omega,by omega,by omega⟩
 repeat' first|(apply nx;with_reducible constructor)|apply jq (by decide)|((first|apply jz env|apply jk);intro Q hQ;simp only [vkt,seval,xM,xO,w1,ite_and];(repeat' first|with_reducible assumption|apply jw|intro hp);all_goals first|(apply hQ;clear hQ Q)|omega|assumption|rfl|(apply jx;kernel_rfl)|skip)
 (simp only [vrt,results102,<- QfG,vkt,seval,xM,xO];refine Fin.val rfl ?_;(try simp only [AV.le,AV.leL]))
 simp
def e99 {A:Frm->Prop}:qf A prog 102 (zq true s99):=qD fun vs _ h=>by
 unfold s99 at h ⊢;split at h
 ·refine ⟨by simp [AV.plain,AV.plainL,aSh],fun _=>by simp [AV.flat,AV.flatL,aSh], ?_⟩
  rw [<- Jb h.1];exact QhH _ _ h.2
 ·exact h.elim
def QA:=jw @ty3 (jw @Qy (jw @ti3.eq_1 @xU.eq_1))
def by_fn (q r:Rat) (hq:Sm q) (hr:Sm r) (h0:0 < r.num) (h1:r.num<=1048576):FnV prog 160 [aSh (shQ q),aSh (shQ r)] (aSh (shQ (q / r))):=by
 have env:=qx (A:=fun _=>True) (kC e139 kN)
 refine kV (Fn0 func160 rfl (fun vs w=>by kernel_rfl) (by kernel_rfl)) (by simp) (by simp [AV.ids,AV.idsL,aSh]) ?_
 have b1:=Xx hq.1 hq.2.1 (jP r) (cU.2 hr.2.2);have b3:=Xx (a:=(q.den:Int)) (by have:=hq.2.2;omega) (by omega) h0 h1
 have b4:=cG (jP q) h0;have w1:=wrap64 (n:=q.num * r.den) (by omega) (by omega)
 have w3:=wrap64 (n:=(q.den:Int) * r.num) (by omega) (by omega)
 have w4:=Qgr q r h0;have w5:U6 (q.num * r.den) ((q.den:Int) * r.num):=⟨by omega,by omega,by omega,by omega⟩
 repeat' first|(apply nx;with_reducible constructor)|apply jq (by decide)|((first|apply jz env|apply jk);intro Q hQ;simp only [vkt,seval,QA,xO,w1,w3,w4,ite_and];(repeat' first|with_reducible assumption|apply jw|intro hp);all_goals first|(apply hQ;clear hQ Q)|omega|assumption|rfl|(apply jx;kernel_rfl)|skip)
 (simp only [vrt,results160,vkt,seval,QA,xO];refine Fin.val rfl ?_;(try simp only [AV.le,AV.leL]))
 simp
def e135 {A:Frm->Prop}:qf A prog 160 (zq true Qec):=qD fun vs _ h=>by
 unfold Qec at h ⊢;split at h
 ·refine ⟨by simp [AV.plain,AV.plainL,aSh],fun _=>by simp [AV.flat,AV.flatL,aSh], ?_⟩
  rw [<- Jb h.1,<- Jb h.2.1];exact by_fn _ _ h.2.2.1 h.2.2.2.1 h.2.2.2.2.1 h.2.2.2.2.2
 ·exact h.elim
def Wx:=jw @ty3 (jw @Qy (jw @ti3.eq_1 @xU.eq_1))
def Qhu (q:Rat) (hq:FlOk q):FnV prog 110 [aSh (shQ q)] (aI q.floor):=by
 have env:Env (fun _=>True) prog tyB (tab []):=qx trivial
 refine Fn.of (A:=fun _=>True) (n0:=0) (D:=noD) (Fn0 func110 rfl (fun vs w=>by kernel_rfl) (by kernel_rfl)) (by simp) (by simp [AV.ids,AV.idsL,aSh]) (fun i o h=>by cases h) (fun _ _ _ _=>trivial) zb ?_
 obtain ⟨h1,h2,h3⟩:=hq;have hd:=jP q
 have w1:IntKind.wrap .i64 (q.num.tdiv q.den)=q.num.tdiv q.den:=XW (by omega) h2
 have hd0:(q.den:Int) ≠ 0:=by omega
 repeat' first|(apply nx;with_reducible constructor)|refine jq (by decide) ?_|((first|refine jz env fun Q hQ=>?_|refine jj fun Q hQ=>?_);simp only [vkt,seval,Wx,xO,w1];(try simp only [ite_and]);(repeat' (first|with_reducible assumption|refine eg ?_ ?_|intro hp));all_goals (first|(refine hQ _ ?_;clear hQ Q)|(refine hQ _ (fun h=>?_) (fun h=>?_) <;> clear hQ Q <;> (try simp only [vki] at h))|omega|assumption|rfl|(refine jx ?_;kernel_rfl)|skip))
 ·have e1:q.floor=q.num.tdiv q.den - 1:=by rw [Rat.floor_def];exact (Qfr hd h).symm
  have w2:IntKind.wrap .i64 (q.num.tdiv q.den - 1)=q.floor:=by rw [e1,wrap64 (by have:=Qif (x:=(q.den:Int)) (by omega) h2;omega) (by have:=QjC (x:=(q.den:Int)) (show -9223372036854775808 < q.num by omega) h2;omega)]
  (simp only [vrt,results110,w2,vkt,seval,xO];refine Fin.val rfl ?_;(try simp only [AV.le]))
  all_goals simp
 ·have e1:q.floor=q.num.tdiv q.den:=by rw [Rat.floor_def];exact (QhW hd h).symm
  (simp only [vrt,results110,<- e1,vkt,seval,xO];refine Fin.val rfl ?_;(try simp only [AV.le]))
  all_goals simp
def e90 {A:Frm->Prop}:qf A prog 110 (zq true s90):=qD fun vs _ h=>by
 unfold s90 at h ⊢;split at h
 ·refine ⟨by simp [AV.plain,aI],fun _=>by simp [AV.flat,aI], ?_⟩
  rw [<- Jb h.1];exact Qhu _ h.2
 ·exact h.elim
def zQ:List Int->Int
 |[]=>0
 |e :: r=>if e=0 then zQ r else e
structure FI (E:List Int) where
 k:Nat
 le:k<=E.length
 eq:zQ (E.drop k)=zQ E
 all:∀ j,j < k->E.getD j 0=0
def KZ {E:List Int} {k:Nat} (h:k < E.length):zQ (E.drop k)=if E.getD k 0=0 then zQ (E.drop (k+1)) else E.getD k 0:=by
 rw [cA h,zQ]
 simp [ah,ak h]
def Qeq {E:List Int} {k:Nat} (h:E.length<=k):zQ (E.drop k)=0:=by rw [dT h];rfl
def errs (n:Nat) (f:Nat->Int):List Int:=(List.range n).map f
def wL (n:Nat) (f:Nat->Int):(errs n f).length=n:=by simp [errs]
def QS {n k:Nat} (f:Nat->Int) (h:k < n):(errs n f).getD k 0=f k:=by simp [errs,ah,h]
def FI.hit {n:Nat} {f:Nat->Int} (i:FI (errs n f)) (h:i.k < n) (h0:f i.k ≠ 0):zQ (errs n f)=f i.k:=by
 rw [<- i.eq,KZ (by rw [wL];exact h),QS f h,if_neg h0]
def FI.last {n:Nat} {f:Nat->Int} (i:FI (errs n f)) (h:n<=i.k):zQ (errs n f)=0:=by
 rw [<- i.eq,Qeq (by rw [wL];exact h)]
def FI.zero (E:List Int):FI E:=⟨0,af _,by simp,fun j h=>absurd h (cQ _)⟩
def FI.next {n:Nat} {f:Nat->Int} (i:FI (errs n f)) (h:i.k < n) (h0:f i.k=0):FI (errs n f):=⟨i.k+1,by rw [wL];exact h,by rw [<- i.eq,KZ (k:=i.k) (by rw [wL];exact h),QS f h,if_pos h0],fun j hj=>by
 rcases bB (bS hj) with h1|h1
 ·exact i.all j h1
 ·rw [h1,QS f h,h0]⟩
structure EQ {α:Type} (a b:List α) where
 k:Nat
 le:k<=a.length
 len:a.length=b.length
 eq:a.take k=b.take k
def EQ.differ {α:Type} {a b:List α} (i:EQ a b) {d:α} (hn:a.getD i.k d ≠ b.getD i.k d):a ≠ b:=fun e=>hn (congrArg (fun l=>l.getD i.k d) e)
def EQ.next {α:Type} {a b:List α} (i:EQ a b) {d:α} (h:i.k < a.length) (he:a.getD i.k d=b.getD i.k d):EQ a b:=⟨i.k+1,h,i.len,by
 have h':i.k < b.length:=by rw [<- i.len];exact h
 rw [cS h,cS h',i.eq]
 simp [ah,ak h,ak h'] at he
 rw [he]⟩
def EQ.last {α:Type} {a b:List α} (i:EQ a b) (h:a.length<=i.k):a=b:=by
 have:=i.eq
 rwa [aP h,aP (by rw [<- i.len];exact h)] at this
def eqiS (a b:List Int) (k:Nat):St:={ t:=asg [(0,qi a),(1,qi b),(4,aB false),(5,aI k)],h:=qg [],n:=0 }
def Qz:=jw @ty3 (jw @jh (jw @ti3.eq_1 @jc.eq_1))
def Wl:=jw @aI.eq_1 (jw @aB.eq_1 (jw @qi.eq_1 (jw @zm.eq_1 (jw @Q5 (jw @J7 (jw @qj.eq_1 (jw @qC.eq_1 (@eqiS.eq_1))))))))
def Qel (a b:List Int) (hl:a.length<=maxLen):FnV prog 60 [qi a,qi b] (aB (decide (a=b))):=by
 have env:Env (fun _=>True) prog tyB (tab []):=qx trivial
 refine Fn.of (A:=fun _=>True) (n0:=0) (D:=noD) (Fn0 func60 rfl (fun vs w=>by kernel_rfl) (by kernel_rfl)) (by simp) (by simp [AV.ids,qi]) (fun i o h=>by cases h) (fun _ _ _ _=>trivial) zb ?_
 repeat' first|(apply nx;with_reducible constructor)|refine jq (by decide) ?_|((first|refine jz env fun Q hQ=>?_|refine jj fun Q hQ=>?_);simp only [vkt,seval,Qz,Wl];(try simp only [ite_and]);(repeat' (first|with_reducible assumption|refine eg ?_ ?_|intro hp));all_goals (first|(refine hQ _ ?_;clear hQ Q)|(refine hQ _ (fun h=>?_) (fun h=>?_) <;> clear hQ Q <;> (try simp only [vki] at h))|omega|assumption|rfl|(refine jx ?_;kernel_rfl)|skip))
 ·(simp only [vrt,results60,vkt,seval,Wl];refine Fin.val rfl ?_;(try simp only [AV.le]))
  all_goals (simp;intro e;subst e;omega)
 ·have hab:a.length=b.length:=by omega
  refine qh (ι:=EQ a b) (fun i=>eqiS a b i.k) (fun i=>a.length - i.k) ⟨0,af _,hab,by simp⟩ ?_ fun i=>?_
  ·(refine Le.ok some [] ?_;constructor;all_goals (try simp only [vle,vkt,seval,Wl]))
   all_goals simp
  ·have hk:=i.le
   have hk2:=i.len
   repeat' first|(apply nx;with_reducible constructor)|refine jq (by decide) ?_|((first|refine jz env fun Q hQ=>?_|refine jj fun Q hQ=>?_);simp only [vkt,seval,Qz,Wl];(try simp only [ite_and]);(repeat' (first|with_reducible assumption|refine eg ?_ ?_|intro hp));all_goals (first|(refine hQ _ ?_;clear hQ Q)|(refine hQ _ (fun h=>?_) (fun h=>?_) <;> clear hQ Q <;> (try simp only [vki] at h))|omega|assumption|rfl|(refine jx ?_;kernel_rfl)|skip))
   ·(simp only [vrt,results60,vkt,seval,Wl];refine Fin.val rfl ?_;(try simp only [AV.le]))
    all_goals (simp;exact i.differ (d:=0) (by simpa using ‹_›))
   ·have hlt:i.k < a.length:=by omega
    have he:a.getD i.k 0=b.getD i.k 0:=by simpa using ‹_›
    have e1:=qV hlt hl;refine ⟨i.next hlt he,by show a.length - (i.k+1) < _;omega, ?_⟩
    (refine Le.ok some [] ?_;constructor;all_goals (try simp only [vle,vkt,seval,Wl]))
    all_goals simp [EQ.next,e1]
   ·(simp only [vrt,results60,vkt,seval,Wl];refine Fin.val rfl ?_;(try simp only [AV.le]))
    all_goals (simp;exact i.last (by omega))
def slT {α β:Type} (f:α->β) (l:List α) (n:Nat):List.take n (List.map f l)=List.map f (List.take n l):=by rw [List.map_take]
def slD {α β:Type} (f:α->β) (l:List α) (n:Nat):List.drop n (List.map f l)=List.map f (List.drop n l):=by rw [bl]
def Qko {α:Type} (l:List α) (m k:Nat) (d:α):(l.drop m).getD k d=l.getD (m+k) d:=by simp [ah]
def jr {α:Type} {l:List α} {k:Nat} {d:α} (h:k < l.length):l.getD k d ∈ l:=by
 rw [ah,ak h];exact bF h
def XO:(20:Nat)<=maxLen:=by decide
def KU:(1000:Nat)<=maxLen:=by decide
def s26:List AV->Prop × AV
 |[.sl xs,.sl ys]=>(xs=(xs.map qL).map qj/\ys=(ys.map qL).map qj/\xs.length<=maxLen,aB (decide (xs.map qL=ys.map qL)))
 |_=>(False,.junk)
def e26 {A:Frm->Prop}:qf A prog 60 (zq true s26):=qD fun vs hv h=>by
 clear hv;unfold s26 at h ⊢
 split at h
 ·rename_i xs ys
  refine ⟨trivial,fun _=>trivial, ?_⟩
  have:=Qel (xs.map qL) (ys.map qL) (by simpa using h.2.2)
  rwa [qi,<- h.1,qi,<- h.2.1] at this
 ·exact h.elim
def eqrS (a b:List (List Int)) (k:Nat):St:={ t:=asg [(0,zm a),(1,zm b),(4,aB false),(5,aI k)],h:=qg [],n:=0 }
def vX:=jw @ty3 (jw @jh (jw @QD (jw @ti3.eq_1 (jw @jc.eq_1 @kI.eq_1))))
def Zh:=jw @aI.eq_1 (jw @aB.eq_1 (jw @qi.eq_1 (jw @zm.eq_1 (jw @Q5 (jw @J7 (jw @qj.eq_1 (jw @qC.eq_1 (jw @eqrS.eq_1 (jw @s26.eq_1 (jw @s26.eq_2 (@Qo)))))))))))
def Qe3 (a b:List (List Int)) (hl:a.length<=maxLen) (hm:∀ p ∈ a,p.length<=maxLen):FnV prog 61 [zm a,zm b] (aB (decide (a=b))):=by
 have env:Env (fun _=>True) prog tyB (tab [(60,zq true s26)]):=qx ⟨e26,trivial⟩
 refine Fn.of (A:=fun _=>True) (n0:=0) (D:=noD) (Fn0 func61 rfl (fun vs w=>by kernel_rfl) (by kernel_rfl)) (by simp) (by simp [AV.ids,zm]) (fun i o h=>by cases h) (fun _ _ _ _=>trivial) zb ?_
 repeat' first|(apply nx;with_reducible constructor)|refine jq (by decide) ?_|((first|refine jz env fun Q hQ=>?_|refine jj fun Q hQ=>?_);simp only [vkt,seval,vX,Zh];(try simp only [ite_and]);(repeat' (first|with_reducible assumption|refine eg ?_ ?_|intro hp));all_goals (first|(refine hQ _ ?_;clear hQ Q)|(refine hQ _ (fun h=>?_) (fun h=>?_) <;> clear hQ Q <;> (try simp only [vki] at h))|omega|assumption|rfl|(refine jx ?_;kernel_rfl)|skip))
 ·(simp only [vrt,results61,vkt,seval,Zh];refine Fin.val rfl ?_;(try simp only [AV.le]))
  all_goals (simp;intro e;subst e;omega)
 ·have hab:a.length=b.length:=by omega
  refine qh (ι:=EQ a b) (fun i=>eqrS a b i.k) (fun i=>a.length - i.k) ⟨0,af _,hab,by simp⟩ ?_ fun i=>?_
  ·(refine Le.ok some [] ?_;constructor;all_goals (try simp only [vle,vkt,seval,Zh]))
   all_goals simp
  ·have hk:=i.le
   have hk2:=i.len;have hp:i.k < a.length->(a.getD i.k []).length<=maxLen:=fun h=>hm _ (jr h)
   repeat' first|(apply nx;with_reducible constructor)|refine jq (by decide) ?_
   (refine jz env fun Q hQ=>?_;simp only [vkt,seval,vX,Zh];(try simp only [ite_and]);(repeat' (first|with_reducible assumption|refine eg ?_ ?_|intro hp));all_goals (first|(refine hQ _ ?_;clear hQ Q)|omega|assumption|rfl|(refine jx ?_;kernel_rfl)|skip))
   repeat' first|(apply nx;with_reducible constructor)|refine jq (by decide) ?_
   (refine zk (by simp only [vkt,seval];rfl) (fun h=>?_) (fun h=>?_) <;> (try simp only [vki] at h))
   ·have hlt:i.k < a.length:=by omega
    have hp:=hp hlt
    repeat' first|(apply nx;with_reducible constructor)|refine jq (by decide) ?_|((first|refine jz env fun Q hQ=>?_|refine jj fun Q hQ=>?_);simp only [vkt,seval,vX,Zh];(try simp only [ite_and]);(repeat' (first|with_reducible assumption|refine eg ?_ ?_|intro hp));all_goals (first|(refine hQ _ ?_;clear hQ Q)|(refine hQ _ (fun h=>?_) (fun h=>?_) <;> clear hQ Q <;> (try simp only [vki] at h))|omega|assumption|rfl|(refine jx ?_;kernel_rfl)|skip))
    ·(simp only [vrt,results61,vkt,seval,Zh];refine Fin.val rfl ?_;(try simp only [AV.le]))
     all_goals (simp;exact i.differ (d:=[]) (by simpa using ‹_›))
    ·have he:a.getD i.k []=b.getD i.k []:=by simpa using ‹_›
     have e1:=qV hlt hl;refine ⟨i.next hlt he,by show a.length - (i.k+1) < _;omega, ?_⟩
     (refine Le.ok some [] ?_;constructor;all_goals (try simp only [vle,vkt,seval,Zh]))
     all_goals simp [EQ.next,e1]
   ·repeat' first|(apply nx;with_reducible constructor)|refine jq (by decide) ?_|((first|refine jz env fun Q hQ=>?_|refine jj fun Q hQ=>?_);simp only [vkt,seval];(try simp only [ite_and]);(repeat' (first|with_reducible assumption|refine eg ?_ ?_|intro hp));all_goals (first|(refine hQ _ ?_;clear hQ Q)|(refine hQ _ (fun h=>?_) (fun h=>?_) <;> clear hQ Q <;> (try simp only [vki,reduceCtorEq] at h))|omega|assumption|rfl|(refine jx ?_;kernel_rfl)|skip))
    (simp only [vrt,results61,vkt,seval,Zh];refine Fin.val rfl ?_;(try simp only [AV.le]))
    all_goals (simp;exact i.last (by omega))
def vF (p:List Int) (i:Nat):Int:=if 50 < p.getD (1+i) 0 then 1 else if p.getD (1+i) 0<=p.getD i 0 then 5 else 0
def xc (p:List Int):Int:=if qy p.length 1 4 ≠ 0 then qy p.length 1 4 else if p.getD 0 0 ≠ 1 then 1 else zQ (errs (p.length - 1) (vF p))
def QkA (p:List Int) (k:Nat):St:={ t:=asg [(0,qi p),(2,aI 0),(17,qi (p.drop 1)),(18,aI ((p.length - 1:Nat):Int)),(19,aI k)],h:=qg [],n:=0 }
def vJ:=jw @ty3 (jw @jh (jw @WP (jw @ti3.eq_1 (jw @jc.eq_1 @Zn.eq_1))))
def kY:=jw @aI.eq_1 (jw @aB.eq_1 (jw @qi.eq_1 (jw @Q5 (jw @qj.eq_1 (jw @s78.eq_1 (jw @s78.eq_2 (jw @QkA.eq_1 (jw @slT (jw @slD (jw @Qko (@ZJ)))))))))))
def Qjw (p:List Int) (hl:p.length<=maxLen):FnV prog 125 [qi p] (aI (xc p)):=by
 have env:Env (fun _=>True) prog tyB (tab [(121,zq true s78)]):=qx ⟨e78,trivial⟩
 refine Fn.of (A:=fun _=>True) (n0:=0) (D:=noD) (Fn0 func125 rfl (fun vs w=>by kernel_rfl) (by kernel_rfl)) (by simp) (by simp [AV.ids,qi]) (fun i o h=>by cases h) (fun _ _ _ _=>trivial) zb ?_
 have hc:qy p.length 1 4=0->1<=p.length/\p.length<=4:=fun h=>by unfold qy at h;split at h <;> simp at h;omega
 by_cases h0:qy p.length 1 4=0
 ·have hc:=hc h0
  repeat' first|(apply nx;with_reducible constructor)|refine jq (by decide) ?_|((first|refine jz env fun Q hQ=>?_|refine jj fun Q hQ=>?_);simp only [vkt,seval,vJ,kY,bt,aM,h0];(try simp only [ite_and]);(repeat' (first|with_reducible assumption|refine eg ?_ ?_|intro hp));all_goals (first|(refine hQ _ ?_;clear hQ Q)|(refine hQ _ (fun h=>?_) (fun h=>?_) <;> clear hQ Q <;> (try simp only [vki,reduceCtorEq] at h))|omega|assumption|rfl|(refine jx ?_;kernel_rfl)|skip))
  ·(simp only [vrt,results125,vkt,seval,kY];refine Fin.val rfl ?_;(try simp only [AV.le]))
   all_goals (unfold xc;simp [-List.getD_eq_getElem?_getD, *])
  ·have hp1:p.getD 0 0=1:=by assumption
   refine qh (ι:=FI (errs (p.length - 1) (vF p))) (fun i=>QkA p i.k) (fun i=>p.length - i.k) (FI.zero _) ?_ fun i=>?_
   ·(refine Le.ok some [] ?_;constructor;all_goals (try simp only [vle,vkt,seval,kY]))
    all_goals simp [FI.zero]
   ·have hk:=i.le
    rw [wL] at hk
    repeat' first|(apply nx;with_reducible constructor)|refine jq (by decide) ?_|((first|refine jz env fun Q hQ=>?_|refine jj fun Q hQ=>?_);simp only [vkt,seval,vJ,kY,aM];(try simp only [ite_and]);(repeat' (first|with_reducible assumption|refine eg ?_ ?_|intro hp));all_goals (first|(refine hQ _ ?_;clear hQ Q)|(refine hQ _ (fun h=>?_) (fun h=>?_) <;> clear hQ Q <;> (try simp only [vki] at h))|omega|assumption|rfl|(refine jx ?_;kernel_rfl)|skip))
    ·(simp only [vrt,results125,vkt,seval,kY];refine Fin.val rfl ?_;(try simp only [AV.le]))
     all_goals (unfold xc;rw [i.hit (by omega) (by unfold vF;simp [-List.getD_eq_getElem?_getD, *])];unfold vF;simp [-List.getD_eq_getElem?_getD, *])
    ·(simp only [vrt,results125,vkt,seval,kY];refine Fin.val rfl ?_;(try simp only [AV.le]))
     all_goals (unfold xc;rw [i.hit (by omega) (by unfold vF;simp [-List.getD_eq_getElem?_getD, *])];unfold vF;simp [-List.getD_eq_getElem?_getD, *])
    ·have hlt:i.k < p.length - 1:=by omega
     have e1:=qV hlt (show p.length - 1<=maxLen by omega)
     refine ⟨i.next hlt (by unfold vF;simp [-List.getD_eq_getElem?_getD, *]),by show p.length - (i.k+1) < _;omega, ?_⟩
     (refine Le.ok some [] ?_;constructor;all_goals (try simp only [vle,vkt,seval,kY]))
     all_goals simp [FI.next,e1]
    ·(simp only [vrt,results125,vkt,seval,kY];refine Fin.val rfl ?_;(try simp only [AV.le]))
     all_goals (unfold xc;rw [i.last (by omega)];simp [-List.getD_eq_getElem?_getD, *])
 ·repeat' first|(apply nx;with_reducible constructor)|refine jq (by decide) ?_|((first|refine jz env fun Q hQ=>?_|refine jj fun Q hQ=>?_);simp only [vkt,seval,vJ,kY,h0];(try simp only [ite_and]);(repeat' (first|with_reducible assumption|refine eg ?_ ?_|intro hp));all_goals (first|(refine hQ _ ?_;clear hQ Q)|(refine hQ _ (fun h=>?_) (fun h=>?_) <;> clear hQ Q <;> (try simp only [reduceCtorEq] at h))|omega|assumption|rfl|(refine jx ?_;kernel_rfl)|skip))
  (simp only [vrt,results125,vkt,seval,kY];refine Fin.val rfl ?_;(try simp only [AV.le]))
  all_goals (unfold xc;simp [-List.getD_eq_getElem?_getD,h0])
def s110:List AV->Prop × AV
 |[.sl xs]=>(xs=(xs.map qL).map qj/\xs.length<=maxLen,aI (xc (xs.map qL)))
 |_=>(False,.junk)
def e110 {A:Frm->Prop}:qf A prog 125 (zq true s110):=qD fun vs hv h=>by
 clear hv;unfold s110 at h ⊢
 split at h
 ·rename_i xs
  refine ⟨trivial,fun _=>trivial, ?_⟩
  have:=Qjw (xs.map qL) (by simpa using h.2)
  rwa [qi,<- h.1] at this
 ·exact h.elim
def shE (s:Sh):Int:=if !inB s.num 1 20 then 1 else if !inB s.den 1 12 then 1 else if s ≠ shQ (mkRat s.num s.den.toNat) then 8 else 0
def Zi (r:List Sh) (i:Nat):Int:=shE (r.getD (1+i) default)
def jU (r:List Sh) (n:Int):Int:=if (r.length:Int) ≠ n then 2 else if r.getD 0 default ≠ ⟨1,1⟩ then 1 else zQ (errs (r.length - 1) (Zi r))
def Qhh (r:List Sh) (n:Int) (k:Nat):St:={ t:=asg [(0,yx r),(1,aI n),(4,aI 0),(17,yx (r.drop 1)),(18,aI ((r.length - 1:Nat):Int)),(19,aI k)],h:=qg [],n:=0 }
def U9 (s:Sh) (a b:Int):(s=(⟨a,b⟩:Sh)) ↔ s.num=a/\s.den=b:=by cases s;simp
def jQ:=jw @ty3 (jw @vQ (jw @Qg (jw @Qy (jw @ti3.eq_1 (jw @yP.eq_1 (jw @xD.eq_1 @xU.eq_1))))))
def vv:=jw @aI.eq_1 (jw @aB.eq_1 (jw @yx.eq_1 (jw @gSh (jw @eSh.eq_1 (jw @s79.eq_1 (jw @s79.eq_2 (jw @Vt.eq_1 (jw @Vt.eq_2 (jw @Qby.eq_1 (jw @Qby.eq_2 (jw @Qhh.eq_1 (jw @slT (jw @slD (jw @Qko (jw @rSh (jw @aSh.eq_1 (@shQ.eq_1)))))))))))))))))
def Qgb (r:List Sh) (n:Int) (hl:r.length<=maxLen) (hn:1<=n):FnV prog 126 [yx r,aI n] (aI (jU r n)):=by
 have env:Env (fun _=>True) prog tyB (tab [(122,zq true s79),(111,zq true Vt),(157,zq true Qby)]):=qx ⟨e79,Qf1,e139,trivial⟩
 refine Fn.of (A:=fun _=>True) (n0:=0) (D:=noD) (Fn0 func126 rfl (fun vs w=>by kernel_rfl) (by kernel_rfl)) (by simp) (by simp [AV.ids,yx,aI]) (fun i o h=>by cases h) (fun _ _ _ _=>trivial) zb ?_
 have en1:((1:Int):Rat).num=1:=by decide
 have en2:((1:Int):Rat).den=1:=by decide
 have eqs:∀ s:Sh,(s=(⟨1,1⟩:Sh)) ↔ s.num=1/\s.den=1:=fun s=>U9 s 1 1
 repeat' first|(apply nx;with_reducible constructor)|refine jq (by decide) ?_|((first|refine jz env fun Q hQ=>?_|refine jj fun Q hQ=>?_);simp only [vkt,seval,jQ,vv,bt,aM,en1,en2];(try simp only [ite_and]);(repeat' (first|with_reducible assumption|refine eg ?_ ?_|intro hp));all_goals (first|(refine hQ _ ?_;clear hQ Q)|(refine hQ _ (fun h=>?_) (fun h=>?_) <;> clear hQ Q <;> (try simp only [vki] at h))|omega|assumption|rfl|(refine jx ?_;kernel_rfl)|skip))
 ·(simp only [vrt,results126,vkt,seval,vv];refine Fin.val rfl ?_;(try simp only [AV.le]))
  all_goals (unfold jU;simp [-List.getD_eq_getElem?_getD, *])
 ·(simp only [vrt,results126,vkt,seval,vv];refine Fin.val rfl ?_;(try simp only [AV.le]))
  all_goals (unfold jU;rw [if_neg (by simp;omega),if_pos (by rw [ne_eq,eqs];simp at *;omega)])
 ·have hr1:r.getD 0 default=⟨1,1⟩:=by rw [eqs];simpa using ‹_/\_›
  have hlen:(r.length:Int)=n:=by assumption
  refine qh (ι:=FI (errs (r.length - 1) (Zi r))) (fun i=>Qhh r n i.k) (fun i=>r.length - i.k) (FI.zero _) ?_ fun i=>?_
  ·(refine Le.ok some [] ?_;constructor;all_goals (try simp only [vle,vkt,seval,vv]))
   all_goals simp [FI.zero]
  ·have hk:=i.le
   rw [wL] at hk;have out:∀ e,Zi r i.k=e->e ≠ 0->i.k < r.length - 1->jU r n=e:=fun e he h0 hlt=>by
    unfold jU;rw [if_neg (by simp;omega),if_neg (by rw [hr1];simp),i.hit hlt (by rw [he];exact h0),he]
   have last:r.length - 1<=i.k->jU r n=0:=fun h=>by
    unfold jU;rw [if_neg (by simp;omega),if_neg (by rw [hr1];simp),i.last h]
   have hnext:(h1:Zi r i.k=0)->(hlt:i.k < r.length - 1)->∃ i':FI (errs (r.length - 1) (Zi r)),r.length - i'.k < r.length - i.k/\i'.k=i.k+1:=fun h1 hlt=>⟨i.next hlt h1,by show r.length - (i.k+1) < _;omega,rfl⟩
   have e1:i.k < r.length - 1->IntKind.wrap .i64 ((i.k:Int)+1)=((i.k+1:Nat):Int):=fun hlt=>qV hlt (by omega)
   unfold Zi at out hnext;generalize hs:r.getD (1+i.k) default=s at *
   by_cases c1:inB s.num 1 20=true
   ·by_cases c2:inB s.den 1 12=true
    ·have hro:U6 s.num s.den:=by simp [inB] at c1 c2;exact ⟨by omega,by omega,by omega,by omega⟩
     repeat' first|(apply nx;with_reducible constructor)|refine jq (by decide) ?_|((first|refine jz env fun Q hQ=>?_|refine jj fun Q hQ=>?_);simp only [vkt,seval,jQ,vv,aM,hs,c1,c2];(try simp only [ite_and]);(repeat' (first|with_reducible assumption|refine eg ?_ ?_|intro hp));all_goals (first|(refine hQ _ ?_;clear hQ Q)|(refine hQ _ (fun h=>?_) (fun h=>?_) <;> clear hQ Q <;> (try simp only [vki,reduceCtorEq] at h))|omega|assumption|rfl|(refine jx ?_;kernel_rfl)|skip))
     ·(simp only [vrt,results126,vkt,seval,vv];refine Fin.val rfl ?_;(try simp only [AV.le]))
      all_goals rw [out 8 (by unfold shE;rw [c1,c2,if_neg (by simp),if_neg (by simp),if_pos (by rw [ne_eq,U9];show ¬(_=(mkRat _ _).num/\_=((mkRat _ _).den:Int));omega)]) (by decide) (by omega)]
     ·obtain ⟨i',g1,g2⟩:=hnext (by unfold shE;rw [c1,c2,if_neg (by simp),if_neg (by simp),if_neg (by rw [ne_eq,Decidable.not_not,U9];show (_=(mkRat _ _).num/\_=((mkRat _ _).den:Int));omega)]) (by omega)
      have e1:=e1 (by omega)
      refine ⟨i',g1, ?_⟩
      rw [g2]
      (refine Le.ok some [] ?_;constructor;all_goals (try simp only [vle,vkt,seval,vv]))
      all_goals simp [e1]
     ·(simp only [vrt,results126,vkt,seval,vv];refine Fin.val rfl ?_;(try simp only [AV.le]))
      all_goals rw [last (by omega)]
    ·have c2:inB s.den 1 12=false:=by simpa using c2
     repeat' first|(apply nx;with_reducible constructor)|refine jq (by decide) ?_|((first|refine jz env fun Q hQ=>?_|refine jj fun Q hQ=>?_);simp only [vkt,seval,jQ,vv,aM,hs,c1,c2];(try simp only [ite_and]);(repeat' (first|with_reducible assumption|refine eg ?_ ?_|intro hp));all_goals (first|(refine hQ _ ?_;clear hQ Q)|(refine hQ _ (fun h=>?_) (fun h=>?_) <;> clear hQ Q <;> (try simp only [vki,reduceCtorEq] at h))|omega|assumption|rfl|(refine jx ?_;kernel_rfl)|skip))
     ·(simp only [vrt,results126,vkt,seval,vv];refine Fin.val rfl ?_;(try simp only [AV.le]))
      all_goals rw [out 1 (by unfold shE;simp [c1,c2]) (by decide) (by omega)]
     ·(simp only [vrt,results126,vkt,seval,vv];refine Fin.val rfl ?_;(try simp only [AV.le]))
      all_goals rw [last (by omega)]
   ·have c1:inB s.num 1 20=false:=by simpa using c1
    repeat' first|(apply nx;with_reducible constructor)|refine jq (by decide) ?_|((first|refine jz env fun Q hQ=>?_|refine jj fun Q hQ=>?_);simp only [vkt,seval,jQ,vv,aM,hs,c1];(try simp only [ite_and]);(repeat' (first|with_reducible assumption|refine eg ?_ ?_|intro hp));all_goals (first|(refine hQ _ ?_;clear hQ Q)|(refine hQ _ (fun h=>?_) (fun h=>?_) <;> clear hQ Q <;> (try simp only [vki,reduceCtorEq] at h))|omega|assumption|rfl|(refine jx ?_;kernel_rfl)|skip))
    ·(simp only [vrt,results126,vkt,seval,vv];refine Fin.val rfl ?_;(try simp only [AV.le]))
     all_goals rw [out 1 (by unfold shE;simp [c1]) (by decide) (by omega)]
    ·(simp only [vrt,results126,vkt,seval,vv];refine Fin.val rfl ?_;(try simp only [AV.le]))
     all_goals rw [last (by omega)]
def s111:List AV->Prop × AV
 |[.sl xs,.v (.int .i64 n)]=>(xs=(xs.map dSh).map eSh/\xs.length<=maxLen/\1<=n,aI (jU (xs.map dSh) n))
 |_=>(False,.junk)
def e111 {A:Frm->Prop}:qf A prog 126 (zq true s111):=qD fun vs hv h=>by
 clear hv;unfold s111 at h ⊢
 split at h
 ·rename_i xs n
  refine ⟨trivial,fun _=>trivial, ?_⟩
  have:=Qgb (xs.map dSh) n (by simpa using h.2.1) h.2.2
  rwa [yx,<- h.1] at this
 ·exact h.elim
def wm (l:Led) (x:Ent) (before:Int):Int :=
 if !inB x.day 0 ((l.rates.length:Int) - 1) then 3 else if x.day < before then 5 else if !inB x.kind 1 4 then 8 else if !inB x.coin 0 ((l.coins.length:Int) - 1) then 3
 else if x.kind=3/\inB x.to 0 ((l.coins.length:Int) - 1)=false then 3 else if x.kind=3/\x.to=x.coin then 4 else if x.kind=3/\inB x.got 0 999=false then 1
 else if x.kind ≠ 3/\(x.to ≠ 0\/x.got ≠ 0) then 1 else if !inB x.amount 0 999 then 1 else 0
def zF:=jw @ty3 (jw @jh (jw @QD (jw @WK (jw @vU (jw @vQ (jw @vR (jw @ti3.eq_1 (jw @jc.eq_1 (jw @kI.eq_1 (jw @Zp.eq_1 (jw @vD.eq_1 (jw @yP.eq_1 @yS.eq_1))))))))))))
def vw:=jw @aI.eq_1 (jw @aB.eq_1 (jw @yE.eq_1 (jw @q9.eq_1 (jw @qU.eq_1 (jw @s79.eq_1 (@s79.eq_2))))))
def QhA (l:Led) (x:Ent) (before:Int) (h1:l.rates.length<=1000) (h2:l.coins.length<=1000):FnV prog 164 [q9 l,yE x,aI before] (aI (wm l x before)):=by
 have env:Env (fun _=>True) prog tyB (tab [(122,zq true s79)]):=qx ⟨e79,trivial⟩
 refine Fn.of (A:=fun _=>True) (n0:=0) (D:=noD) (Fn0 func164 rfl (fun vs w=>by kernel_rfl) (by kernel_rfl)) (by simp) (by simp [AV.ids,AV.idsL,q9,qU,yE,aI]) (fun i o h=>by cases h) (fun _ _ _ _=>trivial) zb ?_
 have w1:IntKind.wrap .i64 ((l.rates.length:Int) - 1)=(l.rates.length:Int) - 1:=wrap64 (by omega) (by omega)
 have w2:IntKind.wrap .i64 ((l.coins.length:Int) - 1)=(l.coins.length:Int) - 1:=wrap64 (by omega) (by omega)
 cases c1:inB x.day 0 ((l.rates.length:Int) - 1)
 ·repeat' first|(apply nx;with_reducible constructor)|refine jq (by decide) ?_|((first|refine jz env fun Q hQ=>?_|refine jj fun Q hQ=>?_);simp only [vkt,seval,zF,vw,w1,c1];(try simp only [ite_and]);(repeat' (first|with_reducible assumption|refine eg ?_ ?_|intro hp));all_goals (first|(refine hQ _ ?_;clear hQ Q)|(refine hQ _ (fun h=>?_) (fun h=>?_) <;> clear hQ Q <;> (try simp only [reduceCtorEq] at h))|omega|assumption|rfl|(refine jx ?_;kernel_rfl)|skip))
  (simp only [vrt,results164,vkt,seval,vw];refine Fin.val rfl ?_;(try simp only [AV.le]))
  all_goals simp [wm,c1]
 by_cases c2:x.day < before
 ·repeat' first|(apply nx;with_reducible constructor)|refine jq (by decide) ?_|((first|refine jz env fun Q hQ=>?_|refine jj fun Q hQ=>?_);simp only [vkt,seval,zF,vw,w1,c1,c2];(try simp only [ite_and]);(repeat' (first|with_reducible assumption|refine eg ?_ ?_|intro hp));all_goals (first|(refine hQ _ ?_;clear hQ Q)|(refine hQ _ (fun h=>?_) (fun h=>?_) <;> clear hQ Q <;> (try simp only [reduceCtorEq] at h))|omega|assumption|rfl|(refine jx ?_;kernel_rfl)|skip))
  (simp only [vrt,results164,vkt,seval,vw];refine Fin.val rfl ?_;(try simp only [AV.le]))
  all_goals simp [wm,c1,c2]
 cases c3:inB x.kind 1 4
 ·repeat' first|(apply nx;with_reducible constructor)|refine jq (by decide) ?_|((first|refine jz env fun Q hQ=>?_|refine jj fun Q hQ=>?_);simp only [vkt,seval,zF,vw,w1,c1,c2,c3];(try simp only [ite_and]);(repeat' (first|with_reducible assumption|refine eg ?_ ?_|intro hp));all_goals (first|(refine hQ _ ?_;clear hQ Q)|(refine hQ _ (fun h=>?_) (fun h=>?_) <;> clear hQ Q <;> (try simp only [reduceCtorEq] at h))|omega|assumption|rfl|(refine jx ?_;kernel_rfl)|skip))
  (simp only [vrt,results164,vkt,seval,vw];refine Fin.val rfl ?_;(try simp only [AV.le]))
  all_goals simp [wm,c1,c2,c3]
 cases c4:inB x.coin 0 ((l.coins.length:Int) - 1)
 ·repeat' first|(apply nx;with_reducible constructor)|refine jq (by decide) ?_|((first|refine jz env fun Q hQ=>?_|refine jj fun Q hQ=>?_);simp only [vkt,seval,zF,vw,w1,w2,c1,c2,c3,c4];(try simp only [ite_and]);(repeat' (first|with_reducible assumption|refine eg ?_ ?_|intro hp));all_goals (first|(refine hQ _ ?_;clear hQ Q)|(refine hQ _ (fun h=>?_) (fun h=>?_) <;> clear hQ Q <;> (try simp only [reduceCtorEq] at h))|omega|assumption|rfl|(refine jx ?_;kernel_rfl)|skip))
  (simp only [vrt,results164,vkt,seval,vw];refine Fin.val rfl ?_;(try simp only [AV.le]))
  all_goals simp [wm,c1,c2,c3,c4]
 by_cases c5:x.kind=3
 ·have c7:inB 3 1 4=true:=by decide
  cases c6:inB x.to 0 ((l.coins.length:Int) - 1)
  ·repeat' first|(apply nx;with_reducible constructor)|refine jq (by decide) ?_|((first|refine jz env fun Q hQ=>?_|refine jj fun Q hQ=>?_);simp only [vkt,seval,zF,vw,w1,w2,c1,c2,c7,c4,c5,c6];(try simp only [ite_and]);(repeat' (first|with_reducible assumption|refine eg ?_ ?_|intro hp));all_goals (first|(refine hQ _ ?_;clear hQ Q)|(refine hQ _ (fun h=>?_) (fun h=>?_) <;> clear hQ Q <;> (try simp only [reduceCtorEq] at h))|omega|assumption|rfl|(refine jx ?_;kernel_rfl)|skip))
   (simp only [vrt,results164,vkt,seval,vw];refine Fin.val rfl ?_;(try simp only [AV.le]))
   all_goals simp [wm,c1,c2,c7,c4,c5,c6]
  repeat' first|(apply nx;with_reducible constructor)|refine jq (by decide) ?_|((first|refine jz env fun Q hQ=>?_|refine jj fun Q hQ=>?_);simp only [vkt,seval,zF,vw,w1,w2,c1,c2,c7,c4,c5,c6];(try simp only [ite_and]);(repeat' (first|with_reducible assumption|refine eg ?_ ?_|intro hp));all_goals (first|(refine hQ _ ?_;clear hQ Q)|(refine hQ _ (fun h=>?_) (fun h=>?_) <;> clear hQ Q <;> (try simp only [vki,reduceCtorEq] at h))|omega|assumption|rfl|(refine jx ?_;kernel_rfl)|skip))
  all_goals (simp only [vrt,results164,vkt,seval,vw];refine Fin.val rfl ?_;(try simp only [AV.le]))
  all_goals simp [wm, *]
 ·repeat' first|(apply nx;with_reducible constructor)|refine jq (by decide) ?_|((first|refine jz env fun Q hQ=>?_|refine jj fun Q hQ=>?_);simp only [vkt,seval,zF,vw,w1,w2,c1,c2,c3,c4,c5];(try simp only [ite_and]);(repeat' (first|with_reducible assumption|refine eg ?_ ?_|intro hp));all_goals (first|(refine hQ _ ?_;clear hQ Q)|(refine hQ _ (fun h=>?_) (fun h=>?_) <;> clear hQ Q <;> (try simp only [vki,reduceCtorEq] at h))|omega|assumption|rfl|(refine jx ?_;kernel_rfl)|skip))
  all_goals (simp only [vrt,results164,vkt,seval,vw];refine Fin.val rfl ?_;(try simp only [AV.le]))
  all_goals simp [wm, *]
def Qge:List AV->Prop × AV
 |[.agg [.sl cs,.sl rs,.sl ss,.sl es],.agg [.v (.int .i64 a),.v (.int .i64 b),.v (.int .i64 c),.v (.int .i64 d),.v (.int .i64 e),.v (.int .i64 f)],.v (.int .i64 n)] =>
  (cs=(cs.map q8).map qC/\rs=(rs.map kE).map zM/\ss=(ss.map qL).map qj/\es=(es.map kW).map zC/\rs.length<=1000/\cs.length<=1000,aI (wm ⟨cs.map q8,rs.map kE,ss.map qL,es.map kW⟩ ⟨a,b,c,d,e,f⟩ n))
 |_=>(False,.junk)
def e140 {A:Frm->Prop}:qf A prog 164 (zq true Qge):=qD fun vs hv h=>by
 clear hv;unfold Qge at h ⊢
 split at h
 ·rename_i cs rs ss es a b c d e f n
  obtain ⟨h1,h2,h3,h4,h5,h6⟩:=h;refine ⟨trivial,fun _=>trivial, ?_⟩
  have:=QhA ⟨cs.map q8,rs.map kE,ss.map qL,es.map kW⟩ ⟨a,b,c,d,e,f⟩ n (by simpa using h5) (by simpa using h6)
  simp only [q9,qU,<- h1,<- h2,<- h3,<- h4] at this;exact this
 ·exact h.elim
def gI0 {l:List Int} {n:Nat} (h:n < l.length):(l.map qj).getD n []=qj (l.getD n 0):=by simp [ah,h]
def KP (l:List Int) (n:Nat) (v:Int):(l.map qj).set n [.v (.int .i64 v)]=(l.set n v).map qj:=by rw [dJ];rfl
def b47 {n:Nat} (h:n<=100000):n * 8<=140737488355328/\n * 24<=140737488355328/\n * 16<=140737488355328/\n<=maxLen:=by
 have:(100000:Nat)<=maxLen:=by decide
 omega
def ZW:=jw @ty3 (jw @jh (jw @ti3.eq_1 @jc.eq_1))
def Qde (xs:List (List DV)) (h1:zK 1 xs) (h2:xs.length<=100000):Fn noB prog 114 [.sl xs] noH (.row 0) (qg [(0,.row 3 1 xs)]) 0:=by
 have env:=qx (A:=fun _=>True) kN
 obtain ⟨b1,b2,b3,b4⟩:=b47 h2;refine kV (Fn0 func114 rfl (fun vs w=>by kernel_rfl) (by kernel_rfl)) (by simp) (by simp [AV.ids]) ?_
 repeat' first|(apply nx;with_reducible constructor)|apply jq (by decide)
 (apply jz env;intro Q hQ;simp only [vkt,seval,ite_and];(repeat' first|with_reducible assumption|apply jw|intro hp);all_goals first|(apply hQ;clear hQ Q)|omega|assumption|rfl|(apply jx;kernel_rfl)|skip)
 repeat' first|(apply nx;with_reducible constructor)|apply jq (by decide)
 refine Vx (d1:=3) (d2:=4) (t:=26) (e:=3) (x:=.tmp 0) (xs:=xs) rfl rfl rfl rfl rfl rfl underlying26 rfl fun b hb=>?_
 repeat' first|(apply nx;with_reducible constructor)|apply jq (by decide)
 (refine zk (by simp only [vkt,seval];rfl) (fun h=>?_) (fun h=>?_) <;> (try simp only [vki,reduceCtorEq] at h))
 ·have hx:=hb h
  subst hx
  repeat' first|(apply nx;with_reducible constructor)|apply jq (by decide)|((first|apply jz env|apply jk);intro Q hQ;simp only [vkt,seval,ite_and];(repeat' first|with_reducible assumption|apply jw|intro hp);all_goals first|(apply hQ;clear hQ Q)|omega|assumption|rfl|(apply jx;kernel_rfl)|skip)
  (simp only [vrt,results114,vkt,seval];refine Fin.ok (fun _=>none) [] ?_ ?_ ?_ ?_ ?_ rfl;all_goals (try simp only [vle,vkt,seval]))
  all_goals simp
 ·repeat' first|(apply nx;with_reducible constructor)|apply jq (by decide)|((first|apply jz env|apply jk);intro Q hQ;simp only [vkt,seval,ZW,ite_and];(repeat' first|with_reducible assumption|apply jw|intro hp);all_goals first|(apply hQ;clear hQ Q)|omega|assumption|rfl|(apply jx;kernel_rfl)|skip)
  (simp only [vrt,results114,vkt,seval];refine Fin.ok some [] ?_ ?_ ?_ ?_ ?_ rfl;all_goals (try simp only [vle,vkt,seval]))
  all_goals simp
def Q7:=jw @jh (jw @QD (jw @jc.eq_1 @kI.eq_1))
def QdH (xs:List (List DV)) (h1:zK 1 xs) (h2:xs.length<=100000):Fn noB prog 120 [.sl xs] noH (.row 0) (qg [(0,.row 26 1 xs)]) 0:=by
 have env:=qx (A:=fun _=>True) kN
 obtain ⟨b1,b2,b3,b4⟩:=b47 h2;refine kV (Fn0 func120 rfl (fun vs w=>by kernel_rfl) (by kernel_rfl)) (by simp) (by simp [AV.ids]) ?_
 repeat' first|(apply nx;with_reducible constructor)|apply jq (by decide)
 (apply jz env;intro Q hQ;simp only [vkt,seval,ite_and];(repeat' first|with_reducible assumption|apply jw|intro hp);all_goals first|(apply hQ;clear hQ Q)|omega|assumption|rfl|(apply jx;kernel_rfl)|skip)
 repeat' first|(apply nx;with_reducible constructor)|apply jq (by decide)
 refine Vx (d1:=3) (d2:=4) (t:=43) (e:=26) (x:=.tmp 0) (xs:=xs) rfl rfl rfl rfl rfl rfl underlying43 rfl fun b hb=>?_
 repeat' first|(apply nx;with_reducible constructor)|apply jq (by decide)
 (refine zk (by simp only [vkt,seval];rfl) (fun h=>?_) (fun h=>?_) <;> (try simp only [vki,reduceCtorEq] at h))
 ·have hx:=hb h
  subst hx
  repeat' first|(apply nx;with_reducible constructor)|apply jq (by decide)|((first|apply jz env|apply jk);intro Q hQ;simp only [vkt,seval,ite_and];(repeat' first|with_reducible assumption|apply jw|intro hp);all_goals first|(apply hQ;clear hQ Q)|omega|assumption|rfl|(apply jx;kernel_rfl)|skip)
  (simp only [vrt,results120,vkt,seval];refine Fin.ok (fun _=>none) [] ?_ ?_ ?_ ?_ ?_ rfl;all_goals (try simp only [vle,vkt,seval]))
  all_goals simp
 ·repeat' first|(apply nx;with_reducible constructor)|apply jq (by decide)|((first|apply jz env|apply jk);intro Q hQ;simp only [vkt,seval,Q7,ite_and];(repeat' first|with_reducible assumption|apply jw|intro hp);all_goals first|(apply hQ;clear hQ Q)|omega|assumption|rfl|(apply jx;kernel_rfl)|skip)
  (simp only [vrt,results120,vkt,seval];refine Fin.ok some [] ?_ ?_ ?_ ?_ ?_ rfl;all_goals (try simp only [vle,vkt,seval]))
  all_goals simp
def p88 (_:St):List AV->Option Pk
 |[.sl xs]=>some { pre:=zK 1 xs/\xs.length<=100000,ar:=[.sl xs],v:=.row 0,L1:=[some (.row 3 1 xs)] }
 |[.nil]=>some { ar:=[.sl []],v:=.row 0,L1:=[some (.row 3 1 [])] }
 |_=>none
def e88 {A:Frm->Prop}:qf A prog 114 (fnE p88):=jb fun S bs q h hp=>by
 unfold p88 at h;split at h <;> cases h
 ·exact Qde _ hp.1 hp.2
 ·exact Qde [] (by simp [zK]) (by simp)
def p95 (_:St):List AV->Option Pk
 |[.sl xs]=>some { pre:=zK 1 xs/\xs.length<=100000,ar:=[.sl xs],v:=.row 0,L1:=[some (.row 26 1 xs)] }
 |[.nil]=>some { ar:=[.sl []],v:=.row 0,L1:=[some (.row 26 1 [])] }
 |_=>none
def e95 {A:Frm->Prop}:qf A prog 120 (fnE p95):=jb fun S bs q h hp=>by
 unfold p95 at h;split at h <;> cases h
 ·exact QdH _ hp.1 hp.2
 ·exact QdH [] (by simp [zK]) (by simp)
def vS (l:Led) (r:Nat):AObj:=.cells (qU l++[.row r])
def Q8 (has:List Int):AObj:=.row 3 1 (has.map qj)
def VI:=jw @ty3 (jw @jh (jw @vU (jw @Rj (jw @ti3.eq_1 (jw @jc.eq_1 (jw @vD.eq_1 @YR.eq_1))))))
def QdJ:=jw @q9.eq_1 (jw @qU.eq_1 (jw @p88.eq_1 (jw @p88.eq_2 (jw @p88.eq_3 (jw @ZJ (jw @vS.eq_1 (@Q8.eq_1)))))))
def Qlt (l:Led) (h:l.start.length<=100000):Fn noB prog 100 [q9 l] noH (.ptr 0 0) (qg [(0,vS l 1),(1,Q8 l.start)]) 0:=by
 have env:=qx (A:=fun _=>True) (kC e88 kN)
 refine kV (Fn0 func100 rfl (fun vs w=>by kernel_rfl) (by kernel_rfl)) (by simp) (by simp [AV.ids,AV.idsL,q9,qU]) ?_
 repeat' first|(apply nx;with_reducible constructor)|apply jq (by decide)|((first|apply jz env|apply jk);intro Q hQ;simp only [vkt,seval,VI,QdJ,ite_and];(repeat' first|with_reducible assumption|apply jw|intro hp);all_goals first|(apply hQ;clear hQ Q)|omega|assumption|rfl|(apply jx;kernel_rfl)|skip)
 (simp only [vrt,results100,vkt,seval,QdJ];refine Fin.ok (fun j=>if j=0 then some 2 else if j=1 then some 1 else none) [] ?_ ?_ ?_ ?_ ?_ rfl;all_goals (try simp only [vle,vkt,seval]))
 all_goals simp
def p97 (_:St):List AV->Option Pk
 |[.agg [.sl cs,.sl rs,.sl ss,.sl es]]=>some { pre:=cs=(cs.map q8).map qC/\rs=(rs.map kE).map zM/\ss=(ss.map qL).map qj/\es=(es.map kW).map zC/\ss.length<=100000,ar:=[.agg [.sl cs,.sl rs,.sl ss,.sl es]],v:=.ptr 0 0,L1:=[some (.cells [.sl cs,.sl rs,.sl ss,.sl es,.row 1]),some (.row 3 1 ss)] }
 |_=>none
def e97 {A:Frm->Prop}:qf A prog 100 (fnE p97):=jb fun S bs q h hp=>by
 unfold p97 at h;split at h <;> cases h
 rename_i cs rs ss es;have:=Qlt ⟨cs.map q8,rs.map kE,ss.map qL,es.map kW⟩ (by simpa using hp.2.2.2.2)
 simp only [q9,qU,vS,Q8,<- hp.1,<- hp.2.1,<- hp.2.2.1,<- hp.2.2.2.1] at this;exact this
def yB (has:List Int) (i d:Int):List Int:=has.set i.toNat (has.getD i.toNat 0+d)
def wQ (has:List Int) (x:Ent):List Int :=
 if x.kind=1 then yB has x.coin x.amount else if x.kind=2 then yB has x.coin (-x.amount) else if x.kind=3 then yB (yB has x.coin (-x.amount)) x.to x.got
 else if x.kind=4 then has.set x.coin.toNat x.amount else has
structure EnOk (has:List Int) (x:Ent):Prop where
 c0:0<=x.coin
 c1:x.coin.toNat < has.length
 t:x.kind=3->0<=x.to/\x.to.toNat < has.length
 a:0<=x.amount/\x.amount<=999
 g:x.kind=3->0<=x.got/\x.got<=999
 b:∀ v ∈ has,-1000000<=v/\v<=1000000
def bGet {has:List Int} {n:Nat} (h:∀ v ∈ has,-1000000<=v/\v<=1000000):-1000000<=has.getD n 0/\has.getD n 0<=1000000:=by
 by_cases hn:n < has.length
 ·exact h _ (jr hn)
 ·rw [ah,cv (by omega)];simp
def wV:=jw @ty3 (jw @jh (jw @vR (jw @Rj (jw @ti3.eq_1 (jw @jc.eq_1 (jw @yS.eq_1 @YR.eq_1))))))
def Qa:=jw @q9.eq_1 (jw @qU.eq_1 (jw @yE.eq_1 (jw @vS.eq_1 (jw @Q8.eq_1 (@KP)))))
def QfC (l:Led) (has:List Int) (x:Ent) (h:EnOk has x):Fn noB prog 104 [.ptr 0 0,yE x] (qg [(0,vS l 1),(1,Q8 has)]) (.tup []) (qg [(0,vS l 1),(1,Q8 (wQ has x))]) 0:=by
 have env:=qx (A:=fun _=>True) kN
 refine Fn.of (A:=fun _=>True) (n0:=2) (D:=noD) (Fn0 func104 rfl (fun vs w=>by kernel_rfl) (by kernel_rfl)) (by simp) (by simp [AV.ids,AV.idsL,yE]) ?_ (fun _ _ _ _=>trivial) zb ?_
 ·intro i o hi
  rcases ai.1 (qN hi) with h|h
  ·cases h;simp [vS,qU,AObj.ids,AV.ids,AV.idsL]
  ·simp at h;obtain ⟨rfl,rfl⟩:=h;simp [Q8,AObj.ids]
 have c0:=h.c0;have c1:=h.c1
 have g1:=gI0 h.c1;have b1:=bGet (n:=x.coin.toNat) h.b
 have ha:=h.a
 by_cases k1:x.kind=1
 ·have w1:IntKind.wrap .i64 (has.getD x.coin.toNat 0+x.amount)=has.getD x.coin.toNat 0+x.amount:=wrap64 (by omega) (by omega)
  repeat' first|(apply nx;with_reducible constructor)|apply jq (by decide)|((first|apply jz env|apply jk);intro Q hQ;simp only [vkt,seval,wV,Qa,k1,g1,w1,qj,ite_and];(repeat' first|with_reducible assumption|apply jw|intro hp);all_goals first|(apply hQ;clear hQ Q)|omega|assumption|rfl|(apply jx;kernel_rfl)|skip)
  (simp only [vrt,results104,vkt,seval,Qa];refine Fin.ok some [] ?_ ?_ ?_ ?_ ?_ rfl;all_goals (try simp only [vle,vkt,seval]))
  all_goals simp [wQ,k1,yB]
 by_cases k2:x.kind=2
 ·have w1:IntKind.wrap .i64 (has.getD x.coin.toNat 0 - x.amount)=has.getD x.coin.toNat 0+-x.amount:=by rw [wrap64 (by omega) (by omega)];omega
  repeat' first|(apply nx;with_reducible constructor)|apply jq (by decide)|((first|apply jz env|apply jk);intro Q hQ;simp only [vkt,seval,wV,Qa,k2,g1,w1,qj,ite_and];(repeat' first|with_reducible assumption|apply jw|intro hp);all_goals first|(apply hQ;clear hQ Q)|omega|assumption|rfl|(apply jx;kernel_rfl)|skip)
  (simp only [vrt,results104,vkt,seval,Qa];refine Fin.ok some [] ?_ ?_ ?_ ?_ ?_ rfl;all_goals (try simp only [vle,vkt,seval]))
  all_goals simp [wQ,k2,yB]
 by_cases k3:x.kind=3
 ·have w1:IntKind.wrap .i64 (has.getD x.coin.toNat 0 - x.amount)=has.getD x.coin.toNat 0+-x.amount:=by rw [wrap64 (by omega) (by omega)];omega
  obtain ⟨t0,t1⟩:=h.t k3;have hg:=h.g k3
  have hb2:∀ v ∈ yB has x.coin (-x.amount),-1001000<=v/\v<=1001000:=fun v hv=>by
   rcases bP hv with h1|h1
   ·have:=h.b v h1;omega
   ·omega
  have t2:x.to.toNat < (yB has x.coin (-x.amount)).length:=by simp [yB];exact t1
  have g2:=gI0 t2;have b2:=hb2 _ (jr (d:=0) t2)
  have w2:IntKind.wrap .i64 ((yB has x.coin (-x.amount)).getD x.to.toNat 0+x.got)=(yB has x.coin (-x.amount)).getD x.to.toNat 0+x.got:=wrap64 (by omega) (by omega)
  have e2:has.set x.coin.toNat (has.getD x.coin.toNat 0+-x.amount)=yB has x.coin (-x.amount):=rfl
  repeat' first|(apply nx;with_reducible constructor)|apply jq (by decide)|((first|apply jz env|apply jk);intro Q hQ;simp only [vkt,seval,wV,Qa,k3,g1,w1,e2,g2,w2,qj,ite_and];(repeat' first|with_reducible assumption|apply jw|intro hp);all_goals first|(apply hQ;clear hQ Q)|omega|assumption|rfl|(apply jx;kernel_rfl)|skip)
  (simp only [vrt,results104,vkt,seval,Qa];refine Fin.ok some [] ?_ ?_ ?_ ?_ ?_ rfl;all_goals (try simp only [vle,vkt,seval]))
  all_goals (simp only [wQ,k3];simp;conv=>rhs;rw [yB,dJ])
  all_goals simp
 by_cases k4:x.kind=4
 ·repeat' first|(apply nx;with_reducible constructor)|apply jq (by decide)|((first|apply jz env|apply jk);intro Q hQ;simp only [vkt,seval,wV,Qa,k4,g1,qj,ite_and];(repeat' first|with_reducible assumption|apply jw|intro hp);all_goals first|(apply hQ;clear hQ Q)|omega|assumption|rfl|(apply jx;kernel_rfl)|skip)
  (simp only [vrt,results104,vkt,seval,Qa];refine Fin.ok some [] ?_ ?_ ?_ ?_ ?_ rfl;all_goals (try simp only [vle,vkt,seval]))
  all_goals simp [wQ,k4]
 ·repeat' first|(apply nx;with_reducible constructor)|apply jq (by decide)|((first|apply jz env|apply jk);intro Q hQ;simp only [vkt,seval,wV,Qa,k1,k2,k3,k4,ite_and];(repeat' first|with_reducible assumption|apply jw|intro hp);all_goals first|(apply hQ;clear hQ Q)|omega|assumption|rfl|(apply jx;kernel_rfl)|skip)
  (simp only [vrt,results104,vkt,seval,Qa];refine Fin.ok some [] ?_ ?_ ?_ ?_ ?_ rfl;all_goals (try simp only [vle,vkt,seval]))
  all_goals simp [wQ,k1,k2,k3,k4]
def Uy (S:St):List AV->Option Pk
 |[.ptr t 0,.agg [.v (.int .i64 a),.v (.int .i64 b),.v (.int .i64 c),.v (.int .i64 d),.v (.int .i64 e),.v (.int .i64 f)]]=>match S.h t with
  |some (.cells [.sl cs,.sl rs,.sl ss,.sl es,.row r])=>match S.h r with
   |some (.row 3 1 hs)=>some { pre:=cs=(cs.map q8).map qC/\rs=(rs.map kE).map zM/\ss=(ss.map qL).map qj/\es=(es.map kW).map zC/\hs=(hs.map qL).map qj/\EnOk (hs.map qL) ⟨a,b,c,d,e,f⟩,hs:=[t,r],ar:=[.ptr 0 0,.agg [.v (.int .i64 a),.v (.int .i64 b),.v (.int .i64 c),.v (.int .i64 d),.v (.int .i64 e),.v (.int .i64 f)]],L0:=[.cells [.sl cs,.sl rs,.sl ss,.sl es,.row 1],.row 3 1 hs],v:=.tup [],L1:=[some (.cells [.sl cs,.sl rs,.sl ss,.sl es,.row 1]),some (.row 3 1 ((wQ (hs.map qL) ⟨a,b,c,d,e,f⟩).map qj))] }
   |_=>none
  |_=>none
 |_=>none
def e101 {A:Frm->Prop}:qf A prog 104 (fnE Uy):=jb fun S bs q h hp=>by
 unfold Uy at h;split at h
 ·split at h
  ·split at h
   ·rename_i t a b c d e f _ cs rs ss es r _ _ hs _
    cases h;have:=QfC ⟨cs.map q8,rs.map kE,ss.map qL,es.map kW⟩ (hs.map qL) ⟨a,b,c,d,e,f⟩ hp.2.2.2.2.2
    simp only [vS,Q8,qU,<- hp.1,<- hp.2.1,<- hp.2.2.1,<- hp.2.2.2.1,<- hp.2.2.2.2.1] at this;exact this
   ·cases h
  ·cases h
 ·cases h
structure EntryOk (l:Led) (x:Ent) (before:Int):Prop where
 day:0<=x.day/\x.day<=(l.rates.length:Int) - 1
 ord:before<=x.day
 kind:1<=x.kind/\x.kind<=4
 coin:0<=x.coin/\x.coin<=(l.coins.length:Int) - 1
 to:x.kind=3->0<=x.to/\x.to<=(l.coins.length:Int) - 1
 ne:x.kind=3->x.to ≠ x.coin
 got:x.kind=3->0<=x.got/\x.got<=999
 no:x.kind ≠ 3->x.to=0/\x.got=0
 am:0<=x.amount/\x.amount<=999
def zN {n a b:Int}:inB n a b=true ↔ a<=n/\n<=b:=by simp [inB]
def QH {l:Led} {x:Ent} {b:Int} (h:wm l x b=0):EntryOk l x b:=by
 unfold wm at h;split at h
 ·exact absurd h (by decide)
 rename_i a1;split at h
 ·exact absurd h (by decide)
 rename_i a2;split at h
 ·exact absurd h (by decide)
 rename_i a3;split at h
 ·exact absurd h (by decide)
 rename_i a4;split at h
 ·exact absurd h (by decide)
 rename_i a5;split at h
 ·exact absurd h (by decide)
 rename_i a6;split at h
 ·exact absurd h (by decide)
 rename_i a7;split at h
 ·exact absurd h (by decide)
 rename_i a8;split at h
 ·exact absurd h (by decide)
 rename_i a9;have nf:∀ {p:Bool},¬ (!p)=true->p=true:=fun h=>by simpa using h
 have nn:∀ {p:Prop} {q:Bool},¬ (p/\q=false)->p->q=true:=fun h hp=>by simpa [hp] using h
 refine ⟨zN.1 (nf a1),by omega,zN.1 (nf a3),zN.1 (nf a4),fun h3=>zN.1 (nn a5 h3),fun h3 h4=>a6 ⟨h3,h4⟩,fun h3=>zN.1 (nn a7 h3),fun h3=>?_,zN.1 (nf a9)⟩
 constructor
 ·exact Classical.byContradiction fun hn=>a8 ⟨h3,.inl hn⟩
 ·exact Classical.byContradiction fun hn=>a8 ⟨h3,.inr hn⟩
def stK (l:Led) (k:Nat):Int × List Int:=(l.entries.take k).foldl (fun s x=>(x.day,wQ s.2 x)) (0,l.start)
def Je {l:Led} {k:Nat} (h:k < l.entries.length):stK l (k+1)=((l.entries.getD k default).day,wQ (stK l k).2 (l.entries.getD k default)):=by
 unfold stK;rw [cS h,List.foldl_append,ah,ak h]
 rfl
def eV (l:Led) (x:Ent) (b:Int) (has:List Int):Int:=if wm l x b ≠ 0 then wm l x b else if (x.kind=2\/x.kind=3)/\has.getD x.coin.toNat 0 < x.amount then 9 else 0
def eK (l:Led) (k:Nat):Int:=eV l (l.entries.getD k default) (stK l k).1 (stK l k).2
def Qc8 (l:Led) (k:Nat):eK l k=eV l (l.entries.getD k default) (stK l k).1 (stK l k).2:=rfl
def jM (l:Led):Int:=if qy l.entries.length 0 6 ≠ 0 then qy l.entries.length 0 6 else zQ (errs l.entries.length (eK l))
def QbR (has:List Int) (x:Ent):(wQ has x).length=has.length:=by
 unfold wQ yB
 repeat' split
 all_goals simp
structure HasOk (l:Led) (k:Nat) (has:List Int):Prop where
 len:has.length=l.coins.length
 b:∀ v ∈ has,0<=v/\v<=999 * (k+1)
def Qaj {l:Led} (h1:l.start.length=l.coins.length) (h2:∀ v ∈ l.start,0<=v/\v<=999):HasOk l 0 (stK l 0).2:=⟨h1,fun v hv=>by have:=h2 v hv;simp;omega⟩
def Qbt {l:Led} {k:Nat} {has:List Int} {x:Ent} {b:Int} (h:HasOk l k has) (hx:EntryOk l x b) (hp:¬ ((x.kind=2\/x.kind=3)/\has.getD x.coin.toNat 0 < x.amount)):HasOk l (k+1) (wQ has x):=by
 refine ⟨(QbR _ _).trans h.len,fun v hv=>?_⟩
 have hc:x.coin.toNat < has.length:=by have:=hx.coin;have:=h.len;omega
 have hb:=h.b _ (jr (d:=0) hc);have ha:=hx.am
 have set1:∀ {d:Int} {v:Int},v ∈ has.set x.coin.toNat d->(0<=d/\d<=999 * (k+1)+999)->0<=v/\v<=999 * (k+1)+999:=fun hv hd=>by
  rcases bP hv with h1|h1
  ·have:=h.b _ h1;omega
  ·omega
 have hp2:x.kind=2\/x.kind=3->¬ has.getD x.coin.toNat 0 < x.amount:=fun h hlt=>hp ⟨h,hlt⟩
 unfold wQ at hv;have e:((k+1:Nat):Int)+1=(k:Int)+2:=by omega
 rw [e];split at hv
 ·have:=set1 hv (by omega);omega
 ·split at hv
  ·rename_i k2
   have:=set1 hv (by have:=hp2 (.inl k2);omega);omega
  ·split at hv
   ·rename_i k3
    have hp3:=hp2 (.inr k3);have hc0:=hx.coin
    have hg:=hx.got k3;have ht:=hx.to k3
    have hne:=hx.ne k3
    rcases bP hv with h1|h1
    ·have:=set1 h1 (by omega);omega
    ·have ht':x.to.toNat < (yB has x.coin (-x.amount)).length:=by simp [yB];have:=h.len;omega
     have hm:(yB has x.coin (-x.amount)).getD x.to.toNat 0=has.getD x.to.toNat 0:=by
      simp [yB,ah,cN]
      rw [if_neg (by omega)]
     have:=h.b _ (jr (l:=has) (k:=x.to.toNat) (d:=0) (by have:=h.len;omega))
     rw [hm] at h1;omega
   ·split at hv
    ·have:=set1 hv (by omega);omega
    ·have:=h.b v hv;omega
def JE {l:Led} (h1:l.start.length=l.coins.length) (h2:∀ v ∈ l.start,0<=v/\v<=999):∀ k,k<=l.entries.length->(∀ j,j < k->eK l j=0)->HasOk l k (stK l k).2
 |0,_,_=>Qaj h1 h2
 |k+1,hk,h=>by
  have ih:=JE h1 h2 k (by omega) fun j hj=>h j (by omega)
  have h0:=h k (by omega)
  rw [Je (by omega)]
  unfold eK eV at h0;split at h0
  ·rename_i hn;exact absurd h0 hn
  ·rename_i hn
   have hn:=Decidable.not_not.1 hn;split at h0
   ·exact absurd h0 (by decide)
   ·rename_i hp
    exact Qbt ih (QH hn) hp
def VP {l:Led} {k:Nat} {has:List Int} {x:Ent} {b:Int} (h:HasOk l k has) (hk:k<=100) (hx:EntryOk l x b):EnOk has x:=by
 refine ⟨hx.coin.1, ?_,fun h3=>⟨(hx.to h3).1, ?_⟩,hx.am,hx.got,fun v hv=>?_⟩
 ·have:=hx.coin;have:=h.len;omega
 ·have:=hx.to h3;have:=h.len;omega
 ·have:=h.b v hv;omega
def enS (l:Led) (k:Nat):St:={ t:=asg [(1,.ptr 0 0),(2,aI 0),(4,.ptr 1 0),(5,aI (stK l k).1),(19,.sl (l.entries.map zC)),(20,aI l.entries.length),(21,aI k)],h:=qg [(0,.cells (qU l)),(1,vS l 2),(2,Q8 (stK l k).2)],n:=3 }
structure EsOk (l:Led):Prop where
 c:l.coins.length<=1000
 r:l.rates.length<=1000
 e:l.entries.length<=1000
 s:l.start.length=l.coins.length
 v:∀ v ∈ l.start,0<=v/\v<=999
def wy:=jw @ty3 (jw @jh (jw @WP (jw @Yt (jw @vU (jw @vR (jw @Rj (jw @ti3.eq_1 (jw @jc.eq_1 (jw @Zn.eq_1 (jw @WO.eq_1 (jw @vD.eq_1 (jw @yS.eq_1 @YR.eq_1))))))))))))
def xV:=jw @aI.eq_1 (jw @q9.eq_1 (jw @qU.eq_1 (jw @yE.eq_1 (jw @vS.eq_1 (jw @Q8.eq_1 (jw @enS.eq_1 (jw @s78.eq_1 (jw @s78.eq_2 (jw @Qge.eq_1 (jw @Qge.eq_2 (jw @p97.eq_1 (jw @p97.eq_2 (jw @Uy.eq_1 (jw @Uy.eq_2 (jw @Qo (jw @kg (jw @XI (jw @Jj (jw @zC.eq_1 (@R8))))))))))))))))))))
def QcZ (l:Led) (hl:EsOk l):FnV prog 127 [q9 l] (aI (jM l)):=by
 have env:Env (fun _=>True) prog tyB (tab [(121,zq true s78),(100,fnE p97),(104,fnE Uy),(164,zq true Qge)]):=qx ⟨e78,e97,e101,e140,trivial⟩
 refine Fn.of (A:=fun _=>True) (n0:=0) (D:=noD) (Fn0 func127 rfl (fun vs w=>by kernel_rfl) (by kernel_rfl)) (by simp) (by simp [AV.ids,AV.idsL,q9,qU]) (fun i o h=>by cases h) (fun _ _ _ _=>trivial) zb ?_
 have q1:=hl.c;have q2:=hl.r
 have q3:=hl.e;have q4:l.start.length<=100000:=by have:=hl.s;omega
 by_cases h0:qy l.entries.length 0 6=0
 ·have q6:l.entries.length<=6:=by
   unfold qy at h0;split at h0
   ·omega
   ·split at h0
    ·exact absurd h0 (by decide)
    ·omega
  repeat' first|(apply nx;with_reducible constructor)|refine jq (by decide) ?_|((first|refine jz env fun Q hQ=>?_|refine jj fun Q hQ=>?_);simp only [vkt,seval,wy,xV,h0];(try simp only [ite_and]);(repeat' (first|with_reducible assumption|refine eg ?_ ?_|intro hp));all_goals (first|(refine hQ _ ?_;clear hQ Q)|(refine hQ _ (fun h=>?_) (fun h=>?_) <;> clear hQ Q <;> (try simp only [reduceCtorEq] at h))|omega|assumption|rfl|(refine jx ?_;kernel_rfl)|skip))
  refine qh (ι:=FI (errs l.entries.length (eK l))) (fun i=>enS l i.k) (fun i=>l.entries.length - i.k) (FI.zero _) ?_ fun i=>?_
  ·(refine Le.ok some [] ?_;constructor;all_goals (try simp only [vle,vkt,seval,xV]))
   all_goals simp [FI.zero,stK]
  ·have hk:=i.le
   rw [wL] at hk;have hall:∀ j,j < i.k->eK l j=0:=fun j hj=>by rw [<- QS (eK l) (show j < l.entries.length by omega)];exact i.all j hj
   have hok:=JE hl.s hl.v i.k hk hall
   repeat' first|(apply nx;with_reducible constructor)|refine jq (by decide) ?_
   (refine jz env fun Q hQ=>?_;simp only [vkt,seval,wy,xV];(try simp only [ite_and]);(repeat' (first|with_reducible assumption|refine eg ?_ ?_|intro hp));all_goals (first|(refine hQ _ ?_;clear hQ Q)|omega|assumption|rfl|(refine jx ?_;kernel_rfl)|skip))
   repeat' first|(apply nx;with_reducible constructor)|refine jq (by decide) ?_
   (refine zk (by simp only [vkt,seval];rfl) (fun h=>?_) (fun h=>?_) <;> (try simp only [vki] at h))
   ·have hlt:i.k < l.entries.length:=by omega
    have hS:=Je hlt;have hE:=Qc8 l i.k
    have out:∀ e,eK l i.k=e->e ≠ 0->jM l=e:=fun e he h1=>by
     unfold jM;rw [if_neg (by rw [h0];simp),i.hit hlt (by rw [he];exact h1),he]
    have hN:eK l i.k=0->∃ i':FI (errs l.entries.length (eK l)),l.entries.length - i'.k < l.entries.length - i.k/\i'.k=i.k+1:=fun h1=>⟨i.next hlt h1,by show l.entries.length - (i.k+1) < _;omega,rfl⟩
    have e9:=qV hlt (show l.entries.length<=maxLen by have:=KU;omega)
    generalize hx:l.entries.getD i.k default=x at *;generalize hst:stK l i.k=st at *
    obtain ⟨b,has⟩:=st;dsimp only at hE hok hS
    by_cases c1:wm l x b=0
    ·have ho:=QH c1
     have hen:=VP hok (by omega) ho
     have hlast:=hen.c1;have hc0:=hen.c0
     have e1:wm ⟨l.coins,l.rates,l.start,l.entries⟩ ⟨x.day,x.kind,x.coin,x.to,x.amount,x.got⟩ b=0:=c1;have g0:=gI0 hlast
     have hen':EnOk has ⟨x.day,x.kind,x.coin,x.to,x.amount,x.got⟩:=hen;have h9:((x.kind=2\/x.kind=3)/\has.getD x.coin.toNat 0 < x.amount)->jM l=9:=fun hh=>out 9 (by rw [hE];unfold eV;rw [if_neg (by rw [c1];simp),if_pos hh]) (by decide)
     have h10:¬ ((x.kind=2\/x.kind=3)/\has.getD x.coin.toNat 0 < x.amount)->∃ i':FI (errs l.entries.length (eK l)),l.entries.length - i'.k < l.entries.length - i.k/\i'.k=i.k+1:=fun hh=>hN (by rw [hE];unfold eV;rw [if_neg (by rw [c1];simp),if_neg hh])
     repeat' first|(apply nx;with_reducible constructor)|refine jq (by decide) ?_|((first|refine jz env fun Q hQ=>?_|refine jj fun Q hQ=>?_);simp only [vkt,seval,wy,xV,hx,e1,g0,qj];(try simp only [ite_and]);(repeat' (first|with_reducible assumption|refine eg ?_ ?_|intro hp));all_goals (first|(refine hQ _ ?_;clear hQ Q)|(refine hQ _ (fun h=>?_) (fun h=>?_) <;> clear hQ Q <;> (try simp only [vki,reduceCtorEq] at h))|omega|assumption|rfl|(refine jx ?_;kernel_rfl)|skip))
     all_goals first
      |((simp only [vrt,results127,vkt,seval,xV];refine Fin.val rfl ?_;(try simp only [AV.le]));all_goals rw [h9 (by omega)])
      |(obtain ⟨i',g1,g2⟩:=h10 (by omega);refine ⟨i',g1, ?_⟩;rw [g2];(refine Le.ok some [] ?_;constructor;all_goals (try simp only [vle,vkt,seval,xV]));all_goals simp [hS,e9])
    ·have e1:¬ wm ⟨l.coins,l.rates,l.start,l.entries⟩ ⟨x.day,x.kind,x.coin,x.to,x.amount,x.got⟩ b=0:=c1
     repeat' first|(apply nx;with_reducible constructor)|refine jq (by decide) ?_|((first|refine jz env fun Q hQ=>?_|refine jj fun Q hQ=>?_);simp only [vkt,seval,wy,xV,hx,e1];(try simp only [ite_and]);(repeat' (first|with_reducible assumption|refine eg ?_ ?_|intro hp));all_goals (first|(refine hQ _ ?_;clear hQ Q)|(refine hQ _ (fun h=>?_) (fun h=>?_) <;> clear hQ Q <;> (try simp only [reduceCtorEq] at h))|omega|assumption|rfl|(refine jx ?_;kernel_rfl)|skip))
     (simp only [vrt,results127,vkt,seval,xV];refine Fin.val rfl ?_;(try simp only [AV.le]))
     all_goals rw [out _ hE (by unfold eV;rw [if_pos c1];exact c1)]
     all_goals (unfold eV;rw [if_pos c1])
   ·repeat' first|(apply nx;with_reducible constructor)|refine jq (by decide) ?_|((first|refine jz env fun Q hQ=>?_|refine jj fun Q hQ=>?_);simp only [vkt,seval];(try simp only [ite_and]);(repeat' (first|with_reducible assumption|refine eg ?_ ?_|intro hp));all_goals (first|(refine hQ _ ?_;clear hQ Q)|(refine hQ _ (fun h=>?_) (fun h=>?_) <;> clear hQ Q <;> (try simp only [vki,reduceCtorEq] at h))|omega|assumption|rfl|(refine jx ?_;kernel_rfl)|skip))
    (simp only [vrt,results127,vkt,seval,xV];refine Fin.val rfl ?_;(try simp only [AV.le]))
    all_goals (unfold jM;rw [if_neg (by rw [h0];simp),i.last (by omega)])
 ·repeat' first|(apply nx;with_reducible constructor)|refine jq (by decide) ?_|((first|refine jz env fun Q hQ=>?_|refine jj fun Q hQ=>?_);simp only [vkt,seval,wy,xV,h0];(try simp only [ite_and]);(repeat' (first|with_reducible assumption|refine eg ?_ ?_|intro hp));all_goals (first|(refine hQ _ ?_;clear hQ Q)|(refine hQ _ (fun h=>?_) (fun h=>?_) <;> clear hQ Q <;> (try simp only [reduceCtorEq] at h))|omega|assumption|rfl|(refine jx ?_;kernel_rfl)|skip))
  (simp only [vrt,results127,vkt,seval,xV];refine Fin.val rfl ?_;(try simp only [AV.le]))
  all_goals simp [jM,h0]
def s112:List AV->Prop × AV
 |[.agg [.sl cs,.sl rs,.sl ss,.sl es]]=>(cs=(cs.map q8).map qC/\rs=(rs.map kE).map zM/\ss=(ss.map qL).map qj/\es=(es.map kW).map zC/\EsOk ⟨cs.map q8,rs.map kE,ss.map qL,es.map kW⟩,aI (jM ⟨cs.map q8,rs.map kE,ss.map qL,es.map kW⟩))
 |_=>(False,.junk)
def e112 {A:Frm->Prop}:qf A prog 127 (zq true s112):=qD fun vs hv h=>by
 clear hv;unfold s112 at h ⊢
 split at h
 ·rename_i cs rs ss es
  obtain ⟨h1,h2,h3,h4,h5⟩:=h;refine ⟨trivial,fun _=>trivial, ?_⟩
  have:=QcZ ⟨cs.map q8,rs.map kE,ss.map qL,es.map kW⟩ h5;simp only [q9,qU,<- h1,<- h2,<- h3,<- h4] at this
  exact this
 ·exact h.elim
structure Fit (l:Led):Prop where
 c:l.coins.length<=20
 cs:∀ p ∈ l.coins,p.length<=20
 r:l.rates.length<=20
 rs:∀ p ∈ l.rates,p.length<=20
 s:l.start.length<=20
 e:l.entries.length<=20
structure FitW (l:Led):Prop where
 c:l.coins.length<=1000
 cs:∀ p ∈ l.coins,p.length<=1000
 r:l.rates.length<=1000
 rs:∀ p ∈ l.rates,p.length<=1000
 s:l.start.length<=1000
 e:l.entries.length<=1000
def Fit.w {l:Led} (h:Fit l):FitW l:=⟨by have:=h.c;omega,fun p hp=>by have:=h.cs p hp;omega,by have:=h.r;omega,fun p hp=>by have:=h.rs p hp;omega,by have:=h.s;omega,by have:=h.e;omega⟩
def vW (l:Led) (k:Nat):Int:=if !inB (l.start.getD k 0) 0 999 then 1 else 0
def J9 (l:Led) (k:Nat):Int:=xc (l.coins.getD k [])
def Yn (l:Led) (k:Nat):Int:=jU (l.rates.getD k []) l.coins.length
def zf (l:Led):Int :=
 if qy l.coins.length 1 4 ≠ 0 then qy l.coins.length 1 4 else if zQ (errs l.coins.length (J9 l)) ≠ 0 then zQ (errs l.coins.length (J9 l))
 else if qy l.rates.length 1 4 ≠ 0 then qy l.rates.length 1 4 else if zQ (errs l.rates.length (Yn l)) ≠ 0 then zQ (errs l.rates.length (Yn l))
 else if l.start.length ≠ l.coins.length then 2 else if zQ (errs l.start.length (vW l)) ≠ 0 then zQ (errs l.start.length (vW l)) else jM l
def ck1 (l:Led) (k:Nat):St:={ t:=asg [(1,.ptr 0 0),(2,aI 0),(21,.sl (l.coins.map qC)),(22,aI l.coins.length),(23,aI k)],h:=qg [(0,.cells (qU l))],n:=1 }
def ck2 (l:Led) (k:Nat):St:={ t:=asg [(1,.ptr 0 0),(2,aI 0),(41,.sl (l.rates.map zM)),(42,aI l.rates.length),(43,aI k)],h:=qg [(0,.cells (qU l))],n:=1 }
def ck3 (l:Led) (k:Nat):St:={ t:=asg [(1,.ptr 0 0),(2,aI 0),(64,.sl (l.start.map qj)),(65,aI l.start.length),(66,aI k)],h:=qg [(0,.cells (qU l))],n:=1 }
def qP:=jw @ty3 (jw @jh (jw @WP (jw @QD (jw @WK (jw @vU (jw @vQ (jw @Qg (jw @ti3.eq_1 (jw @jc.eq_1 (jw @Zn.eq_1 (jw @kI.eq_1 (jw @Zp.eq_1 (jw @vD.eq_1 (jw @yP.eq_1 @xD.eq_1))))))))))))))
def zS:=jw @aI.eq_1 (jw @aB.eq_1 (jw @q9.eq_1 (jw @qU.eq_1 (jw @ck1.eq_1 (jw @ck2.eq_1 (jw @ck3.eq_1 (jw @Q5 (jw @qj.eq_1 (jw @s78.eq_1 (jw @s78.eq_2 (jw @s79.eq_1 (jw @s79.eq_2 (jw @s110.eq_1 (jw @s110.eq_2 (jw @s111.eq_1 (jw @s111.eq_2 (jw @s112.eq_1 (jw @s112.eq_2 (jw @Qo (jw @kg (jw @XI (jw @mSh (jw @Jj (jw @J7 (jw @QcA (jw @qC.eq_1 (@zM.eq_1)))))))))))))))))))))))))))
def RL (l:Led) (hl:FitW l):FnV prog 64 [q9 l] (aI (zf l)):=by
 have env:=qx (A:=fun _=>True) (kC e78 (kC e79 (kC e110 (kC e111 (kC e112 kN)))))
 refine kV (Fn0 func64 rfl (fun vs w=>by kernel_rfl) (by kernel_rfl)) (by simp) (by simp [AV.ids,AV.idsL,q9,qU]) ?_
 have q1:=hl.c;have q2:=hl.r
 have q3:=hl.e;have q4:=hl.s
 have q5:=KU
 by_cases h0:qy l.coins.length 1 4=0
 ·repeat' first|(apply nx;with_reducible constructor)|apply jq (by decide)|((first|apply jz env|apply jk);intro Q hQ;simp only [vkt,seval,qP,zS,h0,ite_and];(repeat' first|with_reducible assumption|apply jw|intro hp);all_goals first|(apply hQ;clear hQ Q)|omega|assumption|rfl|(apply jx;kernel_rfl)|skip)
  refine qh (ι:=FI (errs l.coins.length (J9 l))) (fun i=>ck1 l i.k) (fun i=>l.coins.length - i.k) (FI.zero _) ?_ fun i=>?_
  ·(refine Le.ok some [] ?_;constructor;all_goals (try simp only [vle,vkt,seval,zS]))
   all_goals simp [FI.zero]
  ·have hk:=i.le
   rw [wL] at hk
   repeat' first|(apply nx;with_reducible constructor)|apply jq (by decide)
   (apply jz env;intro Q hQ;simp only [vkt,seval,qP,zS,ite_and];(repeat' first|with_reducible assumption|apply jw|intro hp);all_goals first|(apply hQ;clear hQ Q)|omega|assumption|rfl|(apply jx;kernel_rfl)|skip)
   repeat' first|(apply nx;with_reducible constructor)|apply jq (by decide)
   (refine zk (by simp only [vkt,seval];rfl) (fun h=>?_) (fun h=>?_) <;> (try simp only [vki] at h))
   ·have hlt:i.k < l.coins.length:=by omega
    have hp:(l.coins.getD i.k []).length<=maxLen:=by have:=hl.cs _ (jr (d:=[]) hlt);omega
    have e9:=qV hlt (show l.coins.length<=maxLen by omega)
    by_cases c1:xc (l.coins.getD i.k [])=0
    ·repeat' first|(apply nx;with_reducible constructor)|apply jq (by decide)|((first|apply jz env|apply jk);intro Q hQ;simp only [vkt,seval,qP,zS,c1,ite_and];(repeat' first|with_reducible assumption|apply jw|intro hp);all_goals first|(apply hQ;clear hQ Q)|omega|assumption|rfl|(apply jx;kernel_rfl)|skip)
     refine ⟨i.next hlt c1,by show l.coins.length - (i.k+1) < _;omega, ?_⟩
     (refine Le.ok some [] ?_;constructor;all_goals (try simp only [vle,vkt,seval,zS]))
     all_goals simp [FI.next,e9]
    ·repeat' first|(apply nx;with_reducible constructor)|apply jq (by decide)|((first|apply jz env|apply jk);intro Q hQ;simp only [vkt,seval,qP,zS,c1,ite_and];(repeat' first|with_reducible assumption|apply jw|intro hp);all_goals first|(apply hQ;clear hQ Q)|omega|assumption|rfl|(apply jx;kernel_rfl)|skip)
     (simp only [vrt,results64,vkt,seval,zS];refine Fin.val rfl ?_;(try simp only [AV.le]))
     have:=i.hit hlt c1
     all_goals (unfold zf;rw [if_neg (by rw [h0];simp),if_pos (by rw [this];exact c1),this];rfl)
   ·have hf1:=i.last (by omega)
    by_cases h2:qy l.rates.length 1 4=0
    ·repeat' first|(apply nx;with_reducible constructor)|apply jq (by decide)|((first|apply jz env|apply jk);intro Q hQ;simp only [vkt,seval,qP,zS,h2,ite_and];(repeat' first|with_reducible assumption|apply jw|intro hp);all_goals first|(apply hQ;clear hQ Q)|omega|assumption|rfl|(apply jx;kernel_rfl)|skip)
     refine qh (ι:=FI (errs l.rates.length (Yn l))) (fun i=>ck2 l i.k) (fun i=>l.rates.length - i.k) (FI.zero _) ?_ fun i=>?_
     ·(refine Le.ok some [] ?_;constructor;all_goals (try simp only [vle,vkt,seval,zS]))
      all_goals simp [FI.zero]
     ·have hk:=i.le
      rw [wL] at hk;have hco:1<=l.coins.length:=by unfold qy at h0;split at h0 <;> simp at h0;omega
      repeat' first|(apply nx;with_reducible constructor)|apply jq (by decide)
      (apply jz env;intro Q hQ;simp only [vkt,seval,qP,zS,ite_and];(repeat' first|with_reducible assumption|apply jw|intro hp);all_goals first|(apply hQ;clear hQ Q)|omega|assumption|rfl|(apply jx;kernel_rfl)|skip)
      repeat' first|(apply nx;with_reducible constructor)|apply jq (by decide)
      (refine zk (by simp only [vkt,seval];rfl) (fun h=>?_) (fun h=>?_) <;> (try simp only [vki] at h))
      ·have hlt:i.k < l.rates.length:=by omega
       have hp:(l.rates.getD i.k []).length<=maxLen:=by have:=hl.rs _ (jr (d:=[]) hlt);omega
       have e9:=qV hlt (show l.rates.length<=maxLen by omega)
       by_cases c1:jU (l.rates.getD i.k []) l.coins.length=0
       ·repeat' first|(apply nx;with_reducible constructor)|apply jq (by decide)|((first|apply jz env|apply jk);intro Q hQ;simp only [vkt,seval,qP,zS,c1,ite_and];(repeat' first|with_reducible assumption|apply jw|intro hp);all_goals first|(apply hQ;clear hQ Q)|omega|assumption|rfl|(apply jx;kernel_rfl)|skip)
        refine ⟨i.next hlt c1,by show l.rates.length - (i.k+1) < _;omega, ?_⟩
        (refine Le.ok some [] ?_;constructor;all_goals (try simp only [vle,vkt,seval,zS]))
        all_goals simp [FI.next,e9]
       ·repeat' first|(apply nx;with_reducible constructor)|apply jq (by decide)|((first|apply jz env|apply jk);intro Q hQ;simp only [vkt,seval,qP,zS,c1,ite_and];(repeat' first|with_reducible assumption|apply jw|intro hp);all_goals first|(apply hQ;clear hQ Q)|omega|assumption|rfl|(apply jx;kernel_rfl)|skip)
        (simp only [vrt,results64,vkt,seval,zS];refine Fin.val rfl ?_;(try simp only [AV.le]))
        have:=i.hit hlt c1
        all_goals (unfold zf;rw [if_neg (by rw [h0];simp),if_neg (by rw [hf1];simp),if_neg (by rw [h2];simp),if_pos (by rw [this];exact c1),this];rfl)
      ·have hf2:=i.last (by omega)
       by_cases h3:l.start.length=l.coins.length
       ·have h3':(l.start.length:Int)=l.coins.length:=by omega
        repeat' first|(apply nx;with_reducible constructor)|apply jq (by decide)|((first|apply jz env|apply jk);intro Q hQ;simp only [vkt,seval,qP,h3',ite_and];(repeat' first|with_reducible assumption|apply jw|intro hp);all_goals first|(apply hQ;clear hQ Q)|omega|assumption|rfl|(apply jx;kernel_rfl)|skip)
        refine qh (ι:=FI (errs l.start.length (vW l))) (fun i=>ck3 l i.k) (fun i=>l.start.length - i.k) (FI.zero _) ?_ fun i=>?_
        ·(refine Le.ok some [] ?_;constructor;all_goals (try simp only [vle,vkt,seval,zS]))
         all_goals simp [FI.zero,h3]
        ·have hk:=i.le
         rw [wL] at hk
         repeat' first|(apply nx;with_reducible constructor)|apply jq (by decide)
         (apply jz env;intro Q hQ;simp only [vkt,seval,qP,zS,ite_and];(repeat' first|with_reducible assumption|apply jw|intro hp);all_goals first|(apply hQ;clear hQ Q)|omega|assumption|rfl|(apply jx;kernel_rfl)|skip)
         repeat' first|(apply nx;with_reducible constructor)|apply jq (by decide)
         (refine zk (by simp only [vkt,seval];rfl) (fun h=>?_) (fun h=>?_) <;> (try simp only [vki] at h))
         ·have hlt:i.k < l.start.length:=by omega
          have e9:=qV hlt (show l.start.length<=maxLen by omega)
          by_cases c1:inB (l.start.getD i.k 0) 0 999=true
          ·repeat' first|(apply nx;with_reducible constructor)|apply jq (by decide)|((first|apply jz env|apply jk);intro Q hQ;simp only [vkt,seval,qP,zS,c1,ite_and];(repeat' first|with_reducible assumption|apply jw|intro hp);all_goals first|(apply hQ;clear hQ Q)|omega|assumption|rfl|(apply jx;kernel_rfl)|skip)
           refine ⟨i.next hlt (by unfold vW;rw [c1];rfl),by show l.start.length - (i.k+1) < _;omega, ?_⟩
           (refine Le.ok some [] ?_;constructor;all_goals (try simp only [vle,vkt,seval,zS]))
           all_goals simp [FI.next,e9]
          ·have c1:inB (l.start.getD i.k 0) 0 999=false:=by simpa using c1
           repeat' first|(apply nx;with_reducible constructor)|apply jq (by decide)|((first|apply jz env|apply jk);intro Q hQ;simp only [vkt,seval,qP,zS,c1,ite_and];(repeat' first|with_reducible assumption|apply jw|intro hp);all_goals first|(apply hQ;clear hQ Q)|omega|assumption|rfl|(apply jx;kernel_rfl)|skip)
           (simp only [vrt,results64,vkt,seval,zS];refine Fin.val rfl ?_;(try simp only [AV.le]))
           have:=i.hit hlt (by unfold vW;rw [c1];simp)
           have h1:vW l i.k=1:=by unfold vW;rw [c1];rfl
           all_goals (unfold zf;rw [if_neg (by rw [h0];simp),if_neg (by rw [hf1];simp),if_neg (by rw [h2];simp),if_neg (by rw [hf2];simp),if_neg (by rw [h3];simp),if_pos (by rw [this,h1];simp),this,h1])
         ·have hf3:=i.last (by omega)
          have hes:EsOk ⟨l.coins,l.rates,l.start,l.entries⟩:=⟨q1,q2,q3,h3,fun v hv=>by
           have hv:v ∈ l.start:=hv;obtain ⟨j,hj,rfl⟩:=bC hv
           have:=i.all j (by omega)
           rw [QS _ hj] at this;unfold vW at this
           cases hb:inB (l.start.getD j 0) 0 999 with
           |true=>rw [zN] at hb;simpa [ah,hj] using hb
           |false=>rw [hb] at this;simp at this⟩
          repeat' first|(apply nx;with_reducible constructor)|apply jq (by decide)|((first|apply jz env|apply jk);intro Q hQ;simp only [vkt,seval,qP,zS,ite_and];(repeat' first|with_reducible assumption|apply jw|intro hp);all_goals first|(apply hQ;clear hQ Q)|omega|assumption|rfl|(apply jx;kernel_rfl)|skip)
          (simp only [vrt,results64,vkt,seval,zS];refine Fin.val rfl ?_;(try simp only [AV.le]))
          all_goals (unfold zf;rw [if_neg (by rw [h0];simp),if_neg (by rw [hf1];simp),if_neg (by rw [h2];simp),if_neg (by rw [hf2];simp),if_neg (by rw [h3];simp),if_neg (by rw [hf3];simp)])
       ·have h3':¬ (l.start.length:Int)=l.coins.length:=by omega
        repeat' first|(apply nx;with_reducible constructor)|apply jq (by decide)|((first|apply jz env|apply jk);intro Q hQ;simp only [vkt,seval,qP,h3',ite_and];(repeat' first|with_reducible assumption|apply jw|intro hp);all_goals first|(apply hQ;clear hQ Q)|omega|assumption|rfl|(apply jx;kernel_rfl)|skip)
        (simp only [vrt,results64,vkt,seval,zS];refine Fin.val rfl ?_;(try simp only [AV.le]))
        all_goals (unfold zf;rw [if_neg (by rw [h0];simp),if_neg (by rw [hf1];simp),if_neg (by rw [h2];simp),if_neg (by rw [hf2];simp),if_pos h3])
    ·repeat' first|(apply nx;with_reducible constructor)|apply jq (by decide)|((first|apply jz env|apply jk);intro Q hQ;simp only [vkt,seval,qP,zS,h2,ite_and];(repeat' first|with_reducible assumption|apply jw|intro hp);all_goals first|(apply hQ;clear hQ Q)|omega|assumption|rfl|(apply jx;kernel_rfl)|skip)
     (simp only [vrt,results64,vkt,seval,zS];refine Fin.val rfl ?_;(try simp only [AV.le]))
     all_goals (unfold zf;rw [if_neg (by rw [h0];simp),if_neg (by rw [hf1];simp),if_pos h2])
 ·repeat' first|(apply nx;with_reducible constructor)|apply jq (by decide)|((first|apply jz env|apply jk);intro Q hQ;simp only [vkt,seval,qP,zS,h0,ite_and];(repeat' first|with_reducible assumption|apply jw|intro hp);all_goals first|(apply hQ;clear hQ Q)|omega|assumption|rfl|(apply jx;kernel_rfl)|skip)
  (simp only [vrt,results64,vkt,seval,zS];refine Fin.val rfl ?_;(try simp only [AV.le]))
  all_goals simp [zf,h0]
def QaO (l:Led) (hl:Fit l):FnV prog 64 [q9 l] (aI (zf l)):=RL l hl.w
def s50:List AV->Prop × AV
 |[.agg [.sl cs,.sl rs,.sl ss,.sl es]]=>(cs=(cs.map q8).map qC/\rs=(rs.map kE).map zM/\ss=(ss.map qL).map qj/\es=(es.map kW).map zC/\Fit ⟨cs.map q8,rs.map kE,ss.map qL,es.map kW⟩,aI (zf ⟨cs.map q8,rs.map kE,ss.map qL,es.map kW⟩))
 |_=>(False,.junk)
def e50 {A:Frm->Prop}:qf A prog 64 (zq true s50):=qD fun vs hv h=>by
 clear hv;unfold s50 at h ⊢
 split at h
 ·rename_i cs rs ss es
  obtain ⟨h1,h2,h3,h4,h5⟩:=h;refine ⟨trivial,fun _=>trivial, ?_⟩
  have:=QaO ⟨cs.map q8,rs.map kE,ss.map qL,es.map kW⟩ h5;simp only [q9,qU,<- h1,<- h2,<- h3,<- h4] at this
  exact this
 ·exact h.elim
def s50w:List AV->Prop × AV
 |[.agg [.sl cs,.sl rs,.sl ss,.sl es]]=>(cs=(cs.map q8).map qC/\rs=(rs.map kE).map zM/\ss=(ss.map qL).map qj/\es=(es.map kW).map zC/\FitW ⟨cs.map q8,rs.map kE,ss.map qL,es.map kW⟩,aI (zf ⟨cs.map q8,rs.map kE,ss.map qL,es.map kW⟩))
 |_=>(False,.junk)
def e50w {A:Frm->Prop}:qf A prog 64 (zq true s50w):=qD fun vs hv h=>by
 clear hv;unfold s50w at h ⊢
 split at h
 ·rename_i cs rs ss es
  obtain ⟨h1,h2,h3,h4,h5⟩:=h;refine ⟨trivial,fun _=>trivial, ?_⟩
  have:=RL ⟨cs.map q8,rs.map kE,ss.map qL,es.map kW⟩ h5;simp only [q9,qU,<- h1,<- h2,<- h3,<- h4] at this
  exact this
 ·exact h.elim
def isL (cs rs ss es:List (List DV)):Prop:=cs=(cs.map q8).map qC/\rs=(rs.map kE).map zM/\ss=(ss.map qL).map qj/\es=(es.map kW).map zC
def zR (cs rs ss es:List (List DV)):Led:=⟨cs.map q8,rs.map kE,ss.map qL,es.map kW⟩
def xf (l:Led):isL (l.coins.map qC) (l.rates.map zM) (l.start.map qj) (l.entries.map zC)=True:=by simp only [isL,kg,XI,Qo,Jj,and_self]
def jT (l:Led):zR (l.coins.map qC) (l.rates.map zM) (l.start.map qj) (l.entries.map zC)=l:=by simp only [zR,kg,XI,Qo,Jj]
def jA {cs rs ss es:List (List DV)} (h:isL cs rs ss es):q9 (zR cs rs ss es)=.agg [.sl cs,.sl rs,.sl ss,.sl es]:=by
 simp only [q9,qU,zR,<- h.1,<- h.2.1,<- h.2.2.1,<- h.2.2.2]
def c50:List AV->Prop × AV
 |[.agg [.sl cs,.sl rs,.sl ss,.sl es]]=>(isL cs rs ss es/\Fit (zR cs rs ss es),aI (zf (zR cs rs ss es)))
 |_=>(False,.junk)
def d50 {A:Frm->Prop}:qf A prog 64 (zq true c50):=qD fun vs hv h=>by
 clear hv;unfold c50 at h ⊢
 split at h
 ·refine ⟨trivial,fun _=>trivial, ?_⟩
  rw [<- jA h.1];exact QaO _ h.2
 ·exact h.elim
def Qf:∀ {E:List Int},zQ E=0->∀ e ∈ E,e=0
 |e :: r,h,x,hx=>by
  unfold zQ at h;split at h
  ·rename_i he
   rcases ai.1 hx with rfl|hx
   ·exact he
   ·exact Qf h x hx
  ·exact absurd h ‹_›
def kF {n:Nat} {f:Nat->Int} (h:zQ (errs n f)=0) {k:Nat} (hk:k < n):f k=0 :=
 Qf h _ (aj.2 ⟨k,aE.2 hk,rfl⟩)
def Z8 {n a b:Int} (h:qy n a b=0):a<=n/\n<=b:=by
 unfold qy at h;split at h
 ·exact absurd h (by decide)
 ·split at h
  ·exact absurd h (by decide)
  ·omega
structure Val (l:Led):Prop where
 c:1<=l.coins.length/\l.coins.length<=4
 cs:∀ k,k < l.coins.length->xc (l.coins.getD k [])=0
 r:1<=l.rates.length/\l.rates.length<=4
 rs:∀ k,k < l.rates.length->jU (l.rates.getD k []) l.coins.length=0
 sl:l.start.length=l.coins.length
 s:∀ v ∈ l.start,0<=v/\v<=999
 e:l.entries.length<=6
 es:∀ k,k < l.entries.length->eK l k=0
def We {l:Led} (h:zf l=0):Val l:=by
 unfold zf at h;split at h
 ·exact absurd h ‹_›
 rename_i a1;split at h
 ·exact absurd h ‹_›
 rename_i a2;split at h
 ·exact absurd h ‹_›
 rename_i a3;split at h
 ·exact absurd h ‹_›
 rename_i a4;split at h
 ·exact absurd h (by decide)
 rename_i a5;split at h
 ·exact absurd h ‹_›
 rename_i a6;unfold jM at h
 split at h
 ·exact absurd h ‹_›
 rename_i a7;have a1:=Z8 (Decidable.not_not.1 a1)
 have a2:=Decidable.not_not.1 a2;have a3:=Z8 (Decidable.not_not.1 a3)
 have a4:=Decidable.not_not.1 a4;have a5:=Decidable.not_not.1 a5
 have a6:=Decidable.not_not.1 a6;have a7:=Z8 (Decidable.not_not.1 a7)
 refine ⟨by omega,fun k hk=>kF a2 hk,by omega,fun k hk=>kF a4 hk,a5,fun v hv=>?_,by omega,fun k hk=>kF h hk⟩
 obtain ⟨j,hj,rfl⟩:=bC hv;have:=kF a6 hj
 unfold vW at this;cases hb:inB (l.start.getD j 0) 0 999 with
 |true=>rw [zN] at hb;simpa [ah,hj] using hb
 |false=>rw [hb] at this;simp at this
def rsh (l:Led) (d c:Int):Sh:=(l.rates.getD d.toNat []).getD c.toNat default
def rq (l:Led) (d c:Int):Rat:=qI (rsh l d c).num (rsh l d c).den
structure Rt (l:Led) (d c:Int):Prop where
 d0:0<=d
 d1:d.toNat < l.rates.length
 c0:0<=c
 c1:c.toNat < (l.rates.getD d.toNat []).length
 q:rsh l d c=shQ (rq l d c)
 n0:1<=(rq l d c).num
 n1:(rq l d c).num<=20
 e1:(rq l d c).den<=12
def kR {l:Led} (h:Val l) {d c:Int} (hd:0<=d) (hd':d<=(l.rates.length:Int) - 1) (hc:0<=c) (hc':c<=(l.coins.length:Int) - 1):Rt l d c:=by
 have h1:=h.rs d.toNat (by omega)
 unfold jU at h1;split at h1
 ·exact absurd h1 (by decide)
 rename_i a1;split at h1
 ·exact absurd h1 (by decide)
 rename_i a2;have a1:=Decidable.not_not.1 a1
 have a2:=Decidable.not_not.1 a2;have key:rsh l d c=shQ (rq l d c)/\1<=(rsh l d c).num/\(rsh l d c).num<=20/\(rsh l d c).den<=12:=by
  by_cases hc0:c.toNat=0
  ·have:rsh l d c=⟨1,1⟩:=by unfold rsh;rw [hc0];exact a2
   unfold rq;rw [this]
   exact ⟨by decide,by decide,by decide,by decide⟩
  ·have h2:=kF h1 (k:=c.toNat - 1) (by omega)
   unfold Zi at h2;rw [show 1+(c.toNat - 1)=c.toNat by omega] at h2
   change shE (rsh l d c)=0 at h2;generalize hs:rsh l d c=s at *
   unfold shE at h2;split at h2
   ·exact absurd h2 (by decide)
   rename_i b1;split at h2
   ·exact absurd h2 (by decide)
   rename_i b2;split at h2
   ·exact absurd h2 (by decide)
   rename_i b3;have b1:1<=s.num/\s.num<=20:=by simpa [inB] using b1
   have b2:1<=s.den/\s.den<=12:=by simpa [inB] using b2
   refine ⟨?_,b1.1,b1.2,b2.2⟩
   unfold rq;rw [hs];exact Decidable.not_not.1 b3
 have k1:=congrArg Sh.num key.1;have k2:=congrArg Sh.den key.1
 refine ⟨hd,by omega,hc,by omega,key.1, ?_, ?_, ?_⟩
 ·have:(rsh l d c).num=(rq l d c).num:=k1;omega
 ·have:(rsh l d c).num=(rq l d c).num:=k1;omega
 ·have:(rsh l d c).den=((rq l d c).den:Int):=k2;omega
def QQ {l:Led} {d c:Int} (h:Rt l d c):Bd 20 (rq l d c):=by
 have h1:=h.n0;have h2:=h.n1
 have h3:=h.e1;have h4:=jP (rq l d c)
 refine ⟨?_,by omega,by omega⟩
 generalize (rq l d c).den=n at *;have:n=1\/n=2\/n=3\/n=4\/n=5\/n=6\/n=7\/n=8\/n=9\/n=10\/n=11\/n=12:=by omega
 rcases this with rfl|rfl|rfl|rfl|rfl|rfl|rfl|rfl|rfl|rfl|rfl|rfl <;> decide
def QlA {q:Rat} {n:Int} (hq:Bd 20 q) (h0:-300000<=n) (h1:n<=300000):Tm q n:=⟨hq.sm (by decide),by omega,by omega⟩
def QdT {q:Rat} {n:Int} (hq:Bd 20 q) (h0:-100000<=n) (h1:n<=100000):Tm q n:=⟨hq.sm (by decide),by omega,by omega⟩
def ZE:=jw @WK (jw @vU (jw @vQ (jw @Qg (jw @Qy (jw @Zp.eq_1 (jw @vD.eq_1 (jw @yP.eq_1 (jw @xD.eq_1 @xU.eq_1))))))))
def QaX:=jw @aI.eq_1 (jw @aB.eq_1 (jw @q9.eq_1 (jw @qU.eq_1 (jw @aSh.eq_1 (jw @QcA (jw @gSh (jw @zM.eq_1 (@eSh.eq_1))))))))
def QiL (l:Led) (d c:Int) (h:Rt l d c):FnV prog 101 [q9 l,aI d,aI c] (aSh (shQ (rq l d c))):=by
 have env:=qx (A:=fun _=>True) kN
 refine kV (Fn0 func101 rfl (fun vs w=>by kernel_rfl) (by kernel_rfl)) (by simp) (by simp [AV.ids,AV.idsL,q9,qU,aI]) ?_
 have q1:=h.d0;have q2:=h.d1
 have q3:=h.c0;have q4:=h.c1
 repeat' first|(apply nx;with_reducible constructor)|apply jq (by decide)|((first|apply jz env|apply jk);intro Q hQ;simp only [vkt,seval,ZE,QaX,ite_and];(repeat' first|with_reducible assumption|apply jw|intro hp);all_goals first|(apply hQ;clear hQ Q)|omega|assumption|rfl|(apply jx;kernel_rfl)|skip)
 (simp only [vrt,results101,vkt,seval,ZE,QaX];refine Fin.val rfl ?_;(try simp only [AV.le,AV.leL]))
 all_goals (rw [<- h.q];exact ⟨rfl,rfl,trivial⟩)
def c98:List AV->Prop × AV
 |[.agg [.sl cs,.sl rs,.sl ss,.sl es],.v (.int .i64 d),.v (.int .i64 c)]=>(isL cs rs ss es/\Rt (zR cs rs ss es) d c,aSh (shQ (rq (zR cs rs ss es) d c)))
 |_=>(False,.junk)
def d98 {A:Frm->Prop}:qf A prog 101 (zq true c98):=qD fun vs hv h=>by
 clear hv;unfold c98 at h ⊢
 split at h
 ·refine ⟨by simp [AV.plain,AV.plainL,aSh],fun _=>by simp [AV.flat,AV.flatL,aSh], ?_⟩
  rw [<- jA h.1];exact QiL _ _ _ h.2
 ·exact h.elim
def Qav (p:List Int) (k:Nat):Int:=if !inB (p.getD k 0) 0 4 then 1 else 0
def XV (n:Nat) (p:List Int):Int:=if p.length ≠ n then 2 else zQ (errs p.length (Qav p))
def xR (l:Led) (c:Int) (ps:List (List Int)) (k:Nat):Int:=XV (l.coins.getD c.toNat []).length (ps.getD k [])
def kz (l:Led) (c n:Int) (ps:List (List Int)):Int:=if zf l ≠ 0 then zf l else if !inB c 0 ((l.coins.length:Int) - 1) then 3 else if zQ (errs ps.length (xR l c ps)) ≠ 0 then zQ (errs ps.length (xR l c ps)) else if !inB n 0 999 then 1 else 0
def moS1 (l:Led) (c n:Int) (ps:List (List Int)) (k:Nat):St:={ t:=asg [(1,aI c),(2,aI n),(4,.ptr 0 0),(8,aI 0),(26,zm ps),(27,aI ps.length),(28,aI k)],h:=qg [(0,.cells (qU l))],n:=1 }
def moS2 (l:Led) (c n:Int) (ps:List (List Int)) (k:Nat) (p:List Int) (i:Nat):St:={ t:=asg [(1,aI c),(2,aI n),(4,.ptr 0 0),(8,aI 0),(26,zm ps),(27,aI ps.length),(28,aI k),(41,qi p),(42,aI p.length),(43,aI i)],h:=qg [(0,.cells (qU l))],n:=1 }
def qW:=jw @ty3 (jw @jh (jw @WP (jw @QD (jw @vU (jw @ti3.eq_1 (jw @jc.eq_1 (jw @Zn.eq_1 (jw @kI.eq_1 @vD.eq_1))))))))
def zY:=jw @aI.eq_1 (jw @aB.eq_1 (jw @q9.eq_1 (jw @qU.eq_1 (jw @qi.eq_1 (jw @zm.eq_1 (jw @moS1.eq_1 (jw @moS2.eq_1 (jw @c50.eq_1 (jw @c50.eq_2 (jw @s79.eq_1 (jw @s79.eq_2 (jw @xf (jw @jT (jw @qj.eq_1 (jw @Q5 (jw @qC.eq_1 (@J7)))))))))))))))))
def Qf8 (l:Led) (c n:Int) (ps:List (List Int)) (hl:Fit l) (hm:ps.length<=maxLen) (hp:∀ p ∈ ps,p.length<=maxLen):FnV prog 112 [q9 l,aI c,aI n,zm ps] (aI (kz l c n ps)):=by
 have env:=qx (A:=fun _=>True) (kC d50 (kC e79 kN))
 refine kV (Fn0 func112 rfl (fun vs w=>by kernel_rfl) (by kernel_rfl)) (by simp) (by simp [AV.ids,AV.idsL,aI,q9,qU,zm]) ?_
 have q5:=XO;have q6:=hl.c
 have w1:IntKind.wrap .i64 ((l.coins.length:Int) - 1)=(l.coins.length:Int) - 1:=wrap64 (by omega) (by omega)
 by_cases h0:zf l=0
 ·have hV:=We h0
  have v1:=hV.c
  by_cases h1:inB c 0 ((l.coins.length:Int) - 1)=true
  ·have b1:=zN.1 h1
   have g1:0<=c:=b1.1;have g2:c.toNat < l.coins.length:=by omega
   have hlp:=hl.cs _ (jr (d:=[]) g2)
   repeat' first|(apply nx;with_reducible constructor)|apply jq (by decide)|((first|apply jz env|apply jk);intro Q hQ;simp only [vkt,seval,qW,zY,h0,w1,h1,ite_and];(repeat' first|with_reducible assumption|apply jw|intro hp);all_goals first|(apply hQ;clear hQ Q)|omega|assumption|rfl|(apply jx;kernel_rfl)|skip)
   refine qh (ι:=FI (errs ps.length (xR l c ps))) (fun i=>moS1 l c n ps i.k) (fun i=>ps.length - i.k) (FI.zero _) ?_ fun i=>?_
   ·(refine Le.ok some [] ?_;constructor;all_goals (try simp only [vle,vkt,seval,zY]))
    all_goals simp [FI.zero]
   ·have hk:=i.le
    rw [wL] at hk
    repeat' first|(apply nx;with_reducible constructor)|apply jq (by decide)
    (apply jz env;intro Q hQ;simp only [vkt,seval,qW,zY,ite_and];(repeat' first|with_reducible assumption|apply jw|intro hp);all_goals first|(apply hQ;clear hQ Q)|omega|assumption|rfl|(apply jx;kernel_rfl)|skip)
    repeat' first|(apply nx;with_reducible constructor)|apply jq (by decide)
    (refine zk (by simp only [vkt,seval];rfl) (fun h=>?_) (fun h=>?_) <;> (try simp only [vki] at h))
    ·have hlt:i.k < ps.length:=by omega
     have hpm:=hp _ (jr (d:=[]) hlt);have e9:=qV hlt hm
     generalize hpp:ps.getD i.k []=p at *
     by_cases h2:p.length=(l.coins.getD c.toNat []).length
     ·have h2':(p.length:Int)=(l.coins.getD c.toNat []).length:=by omega
      repeat' first|(apply nx;with_reducible constructor)|apply jq (by decide)|((first|apply jz env|apply jk);intro Q hQ;simp only [vkt,seval,qW,zY,hpp,h2',ite_and];(repeat' first|with_reducible assumption|apply jw|intro hp);all_goals first|(apply hQ;clear hQ Q)|omega|assumption|rfl|(apply jx;kernel_rfl)|skip)
      refine qh (ι:=FI (errs p.length (Qav p))) (fun j=>moS2 l c n ps i.k p j.k) (fun j=>p.length - j.k) (FI.zero _) ?_ fun j=>?_
      ·(refine Le.ok some [] ?_;constructor;all_goals (try simp only [vle,vkt,seval,zY]))
       all_goals first|(simp [FI.zero];done)|(simp [FI.zero,h2];done)
      ·have hj:=j.le
       rw [wL] at hj
       repeat' first|(apply nx;with_reducible constructor)|apply jq (by decide)
       (apply jz env;intro Q hQ;simp only [vkt,seval,qW,zY,ite_and];(repeat' first|with_reducible assumption|apply jw|intro hp);all_goals first|(apply hQ;clear hQ Q)|omega|assumption|rfl|(apply jx;kernel_rfl)|skip)
       repeat' first|(apply nx;with_reducible constructor)|apply jq (by decide)
       (refine zk (by simp only [vkt,seval];rfl) (fun h=>?_) (fun h=>?_) <;> (try simp only [vki] at h))
       ·have hjl:j.k < p.length:=by omega
        have e8:=qV hjl hpm
        by_cases c1:inB (p.getD j.k 0) 0 4=true
        ·repeat' first|(apply nx;with_reducible constructor)|apply jq (by decide)|((first|apply jz env|apply jk);intro Q hQ;simp only [vkt,seval,qW,zY,c1,ite_and];(repeat' first|with_reducible assumption|apply jw|intro hp);all_goals first|(apply hQ;clear hQ Q)|omega|assumption|rfl|(apply jx;kernel_rfl)|skip)
         refine ⟨j.next hjl (by unfold Qav;rw [c1];rfl),by show p.length - (j.k+1) < _;omega, ?_⟩
         (refine Le.ok some [] ?_;constructor;all_goals (try simp only [vle,vkt,seval,zY]))
         all_goals simp [FI.next,e8]
        ·have c1:inB (p.getD j.k 0) 0 4=false:=by simpa using c1
         have hj1:=j.hit hjl (by unfold Qav;rw [c1];simp)
         have hj2:Qav p j.k=1:=by unfold Qav;rw [c1];rfl
         have hi1:xR l c ps i.k=1:=by unfold xR XV;rw [hpp,if_neg (by simpa using h2),hj1,hj2]
         have hi2:=i.hit hlt (by rw [hi1];decide)
         repeat' first|(apply nx;with_reducible constructor)|apply jq (by decide)|((first|apply jz env|apply jk);intro Q hQ;simp only [vkt,seval,qW,zY,c1,ite_and];(repeat' first|with_reducible assumption|apply jw|intro hp);all_goals first|(apply hQ;clear hQ Q)|omega|assumption|rfl|(apply jx;kernel_rfl)|skip)
         (simp only [vrt,results112,vkt,seval,zY];refine Fin.val rfl ?_;(try simp only [AV.le]))
         all_goals (unfold kz;rw [if_neg (by rw [h0];simp),if_neg (by rw [h1];simp),if_pos (by rw [hi2,hi1];decide),hi2,hi1])
       ·have hj1:=j.last (by omega)
        have hi1:xR l c ps i.k=0:=by unfold xR XV;rw [hpp,if_neg (by simpa using h2),hj1]
        repeat' first|(apply nx;with_reducible constructor)|apply jq (by decide)|((first|apply jz env|apply jk);intro Q hQ;simp only [vkt,seval,qW,e9,ite_and];(repeat' first|with_reducible assumption|apply jw|intro hp);all_goals first|(apply hQ;clear hQ Q)|omega|assumption|rfl|(apply jx;kernel_rfl)|skip)
        refine ⟨i.next hlt hi1,by show ps.length - (i.k+1) < _;omega, ?_⟩
        (refine Le.ok some [] ?_;constructor;all_goals (try simp only [vle,vkt,seval,zY]))
        all_goals simp [FI.next]
     ·have h2':¬ (p.length:Int)=(l.coins.getD c.toNat []).length:=by omega
      have hi1:xR l c ps i.k=2:=by unfold xR XV;rw [hpp,if_pos h2]
      have hi2:=i.hit hlt (by rw [hi1];decide)
      repeat' first|(apply nx;with_reducible constructor)|apply jq (by decide)|((first|apply jz env|apply jk);intro Q hQ;simp only [vkt,seval,qW,zY,hpp,h2',ite_and];(repeat' first|with_reducible assumption|apply jw|intro hp);all_goals first|(apply hQ;clear hQ Q)|omega|assumption|rfl|(apply jx;kernel_rfl)|skip)
      (simp only [vrt,results112,vkt,seval,zY];refine Fin.val rfl ?_;(try simp only [AV.le]))
      all_goals (unfold kz;rw [if_neg (by rw [h0];simp),if_neg (by rw [h1];simp),if_pos (by rw [hi2,hi1];decide),hi2,hi1])
    ·have hf:=i.last (by omega)
     by_cases h3:inB n 0 999=true
     ·repeat' first|(apply nx;with_reducible constructor)|apply jq (by decide)|((first|apply jz env|apply jk);intro Q hQ;simp only [vkt,seval,zY,h3,ite_and];(repeat' first|with_reducible assumption|apply jw|intro hp);all_goals first|(apply hQ;clear hQ Q)|omega|assumption|rfl|(apply jx;kernel_rfl)|skip)
      (simp only [vrt,results112,vkt,seval,zY];refine Fin.val rfl ?_;(try simp only [AV.le]))
      all_goals (unfold kz;rw [if_neg (by rw [h0];simp),if_neg (by rw [h1];simp),if_neg (by rw [hf];simp),if_neg (by rw [h3];simp)])
     ·have h3:inB n 0 999=false:=by simpa using h3
      repeat' first|(apply nx;with_reducible constructor)|apply jq (by decide)|((first|apply jz env|apply jk);intro Q hQ;simp only [vkt,seval,zY,h3,ite_and];(repeat' first|with_reducible assumption|apply jw|intro hp);all_goals first|(apply hQ;clear hQ Q)|omega|assumption|rfl|(apply jx;kernel_rfl)|skip)
      (simp only [vrt,results112,vkt,seval,zY];refine Fin.val rfl ?_;(try simp only [AV.le]))
      all_goals (unfold kz;rw [if_neg (by rw [h0];simp),if_neg (by rw [h1];simp),if_neg (by rw [hf];simp),if_pos (by rw [h3];rfl)])
  ·have h1:inB c 0 ((l.coins.length:Int) - 1)=false:=by simpa using h1
   repeat' first|(apply nx;with_reducible constructor)|apply jq (by decide)|((first|apply jz env|apply jk);intro Q hQ;simp only [vkt,seval,qW,zY,h0,w1,h1,ite_and];(repeat' first|with_reducible assumption|apply jw|intro hp);all_goals first|(apply hQ;clear hQ Q)|omega|assumption|rfl|(apply jx;kernel_rfl)|skip)
   (simp only [vrt,results112,vkt,seval,zY];refine Fin.val rfl ?_;(try simp only [AV.le]))
   all_goals (unfold kz;rw [if_neg (by rw [h0];simp),if_pos (by rw [h1];rfl)])
 ·repeat' first|(apply nx;with_reducible constructor)|apply jq (by decide)|((first|apply jz env|apply jk);intro Q hQ;simp only [vkt,seval,qW,zY,h0,ite_and];(repeat' first|with_reducible assumption|apply jw|intro hp);all_goals first|(apply hQ;clear hQ Q)|omega|assumption|rfl|(apply jx;kernel_rfl)|skip)
  (simp only [vrt,results112,vkt,seval,zY];refine Fin.val rfl ?_;(try simp only [AV.le]))
  all_goals (unfold kz;rw [if_pos h0])
def c86:List AV->Prop × AV
 |[.agg [.sl cs,.sl rs,.sl ss,.sl es],.v (.int .i64 c),.v (.int .i64 n),.sl ps]=>(isL cs rs ss es/\Fit (zR cs rs ss es)/\ps=(ps.map q8).map qC/\ps.length<=maxLen/\(∀ p ∈ ps.map q8,p.length<=maxLen),aI (kz (zR cs rs ss es) c n (ps.map q8)))
 |_=>(False,.junk)
def d86 {A:Frm->Prop}:qf A prog 112 (zq true c86):=qD fun vs hv h=>by
 clear hv;unfold c86 at h ⊢
 split at h
 ·rename_i c n ps
  refine ⟨trivial,fun _=>trivial, ?_⟩
  have:=Qf8 _ c n _ h.2.1 (show (List.map q8 _).length<=maxLen by rw [ab];exact h.2.2.2.1) h.2.2.2.2
  rw [<- jA h.1];simp only [zm,<- h.2.2.1] at this
  exact this
 ·exact h.elim
def Qft {l:Led} {c n:Int} {ps:List (List Int)} (h:kz l c n ps=0):Val l/\(0<=c/\c.toNat < l.coins.length)/\(∀ p ∈ ps,p.length=(l.coins.getD c.toNat []).length/\∀ v ∈ p,0<=v/\v<=4)/\0<=n/\n<=999:=by
 unfold kz at h;split at h
 ·exact absurd h ‹_›
 ·rename_i h0
  split at h
  ·exact absurd h (by decide)
  ·rename_i h1
   split at h
   ·exact absurd h ‹_›
   ·rename_i h2
    split at h
    ·exact absurd h (by decide)
    ·rename_i h3
     have b1:=zN.1 (by simpa using h1)
     have b3:=zN.1 (by simpa using h3)
     refine ⟨We (by simpa using h0),by omega,fun p hp=>?_,by omega⟩
     obtain ⟨k,hk,rfl⟩:=bC hp;have e1:=Qf (Decidable.not_not.1 h2) (xR l c ps k) (aj.2 ⟨k,aE.2 hk,rfl⟩)
     unfold xR XV at e1;rw [show ps.getD k []=ps[k] by simp [ah,hk]] at e1
     split at e1
     ·exact absurd e1 (by decide)
     ·rename_i h4
      refine ⟨by simpa using h4,fun v hv=>?_⟩
      obtain ⟨j,hj,rfl⟩:=bC hv;have e2:=Qf e1 (Qav ps[k] j) (aj.2 ⟨j,aE.2 hj,rfl⟩)
      unfold Qav at e2;rw [show ps[k].getD j 0=ps[k][j] by simp [ah,hj]] at e2
      split at e2
      ·exact absurd e2 (by decide)
      ·rename_i h5
       exact zN.1 (by simpa using h5)
def Ur (x y:Int):Int:=if 0<=x/\(y < 0\/x+1 < y) then x+1 else y
def goN (p:Nat) (f:Nat->Int):Nat->Nat->Int
 |0,a=>f a
 |k+1,a=>if p<=a then Ur (goN p f k (a - p)) (f a) else f a
def Xy {p:Nat} {f:Nat->Int} (hp:1<=p):∀ (k j a:Nat),a<=k->a<=j->goN p f k a=goN p f j a
 |0,j,a,hk,hj=>by
  obtain rfl:a=0:=by omega
  cases j with
  |zero=>rfl
  |succ j=>rw [goN,goN,if_neg (by omega)]
 |k+1,0,a,hk,hj=>by
  obtain rfl:a=0:=by omega
  rw [goN,goN,if_neg (by omega)]
 |k+1,j+1,a,hk,hj=>by
  rw [goN,goN]
  by_cases h:p<=a
  ·rw [if_pos h,if_pos h,Xy hp k j (a - p) (by omega) (by omega)]
  ·rw [if_neg h,if_neg h]
def gN (p:Nat) (f:Nat->Int) (a:Nat):Int:=goN p f a a
def Xb {p:Nat} {f:Nat->Int} {a:Nat} (h:a < p):gN p f a=f a:=by
 unfold gN;cases a with
 |zero=>rfl
 |succ a=>rw [goN,if_neg (by omega)]
def VC {p:Nat} {f:Nat->Int} (hp:1<=p) {a:Nat} (h:p<=a):gN p f a=Ur (gN p f (a - p)) (f a):=by
 unfold gN;obtain ⟨b,rfl⟩:∃ b,a=b+1:=⟨a - 1,by omega⟩
 rw [goN,if_pos h,Xy hp b (b+1 - p) (b+1 - p) (by omega) (by omega)]
def je:List Int->Nat->Int
 |[],a=>if a=0 then 0 else -1
 |p :: ps,a=>gN p.toNat (je ps) a
def Qii {x y:Int} (hx:-1<=x) (hy:-1<=y):-1<=Ur x y:=by unfold Ur;split <;> omega
def QgM {p:Nat} {f:Nat->Int} (hp:1<=p) (h:∀ a,-1<=f a) (a:Nat):-1<=gN p f a:=by
 induction a using Nat.strongRecOn with
 |_ a ih =>
  by_cases hc:p<=a
  ·rw [VC hp hc];exact Qii (ih _ (by omega)) (h a)
  ·rw [Xb (by omega)];exact h a
def QkH {p:Nat} {f:Nat->Int} (hp:1<=p) (h:∀ a:Nat,f a<=a) (a:Nat):gN p f a<=a:=by
 induction a using Nat.strongRecOn with
 |_ a ih =>
  by_cases hc:p<=a
  ·rw [VC hp hc]
   have h1:=ih (a - p) (by omega)
   have h2:=h a;unfold Ur
   split <;> omega
  ·rw [Xb (by omega)];exact h a
def Xf:∀ {ps:List Int},(∀ p ∈ ps,1<=p)->∀ a:Nat,-1<=je ps a/\je ps a<=a
 |[],_,a=>by unfold je;split <;> omega
 |p :: ps,h,a=>by
  have h1:=h p bb;have h2:=fun a=>Xf (ps:=ps) (fun q hq=>h q (aX _ hq)) a
  exact ⟨QgM (by omega) (fun a=>(h2 a).1) a,QkH (by omega) (fun a=>(h2 a).2) a⟩
def Z5 (p:Nat) (f:Nat->Int) (a:Nat) (m:Nat):Bool:=decide (m * p<=a) && decide (0<=f (a - m * p)) && decide (f (a - m * p)+m=gN p f a)
def QeC {p:Nat} {f:Nat->Int} (hp:1<=p) (a:Nat) (h:0<=gN p f a):∃ m,Z5 p f a m=true:=by
 induction a using Nat.strongRecOn with
 |_ a ih =>
  by_cases hc:p<=a
  ·rw [VC hp hc] at h
   by_cases hu:0<=gN p f (a - p)/\(f a < 0\/gN p f (a - p)+1 < f a)
   ·obtain ⟨m,hm⟩:=ih (a - p) (by omega) hu.1
    refine ⟨m+1, ?_⟩
    unfold Z5 at hm ⊢;simp only [bc,decide_eq_true_eq] at hm ⊢
    have e1:(m+1) * p=m * p+p:=cB m p;have e2:a - (m+1) * p=a - p - m * p:=by omega
    have e3:gN p f a=gN p f (a - p)+1:=by rw [VC hp hc];unfold Ur;rw [if_pos hu]
    rw [e2,e3];refine ⟨⟨by omega,hm.1.2⟩, ?_⟩
    have:=hm.2;omega
   ·refine ⟨0, ?_⟩
    unfold Z5;simp only [bc,decide_eq_true_eq]
    have e3:gN p f a=f a:=by rw [VC hp hc];unfold Ur;rw [if_neg hu]
    rw [<- VC hp hc,e3] at h;rw [e3]
    simp;exact h
  ·refine ⟨0, ?_⟩
   rw [Xb (by omega)] at h
   unfold Z5;simp only [bc,decide_eq_true_eq]
   rw [Xb (by omega)]
   simp;exact h
def QdP {p:Nat} {f:Nat->Int} (hp:1<=p) {a m:Nat} (h:Z5 p f a m=true):m<=a:=by
 unfold Z5 at h;simp only [bc,decide_eq_true_eq] at h
 have:=Nat.le_mul_of_pos_right m hp;omega
def vV (p:Nat) (f:Nat->Int) (a:Nat):Nat:=((List.range (a+1)).find? (Z5 p f a)).getD 0
def Qcl {p:Nat} {f:Nat->Int} (hp:1<=p) {a m:Nat} (h:Z5 p f a m=true) (hb:∀ j,j < m->Z5 p f a j=false):vV p f a=m:=by
 have hm:=QdP hp h;unfold vV
 have:(List.range (a+1)).find? (Z5 p f a)=some m:=by
  rw [dK];exact ⟨h,aE.2 (by omega),fun j hj=>by simpa using hb j hj⟩
 rw [this];rfl
def Jf {p:Nat} {f:Nat->Int} (hp:1<=p) {a:Nat} (h:0<=gN p f a):Z5 p f a (vV p f a)=true:=by
 obtain ⟨m,hm⟩:=QeC hp a h;have hle:=QdP hp hm
 unfold vV;cases hq:(List.range (a+1)).find? (Z5 p f a) with
 |some i=>exact List.find?_some hq
 |none=>exact absurd hm (dM.1 hq m (aE.2 (by omega)))
def pcA (ps:List Int) (A:Nat):Nat->Nat
 |0=>A
 |i+1=>pcA ps A i - vV (ps.getD i 0).toNat (je (ps.drop (i+1))) (pcA ps A i) * (ps.getD i 0).toNat
def pcM (ps:List Int) (A:Nat) (i:Nat):Nat:=vV (ps.getD i 0).toNat (je (ps.drop (i+1))) (pcA ps A i)
def pcL (ps:List Int) (A:Nat) (k:Nat):List Int:=(List.range k).map fun i=>(pcM ps A i:Int)
def QfH (ps:List Int) (A k:Nat):pcL ps A (k+1)=pcL ps A k++[(pcM ps A k:Int)]:=by unfold pcL;rw [bM,ae];rfl
def Qi5 (ps:List Int) (A k:Nat):(pcL ps A k).length=k:=by simp [pcL]
def Vf {ps:List Int} {i:Nat} (h:i < ps.length) (a:Nat):je (ps.drop i) a=gN (ps.getD i 0).toNat (je (ps.drop (i+1))) a:=by
 rw [cA h,je];simp [ah,h]
def QhF {ps:List Int} (hp:∀ p ∈ ps,1<=p) {A:Nat} (h0:0<=je ps A):∀ i,i<=ps.length->0<=je (ps.drop i) (pcA ps A i)/\pcA ps A i<=A
 |0,_=>by rw [List.drop_zero];exact ⟨h0,ag _⟩
 |i+1,hi=>by
  obtain ⟨h1,h2⟩:=QhF hp h0 i (by omega)
  have h3:=hp _ (jr (d:=0) (show i < ps.length by omega))
  rw [Vf (by omega)] at h1
  have h4:=Jf (by omega) h1
  unfold Z5 at h4;simp only [bc,decide_eq_true_eq] at h4
  rw [pcA];exact ⟨h4.1.2,by omega⟩
def Qf3 {ps:List Int} (hp:∀ p ∈ ps,1<=p) (h1:ps.getD 0 0=1) (hl:1<=ps.length) (a:Nat):0<=je ps a:=by
 obtain ⟨p,r,rfl⟩:∃ p r,ps=p :: r:=by cases ps with|nil=>simp at hl|cons p r=>exact ⟨p,r,rfl⟩
 obtain rfl:p=1:=by simpa using h1
 have hr:∀ a,-1<=je r a:=fun a=>(Xf (fun q hq=>hp q (aX _ hq)) a).1
 have h00:∀ {r:List Int},(∀ p ∈ r,1<=p)->je r 0=0:=by
  intro r
  induction r with
  |nil=>intro _;rfl
  |cons q r ih =>
   intro h;have:=h q bb
   rw [je,Xb (by omega)]
   exact ih fun x hx=>h x (aX _ hx)
 rw [je];show 0<=gN 1 (je r) a
 induction a with
 |zero=>rw [Xb (by omega),h00 fun q hq=>hp q (aX _ hq)];decide
 |succ a ih =>
  rw [VC (ag _) (by omega),show a+1 - 1=a by omega]
  unfold Ur;have:=hr (a+1)
  split <;> omega
structure PsOk (ps:List Int):Prop where
 l:1<=ps.length/\ps.length<=4
 one:ps.getD 0 0=1
 b:∀ p ∈ ps,1<=p/\p<=50
 inc:∀ i,i+1 < ps.length->ps.getD i 0 < ps.getD (i+1) 0
def Qdu {p:List Int} (h:xc p=0):PsOk p:=by
 unfold xc at h;split at h
 ·exact absurd h ‹_›
 ·rename_i h0
  split at h
  ·exact absurd h (by decide)
  ·rename_i h1
   have hl:1<=p.length/\p.length<=4:=by unfold qy at h0;split at h0 <;> simp at h0;omega
   have hs:∀ i,i+1 < p.length->p.getD (i+1) 0<=50/\p.getD i 0 < p.getD (i+1) 0:=fun i hi=>by
    have:=Qf h (vF p i) (aj.2 ⟨i,aE.2 (by omega),rfl⟩)
    unfold vF at this;rw [cd 1 i] at this
    split at this
    ·exact absurd this (by decide)
    ·split at this
     ·exact absurd this (by decide)
     ·omega
   have hb:∀ i,i < p.length->1<=p.getD i 0/\p.getD i 0<=50:=fun i=>by
    induction i with
    |zero=>intro _;omega
    |succ i ih=>intro hi;have:=ih (by omega);have:=hs i hi;omega
   refine ⟨hl,by omega,fun q hq=>?_,fun i hi=>(hs i hi).2⟩
   obtain ⟨j,hj,rfl⟩:=bC hq;have:=hb j hj
   simpa [ah,hj] using this
def yO (f:Nat->Int) (A:Nat):List Int:=(List.range (A+1)).map f
def YC (f:Nat->Int) (A:Nat):(yO f A).length=A+1:=by simp [yO]
def YP {f:Nat->Int} {A j:Nat} (h:j<=A):(yO f A).getD j 0=f j:=by simp [yO,ah,show j < A+1 by omega]
def Qbi {f:Nat->Int} {A j:Nat} {v:Int}:(yO f A).set j v=yO (fun i=>if i=j then v else f i) A:=by
 apply bU
 intro i;simp only [yO,cN,aw,ab,d9]
 by_cases hi:j=i
 ·subst hi
  by_cases h:j < A+1
  ·simp [h]
  ·simp [h]
 ·rw [if_neg hi]
  by_cases h:i < A+1
  ·simp [h];exact fun h'=>absurd h'.symm hi
  ·simp [h]
def Q4 {f g:Nat->Int} {A:Nat} (h:∀ j,j<=A->f j=g j):yO f A=yO g A:=by
 unfold yO;exact cE fun j hj=>h j (by have:=aE.1 hj;omega)
def Zk (p:Nat) (f:Nat->Int) (n:Nat):Nat->Int:=fun j=>if j < n then gN p f j else f j
def Qd3 {p:Nat} {f:Nat->Int} {A:Nat}:yO (Zk p f p) A=yO f A:=Q4 fun j _=>by
 unfold Zk;split
 ·exact Xb ‹_›
 ·rfl
def Qio {p:Nat} {f:Nat->Int} {A n:Nat} (h:A < n):yO (Zk p f n) A=yO (gN p f) A:=Q4 fun j hj=>by
 unfold Zk;rw [if_pos (by omega)]
def QjJ {p:Nat} {f:Nat->Int} {A n:Nat} {v:Int} (hv:gN p f n=v):(yO (Zk p f n) A).set n v=yO (Zk p f (n+1)) A:=by
 rw [Qbi];refine Q4 fun j _=>?_
 unfold Zk
 by_cases h:j=n
 ·subst h;rw [if_pos rfl,if_pos (by omega),hv]
 ·rw [if_neg h]
  by_cases h1:j < n
  ·rw [if_pos h1,if_pos (by omega)]
  ·rw [if_neg h1,if_neg (by omega)]
def Qg1 {p:Nat} {f:Nat->Int} {A n:Nat} (hv:gN p f n=f n):yO (Zk p f n) A=yO (Zk p f (n+1)) A:=Q4 fun j _=>by
 unfold Zk
 by_cases h:j=n
 ·subst h;rw [if_neg (by omega),if_pos (by omega),hv]
 ·by_cases h1:j < n
  ·rw [if_pos h1,if_pos (by omega)]
  ·rw [if_neg h1,if_neg (by omega)]
def yG (g:Nat->AV) (n:Nat):List AV:=(List.range n).map g
def QhS (g:Nat->AV) (n:Nat):(yG g n).length=n:=by simp [yG]
def Qd5 {g:Nat->AV} {n k:Nat} (h:k < n):((yG g n).drop k).take 1=[g k]:=by
 apply bU
 intro i;rw [aT]
 by_cases hi:i < 1
 ·obtain rfl:i=0:=by omega
  simp [yG,h]
 ·rw [if_neg hi]
  simp;omega
def QbK {g:Nat->AV} {n k:Nat} {v:AV} (h:k < n):(yG g n).take k++v :: (yG g n).drop (k+1)=yG (fun j=>if j=k then v else g j) n:=by
 apply bU
 intro i;rw [List.getElem?_append]
 simp only [yG,aR,ab,d9];rw [show min k n=k by omega]
 by_cases h1:i < k
 ·rw [if_pos h1,aT,if_pos h1]
  simp [show i < n by omega,show i ≠ k by omega]
 ·rw [if_neg h1]
  by_cases h2:i=k
  ·subst h2
   simp [h]
  ·rw [show i - k=(i - k - 1)+1 by omega,bv,bN,show k+1+(i - k - 1)=i by omega]
   by_cases h3:i < n
   ·simp [h3,h2]
   ·simp [h3]
def QgN (n:Nat):List.replicate n AV.nil=yG (fun _=>.nil) n:=by
 apply bU
 intro i;simp only [yG,dh,aw]
 by_cases h:i < n <;> simp [h]
def VR {h:Nat->Option AObj} {σ:Nat->Option Nat} {g g':Nat->AV} {n:Nat} (hg:∀ j,j < n->AV.le h σ (g j) (g' j)):AV.leL h σ (yG g n) (yG g' n):=by
 have key:∀ (l:List Nat),(∀ j ∈ l,AV.le h σ (g j) (g' j))->AV.leL h σ (l.map g) (l.map g'):=by
  intro l
  induction l with
  |nil=>intro _;exact trivial
  |cons a l ih=>intro hh;exact ⟨hh a bb,ih fun j hj=>hh j (aX _ hj)⟩
 exact key _ fun j hj=>hg j (aE.1 hj)
def Lj {g:Nat->AV} {n N:Nat} (hg:∀ j,j < n->∀ id ∈ (g j).ids,id < N):∀ id ∈ AV.idsL (yG g n),id < N:=fun id hid=>by
 obtain ⟨c,hc,hi⟩:=AV.mem_idsL.1 hid;obtain ⟨j,hj,rfl⟩:=aj.1 hc
 exact hg j (aE.1 hj) id hi
end Go.Sym.B
namespace Go.Proofs
open Go Go.Shelf Go.Proofs.Tryz
def Tryz.lays156_ren:Go.Shelf.Ren:=⟨fun|156=>45|165=>91|166=>92|169=>93|240=>150|241=>151|276=>190|277=>191|n=>n,fun|31=>33|9=>9|3=>3|4=>4|0=>0|20=>20|72=>172|76=>176|70=>170|37=>99|75=>175|127=>242|164=>272|5=>5|80=>178|n=>n,fun|n=>n⟩
def Tryz.lays156:Go.Proofs.Lays.n156 prog Tryz.lays156_ren:={
 mixed:=by kernel_rfl
 f156:=func45.trans (congrArg some (by kernel_rfl))
 f165:=func91.trans (congrArg some (by kernel_rfl))
 f166:=func92.trans (congrArg some (by kernel_rfl))
 f169:=func93.trans (congrArg some (by kernel_rfl))
 f240:=func150.trans (congrArg some (by kernel_rfl))
 f241:=func151.trans (congrArg some (by kernel_rfl))
 f276:=func190.trans (congrArg some (by kernel_rfl))
 f277:=func191.trans (congrArg some (by kernel_rfl))
 t0:=underlying0
 a0:=isAgg0
 z0:=sizeOf0
 v0:=zeroValue0
 t3:=underlying3
 a3:=isAgg3
 z3:=sizeOf3
 v3:=zeroValue3
 t4:=underlying4
 a4:=isAgg4
 z4:=sizeOf4
 v4:=zeroValue4
 t9:=underlying9
 a9:=isAgg9
 z9:=sizeOf9
 v9:=zeroValue9
 t20:=underlying20
 a20:=isAgg20
 z20:=sizeOf20
 v20:=zeroValue20
 t31:=underlying33
 a31:=isAgg33
 z31:=sizeOf33
 v31:=zeroValue33
 t37:=underlying99
 a37:=isAgg99
 z37:=sizeOf99
 v37:=zeroValue99
 t70:=underlying170
 a70:=isAgg170
 z70:=sizeOf170
 v70:=zeroValue170
 t72:=underlying172
 a72:=isAgg172
 z72:=sizeOf172
 v72:=zeroValue172
 t75:=underlying175
 a75:=isAgg175
 z75:=sizeOf175
 v75:=zeroValue175
 t76:=underlying176
 a76:=isAgg176
 z76:=sizeOf176
 v76:=zeroValue176
 t127:=underlying242
 a127:=isAgg242
 z127:=sizeOf242
 v127:=zeroValue242
 t164:=underlying272
 a164:=isAgg272
 z164:=sizeOf272
 v164:=zeroValue272 }
def Tryz.Builder_Extra_156:Builder.Extra prog Tryz.lays156_ren:={
 sizeBuilder:=by kernel_rfl
 liesBuilder:=by kernel_rfl
 t5:=underlying5
 a5:=isAgg5
 z5:=sizeOf5
 v5:=zeroValue5
 infoByte:=by kernel_rfl
 cellsByte:=by kernel_rfl
 sizeByte:=by kernel_rfl
 neB5:=by decide }
open Go.RowKit in
def Tryz.strings_Join_none (a:Option Addr) (c:Nat) (sep:ByteArray) (w:World) :
  Calls prog 45 #[.slice a 0 c,.string sep] w fun e w'=>e=.returned (.string ⟨#[]⟩)/\w'=w:=Any.strings_Join_none Tryz.lays156 Tryz.Builder_Extra_156 a c sep w
open Go.RowKit in
def Tryz.strings_Join (bk o c:Nat) (xs:List ByteArray) (sep:ByteArray) (w:World) (hcells:∀ (j:Nat) x,xs[j]?=some x->w.cell? ⟨bk,o+j,none⟩=some (.string x)) (hbk:bk < w.heap.size) (hN:xs.length<=140737488355328) (hcap:xs.length<=c) (hlen:(Lib.join (xs.map (·.data.toList)) sep.data.toList).length<=140737488355328) :
  Calls prog 45 #[.slice (some ⟨bk,o,none⟩) xs.length c,.string sep] w fun e w'=>e=.returned (.string ⟨(Lib.join (xs.map (·.data.toList)) sep.data.toList).toArray⟩)/\Below w.heap.size w w':=Any.strings_Join Tryz.lays156 Tryz.Builder_Extra_156 bk o c xs sep w hcells hbk hN hcap hlen
def Tryz.laysM171_ren:Go.Shelf.Ren:=⟨fun|171=>43|243=>90|246=>149|283=>186|284=>187|285=>188|286=>189|129=>212|317=>211|318=>213|319=>214|320=>215|337=>225|338=>226|n=>n,fun|3=>3|9=>9|2=>2|4=>4|171=>267|0=>0|53=>90|37=>99|5=>5|173=>270|212=>293|51=>280|20=>20|213=>294|46=>93|232=>308|233=>309|n=>n,fun|17=>0|18=>2|19=>3|n=>n⟩
def Tryz.laysM171:Go.Proofs.LaysM.n171 prog Tryz.laysM171_ren:={
 mixed:=by kernel_rfl
 f129:=func212.trans (congrArg some (by kernel_rfl))
 f171:=func43.trans (congrArg some (by kernel_rfl))
 f243:=func90.trans (congrArg some (by kernel_rfl))
 f246:=func149.trans (congrArg some (by kernel_rfl))
 f283:=func186.trans (congrArg some (by kernel_rfl))
 f284:=func187.trans (congrArg some (by kernel_rfl))
 f285:=func188.trans (congrArg some (by kernel_rfl))
 f286:=func189.trans (congrArg some (by kernel_rfl))
 f317:=func211.trans (congrArg some (by kernel_rfl))
 f318:=func213.trans (congrArg some (by kernel_rfl))
 f319:=func214.trans (congrArg some (by kernel_rfl))
 f320:=func215.trans (congrArg some (by kernel_rfl))
 f337:=func225.trans (congrArg some (by kernel_rfl))
 f338:=func226.trans (congrArg some (by kernel_rfl))
 t0:=underlying0
 a0:=isAgg0
 z0:=sizeOf0
 v0:=zeroValue0
 t2:=underlying2
 a2:=isAgg2
 z2:=sizeOf2
 v2:=zeroValue2
 t3:=underlying3
 a3:=isAgg3
 z3:=sizeOf3
 v3:=zeroValue3
 t4:=underlying4
 a4:=isAgg4
 z4:=sizeOf4
 v4:=zeroValue4
 t5:=underlying5
 a5:=isAgg5
 z5:=sizeOf5
 v5:=zeroValue5
 t9:=underlying9
 a9:=isAgg9
 z9:=sizeOf9
 v9:=zeroValue9
 t20:=underlying20
 a20:=isAgg20
 z20:=sizeOf20
 v20:=zeroValue20
 t37:=underlying99
 a37:=isAgg99
 z37:=sizeOf99
 v37:=zeroValue99
 t46:=underlying93
 a46:=isAgg93
 z46:=sizeOf93
 v46:=zeroValue93
 t51:=underlying280
 a51:=isAgg280
 z51:=sizeOf280
 v51:=zeroValue280
 t53:=underlying90
 a53:=isAgg90
 z53:=sizeOf90
 v53:=zeroValue90
 t171:=underlying267
 a171:=isAgg267
 z171:=sizeOf267
 v171:=zeroValue267
 t173:=underlying270
 a173:=isAgg270
 z173:=sizeOf270
 v173:=zeroValue270
 t212:=underlying293
 a212:=isAgg293
 z212:=sizeOf293
 v212:=zeroValue293
 t213:=underlying294
 a213:=isAgg294
 z213:=sizeOf294
 t232:=underlying308
 a232:=isAgg308
 z232:=sizeOf308
 v232:=zeroValue308
 t233:=underlying309
 a233:=isAgg309
 z233:=sizeOf309
 v233:=zeroValue309
 g17:=by kernel_rfl
 g18:=by kernel_rfl
 g19:=by kernel_rfl
 i0:=by kernel_rfl
 i2:=by kernel_rfl
 i3:=by kernel_rfl
 i4:=by kernel_rfl
 i5:=by kernel_rfl
 i9:=by kernel_rfl
 i20:=by kernel_rfl
 i37:=by kernel_rfl
 i46:=by kernel_rfl
 i51:=by kernel_rfl
 i53:=by kernel_rfl
 i171:=by kernel_rfl
 i173:=by kernel_rfl
 i212:=by kernel_rfl
 i232:=by kernel_rfl
 i233:=by kernel_rfl
 m17:=by kernel_rfl
 m18:=by kernel_rfl
 m19:=by kernel_rfl }
open Go.RowKit Go.Sort Go.Lib in
def Tryz.strconv_Itoa (n : Int) (h0 : -9223372036854775808 <= n) (h1 : n <= 9223372036854775807) (w : World) (htab : Lib.TabIs prog w "internal/strconv.uint64pow10" .u64 Lib.pow10Tab) :
  Calls prog 43 #[.int .i64 n] w fun e w'=>e=.returned (.string ⟨(Lib.itoa n).toArray⟩)/\∃ k os,w'=grow (w.drewN k) os:=Any.strconv_Itoa Tryz.laysM171 n h0 h1 w htab
open Go.RowKit Go.Sort Go.Lib in
def Tryz.laysC172_ren:Go.Shelf.Ren:=⟨fun|172=>199|244=>220|245=>221|247=>232|279=>233|280=>234|281=>235|282=>236|287=>240|316=>241|171=>43|205=>242|321=>243|322=>244|243=>90|246=>149|283=>186|284=>187|285=>188|286=>189|129=>212|317=>211|318=>213|319=>214|320=>215|337=>225|338=>226|n=>n,fun|9=>9|3=>3|75=>175|76=>176|4=>4|5=>5|167=>302|37=>99|0=>0|85=>303|2=>2|168=>305|53=>90|175=>315|46=>93|210=>319|127=>242|145=>325|143=>323|21=>21|171=>267|173=>270|212=>293|51=>280|20=>20|213=>294|232=>308|233=>309|80=>178|n=>n,fun|15=>6|16=>7|17=>0|18=>2|19=>3|n=>n⟩
def Tryz.laysC172:Go.Proofs.LaysC.n172 prog Tryz.laysC172_ren:={
 mixed:=by kernel_rfl
 f129:=func212.trans (congrArg some (by kernel_rfl))
 f171:=func43.trans (congrArg some (by kernel_rfl))
 f172:=func199.trans (congrArg some (by kernel_rfl))
 f205:=func242.trans (congrArg some (by kernel_rfl))
 f243:=func90.trans (congrArg some (by kernel_rfl))
 f244:=func220.trans (congrArg some (by kernel_rfl))
 f245:=func221.trans (congrArg some (by kernel_rfl))
 f246:=func149.trans (congrArg some (by kernel_rfl))
 f247:=func232.trans (congrArg some (by kernel_rfl))
 f279:=func233.trans (congrArg some (by kernel_rfl))
 f280:=func234.trans (congrArg some (by kernel_rfl))
 f281:=func235.trans (congrArg some (by kernel_rfl))
 f282:=func236.trans (congrArg some (by kernel_rfl))
 f283:=func186.trans (congrArg some (by kernel_rfl))
 f284:=func187.trans (congrArg some (by kernel_rfl))
 f285:=func188.trans (congrArg some (by kernel_rfl))
 f286:=func189.trans (congrArg some (by kernel_rfl))
 f287:=func240.trans (congrArg some (by kernel_rfl))
 f316:=func241.trans (congrArg some (by kernel_rfl))
 f317:=func211.trans (congrArg some (by kernel_rfl))
 f318:=func213.trans (congrArg some (by kernel_rfl))
 f319:=func214.trans (congrArg some (by kernel_rfl))
 f320:=func215.trans (congrArg some (by kernel_rfl))
 f321:=func243.trans (congrArg some (by kernel_rfl))
 f322:=func244.trans (congrArg some (by kernel_rfl))
 f337:=func225.trans (congrArg some (by kernel_rfl))
 f338:=func226.trans (congrArg some (by kernel_rfl))
 t0:=underlying0
 a0:=isAgg0
 z0:=sizeOf0
 v0:=zeroValue0
 t2:=underlying2
 a2:=isAgg2
 z2:=sizeOf2
 v2:=zeroValue2
 t3:=underlying3
 a3:=isAgg3
 z3:=sizeOf3
 v3:=zeroValue3
 t4:=underlying4
 a4:=isAgg4
 z4:=sizeOf4
 v4:=zeroValue4
 t5:=underlying5
 a5:=isAgg5
 z5:=sizeOf5
 v5:=zeroValue5
 t9:=underlying9
 a9:=isAgg9
 z9:=sizeOf9
 v9:=zeroValue9
 t20:=underlying20
 a20:=isAgg20
 z20:=sizeOf20
 v20:=zeroValue20
 t21:=underlying21
 a21:=isAgg21
 z21:=sizeOf21
 v21:=zeroValue21
 t37:=underlying99
 a37:=isAgg99
 z37:=sizeOf99
 v37:=zeroValue99
 t46:=underlying93
 a46:=isAgg93
 z46:=sizeOf93
 v46:=zeroValue93
 t51:=underlying280
 a51:=isAgg280
 z51:=sizeOf280
 v51:=zeroValue280
 t53:=underlying90
 a53:=isAgg90
 z53:=sizeOf90
 v53:=zeroValue90
 t75:=underlying175
 a75:=isAgg175
 z75:=sizeOf175
 v75:=zeroValue175
 t76:=underlying176
 a76:=isAgg176
 z76:=sizeOf176
 v76:=zeroValue176
 t85:=underlying303
 a85:=isAgg303
 z85:=sizeOf303
 v85:=zeroValue303
 t127:=underlying242
 a127:=isAgg242
 z127:=sizeOf242
 v127:=zeroValue242
 t143:=underlying323
 a143:=isAgg323
 z143:=sizeOf323
 v143:=zeroValue323
 t145:=underlying325
 a145:=isAgg325
 z145:=sizeOf325
 v145:=zeroValue325
 t167:=underlying302
 a167:=isAgg302
 z167:=sizeOf302
 v167:=zeroValue302
 t168:=underlying305
 a168:=isAgg305
 z168:=sizeOf305
 v168:=zeroValue305
 t171:=underlying267
 a171:=isAgg267
 z171:=sizeOf267
 v171:=zeroValue267
 t173:=underlying270
 a173:=isAgg270
 z173:=sizeOf270
 v173:=zeroValue270
 t175:=underlying315
 a175:=isAgg315
 z175:=sizeOf315
 v175:=zeroValue315
 t210:=underlying319
 a210:=isAgg319
 z210:=sizeOf319
 v210:=zeroValue319
 t212:=underlying293
 a212:=isAgg293
 z212:=sizeOf293
 v212:=zeroValue293
 t213:=underlying294
 a213:=isAgg294
 z213:=sizeOf294
 t232:=underlying308
 a232:=isAgg308
 z232:=sizeOf308
 v232:=zeroValue308
 t233:=underlying309
 a233:=isAgg309
 z233:=sizeOf309
 v233:=zeroValue309
 g15:=by kernel_rfl
 g16:=by kernel_rfl
 g17:=by kernel_rfl
 g18:=by kernel_rfl
 g19:=by kernel_rfl
 t80:=underlying178
 a80:=isAgg178
 z80:=sizeOf178
 v80:=zeroValue178
 i0:=by kernel_rfl
 i2:=by kernel_rfl
 i3:=by kernel_rfl
 i4:=by kernel_rfl
 i5:=by kernel_rfl
 i9:=by kernel_rfl
 i20:=by kernel_rfl
 i21:=by kernel_rfl
 i37:=by kernel_rfl
 i46:=by kernel_rfl
 i51:=by kernel_rfl
 i53:=by kernel_rfl
 i75:=by kernel_rfl
 i76:=by kernel_rfl
 i80:=by kernel_rfl
 i85:=by kernel_rfl
 i127:=by kernel_rfl
 i143:=by kernel_rfl
 i145:=by kernel_rfl
 i167:=by kernel_rfl
 i168:=by kernel_rfl
 i171:=by kernel_rfl
 i173:=by kernel_rfl
 i175:=by kernel_rfl
 i210:=by kernel_rfl
 i212:=by kernel_rfl
 i232:=by kernel_rfl
 i233:=by kernel_rfl
 m15:=by kernel_rfl
 m16:=by kernel_rfl
 m17:=by kernel_rfl
 m18:=by kernel_rfl
 m19:=by kernel_rfl
 c0:=by kernel_rfl
 c2:=by kernel_rfl
 c3:=by kernel_rfl
 c4:=by kernel_rfl
 c5:=by kernel_rfl
 c9:=by kernel_rfl
 c20:=by kernel_rfl
 c21:=by kernel_rfl
 c37:=by kernel_rfl
 c46:=by kernel_rfl
 c51:=by kernel_rfl
 c53:=by kernel_rfl
 c75:=by kernel_rfl
 c76:=by kernel_rfl
 c80:=by kernel_rfl
 c85:=by kernel_rfl
 c127:=by kernel_rfl
 c143:=by kernel_rfl
 c145:=by kernel_rfl
 c167:=by kernel_rfl
 c168:=by kernel_rfl
 c171:=by kernel_rfl
 c173:=by kernel_rfl
 c175:=by kernel_rfl
 c210:=by kernel_rfl
 c212:=by kernel_rfl
 c213:=by kernel_rfl
 c232:=by kernel_rfl
 c233:=by kernel_rfl }
open Go.RowKit in
def Tryz.strconv_Atoi_ok (s:ByteArray) (hmax:s.size<=9223372036854775806) (v:Int) (h:Lib.atoiAll s.data.toList=.ok v) (w:World) :
  Calls prog 199 #[.string s] w fun e w'=>e=.returned (.tuple #[.int .i64 v,.nilIface])/\(w'=w\/∃ t,w'=Lib.bytesWorld w 5 t):=Any.strconv_Atoi_ok Tryz.laysC172 s hmax v h w
open Go.RowKit in
def Tryz.strconv_Atoi_syntax (s:ByteArray) (hlim:s.size<=281474976710656) (h:Lib.atoiAll s.data.toList=Lib.atoiAll []) (ev:Value) (w:World) (hv:w.cell? ⟨6,0,none⟩=some ev) (hev:ev=.nilIface\/∃ te pe,ev=.iface te pe) :
  Calls prog 199 #[.string s] w fun e w'=>∃ N,e=.returned (.tuple #[.int .i64 (0),.iface 305 (.pointer (some ⟨N,0,none⟩))])/\w.heap.size<=N/\w'.heap[N]?=some (.cells #[.string ⟨#[65,116,111,105]⟩,.string s,ev] 319 (0,0))/\Below w.heap.size w w':=Any.strconv_Atoi_syntax Tryz.laysC172 s hlim h ev w hv hev
open Go.RowKit in
def Tryz.strconv_Atoi_range (s:ByteArray) (hlim:s.size<=281474976710656) (h:Lib.atoiAll s.data.toList=.range) (ev:Value) (w:World) (hv:w.cell? ⟨7,0,none⟩=some ev) (hev:ev=.nilIface\/∃ te pe,ev=.iface te pe) :
  Calls prog 199 #[.string s] w fun e w'=>∃ N,e=.returned (.tuple #[.int .i64 (Lib.atoiSat s.data.toList),.iface 305 (.pointer (some ⟨N,0,none⟩))])/\w.heap.size<=N/\w'.heap[N]?=some (.cells #[.string ⟨#[65,116,111,105]⟩,.string s,ev] 319 (0,0))/\Below w.heap.size w w':=Any.strconv_Atoi_range Tryz.laysC172 s hlim h ev w hv hev
def Tryz.lays145_ren:Go.Shelf.Ren:=⟨fun|145=>207|220=>223|219=>219|217=>228|225=>229|224=>230|267=>231|266=>238|314=>239|n=>n,fun|9=>9|4=>4|59=>287|3=>3|5=>5|46=>93|146=>281|51=>280|n=>n,fun|1=>1|n=>n⟩
def Tryz.lays145:Go.Proofs.Lays.n145 prog Tryz.lays145_ren:={
 mixed:=by kernel_rfl
 f145:=func207.trans (congrArg some (by kernel_rfl))
 f217:=func228.trans (congrArg some (by kernel_rfl))
 f219:=func219.trans (congrArg some (by kernel_rfl))
 f220:=func223.trans (congrArg some (by kernel_rfl))
 f224:=func230.trans (congrArg some (by kernel_rfl))
 f225:=func229.trans (congrArg some (by kernel_rfl))
 f266:=func238.trans (congrArg some (by kernel_rfl))
 f267:=func231.trans (congrArg some (by kernel_rfl))
 f314:=func239.trans (congrArg some (by kernel_rfl))
 t3:=underlying3
 a3:=isAgg3
 z3:=sizeOf3
 v3:=zeroValue3
 t4:=underlying4
 a4:=isAgg4
 z4:=sizeOf4
 v4:=zeroValue4
 t5:=underlying5
 a5:=isAgg5
 z5:=sizeOf5
 v5:=zeroValue5
 t9:=underlying9
 a9:=isAgg9
 z9:=sizeOf9
 v9:=zeroValue9
 t46:=underlying93
 a46:=isAgg93
 z46:=sizeOf93
 v46:=zeroValue93
 t51:=underlying280
 a51:=isAgg280
 z51:=sizeOf280
 v51:=zeroValue280
 t59:=underlying287
 a59:=isAgg287
 z59:=sizeOf287
 v59:=zeroValue287
 t146:=underlying281
 a146:=isAgg281
 z146:=sizeOf281
 v146:=zeroValue281
 g1:=by kernel_rfl }
open Go.RowKit Go.Lib in
def Tryz.strings_Cut (s sep:ByteArray) (m:Int) (w:World) (hs:s.size < 4294967281) (hm:w.cell? ⟨1,0,none⟩=some (.int .i64 m)) :
  Calls prog 207 #[.string s,.string sep] w fun e w'=>e=.returned (.tuple #[.string ⟨(Lib.cut s.data.toList sep.data.toList).1.toArray⟩,.string ⟨(Lib.cut s.data.toList sep.data.toList).2.1.toArray⟩,.bool (Lib.cut s.data.toList sep.data.toList).2.2])/\∃ n,w'=w.drewN n:=Any.strings_Cut Tryz.lays145 s sep m w hs hm
def Tryz.lays146_ren:Go.Shelf.Ren:=⟨fun|146=>96|221=>154|268=>196|138=>197|143=>198|195=>216|197=>217|218=>218|219=>219|260=>227|217=>228|225=>229|224=>230|267=>231|266=>238|314=>239|n=>n,fun|9=>9|31=>33|3=>3|4=>4|0=>0|105=>297|21=>21|5=>5|46=>93|119=>310|139=>313|138=>312|146=>281|51=>280|n=>n,fun|1=>1|3=>4|4=>5|n=>n⟩
def Tryz.lays146:Go.Proofs.Lays.n146 prog Tryz.lays146_ren:={
 mixed:=by kernel_rfl
 f138:=func197.trans (congrArg some (by kernel_rfl))
 f143:=func198.trans (congrArg some (by kernel_rfl))
 f146:=func96.trans (congrArg some (by kernel_rfl))
 f195:=func216.trans (congrArg some (by kernel_rfl))
 f197:=func217.trans (congrArg some (by kernel_rfl))
 f217:=func228.trans (congrArg some (by kernel_rfl))
 f218:=func218.trans (congrArg some (by kernel_rfl))
 f219:=func219.trans (congrArg some (by kernel_rfl))
 f221:=func154.trans (congrArg some (by kernel_rfl))
 f224:=func230.trans (congrArg some (by kernel_rfl))
 f225:=func229.trans (congrArg some (by kernel_rfl))
 f260:=func227.trans (congrArg some (by kernel_rfl))
 f266:=func238.trans (congrArg some (by kernel_rfl))
 f267:=func231.trans (congrArg some (by kernel_rfl))
 f268:=func196.trans (congrArg some (by kernel_rfl))
 f314:=func239.trans (congrArg some (by kernel_rfl))
 t0:=underlying0
 a0:=isAgg0
 z0:=sizeOf0
 v0:=zeroValue0
 t3:=underlying3
 a3:=isAgg3
 z3:=sizeOf3
 v3:=zeroValue3
 t4:=underlying4
 a4:=isAgg4
 z4:=sizeOf4
 v4:=zeroValue4
 t5:=underlying5
 a5:=isAgg5
 z5:=sizeOf5
 v5:=zeroValue5
 t9:=underlying9
 a9:=isAgg9
 z9:=sizeOf9
 v9:=zeroValue9
 t21:=underlying21
 a21:=isAgg21
 z21:=sizeOf21
 v21:=zeroValue21
 t31:=underlying33
 a31:=isAgg33
 z31:=sizeOf33
 v31:=zeroValue33
 t46:=underlying93
 a46:=isAgg93
 z46:=sizeOf93
 v46:=zeroValue93
 t51:=underlying280
 a51:=isAgg280
 z51:=sizeOf280
 v51:=zeroValue280
 t105:=underlying297
 a105:=isAgg297
 z105:=sizeOf297
 v105:=zeroValue297
 t119:=underlying310
 a119:=isAgg310
 z119:=sizeOf310
 t138:=underlying312
 a138:=isAgg312
 z138:=sizeOf312
 v138:=zeroValue312
 t139:=underlying313
 a139:=isAgg313
 z139:=sizeOf313
 v139:=zeroValue313
 t146:=underlying281
 a146:=isAgg281
 z146:=sizeOf281
 v146:=zeroValue281
 g1:=by kernel_rfl
 g3:=by kernel_rfl
 g4:=by kernel_rfl }
open Go.RowKit Go.Lib in
def Tryz.strings_Split (s sep:ByteArray) (m:Int) (w:World) (hs:s.size < 4294967281) (hm:w.cell? ⟨1,0,none⟩=some (.int .i64 m)) (h1:1<=sep.size) :
  Calls prog 96 #[.string s,.string sep] w fun e w' =>
   e=.returned (.slice (some ⟨w.heap.size,0,none⟩) (Lib.countB s sep+1) (Lib.countB s sep+1))/\w'=w.alloc (.cells ((Lib.splitB sep 0 (Lib.countB s sep) s).map Value.string).toArray 9):=Any.strings_Split Tryz.lays146 (by kernel_rfl) s sep m w hs hm h1
end Go.Proofs
namespace Go.Sym.B
open Go Go.Sym Go.Proofs Go.Proofs.Tryz Go.Sym.C
def eQ (q:Rat):List DV:=eSh (shQ q)
def dQ (r:List DV):Rat:=qI (dSh r).num (dSh r).den
def dQ_e (q:Rat):dQ (eQ q)=q:=KN q
def mQ (l:List Rat):(l.map eQ).map dQ=l:=by simp [Function.comp_def,dQ_e]
def rQ (l:List Rat):zK 2 (l.map eQ)=True:=xu (f:=eQ) (k:=2) (fun _=>rfl) l
def gQ {l:List Rat} {n:Nat} {z:List DV} (h:n < l.length):(l.map eQ).getD n z=eQ (l.getD n 0):=by simp [ah,h]
def sumS (l:List Rat) (k:Nat):St:={ t:=asg [(0,.sl (l.map eQ)),(2,.ptr 0 0),(3,.clo 158 []),(4,.ptr 1 0),(8,.sl (l.map eQ)),(9,aI l.length),(10,aI k)],h:=qg [(0,.cells [.v (.int .i64 0),.v (.int .i64 0)]),(1,.cells [.v (.int .i64 (kK (l.take k)).num),.v (.int .i64 (kK (l.take k)).den)])],n:=2 }
structure SumOk (l:List Rat):Prop where
 len:l.length<=10
 bd:∀ q ∈ l,Bd 1000000 q
def SumOk.part {l:List Rat} (h:SumOk l) (k:Nat):Sm (kK (l.take k)):=by
 have h1:=UT (l.take k) (B:=1000000) fun q hq=>h.bd q (aQ hq)
 refine (h1.mono (C:=10000000) ?_).sm (by decide)
 have:(l.take k).length<=10:=by have:=h.len;simp;omega
 calc (l.take k).length * 1000000<=10 * 1000000:=aG _ this
  _=10000000:=rfl
def Qfd {l:List Rat} {k:Nat} (h:k < l.length):kK (l.take (k+1))=kK (l.take k)+l.getD k 0:=by
 rw [cS h,Vm];simp [ah,h]
def yR:=jw @ty3 (jw @Qdq (jw @Qy (jw @ti3.eq_1 (jw @Xc.eq_1 @xU.eq_1))))
def ZN:=jw @aI.eq_1 (jw @aB.eq_1 (jw @aSh.eq_1 (jw @shQ.eq_1 (jw @eSh.eq_1 (jw @eQ.eq_1 (jw @Vt.eq_1 (jw @Vt.eq_2 (jw @Kw.eq_1 (jw @Kw.eq_2 (jw @sumS.eq_1 (jw @YD (jw @KN (@rQ)))))))))))))
def Qk7 (l:List Rat) (hS:SumOk l):FnV prog 105 [.sl (l.map eQ)] (aSh (shQ (kK l))):=by
 have env:=qx (A:=fun _=>True) (kC Qf1 (kC e138 kN))
 refine kV (Fn0 func105 rfl (fun vs w=>by kernel_rfl) (by kernel_rfl)) (by simp) (by simp [AV.ids]) ?_
 have hl:=hS.len;have hm:l.length<=maxLen:=by
   have:=XO;have:(100:Nat)<=maxLen:=by decide
   omega
 repeat' first|(apply nx;with_reducible constructor)|apply jq (by decide)|((first|apply jz env|apply jk);intro Q hQ;simp only [vkt,seval,yR,ZN,ite_and];(repeat' first|with_reducible assumption|apply jw|intro hp);all_goals first|(apply hQ;clear hQ Q)|omega|assumption|rfl|(apply jx;kernel_rfl)|skip)
 refine qh (fun k=>sumS l k) (fun k=>l.length - k) 0 ?_ fun k=>?_
 ·(refine Le.ok some [] ?_;constructor;all_goals (try simp only [vle,vkt,seval,ZN]))
  all_goals simp [kK]
 ·have h1:=hS.part k
  repeat' first|(apply nx;with_reducible constructor)|apply jq (by decide)
  (apply jz env;intro Q hQ;simp only [vkt,seval,yR,ZN,ite_and];(repeat' first|with_reducible assumption|apply jw|intro hp);all_goals first|(apply hQ;clear hQ Q)|omega|assumption|rfl|(apply jx;kernel_rfl)|skip)
  repeat' first|(apply nx;with_reducible constructor)|apply jq (by decide)
  (refine zk (by simp only [vkt,seval];rfl) (fun h=>?_) (fun h=>?_) <;> (try simp only [vki] at h))
  ·have hlt:k < l.length:=by omega
   have h2:=(hS.bd _ (jr (d:=0) hlt)).sm (by decide)
   have g1:=gQ (z:=[.v (.int .i64 0),.v (.int .i64 0)]) hlt;have e9:=qV hlt hm
   repeat' first|(apply nx;with_reducible constructor)|apply jq (by decide)|((first|apply jz env|apply jk);intro Q hQ;simp only [vkt,seval,yR,ZN,g1,ite_and];(repeat' first|with_reducible assumption|apply jw|intro hp);all_goals first|(apply hQ;clear hQ Q)|omega|assumption|rfl|(apply jx;kernel_rfl)|skip)
   refine ⟨k+1,by omega, ?_⟩
   (refine Le.ok some [] ?_;constructor;all_goals (try simp only [vle,vkt,seval,ZN]))
   all_goals simp [Qfd hlt,e9]
  ·have hk:l.take k=l:=aP (by omega)
   repeat' first|(apply nx;with_reducible constructor)|apply jq (by decide)|((first|apply jz env|apply jk);intro Q hQ;simp only [vkt,seval,yR,hk,ite_and];(repeat' first|with_reducible assumption|apply jw|intro hp);all_goals first|(apply hQ;clear hQ Q)|omega|assumption|rfl|(apply jx;kernel_rfl)|skip)
   (simp only [vrt,results105,vkt,seval,yR,ZN];refine Fin.val rfl ?_;(try simp only [AV.le,AV.leL]))
   all_goals simp
def QgP:List AV->Prop × AV
 |[.sl xs]=>(xs=(xs.map dQ).map eQ/\SumOk (xs.map dQ),aSh (shQ (kK (xs.map dQ))))
 |[.nil]=>(True,aSh (shQ (kK [])))
 |_=>(False,.junk)
def d102 {A:Frm->Prop}:qf A prog 105 (zq true QgP):=qD fun vs hv h=>by
 unfold QgP at h ⊢;split at h
 ·refine ⟨by simp [AV.plain,AV.plainL,aSh],fun _=>by simp [AV.flat,AV.flatL,aSh], ?_⟩
  have:=Qk7 _ h.2
  rwa [<- h.1] at this
 ·simp [AV.plainL,AV.plain] at hv
 ·exact h.elim
def Qv (l:Led) (d:Int) (has:List Int) (k:Nat):Rat:=kK ((List.range k).map fun c:Nat=>rq l d c * (has.getD c 0:Int))
def Qa7 (l:Led) (d:Int) (has:List Int) (k:Nat):Qv l d has (k+1)=Qv l d has k+rq l d (k:Int) * (has.getD k 0:Int):=by
 unfold Qv;rw [bM,ae,aD,ba,Vm]
def wS (l:Led) (d:Int) (has:List Int) (k:Nat):St:={ t:=asg [(0,.ptr 0 0),(1,aI d),(4,.ptr 2 0),(5,.ptr 3 0),(12,.row 1),(13,aI has.length),(14,aI k)],h:=qg [(0,vS l 1),(1,Q8 has),(2,.cells [.v (.int .i64 0),.v (.int .i64 0)]),(3,.cells [.v (.int .i64 (Qv l d has k).num),.v (.int .i64 (Qv l d has k).den)])],n:=4,m:=2 }
structure WOk (l:Led) (d:Int) (has:List Int):Prop where
 len:has.length<=4
 rt:∀ c:Nat,c < has.length->Rt l d c
 b:∀ v ∈ has,-10000<=v/\v<=10000
def WOk.part {l:Led} {d:Int} {has:List Int} (h:WOk l d has) (k:Nat) (hk:k<=has.length):Bd (k * (20 * 10000)) (Qv l d has k):=by
 unfold Qv;have:=UT ((List.range k).map fun c:Nat=>rq l d c * (has.getD c 0:Int)) (B:=20 * 10000) fun q hq=>by
  obtain ⟨c,hc,rfl⟩:=aj.1 hq;have hc:=aE.1 hc
  have:=h.b _ (jr (d:=0) (show c < has.length by omega))
  exact (QQ (h.rt c (by omega))).muli (by omega) (by omega)
 simpa using this
def wK:=jw @ty3 (jw @jh (jw @vU (jw @Qy (jw @Rj (jw @ti3.eq_1 (jw @jc.eq_1 (jw @vD.eq_1 (jw @xU.eq_1 @YR.eq_1))))))))
def ZT:=jw @aI.eq_1 (jw @aB.eq_1 (jw @q9.eq_1 (jw @qU.eq_1 (jw @aSh.eq_1 (jw @shQ.eq_1 (jw @qj.eq_1 (jw @Q5 (jw @vS.eq_1 (jw @Q8.eq_1 (jw @Vt.eq_1 (jw @Vt.eq_2 (jw @Kw.eq_1 (jw @Kw.eq_2 (jw @c98.eq_1 (jw @c98.eq_2 (jw @s99.eq_1 (jw @s99.eq_2 (jw @wS.eq_1 (jw @xf (jw @jT (jw @YD (@KN))))))))))))))))))))))
def QgO (l:Led) (d:Int) (has:List Int) (hW:WOk l d has):Fn noB prog 107 [.ptr 0 0,aI d] (qg [(0,vS l 1),(1,Q8 has)]) (aSh (shQ (Qv l d has has.length))) (qg [(0,vS l 1),(1,Q8 has)]) 0:=by
 have env:=qx (A:=fun _=>True) (kC d98 (kC e99 (kC Qf1 (kC e138 kN))))
 refine Fn.of (A:=fun _=>True) (n0:=2) (D:=noD) (Fn0 func107 rfl (fun vs w=>by kernel_rfl) (by kernel_rfl)) (by simp) (by simp [AV.ids,aI]) ?_ (fun _ _ _ _=>trivial) zb ?_
 ·intro i o hi
  rcases ai.1 (qN hi) with h|h
  ·cases h;simp [vS,qU,AObj.ids,AV.ids,AV.idsL]
  ·simp at h;obtain ⟨rfl,rfl⟩:=h;simp [Q8,AObj.ids]
 have hl:=hW.len;have hm:has.length<=maxLen:=by have:=XO;omega
 repeat' first|(apply nx;with_reducible constructor)|apply jq (by decide)|((first|apply jz env|apply jk);intro Q hQ;simp only [vkt,seval,wK,ZT,ite_and];(repeat' first|with_reducible assumption|apply jw|intro hp);all_goals first|(apply hQ;clear hQ Q)|omega|assumption|rfl|(apply jx;kernel_rfl)|skip)
 refine qh (fun k:{ k:Nat // k<=has.length }=>wS l d has k.1) (fun k=>has.length - k.1) ⟨0,af _⟩ ?_ fun ⟨k,hk⟩=>?_
 ·(refine Le.ok some [] ?_;constructor;all_goals (try simp only [vle,vkt,seval,ZT]))
  all_goals simp [Qv,kK]
 ·have h1:=((hW.part k hk).mono (C:=4 * (20 * 10000)) (aG _ (by omega))).sm (by decide)
  repeat' first|(apply nx;with_reducible constructor)|apply jq (by decide)
  (apply jz env;intro Q hQ;simp only [vkt,seval,wK,ZT,ite_and];(repeat' first|with_reducible assumption|apply jw|intro hp);all_goals first|(apply hQ;clear hQ Q)|omega|assumption|rfl|(apply jx;kernel_rfl)|skip)
  repeat' first|(apply nx;with_reducible constructor)|apply jq (by decide)
  (refine zk (by simp only [vkt,seval];rfl) (fun h=>?_) (fun h=>?_) <;> (try simp only [vki] at h))
  ·have hlt:k < has.length:=by omega
   have h2:=hW.rt k hlt;have h3:=hW.b _ (jr (d:=0) hlt)
   have h4:=QdT (QQ h2) (show -100000<=has.getD k 0 by omega) (by omega)
   have h5:=((QQ h2).muli (C:=10000) (n:=has.getD k 0) (by omega) (by omega)).sm (by decide)
   have e9:=qV hlt hm;have g0:=gI0 hlt
   repeat' first|(apply nx;with_reducible constructor)|apply jq (by decide)|((first|apply jz env|apply jk);intro Q hQ;simp only [vkt,seval,wK,ZT,g0,ite_and];(repeat' first|with_reducible assumption|apply jw|intro hp);all_goals first|(apply hQ;clear hQ Q)|omega|assumption|rfl|(apply jx;kernel_rfl)|skip)
   refine ⟨⟨k+1,hlt⟩,by show has.length - (k+1) < has.length - k;omega, ?_⟩
   (refine Le.ok some [] ?_;constructor;all_goals (try simp only [vle,vkt,seval,ZT]))
   all_goals simp [Qa7,e9]
  ·have hk:k=has.length:=by omega
   subst hk
   repeat' first|(apply nx;with_reducible constructor)|apply jq (by decide)|((first|apply jz env|apply jk);intro Q hQ;simp only [vkt,seval,wK,ite_and];(repeat' first|with_reducible assumption|apply jw|intro hp);all_goals first|(apply hQ;clear hQ Q)|omega|assumption|rfl|(apply jx;kernel_rfl)|skip)
   (simp only [vrt,results107,vkt,seval,wK,ZT];refine Fin.ok some [] ?_ ?_ ?_ ?_ ?_ rfl;all_goals (try simp only [vle,vkt,seval]))
   all_goals simp
def p103 (S:St):List AV->Option Pk
 |[.ptr t 0,.v (.int .i64 d)]=>match S.h t with
  |some (.cells [.sl cs,.sl rs,.sl ss,.sl es,.row r])=>match S.h r with
   |some (.row 3 1 hs)=>some { pre:=isL cs rs ss es/\hs=(hs.map qL).map qj/\WOk (zR cs rs ss es) d (hs.map qL),hs:=[t,r],ar:=[.ptr 0 0,.v (.int .i64 d)],L0:=[.cells [.sl cs,.sl rs,.sl ss,.sl es,.row 1],.row 3 1 hs],v:=aSh (shQ (Qv (zR cs rs ss es) d (hs.map qL) (hs.map qL).length)),L1:=[some (.cells [.sl cs,.sl rs,.sl ss,.sl es,.row 1]),some (.row 3 1 hs)] }
   |_=>none
  |_=>none
 |_=>none
def Qit {cs rs ss es:List (List DV)} (h:isL cs rs ss es):qU (zR cs rs ss es)=[.sl cs,.sl rs,.sl ss,.sl es]:=by
 simp only [qU,zR,<- h.1,<- h.2.1,<- h.2.2.1,<- h.2.2.2]
def e103 {A:Frm->Prop}:qf A prog 107 (fnE p103):=jb fun S bs q h hp=>by
 unfold p103 at h;split at h
 ·split at h
  ·split at h
   ·rename_i t d _ cs rs ss es r _ _ hs _
    cases h;have:=QgO (zR cs rs ss es) d (hs.map qL) hp.2.2
    simp only [vS,Q8,Qit hp.1,<- hp.2.1] at this;exact this
   ·cases h
  ·cases h
 ·cases h
def Qfy {y:Int} (h0:0<=y) (h1:y < 4294967296):IntKind.wrap .u64 (((BitVec.ofInt 64 y &&& BitVec.ofInt 64 4294967295).toNat:Nat):Int)=y:=by
 have e:(BitVec.ofInt 64 y &&& BitVec.ofInt 64 4294967295).toNat=y.toNat:=by
  rw [BitVec.toNat_and,BitVec.toNat_ofInt,BitVec.toNat_ofInt];have:(4294967295 % (2 ^ 64:Int)).toNat=2 ^ 32 - 1:=by decide
  rw [show ((2 ^ 64:Nat):Int)=2 ^ 64 by rfl,this,Nat.and_two_pow_sub_one_eq_mod]
  rw [Int.emod_eq_of_lt h0 (by omega),bY (by omega)]
 rw [e]
 simp [IntKind.wrap,IntKind.bits,IntKind.signed]
 omega
def QhG {y:Int} (h0:0<=y) (h1:y < 4294967296):Int.fdiv y 4294967296=0:=by
 rw [Int.fdiv_eq_ediv_of_nonneg _ (by decide)];exact Int.ediv_eq_zero_of_lt h0 h1
def Qj9 {y:Int} (h0:0<=y) (h1:y < 18446744073709551616):IntKind.wrap .u64 y=y:=by
 simp [IntKind.wrap,IntKind.bits,IntKind.signed];omega
def aU (n:Int):AV:=.v (.int .u64 n)
def aUi (n:Int):AV:=.v (.int .u64 n)
def YT:=jw @ty90 @QbJ.eq_1
def QaL:=jw @aU.eq_1 (jw @aUi.eq_1 (jw @aI.eq_1 (@aB.eq_1)))
def Qg9 (y:Int) (h0:0<=y) (h1:y < 1000000):FnV prog 202 [aUi 1,aUi y] (.tup [aUi 0,aUi y]):=by
 have env:=qx (A:=fun _=>True) kN
 refine kV (Fn0 func202 rfl (fun vs w=>by kernel_rfl) (by kernel_rfl)) (by simp) (by simp [AV.ids,aUi]) ?_
 have a0:IntKind.wrap .u64 (((BitVec.ofInt (IntKind.bits .u64) 0 &&& BitVec.ofInt (IntKind.bits .u64) 4294967295).toNat:Nat):Int)=0:=Qfy (y:=0) (by decide) (by decide)
 have a1:IntKind.wrap .u64 (((BitVec.ofInt (IntKind.bits .u64) 1 &&& BitVec.ofInt (IntKind.bits .u64) 4294967295).toNat:Nat):Int)=1:=Qfy (y:=1) (by decide) (by decide)
 have a2:IntKind.wrap .u64 (((BitVec.ofInt (IntKind.bits .u64) y &&& BitVec.ofInt (IntKind.bits .u64) 4294967295).toNat:Nat):Int)=y:=Qfy h0 (by omega)
 have s0:Int.fdiv 0 (2 ^ min 32 (IntKind.bits .u64))=0:=QhG (y:=0) (by decide) (by decide)
 have s1:Int.fdiv 1 (2 ^ min 32 (IntKind.bits .u64))=0:=QhG (y:=1) (by decide) (by decide)
 have s2:Int.fdiv y (2 ^ min 32 (IntKind.bits .u64))=0:=QhG h0 (by omega)
 have w0:IntKind.wrap .u64 0=0:=by decide
 have w1:IntKind.wrap .u64 1=1:=by decide
 have w2:=Qj9 h0 (by omega)
 repeat' first|(apply nx;with_reducible constructor)|apply jq (by decide)|((first|apply jz env|apply jk);intro Q hQ;simp only [vkt,seval,YT,QaL,a0,a1,a2,s0,s1,s2,w0,w2,Int.one_mul,Int.zero_mul,Int.mul_zero,Int.add_zero,ite_and];(repeat' first|with_reducible assumption|apply jw|intro hp);all_goals first|(apply hQ;clear hQ Q)|omega|assumption|rfl|(apply jx;kernel_rfl)|skip)
 (simp only [vrt,results202,vkt,seval,QaL];refine Fin.val rfl ?_;(try simp only [AV.le,AV.leL]))
 all_goals simp
def Kz:List AV->Prop × AV
 |[.v (.int .u64 x),.v (.int .u64 y)]=>(x=1/\0<=y/\y < 1000000,.tup [.v (.int .u64 0),.v (.int .u64 y)])
 |_=>(False,.junk)
def e150 {A:Frm->Prop}:qf A prog 202 (zq true Kz):=qD fun vs hv h=>by
 clear hv;unfold Kz at h ⊢
 split at h
 ·obtain ⟨rfl,h1,h2⟩:=h
  exact ⟨by simp [AV.plain,AV.plainL],fun _=>by simp [AV.flat,AV.flatL],Qg9 _ h1 h2⟩
 ·exact h.elim
def Qal:=jw @aU.eq_1 (jw @aUi.eq_1 (jw @aI.eq_1 (jw @aB.eq_1 (jw @Kz.eq_1 (@Kz.eq_2)))))
def Qlu (y:Int) (h0:0<=y) (h1:y < 1000000):FnV prog 161 [aUi 1,aUi y] (.tup [aUi 0,aUi y]):=by
 have env:=qx (A:=fun _=>True) (kC e150 kN)
 refine kV (Fn0 func161 rfl (fun vs w=>by kernel_rfl) (by kernel_rfl)) (by simp) (by simp [AV.ids,aUi]) ?_
 repeat' first|(apply nx;with_reducible constructor)|apply jq (by decide)|((first|apply jz env|apply jk);intro Q hQ;simp only [vkt,seval,Qal,ite_and];(repeat' first|with_reducible assumption|apply jw|intro hp);all_goals first|(apply hQ;clear hQ Q)|omega|assumption|rfl|(apply jx;kernel_rfl)|skip)
 (simp only [vrt,results161,vkt,seval,Qal];refine Fin.val rfl ?_;(try simp only [AV.le,AV.leL]))
 all_goals simp
def e134 {A:Frm->Prop}:qf A prog 161 (zq true Kz):=qD fun vs hv h=>by
 clear hv;unfold Kz at h ⊢
 split at h
 ·obtain ⟨rfl,h1,h2⟩:=h
  exact ⟨by simp [AV.plain,AV.plainL],fun _=>by simp [AV.flat,AV.flatL],Qlu _ h1 h2⟩
 ·exact h.elim
def Zt (r z:List DV) (m n:Nat):List (List DV):=List.replicate m r++List.replicate (n - m) z
def Qbk {r z:List DV} {m n:Nat} (h:m<=n):(Zt r z m n).length=n:=by simp [Zt];omega
def ZK {r z:List DV} {m n:Nat}:(Zt r z m n).take m=List.replicate m r:=by simp [Zt]
def Rn {r z:List DV} {m n c:Nat} (hm:m<=n) (hc:c=min m (n - m)):(Zt r z m n).take m++(List.replicate m r).take c++(Zt r z m n).drop (m+c)=Zt r z (m+c) n:=by
 rw [ZK];simp only [Zt,List.take_replicate,List.drop_append,List.drop_replicate,bK]
 rw [show min c m=c by omega,show m - (m+c)=0 by omega,show m+c - m=c by omega]
 simp only [List.replicate_zero,bq,List.replicate_append_replicate];rw [show n - m - c=n - (m+c) by omega]
def Xl {r z:List DV} {n:Nat} (h:1<=n):(List.replicate n z).take 0++[r].take (min 1 n)++(List.replicate n z).drop (0+min 1 n)=Zt r z 1 n:=by
 rw [show min 1 n=1 by omega];simp [Zt]
def Qc4 {k m:Nat} {r:List DV} (h:r.length=k):zK k (List.replicate m r)=True:=eq_true fun x hx=>by rw [db hx,h]
def QfR {n:Int} (h0:0<=n) (h1:n < 1000000):IntKind.wrap .u64 n=n/\IntKind.wrap .i64 n=n:=⟨Qj9 h0 (by omega),wrap64 (by omega) (by omega)⟩
def repS (e k:Nat) (r z:List DV) (n m:Nat) (x:AV):St:={ t:=asg [(0,x),(1,aI n),(4,.nil),(7,.row 0),(8,aI m)],h:=qg [(0,.row e k (Zt r z m n))],n:=1 }
def jW:=jw @ty3 (jw @ty9 (jw @jh (jw @ty93 (jw @ti3.eq_1 (jw @ti9.eq_1 (jw @jc.eq_1 @Qhn.eq_1))))))
def YH:=jw @aU.eq_1 (jw @aUi.eq_1 (jw @aI.eq_1 (jw @aB.eq_1 (jw @Kz.eq_1 (jw @Kz.eq_2 (@repS.eq_1))))))
def rep87 (r:List DV) (n:Nat) (hr:r.length=1) (h1:1<=n) (h2:n<=2000):Fn noB prog 113 [.sl [r],aI n] noH (.row 0) (qg [(0,.row 3 1 (List.replicate n r))]) 0:=by
 have env:=qx (A:=fun _=>True) (kC e134 kN)
 refine kV (Fn0 func113 rfl (fun vs w=>by kernel_rfl) (by kernel_rfl)) (by simp) (by simp [AV.ids,aI]) ?_
 obtain ⟨w1,w2⟩:=QfR (n:=(n:Int)) (by omega) (by omega)
 have w3:IntKind.wrap .u64 1=1:=by decide
 have c1:¬ ((n:Int) < 0):=by omega
 have c2:¬ ((9223372036854775807:Int) < n):=by omega
 have b1:((8:Nat):Int) * n<=140737488355328:=by omega
 have b2:(n:Int)<=maxLen:=by
   have:(2000:Nat)<=maxLen:=by decide
   omega
 repeat' first|(apply nx;with_reducible constructor)|apply jq (by decide)|((first|apply jz env|apply jk);intro Q hQ;simp only [vkt,seval,jW,YH,bK,Option.getD_none,w1,w2,w3,c1,c2,hr,ite_and];(repeat' first|with_reducible assumption|apply jw|intro hp);all_goals first|(apply hQ;clear hQ Q)|omega|assumption|rfl|(apply jx;kernel_rfl)|skip)
 refine qh (fun m:{ m:Nat // 1<=m/\m<=n }=>repS 3 1 r [.v (.int .i64 0)] n m.1 (.sl [r])) (fun m=>n - m.1) ⟨1,ag _,h1⟩ ?_ fun ⟨m,hm1,hm2⟩=>?_
 ·(refine Le.ok some [] ?_;constructor;all_goals (try simp only [vle,vkt,seval,YH]))
  all_goals (first|(simp;omega)|(have:=Xl (r:=r) (z:=[.v (.int .i64 0)]) h1;simp at this ⊢;first|exact this|(rw [<- this];simp)|omega))
 ·have f1:(Zt r [.v (.int .i64 0)] m n).length=n:=Qbk hm2
  have f2:List.take m (Zt r [.v (.int .i64 0)] m n)=List.replicate m r:=ZK;have f3:zK 1 (List.replicate m r)=True:=Qc4 hr
  have f4:=Rn (r:=r) (z:=[.v (.int .i64 0)]) hm2 (c:=min m (n - m)) rfl;have f5:List.take m (List.drop 0 (Zt r [.v (.int .i64 0)] m n))=List.replicate m r:=ZK
  rw [f2] at f4
  repeat' first|(apply nx;with_reducible constructor)|apply jq (by decide)
  (apply jz env;intro Q hQ;simp only [vkt,seval,jW,YH,f1,ite_and];(repeat' first|with_reducible assumption|apply jw|intro hp);all_goals first|(apply hQ;clear hQ Q)|omega|assumption|rfl|(apply jx;kernel_rfl)|skip)
  repeat' first|(apply nx;with_reducible constructor)|apply jq (by decide)
  (refine zk (by simp only [vkt,seval];rfl) (fun h=>?_) (fun h=>?_) <;> (try simp only [vki] at h))
  ·have hlt:m < n:=by omega
   have hmi:(m:Int) < (n:Int):=by omega
   have e9:IntKind.wrap .i64 ((m:Int)+((min m (n - m):Nat):Int))=((m+min m (n - m):Nat):Int):=by rw [wrap64 (by omega) (by omega)];omega
   repeat' first|(apply nx;with_reducible constructor)|apply jq (by decide)|((first|apply jz env|apply jk);intro Q hQ;simp only [vkt,seval,jW,bK,bA,f1,f2,f3,hmi,ite_and];(repeat' first|with_reducible assumption|apply jw|intro hp);all_goals first|(apply hQ;clear hQ Q)|omega|assumption|rfl|(apply jx;kernel_rfl)|skip)
   refine ⟨⟨m+min m (n - m),by omega,by omega⟩,by show n - (m+min m (n - m)) < n - m;omega, ?_⟩
   (refine Le.ok some [] ?_;constructor;all_goals (try simp only [vle,vkt,seval,YH]))
   all_goals (first|(simp [e9];done)|(simp only [f4];done)|(rw [<- f4];simp))
  ·have hmn:m=n:=by omega
   subst hmn;have f6:Zt r [.v (.int .i64 0)] m m=List.replicate m r:=by simp [Zt]
   repeat' first|(apply nx;with_reducible constructor)|apply jq (by decide)|((first|apply jz env|apply jk);intro Q hQ;simp only [vkt,seval,ite_and];(repeat' first|with_reducible assumption|apply jw|intro hp);all_goals first|(apply hQ;clear hQ Q)|omega|assumption|rfl|(apply jx;kernel_rfl)|skip)
   (simp only [vrt,results113,vkt,seval];refine Fin.ok some [] ?_ ?_ ?_ ?_ ?_ rfl;all_goals (try simp only [vle,vkt,seval]))
   all_goals simp [f6]
end Go.Sym.B
